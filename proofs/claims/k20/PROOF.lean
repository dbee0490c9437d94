import PyProof.Rows.All
import Wide.All
import OpenK.AllK
import Wide.FinOn
import HandS.ForMost
import HandS.Exc
import HandS.Deep
import HandS.TupAny
import HandS.Walk
import HandS.IsInst
import HandS.NoneIn
import HandS.More
import HandS.AnyAll
import KE.KeyNested
import HandS.CallSlots
import HandS.ExcOwn
import HandS.Ends
import HandS.HeadEnd
import HandS.Flow
import HandS.RaiseMore
import HandS.WordsDict
import HandS.Zip
import KE.GoesEnum
import HandS.GenList
import HandS.EndTab
import HandS.HeadHook2
import HandS.EndBits
import HandS.HeadHook4
import HandS.Head2
import KE.SortData
import HandS.Text
import HandS.FStr
import HandS.Dict
import HandS.Small
import HandS.TryOnly
import PySem.Challenge.RW_matchgraph_k20_machine_runs
section
set_option maxHeartbeats 0
set_option linter.all false
namespace Ev
def SL : Nat := 16777216

inductive D where
  | non | bl (b : Bool) | int (i : Int) | str (s : String) | tup (ds : List D) | lst (ds : List D)
deriving Inhabited

inductive Ky where
  | i (n : Int) | s (x : String)
deriving DecidableEq, Inhabited
inductive R where
  | d (x : D) | p (n : Nat) | dic (kvs : List (Ky × R)) | ins (c : String) (fs : List (String × R)) | ls (rs : List R) | scr (ns : List Int) | rep (x : D)
deriving Inhabited

inductive Cell where
  | lst (ds : List D) | dic (kvs : List (Ky × R)) | ins (c : String) (fs : List (String × R)) | dn (kvs : List (D × D)) | dead
abbrev Mem := List Cell

inductive Sl where
  | un | v (r : R) | own (rs : List R) | odic (kvs : List (Ky × R))
abbrev Env := List Sl

structure Exn where
  cls : String
  fs : List (String × R)

inductive Out (α : Type) where
  | ok (a : α) (μ : Mem) | exn (x : Exn) (μ : Mem) | no

@[inline] def Out.bind {α β : Type} (o : Out α) (f : α → Mem → Out β) : Out β :=
  match o with
  | .ok a μ => f a μ
  | .exn x μ => .exn x μ
  | .no => .no
@[simp] theorem bind_ok {α β : Type} (a : α) (μ : Mem) (f : α → Mem → Out β) : (Out.ok a μ).bind f = f a μ := rfl
@[simp] theorem bind_exn {α β : Type} (x : Exn) (μ : Mem) (f : α → Mem → Out β) : (Out.exn x μ : Out α).bind f = .exn x μ := rfl
@[simp] theorem bind_no {α β : Type} (f : α → Mem → Out β) : (Out.no : Out α).bind f = .no := rfl
theorem bind_assoc {α β γ : Type} (o : Out α) (f : α → Mem → Out β) (g : β → Mem → Out γ) : (o.bind f).bind g = o.bind fun a μ => (f a μ).bind g := by cases o <;> rfl
theorem bind_eq_ok {α β : Type} {o : Out α} {f : α → Mem → Out β} {b : β} {μ : Mem} (h : o.bind f = .ok b μ) : ∃ a μ1, o = .ok a μ1 ∧ f a μ1 = .ok b μ := by
  cases o with
  | ok a μ1 => exact ⟨a, μ1, rfl, h⟩
  | exn x μ1 => cases h
  | no => cases h

mutual
def D.eqv : D → D → Bool
  | .non, .non => true
  | .bl a, .bl b => a == b
  | .bl a, .int j => (if a then 1 else 0) == j
  | .int i, .bl b => i == (if b then 1 else 0)
  | .int i, .int j => i == j
  | .str x, .str y => x == y
  | .lst xs, .lst ys => D.eqvL xs ys
  | .tup xs, .tup ys => D.eqvL xs ys
  | .non, .bl _ | .non, .int _ | .non, .str _ | .non, .lst _ | .non, .tup _ => false
  | .bl _, .non | .bl _, .str _ | .bl _, .lst _ | .bl _, .tup _ => false
  | .int _, .non | .int _, .str _ | .int _, .lst _ | .int _, .tup _ => false
  | .str _, .non | .str _, .bl _ | .str _, .int _ | .str _, .lst _ | .str _, .tup _ => false
  | .lst _, .non | .lst _, .bl _ | .lst _, .int _ | .lst _, .str _ | .lst _, .tup _ => false
  | .tup _, .non | .tup _, .bl _ | .tup _, .int _ | .tup _, .str _ | .tup _, .lst _ => false
def D.eqvL : List D → List D → Bool
  | [], [] => true
  | x :: xs, y :: ys => D.eqv x y && D.eqvL xs ys
  | [], _ :: _ => false
  | _ :: _, [] => false
end
mutual
def D.dep : D → Nat
  | .tup xs => D.depL xs + 1
  | .lst xs => D.depL xs + 1
  | .non | .bl _ | .int _ | .str _ => 0
def D.depL : List D → Nat
  | [] => 0
  | x :: xs => max (D.dep x) (D.depL xs)
end
mutual
def D.same : D → D → Bool
  | .non, .non => true
  | .bl a, .bl b => a == b
  | .int i, .int j => i == j
  | .str x, .str y => x == y
  | .lst xs, .lst ys => D.sameL xs ys
  | .tup xs, .tup ys => D.sameL xs ys
  | _, _ => false
def D.sameL : List D → List D → Bool
  | [], [] => true
  | x :: xs, y :: ys => D.same x y && D.sameL xs ys
  | _, _ => false
end
mutual
theorem D.eq_of_same : ∀ {x y : D}, D.same x y = true → x = y
  | .non, y, h => by cases y <;> simp [D.same] at h ⊢
  | .bl _, y, h => by cases y <;> simp [D.same] at h ⊢; exact h
  | .int _, y, h => by cases y <;> simp [D.same] at h ⊢; exact h
  | .str _, y, h => by cases y <;> simp [D.same] at h ⊢; exact h
  | .tup xs, y, h => by cases y <;> simp [D.same] at h ⊢; exact D.eqL_of_same h
  | .lst xs, y, h => by cases y <;> simp [D.same] at h ⊢; exact D.eqL_of_same h
theorem D.eqL_of_same : ∀ {xs ys : List D}, D.sameL xs ys = true → xs = ys
  | [], [], _ => rfl
  | [], _ :: _, h => by simp [D.sameL] at h
  | _ :: _, [], h => by simp [D.sameL] at h
  | x :: xs, y :: ys, h => by
    simp only [D.sameL, Bool.and_eq_true] at h
    rw [D.eq_of_same h.1, D.eqL_of_same h.2]
end
mutual
theorem D.same_self : ∀ x : D, D.same x x = true
  | .non => by simp [D.same]
  | .bl _ => by simp [D.same]
  | .int _ => by simp [D.same]
  | .str _ => by simp [D.same]
  | .tup xs => by simp only [D.same]; exact D.sameL_self xs
  | .lst xs => by simp only [D.same]; exact D.sameL_self xs
theorem D.sameL_self : ∀ xs : List D, D.sameL xs xs = true
  | [] => by simp [D.sameL]
  | x :: xs => by simp [D.sameL, D.same_self x, D.sameL_self xs]
end
mutual
def D.cost : D → Nat
  | .non => 4
  | .bl _ => 5
  | .int i => if i.natAbs < 1000000000000 then 13 else if i.natAbs.log2 < 1920 then 1921 else SL + 1
  | .str s => 10 * s.length + 2
  | .tup ds => D.costL ds + 3
  | .lst ds => D.costL ds + 3
def D.costL : List D → Nat
  | [] => 0
  | d :: ds => D.cost d + 2 + D.costL ds
end
mutual
def D.isKy : D → Bool
  | .tup xs => D.isKyL xs
  | .lst _ => false
  | .non | .bl _ | .int _ | .str _ => true
def D.isKyL : List D → Bool
  | [] => true
  | x :: xs => D.isKy x && D.isKyL xs
end
def keyN : D → Bool
  | .tup xs => D.isKyL xs && decide (D.depL xs + 1 ≤ 8)
  | _ => false
def valN (kvs : List (D × D)) (k : D) : Option D := (kvs.find? fun kv => kv.1.eqv k).map (·.2)
def putN (kvs : List (D × D)) (k v : D) : List (D × D) := if kvs.any (fun kv => kv.1.eqv k) then kvs.map fun kv => if kv.1.eqv k then (kv.1, v) else kv else kvs ++ [(k, v)]
def EqDep : Nat := 64
def eqD (x y : D) : Option Bool := if min x.dep y.dep ≤ EqDep then some (x.eqv y) else none

def valsR : List R → Option (List D)
  | [] => some []
  | .d x :: rs => (valsR rs).map (x :: ·)
  | _ :: _ => none
@[simp] theorem valsR_nil : valsR [] = some [] := rfl
@[simp] theorem valsR_cons (x : D) (rs : List R) : valsR (.d x :: rs) = (valsR rs).map (x :: ·) := rfl
@[simp] theorem valsR_map {α : Type} (f : α → D) : ∀ xs : List α, valsR (xs.map fun x => R.d (f x)) = some (xs.map f)
  | [] => rfl
  | x :: xs => by simp [valsR_map f xs]
def mkL (rs : List R) : R := match valsR rs with
  | some ds => .d (.lst ds)
  | none => .ls rs
def vw (μ : Mem) : R → R
  | .p n => match μ[n]? with
    | some (.lst ds) => .d (.lst ds)
    | some (.dic kvs) => .dic kvs
    | _ => .p n
  | r => r
theorem vw_lst {μ : Mem} {n : Nat} {ds : List D} (h : μ[n]? = some (.lst ds)) : vw μ (.p n) = .d (.lst ds) := by simp only [vw, h]
theorem vw_cdic {μ : Mem} {n : Nat} {ds} (h : μ[n]? = some (.dic ds)) : vw μ (.p n) = .dic ds := by simp only [vw, h]
theorem vw_cins {μ : Mem} {n : Nat} {c fs} (h : μ[n]? = some (.ins c fs)) : vw μ (.p n) = .p n := by simp only [vw, h]
theorem vw_dn {μ : Mem} {n : Nat} {c} (h : μ[n]? = some (.dn c)) : vw μ (.p n) = .p n := by simp only [vw, h]
theorem vw_dead {μ : Mem} {n : Nat} (h : μ[n]? = some .dead) : vw μ (.p n) = .p n := by simp only [vw, h]
theorem vw_none {μ : Mem} {n : Nat} (h : μ[n]? = none) : vw μ (.p n) = .p n := by simp only [vw, h]
@[simp] theorem vw_ins (μ : Mem) (c fs) : vw μ (.ins c fs) = .ins c fs := rfl
@[simp] theorem vw_d (μ : Mem) (x : D) : vw μ (.d x) = .d x := rfl
@[simp] theorem vw_dic (μ : Mem) (x) : vw μ (.dic x) = .dic x := rfl
@[simp] theorem vw_rep (μ : Mem) (x) : vw μ (.rep x) = .rep x := rfl
@[simp] theorem vw_scr (μ : Mem) (x) : vw μ (.scr x) = .scr x := rfl
@[simp] theorem vw_ls (μ : Mem) (x) : vw μ (.ls x) = .ls x := rfl

def keyOf : D → Option Ky
  | .int i => some (.i i)
  | .str x => some (.s x)
  | _ => none
def valK (kvs : List (Ky × R)) (k : Ky) : Option R := (kvs.find? fun kv => decide (kv.1 = k)).map (·.2)
def putK (kvs : List (Ky × R)) (k : Ky) (v : R) : List (Ky × R) :=
  if kvs.any (fun kv => decide (kv.1 = k)) then kvs.map fun kv => if kv.1 = k then (kv.1, v) else kv else kvs ++ [(k, v)]
def lift {α : Type} (o : Option α) (μ : Mem) : Out α := match o with
  | some a => .ok a μ
  | none => .no
@[simp] theorem lift_some {α : Type} (a : α) (μ : Mem) : lift (some a) μ = .ok a μ := rfl
@[simp] theorem lift_none {α : Type} (μ : Mem) : lift (none : Option α) μ = .no := rfl

def small (i : Int) : Bool := decide (-18446744073709551616 < i) && decide (i < 18446744073709551616)
def addR : R → R → Option R
  | .d (.int a), .d (.int b) => some (.d (.int (a + b)))
  | .d (.str a), .d (.str b) => if a.length + b.length ≤ SL then some (.d (.str (a ++ b))) else none
  | .d (.lst a), .d (.lst b) => if a.length + b.length ≤ SL then some (.d (.lst (a ++ b))) else none
  | .d (.tup a), .d (.tup b) => if a.length + b.length ≤ SL then some (.d (.tup (a ++ b))) else none
  | _, _ => none
def addL : R → R → Option R
  | .d (.lst a), .d (.lst b) => if a.length + b.length ≤ SL then some (.d (.lst (a ++ b))) else none
  | _, _ => none
def subR : R → R → Option R
  | .d (.int a), .d (.int b) => some (.d (.int (a - b)))
  | _, _ => none
def mulR : R → R → Option R
  | .d (.int a), .d (.int b) => if small a || small b then some (.d (.int (a * b))) else none
  | .d (.lst a), .d (.int k) => if small k && decide (-9223372036854775808 ≤ k) && decide (k < 9223372036854775808) && decide (a.length * k.toNat ≤ SL) then some (.d (.lst (List.replicate k.toNat a).flatten)) else none
  | _, _ => none
def modR : R → R → Option R
  | .d (.int a), .d (.int b) => if 0 < b then some (.d (.int (a % b))) else none
  | _, _ => none
def fdivR : R → R → Option R
  | .d (.int a), .d (.int b) => if 0 < b ∧ b < 1073741824 then some (.d (.int (a / b))) else none
  | _, _ => none
def powR : R → R → Option R
  | .d (.int a), .d (.int b) => if 0 ≤ b ∧ b ≤ 1000000 ∧ small a then some (.d (.int (a ^ b.toNat))) else none
  | _, _ => none
def cmpR (f : Int → Int → Bool) : R → R → Option Bool
  | .d (.int a), .d (.int b) => some (f a b)
  | _, _ => none
def ltR := cmpR fun a b => decide (a < b)
def leR := cmpR fun a b => decide (a ≤ b)
def gtR := cmpR fun a b => decide (b < a)
def geR := cmpR fun a b => decide (b ≤ a)
def eqR : R → R → Option Bool
  | .d x, .d y => eqD x y
  | .rep x, .rep y => if x.same y then some true else none
  | _, _ => none
def neR (x y : R) : Option Bool := (eqR x y).map not
def isNonR : R → Bool
  | .d .non => true
  | _ => false
def inR : R → R → Option Bool
  | .d x, .d (.lst ys) => if min x.dep (D.depL ys) ≤ EqDep then some (ys.any fun y => y.eqv x) else none
  | .d x, .d (.tup ys) => if min x.dep (D.depL ys) ≤ EqDep then some (ys.any fun y => y.eqv x) else none
  | .d x, .dic kvs => (keyOf x).map fun k => (valK kvs k).isSome
  | _, _ => none
def truthR : R → Option Bool
  | .d .non => some false
  | .d (.bl b) => some b
  | .d (.int i) => some (i != 0)
  | .d (.str s) => if s.length ≤ SL then some ((s.length : Int) != 0) else none
  | .d (.tup ds) => some (!ds.isEmpty)
  | .d (.lst ds) => some (!ds.isEmpty)
  | .dic kvs => some (!kvs.isEmpty)
  | .ls rs => some (!rs.isEmpty)
  | .scr ns => some (!ns.isEmpty)
  | _ => none
def ixN (n : Nat) (i : Int) : Option Nat := if 0 ≤ i then (if i < n then some i.toNat else none) else if -(n : Int) ≤ i then some (i + n).toNat else none
def atI {α : Type} (xs : List α) (i : Int) : Option α := (ixN xs.length i).bind fun j => xs[j]?
def idxR : R → R → Option R
  | .d (.tup ds), .d (.int i) => (atI ds i).map .d
  | .d (.lst ds), .d (.int i) => (atI ds i).map .d
  | .ls rs, .d (.int i) => atI rs i
  | .scr ns, .d (.int i) => (atI ns i).map fun n => .d (.int n)
  | .dic kvs, .d x => (keyOf x).bind (valK kvs)
  | .d (.str s), .d (.int i) => if s.length ≤ SL then (atI s.toList i).map fun c => .d (.str (String.ofList [c])) else none
  | _, _ => none
def sIx (n d : Nat) : Option Int → Nat
  | none => d
  | some k => if k < 0 then (k + n).toNat else min k.toNat n
def cut {α : Type} (xs : List α) (lo hi : Option Int) : List α := (xs.drop (sIx xs.length 0 lo)).take (sIx xs.length xs.length hi - sIx xs.length 0 lo)
def slcR (r : R) (lo hi : Option Int) : Option R := match r with
  | .d (.tup ds) => some (.d (.tup (cut ds lo hi)))
  | .d (.lst ds) => some (.d (.lst (cut ds lo hi)))
  | _ => none

abbrev E := Env → Mem → Out R
abbrev T := Env → Mem → Out Bool
abbrev Fn := String → List R → Mem → Out R

@[irreducible] def eV (i : Nat) (ρ : Env) (μ : Mem) : Out R := match ρ[i]? with
  | some (.v r) => .ok r μ
  | _ => .no
@[irreducible] def eB (i : Nat) (ρ : Env) (μ : Mem) : Out R := match ρ[i]? with
  | some (.own rs) => .ok (mkL rs) μ
  | some (.odic kvs) => .ok (.dic kvs) μ
  | _ => .no
@[irreducible] def eC (x : D) (_ : Env) (μ : Mem) : Out R := .ok (.d x) μ
def evs : List E → Env → Mem → Out (List R)
  | [], _, μ => .ok [] μ
  | e :: es, ρ, μ => (e ρ μ).bind fun r μ => (evs es ρ μ).bind fun rs μ => .ok (r :: rs) μ
@[simp] theorem evs_nil (ρ : Env) (μ : Mem) : evs [] ρ μ = .ok [] μ := rfl
@[simp] theorem evs_cons (e : E) (es : List E) (ρ : Env) (μ : Mem) : evs (e :: es) ρ μ = (e ρ μ).bind fun r μ => (evs es ρ μ).bind fun rs μ => .ok (r :: rs) μ := rfl
theorem evs_len : ∀ {es : List E} {ρ : Env} {μ : Mem} {rs : List R} {μ' : Mem}, evs es ρ μ = .ok rs μ' → rs.length = es.length
  | [], _, _, _, _, h => by cases h; rfl
  | e :: es, ρ, μ, rs, μ', h => by
    rw [evs_cons] at h
    obtain ⟨r, μ1, h1, h2⟩ := bind_eq_ok h
    obtain ⟨rs', μ2, h3, h4⟩ := bind_eq_ok h2
    cases h4
    rw [List.length_cons, List.length_cons, evs_len h3]
@[irreducible] def eTup (es : List E) (ρ : Env) (μ : Mem) : Out R := (evs es ρ μ).bind fun rs μ => match valsR rs with
  | some ds => if ds.length ≤ SL then .ok (.d (.tup ds)) μ else .no
  | none => .no
@[irreducible] def eLst (es : List E) (ρ : Env) (μ : Mem) : Out R := (evs es ρ μ).bind fun rs μ => match valsR rs with
  | some ds => if ds.length ≤ SL then .ok (.d (.lst ds)) μ else .no
  | none => .no
@[irreducible] def eOp (f : R → R → Option R) (a b : E) (ρ : Env) (μ : Mem) : Out R := (a ρ μ).bind fun x μ => (b ρ μ).bind fun y μ => lift (f (vw μ x) (vw μ y)) μ
@[irreducible] def eNeg (a : E) (ρ : Env) (μ : Mem) : Out R := (a ρ μ).bind fun x μ => match x with
  | .d (.int i) => .ok (.d (.int (-i))) μ
  | _ => .no
@[irreducible] def tCmp (f : R → R → Option Bool) (a b : E) (ρ : Env) (μ : Mem) : Out Bool := (a ρ μ).bind fun x μ => (b ρ μ).bind fun y μ => lift (f (vw μ x) (vw μ y)) μ
@[irreducible] def tCh (f g : R → R → Option Bool) (a b c : E) (ρ : Env) (μ : Mem) : Out Bool := (a ρ μ).bind fun x μ => (b ρ μ).bind fun y μ => (lift (f (vw μ x) (vw μ y)) μ).bind fun k μ =>
  if k then (c ρ μ).bind fun z μ => lift (g (vw μ y) (vw μ z)) μ else .ok false μ
@[irreducible] def tIsN (a : E) (ρ : Env) (μ : Mem) : Out Bool := (a ρ μ).bind fun x μ => .ok (isNonR x) μ
@[irreducible] def tNotN (a : E) (ρ : Env) (μ : Mem) : Out Bool := (a ρ μ).bind fun x μ => .ok (!isNonR x) μ
@[irreducible] def eT (t : T) (ρ : Env) (μ : Mem) : Out R := (t ρ μ).bind fun b μ => .ok (.d (.bl b)) μ
@[irreducible] def tE (e : E) (ρ : Env) (μ : Mem) : Out Bool := (e ρ μ).bind fun x μ => lift (truthR (vw μ x)) μ
@[irreducible] def tAnd (a b : T) (ρ : Env) (μ : Mem) : Out Bool := (a ρ μ).bind fun k μ => if k then b ρ μ else .ok false μ
@[irreducible] def tOr (a b : T) (ρ : Env) (μ : Mem) : Out Bool := (a ρ μ).bind fun k μ => if k then .ok true μ else b ρ μ
@[irreducible] def tNot (a : T) (ρ : Env) (μ : Mem) : Out Bool := (a ρ μ).bind fun k μ => .ok (!k) μ
@[irreducible] def eAnd (a b : E) (ρ : Env) (μ : Mem) : Out R := (a ρ μ).bind fun x μ => match truthR (vw μ x) with
  | some true => b ρ μ
  | some false => .ok x μ
  | none => .no
@[irreducible] def eOr (a b : E) (ρ : Env) (μ : Mem) : Out R := (a ρ μ).bind fun x μ => match truthR (vw μ x) with
  | some false => b ρ μ
  | some true => .ok x μ
  | none => .no
@[irreducible] def eNot (a : E) (ρ : Env) (μ : Mem) : Out R := (a ρ μ).bind fun x μ => (lift (truthR (vw μ x)) μ).bind fun b μ => .ok (.d (.bl (!b))) μ
@[irreducible] def eIf (c : T) (a b : E) (ρ : Env) (μ : Mem) : Out R := (c ρ μ).bind fun k μ => if k then a ρ μ else b ρ μ
abbrev O := Env → Mem → Out (Option Int)
@[irreducible] def oN (_ : Env) (μ : Mem) : Out (Option Int) := .ok none μ
@[irreducible] def oE (e : E) (ρ : Env) (μ : Mem) : Out (Option Int) := (e ρ μ).bind fun x μ => match x with
  | .d (.int i) => .ok (some i) μ
  | _ => .no
@[irreducible] def eSlc (a : E) (lo hi : O) (ρ : Env) (μ : Mem) : Out R := (a ρ μ).bind fun x μ => (lo ρ μ).bind fun l μ => (hi ρ μ).bind fun h μ => lift (slcR (vw μ x) l h) μ
@[irreducible] def eIdx (a i : E) (ρ : Env) (μ : Mem) : Out R := eOp idxR a i ρ μ
@[irreducible] def eCall (C : Fn) (f : String) (es : List E) (ρ : Env) (μ : Mem) : Out R := (evs es ρ μ).bind fun rs μ => C f rs μ
@[irreducible] def eBi (f : List R → Option R) (es : List E) (ρ : Env) (μ : Mem) : Out R := (evs es ρ μ).bind fun rs μ => lift (f (rs.map (vw μ))) μ

def pairsR : List R → Option (List (Ky × R))
  | [] => some []
  | .d k :: v :: rs => (keyOf k).bind fun k => (pairsR rs).map fun l => (k, v) :: l
  | _ => none
def mergeK (kvs more : List (Ky × R)) : List (Ky × R) := more.foldl (fun acc kv => putK acc kv.1 kv.2) kvs
@[irreducible] def eDic (es : List E) (ρ : Env) (μ : Mem) : Out R := (evs es ρ μ).bind fun rs μ => match pairsR rs with
  | some kvs => if kvs.length ≤ 15 then .ok (.dic (mergeK [] kvs)) μ else .no
  | none => .no
def lenR : List R → Option R
  | [.d (.tup ds)] => some (.d (.int ds.length))
  | [.d (.lst ds)] => some (.d (.int ds.length))
  | [.ls rs] => some (.d (.int rs.length))
  | [.scr ns] => some (.d (.int ns.length))
  | [.dic kvs] => some (.d (.int kvs.length))
  | [.d (.str s)] => if s.length ≤ SL then some (.d (.int s.length)) else none
  | _ => none
def intR : List R → Option R
  | [.d (.int i)] => some (.d (.int i))
  | [.d (.bl b)] => some (.d (.int (if b then 1 else 0)))
  | _ => none
def tupleR : List R → Option R
  | [.d (.tup ds)] => some (.d (.tup ds))
  | [.d (.lst ds)] => some (.d (.tup ds))
  | _ => none
def listR : List R → Option R
  | [.d (.tup ds)] => some (.d (.lst ds))
  | [.d (.lst ds)] => some (.d (.lst ds))
  | _ => none
def intsD : List D → Option (List Int)
  | [] => some []
  | .int i :: ds => (intsD ds).map (i :: ·)
  | _ :: _ => none
def maxI (x : Int) : List Int → Int
  | [] => x
  | y :: ys => maxI (if y > x then y else x) ys
def minI (x : Int) : List Int → Int
  | [] => x
  | y :: ys => minI (if y < x then y else x) ys
def maxR : List R → Option R
  | [.d (.int a), .d (.int b)] => some (.d (.int (if b > a then b else a)))
  | [.d (.lst ds)] => match intsD ds with
    | some (x :: xs) => some (.d (.int (maxI x xs)))
    | _ => none
  | _ => none
def minR : List R → Option R
  | [.d (.int a), .d (.int b)] => some (.d (.int (if b < a then b else a)))
  | [.d (.lst ds)] => match intsD ds with
    | some (x :: xs) => some (.d (.int (minI x xs)))
    | _ => none
  | _ => none
def isB (T a : String) : Bool := a == T || (a == "bool" && T == "int")
def reprR : List R → Option R
  | [.d x] => if x.dep ≤ EqDep ∧ x.cost ≤ SL then some (.rep x) else none
  | _ => none

abbrev It := Env → Mem → Out (List R)
def itemsR : R → Option (List R)
  | .d (.tup ds) => some (ds.map .d)
  | .d (.lst ds) => some (ds.map .d)
  | .ls rs => some rs
  | .scr ns => some (ns.map fun n => .d (.int n))
  | _ => none
@[irreducible] def iE (e : E) (ρ : Env) (μ : Mem) : Out (List R) := (e ρ μ).bind fun x μ => lift (itemsR x) μ
def enumF (k : Nat) : List D → List R
  | [] => []
  | x :: xs => .d (.tup [.int k, x]) :: enumF (k + 1) xs
@[irreducible] def iEnum (e : E) (ρ : Env) (μ : Mem) : Out (List R) := (e ρ μ).bind fun x μ => match x with
  | .d (.tup ds) => .ok (enumF 0 ds) μ
  | .d (.lst ds) => .ok (enumF 0 ds) μ
  | _ => .no
def zipF : List D → List D → List R
  | x :: xs, y :: ys => .d (.tup [x, y]) :: zipF xs ys
  | _, _ => []
@[irreducible] def iZip (a b : E) (ρ : Env) (μ : Mem) : Out (List R) := (a ρ μ).bind fun x μ => (b ρ μ).bind fun y μ => match x, y with
  | .d (.lst xs), .d (.lst ys) => .ok (zipF xs ys) μ
  | .d (.tup xs), .d (.tup ys) => .ok (zipF xs ys) μ
  | _, _ => .no
def rangeF (lo : Int) : Nat → List R
  | 0 => []
  | n + 1 => .d (.int lo) :: rangeF (lo + 1) n
def inRange62 (i : Int) : Bool := decide (-4611686018427387904 ≤ i) && decide (i < 4611686018427387904)
@[irreducible] def iRange1 (a : E) (ρ : Env) (μ : Mem) : Out (List R) := (a ρ μ).bind fun x μ => match x with
  | .d (.int n) => if inRange62 n then .ok (rangeF 0 n.toNat) μ else .no
  | _ => .no
@[irreducible] def iRange2 (a b : E) (ρ : Env) (μ : Mem) : Out (List R) := (a ρ μ).bind fun x μ => (b ρ μ).bind fun y μ => match x, y with
  | .d (.int lo), .d (.int hi) => if inRange62 lo && inRange62 hi then .ok (rangeF lo (hi - lo).toNat) μ else .no
  | _, _ => .no

abbrev Tg := R → Env → Option Env
@[irreducible] def tgN (i : Nat) (r : R) (ρ : Env) : Option Env := some (ρ.set i (.v r))
def tgs : List Tg → List R → Env → Option Env
  | [], [], ρ => some ρ
  | t :: ts, r :: rs, ρ => (t r ρ).bind fun ρ => tgs ts rs ρ
  | _, _, _ => none
@[irreducible] def tgT (ts : List Tg) (r : R) (ρ : Env) : Option Env := match r with
  | .d (.tup ds) => tgs ts (ds.map .d) ρ
  | .d (.lst ds) => tgs ts (ds.map .d) ρ
  | _ => none

def Out.nx {α : Type} : Out α → Out α
  | .ok a μ => .ok a μ
  | .exn _ _ => .no
  | .no => .no
@[simp] theorem nx_ok {α : Type} (a : α) (μ : Mem) : (Out.ok a μ).nx = .ok a μ := rfl
@[simp] theorem nx_exn {α : Type} (a : Exn) (μ : Mem) : (Out.exn a μ : Out α).nx = .no := rfl
@[simp] theorem nx_no {α : Type} : (Out.no : Out α).nx = .no := rfl
theorem nx_eq_ok {α : Type} {o : Out α} {a : α} {μ : Mem} (h : o.nx = .ok a μ) : o = .ok a μ := by
  cases o with
  | ok b ν => exact h
  | exn e ν => cases h
  | no => cases h
def compL (t : Tg) (c : T) (elt : E) : List R → Env → Mem → Out (List R)
  | [], _, μ => .ok [] μ
  | x :: xs, ρ, μ => match t x ρ with
    | none => .no
    | some ρ1 => (c ρ1 μ).nx.bind fun k μ =>
      if k then (elt ρ1 μ).nx.bind fun y μ => (compL t c elt xs ρ μ).bind fun ys μ => .ok (y :: ys) μ
      else compL t c elt xs ρ μ
@[simp] theorem compL_nil (t : Tg) (c : T) (elt : E) (ρ : Env) (μ : Mem) : compL t c elt [] ρ μ = .ok [] μ := rfl
theorem compL_cons (t : Tg) (c : T) (elt : E) (x : R) (xs : List R) (ρ : Env) (μ : Mem) : compL t c elt (x :: xs) ρ μ = match t x ρ with
    | none => .no
    | some ρ1 => (c ρ1 μ).nx.bind fun k μ =>
      if k then (elt ρ1 μ).nx.bind fun y μ => (compL t c elt xs ρ μ).bind fun ys μ => .ok (y :: ys) μ
      else compL t c elt xs ρ μ := rfl
theorem compL_exn (t : Tg) (c : T) (elt : E) : ∀ (xs : List R) (ρ : Env) (μ : Mem) (e : Exn) (μ' : Mem), compL t c elt xs ρ μ ≠ .exn e μ'
  | [], _, _, _, _, h => by cases h
  | x :: xs, ρ, μ, e, μ', h => by
    rw [compL_cons] at h
    cases ht : t x ρ with
    | none => rw [ht] at h; cases h
    | some ρ1 =>
      rw [ht] at h
      dsimp only at h
      cases hc : c ρ1 μ with
      | no => rw [hc] at h; cases h
      | exn => rw [hc] at h; cases h
      | ok k μ2 =>
        rw [hc] at h
        cases k with
        | false => exact compL_exn t c elt xs ρ μ2 e μ' h
        | true =>
          cases he : elt ρ1 μ2 with
          | no => simp [he] at h
          | exn => simp [he] at h
          | ok y μ3 =>
            simp [he] at h
            cases hr : compL t c elt xs ρ μ3 with
            | no => rw [hr] at h; cases h
            | exn e2 μ4 => exact compL_exn t c elt xs ρ μ3 e2 μ4 hr
            | ok ys μ4 => rw [hr] at h; cases h
@[irreducible] def tYes (_ : Env) (μ : Mem) : Out Bool := .ok true μ
def wipeE (ρ : Env) : List Nat → Env
  | [] => ρ
  | v :: vs => (wipeE ρ vs).set v .un
@[irreducible] def eComp (own : List Nat) (t : Tg) (it : It) (c : T) (elt : E) (ρ : Env) (μ : Mem) : Out R := (it ρ μ).bind fun xs μ => (compL t c elt xs (wipeE ρ own) μ).bind fun ys μ =>
  if ys.length ≤ SL then .ok (mkL ys) μ else .no

def allL (k : Bool) (t : Tg) (elt : E) : List R → Env → Mem → Out Bool
  | [], _, μ => .ok k μ
  | x :: xs, ρ, μ => match t x ρ with
    | none => .no
    | some ρ1 => (elt ρ1 μ).nx.bind fun y μ => match y with
      | .d (.bl b) => if b = k then allL k t elt xs ρ μ else .ok b μ
      | _ => .no
@[simp] theorem allL_nil (k : Bool) (t : Tg) (elt : E) (ρ : Env) (μ : Mem) : allL k t elt [] ρ μ = .ok k μ := rfl
@[irreducible] def eAll (k : Bool) (own : List Nat) (t : Tg) (it : It) (elt : E) (ρ : Env) (μ : Mem) : Out R := (it ρ μ).bind fun xs μ => (allL k t elt xs (wipeE ρ own) μ).nx.bind fun b μ => .ok (.d (.bl b)) μ

inductive Fl where
  | nx (ρ : Env) | rt (r : R) | bk (ρ : Env) | ct (ρ : Env)
abbrev S := Env → Mem → Out Fl
@[irreducible] def sNil (ρ : Env) (μ : Mem) : Out Fl := .ok (.nx ρ) μ
@[irreducible] def sq (a b : S) (ρ : Env) (μ : Mem) : Out Fl := (a ρ μ).bind fun f μ => match f with
  | .nx ρ => b ρ μ
  | f => .ok f μ
@[irreducible] def sX (e : E) (ρ : Env) (μ : Mem) : Out Fl := (e ρ μ).bind fun _ μ => .ok (.nx ρ) μ
@[irreducible] def sAs (t : Tg) (e : E) (ρ : Env) (μ : Mem) : Out Fl := (e ρ μ).bind fun r μ => match t r ρ with
  | some ρ => .ok (.nx ρ) μ
  | none => .no
@[irreducible] def sAug (i : Nat) (f : R → R → Option R) (e : E) (ρ : Env) (μ : Mem) : Out Fl := match ρ[i]? with
  | some (.v x) => (e ρ μ).bind fun y μ => (lift (f x y) μ).bind fun z μ => .ok (.nx (ρ.set i (.v z))) μ
  | _ => .no
@[irreducible] def sPar (i j : Nat) (a b : E) (ρ : Env) (μ : Mem) : Out Fl := (a ρ μ).bind fun x μ => (b ρ μ).bind fun y μ => .ok (.nx ((ρ.set i (.v x)).set j (.v y))) μ
def iaddR : R → R → Option R
  | .d (.int a), .d (.int b) => some (.d (.int (a + b)))
  | .d (.str a), .d (.str b) => if a.length + b.length ≤ SL then some (.d (.str (a ++ b))) else none
  | _, _ => none
@[irreducible] def sOwn (i : Nat) (e : E) (ρ : Env) (μ : Mem) : Out Fl := (e ρ μ).bind fun r μ => match r with
  | .d (.lst ds) => .ok (.nx (ρ.set i (.own (ds.map .d)))) μ
  | .ls rs => .ok (.nx (ρ.set i (.own rs))) μ
  | .dic kvs => .ok (.nx (ρ.set i (.odic kvs))) μ
  | _ => .no
@[irreducible] def sCell (i : Nat) (e : E) (ρ : Env) (μ : Mem) : Out Fl := (e ρ μ).bind fun r μ => match r with
  | .d (.lst ds) => .ok (.nx (ρ.set i (.v (.p μ.length)))) (μ ++ [.lst ds])
  | _ => .no
@[irreducible] def sFrz (i : Nat) (ρ : Env) (μ : Mem) : Out Fl := match ρ[i]? with
  | some (.own rs) => .ok (.nx (ρ.set i (.v (mkL rs)))) μ
  | some (.odic kvs) => .ok (.nx (ρ.set i (.v (.dic kvs)))) μ
  | _ => .no
@[irreducible] def sApp (i : Nat) (e : E) (ρ : Env) (μ : Mem) : Out Fl := match ρ[i]? with
  | some (.own xs) => (e ρ μ).bind fun r μ => if xs.length < SL then .ok (.nx (ρ.set i (.own (xs ++ [r])))) μ else .no
  | _ => .no
def extR : R → Option (List R)
  | .d (.lst ds) => some (ds.map .d)
  | .d (.tup ds) => some (ds.map .d)
  | .ls ys => some ys
  | _ => none
@[irreducible] def sExt (i : Nat) (e : E) (ρ : Env) (μ : Mem) : Out Fl := match ρ[i]? with
  | some (.own xs) => (e ρ μ).bind fun r μ => match extR (vw μ r) with
    | some ys => if xs.length + ys.length ≤ SL then .ok (.nx (ρ.set i (.own (xs ++ ys)))) μ else .no
    | none => .no
  | _ => .no
@[irreducible] def sRev (i : Nat) (ρ : Env) (μ : Mem) : Out Fl := match ρ[i]? with
  | some (.own xs) => .ok (.nx (ρ.set i (.own xs.reverse))) μ
  | _ => .no
@[irreducible] def sSet (a i e : E) (ρ : Env) (μ : Mem) : Out Fl := (e ρ μ).bind fun z μ => (a ρ μ).bind fun x μ => (i ρ μ).bind fun k μ => match x, k, z with
  | .p n, .d (.int k), .d z => (match μ[n]? with
    | some (.lst ds) => (match ixN ds.length k with
      | some j => .ok (.nx ρ) (μ.set n (.lst (ds.set j z)))
      | none => .no)
    | _ => .no)
  | _, _, _ => .no
@[irreducible] def sSetD (a : Nat) (i e : E) (ρ : Env) (μ : Mem) : Out Fl := (e ρ μ).bind fun z μ => match ρ[a]? with
  | some (.odic kvs) => (i ρ μ).bind fun k μ => match k with
    | .d k => (match keyOf k with
      | some k => if kvs.length < SL then .ok (.nx (ρ.set a (.odic (putK kvs k z)))) μ else .no
      | none => .no)
    | _ => .no
  | _ => .no
@[irreducible] def sSetI (a : Nat) (i e : E) (ρ : Env) (μ : Mem) : Out Fl := (e ρ μ).bind fun z μ => match ρ[a]? with
  | some (.own rs) => (i ρ μ).bind fun k μ => match k with
    | .d (.int k) => (match ixN rs.length k with
      | some j => .ok (.nx (ρ.set a (.own (rs.set j z)))) μ
      | none => .no)
    | _ => .no
  | _ => .no
@[irreducible] def sRet (e : E) (ρ : Env) (μ : Mem) : Out Fl := (e ρ μ).bind fun r μ => .ok (.rt r) μ
@[irreducible] def sRetN (_ : Env) (μ : Mem) : Out Fl := .ok (.rt (.d .non)) μ
@[irreducible] def sIf (c : T) (a b : S) (ρ : Env) (μ : Mem) : Out Fl := (c ρ μ).bind fun k μ => if k then a ρ μ else b ρ μ
@[irreducible] def sBrk (ρ : Env) (μ : Mem) : Out Fl := .ok (.bk ρ) μ
@[irreducible] def sCnt (ρ : Env) (μ : Mem) : Out Fl := .ok (.ct ρ) μ
def forL (t : Tg) (b : S) : List R → S
  | [], ρ, μ => .ok (.nx ρ) μ
  | x :: xs, ρ, μ => match t x ρ with
    | none => .no
    | some ρ1 => (b ρ1 μ).bind fun f μ => match f with
      | .nx ρ => forL t b xs ρ μ
      | .ct ρ => forL t b xs ρ μ
      | .bk ρ => .ok (.nx ρ) μ
      | .rt r => .ok (.rt r) μ
@[irreducible] def sFor (t : Tg) (it : It) (b : S) (ρ : Env) (μ : Mem) : Out Fl := (it ρ μ).bind fun xs μ => forL t b xs ρ μ
def whL (c : T) (b : S) : Nat → S
  | 0, _, _ => .no
  | n + 1, ρ, μ => (c ρ μ).bind fun k μ => if k then (b ρ μ).bind fun f μ => match f with
      | .nx ρ => whL c b n ρ μ
      | .ct ρ => whL c b n ρ μ
      | .bk ρ => .ok (.nx ρ) μ
      | .rt r => .ok (.rt r) μ
    else .ok (.nx ρ) μ
@[irreducible] def sWhile (W : Nat) (c : T) (b : S) (ρ : Env) (μ : Mem) : Out Fl := whL c b W ρ μ

mutual
def okR (m : Nat) : R → Bool
  | .p n => decide (n < m)
  | .dic kvs => okKs m kvs
  | .ins _ fs => okFs m fs
  | .ls rs => okRs m rs
  | .d _ => true
  | .scr _ => true
  | .rep _ => true
def okRs (m : Nat) : List R → Bool
  | [] => true
  | r :: rs => okR m r && okRs m rs
def okKs (m : Nat) : List (Ky × R) → Bool
  | [] => true
  | (_, r) :: rs => okR m r && okKs m rs
def okFs (m : Nat) : List (String × R) → Bool
  | [] => true
  | (_, r) :: rs => okR m r && okFs m rs
end
def okCell (m : Nat) : Cell → Bool
  | .ins _ fs => okFs m fs
  | .dic kvs => okKs m kvs
  | .lst _ => true
  | .dn _ => true
  | .dead => true
def fin (m : Nat) (r : R) (μ : Mem) : Out R :=
  if μ.length = m then .ok r μ
  else if okR m r && (μ.take m).all (okCell m) then .ok r (μ.take m) else .ok r μ
structure Def where
  np : Nat
  nl : Nat
  own : Option (String × String)
  body : Fn → S
def runB (nl : Nat) (b : S) (args : List R) (μ : Mem) : Out R :=
  (b (args.map .v ++ List.replicate (nl - args.length) .un) μ).bind fun f μ' => match f with
    | .rt r => fin μ.length r μ'
    | .nx _ => fin μ.length (.d .non) μ'
    | _ => .no
def callN (P : String → Option Def) : Nat → Fn
  | 0, _, _, _ => .no
  | n + 1, f, args, μ => match P f with
    | some d => if args.length = d.np then runB d.nl (d.body (callN P n)) args μ else .no
    | none => .no
end Ev
end

section
set_option maxHeartbeats 0
set_option linter.all false
namespace Ev
def compL2 (t : Tg) (c : T) (own1 : List Nat) (t1 : Tg) (it1 : It) (c1 : T) (elt : E) : List R → Env → Mem → Out (List R)
  | [], _, μ => .ok [] μ
  | x :: xs, ρ, μ => match t x ρ with
    | none => .no
    | some ρ1 => (c ρ1 μ).nx.bind fun k μ =>
      if k then (it1 ρ1 μ).nx.bind fun ys μ => (compL t1 c1 elt ys (wipeE ρ1 own1) μ).bind fun zs μ => (compL2 t c own1 t1 it1 c1 elt xs ρ μ).bind fun ws μ => .ok (zs ++ ws) μ
      else compL2 t c own1 t1 it1 c1 elt xs ρ μ
@[simp] theorem compL2_nil (t : Tg) (c : T) (own1 : List Nat) (t1 : Tg) (it1 : It) (c1 : T) (elt : E) (ρ : Env) (μ : Mem) : compL2 t c own1 t1 it1 c1 elt [] ρ μ = .ok [] μ := rfl
@[irreducible] def eComp2 (own : List Nat) (t : Tg) (it : It) (c : T) (own1 : List Nat) (t1 : Tg) (it1 : It) (c1 : T) (elt : E) (ρ : Env) (μ : Mem) : Out R := (it ρ μ).bind fun xs μ => (compL2 t c own1 t1 it1 c1 elt xs (wipeE ρ own) μ).bind fun ys μ =>
  if ys.length ≤ SL then .ok (mkL ys) μ else .no
mutual
def D.toks : D → List (Int ⊕ List Nat)
  | .non => []
  | .bl b => [.inl (if b = true then 1 else 0)]
  | .int n => [.inl n]
  | .str x => [.inr (x.toList.map Char.toNat)]
  | .lst xs => D.toksL xs
  | .tup xs => D.toksL xs
def D.toksL : List D → List (Int ⊕ List Nat)
  | [] => [.inl 0]
  | x :: xs => .inl 1 :: (D.toks x ++ D.toksL xs)
end
def tkLt : Int ⊕ List Nat → Int ⊕ List Nat → Bool
  | .inl a, .inl b => decide (a < b)
  | .inl _, .inr _ => true
  | .inr _, .inl _ => false
  | .inr a, .inr b => decide (a < b)
def tksLt : List (Int ⊕ List Nat) → List (Int ⊕ List Nat) → Bool
  | [], [] => false
  | [], _ :: _ => true
  | _ :: _, [] => false
  | x :: r, y :: t => tkLt x y || (!tkLt y x && tksLt r t)
def D.leK (x y : D) : Bool := !tksLt y.toks x.toks
mutual
def D.alike : D → D → Bool
  | .non, .non => true
  | .bl _, .bl _ => true
  | .int _, .int _ => true
  | .str _, .str _ => true
  | .lst xs, .lst ys => D.alikeL xs ys
  | .tup xs, .tup ys => D.alikeL xs ys
  | _, _ => false
def D.alikeL : List D → List D → Bool
  | x :: xs, y :: ys => D.alike x y && D.alikeL xs ys
  | [], _ => true
  | _ :: _, [] => true
end
def isT1 : D → Bool
  | .tup (_ :: _) => true
  | _ => false
def isT0 : D → Bool
  | .non | .tup _ => false
  | _ => true
def canSort (ds : List D) : Bool := (ds.all fun x => ds.all fun y => D.alike x y) && (ds.all isT1 || ds.all isT0) && (ds.all fun x => decide (x.dep ≤ 64)) && decide (ds.length ≤ SL)
def sortR : List R → Option R
  | [.d (.lst ds)] => if canSort ds then some (.d (.lst (ds.mergeSort D.leK))) else none
  | [.d (.tup ds)] => if canSort ds then some (.d (.lst (ds.mergeSort D.leK))) else none
  | _ => none
end Ev
end

section
set_option maxHeartbeats 0
set_option linter.all false
namespace Ev
def putA (f : String) (v : R) : List (String × R) → List (String × R)
  | [] => [(f, v)]
  | (g, x) :: r => if g = f then (g, v) :: r else (g, x) :: putA f v r
def insOf (μ : Mem) (c : String) : R → Option (List (String × R))
  | .p n => match μ[n]? with
    | some (.ins c' fs) => if c' = c then some fs else none
    | _ => none
  | .ins c' fs => if c' = c then some fs else none
  | _ => none
@[irreducible] def eFld (c : String) (o : E) (f : String) (ρ : Env) (μ : Mem) : Out R := (o ρ μ).bind fun x μ => lift ((insOf μ c x).bind fun fs => fs.lookup f) μ
def putI (c f : String) (z x : R) (ρ : Env) (μ : Mem) : Out Fl := match x with
  | .p n => (match μ[n]? with
    | some (.ins c' fs) => if c' = c ∧ fs.length < 1000 then .ok (.nx ρ) (μ.set n (.ins c (putA f z fs))) else .no
    | _ => .no)
  | _ => .no
@[irreducible] def sFld (c : String) (o : E) (f : String) (e : E) (ρ : Env) (μ : Mem) : Out Fl := (e ρ μ).bind fun z μ => (o ρ μ).bind fun x μ => putI c f z x ρ μ
@[irreducible] def sFldAug (c : String) (o : E) (f : String) (op : R → R → Option R) (e : E) (ρ : Env) (μ : Mem) : Out Fl := (o ρ μ).bind fun x μ => (lift ((insOf μ c x).bind fun fs => fs.lookup f) μ).bind fun v μ =>
  (e ρ μ).bind fun y μ => (lift (op v y) μ).bind fun z μ => putI c f z x ρ μ
def addI : R → R → Option R
  | .d (.int i), .d (.int j) => some (.d (.int (i + j)))
  | _, _ => none
theorem addI_some {x y z : R} (h : addI x y = some z) : ∃ i j, x = .d (.int i) ∧ y = .d (.int j) ∧ z = .d (.int (i + j)) := by
  unfold addI at h
  split at h
  · cases h; exact ⟨_, _, rfl, rfl, rfl⟩
  · cases h
@[irreducible] def eNew (C : Fn) (c q : String) (es : List E) (ρ : Env) (μ : Mem) : Out R := (evs es ρ μ).bind fun rs μ => (C q (.p μ.length :: rs) (μ ++ [.ins c []])).bind fun r μ' => match r with
  | .d .non => .ok (.p μ.length) μ'
  | _ => .no
@[irreducible] def eMeth (C : Fn) (c m q : String) (o : E) (es : List E) (ρ : Env) (μ : Mem) : Out R := (o ρ μ).bind fun x μ => match insOf μ c x with
  | some fs => if (fs.lookup m).isNone then (evs es ρ μ).bind fun rs μ => C q (x :: rs) μ else .no
  | none => .no
@[irreducible] def sRaise (c : String) (_ : Env) (μ : Mem) : Out Fl := .exn ⟨c, []⟩ μ
end Ev
end

section
set_option maxHeartbeats 0
set_option linter.all false
namespace Ev
def mulL : R → R → Option R
  | .d (.lst a), .d (.int k) => if small k && decide (-9223372036854775808 ≤ k) && decide (k < 9223372036854775808) && decide (a.length * k.toNat ≤ SL) then some (.d (.lst (List.replicate k.toNat a).flatten)) else none
  | _, _ => none
@[irreducible] def eMk (f : E) (ρ : Env) (μ : Mem) : Out R := (f ρ μ).bind fun r μ => match r with
  | .d (.lst ds) => .ok (.p μ.length) (μ ++ [.lst ds])
  | _ => .no
@[irreducible] def sAppC (a e : E) (ρ : Env) (μ : Mem) : Out Fl := (a ρ μ).bind fun x μ => match x with
  | .p n => (match μ[n]? with
    | some (.lst _) => (e ρ μ).bind fun z μ => (match z, μ[n]? with
      | .d z, some (.lst ds) => if ds.length < SL then .ok (.nx ρ) (μ.set n (.lst (ds ++ [z]))) else .no
      | _, _ => .no)
    | _ => .no)
  | _ => .no
@[irreducible] def sAugI (a : Nat) (i e : E) (ρ : Env) (μ : Mem) : Out Fl := match ρ[a]? with
  | some (.own xs) => (i ρ μ).bind fun k μ => match k with
    | .d (.int k) => (if 0 ≤ k then (match xs[k.toNat]? with
      | some (.d (.int x)) => (e ρ μ).bind fun z μ => (match z with
        | .d (.int y) => .ok (.nx (ρ.set a (.own (xs.set k.toNat (.d (.int (x + y))))))) μ
        | _ => .no)
      | _ => .no) else .no)
    | _ => .no
  | _ => .no
end Ev
end

section
set_option maxHeartbeats 0
set_option linter.all false
namespace Ev
def dnAt (μ : Mem) : R → Option (List (D × D))
  | .p n => match μ[n]? with
    | some (.dn kvs) => some kvs
    | _ => none
  | _ => none
@[irreducible] def eDn (ρ : Env) (μ : Mem) : Out R := .ok (.p μ.length) (μ ++ [.dn []])
def inN (neg : Bool) (x y : R) (μ : Mem) : Option Bool := match x, dnAt μ y with
  | .d x, some kvs => if keyN x then some ((valN kvs x).isSome != neg) else none
  | _, _ => none
@[irreducible] def tInN (neg : Bool) (k d : E) (ρ : Env) (μ : Mem) : Out Bool := (k ρ μ).bind fun x μ => (d ρ μ).bind fun y μ => lift (inN neg x y μ) μ
def getN (y x : R) (μ : Mem) : Option R := match x, dnAt μ y with
  | .d x, some kvs => if keyN x then (valN kvs x).map .d else none
  | _, _ => none
@[irreducible] def eGetN (d k : E) (ρ : Env) (μ : Mem) : Out R := (d ρ μ).bind fun y μ => (k ρ μ).bind fun x μ => lift (getN y x μ) μ
@[irreducible] def sPutN (d k e : E) (ρ : Env) (μ : Mem) : Out Fl := (e ρ μ).bind fun z μ => (d ρ μ).bind fun y μ => (k ρ μ).bind fun x μ => match x, y, z with
  | .d x, .p n, .d z => (match μ[n]? with
    | some (.dn kvs) => if keyN x && decide (kvs.length < SL) then .ok (.nx ρ) (μ.set n (.dn (putN kvs x z))) else .no
    | _ => .no)
  | _, _, _ => .no
@[irreducible] def iRev1 (a : E) (ρ : Env) (μ : Mem) : Out (List R) := (a ρ μ).bind fun x μ => match x with
  | .d (.int n) => if inRange62 n then .ok (rangeF 0 n.toNat).reverse μ else .no
  | _ => .no
end Ev
end

section
set_option maxHeartbeats 0
set_option Elab.async false
set_option linter.all false
set_option maxRecDepth 100000
namespace EvS
open PySem PySem.Spec PyProof.Rows L2

mutual
def toPy : Ev.D → PyData
  | .non => .none
  | .bl b => .bool b
  | .int i => .int i
  | .str s => .str (Str.ofString s)
  | .tup ds => .tuple (toPyL ds)
  | .lst ds => .list (toPyL ds)
def toPyL : List Ev.D → List PyData
  | [] => []
  | d :: ds => toPy d :: toPyL ds
end
theorem ofString_inj {a b : String} (h : Str.ofString a = Str.ofString b) : a = b := by
  rw [Str.ofString_eq_toList, Str.ofString_eq_toList] at h
  have h1 : (a.toList.map Char.toNat).toArray = (b.toList.map Char.toNat).toArray := congrArg Str.cps h
  have h2 : a.toList.map Char.toNat = b.toList.map Char.toNat := by simpa using congrArg Array.toList h1
  have h3 : a.toList = b.toList := by
    refine List.map_inj_right (f := Char.toNat) (fun x y e => ?_) |>.mp h2
    exact Char.toNat_inj.mp e
  exact String.toList_injective h3
theorem ofString_eq (a b : String) : (Str.ofString a == Str.ofString b) = (a == b) := by
  by_cases e : a = b
  · subst e; simp
  · have h : ¬ Str.ofString a = Str.ofString b := fun q => e (ofString_inj q)
    rw [beq_eq_false_iff_ne.mpr e]
    exact beq_eq_false_iff_ne.mpr h
theorem cps_ofString (a : String) : (Str.ofString a).cps.toList = a.toList.map Char.toNat := by rw [Str.ofString_eq_toList]
theorem len_ofString (a : String) : (Str.ofString a).length = a.length := by
  rw [Str.ofString_eq_toList]
  show (a.toList.map Char.toNat).toArray.size = a.length
  simp [String.length_toList]
theorem ofString_append (a b : String) : Str.ofString (a ++ b) = Str.ofString a ++ Str.ofString b := by
  rw [Str.ofString_eq_toList, Str.ofString_eq_toList, Str.ofString_eq_toList]
  show _ = Str.mk ((a.toList.map Char.toNat).toArray ++ (b.toList.map Char.toNat).toArray)
  simp
theorem strOk_ofString (a : String) : PyData.strOk (Str.ofString a) = true := by
  unfold PyData.strOk
  rw [Str.ofString_eq_toList]
  simp only [List.all_toArray, List.all_map, List.all_eq_true, Function.comp, decide_eq_true_eq]
  intro c _
  have h := c.valid
  have h2 : c.toNat = c.val.toNat := rfl
  simp only [UInt32.isValidChar, Nat.isValidChar] at h
  omega

mutual
theorem eqv_toPy : ∀ x y : Ev.D, PyData.eqv (toPy x) (toPy y) = Ev.D.eqv x y
  | .non, y => by cases y <;> simp [toPy, PyData.eqv, Ev.D.eqv]
  | .bl b, y => by cases y <;> simp [toPy, PyData.eqv, Ev.D.eqv]
  | .int b, y => by cases y <;> simp [toPy, PyData.eqv, Ev.D.eqv]
  | .str b, y => by cases y <;> simp [toPy, PyData.eqv, Ev.D.eqv, ofString_eq]
  | .tup xs, y => by
    cases y with
    | tup ys => simp only [toPy, PyData.eqv, Ev.D.eqv]; exact eqvL_toPy xs ys
    | _ => simp [toPy, PyData.eqv, Ev.D.eqv]
  | .lst xs, y => by
    cases y with
    | lst ys => simp only [toPy, PyData.eqv, Ev.D.eqv]; exact eqvL_toPy xs ys
    | _ => simp [toPy, PyData.eqv, Ev.D.eqv]
theorem eqvL_toPy : ∀ xs ys : List Ev.D, PyData.eqvAll (toPyL xs) (toPyL ys) = Ev.D.eqvL xs ys
  | [], [] => by simp [toPyL, PyData.eqvAll, Ev.D.eqvL]
  | [], _ :: _ => by simp [toPyL, PyData.eqvAll, Ev.D.eqvL]
  | _ :: _, [] => by simp [toPyL, PyData.eqvAll, Ev.D.eqvL]
  | x :: xs, y :: ys => by simp only [toPyL, PyData.eqvAll, Ev.D.eqvL]; rw [eqv_toPy x y, eqvL_toPy xs ys]
end
mutual
theorem canLay_toPy : ∀ x : Ev.D, (toPy x).canLay0 = true
  | .non => by simp [toPy, PyData.canLay0]
  | .bl b => by simp [toPy, PyData.canLay0]
  | .int b => by simp [toPy, PyData.canLay0]
  | .str b => by simp only [toPy, PyData.canLay0]; exact strOk_ofString b
  | .tup xs => by simp only [toPy, PyData.canLay0]; exact canLayL_toPy xs
  | .lst xs => by simp only [toPy, PyData.canLay0]; exact canLayL_toPy xs
theorem canLayL_toPy : ∀ xs : List Ev.D, PyData.canLayAll0 (toPyL xs) = true
  | [] => by simp [toPyL, PyData.canLayAll0]
  | x :: xs => by simp only [toPyL, PyData.canLayAll0]; rw [canLay_toPy x, canLayL_toPy xs]; rfl
end
mutual
theorem dep_toPy : ∀ x : Ev.D, (toPy x).depth = x.dep
  | .non => by simp [toPy, PyData.depth, Ev.D.dep]
  | .bl b => by simp [toPy, PyData.depth, Ev.D.dep]
  | .int b => by simp [toPy, PyData.depth, Ev.D.dep]
  | .str b => by simp [toPy, PyData.depth, Ev.D.dep]
  | .tup xs => by simp only [toPy, PyData.depth, Ev.D.dep]; rw [depL_toPy xs]
  | .lst xs => by simp only [toPy, PyData.depth, Ev.D.dep]; rw [depL_toPy xs]
theorem depL_toPy : ∀ xs : List Ev.D, PyData.depthAll (toPyL xs) = Ev.D.depL xs
  | [] => by simp [toPyL, PyData.depthAll, Ev.D.depL]
  | x :: xs => by simp only [toPyL, PyData.depthAll, Ev.D.depL]; rw [dep_toPy x, depL_toPy xs]
end
theorem SL_eq : Ev.SL = sizeLine := by rw [sizeLine_eq]; rfl

theorem Same.seqT {K : PySem.W.Frag} {H H' : Hp} {a : Addr} {xs : List V} (e : Same H H') (h : SqT K H a xs) : SqT K H' a xs := by
  rcases h with (h | ⟨o, h⟩) | h
  · exact .inl (.inl (e _ _ h))
  · exact .inl (.inr ⟨o, e _ _ h⟩)
  · exact .inr h
mutual
theorem Dp.mono {K : PySem.W.Frag} {H H' : Hp} (e : Same H H') : ∀ {v : V} {d : PyData}, Dp K H v d → Dp K H' v d
  | _, _, .non => .non
  | _, _, .bl b => .bl b
  | _, _, .int i => .int i
  | _, _, .str x => .str x
  | _, _, .lst h h2 => .lst (e.seq h) (DpAll.mono e h2)
  | _, _, .tup h h2 => .tup (Same.seqT e h) (DpAll.mono e h2)
theorem DpAll.mono {K : PySem.W.Frag} {H H' : Hp} (e : Same H H') : ∀ {vs : List V} {ds : List PyData}, DpAll K H vs ds → DpAll K H' vs ds
  | _, _, .nil => .nil
  | _, _, .cons h h2 => .cons (Dp.mono e h) (DpAll.mono e h2)
end
mutual
inductive DR (K : PySem.W.Frag) (G : Hp) : V → Ev.D → Prop
  | non : DR K G .non .non
  | bl (b : Bool) : DR K G (.bl b) (.bl b)
  | int (i : Int) : DR K G (.int i) (.int i)
  | str (s : String) : DR K G (.str (Str.ofString s)) (.str s)
  | tup {a : Addr} {xs : List V} {ds : List Ev.D} : SqT K G a xs → DRs K G xs ds → DR K G (.ref a) (.tup ds)
  | lst {a : Addr} {xs : List V} {ds : List Ev.D} : G a = some (.lst xs) → DRs K G xs ds → DR K G (.ref a) (.lst ds)
inductive DRs (K : PySem.W.Frag) (G : Hp) : List V → List Ev.D → Prop
  | nil : DRs K G [] []
  | cons {v : V} {vs : List V} {d : Ev.D} {ds : List Ev.D} : DR K G v d → DRs K G vs ds → DRs K G (v :: vs) (d :: ds)
end
mutual
theorem DR.mono {K : PySem.W.Frag} {H H' : Hp} (e : Same H H') : ∀ {v : V} {d : Ev.D}, DR K H v d → DR K H' v d
  | _, _, .non => .non
  | _, _, .bl b => .bl b
  | _, _, .int i => .int i
  | _, _, .str x => .str x
  | _, _, .lst h h2 => .lst (e _ _ h) (DRs.mono e h2)
  | _, _, .tup h h2 => .tup (Same.seqT e h) (DRs.mono e h2)
theorem DRs.mono {K : PySem.W.Frag} {H H' : Hp} (e : Same H H') : ∀ {vs : List V} {ds : List Ev.D}, DRs K H vs ds → DRs K H' vs ds
  | _, _, .nil => .nil
  | _, _, .cons h h2 => .cons (DR.mono e h) (DRs.mono e h2)
end
mutual
theorem DR.dp {K : PySem.W.Frag} {H : Hp} : ∀ {v : V} {d : Ev.D}, DR K H v d → Dp K H v (toPy d)
  | _, _, .non => by simp only [toPy]; exact .non
  | _, _, .bl b => by simp only [toPy]; exact .bl b
  | _, _, .int i => by simp only [toPy]; exact .int i
  | _, _, .str x => by simp only [toPy]; exact .str _
  | _, _, .lst h h2 => by simp only [toPy]; exact .lst (.inl (.inl h)) (DRs.dp h2)
  | _, _, .tup h h2 => by simp only [toPy]; exact .tup h (DRs.dp h2)
theorem DRs.dp {K : PySem.W.Frag} {H : Hp} : ∀ {vs : List V} {ds : List Ev.D}, DRs K H vs ds → DpAll K H vs (toPyL ds)
  | _, _, .nil => .nil
  | _, _, .cons h h2 => by simp only [toPyL]; exact .cons (DR.dp h) (DRs.dp h2)
end
theorem DRs.len {K : PySem.W.Frag} {H : Hp} : ∀ {vs : List V} {ds : List Ev.D}, DRs K H vs ds → vs.length = ds.length
  | _, _, .nil => rfl
  | _, _, .cons _ h2 => by simp [DRs.len h2]
theorem DRs.get {K : PySem.W.Frag} {H : Hp} : ∀ {vs : List V} {ds : List Ev.D} {i : Nat} {d : Ev.D}, DRs K H vs ds → ds[i]? = some d → ∃ v, vs[i]? = some v ∧ DR K H v d
  | _, _, _, _, .nil, e => by simp at e
  | _, _, 0, _, .cons h _, e => by simp at e; subst e; exact ⟨_, rfl, h⟩
  | _, _, i + 1, _, .cons _ h2, e => by
    obtain ⟨v, h3, h4⟩ := DRs.get (i := i) h2 (by simpa using e)
    exact ⟨v, by simpa using h3, h4⟩
theorem DRs.append {K : PySem.W.Frag} {H : Hp} : ∀ {vs ws : List V} {ds es : List Ev.D}, DRs K H vs ds → DRs K H ws es → DRs K H (vs ++ ws) (ds ++ es)
  | _, _, _, _, .nil, h => h
  | _, _, _, _, .cons a b, h => .cons a (DRs.append b h)
theorem DRs.take {K : PySem.W.Frag} {H : Hp} : ∀ {vs : List V} {ds : List Ev.D} (n : Nat), DRs K H vs ds → DRs K H (vs.take n) (ds.take n)
  | _, _, 0, _ => .nil
  | _, _, _ + 1, .nil => .nil
  | _, _, n + 1, .cons a b => .cons a (DRs.take n b)
theorem DRs.drop {K : PySem.W.Frag} {H : Hp} : ∀ {vs : List V} {ds : List Ev.D} (n : Nat), DRs K H vs ds → DRs K H (vs.drop n) (ds.drop n)
  | _, _, 0, h => h
  | _, _, _ + 1, .nil => .nil
  | _, _, n + 1, .cons _ b => DRs.drop n b
theorem DRs.set {K : PySem.W.Frag} {H : Hp} {v : V} {d : Ev.D} (h : DR K H v d) : ∀ {vs : List V} {ds : List Ev.D} (n : Nat), DRs K H vs ds → DRs K H (vs.set n v) (ds.set n d)
  | _, _, _, .nil => .nil
  | _, _, 0, .cons _ b => .cons h b
  | _, _, n + 1, .cons a b => .cons a (DRs.set h n b)
theorem DRs.rep {K : PySem.W.Frag} {H : Hp} {vs : List V} {ds : List Ev.D} (h : DRs K H vs ds) : ∀ n : Nat, DRs K H (List.replicate n vs).flatten (List.replicate n ds).flatten
  | 0 => .nil
  | n + 1 => by rw [List.replicate_succ, List.replicate_succ, List.flatten_cons, List.flatten_cons]; exact DRs.append h (DRs.rep h n)
structure Cn where
  cls : String → Addr
  tabs : List (Addr × Addr)
structure Ct where
  K : PySem.W.Frag
  ca : Cn
  w : World
def kyK : Ev.Ky → Key
  | .i n => .inl n
  | .s x => .inr (Str.ofString x)
theorem kyK_inj {a b : Ev.Ky} (h : kyK a = kyK b) : a = b := by
  cases a <;> cases b <;> simp [kyK] at h
  · rw [h]
  · rw [ofString_inj h]

mutual
inductive RR (Γ : Ct) (φ : List Addr) (G : Hp) : V → Ev.R → Prop
  | d {v : V} {x : Ev.D} : DR Γ.K G v x → RR Γ φ G v (.d x)
  | p {n : Nat} {a : Addr} : φ[n]? = some a → RR Γ φ G (.ref a) (.p n)
  | dic {a : Addr} {ks : List (Key × V)} {kvs : List (Ev.Ky × Ev.R)} : G a = some (.dK ks) → RKs Γ φ G ks kvs → RR Γ φ G (.ref a) (.dic kvs)
  | ins {a dx : Addr} {c : String} {fs : List (Str × V)} {gs : List (String × Ev.R)} : G a = some (.ins (Γ.ca.cls c) dx fs) → G dx = some (.own a) → RFs Γ φ G fs gs → RR Γ φ G (.ref a) (.ins c gs)
  | ls {a : Addr} {xs : List V} {rs : List Ev.R} : G a = some (.lst xs) → RRs Γ φ G xs rs → RR Γ φ G (.ref a) (.ls rs)
  | scr {a : Addr} {ns : List Int} : SqL Γ.K G a (ns.map V.int) → RR Γ φ G (.ref a) (.scr ns)
  | rep {x : Ev.D} : RR Γ φ G (.str (toPy x).shown) (.rep x)
inductive RRs (Γ : Ct) (φ : List Addr) (G : Hp) : List V → List Ev.R → Prop
  | nil : RRs Γ φ G [] []
  | cons {v : V} {vs : List V} {r : Ev.R} {rs : List Ev.R} : RR Γ φ G v r → RRs Γ φ G vs rs → RRs Γ φ G (v :: vs) (r :: rs)
inductive RKs (Γ : Ct) (φ : List Addr) (G : Hp) : List (Key × V) → List (Ev.Ky × Ev.R) → Prop
  | nil : RKs Γ φ G [] []
  | cons {k : Ev.Ky} {v : V} {ks : List (Key × V)} {r : Ev.R} {rs : List (Ev.Ky × Ev.R)} : RR Γ φ G v r → RKs Γ φ G ks rs → RKs Γ φ G ((kyK k, v) :: ks) ((k, r) :: rs)
inductive RFs (Γ : Ct) (φ : List Addr) (G : Hp) : List (Str × V) → List (String × Ev.R) → Prop
  | nil : RFs Γ φ G [] []
  | cons {k : String} {v : V} {ks : List (Str × V)} {r : Ev.R} {rs : List (String × Ev.R)} : RR Γ φ G v r → RFs Γ φ G ks rs → RFs Γ φ G ((Str.ofString k, v) :: ks) ((k, r) :: rs)
end
section
variable {Γ : Ct} {φ φ' : List Addr} {G G' : Hp}
mutual
theorem RR.mono (e : Same G G') (hp : ∀ (n : Nat) (a : Addr), φ[n]? = some a → φ'[n]? = some a) : ∀ {v : V} {r : Ev.R}, RR Γ φ G v r → RR Γ φ' G' v r
  | _, _, .d h => .d (DR.mono e h)
  | _, _, .p h => .p (hp _ _ h)
  | _, _, .dic h h2 => .dic (e _ _ h) (RKs.mono e hp h2)
  | _, _, .ins h h1 h2 => .ins (e _ _ h) (e _ _ h1) (RFs.mono e hp h2)
  | _, _, .ls h h2 => .ls (e _ _ h) (RRs.mono e hp h2)
  | _, _, .scr h => .scr (e.seq h)
  | _, _, .rep => .rep
theorem RRs.mono (e : Same G G') (hp : ∀ (n : Nat) (a : Addr), φ[n]? = some a → φ'[n]? = some a) : ∀ {v : List V} {r : List Ev.R}, RRs Γ φ G v r → RRs Γ φ' G' v r
  | _, _, .nil => .nil
  | _, _, .cons h h2 => .cons (RR.mono e hp h) (RRs.mono e hp h2)
theorem RKs.mono (e : Same G G') (hp : ∀ (n : Nat) (a : Addr), φ[n]? = some a → φ'[n]? = some a) : ∀ {v : List (Key × V)} {r : List (Ev.Ky × Ev.R)}, RKs Γ φ G v r → RKs Γ φ' G' v r
  | _, _, .nil => .nil
  | _, _, .cons h h2 => .cons (RR.mono e hp h) (RKs.mono e hp h2)
theorem RFs.mono (e : Same G G') (hp : ∀ (n : Nat) (a : Addr), φ[n]? = some a → φ'[n]? = some a) : ∀ {v : List (Str × V)} {r : List (String × Ev.R)}, RFs Γ φ G v r → RFs Γ φ' G' v r
  | _, _, .nil => .nil
  | _, _, .cons h h2 => .cons (RR.mono e hp h) (RFs.mono e hp h2)
end
theorem RRs.len : ∀ {vs : List V} {rs : List Ev.R}, RRs Γ φ G vs rs → vs.length = rs.length
  | _, _, .nil => rfl
  | _, _, .cons _ h => by simp [RRs.len h]
theorem RRs.get : ∀ {vs : List V} {rs : List Ev.R} {i : Nat} {r : Ev.R}, RRs Γ φ G vs rs → rs[i]? = some r → ∃ v, vs[i]? = some v ∧ RR Γ φ G v r
  | _, _, _, _, .nil, e => by simp at e
  | _, _, 0, _, .cons h _, e => by simp at e; subst e; exact ⟨_, rfl, h⟩
  | _, _, i + 1, _, .cons _ h2, e => by
    obtain ⟨v, h3, h4⟩ := RRs.get (i := i) h2 (by simpa using e)
    exact ⟨v, by simpa using h3, h4⟩
theorem RRs.append : ∀ {vs ws : List V} {rs ss : List Ev.R}, RRs Γ φ G vs rs → RRs Γ φ G ws ss → RRs Γ φ G (vs ++ ws) (rs ++ ss)
  | _, _, _, _, .nil, h => h
  | _, _, _, _, .cons a b, h => .cons a (RRs.append b h)
theorem RRs.reverse : ∀ {vs : List V} {rs : List Ev.R}, RRs Γ φ G vs rs → RRs Γ φ G vs.reverse rs.reverse
  | _, _, .nil => .nil
  | _, _, .cons a b => by rw [List.reverse_cons, List.reverse_cons]; exact RRs.append (RRs.reverse b) (.cons a .nil)
theorem RRs.set {v : V} {r : Ev.R} (h : RR Γ φ G v r) : ∀ {vs : List V} {rs : List Ev.R} (n : Nat), RRs Γ φ G vs rs → RRs Γ φ G (vs.set n v) (rs.set n r)
  | _, _, _, .nil => .nil
  | _, _, 0, .cons _ b => .cons h b
  | _, _, n + 1, .cons a b => .cons a (RRs.set h n b)
theorem RR.inv_d {v : V} {x : Ev.D} (h : RR Γ φ G v (.d x)) : DR Γ.K G v x := by cases h; assumption
theorem RRs.vals : ∀ {vs : List V} {rs : List Ev.R} {ds : List Ev.D}, RRs Γ φ G vs rs → Ev.valsR rs = some ds → DRs Γ.K G vs ds
  | _, _, _, .nil, e => by cases e; exact .nil
  | _, _, _, .cons (r := r) h h2, e => by
    cases r with
    | d x =>
      rw [Ev.valsR_cons] at e
      obtain ⟨ds', e1, e2⟩ := Option.map_eq_some_iff.mp e
      subst e2
      exact .cons h.inv_d (RRs.vals h2 e1)
    | p n => cases e
    | dic k => cases e
    | ins c f => cases e
    | ls l => cases e
    | scr l => cases e
    | rep l => cases e
theorem RRs.ofD : ∀ {vs : List V} {ds : List Ev.D}, DRs Γ.K G vs ds → RRs Γ φ G vs (ds.map .d)
  | vs, [], h => by cases h; exact .nil
  | vs, d :: ds, h => by
    cases h with
    | cons a b => exact .cons (.d a) (RRs.ofD b)
theorem valsR_some : ∀ {rs : List Ev.R} {ds : List Ev.D}, Ev.valsR rs = some ds → rs = ds.map .d
  | [], _, h => by cases h; rfl
  | .d x :: rs, ds, h => by
    rw [Ev.valsR_cons] at h
    obtain ⟨ds', e1, e2⟩ := Option.map_eq_some_iff.mp h
    subst e2
    rw [valsR_some e1]; rfl
  | .p _ :: _, _, h => by cases h
  | .dic _ :: _, _, h => by cases h
  | .ins _ _ :: _, _, h => by cases h
  | .ls _ :: _, _, h => by cases h
  | .scr _ :: _, _, h => by cases h
  | .rep _ :: _, _, h => by cases h
theorem RR.mkL {a : Addr} {xs : List V} {rs : List Ev.R} (h : G a = some (.lst xs)) (h2 : RRs Γ φ G xs rs) : RR Γ φ G (.ref a) (Ev.mkL rs) := by
  unfold Ev.mkL
  split
  · rename_i ds e
    exact .d (.lst h (h2.vals e))
  · exact .ls h h2
end

mutual
def nk : Ev.D → NestedKey
  | .non => .none
  | .bl b => .num (if b = true then 1 else 0)
  | .int i => .num i
  | .str x => .text (Str.ofString x)
  | .tup xs => .tup (nkL xs)
  | .lst _ => .none
def nkL : List Ev.D → List NestedKey
  | [] => []
  | x :: xs => nk x :: nkL xs
end
def DnO (w : World) (a : Addr) (xs : List (NestedKey × Addr × Value)) (h : Heap) : Prop :=
  xs.length ≤ sizeLine ∧ (a == sysModules) = false ∧ (xs.map (·.1)).Nodup ∧ ∃ o es ep, h.get? a = some o ∧ o.ExactDict ∧ o.data = .dict es ep ∧ es.toList = xs.map fun x => (⟨x.1.hash w, .ref x.2.1, x.2.2⟩ : DictEntry)
inductive DnR (K : PySem.W.Frag) (G : Hp) : List (NestedKey × Addr × Value) → List (Ev.D × Ev.D) → Prop
  | nil : DnR K G [] []
  | cons {p : Addr} {v : V} {u : Value} {x y : Ev.D} {xs : List (NestedKey × Addr × Value)} {kvs : List (Ev.D × Ev.D)} : Ev.keyN x = true → DR K G (.ref p) x → RelV v u → DR K G v y → DnR K G xs kvs → DnR K G ((nk x, p, u) :: xs) ((x, y) :: kvs)
theorem DnR.mono {K : PySem.W.Frag} {G G' : Hp} (e : Same G G') : ∀ {xs : List (NestedKey × Addr × Value)} {kvs : List (Ev.D × Ev.D)}, DnR K G xs kvs → DnR K G' xs kvs
  | _, _, .nil => .nil
  | _, _, .cons h0 h1 h2 h3 t => .cons h0 (h1.mono e) h2 (h3.mono e) (DnR.mono e t)
inductive CellR (Γ : Ct) (φ : List Addr) (G H : Hp) (a : Addr) : Ev.Cell → Prop
  | lst {xs : List V} {ds : List Ev.D} : H a = some (.lst xs) → DRs Γ.K G xs ds → CellR Γ φ G H a (.lst ds)
  | dic {ks : List (Key × V)} {kvs : List (Ev.Ky × Ev.R)} : H a = some (.dK ks) → RKs Γ φ G ks kvs → CellR Γ φ G H a (.dic kvs)
  | ins {dx : Addr} {c : String} {fs : List (Str × V)} {gs : List (String × Ev.R)} : H a = some (.ins (Γ.ca.cls c) dx fs) → H dx = some (.own a) → RFs Γ φ G fs gs → CellR Γ φ G H a (.ins c gs)
  | dn {xs : List (NestedKey × Addr × Value)} {kvs : List (Ev.D × Ev.D)} : H a = some (.ext (DnO Γ.w a xs)) → DnR Γ.K G xs kvs → CellR Γ φ G H a (.dn kvs)
  | dead : CellR Γ φ G H a .dead
structure Ok (Γ : Ct) (φ : List Addr) (G H : Hp) (μ : Ev.Mem) : Prop where
  le : Same G H
  nd : φ.Nodup
  len : φ.length = μ.length
  fre : ∀ a ∈ φ, G a = none
  thr : ∀ a ∈ φ, ∃ o, H a = some o
  cell : ∀ (n : Nat) (a : Addr) (c : Ev.Cell), φ[n]? = some a → μ[n]? = some c → CellR Γ φ G H a c
  tb : ∀ p ∈ Γ.ca.tabs, GxR.TabG H p.2 ∧ p.2 ∉ φ ∧ G p.2 = none
structure Ext (φ : List Addr) (G H : Hp) (φ' : List Addr) (G' H' : Hp) : Prop where
  g : Same G G'
  gn : ∀ a, G' a ≠ none → G a ≠ none ∨ H a = none ∨ a ∈ φ
  p : ∃ ψ, φ' = φ ++ ψ ∧ ∀ a ∈ ψ, H a = none ∧ a ∉ φ
  f : ∀ a o, H a = some o → a ∉ φ → H' a = some o ∨ ∃ ps qs, o = .tbl ps ∧ H' a = some (.tbl qs)
section
variable {Γ : Ct} {φ φ' φ1 φ2 : List Addr} {G G' G1 G2 H H' H1 H2 : Hp} {μ μ' : Ev.Mem}
theorem Ext.refl : Ext φ G H φ G H := ⟨Same.refl _, fun _ h => .inl h, ⟨[], by simp, by simp⟩, fun _ _ h _ => .inl h⟩
theorem Ext.fo (a : Ext φ G H φ' G' H') {c : Addr} {o : HO} (h : H c = some o) (hn : c ∉ φ) (ht : ∀ q, o ≠ .tbl q := by intro q z; cases z) : H' c = some o := by
  rcases a.f c o h hn with z | ⟨ps, qs, z, _⟩
  · exact z
  · exact absurd z (ht ps)
theorem Ext.fs (a : Ext φ G H φ' G' H') {c : Addr} {o : HO} (h : H c = some o) (hn : c ∉ φ) : ∃ o', H' c = some o' := by
  rcases a.f c o h hn with z | ⟨ps, qs, _, z⟩
  · exact ⟨_, z⟩
  · exact ⟨_, z⟩
theorem Ext.trans (a : Ext φ G H φ1 G1 H1) (b : Ext φ1 G1 H1 φ2 G2 H2) : Ext φ G H φ2 G2 H2 := by
  obtain ⟨ψ1, e1, q1⟩ := a.p
  obtain ⟨ψ2, e2, q2⟩ := b.p
  have key : ∀ c, H1 c = none → c ∉ φ → H c = none := fun c hc hn => by
    cases q : H c with
    | none => rfl
    | some o =>
      obtain ⟨o2, z⟩ := a.fs q hn
      rw [z] at hc; cases hc
  refine ⟨a.g.trans b.g, fun c hc => ?_, ⟨ψ1 ++ ψ2, by rw [e2, e1, List.append_assoc], fun c hc => ?_⟩, fun c o hc hn => ?_⟩
  · rcases b.gn c hc with h | h | h
    · exact a.gn c h
    · by_cases hm : c ∈ φ
      · exact .inr (.inr hm)
      · exact .inr (.inl (key c h hm))
    · rw [e1] at h
      rcases List.mem_append.mp h with h | h
      · exact .inr (.inr h)
      · exact .inr (.inl (q1 c h).1)
  · rcases List.mem_append.mp hc with h | h
    · exact q1 c h
    · obtain ⟨h1, h2⟩ := q2 c h
      have hn : c ∉ φ := fun z => h2 (by rw [e1]; exact List.mem_append_left _ z)
      exact ⟨key c h1 hn, hn⟩
  · have hn1 : c ∉ φ1 := fun z => by
      rw [e1] at z
      rcases List.mem_append.mp z with z | z
      · exact hn z
      · rw [(q1 c z).1] at hc; cases hc
    rcases a.f c o hc hn with z | ⟨ps, qs, z1, z2⟩
    · exact b.f c o z hn1
    · rcases b.f c _ z2 hn1 with y | ⟨ps2, qs2, y1, y2⟩
      · exact .inr ⟨ps, qs, z1, y⟩
      · exact .inr ⟨ps, qs2, z1, y2⟩
theorem Ext.ix (a : Ext φ G H φ' G' H') : ∀ (n : Nat) (c : Addr), φ[n]? = some c → φ'[n]? = some c := fun n c h => by
  obtain ⟨ψ, e, _⟩ := a.p
  rw [e, List.getElem?_append_left (by have := List.getElem?_eq_some_iff.mp h; exact this.1)]
  exact h
theorem Ext.rr (a : Ext φ G H φ' G' H') {v : V} {r : Ev.R} (h : RR Γ φ G v r) : RR Γ φ' G' v r := h.mono a.g a.ix
theorem Ext.rrs (a : Ext φ G H φ' G' H') {v : List V} {r : List Ev.R} (h : RRs Γ φ G v r) : RRs Γ φ' G' v r := h.mono a.g a.ix
theorem Ext.keep (a : Ext φ G H φ' G' H') {c : Addr} {o : HO} (h : H c = some o) (hp : c ∉ φ) (hg : G c = none) (ht : ∀ q, o ≠ .tbl q := by intro q z; cases z) : H' c = some o ∧ c ∉ φ' ∧ G' c = none := by
  obtain ⟨ψ, e, q⟩ := a.p
  refine ⟨a.fo h hp ht, fun z => ?_, ?_⟩
  · rw [e] at z
    rcases List.mem_append.mp z with z | z
    · exact hp z
    · rw [(q c z).1] at h; cases h
  · cases r : G' c with
    | none => rfl
    | some u =>
      rcases a.gn c (by rw [r]; intro z; cases z) with z | z | z
      · exact absurd hg z
      · rw [z] at h; cases h
      · exact absurd z hp
theorem Ext.of_same (h : Same H H') : Ext φ G H φ G H' := ⟨Same.refl _, fun _ h => .inl h, ⟨[], by simp, by simp⟩, fun a o e _ => .inl (h a o e)⟩
theorem same_upd {H : Hp} {p : Addr} {o : HO} (h : H p = none) : Same H (upd H p o) := fun b x e => by
  rw [upd_ne (ne_of_none e h)]
  exact e
theorem CellR.keep {a : Addr} {c : Ev.Cell} (h : CellR Γ φ G H a c) (hg : Same G G') (hix : ∀ (n : Nat) (c : Addr), φ[n]? = some c → φ'[n]? = some c) (ha : ∀ o, H a = some o → H' a = some o)
    (hd : ∀ d, H d = some (.own a) → H' d = some (.own a)) : CellR Γ φ' G' H' a c := by
  cases h with
  | lst h1 h2 => exact .lst (ha _ h1) (DRs.mono hg h2)
  | dic h1 h2 => exact .dic (ha _ h1) (h2.mono hg hix)
  | ins h1 h2 h3 => exact .ins (ha _ h1) (hd _ h2) (h3.mono hg hix)
  | dn h1 h2 => exact .dn (ha _ h1) (h2.mono hg)
  | dead => exact .dead
theorem Ok.grow (k : Ok Γ φ G H μ) (h : Same H H') (hg : Same G G') (hle : Same G' H') (hf : ∀ a ∈ φ, G' a = none) (hf2 : ∀ a o, H a = some (.tbl o) → G a = none → G' a = none) : Ok Γ φ G' H' μ :=
  ⟨hle, k.nd, k.len, hf, fun a ha => let ⟨o, e⟩ := k.thr a ha; ⟨o, h a o e⟩, fun n a c h1 h2 => (k.cell n a c h1 h2).keep hg (fun _ _ z => z) (fun o e => h a o e) fun d e => h d _ e, fun p hp => by
    obtain ⟨⟨ps, e, t⟩, h2, h3⟩ := k.tb p hp
    exact ⟨⟨ps, h _ _ e, t⟩, h2, hf2 _ _ e h3⟩⟩
theorem Ok.nphi (k : Ok Γ φ G H μ) {p : Addr} (hp : H p = none) : p ∉ φ := fun z => by
  obtain ⟨o, e⟩ := k.thr p z
  rw [e] at hp; cases hp
theorem Ok.ng (k : Ok Γ φ G H μ) {p : Addr} (hp : H p = none) : G p = none := by
  cases q : G p with
  | none => rfl
  | some o => rw [k.le p o q] at hp; cases hp
theorem Ok.new (k : Ok Γ φ G H μ) {p : Addr} {o : HO} (hp : H p = none) : Ok Γ φ (upd G p o) (upd H p o) μ := by
  refine k.grow (same_upd hp) (same_upd (k.ng hp)) (fun b x e => ?_) (fun a ha => ?_) fun a o e h => by rw [upd_ne (fun z => by rw [z, hp] at e; cases e)]; exact h
  · by_cases hb : b = p
    · subst hb; rw [upd_same] at e ⊢; exact e
    · rw [upd_ne hb] at e ⊢; exact k.le b x e
  · rw [upd_ne (show a ≠ p from fun z => k.nphi hp (by rw [← z]; exact ha))]
    exact k.fre a ha
theorem Ext.new (k : Ok Γ φ G H μ) {p : Addr} {o : HO} (hp : H p = none) : Ext φ G H φ (upd G p o) (upd H p o) := by
  refine ⟨same_upd (k.ng hp), fun a ha => ?_, ⟨[], by simp, by simp⟩, fun a o e _ => .inl (same_upd hp a o e)⟩
  by_cases hb : a = p
  · subst hb; exact .inr (.inl hp)
  · rw [upd_ne hb] at ha; exact .inl ha
theorem Ok.new0 (k : Ok Γ φ G H μ) {p : Addr} {o : HO} (hp : H p = none) : Ok Γ φ G (upd H p o) μ :=
  k.grow (same_upd hp) (Same.refl _) (k.le.trans (same_upd hp)) k.fre fun _ _ _ h => h
end

section
variable (Γ : Ct) (φ : List Addr) (G H : Hp)
inductive PV : V → Ev.R → Prop
  | rr {v : V} {r : Ev.R} : RR Γ φ G v r → PV v r
  | own {a : Addr} {xs : List V} {rs : List Ev.R} : H a = some (.lst xs) → a ∉ φ → G a = none → RRs Γ φ G xs rs → PV (.ref a) (Ev.mkL rs)
  | odic {a : Addr} {ks : List (Key × V)} {kvs : List (Ev.Ky × Ev.R)} : H a = some (.dK ks) → a ∉ φ → G a = none → RKs Γ φ G ks kvs → PV (.ref a) (.dic kvs)
inductive Vw : V → Ev.R → Prop
  | rr {v : V} {r : Ev.R} : RR Γ φ G v r → Vw v r
  | own {a : Addr} {xs : List V} {rs : List Ev.R} : H a = some (.lst xs) → RRs Γ φ G xs rs → Vw (.ref a) (Ev.mkL rs)
  | odic {a : Addr} {ks : List (Key × V)} {kvs : List (Ev.Ky × Ev.R)} : H a = some (.dK ks) → RKs Γ φ G ks kvs → Vw (.ref a) (.dic kvs)
end
section
variable {Γ : Ct} {φ φ' : List Addr} {G G' H H' : Hp} {μ : Ev.Mem} {v : V} {r : Ev.R}
theorem PV.ext (h : PV Γ φ G H v r) (a : Ext φ G H φ' G' H') : PV Γ φ' G' H' v r := by
  cases h with
  | rr h => exact .rr (a.rr h)
  | own h1 h2 h3 h4 =>
    obtain ⟨k1, k2, k3⟩ := a.keep h1 h2 h3
    exact .own k1 k2 k3 (a.rrs h4)
  | odic h1 h2 h3 h4 =>
    obtain ⟨k1, k2, k3⟩ := a.keep h1 h2 h3
    exact .odic k1 k2 k3 (h4.mono a.g a.ix)
theorem vw_mkL (μ : Ev.Mem) (rs : List Ev.R) : Ev.vw μ (Ev.mkL rs) = Ev.mkL rs := by
  unfold Ev.mkL; split <;> rfl
theorem PV.vw (h : PV Γ φ G H v r) (k : Ok Γ φ G H μ) : Vw Γ φ G H v (Ev.vw μ r) := by
  cases h with
  | own h1 h2 h3 h4 => rw [vw_mkL]; exact .own h1 h4
  | odic h1 h2 h3 h4 => exact .odic h1 h4
  | rr h =>
    cases r with
    | d x => exact .rr h
    | dic x => exact .rr h
    | ins c x => exact .rr h
    | ls x => exact .rr h
    | scr x => exact .rr h
    | rep x => exact .rr h
    | p n =>
      cases h with
      | p hn =>
        rename_i a
        cases q : μ[n]? with
        | none => rw [Ev.vw_none q]; exact .rr (.p hn)
        | some c =>
          have hc := k.cell n a c hn q
          cases hc with
          | lst h1 h2 =>
            rename_i xs ds
            have e : (Ev.R.d (.lst ds)) = Ev.mkL (ds.map .d) := by
              unfold Ev.mkL
              have := Ev.valsR_map (fun x : Ev.D => x) ds
              simp only [List.map_id'] at this
              rw [this]
            rw [Ev.vw_lst q, e]
            exact .own h1 (RRs.ofD h2)
          | dic h1 h2 => rw [Ev.vw_cdic q]; exact .odic h1 h2
          | ins h1 h2 h3 => rw [Ev.vw_cins q]; exact .rr (.p hn)
          | dn h1 h2 => rw [Ev.vw_dn q]; exact .rr (.p hn)
          | dead => rw [Ev.vw_dead q]; exact .rr (.p hn)
theorem Vw.dr {x : Ev.D} (h : Vw Γ φ G H v (.d x)) (le : Same G H) : DR Γ.K H v x := by
  generalize e : Ev.R.d x = r at h
  cases h with
  | rr h => subst e; exact DR.mono le h.inv_d
  | own h1 h2 =>
    rename_i a xs rs
    unfold Ev.mkL at e
    split at e
    · rename_i ds e2
      cases e
      exact .lst h1 (DRs.mono le (h2.vals e2))
    · cases e
  | odic => cases e
theorem Vw.dp {x : Ev.D} (h : Vw Γ φ G H v (.d x)) (le : Same G H) : Dp Γ.K H v (toPy x) := (h.dr le).dp
theorem Vw.rrOf {x : Ev.D} (h : Vw Γ φ G H v (.d x)) (hl : ∀ ds, x ≠ .lst ds) : DR Γ.K G v x := by
  generalize e : Ev.R.d x = r at h
  cases h with
  | rr h => subst e; exact h.inv_d
  | own h1 h2 =>
    unfold Ev.mkL at e
    split at e
    · cases e; exact absurd rfl (hl _)
    · cases e
  | odic => cases e
theorem Vw.list {ds : List Ev.D} (h : Vw Γ φ G H v (.d (.lst ds))) (le : Same G H) : ∃ a xs, v = .ref a ∧ H a = some (.lst xs) ∧ DRs Γ.K G xs ds := by
  generalize e : Ev.R.d (.lst ds) = r at h
  cases h with
  | rr h =>
    subst e
    cases h.inv_d with
    | lst h1 h2 => exact ⟨_, _, rfl, le _ _ h1, h2⟩
  | own h1 h2 =>
    unfold Ev.mkL at e
    split at e
    · rename_i ds' e2
      cases e
      exact ⟨_, _, rfl, h1, h2.vals e2⟩
    · cases e
  | odic => cases e
theorem Vw.tuple {ds : List Ev.D} (h : Vw Γ φ G H v (.d (.tup ds))) : ∃ a xs, v = .ref a ∧ SqT Γ.K G a xs ∧ DRs Γ.K G xs ds := by
  cases h.rrOf (fun _ z => by cases z) with
  | tup h1 h2 => exact ⟨_, _, rfl, h1, h2⟩
theorem Vw.int {i : Int} (h : Vw Γ φ G H v (.d (.int i))) : v = .int i := by
  cases h.rrOf (fun _ z => by cases z); rfl
theorem Vw.str {i : String} (h : Vw Γ φ G H v (.d (.str i))) : v = .str (Str.ofString i) := by
  cases h.rrOf (fun _ z => by cases z); rfl
theorem Vw.bl {i : Bool} (h : Vw Γ φ G H v (.d (.bl i))) : v = .bl i := by
  cases h.rrOf (fun _ z => by cases z); rfl
theorem Vw.non (h : Vw Γ φ G H v (.d .non)) : v = .non := by
  cases h.rrOf (fun _ z => by cases z); rfl
theorem Vw.scr {ns : List Int} (h : Vw Γ φ G H v (.scr ns)) (le : Same G H) : ∃ a, v = .ref a ∧ SqL Γ.K H a (ns.map V.int) := by
  generalize e : Ev.R.scr ns = r at h
  cases h with
  | rr h =>
    subst e
    cases h with
    | scr h1 => exact ⟨_, rfl, le.seq h1⟩
  | own h1 h2 =>
    unfold Ev.mkL at e
    split at e <;> cases e
  | odic => cases e
theorem Vw.rep {x : Ev.D} (h : Vw Γ φ G H v (.rep x)) : v = .str (toPy x).shown := by
  generalize e : Ev.R.rep x = r at h
  cases h with
  | rr h =>
    subst e
    cases h with
    | rep => rfl
  | own h1 h2 =>
    unfold Ev.mkL at e
    split at e <;> cases e
  | odic => cases e
theorem Vw.ls {rs : List Ev.R} (h : Vw Γ φ G H v (.ls rs)) (le : Same G H) : ∃ a xs, v = .ref a ∧ H a = some (.lst xs) ∧ RRs Γ φ G xs rs := by
  generalize e : Ev.R.ls rs = r at h
  cases h with
  | rr h =>
    subst e
    cases h with
    | ls h1 h2 => exact ⟨_, _, rfl, le _ _ h1, h2⟩
  | own h1 h2 =>
    unfold Ev.mkL at e
    split at e
    · cases e
    · cases e; exact ⟨_, _, rfl, h1, h2⟩
  | odic => cases e
theorem Vw.dic {kvs : List (Ev.Ky × Ev.R)} (h : Vw Γ φ G H v (.dic kvs)) (le : Same G H) : ∃ a ks, v = .ref a ∧ H a = some (.dK ks) ∧ RKs Γ φ G ks kvs := by
  generalize e : Ev.R.dic kvs = r at h
  cases h with
  | rr h =>
    subst e
    cases h with
    | dic h1 h2 => exact ⟨_, _, rfl, le _ _ h1, h2⟩
  | own h1 h2 =>
    unfold Ev.mkL at e
    split at e <;> cases e
  | odic h1 h2 => cases e; exact ⟨_, _, rfl, h1, h2⟩
theorem RR.vw (h : RR Γ φ G v r) (k : Ok Γ φ G H μ) : Vw Γ φ G H v (Ev.vw μ r) := (PV.rr h).vw k
theorem RR.int {i : Int} (h : RR Γ φ G v (.d (.int i))) : v = .int i := (Vw.rr (H := G) h).int
theorem RR.bl {i : Bool} (h : RR Γ φ G v (.d (.bl i))) : v = .bl i := (Vw.rr (H := G) h).bl
theorem RR.str {i : String} (h : RR Γ φ G v (.d (.str i))) : v = .str (Str.ofString i) := (Vw.rr (H := G) h).str
theorem RR.non (h : RR Γ φ G v (.d .non)) : v = .non := (Vw.rr (H := G) h).non
end

inductive SlotR (Γ : Ct) (φ : List Addr) (G H : Hp) : Option V → Ev.Sl → Prop
  | un {o : Option V} : SlotR Γ φ G H o .un
  | v {v : V} {r : Ev.R} : RR Γ φ G v r → SlotR Γ φ G H (some v) (.v r)
  | own {a : Addr} {xs : List V} {rs : List Ev.R} : H a = some (.lst xs) → a ∉ φ → G a = none → RRs Γ φ G xs rs → SlotR Γ φ G H (some (.ref a)) (.own rs)
  | odic {a : Addr} {ks : List (Key × V)} {kvs : List (Ev.Ky × Ev.R)} : H a = some (.dK ks) → a ∉ φ → G a = none → RKs Γ φ G ks kvs → SlotR Γ φ G H (some (.ref a)) (.odic kvs)
def isOwn : Ev.Sl → Bool
  | .own _ => true
  | .odic _ => true
  | _ => false
structure EnvR (Γ : Ct) (φ : List Addr) (G H : Hp) (σ : L2.St) (ρ : Ev.Env) : Prop where
  len : σ.length = ρ.length
  at_ : ∀ (i : Nat) (s : Ev.Sl), ρ[i]? = some s → ∃ o, σ[i]? = some o ∧ SlotR Γ φ G H o s
  ap : ∀ (i j : Nat) (a : Addr) (s t : Ev.Sl), ρ[i]? = some s → ρ[j]? = some t → isOwn s = true → isOwn t = true → σ[i]? = some (some (V.ref a)) → σ[j]? = some (some (V.ref a)) → i = j
section
variable {Γ : Ct} {φ φ' : List Addr} {G G' H H' : Hp} {σ : L2.St} {ρ : Ev.Env}
theorem SlotR.ext {o : Option V} {s : Ev.Sl} (h : SlotR Γ φ G H o s) (a : Ext φ G H φ' G' H') : SlotR Γ φ' G' H' o s := by
  cases h with
  | un => exact .un
  | v h => exact .v (a.rr h)
  | own h1 h2 h3 h4 =>
    obtain ⟨k1, k2, k3⟩ := a.keep h1 h2 h3
    exact .own k1 k2 k3 (a.rrs h4)
  | odic h1 h2 h3 h4 =>
    obtain ⟨k1, k2, k3⟩ := a.keep h1 h2 h3
    exact .odic k1 k2 k3 (h4.mono a.g a.ix)
theorem EnvR.ext (h : EnvR Γ φ G H σ ρ) (a : Ext φ G H φ' G' H') : EnvR Γ φ' G' H' σ ρ :=
  ⟨h.len, fun i s e => let ⟨o, e1, e2⟩ := h.at_ i s e; ⟨o, e1, e2.ext a⟩, h.ap⟩
theorem EnvR.set (h : EnvR Γ φ G H σ ρ) {i : Nat} {v : V} {r : Ev.R} (hr : RR Γ φ G v r) : EnvR Γ φ G H (σ.set i (some v)) (ρ.set i (.v r)) := by
  refine ⟨by simp [h.len], fun j s e => ?_, fun j k a s t e1 e2 o1 o2 q1 q2 => ?_⟩
  · by_cases hj : i = j
    · subst hj
      by_cases hl : i < ρ.length
      · rw [List.getElem?_set_self hl] at e
        cases e
        exact ⟨some v, List.getElem?_set_self (by rw [h.len]; exact hl), .v hr⟩
      · rw [List.getElem?_eq_none (by simpa using hl)] at e; cases e
    · rw [List.getElem?_set_ne hj] at e ⊢
      exact h.at_ j s e
  · by_cases hj : i = j
    · subst hj
      by_cases hl : i < ρ.length
      · rw [List.getElem?_set_self hl] at e1
        cases e1; cases o1
      · rw [List.getElem?_eq_none (by simpa using hl)] at e1; cases e1
    · by_cases hk : i = k
      · subst hk
        by_cases hl : i < ρ.length
        · rw [List.getElem?_set_self hl] at e2
          cases e2; cases o2
        · rw [List.getElem?_eq_none (by simpa using hl)] at e2; cases e2
      · rw [List.getElem?_set_ne hj] at e1 q1
        rw [List.getElem?_set_ne hk] at e2 q2
        exact h.ap j k a s t e1 e2 o1 o2 q1 q2
theorem EnvR.un (h : EnvR Γ φ G H σ ρ) {i : Nat} : EnvR Γ φ G H (σ.set i none) (ρ.set i .un) := by
  refine ⟨by simp [h.len], fun j s e => ?_, fun j k a s t e1 e2 o1 o2 q1 q2 => ?_⟩
  · by_cases hj : i = j
    · subst hj
      by_cases hl : i < ρ.length
      · rw [List.getElem?_set_self hl] at e
        cases e
        exact ⟨none, List.getElem?_set_self (by rw [h.len]; exact hl), .un⟩
      · rw [List.getElem?_eq_none (by simpa using hl)] at e; cases e
    · rw [List.getElem?_set_ne hj] at e ⊢
      exact h.at_ j s e
  · by_cases hj : i = j
    · subst hj
      by_cases hl : i < ρ.length
      · rw [List.getElem?_set_self hl] at e1
        cases e1; cases o1
      · rw [List.getElem?_eq_none (by simpa using hl)] at e1; cases e1
    · by_cases hk : i = k
      · subst hk
        by_cases hl : i < ρ.length
        · rw [List.getElem?_set_self hl] at e2
          cases e2; cases o2
        · rw [List.getElem?_eq_none (by simpa using hl)] at e2; cases e2
      · rw [List.getElem?_set_ne hj] at e1 q1
        rw [List.getElem?_set_ne hk] at e2 q2
        exact h.ap j k a s t e1 e2 o1 o2 q1 q2
theorem EnvR.wipe (h : EnvR Γ φ G H σ ρ) : ∀ vs : List Nat, EnvR Γ φ G H (wipe σ vs) (Ev.wipeE ρ vs)
  | [] => h
  | v :: vs => (EnvR.wipe h vs).un
end
end EvS
end

section
set_option maxHeartbeats 0
set_option Elab.async false
set_option linter.all false
set_option maxRecDepth 100000
namespace EvS
open PySem PySem.Spec PyProof.Rows L2

def ExR (Γ : Ct) (φ : List Addr) (G H : Hp) (c : Value) (od : Option Addr) (e : Ev.Exn) : Prop :=
  c = .ref (Γ.ca.cls e.cls) ∧ (e.fs = [] ∨ ∃ d fs, od = some d ∧ H d = some (.xd fs) ∧ RFs Γ φ G fs e.fs)

section
variable (Γ : Ct) (E : XK) (φ : List Addr) (G H : Hp)
def post {α β : Type} (o : Ev.Out α) (Rel : List Addr → Hp → Hp → β → α → Prop) (Q : β → Hp → Prop) : Prop := match o with
  | .ok x μ => ∀ v φ' G' H', Ext φ G H φ' G' H' → Ok Γ φ' G' H' μ → Rel φ' G' H' v x → Q v H'
  | .exn e μ => ∀ c od φ' G' H', Ext φ G H φ' G' H' → Ok Γ φ' G' H' μ → ExR Γ φ' G' H' c od e → E c od H'
  | .no => False
end
section
variable {Γ : Ct} {E : XK} {φ : List Addr} {G H : Hp}
theorem post_ext {α β : Type} {φ1 : List Addr} {G1 H1 : Hp} {o : Ev.Out α} {Rel : List Addr → Hp → Hp → β → α → Prop} {Q : β → Hp → Prop} (x : Ext φ G H φ1 G1 H1) (h : post Γ E φ G H o Rel Q) : post Γ E φ1 G1 H1 o Rel Q := by
  cases o with
  | ok _ μ => exact fun v φ' G' H' a b c => h v φ' G' H' (x.trans a) b c
  | exn e μ => exact fun c od φ' G' H' a b d => h c od φ' G' H' (x.trans a) b d
  | no => exact h
theorem post_bind {α γ β δ : Type} {o : Ev.Out α} {k : α → Ev.Mem → Ev.Out γ} {Rel1 : List Addr → Hp → Hp → δ → α → Prop} {Rel : List Addr → Hp → Hp → β → γ → Prop} {Q : β → Hp → Prop} {Q1 : δ → Hp → Prop}
    (h : post Γ E φ G H (o.bind k) Rel Q)
    (hk : ∀ v1 φ1 G1 H1 x μ1, o = .ok x μ1 → Ext φ G H φ1 G1 H1 → Ok Γ φ1 G1 H1 μ1 → Rel1 φ1 G1 H1 v1 x → post Γ E φ1 G1 H1 (k x μ1) Rel Q → Q1 v1 H1) : post Γ E φ G H o Rel1 Q1 := by
  cases o with
  | ok x μ => exact fun v φ' G' H' a b c => hk v φ' G' H' x μ rfl a b c (post_ext a h)
  | exn e μ => exact h
  | no => exact h
theorem post_ok {α β : Type} {x : α} {μ : Ev.Mem} {Rel : List Addr → Hp → Hp → β → α → Prop} {Q : β → Hp → Prop} {v : β} (h : post Γ E φ G H (.ok x μ) Rel Q) (k : Ok Γ φ G H μ) (r : Rel φ G H v x) : Q v H := h v φ G H Ext.refl k r
theorem post_lift {α β : Type} {o : Option α} {μ : Ev.Mem} {Rel : List Addr → Hp → Hp → β → α → Prop} {Q : β → Hp → Prop} (h : post Γ E φ G H (Ev.lift o μ) Rel Q) : ∃ x, o = some x ∧ post Γ E φ G H (.ok x μ) Rel Q := by
  cases o with
  | some x => exact ⟨x, rfl, h⟩
  | none => exact h.elim
end
abbrev rRR (Γ : Ct) : List Addr → Hp → Hp → V → Ev.R → Prop := fun φ G _ v r => RR Γ φ G v r
abbrev rPV (Γ : Ct) : List Addr → Hp → Hp → V → Ev.R → Prop := fun φ G H v r => PV Γ φ G H v r
abbrev rB : List Addr → Hp → Hp → Bool → Bool → Prop := fun _ _ _ b k => b = k
abbrev rRRs (Γ : Ct) : List Addr → Hp → Hp → List V → List Ev.R → Prop := fun φ G _ v r => RRs Γ φ G v r
inductive PVs (Γ : Ct) (φ : List Addr) (G H : Hp) : List V → List Ev.R → Prop
  | nil : PVs Γ φ G H [] []
  | cons {v : V} {vs : List V} {r : Ev.R} {rs : List Ev.R} : PV Γ φ G H v r → PVs Γ φ G H vs rs → PVs Γ φ G H (v :: vs) (r :: rs)
inductive Vws (Γ : Ct) (φ : List Addr) (G H : Hp) : List V → List Ev.R → Prop
  | nil : Vws Γ φ G H [] []
  | cons {v : V} {vs : List V} {r : Ev.R} {rs : List Ev.R} : Vw Γ φ G H v r → Vws Γ φ G H vs rs → Vws Γ φ G H (v :: vs) (r :: rs)
abbrev rPVs (Γ : Ct) : List Addr → Hp → Hp → List V → List Ev.R → Prop := fun φ G H v r => PVs Γ φ G H v r
theorem PVs.ext {Γ : Ct} {φ φ' : List Addr} {G G' H H' : Hp} (a : Ext φ G H φ' G' H') : ∀ {vs : List V} {rs : List Ev.R}, PVs Γ φ G H vs rs → PVs Γ φ' G' H' vs rs
  | _, _, .nil => .nil
  | _, _, .cons h t => .cons (h.ext a) (PVs.ext a t)
theorem PVs.vws {Γ : Ct} {φ : List Addr} {G H : Hp} {μ : Ev.Mem} (k : Ok Γ φ G H μ) : ∀ {vs : List V} {rs : List Ev.R}, PVs Γ φ G H vs rs → Vws Γ φ G H vs (rs.map (Ev.vw μ))
  | _, _, .nil => .nil
  | _, _, .cons h t => .cons (h.vw k) (PVs.vws k t)

section
variable (Γ : Ct) (W : WX)
def tE (f : Ev.E) : TE := fun σ H Q => ∃ φ G ρ μ, Ok Γ φ G H μ ∧ EnvR Γ φ G H σ ρ ∧ post Γ (WE W σ) φ G H (f ρ μ) (rRR Γ) Q
def tV (f : Ev.E) : TE := fun σ H Q => ∃ φ G ρ μ, Ok Γ φ G H μ ∧ EnvR Γ φ G H σ ρ ∧ post Γ (WE W σ) φ G H (f ρ μ) (rPV Γ) Q
def tT (f : Ev.T) : TT := fun σ H Q => ∃ φ G ρ μ, Ok Γ φ G H μ ∧ EnvR Γ φ G H σ ρ ∧ post Γ (WE W σ) φ G H (f ρ μ) rB Q
def tA (fs : List Ev.E) : TA := fun σ H Q => ∃ φ G ρ μ, Ok Γ φ G H μ ∧ EnvR Γ φ G H σ ρ ∧ post Γ (WE W σ) φ G H (Ev.evs fs ρ μ) (rRRs Γ) Q
def tAV (fs : List Ev.E) : TA := fun σ H Q => ∃ φ G ρ μ, Ok Γ φ G H μ ∧ EnvR Γ φ G H σ ρ ∧ post Γ (WE W σ) φ G H (Ev.evs fs ρ μ) (rPVs Γ) Q
end
abbrev ct (X : Cx) (ca : Cn) : Ct := ⟨X.K, ca, X.w⟩
theorem PE.imp {X : Cx} {e : Expr} {t t' : TE} (h : PE X e t) (i : ∀ σ H Q, t' σ H Q → t σ H Q) : PE X e t' := ⟨fun pins s σ H Q I q => h.run pins s σ H Q I (i σ H Q q)⟩
theorem PT.imp {X : Cx} {e : Expr} {t t' : TT} (h : PT X e t) (i : ∀ σ H Q, t' σ H Q → t σ H Q) : PT X e t' := ⟨fun pins s σ H Q I q => h.run pins s σ H Q I (i σ H Q q)⟩
theorem PW.imp {X : Cx} {e : Expr} {t t' : TT} (h : PW X e t) (i : ∀ σ H Q, t' σ H Q → t σ H Q) : PW X e t' := ⟨fun wh pins s σ H Q I q => h.run wh pins s σ H Q I (i σ H Q q)⟩
theorem PA.imp {X : Cx} {e : List Expr} {t t' : TA} (h : PA X e t) (i : ∀ σ H Q, t' σ H Q → t σ H Q) : PA X e t' := ⟨fun pos pins s σ H Q I q => h.run pos pins s σ H Q I (i σ H Q q)⟩
theorem PS.imp {X : Cx} {e : Stmt} {t t' : TS} (h : PS X e t) (i : ∀ D σ H, t' D σ H → t D σ H) : PS X e t' := ⟨fun pins s σ H D I q => h.run pins s σ H D I (i D σ H q)⟩
theorem PSs.imp {X : Cx} {e : List Stmt} {t t' : TS} (h : PSs X e t) (i : ∀ D σ H, t' D σ H → t D σ H) : PSs X e t' := ⟨fun pins s σ H D I q => h.run pins s σ H D I (i D σ H q)⟩
theorem PI.imp {X : Cx} {tg e : Expr} {t t' : TI} (h : PI X tg e t) (i : ∀ σ H Q, t' σ H Q → t σ H Q) : PI X tg e t' := ⟨fun pins s σ H Q I q => h.run pins s σ H Q I (i σ H Q q)⟩

structure RoomG (k : Nat) (A : Around) : Prop where
  r : Room k A
  g : A.guards = some []
structure XS (X : Cx) (W : WX) (k : Nat) : Prop where
  calm : X.calm = true
  nd : X.N.Nodup
  room : RoomG k X.A
  tk : Takes X W
  po : PassesOwn (model X.prog X.w) X.A X.env X.xe
  fw : ∀ (c : Value) (d : Option Addr) (σ σ' : L2.St) (H : Hp), W c d σ H → W c d σ' H

structure Slk (X : Cx) (k : Nat) : Prop where
  dp : X.A.depth + 3 * k + 7 < recursionLimit
  un : X.A.units + 16 * k + 213 < cLine
section
variable {X : Cx} {W : WX} {ca : Cn} {k : Nat}

theorem se_v {i : Nat} {x : Str} {pos : Pos} (hN : X.N[i]? = some x) (hv : Vis X.env.scope x) (hd : (x == ("__debug__" : Str)) = false := by decide) (hcd : (x == ("__classdict__" : Str)) = false := by decide) : PE X (.Name x pos) (tE (ct X ca) W (Ev.eV i)) := by
  refine PE.imp (pe_var hN hv hd hcd) fun σ H Q h => ?_
  obtain ⟨φ, G, ρ, μ, ok, en, h⟩ := h
  unfold Ev.eV at h
  split at h
  · rename_i r e
    obtain ⟨o, e1, e2⟩ := en.at_ i _ e
    cases e2 with
    | v hr => exact ⟨_, e1, post_ok h ok hr⟩
  · exact h.elim
theorem sv_b {i : Nat} {x : Str} {pos : Pos} (hN : X.N[i]? = some x) (hv : Vis X.env.scope x) (hd : (x == ("__debug__" : Str)) = false := by decide) (hcd : (x == ("__classdict__" : Str)) = false := by decide) : PE X (.Name x pos) (tV (ct X ca) W (Ev.eB i)) := by
  refine PE.imp (pe_var hN hv hd hcd) fun σ H Q h => ?_
  obtain ⟨φ, G, ρ, μ, ok, en, h⟩ := h
  unfold Ev.eB at h
  split at h
  · rename_i r e
    obtain ⟨o, e1, e2⟩ := en.at_ i _ e
    cases e2 with
    | own h1 h2 h3 h4 => exact ⟨_, e1, post_ok h ok (.own h1 h2 h3 h4)⟩
  · rename_i r e
    obtain ⟨o, e1, e2⟩ := en.at_ i _ e
    cases e2 with
    | odic h1 h2 h3 h4 => exact ⟨_, e1, post_ok h ok (.odic h1 h2 h3 h4)⟩
  · exact h.elim
theorem SV {e : Expr} {f : Ev.E} (h : PE X e (tE (ct X ca) W f)) : PE X e (tV (ct X ca) W f) := PE.imp h fun σ H Q q => by
  obtain ⟨φ, G, ρ, μ, ok, en, q⟩ := q
  refine ⟨φ, G, ρ, μ, ok, en, ?_⟩
  generalize f ρ μ = o at q
  cases o with
  | ok x μ => exact fun v φ' G' H' a b c => q v φ' G' H' a b (.rr c)
  | exn e μ => exact q
  | no => exact q
theorem se_c {e : Expr} {v : V} {x : Ev.D} (h : PE X e (tC v)) (r : ∀ G, DR X.K G v x) : PE X e (tE (ct X ca) W (Ev.eC x)) := PE.imp h fun σ H Q q => by
  obtain ⟨φ, G, ρ, μ, ok, en, q⟩ := q
  unfold Ev.eC at q
  exact post_ok q ok (.d (r G))
theorem se_int {i j pos} : PE X (.Constant (.int i) j pos) (tE (ct X ca) W (Ev.eC (.int i))) := se_c pe_int fun _ => .int i
theorem se_bl {i j pos} : PE X (.Constant (.bool i) j pos) (tE (ct X ca) W (Ev.eC (.bl i))) := se_c pe_bl fun _ => .bl i
theorem se_non {j pos} : PE X (.Constant .none j pos) (tE (ct X ca) W (Ev.eC .non)) := se_c pe_non fun _ => .non
theorem se_str {s : String} {x : Str} {j pos} (e : x = Str.ofString s := by rfl) : PE X (.Constant (.str x) j pos) (tE (ct X ca) W (Ev.eC (.str s))) := se_c (v := .str (Str.ofString s)) (by rw [e]; exact pe_str) fun _ => .str s
theorem sa_nil : PA X [] (tA (ct X ca) W []) := PA.imp pa_nil fun σ H Q q => by
  obtain ⟨φ, G, ρ, μ, ok, en, q⟩ := q
  exact post_ok q ok .nil
theorem sa_cons {e : Expr} {es : List Expr} {f : Ev.E} {fs : List Ev.E} (h1 : PE X e (tE (ct X ca) W f)) (h2 : PA X es (tA (ct X ca) W fs)) (hs : starEach (e :: es) X.env = (false, eval e X.env) :: starEach es X.env := by rfl) :
    PA X (e :: es) (tA (ct X ca) W (f :: fs)) := PA.imp (pa_cons h1 h2 hs) fun σ H Q q => by
  obtain ⟨φ, G, ρ, μ, ok, en, q⟩ := q
  rw [Ev.evs_cons] at q
  refine ⟨φ, G, ρ, μ, ok, en, post_bind q fun v1 φ1 G1 H1 x μ1 _ ext ok1 r1 q1 => ?_⟩
  refine ⟨φ1, G1, ρ, μ1, ok1, en.ext ext, post_bind q1 fun v2 φ2 G2 H2 xs μ2 _ ext2 ok2 r2 q2 => ?_⟩
  exact post_ok q2 ok2 (.cons (ext2.rr r1) r2)
theorem sav_nil : PA X [] (tAV (ct X ca) W []) := PA.imp pa_nil fun σ H Q q => by
  obtain ⟨φ, G, ρ, μ, ok, en, q⟩ := q
  exact post_ok q ok .nil
theorem sav_cons {e : Expr} {es : List Expr} {f : Ev.E} {fs : List Ev.E} (h1 : PE X e (tV (ct X ca) W f)) (h2 : PA X es (tAV (ct X ca) W fs)) (hs : starEach (e :: es) X.env = (false, eval e X.env) :: starEach es X.env := by rfl) :
    PA X (e :: es) (tAV (ct X ca) W (f :: fs)) := PA.imp (pa_cons h1 h2 hs) fun σ H Q q => by
  obtain ⟨φ, G, ρ, μ, ok, en, q⟩ := q
  rw [Ev.evs_cons] at q
  refine ⟨φ, G, ρ, μ, ok, en, post_bind q fun v1 φ1 G1 H1 x μ1 _ ext ok1 r1 q1 => ?_⟩
  refine ⟨φ1, G1, ρ, μ1, ok1, en.ext ext, post_bind q1 fun v2 φ2 G2 H2 xs μ2 _ ext2 ok2 r2 q2 => ?_⟩
  exact post_ok q2 ok2 (.cons (r1.ext ext2) r2)
theorem se_tup {es : List Expr} {fs : List Ev.E} {x1 pos} (h : PA X es (tA (ct X ca) W fs)) : PE X (.Tuple es x1 pos) (tE (ct X ca) W (Ev.eTup fs)) := PE.imp (pe_tup h) fun σ H Q q => by
  obtain ⟨φ, G, ρ, μ, ok, en, q⟩ := q
  unfold Ev.eTup at q
  refine ⟨φ, G, ρ, μ, ok, en, post_bind q fun vs φ1 G1 H1 x μ1 _ ext ok1 r1 q1 => ?_⟩
  split at q1
  · rename_i ds e
    have hl : vs.length = ds.length := (r1.vals e).len
    split at q1
    · rename_i hz
      rw [SL_eq] at hz
      refine ⟨by omega, fun p hp => ?_⟩
      refine q1 _ φ1 _ _ (Ext.new ok1 hp) (ok1.new hp) (.d (.tup (.inl (.inl upd_same)) ?_))
      exact (r1.vals e).mono (same_upd (ok1.ng hp))
    · exact q1.elim
  · exact q1.elim
inductive Nw (Γ : Ct) (φ : List Addr) (G H : Hp) (a : Addr) : Ev.R → Prop
  | lst {xs : List V} {rs : List Ev.R} : H a = some (.lst xs) → RRs Γ φ G xs rs → Nw Γ φ G H a (Ev.mkL rs)
  | dic {ks : List (Key × V)} {kvs : List (Ev.Ky × Ev.R)} : H a = some (.dK ks) → RKs Γ φ G ks kvs → Nw Γ φ G H a (.dic kvs)
def postN (Γ : Ct) (E : XK) (φ : List Addr) (G H : Hp) (o : Ev.Out Ev.R) (Q : VK) : Prop := match o with
  | .ok x μ => ∀ a φ' G' H', Ext φ G H φ' G' H' → Ok Γ φ' G' H' μ → H a = none → G' a = none → a ∉ φ' → Nw Γ φ' G' H' a x → Q (.ref a) H'
  | .exn e μ => ∀ c od φ' G' H', Ext φ G H φ' G' H' → Ok Γ φ' G' H' μ → ExR Γ φ' G' H' c od e → E c od H'
  | .no => False
theorem Ext.back {Γ : Ct} {φ φ1 : List Addr} {G G1 H H1 : Hp} {μ : Ev.Mem} (a : Ext φ G H φ1 G1 H1) (k : Ok Γ φ1 G1 H1 μ) {p : Addr} (hp : H1 p = none) : H p = none := by
  cases q : H p with
  | none => rfl
  | some o =>
    by_cases hm : p ∈ φ
    · obtain ⟨ψ, e, _⟩ := a.p
      obtain ⟨u, hu⟩ := k.thr p (by rw [e]; exact List.mem_append_left _ hm)
      rw [hu] at hp; cases hp
    · obtain ⟨o2, z⟩ := a.fs q hm
      rw [z] at hp; cases hp
theorem postN_bind {Γ : Ct} {E : XK} {φ : List Addr} {G H : Hp} {α δ : Type} {o : Ev.Out α} {k : α → Ev.Mem → Ev.Out Ev.R} {Rel1 : List Addr → Hp → Hp → δ → α → Prop} {Q : VK} {Q1 : δ → Hp → Prop}
    (h : postN Γ E φ G H (o.bind k) Q)
    (hk : ∀ v1 φ1 G1 H1 x μ1, o = .ok x μ1 → Ext φ G H φ1 G1 H1 → Ok Γ φ1 G1 H1 μ1 → Rel1 φ1 G1 H1 v1 x → postN Γ E φ1 G1 H1 (k x μ1) Q → Q1 v1 H1) : post Γ E φ G H o Rel1 Q1 := by
  cases o with
  | ok x μ =>
    refine fun v φ' G' H' a b c => hk v φ' G' H' x μ rfl a b c ?_
    have h : postN Γ E φ G H (k x μ) Q := h
    generalize k x μ = o2 at h
    cases o2 with
    | ok y μ2 => exact fun p φ2 G2 H2 a2 b2 c2 => h p φ2 G2 H2 (a.trans a2) b2 (a.back b c2)
    | exn e μ2 => exact fun c od φ2 G2 H2 a2 b2 => h c od φ2 G2 H2 (a.trans a2) b2
    | no => exact h
  | exn e μ => exact h
  | no => exact h
def tN (Γ : Ct) (W : WX) (f : Ev.E) : TE := fun σ H Q => ∃ φ G ρ μ, Ok Γ φ G H μ ∧ EnvR Γ φ G H σ ρ ∧ postN Γ (WE W σ) φ G H (f ρ μ) Q
theorem freeze {Γ : Ct} {φ φ' : List Addr} {G G' H H' : Hp} {μ : Ev.Mem} {a : Addr} {o : HO} (ext : Ext φ G H φ' G' H') (ok : Ok Γ φ' G' H' μ) (hn : H a = none ∨ a ∈ φ) (ng : G' a = none) (na : a ∉ φ') (ho : H' a = some o) (hot : ∀ q, o ≠ .tbl q := by intro q z; cases z) :
    Ext φ G H φ' (upd G' a o) H' ∧ Ok Γ φ' (upd G' a o) H' μ := by
  refine ⟨⟨ext.g.trans (same_upd ng), fun c hc => ?_, ext.p, ext.f⟩, ⟨fun c u hc => ?_, ok.nd, ok.len, fun c hc => ?_, ok.thr, fun n c d h1 h2 => (ok.cell n c d h1 h2).keep (same_upd ng) (fun _ _ z => z) (fun _ z => z) fun _ z => z, fun p hp => ?_⟩⟩
  · by_cases hca : c = a
    · subst hca; exact .inr hn
    · rw [upd_ne hca] at hc
      exact ext.gn c hc
  · by_cases hca : c = a
    · subst hca; rw [upd_same] at hc; cases hc; exact ho
    · rw [upd_ne hca] at hc; exact ok.le c u hc
  · rw [upd_ne (show c ≠ a from fun z => na (by rw [← z]; exact hc))]; exact ok.fre c hc
  · obtain ⟨⟨ps, e, t⟩, h2, h3⟩ := ok.tb p hp
    refine ⟨⟨ps, e, t⟩, h2, ?_⟩
    rw [upd_ne (fun z => by rw [z, ho] at e; exact hot ps (Option.some.inj e))]; exact h3
theorem tN_of {Γ : Ct} {f : Ev.E} {σ : L2.St} {H : Hp} {Q : VK} (q : tE Γ W f σ H Q) : tN Γ W f σ H Q := by
  obtain ⟨φ, G, ρ, μ, ok, en, q⟩ := q
  refine ⟨φ, G, ρ, μ, ok, en, ?_⟩
  generalize f ρ μ = o at q
  cases o with
  | exn e μ => exact q
  | no => exact q
  | ok x μ =>
    intro a φ' G' H' ext ok' hn ng na r
    cases r with
    | lst h1 h2 =>
      obtain ⟨e1, e2⟩ := freeze ext ok' (.inl hn) ng na h1
      exact q _ _ _ _ e1 e2 (RR.mkL upd_same (h2.mono (same_upd ng) fun _ _ z => z))
    | dic h1 h2 =>
      obtain ⟨e1, e2⟩ := freeze ext ok' (.inl hn) ng na h1
      exact q _ _ _ _ e1 e2 (.dic upd_same (h2.mono (same_upd ng) fun _ _ z => z))
theorem SN {e : Expr} {f : Ev.E} (h : PE X e (tN (ct X ca) W f)) : PE X e (tE (ct X ca) W f) := PE.imp h fun σ H Q q => tN_of q
theorem postN_lst {Γ : Ct} {E : XK} {φ : List Addr} {G H : Hp} {μ : Ev.Mem} {rs : List Ev.R} {xs : List V} {p : Addr} {Q : VK} (h : postN Γ E φ G H (.ok (Ev.mkL rs) μ) Q) (ok : Ok Γ φ G H μ) (hp : H p = none) (r : RRs Γ φ G xs rs) :
    Q (.ref p) (upd H p (.lst xs)) := by
  have h : ∀ a φ' G' H', Ext φ G H φ' G' H' → Ok Γ φ' G' H' μ → H a = none → G' a = none → a ∉ φ' → Nw Γ φ' G' H' a (Ev.mkL rs) → Q (.ref a) H' := h
  exact h p φ G _ (Ext.of_same (same_upd hp)) (ok.new0 hp) hp (ok.ng hp) (ok.nphi hp) (.lst upd_same r)
theorem mkL_d (ds : List Ev.D) : Ev.mkL (ds.map .d) = .d (.lst ds) := by
  unfold Ev.mkL
  have := Ev.valsR_map (fun x : Ev.D => x) ds
  simp only [List.map_id'] at this
  rw [this]
theorem sn_lst {es : List Expr} {fs : List Ev.E} {pos} (h : PA X es (tA (ct X ca) W fs)) : PE X (.List es pos) (tN (ct X ca) W (Ev.eLst fs)) := PE.imp (pe_lst h) fun σ H Q q => by
  obtain ⟨φ, G, ρ, μ, ok, en, q⟩ := q
  unfold Ev.eLst at q
  refine ⟨φ, G, ρ, μ, ok, en, postN_bind q fun vs φ1 G1 H1 x μ1 _ ext ok1 r1 q1 => ?_⟩
  split at q1
  · rename_i ds e
    have hl : vs.length = ds.length := (r1.vals e).len
    split at q1
    · rename_i hz
      rw [SL_eq] at hz
      refine ⟨by omega, fun p hp => ?_⟩
      rw [← mkL_d] at q1
      exact postN_lst q1 ok1 hp (RRs.ofD (r1.vals e))
    · exact q1.elim
  · exact q1.elim

def rD (Γ : Ct) (f : Ev.R → Ev.R → Option Ev.R) : R2 := fun v u H Q => ∃ φ G μ x y z, Ok Γ φ G H μ ∧ Vw Γ φ G H v x ∧ Vw Γ φ G H u y ∧ f x y = some z ∧ ∀ r φ' G' H', Ext φ G H φ' G' H' → Ok Γ φ' G' H' μ → RR Γ φ' G' r z → Q r H'
def rDN (Γ : Ct) (f : Ev.R → Ev.R → Option Ev.R) : R2 := fun v u H Q => ∃ φ G μ x y z, Ok Γ φ G H μ ∧ Vw Γ φ G H v x ∧ Vw Γ φ G H u y ∧ f x y = some z ∧ ∀ E, postN Γ E φ G H (.ok z μ) Q
def rC (Γ : Ct) (f : Ev.R → Ev.R → Option Bool) : R2 := fun v u H Q => ∃ φ G μ x y b, Ok Γ φ G H μ ∧ Vw Γ φ G H v x ∧ Vw Γ φ G H u y ∧ f x y = some b ∧ Q (.bl b) H
theorem se_op {op : Operator} {f : Ev.R → Ev.R → Option Ev.R} {a b : Expr} {fa fb : Ev.E} {pos : Pos} (ho : OpR X (binaryOp op) (rD (ct X ca) f)) (ha : PE X a (tV (ct X ca) W fa)) (hb : PE X b (tV (ct X ca) W fb)) :
    PE X (.BinOp a op b pos) (tE (ct X ca) W (Ev.eOp f fa fb)) := PE.imp (pe_op ho ha hb) fun σ H Q q => by
  obtain ⟨φ, G, ρ, μ, ok, en, q⟩ := q
  unfold Ev.eOp at q
  refine ⟨φ, G, ρ, μ, ok, en, post_bind q fun v1 φ1 G1 H1 x μ1 _ ext ok1 r1 q1 => ?_⟩
  refine ⟨φ1, G1, ρ, μ1, ok1, en.ext ext, post_bind q1 fun v2 φ2 G2 H2 y μ2 _ ext2 ok2 r2 q2 => ?_⟩
  obtain ⟨z, e, q2⟩ := post_lift q2
  exact ⟨φ2, G2, μ2, _, _, z, ok2, (r1.ext ext2).vw ok2, r2.vw ok2, e, q2⟩
theorem sn_op {op : Operator} {f : Ev.R → Ev.R → Option Ev.R} {a b : Expr} {fa fb : Ev.E} {pos : Pos} (ho : OpR X (binaryOp op) (rDN (ct X ca) f)) (ha : PE X a (tV (ct X ca) W fa)) (hb : PE X b (tV (ct X ca) W fb)) :
    PE X (.BinOp a op b pos) (tN (ct X ca) W (Ev.eOp f fa fb)) := PE.imp (pe_op ho ha hb) fun σ H Q q => by
  obtain ⟨φ, G, ρ, μ, ok, en, q⟩ := q
  unfold Ev.eOp at q
  refine ⟨φ, G, ρ, μ, ok, en, postN_bind q fun v1 φ1 G1 H1 x μ1 _ ext ok1 r1 q1 => ?_⟩
  have q1 := (postN_bind (Rel1 := rPV (ct X ca)) q1 fun v2 φ2 G2 H2 y μ2 _ ext2 ok2 r2 q2 => (show rDN (ct X ca) f v1 v2 H2 Q from ?_))
  · exact ⟨φ1, G1, ρ, μ1, ok1, en.ext ext, q1⟩
  · cases e : f (Ev.vw μ2 x) (Ev.vw μ2 y) with
    | none => rw [e] at q2; exact q2.elim
    | some z =>
      rw [e] at q2
      exact ⟨φ2, G2, μ2, _, _, z, ok2, (r1.ext ext2).vw ok2, r2.vw ok2, e, fun E => by
        have q2 : ∀ a φ' G' H', Ext φ2 G2 H2 φ' G' H' → Ok (ct X ca) φ' G' H' μ2 → H2 a = none → G' a = none → a ∉ φ' → Nw (ct X ca) φ' G' H' a z → Q (.ref a) H' := q2
        exact q2⟩
theorem st_cmp {op : CmpOp} {f : Ev.R → Ev.R → Option Bool} {a b : Expr} {fa fb : Ev.E} {pos : Pos} (ho : OpR X (compareOp op) (rC (ct X ca) f)) (ha : PE X a (tV (ct X ca) W fa)) (hb : PE X b (tV (ct X ca) W fb)) (hm : behindInMarks op b = false) :
    PT X (.Compare a [op] [b] pos) (tT (ct X ca) W (Ev.tCmp f fa fb)) := PT.imp (pt_cmpR ho ha hb hm) fun σ H Q q => by
  obtain ⟨φ, G, ρ, μ, ok, en, q⟩ := q
  unfold Ev.tCmp at q
  refine ⟨φ, G, ρ, μ, ok, en, post_bind q fun v1 φ1 G1 H1 x μ1 _ ext ok1 r1 q1 => ?_⟩
  refine ⟨φ1, G1, ρ, μ1, ok1, en.ext ext, post_bind q1 fun v2 φ2 G2 H2 y μ2 _ ext2 ok2 r2 q2 => ?_⟩
  obtain ⟨z, e, q2⟩ := post_lift q2
  exact ⟨φ2, G2, μ2, _, _, z, ok2, (r1.ext ext2).vw ok2, r2.vw ok2, e, z, rfl, post_ok q2 ok2 rfl⟩
theorem se_cmp {op : CmpOp} {f : Ev.R → Ev.R → Option Bool} {a b : Expr} {fa fb : Ev.E} {pos : Pos} (ho : OpR X (compareOp op) (rC (ct X ca) f)) (ha : PE X a (tV (ct X ca) W fa)) (hb : PE X b (tV (ct X ca) W fb)) (hm : behindInMarks op b = false) :
    PE X (.Compare a [op] [b] pos) (tE (ct X ca) W (Ev.eT (Ev.tCmp f fa fb))) := PE.imp (pe_cmpR ho ha hb hm) fun σ H Q q => by
  obtain ⟨φ, G, ρ, μ, ok, en, q⟩ := q
  unfold Ev.eT Ev.tCmp at q
  simp only [Ev.bind_assoc] at q
  refine ⟨φ, G, ρ, μ, ok, en, post_bind q fun v1 φ1 G1 H1 x μ1 _ ext ok1 r1 q1 => ?_⟩
  refine ⟨φ1, G1, ρ, μ1, ok1, en.ext ext, post_bind q1 fun v2 φ2 G2 H2 y μ2 _ ext2 ok2 r2 q2 => ?_⟩
  cases e : f (Ev.vw μ2 x) (Ev.vw μ2 y) with
  | none => rw [e] at q2; exact q2.elim
  | some z =>
    rw [e] at q2
    exact ⟨φ2, G2, μ2, _, _, z, ok2, (r1.ext ext2).vw ok2, r2.vw ok2, e, post_ok q2 ok2 (.d (.bl z))⟩
end
end EvS
end

section
set_option maxHeartbeats 0
set_option Elab.async false
set_option linter.all false
set_option maxRecDepth 100000
namespace EvS
open PySem PySem.Spec PyProof.Rows L2
section
variable {X : Cx} {W : WX} {ca : Cn} {k : Nat}

theorem DRs.nil_iff {K : PySem.W.Frag} {G : Hp} {xs : List V} {ds : List Ev.D} (h : DRs K G xs ds) : xs = [] ↔ ds = [] := by
  cases h with
  | nil => simp
  | cons => simp
theorem opD_add : OpR X (binaryOp .Add) (rD (ct X ca) Ev.addR) := by
  intro pins s σ H v u vv uu Q I rv ru h
  obtain ⟨φ, G, μ, x, y, z, ok, hx, hy, e, q⟩ := h
  unfold Ev.addR at e
  split at e
  · cases e
    have e1 := hx.int; have e2 := hy.int
    subst e1 e2
    exact op_add pins s σ H _ _ vv uu Q I rv ru ⟨_, _, rfl, rfl, q _ φ G H Ext.refl ok (.d (.int _))⟩
  · split at e
    · rename_i hz
      cases e
      have e1 := hx.str; have e2 := hy.str
      subst e1 e2
      refine op_add_str pins s σ H _ _ vv uu Q I rv ru ⟨_, _, rfl, rfl, by rw [len_ofString, len_ofString, ← SL_eq]; exact hz, ?_⟩
      rw [← ofString_append]
      exact q _ φ G H Ext.refl ok (.d (.str _))
    · cases e
  · split at e
    · rename_i hz
      cases e
      obtain ⟨a, xs, e1, h1, r1⟩ := hx.list ok.le
      obtain ⟨b, ys, e2, h2, r2⟩ := hy.list ok.le
      subst e1 e2
      refine op_cat pins s σ H _ _ vv uu Q I rv ru ⟨a, b, xs, ys, rfl, rfl, h1, h2, by rw [r1.len, r2.len, ← SL_eq]; exact hz, fun p hp => ?_⟩
      exact q _ φ _ _ (Ext.new ok hp) (ok.new hp) (.d (.lst upd_same ((r1.append r2).mono (same_upd (ok.ng hp)))))
    · cases e
  · split at e
    · rename_i hz
      cases e
      obtain ⟨a, xs, e1, h1, r1⟩ := hx.tuple
      obtain ⟨b, ys, e2, h2, r2⟩ := hy.tuple
      subst e1 e2
      refine op_catA pins s σ H _ _ vv uu Q I rv ru ⟨a, b, xs, ys, rfl, rfl, Same.seqT ok.le h1, Same.seqT ok.le h2, by rw [r1.len, r2.len, ← SL_eq]; exact hz, fun e0 => ?_, fun n0 e0 => ?_, fun n0 n1 p hp => ?_⟩
      · rw [r1.nil_iff.mp e0, List.nil_append] at q
        exact q _ φ G H Ext.refl ok (.d (.tup h2 r2))
      · rw [r2.nil_iff.mp e0, List.append_nil] at q
        exact q _ φ G H Ext.refl ok (.d (.tup h1 r1))
      · exact q _ φ _ _ (Ext.new ok hp) (ok.new hp) (.d (.tup (.inl (.inl upd_same)) ((r1.append r2).mono (same_upd (ok.ng hp)))))
    · cases e
  · cases e
theorem opD_addL : OpR X (binaryOp .Add) (rDN (ct X ca) Ev.addL) := by
  intro pins s σ H v u vv uu Q I rv ru h
  obtain ⟨φ, G, μ, x, y, z, ok, hx, hy, e, q⟩ := h
  unfold Ev.addL at e
  split at e
  · split at e
    · rename_i hz
      cases e
      obtain ⟨a, xs, e1, h1, r1⟩ := hx.list ok.le
      obtain ⟨b, ys, e2, h2, r2⟩ := hy.list ok.le
      subst e1 e2
      refine op_cat pins s σ H _ _ vv uu Q I rv ru ⟨a, b, xs, ys, rfl, rfl, h1, h2, by rw [r1.len, r2.len, ← SL_eq]; exact hz, fun p hp => ?_⟩
      have q := q (fun _ _ _ => False)
      rw [← mkL_d] at q
      exact postN_lst q ok hp (RRs.ofD (r1.append r2))
    · cases e
  · cases e
theorem opD_sub : OpR X (binaryOp .Sub) (rD (ct X ca) Ev.subR) := by
  intro pins s σ H v u vv uu Q I rv ru h
  obtain ⟨φ, G, μ, x, y, z, ok, hx, hy, e, q⟩ := h
  unfold Ev.subR at e
  split at e
  · cases e
    have e1 := hx.int; have e2 := hy.int
    subst e1 e2
    exact op_sub pins s σ H _ _ vv uu Q I rv ru ⟨_, _, rfl, rfl, q _ φ G H Ext.refl ok (.d (.int _))⟩
  · cases e
theorem small_iff {i : Int} (h : Ev.small i = true) : -(2 ^ 64) < i ∧ i < 2 ^ 64 := by
  unfold Ev.small at h
  simp only [Bool.and_eq_true, decide_eq_true_eq] at h
  omega
theorem opD_mul : OpR X (binaryOp .Mult) (rD (ct X ca) Ev.mulR) := by
  intro pins s σ H v u vv uu Q I rv ru h
  obtain ⟨φ, G, μ, x, y, z, ok, hx, hy, e, q⟩ := h
  unfold Ev.mulR at e
  split at e
  · split at e
    · rename_i hs
      cases e
      have e1 := hx.int; have e2 := hy.int
      subst e1 e2
      refine op_mul pins s σ H _ _ vv uu Q I rv ru ⟨_, _, rfl, rfl, ?_, q _ φ G H Ext.refl ok (.d (.int _))⟩
      rcases Bool.or_eq_true_iff.mp hs with hs | hs
      · exact .inl (small_iff hs)
      · exact .inr (small_iff hs)
    · cases e
  · split at e
    · rename_i hs
      cases e
      simp only [Bool.and_eq_true, decide_eq_true_eq] at hs
      obtain ⟨⟨⟨_, hs1⟩, hs2⟩, hs3⟩ := hs
      obtain ⟨a, xs, e1, h1, r1⟩ := hx.list ok.le
      have e2 := hy.int
      subst e1 e2
      refine op_rep pins s σ H _ _ vv uu Q I rv ru ⟨a, _, xs, rfl, rfl, h1, by omega, by omega, by rw [r1.len, ← SL_eq]; exact hs3, fun p hp => ?_⟩
      exact q _ φ _ _ (Ext.new ok hp) (ok.new hp) (.d (.lst upd_same ((r1.rep _).mono (same_upd (ok.ng hp)))))
    · cases e
  · cases e
theorem opD_mod : OpR X (binaryOp .Mod) (rD (ct X ca) Ev.modR) := by
  intro pins s σ H v u vv uu Q I rv ru h
  obtain ⟨φ, G, μ, x, y, z, ok, hx, hy, e, q⟩ := h
  unfold Ev.modR at e
  split at e
  · split at e
    · rename_i hs
      cases e
      have e1 := hx.int; have e2 := hy.int
      subst e1 e2
      exact op_mod pins s σ H _ _ vv uu Q I rv ru ⟨_, _, rfl, rfl, hs, q _ φ G H Ext.refl ok (.d (.int _))⟩
    · cases e
  · cases e
theorem opD_fdiv : OpR X (binaryOp .FloorDiv) (rD (ct X ca) Ev.fdivR) := by
  intro pins s σ H v u vv uu Q I rv ru h
  obtain ⟨φ, G, μ, x, y, z, ok, hx, hy, e, q⟩ := h
  unfold Ev.fdivR at e
  split at e
  · split at e
    · rename_i hs
      cases e
      have e1 := hx.int; have e2 := hy.int
      subst e1 e2
      exact op_fdiv pins s σ H _ _ vv uu Q I rv ru ⟨_, _, rfl, rfl, hs, q _ φ G H Ext.refl ok (.d (.int _))⟩
    · cases e
  · cases e
theorem opD_pow : OpR X (binaryOp .Pow) (rD (ct X ca) Ev.powR) := by
  intro pins s σ H v u vv uu Q I rv ru h
  obtain ⟨φ, G, μ, x, y, z, ok, hx, hy, e, q⟩ := h
  unfold Ev.powR at e
  split at e
  · split at e
    · rename_i hs
      cases e
      have e1 := hx.int; have e2 := hy.int
      subst e1 e2
      have hb := small_iff hs.2.2
      exact op_pow pins s σ H _ _ vv uu Q I rv ru ⟨_, _, rfl, rfl, ⟨hs.1, hs.2.1, by omega⟩, q _ φ G H Ext.refl ok (.d (.int _))⟩
    · cases e
  · cases e
theorem opC_int {op : CmpOp} {f : Int → Int → Bool} (ho : OpR X (compareOp op) (rI0 fun i j => .bl (f i j))) : OpR X (compareOp op) (rC (ct X ca) (Ev.cmpR f)) := by
  intro pins s σ H v u vv uu Q I rv ru h
  obtain ⟨φ, G, μ, x, y, z, ok, hx, hy, e, q⟩ := h
  unfold Ev.cmpR at e
  split at e
  · cases e
    have e1 := hx.int; have e2 := hy.int
    subst e1 e2
    exact ho pins s σ H _ _ vv uu Q I rv ru ⟨_, _, rfl, rfl, q⟩
  · cases e
theorem opC_lt : OpR X (compareOp .Lt) (rC (ct X ca) Ev.ltR) := opC_int op_lt
theorem opC_le : OpR X (compareOp .LtE) (rC (ct X ca) Ev.leR) := opC_int op_le
theorem opC_gt : OpR X (compareOp .Gt) (rC (ct X ca) Ev.gtR) := opC_int op_gt
theorem opC_ge : OpR X (compareOp .GtE) (rC (ct X ca) Ev.geR) := opC_int op_ge
theorem room_min {A : Around} {a b : Ev.D} (hu : A.units + 64 < cLine) (h : min a.dep b.dep ≤ Ev.EqDep) : A.units + min (toPy a).depth (toPy b).depth < cLine := by
  rw [dep_toPy, dep_toPy]
  have : min a.dep b.dep ≤ 64 := h
  omega
theorem opC_eq (hu : X.A.units + 64 < cLine) : OpR X (compareOp .Eq) (rC (ct X ca) Ev.eqR) := by
  intro pins s σ H v u vv uu Q I rv ru h
  obtain ⟨φ, G, μ, x, y, z, ok, hx, hy, e, q⟩ := h
  unfold Ev.eqR at e
  split at e
  · rename_i x y
    unfold Ev.eqD at e
    split at e
    · rename_i hz
      cases e
      obtain ⟨as, r1⟩ := Dp.reads I _ _ _ (hx.dp ok.le) rv
      obtain ⟨bs, r2⟩ := Dp.reads I _ _ _ (hy.dp ok.le) ru
      refine SeqAt.compareEq_reads r1 r2 (canLay_toPy x) (canLay_toPy y) (room_min hu hz) ?_
      rw [eqv_toPy]
      exact ⟨.bl _, H, I, rfl, q⟩
    · cases e
  · split at e
    · rename_i hz
      cases e
      have hz := Ev.D.eq_of_same hz
      subst hz
      have e1 := hx.rep; have e2 := hy.rep
      subst e1 e2
      obtain ⟨t1, rfl⟩ := rv
      obtain ⟨t2, rfl⟩ := ru
      exact eq_str (fin_bl I q (by simp))
    · cases e
  · cases e
theorem any_toPy (x : Ev.D) : ∀ ys : List Ev.D, ((toPyL ys).any fun z => PyData.eqv z (toPy x)) = ys.any fun y => y.eqv x
  | [] => rfl
  | y :: ys => by rw [toPyL, List.any_cons, List.any_cons, any_toPy x ys, eqv_toPy]
theorem valKV {Γ : Ct} {φ : List Addr} {G : Hp} : ∀ {ks : List (Key × V)} {kvs : List (Ev.Ky × Ev.R)} (k : Ev.Ky), RKs Γ φ G ks kvs →
    (∃ v r, L2.valV ks (kyK k) = some v ∧ Ev.valK kvs k = some r ∧ RR Γ φ G v r) ∨ (L2.valV ks (kyK k) = none ∧ Ev.valK kvs k = none)
  | _, _, k, .nil => .inr ⟨rfl, rfl⟩
  | _, _, k, .cons (k := j) (v := v) (r := r) (rs := rs) h t => by
    by_cases e : j = k
    · subst e
      exact .inl ⟨v, r, valV_pos rfl, by simp [Ev.valK], h⟩
    · have e2 : ¬ kyK j = kyK k := fun z => e (kyK_inj z)
      have e3 : Ev.valK ((j, r) :: rs) k = Ev.valK rs k := by simp [Ev.valK, List.find?_cons, e]
      rw [valV_neg (p := (kyK j, v)) e2, e3]
      exact valKV k t
theorem keyOf_kV {K : PySem.W.Frag} {G : Hp} {v : V} {x : Ev.D} {k : Ev.Ky} (h : DR K G v x) (e : Ev.keyOf x = some k) : v = kV (kyK k) := by
  cases h <;> simp only [Ev.keyOf] at e <;> cases e
  · rfl
  · rfl
theorem keyOf_nl {x : Ev.D} {k : Ev.Ky} (e : Ev.keyOf x = some k) : ∀ ds, x ≠ .lst ds := fun ds z => by subst z; cases e
theorem in_core (neg : Bool) (hu : X.A.units + 65 < cLine) {pins : List (Addr × Obj)} {s : Shared} {σ : L2.St} {H : Hp} {v u : V} {vv uu : Value} {Q : VK} (I : Inv X pins σ H s) (rv : RelV v vv) (ru : RelV u uu) {φ : List Addr} {G : Hp} {μ : Ev.Mem} {x y : Ev.R} {b : Bool}
    (ok : Ok (ct X ca) φ G H μ) (hx : Vw (ct X ca) φ G H v x) (hy : Vw (ct X ca) φ G H u y) (e : Ev.inR x y = some b) (q : Q (.bl (if neg then !b else b)) H) :
    wpAny (model X.prog X.w) X.A (compareOp (if neg then .NotIn else .In) vv uu) (EP X pins σ Q) X.xe s := by
  unfold Ev.inR at e
  split at e
  · rename_i x ys
    split at e
    · rename_i hz
      cases e
      obtain ⟨as, r1⟩ := Dp.reads I _ _ _ (hx.dp ok.le) rv
      have hy' := hy.dp ok.le
      obtain ⟨bs, r2⟩ := Dp.reads I _ _ _ hy' ru
      have hr : X.A.units + 1 + min (PyData.depthAll (toPyL ys)) (toPy x).depth < cLine := by
        rw [depL_toPy, dep_toPy]
        have : min x.dep (Ev.D.depL ys) ≤ 64 := hz
        omega
      simp only [toPy] at r2
      cases neg with
      | false => exact SeqAt.in_list_reads r2 r1 (canLayL_toPy ys) (canLay_toPy x) hr ⟨.bl _, H, I, rfl, by rw [any_toPy]; exact q⟩
      | true => exact SeqAt.notIn_list_reads r2 r1 (canLayL_toPy ys) (canLay_toPy x) hr ⟨.bl _, H, I, rfl, by rw [any_toPy]; exact q⟩
    · cases e
  · rename_i x ys
    split at e
    · rename_i hz
      cases e
      obtain ⟨as, r1⟩ := Dp.reads I _ _ _ (hx.dp ok.le) rv
      have hy' := hy.dp ok.le
      obtain ⟨bs, r2⟩ := Dp.reads I _ _ _ hy' ru
      have hr : X.A.units + 1 + min (PyData.depthAll (toPyL ys)) (toPy x).depth < cLine := by
        rw [depL_toPy, dep_toPy]
        have : min x.dep (Ev.D.depL ys) ≤ 64 := hz
        omega
      simp only [toPy] at r2
      cases neg with
      | false => exact SeqAt.in_tuple_reads r2 r1 (canLayL_toPy ys) (canLay_toPy x) hr ⟨.bl _, H, I, rfl, by rw [any_toPy]; exact q⟩
      | true => exact SeqAt.notIn_tuple_reads r2 r1 (canLayL_toPy ys) (canLay_toPy x) hr ⟨.bl _, H, I, rfl, by rw [any_toPy]; exact q⟩
    · cases e
  · rename_i x kvs
    obtain ⟨k, ek, e⟩ := Option.map_eq_some_iff.mp e
    obtain ⟨a, ks, e1, h1, r1⟩ := hy.dic ok.le
    have e2 : v = kV (kyK k) := keyOf_kV (hx.rrOf (keyOf_nl ek)) ek
    subst e1 e2
    cases ru
    have hb : (L2.valV ks (kyK k)).isSome = b := by
      rw [← e]
      rcases valKV k r1 with ⟨v, r, z1, z2, _⟩ | ⟨z1, z2⟩
      · rw [z1, z2]; rfl
      · rw [z1, z2]; rfl
    cases neg with
    | false => exact d_in (by omega) I (DGet.k h1) rv fun s' I' => ⟨.bl _, H, I', rfl, by rw [hb]; exact q⟩
    | true => exact d_notIn (by omega) I (DGet.k h1) rv fun s' I' => ⟨.bl _, H, I', rfl, by rw [hb]; exact q⟩
  · cases e
theorem opC_in (hu : X.A.units + 65 < cLine) : OpR X (compareOp .In) (rC (ct X ca) Ev.inR) := by
  intro pins s σ H v u vv uu Q I rv ru h
  obtain ⟨φ, G, μ, x, y, z, ok, hx, hy, e, q⟩ := h
  exact in_core false hu I rv ru ok hx hy e q
theorem pv_non {Γ : Ct} {φ : List Addr} {G H : Hp} {v : V} {r : Ev.R} (h : PV Γ φ G H v r) : decide (v = .non) = Ev.isNonR r := by
  cases h with
  | own => unfold Ev.mkL; split <;> rfl
  | odic => rfl
  | rr h =>
    cases h with
    | d h => cases h <;> rfl
    | _ => rfl
theorem atI_map {α β : Type} (f : α → β) (xs : List α) (i : Int) : Ev.atI (xs.map f) i = (Ev.atI xs i).map f := by
  unfold Ev.atI
  rw [List.length_map]
  cases Ev.ixN xs.length i <;> simp
theorem DRs.atI {K : PySem.W.Frag} {G : Hp} {vs : List V} {ds : List Ev.D} {i : Int} {d : Ev.D} (h : DRs K G vs ds) (e : Ev.atI ds i = some d) : ∃ v, L2.atI vs i = some v ∧ DR K G v d := by
  unfold Ev.atI at e
  obtain ⟨j, e1, e2⟩ := Option.bind_eq_some_iff.mp e
  obtain ⟨v, h1, h2⟩ := h.get e2
  refine ⟨v, ?_, h2⟩
  show (L2.ixN vs.length i).bind _ = _
  rw [h.len]
  have : L2.ixN ds.length i = some j := e1
  rw [this]
  exact h1
theorem RRs.atI {Γ : Ct} {φ : List Addr} {G : Hp} {vs : List V} {ds : List Ev.R} {i : Int} {d : Ev.R} (h : RRs Γ φ G vs ds) (e : Ev.atI ds i = some d) : ∃ v, L2.atI vs i = some v ∧ RR Γ φ G v d := by
  unfold Ev.atI at e
  obtain ⟨j, e1, e2⟩ := Option.bind_eq_some_iff.mp e
  obtain ⟨v, h1, h2⟩ := h.get e2
  refine ⟨v, ?_, h2⟩
  show (L2.ixN vs.length i).bind _ = _
  rw [h.len]
  have : L2.ixN ds.length i = some j := e1
  rw [this]
  exact h1
theorem ixD : IxR X (rD (ct X ca) fun x y => match x with
    | .dic _ => none
    | x => Ev.idxR x y) := by
  intro value slice pins s σ H v u vv uu Q I rv ru h hs
  obtain ⟨φ, G, μ, x, y, z, ok, hx, hy, e, q⟩ := h
  cases x with
  | dic kvs => cases e
  | p n => cases y <;> cases e
  | rep n => cases y <;> cases e
  | ins c fs => cases y <;> cases e
  | scr ns =>
    cases y with
    | d y =>
      cases y with
      | int i =>
        obtain ⟨n, e1, e2⟩ := Option.map_eq_some_iff.mp (show (Ev.atI ns i).map _ = some z from e)
        subst e2
        obtain ⟨a, ea, h1⟩ := hx.scr ok.le
        have eu := hy.int
        subst ea eu
        have e3 : L2.atI (ns.map V.int) i = some (.int n) := by
          have := atI_map V.int ns i
          rw [e1] at this
          exact this
        exact ix_list value slice pins s σ H _ _ vv uu Q I rv ru ⟨a, _, i, _, rfl, rfl, h1, e3, q _ φ G H Ext.refl ok (.d (.int n))⟩ hs
      | _ => cases e
    | _ => cases e
  | ls rs =>
    cases y with
    | d y =>
      cases y with
      | int i =>
        have e : Ev.atI rs i = some z := e
        obtain ⟨a, xs, ea, h1, r1⟩ := hx.ls ok.le
        have eu := hy.int
        subst ea eu
        obtain ⟨w, e3, r3⟩ := r1.atI e
        exact ix_list value slice pins s σ H _ _ vv uu Q I rv ru ⟨a, _, i, _, rfl, rfl, .inl (.inl h1), e3, q _ φ G H Ext.refl ok r3⟩ hs
      | _ => cases e
    | _ => cases e
  | d x =>
    cases y with
    | d y =>
      cases y with
      | int i =>
        have eu := hy.int
        subst eu
        cases x with
        | tup ds =>
          obtain ⟨n, e1, e2⟩ := Option.map_eq_some_iff.mp (show (Ev.atI ds i).map _ = some z from e)
          subst e2
          obtain ⟨a, xs, ea, h1, r1⟩ := hx.tuple
          subst ea
          obtain ⟨w, e3, r3⟩ := r1.atI e1
          exact ix_tup value slice pins s σ H _ _ vv uu Q I rv ru ⟨a, _, i, _, rfl, rfl, Same.seqT ok.le h1, e3, q _ φ G H Ext.refl ok (.d r3)⟩ hs
        | lst ds =>
          obtain ⟨n, e1, e2⟩ := Option.map_eq_some_iff.mp (show (Ev.atI ds i).map _ = some z from e)
          subst e2
          obtain ⟨a, xs, ea, h1, r1⟩ := hx.list ok.le
          subst ea
          obtain ⟨w, e3, r3⟩ := r1.atI e1
          exact ix_list value slice pins s σ H _ _ vv uu Q I rv ru ⟨a, _, i, _, rfl, rfl, .inl (.inl h1), e3, q _ φ G H Ext.refl ok (.d r3)⟩ hs
        | str t =>
          have e : (if t.length ≤ Ev.SL then (Ev.atI t.toList i).map fun c => Ev.R.d (.str (String.ofList [c])) else none) = some z := e
          split at e
          · rename_i hz
            obtain ⟨c, e1, e2⟩ := Option.map_eq_some_iff.mp e
            subst e2
            have ea := hx.str
            subst ea
            refine ix_str value slice pins s σ H _ _ vv uu Q I rv ru ⟨_, i, c.toNat, rfl, rfl, by rw [len_ofString, ← SL_eq]; exact hz, ?_, ?_⟩ hs
            · rw [cps_ofString]
              have := atI_map Char.toNat t.toList i
              rw [e1] at this
              exact this
            · have e5 : (⟨#[c.toNat]⟩ : Str) = Str.ofString (String.ofList [c]) := by
                rw [Str.ofString_eq_toList]
                simp
              rw [e5]
              exact q _ φ G H Ext.refl ok (.d (.str _))
          · cases e
        | non => cases e
        | bl b => cases e
        | int j => cases e
      | non => cases x <;> cases e
      | bl b => cases x <;> cases e
      | str t => cases x <;> cases e
      | tup t => cases x <;> cases e
      | lst t => cases x <;> cases e
    | _ => cases x <;> cases e
theorem tail_of {prog : Program} {w : World} {A : Around} {E : Value → Shared → Prop} {s : Shared} {value slice : Expr} {T id : String} {o i : Value} {Q : Value → Shared → Prop}
    (hl : typeLookup (.type T) "__getitem__" = pure (some (.builtin id))) (hs : subscripted slice false o i = operate [o, i] (getItem o i)) (hT : s.TypeIs o T)
    (h : wpAny (model prog w) A (getItem o i) Q E s) : wpAny (model prog w) A (subscriptTail value slice o i) Q E s := by
  unfold subscriptTail
  refine wpAny_bind ?_
  rw [getitemInPython_of_ne hT.not_modules]
  refine wpAny_bind (wpAny_specialOf hT hl ?_)
  have fin : wpAny (model prog w) A (subscripted slice false o i) (fun r s₃ => wpAny (model prog w) A (letTemporaryGo value o r >>= fun _ => pure r) Q E s₃) E s := by
    rw [hs]
    exact wpAny_operating (wpAny_mono h (fun r s₃ h₃ => wpAny_bind (wpAny_letTemporaryGo (wpAny_pure h₃))) fun _ _ x => x)
  first
    | exact wpAny_pure (wpAny_bind fin)
    | exact wpAny_bind (wpAny_pure (wpAny_bind fin))
    | exact wpAny_bind fin
theorem ixDic (hu : X.A.units + 1 < cLine) : IxR X (rD (ct X ca) fun x y => match x with
    | .dic k => Ev.idxR (.dic k) y
    | _ => none) := by
  intro value slice pins s σ H v u vv uu Q I rv ru h hs
  obtain ⟨φ, G, μ, x, y, z, ok, hx, hy, e, q⟩ := h
  cases x with
  | dic kvs =>
    cases y with
    | d y =>
      obtain ⟨k, ek, e⟩ := Option.bind_eq_some_iff.mp (show (Ev.keyOf y).bind (Ev.valK kvs) = some z from e)
      obtain ⟨a, ks, e1, h1, r1⟩ := hx.dic ok.le
      have e2 : u = kV (kyK k) := keyOf_kV (hy.rrOf (keyOf_nl ek)) ek
      subst e1 e2
      cases rv
      rcases valKV k r1 with ⟨w, r, z1, z2, z3⟩ | ⟨z1, z2⟩
      · rw [e] at z2
        cases z2
        have g : DGet H a (kV (kyK k)) (some w) := by rw [← z1]; exact DGet.k h1
        exact tail_of PySem.F.slot_dict_getitem.lookup hs (dict_typeIs I g) (d_getItem hu I g ru fun w' s3 I3 rw' => ⟨w, H, I3, rw', q _ φ G H Ext.refl ok z3⟩)
      · rw [e] at z2; cases z2
    | _ => cases e
  | _ => cases e
theorem ixR (hu : X.A.units + 1 < cLine) : IxR X (rD (ct X ca) Ev.idxR) := by
  intro value slice pins s σ H v u vv uu Q I rv ru h hs
  obtain ⟨φ, G, μ, x, y, z, ok, hx, hy, e, q⟩ := h
  cases x with
  | dic kvs => exact ixDic hu value slice pins s σ H v u vv uu Q I rv ru ⟨φ, G, μ, _, y, z, ok, hx, hy, e, q⟩ hs
  | p n => exact ixD value slice pins s σ H v u vv uu Q I rv ru ⟨φ, G, μ, _, y, z, ok, hx, hy, e, q⟩ hs
  | d n => exact ixD value slice pins s σ H v u vv uu Q I rv ru ⟨φ, G, μ, _, y, z, ok, hx, hy, e, q⟩ hs
  | ins n m => exact ixD value slice pins s σ H v u vv uu Q I rv ru ⟨φ, G, μ, _, y, z, ok, hx, hy, e, q⟩ hs
  | ls n => exact ixD value slice pins s σ H v u vv uu Q I rv ru ⟨φ, G, μ, _, y, z, ok, hx, hy, e, q⟩ hs
  | scr n => exact ixD value slice pins s σ H v u vv uu Q I rv ru ⟨φ, G, μ, _, y, z, ok, hx, hy, e, q⟩ hs
  | rep n => exact ixD value slice pins s σ H v u vv uu Q I rv ru ⟨φ, G, μ, _, y, z, ok, hx, hy, e, q⟩ hs
theorem se_ix {a b : Expr} {fa fb : Ev.E} {pos : Pos} (hu : X.A.units + 1 < cLine) (ha : PE X a (tV (ct X ca) W fa)) (hb : PE X b (tE (ct X ca) W fb)) (hs : PlainIx b := by intro _ _; rfl) :
    PE X (.Subscript a b pos) (tE (ct X ca) W (Ev.eIdx fa fb)) := PE.imp (pe_ix (ixR (ca := ca) hu) ha (SV hb) hs) fun σ H Q q => by
  obtain ⟨φ, G, ρ, μ, ok, en, q⟩ := q
  unfold Ev.eIdx Ev.eOp at q
  refine ⟨φ, G, ρ, μ, ok, en, post_bind q fun v1 φ1 G1 H1 x μ1 _ ext ok1 r1 q1 => ?_⟩
  refine ⟨φ1, G1, ρ, μ1, ok1, en.ext ext, post_bind q1 fun v2 φ2 G2 H2 y μ2 _ ext2 ok2 r2 q2 => ?_⟩
  obtain ⟨z, e, q2⟩ := post_lift q2
  exact ⟨φ2, G2, μ2, _, _, z, ok2, (r1.ext ext2).vw ok2, r2.vw ok2, e, q2⟩

theorem DRs.cut {K : PySem.W.Frag} {G : Hp} {vs : List V} {ds : List Ev.D} (h : DRs K G vs ds) (lo hi : Option Int) : DRs K G (cutV vs lo hi) (Ev.cut ds lo hi) := by
  have e : cutV vs lo hi = (vs.drop (Ev.sIx ds.length 0 lo)).take (Ev.sIx ds.length ds.length hi - Ev.sIx ds.length 0 lo) := by
    rw [← h.len]; rfl
  rw [e]
  exact (h.drop _).take _
theorem cut_whole {α : Type} {xs : List α} {lo hi : Option Int} (h1 : Ev.sIx xs.length 0 lo = 0) (h2 : Ev.sIx xs.length xs.length hi = xs.length) : Ev.cut xs lo hi = xs := by
  unfold Ev.cut
  rw [h1, h2]
  simp
def rS (Γ : Ct) (f : Ev.R → Option Int → Option Int → Option Ev.R) : V → Option Int → Option Int → Hp → VK → Prop := fun v lo hi H Q => ∃ φ G μ x z, Ok Γ φ G H μ ∧ Vw Γ φ G H v x ∧ f x lo hi = some z ∧ ∀ r φ' G' H', Ext φ G H φ' G' H' → Ok Γ φ' G' H' μ → RR Γ φ' G' r z → Q r H'
theorem slR : SlR X (rS (ct X ca) Ev.slcR) := by
  intro pins s σ H v vv vl vu lo hi sl Q I rv hs pl pu h
  obtain ⟨φ, G, μ, x, z, ok, hx, e, q⟩ := h
  unfold Ev.slcR at e
  split at e
  · rename_i ds
    cases e
    obtain ⟨a, xs, e1, h1, r1⟩ := hx.tuple
    subst e1
    refine sl_tupA pins s σ H _ vv vl vu lo hi sl Q I rv hs pl pu ⟨a, xs, rfl, Same.seqT ok.le h1, fun hw => ?_, fun hw p hp => ?_⟩
    · have e2 : Ev.cut ds lo hi = ds := cut_whole (by rw [← r1.len]; exact hw.1) (by rw [← r1.len]; exact hw.2)
      rw [e2] at q
      exact q _ φ G H Ext.refl ok (.d (.tup h1 r1))
    · exact q _ φ _ _ (Ext.new ok hp) (ok.new hp) (.d (.tup (.inl (.inl upd_same)) ((r1.cut lo hi).mono (same_upd (ok.ng hp)))))
  · rename_i ds
    cases e
    obtain ⟨a, xs, e1, h1, r1⟩ := hx.list ok.le
    subst e1
    refine sl_list pins s σ H _ vv vl vu lo hi sl Q I rv hs pl pu ⟨a, xs, rfl, .inl (.inl h1), fun p hp => ?_⟩
    exact q _ φ _ _ (Ext.new ok hp) (ok.new hp) (.d (.lst upd_same ((r1.cut lo hi).mono (same_upd (ok.ng hp)))))
  · cases e
def tO (Γ : Ct) (W : WX) (f : Ev.O) : TO := fun σ H Q => ∃ φ G ρ μ, Ok Γ φ G H μ ∧ EnvR Γ φ G H σ ρ ∧ post Γ (WE W σ) φ G H (f ρ μ) (fun _ _ _ a b => a = b) Q
theorem PO.imp {e : Option Expr} {t t' : TO} (h : PO X e t) (i : ∀ σ H Q, t' σ H Q → t σ H Q) : PO X e t' := ⟨fun pins s σ H Q I q => h.run pins s σ H Q I (i σ H Q q)⟩
theorem so_n : PO X none (tO (ct X ca) W Ev.oN) := PO.imp po_none fun σ H Q q => by
  obtain ⟨φ, G, ρ, μ, ok, en, q⟩ := q
  unfold Ev.oN at q
  exact post_ok q ok rfl
theorem so_e {e : Expr} {f : Ev.E} (h : PE X e (tE (ct X ca) W f)) : PO X (some e) (tO (ct X ca) W (Ev.oE f)) := PO.imp (po_some h) fun σ H Q q => by
  obtain ⟨φ, G, ρ, μ, ok, en, q⟩ := q
  unfold Ev.oE at q
  refine ⟨φ, G, ρ, μ, ok, en, post_bind q fun v1 φ1 G1 H1 x μ1 _ ext ok1 r1 q1 => ?_⟩
  split at q1
  · exact ⟨_, r1.int, post_ok q1 ok1 rfl⟩
  · exact q1.elim
theorem se_slc {a : Expr} {fa : Ev.E} {lo hi : Option Expr} {fl fh : Ev.O} {p2 pos : Pos} (ha : PE X a (tV (ct X ca) W fa)) (hl : PO X lo (tO (ct X ca) W fl)) (hh : PO X hi (tO (ct X ca) W fh)) :
    PE X (.Subscript a (.Slice lo hi none p2) pos) (tE (ct X ca) W (Ev.eSlc fa fl fh)) := PE.imp (pe_slice (slR (ca := ca)) ha hl hh) fun σ H Q q => by
  obtain ⟨φ, G, ρ, μ, ok, en, q⟩ := q
  unfold Ev.eSlc at q
  refine ⟨φ, G, ρ, μ, ok, en, post_bind q fun v1 φ1 G1 H1 x μ1 _ ext ok1 r1 q1 => ?_⟩
  refine ⟨φ1, G1, ρ, μ1, ok1, en.ext ext, post_bind q1 fun l φ2 G2 H2 y μ2 _ ext2 ok2 r2 q2 => ?_⟩
  subst r2
  refine ⟨φ2, G2, ρ, μ2, ok2, (en.ext ext).ext ext2, post_bind q2 fun h φ3 G3 H3 y μ3 _ ext3 ok3 r3 q3 => ?_⟩
  subst r3
  obtain ⟨z, e, q3⟩ := post_lift q3
  exact ⟨φ3, G3, μ3, _, z, ok3, ((r1.ext ext2).ext ext3).vw ok3, e, q3⟩

theorem st_isN {a : Expr} {fa : Ev.E} {j pos pos'} (ha : PE X a (tV (ct X ca) W fa)) : PT X (.Compare a [.Is] [.Constant .none j pos'] pos) (tT (ct X ca) W (Ev.tIsN fa)) := PT.imp (pt_cmp (pc_isN ha)) fun σ H Q q => by
  obtain ⟨φ, G, ρ, μ, ok, en, q⟩ := q
  unfold Ev.tIsN at q
  refine ⟨φ, G, ρ, μ, ok, en, post_bind q fun v1 φ1 G1 H1 x μ1 _ ext ok1 r1 q1 => ?_⟩
  exact ⟨_, rfl, post_ok q1 ok1 (pv_non r1)⟩
theorem sw_and1 {a : Expr} {f : Ev.T} {pos} (h : PT X a (tT (ct X ca) W f)) : PW X (.BoolOp .And [a] pos) (tT (ct X ca) W f) := pw_and1 h
theorem sw_or1 {a : Expr} {f : Ev.T} {pos} (h : PT X a (tT (ct X ca) W f)) : PW X (.BoolOp .Or [a] pos) (tT (ct X ca) W f) := pw_or1 h
theorem sw_and {a b : Expr} {rest : List Expr} {f g : Ev.T} {pos} (h : PT X a (tT (ct X ca) W f)) (h2 : PW X (.BoolOp .And (b :: rest) pos) (tT (ct X ca) W g)) : PW X (.BoolOp .And (a :: b :: rest) pos) (tT (ct X ca) W (Ev.tAnd f g)) := PW.imp (pw_and h h2) fun σ H Q q => by
  obtain ⟨φ, G, ρ, μ, ok, en, q⟩ := q
  unfold Ev.tAnd at q
  refine ⟨φ, G, ρ, μ, ok, en, post_bind q fun c φ1 G1 H1 x μ1 _ ext ok1 r1 q1 => ?_⟩
  subst r1
  cases c with
  | true => exact ⟨φ1, G1, ρ, μ1, ok1, en.ext ext, q1⟩
  | false => exact post_ok (Rel := rB) q1 ok1 rfl
theorem sw_or {a b : Expr} {rest : List Expr} {f g : Ev.T} {pos} (h : PT X a (tT (ct X ca) W f)) (h2 : PW X (.BoolOp .Or (b :: rest) pos) (tT (ct X ca) W g)) : PW X (.BoolOp .Or (a :: b :: rest) pos) (tT (ct X ca) W (Ev.tOr f g)) := PW.imp (pw_or h h2) fun σ H Q q => by
  obtain ⟨φ, G, ρ, μ, ok, en, q⟩ := q
  unfold Ev.tOr at q
  refine ⟨φ, G, ρ, μ, ok, en, post_bind q fun c φ1 G1 H1 x μ1 _ ext ok1 r1 q1 => ?_⟩
  subst r1
  cases c with
  | false => exact ⟨φ1, G1, ρ, μ1, ok1, en.ext ext, q1⟩
  | true => exact post_ok (Rel := rB) q1 ok1 rfl
theorem st_not {a : Expr} {f : Ev.T} {pos} (h : PT X a (tT (ct X ca) W f)) : PT X (.UnaryOp .Not a pos) (tT (ct X ca) W (Ev.tNot f)) := PT.imp (pt_not h) fun σ H Q q => by
  obtain ⟨φ, G, ρ, μ, ok, en, q⟩ := q
  unfold Ev.tNot at q
  refine ⟨φ, G, ρ, μ, ok, en, post_bind q fun c φ1 G1 H1 x μ1 _ ext ok1 r1 q1 => ?_⟩
  subst r1
  exact post_ok (Rel := rB) q1 ok1 rfl
end
end EvS
end

section
set_option maxHeartbeats 0
set_option Elab.async false
set_option linter.all false
set_option maxRecDepth 100000
namespace EvS
open PySem PySem.Spec PyProof.Rows L2

structure FnG (P : Program) (w : World) (K : PySem.W.Frag) (mg : Str → Option Value) (base : Heap) (k : Nat) (f : Addr) (fd : FuncData) (ps : List Str) (sp : Sp) : Prop where
  len : ∀ vs H Q E, sp vs H Q E → vs.length = ps.length
  go : ∀ (A : Around) (out : List Env) (s : Shared) (H : Hp) (args : Args) (us : List Value) (vs : List V) (Q : VK) (E : XK), RoomG k A → Env0 P w K mg base A out s H → BindsTo s fd args (ps.zip us) → Vals vs us → sp vs H Q E →
    codeAny (model P w) A (.call (.ref f) args) (CR (CX P w) out P w H s Q E) s
section
variable {X : Cx} {W : WX} {ca : Cn} {k : Nat}
theorem run_g {pins : List (Addr × Obj)} {σ : L2.St} {H : Hp} {s : Shared} {Q : VK} {us : List Value} {vs : List V} {f : Addr} {fd : FuncData} {ps : List Str} {sp : Sp} (F : FnG X.prog X.w X.K X.mg X.base k f fd ps sp) (hr : RoomG k X.A) (tk : Takes X W)
    (hb : Binds X.K fd ps []) (I : Inv X pins σ H s) (r : Vals vs us) (h : sp vs H Q (WE W σ)) : wpAny (model X.prog X.w) X.A (call (.ref f) us) (EP X pins σ Q) X.xe s := by
  have hl : us.length = ps.length := r.length.symm.trans (F.len _ _ _ _ h)
  have bt : BindsTo s fd ⟨us, []⟩ (ps.zip us) := by
    have q := hb s us I.kIn ((List.append_nil us).symm ▸ hl)
    rwa [List.append_nil] at q
  refine wpAny_call (codeAny_mono (F.go X.A X.stack s H ⟨us, []⟩ us vs Q (WE W σ) hr I.env0 bt r h) fun res s2 hq => ?_)
  match res, hq with
  | .error e, hq => exact passAt tk σ pins H s e s2 I hq
  | .ok (.ret u), hq => exact I.after hq

def spF (Γ : Ct) (np : Nat) (c : List Ev.R → Ev.Mem → Ev.Out Ev.R) : Sp := fun vs H Q E => ∃ φ G rs μ, Ok Γ φ G H μ ∧ RRs Γ φ G vs rs ∧ rs.length = np ∧ post Γ E φ G H (c rs μ) (rRR Γ) Q
def AtF (K : PySem.W.Frag) (mg : Str → Option Value) (ca : Cn) (f : String) (a : Addr) : Option (String × String) → Prop
  | none => mg (Str.ofString f) = some (.ref a)
  | some (c, m) => Meth K (ca.cls c) (Str.ofString m) a
structure Callee (X : Cx) (ca : Cn) (k : Nat) (C : Ev.Fn) (f : String) (np : Nat) (own : Option (String × String)) : Prop where
  at_ : ∃ (a : Addr) (fd : FuncData) (ps : List Str), ps.length = np ∧ AtF X.K X.mg ca f a own ∧ PySem.W.keepIn X.K (.ref a) = true ∧ Binds X.K fd ps [] ∧ FnG X.prog X.w X.K X.mg X.base k a fd ps (spF (ct X ca) np (C f))
theorem se_call {C : Ev.Fn} {f : String} {np : Nat} {x : Str} {p pos : Pos} {e : Expr} {es : List Expr} {fs : List Ev.E} (F : Callee X ca k C f np none) (xs : XS X W k) (hx : x = Str.ofString f) (hg : Gl X x) (ha : PA X (e :: es) (tA (ct X ca) W fs)) (hn : fs.length = np)
    (hdb : (x == ("__debug__" : Str)) = false := by decide) (he : starEach (e :: es) X.env = (false, eval e X.env) :: starEach es X.env := by rfl) (hpl : (backTo pos (starEach es X.env)).any (·.1) = false := by rfl) :
    PE X (.Call (.Name x p) (e :: es) [] pos) (tE (ct X ca) W (Ev.eCall C f fs)) := by
  obtain ⟨a, fd, ps, hps, hm, hk, hb, G⟩ := F.at_
  have hm : X.mg (Str.ofString f) = some (.ref a) := hm
  refine ⟨fun pins s σ H Q I q => ?_⟩
  subst hx
  refine wpAny_Call_Name_kw (ld_glob I hg hm ?_ hdb)
  refine PySem.W.callWith_K (h₀ := X.base) I.ok.mod.kin hk (thn (ha.run pos pins s σ H (fun vs H1 => spF (ct X ca) np (C f) vs H1 Q (WE W σ)) I ?_) fun us s1 ⟨vs, H1, I1, r, q⟩ => ⟨I1.kIn, run_g G xs.room xs.tk hb I1 r q⟩) he hpl
  obtain ⟨φ, G1, ρ, μ, ok, en, q⟩ := q
  unfold Ev.eCall at q
  refine ⟨φ, G1, ρ, μ, ok, en, post_bind (Rel1 := rRRs (ct X ca)) (show post (ct X ca) (WE W σ) φ G1 H ((Ev.evs fs ρ μ).bind fun rs μ => C f rs μ) (rRR _) Q from q) fun vs φ2 G2 H2 rs μ2 e2 ext ok2 r2 q2 => ?_⟩
  exact ⟨φ2, G2, rs, μ2, ok2, r2, (Ev.evs_len e2).trans hn, q2⟩
end

structure En where
  φ : List Addr
  G : Hp
  H : Hp
def Fresh (H0 : Hp) (σ : L2.St) (ρ : Ev.Env) : Prop := ∀ (i : Nat) (s : Ev.Sl) (a : Addr), ρ[i]? = some s → isOwn s = true → σ[i]? = some (some (V.ref a)) → H0 a = none
structure BS (Γ : Ct) (e : En) (φ : List Addr) (G H : Hp) (σ : L2.St) (ρ : Ev.Env) (μ : Ev.Mem) : Prop where
  ext : Ext e.φ e.G e.H φ G H
  ok : Ok Γ φ G H μ
  en : EnvR Γ φ G H σ ρ
  fr : Fresh e.H σ ρ
structure Lq (φ : List Addr) (G : Hp) (φ' : List Addr) (G' : Hp) : Prop where
  g : Same G G'
  ix : ∀ (n : Nat) (c : Addr), φ[n]? = some c → φ'[n]? = some c
theorem Lq.refl {φ : List Addr} {G : Hp} : Lq φ G φ G := ⟨Same.refl _, fun _ _ h => h⟩
theorem Lq.trans {φ φ1 φ2 : List Addr} {G G1 G2 : Hp} (a : Lq φ G φ1 G1) (b : Lq φ1 G1 φ2 G2) : Lq φ G φ2 G2 := ⟨a.g.trans b.g, fun n c h => b.ix n c (a.ix n c h)⟩
theorem Ext.lq {φ φ' : List Addr} {G G' H H' : Hp} (a : Ext φ G H φ' G' H') : Lq φ G φ' G' := ⟨a.g, a.ix⟩
def postS (Γ : Ct) (W : WX) (e : En) (φ : List Addr) (G : Hp) (σ0 : L2.St) (o : Ev.Out Ev.Fl) (D : Ends) : Prop := match o with
  | .ok (.nx ρ) μ => ∀ σ φ' G' H, BS Γ e φ' G' H σ ρ μ → Lq φ G φ' G' → D.nx σ H
  | .ok (.bk ρ) μ => ∀ σ φ' G' H, BS Γ e φ' G' H σ ρ μ → Lq φ G φ' G' → D.bk σ H
  | .ok (.ct ρ) μ => ∀ σ φ' G' H, BS Γ e φ' G' H σ ρ μ → Lq φ G φ' G' → D.ct σ H
  | .ok (.rt r) μ => ∀ v φ G H, Ext e.φ e.G e.H φ G H → Ok Γ φ G H μ → RR Γ φ G v r → D.rt v H
  | .exn x μ => ∀ c od φ G H, Ext e.φ e.G e.H φ G H → Ok Γ φ G H μ → ExR Γ φ G H c od x → W c od σ0 H
  | .no => False
def tS (Γ : Ct) (W : WX) (e : En) (f : Ev.S) : TS := fun D σ H => ∃ φ G ρ μ, BS Γ e φ G H σ ρ μ ∧ postS Γ W e φ G σ (f ρ μ) D

section
variable {Γ : Ct} {φ ψ : List Addr} {G : Hp} {m : Nat}
mutual
theorem RR.down (hm : φ.length = m) : ∀ {v : V} {r : Ev.R}, Ev.okR m r = true → RR Γ (φ ++ ψ) G v r → RR Γ φ G v r
  | _, _, _, .d h => .d h
  | _, .p n, o, .p h => by
    have hn : n < m := by simpa [Ev.okR] using o
    rw [List.getElem?_append_left (by omega)] at h
    exact .p h
  | _, _, o, .dic h h2 => .dic h (RKs.down hm (by simpa [Ev.okR] using o) h2)
  | _, _, o, .ins h h1 h2 => .ins h h1 (RFs.down hm (by simpa [Ev.okR] using o) h2)
  | _, _, o, .ls h h2 => .ls h (RRs.down hm (by simpa [Ev.okR] using o) h2)
  | _, _, _, .scr h => .scr h
  | _, _, _, .rep => .rep
theorem RRs.down (hm : φ.length = m) : ∀ {v : List V} {r : List Ev.R}, Ev.okRs m r = true → RRs Γ (φ ++ ψ) G v r → RRs Γ φ G v r
  | _, _, _, .nil => .nil
  | _, _, o, .cons h h2 => by
    simp only [Ev.okRs, Bool.and_eq_true] at o
    exact .cons (RR.down hm o.1 h) (RRs.down hm o.2 h2)
theorem RKs.down (hm : φ.length = m) : ∀ {v : List (Key × V)} {r : List (Ev.Ky × Ev.R)}, Ev.okKs m r = true → RKs Γ (φ ++ ψ) G v r → RKs Γ φ G v r
  | _, _, _, .nil => .nil
  | _, _, o, .cons h h2 => by
    simp only [Ev.okKs, Bool.and_eq_true] at o
    exact .cons (RR.down hm o.1 h) (RKs.down hm o.2 h2)
theorem RFs.down (hm : φ.length = m) : ∀ {v : List (Str × V)} {r : List (String × Ev.R)}, Ev.okFs m r = true → RFs Γ (φ ++ ψ) G v r → RFs Γ φ G v r
  | _, _, _, .nil => .nil
  | _, _, o, .cons h h2 => by
    simp only [Ev.okFs, Bool.and_eq_true] at o
    exact .cons (RR.down hm o.1 h) (RFs.down hm o.2 h2)
end
end
theorem Ok.cut {Γ : Ct} {φ ψ : List Addr} {G H : Hp} {μ : Ev.Mem} {m : Nat} (k : Ok Γ (φ ++ ψ) G H μ) (hm : φ.length = m) (hc : (μ.take m).all (Ev.okCell m) = true) : Ok Γ φ G H (μ.take m) := by
  have hlen := k.len
  rw [List.length_append] at hlen
  refine ⟨k.le, (List.nodup_append.mp k.nd).1, by rw [List.length_take]; omega, fun a ha => k.fre a (List.mem_append_left _ ha), fun a ha => k.thr a (List.mem_append_left _ ha), fun n a c h1 h2 => ?_, fun p hp => let ⟨h1, h2, h3⟩ := k.tb p hp; ⟨h1, fun z => h2 (List.mem_append_left _ z), h3⟩⟩
  have hn : n < φ.length := (List.getElem?_eq_some_iff.mp h1).1
  have h1' : (φ ++ ψ)[n]? = some a := by rw [List.getElem?_append_left hn]; exact h1
  have h2' : μ[n]? = some c := by rw [List.getElem?_take_of_lt (by omega)] at h2; exact h2
  have hcell := k.cell n a c h1' h2'
  have hok := List.all_eq_true.mp hc c (List.mem_of_getElem? h2)
  cases hcell with
  | lst a1 a2 => exact .lst a1 a2
  | dead => exact .dead
  | dn a1 a2 => exact .dn a1 a2
  | dic a1 a2 => exact .dic a1 (RKs.down hm (by simpa [Ev.okCell] using hok) a2)
  | ins a1 a2 a3 => exact .ins a1 a2 (RFs.down hm (by simpa [Ev.okCell] using hok) a3)
theorem Ext.cut {φ φ' : List Addr} {G G' H H' : Hp} (a : Ext φ G H φ' G' H') : Ext φ G H φ G' H' := ⟨a.g, a.gn, ⟨[], by simp, by simp⟩, a.f⟩
theorem post_fin {Γ : Ct} {E : XK} {φ φ' : List Addr} {G G' H H' : Hp} {μ μ' : Ev.Mem} {r : Ev.R} {v : V} {Q : VK} (k0 : φ.length = μ.length) (h : post Γ E φ G H (Ev.fin μ.length r μ') (rRR Γ) Q) (ext : Ext φ G H φ' G' H') (ok : Ok Γ φ' G' H' μ') (hr : RR Γ φ' G' v r) : Q v H' := by
  unfold Ev.fin at h
  split at h
  · exact h v φ' G' H' ext ok hr
  · split at h
    · rename_i hc
      simp only [Bool.and_eq_true] at hc
      obtain ⟨ψ, e, _⟩ := ext.p
      subst e
      exact h v φ G' H' ext.cut (ok.cut k0 hc.2) (RR.down k0 hc.1 hr)
    · exact h v φ' G' H' ext ok hr
theorem start_env {Γ : Ct} {φ : List Addr} {G H : Hp} {N : List Str} {vs : List V} {rs : List Ev.R} {nl : Nat} (h : RRs Γ φ G vs rs) (hl : N.length = nl) : EnvR Γ φ G H (L2.start N vs) (rs.map .v ++ List.replicate (nl - rs.length) .un) := by
  have hlen := h.len
  subst hl
  have noown : ∀ (i : Nat) (s : Ev.Sl), (rs.map Ev.Sl.v ++ List.replicate (N.length - rs.length) Ev.Sl.un)[i]? = some s → isOwn s = false := fun i s e => by
    have hm := List.mem_of_getElem? e
    rcases List.mem_append.mp hm with z | z
    · obtain ⟨r, _, e2⟩ := List.mem_map.mp z
      rw [← e2]; rfl
    · rw [(List.mem_replicate.mp z).2]; rfl
  refine ⟨by unfold L2.start; simp [hlen], fun i s e => ?_, fun i j a s t e1 _ o1 _ _ _ => by rw [noown i s e1] at o1; cases o1⟩
  unfold L2.start
  by_cases hi : i < rs.length
  · rw [List.getElem?_append_left (by simpa using hi), List.getElem?_map] at e
    obtain ⟨r, hr, e2⟩ := Option.map_eq_some_iff.mp e
    subst e2
    obtain ⟨v, hv, rv⟩ := h.get hr
    refine ⟨some v, ?_, .v rv⟩
    rw [List.getElem?_append_left (by simpa [hlen] using hi), List.getElem?_map, hv]
    rfl
  · rw [List.getElem?_append_right (by simpa using hi)] at e
    rw [List.length_map] at e
    have e3 := List.getElem?_replicate (a := Ev.Sl.un) (n := N.length - rs.length) (i := i - rs.length)
    rw [e] at e3
    split at e3
    · cases e3
      rename_i hk
      refine ⟨none, ?_, .un⟩
      rw [List.getElem?_append_right (by simpa [hlen] using hi), List.length_map, List.getElem?_replicate, hlen, if_pos hk]
    · cases e3
theorem fn_body {P : Program} {w : World} {K : PySem.W.Frag} {mg : Str → Option Value} {base : Heap} {k np nl : Nat} {ca : Cn} {f : Addr} {name qual : Str} {params : Arguments} {body : List Stmt} {scope : Scope} {dV kV doc pm cdv ct0 oc : Value} {an od : Option Addr}
    {osl : Array (Option Value)} {N ps : List Str} {b : Ev.S} (lk : K.lookup f = some ⟨oc, od, .func (PySem.W.fnOf name qual params body scope dV kV doc pm an cdv ct0), osl⟩) (hcd : PySem.W.codeIn K cdv qual = true) (S : FnScope N ps scope)
    (hnp : ps.length = np) (hnl : N.length = nl)
    (hb : ∀ (A : Around) (out : List Env) (s : Shared) (H : Hp) (E : XK) (e : En), XS (cxOf (CX P w) P w K mg base N qual scope f cdv A out s H E) (fun c d _ H => E c d H) k → Slk (cxOf (CX P w) P w K mg base N qual scope f cdv A out s H E) k →
      PSs (cxOf (CX P w) P w K mg base N qual scope f cdv A out s H E) body (tS ⟨K, ca, w⟩ (fun c d _ H => E c d H) e b)) :
    FnG P w K mg base (k + 1) f (PySem.W.fnOf name qual params body scope dV kV doc pm an cdv ct0) ps (spF ⟨K, ca, w⟩ np (Ev.runB nl b)) := by
  have hlen : ∀ vs H Q E, spF ⟨K, ca, w⟩ np (Ev.runB nl b) vs H Q E → vs.length = ps.length := fun vs H Q E q => by
    obtain ⟨φ, G, rs, μ, ok, r, h1, _⟩ := q
    rw [r.len, h1, hnp]
  refine ⟨hlen, fun A out s H args us vs Q E hr e0 hbt r hsp => ?_⟩
  have hl := hlen _ _ _ _ hsp
  have KX : K.In s.heap := e0.mod.kin.keeps fun b o e => (e0.bs b o e).1
  have hkind : ∀ y ∈ ps.zip us, scope.names.lookup y.1 = some .local ∨ (scope.names.lookup y.1 = some .cell ∧ ((cellsFrom (s.heap.objs.size + 1) scope.names []).lookup y.1).isSome = true) := by
    rintro ⟨n, v⟩ hy
    exact (S.par n (List.of_mem_zip hy).1).imp id fun q => ⟨q, PySem.W.cellsFrom_some _ _ _ (.inl q)⟩
  refine codeAny_call_function hr.r.depth (KX _ _ lk) rfl S.co S.gen rfl (PySem.W.codeRec_of KX hcd) (hbt _ _ _ _ ?_)
  refine wpAny_newFunctionEnv_cells S.kind hkind fun env he s1 x => ?_
  subst he
  have lim : s.heap.NoLimit := e0.mod.nolimit.keeps fun b o e => (e0.bs b o e).1
  refine ⟨lim.keeps x.toInCall.keep, codeAny_func ?_⟩
  have I : Inv (cxOf (CX P w) P w K mg base N qual scope f cdv A out s H E) [] (L2.start N vs) H s1 := inv_start S hr.r.hd e0 hl r x
  obtain ⟨φ, G, rs, μ, ok, rr, h1, h2⟩ := hsp
  have xs : XS (cxOf (CX P w) P w K mg base N qual scope f cdv A out s H E) (fun c d _ H => E c d H) k :=
    ⟨rfl, S.nd, ⟨hr.r.deeper _, hr.g⟩, takes_of rfl rfl rfl rfl, passes_of rfl, fun _ _ _ _ _ h => h⟩
  have sl : Slk (cxOf (CX P w) P w K mg base N qual scope f cdv A out s H E) k := by
    have h1 := hr.r.dp
    have h2 := hr.r.un
    exact ⟨by show A.depth + 1 + 3 * k + 7 < _; omega, by show A.units + 3 + 16 * k + 213 < _; omega⟩
  have ht := hb A out s H E ⟨φ, G, H⟩ xs sl
  refine wpAny_mono (ht.run [] s1 (L2.start N vs) H { nx := fun _ H' => Q .non H', rt := Q } I ?_) (fun fl s2 hs => ?_) fun e s2 hs => hs
  · refine ⟨φ, G, _, μ, ⟨Ext.refl, ok, start_env rr hnl, fun i s a e o _ => ?_⟩, ?_⟩
    · exfalso
      have hm := List.mem_of_getElem? e
      rcases List.mem_append.mp hm with z | z
      · obtain ⟨r, _, e2⟩ := List.mem_map.mp z
        rw [← e2] at o; cases o
      · rw [(List.mem_replicate.mp z).2] at o; cases o
    · unfold Ev.runB at h2
      generalize b (rs.map .v ++ List.replicate (nl - rs.length) .un) μ = o at h2
      cases o with
      | no => exact h2
      | exn x μ1 => exact h2
      | ok fl μ1 =>
        cases fl with
        | nx ρ => exact fun σ φ' G' H' bs _ => post_fin (v := .non) ok.len h2 bs.ext bs.ok (.d .non)
        | rt r => exact fun v φ' G' H' ext ok' hr => post_fin ok.len h2 ext ok' hr
        | bk ρ => exact h2.elim
        | ct ρ => exact h2.elim
  · have fin : ∀ {σ' : L2.St} {H' : Hp} {v : V} {u : Value}, Inv (cxOf (CX P w) P w K mg base N qual scope f cdv A out s H E) [] σ' H' s2 → RelV v u → Q v H' → CE out P w H s Q u s2 :=
      fun J rv q => ⟨_, _, J.os, J.bare, J.base, J.hok, rv, q⟩
    match fl, hs with
    | .ret u, ⟨v, σ', H', J, rv, q⟩ => exact fin J rv q
    | .next, ⟨σ', H', J, q⟩ => exact fin (v := V.non) (u := Value.none) J rfl q
    | .brk, ⟨_, _, _, q⟩ => exact q.elim
    | .cont, ⟨_, _, _, q⟩ => exact q.elim
end EvS
end

section
set_option maxHeartbeats 0
set_option Elab.async false
set_option linter.all false
set_option maxRecDepth 100000
namespace EvS
open PySem PySem.Spec PyProof.Rows L2

theorem cp_small (s : String) : ∀ c ∈ (Str.ofString s).cps.toList, c < 16 ^ 8 := by
  intro c hc
  rw [cps_ofString] at hc
  obtain ⟨a, _, rfl⟩ := List.mem_map.mp hc
  have h := a.valid
  have h2 : a.toNat = a.val.toNat := rfl
  simp only [UInt32.isValidChar, Nat.isValidChar] at h
  omega
mutual
theorem shown_cost : ∀ x : Ev.D, x.cost ≤ Ev.SL → (toPy x).shown.length ≤ x.cost
  | .non, _ => by simp only [toPy, Ev.D.cost]; decide
  | .bl b, _ => by
    simp only [toPy, Ev.D.cost]
    cases b <;> decide
  | .int i, h => by
    simp only [toPy, Ev.D.cost] at h ⊢
    by_cases hi : i.natAbs < 1000000000000
    · rw [if_pos hi]
      exact PyData.shown_int_le hi
    · rw [if_neg hi] at h ⊢
      by_cases hj : i.natAbs.log2 < 1920
      · rw [if_pos hj]
        have e := int_text_length_le (a := i) (k := 1920) (by decide) hj
        show (Str.ofString (toString i)).length ≤ 1921
        rw [len_ofString]; exact e
      · rw [if_neg hj] at h; simp [Ev.SL] at h
  | .str s, _ => by
    simp only [toPy, Ev.D.cost, PyData.shown_str]
    have e := PySem.StrLaws.reprText_len (Str.ofString s) (cp_small s)
    rw [len_ofString] at e
    exact e
  | .tup ds, h => by
    simp only [toPy, Ev.D.cost] at h ⊢
    have h1 := shown_costL ds (by omega)
    have h2 := tupleText_len_le (PyData.shownAll (toPyL ds))
    have h3 := PyData.shownAll_length (toPyL ds)
    simp only [PyData.shown]
    omega
  | .lst ds, h => by
    simp only [toPy, Ev.D.cost] at h ⊢
    have h1 := shown_costL ds (by omega)
    have h2 := listText_len_le (PyData.shownAll (toPyL ds))
    have h3 := PyData.shownAll_length (toPyL ds)
    simp only [PyData.shown]
    omega
theorem shown_costL : ∀ xs : List Ev.D, Ev.D.costL xs ≤ Ev.SL → ((PyData.shownAll (toPyL xs)).map (·.length)).sum + 2 * (toPyL xs).length ≤ Ev.D.costL xs
  | [], _ => by simp [toPyL, PyData.shownAll, Ev.D.costL]
  | x :: xs, h => by
    simp only [Ev.D.costL] at h
    have h1 := shown_cost x (by omega)
    have h2 := shown_costL xs (by omega)
    simp only [toPyL, PyData.shownAll, Ev.D.costL, List.map_cons, List.sum_cons, List.length_cons]
    omega
end
theorem log2_small {n : Nat} (h : n < 1000000000000) : n.log2 < 1920 := by
  by_cases h0 : n = 0
  · subst h0; decide
  · refine (Nat.log2_lt h0).mpr (Nat.lt_trans h ?_)
    exact Nat.lt_of_lt_of_le (show 1000000000000 < 2 ^ 40 by decide) (Nat.pow_le_pow_right (by decide) (by decide))
mutual
theorem showable_cost : ∀ x : Ev.D, x.cost ≤ Ev.SL → (toPy x).showable = true
  | .non, _ => by simp [toPy, PyData.showable]
  | .bl b, _ => by simp [toPy, PyData.showable]
  | .int i, h => by
    simp only [toPy, PyData.showable, decide_eq_true_eq]
    simp only [Ev.D.cost] at h
    by_cases hi : i.natAbs < 1000000000000
    · exact log2_small hi
    · rw [if_neg hi] at h
      by_cases hj : i.natAbs.log2 < 1920
      · exact hj
      · rw [if_neg hj] at h; simp [Ev.SL] at h
  | .str s, _ => by simp [toPy, PyData.showable]
  | .tup ds, h => by
    simp only [Ev.D.cost] at h
    simp only [toPy, PyData.showable]
    exact showable_costL ds (by omega)
  | .lst ds, h => by
    simp only [Ev.D.cost] at h
    simp only [toPy, PyData.showable]
    exact showable_costL ds (by omega)
theorem showable_costL : ∀ xs : List Ev.D, Ev.D.costL xs ≤ Ev.SL → PyData.showableAll (toPyL xs) = true
  | [], _ => by simp [toPyL, PyData.showableAll]
  | x :: xs, h => by
    simp only [Ev.D.costL] at h
    simp only [toPyL, PyData.showableAll, Bool.and_eq_true]
    exact ⟨showable_cost x (by omega), showable_costL xs (by omega)⟩
end

section
variable {X : Cx} {W : WX} {ca : Cn} {k : Nat}

theorem isEmpty_len {α β : Type} {xs : List α} {ys : List β} (h : xs.length = ys.length) : xs.isEmpty = ys.isEmpty := by
  cases xs <;> cases ys <;> simp at h ⊢
theorem RKs.len {Γ : Ct} {φ : List Addr} {G : Hp} : ∀ {ks : List (Key × V)} {kvs : List (Ev.Ky × Ev.R)}, RKs Γ φ G ks kvs → ks.length = kvs.length
  | _, _, .nil => rfl
  | _, _, .cons _ h => by simp [RKs.len h]
theorem tru_of {Γ : Ct} {φ : List Addr} {G H : Hp} {v : V} {x : Ev.R} {b : Bool} (h : Vw Γ φ G H v x) (le : Same G H) (e : Ev.truthR x = some b) : TruV Γ.K v H b := by
  cases x with
  | d x =>
    cases x with
    | non => cases e; rw [h.non]; rfl
    | bl c => cases e; rw [h.bl]; rfl
    | int i => cases e; rw [h.int]; rfl
    | str s =>
      simp only [Ev.truthR] at e
      split at e
      · rename_i hz
        cases e
        rw [h.str]
        exact ⟨by rw [len_ofString, ← SL_eq]; exact hz, by rw [len_ofString]⟩
      · cases e
    | tup ds =>
      cases e
      obtain ⟨a, xs, e1, h1, r1⟩ := h.tuple
      subst e1
      exact .inr (.inl ⟨xs, Same.seqT le h1, by rw [isEmpty_len r1.len]⟩)
    | lst ds =>
      cases e
      obtain ⟨a, xs, e1, h1, r1⟩ := h.list le
      subst e1
      exact .inl ⟨xs, .inl (.inl h1), by rw [isEmpty_len r1.len]⟩
  | dic kvs =>
    cases e
    obtain ⟨a, ks, e1, h1, r1⟩ := h.dic le
    subst e1
    exact .inr (.inr ⟨ks, h1, by rw [isEmpty_len r1.len]⟩)
  | ls rs =>
    cases e
    obtain ⟨a, xs, e1, h1, r1⟩ := h.ls le
    subst e1
    exact .inl ⟨xs, .inl (.inl h1), by rw [isEmpty_len r1.len]⟩
  | scr ns =>
    cases e
    obtain ⟨a, e1, h1⟩ := h.scr le
    subst e1
    exact .inl ⟨_, h1, by rw [isEmpty_len (List.length_map _)]⟩
  | p n => cases e
  | ins c fs => cases e
  | rep x => cases e
theorem st_e {a : Expr} {f : Ev.E} (ha : PE X a (tV (ct X ca) W f)) (he : ∀ whole, isTrue a X.env whole = (do let v ← whole; standAt a.pos; holding [v] (truthy v)) := by intro _; rfl) : PT X a (tT (ct X ca) W (Ev.tE f)) :=
  PT.imp (pt_truth ha he) fun σ H Q q => by
    obtain ⟨φ, G, ρ, μ, ok, en, q⟩ := q
    unfold Ev.tE at q
    refine ⟨φ, G, ρ, μ, ok, en, post_bind q fun v1 φ1 G1 H1 x μ1 _ ext ok1 r1 q1 => ?_⟩
    obtain ⟨z, e, q2⟩ := post_lift q1
    exact ⟨z, tru_of (r1.vw ok1) ok1.le e, post_ok q2 ok1 rfl⟩
theorem se_one {op} {a : Expr} {f : Ev.E} {pos : Pos} (h : PE X a (tE (ct X ca) W f)) : PE X (.BoolOp op [a] pos) (tE (ct X ca) W f) := pe_one h
theorem se_and {a b : Expr} {rest : List Expr} {f g : Ev.E} {pos : Pos} (h : PE X a (tE (ct X ca) W f)) (h2 : PE X (.BoolOp .And (b :: rest) pos) (tE (ct X ca) W g)) : PE X (.BoolOp .And (a :: b :: rest) pos) (tE (ct X ca) W (Ev.eAnd f g)) :=
  PE.imp (pe_andT h h2) fun σ H Q q => by
    obtain ⟨φ, G, ρ, μ, ok, en, q⟩ := q
    unfold Ev.eAnd at q
    refine ⟨φ, G, ρ, μ, ok, en, post_bind q fun v1 φ1 G1 H1 x μ1 _ ext ok1 r1 q1 => ?_⟩
    split at q1
    · rename_i e
      exact ⟨true, tru_of (r1.vw ok1) ok1.le e, by rw [if_pos rfl]; exact ⟨φ1, G1, ρ, μ1, ok1, en.ext ext, q1⟩⟩
    · rename_i e
      exact ⟨false, tru_of (r1.vw ok1) ok1.le e, by rw [if_neg (by decide)]; exact post_ok q1 ok1 r1⟩
    · exact q1.elim
def rBi (Γ : Ct) (f : List Ev.R → Option Ev.R) : List V → Hp → VK → Prop := fun vs H Q => ∃ φ G μ rs z, Ok Γ φ G H μ ∧ Vws Γ φ G H vs rs ∧ f rs = some z ∧ ∀ r φ' G' H', Ext φ G H φ' G' H' → Ok Γ φ' G' H' μ → RR Γ φ' G' r z → Q r H'
def rBiN (Γ : Ct) (f : List Ev.R → Option Ev.R) : List V → Hp → VK → Prop := fun vs H Q => ∃ φ G μ rs z, Ok Γ φ G H μ ∧ Vws Γ φ G H vs rs ∧ f rs = some z ∧ ∀ E, postN Γ E φ G H (.ok z μ) Q
theorem se_bi {e : Expr} {f : List Ev.R → Option Ev.R} {fs : List Ev.E} (h : PE X e (tCB (rBi (ct X ca) f) (tAV (ct X ca) W fs))) : PE X e (tE (ct X ca) W (Ev.eBi f fs)) := PE.imp h fun σ H Q q => by
  obtain ⟨φ, G, ρ, μ, ok, en, q⟩ := q
  unfold Ev.eBi at q
  refine ⟨φ, G, ρ, μ, ok, en, post_bind q fun v1 φ1 G1 H1 x μ1 _ ext ok1 r1 q1 => ?_⟩
  obtain ⟨z, e, q2⟩ := post_lift q1
  exact ⟨φ1, G1, μ1, _, z, ok1, PVs.vws ok1 r1, e, q2⟩
theorem sn_bi {e : Expr} {f : List Ev.R → Option Ev.R} {fs : List Ev.E} (h : PE X e (tCB (rBiN (ct X ca) f) (tAV (ct X ca) W fs))) : PE X e (tN (ct X ca) W (Ev.eBi f fs)) := PE.imp h fun σ H Q q => by
  obtain ⟨φ, G, ρ, μ, ok, en, q⟩ := q
  unfold Ev.eBi at q
  refine ⟨φ, G, ρ, μ, ok, en, postN_bind q fun v1 φ1 G1 H1 x μ1 _ ext ok1 r1 q1 => ?_⟩
  cases e : f (x.map (Ev.vw μ1)) with
  | none => rw [e] at q1; exact q1.elim
  | some z =>
    rw [e] at q1
    refine ⟨φ1, G1, μ1, _, z, ok1, PVs.vws ok1 r1, e, fun E => ?_⟩
    have q1 : ∀ a φ' G' H', Ext φ1 G1 H1 φ' G' H' → Ok (ct X ca) φ' G' H' μ1 → H1 a = none → G' a = none → a ∉ φ' → Nw (ct X ca) φ' G' H' a z → Q (.ref a) H' := q1
    exact q1
theorem Vws.one {Γ : Ct} {φ : List Addr} {G H : Hp} {vs : List V} {r : Ev.R} (h : Vws Γ φ G H vs [r]) : ∃ v, vs = [v] ∧ Vw Γ φ G H v r := by
  cases h with
  | cons a b => cases b; exact ⟨_, rfl, a⟩
theorem Vws.two {Γ : Ct} {φ : List Addr} {G H : Hp} {vs : List V} {r s : Ev.R} (h : Vws Γ φ G H vs [r, s]) : ∃ v w, vs = [v, w] ∧ Vw Γ φ G H v r ∧ Vw Γ φ G H w s := by
  cases h with
  | cons a b =>
    cases b with
    | cons c d => cases d; exact ⟨_, _, rfl, a, c⟩
theorem cb_len : CallR X (.builtin "len") (rBi (ct X ca) Ev.lenR) := by
  intro pins s σ H vs us Q I rs h
  obtain ⟨φ, G, μ, xs, z, ok, r, e, q⟩ := h
  unfold Ev.lenR at e
  have fin : ∀ n : Nat, Q (.int n) H ↔ Q (.int (n : Int)) H := fun n => Iff.rfl
  split at e
  · cases e
    obtain ⟨v, e1, r1⟩ := r.one
    obtain ⟨a, ys, e2, h2, r2⟩ := r1.tuple
    subst e1 e2
    refine call_len pins s σ H _ us Q I rs ⟨_, _, rfl, .inr ⟨ys, Same.seqT ok.le h2, rfl⟩, ?_⟩
    rw [r2.len]
    exact q _ φ G H Ext.refl ok (.d (.int _))
  · cases e
    obtain ⟨v, e1, r1⟩ := r.one
    obtain ⟨a, ys, e2, h2, r2⟩ := r1.list ok.le
    subst e1 e2
    refine call_len pins s σ H _ us Q I rs ⟨_, _, rfl, .inl ⟨ys, .inl (.inl h2), rfl⟩, ?_⟩
    rw [r2.len]
    exact q _ φ G H Ext.refl ok (.d (.int _))
  · cases e
    obtain ⟨v, e1, r1⟩ := r.one
    obtain ⟨a, ys, e2, h2, r2⟩ := r1.ls ok.le
    subst e1 e2
    refine call_len pins s σ H _ us Q I rs ⟨_, _, rfl, .inl ⟨ys, .inl (.inl h2), rfl⟩, ?_⟩
    rw [r2.len]
    exact q _ φ G H Ext.refl ok (.d (.int _))
  · cases e
    obtain ⟨v, e1, r1⟩ := r.one
    obtain ⟨a, e2, h2⟩ := r1.scr ok.le
    subst e1 e2
    refine call_len pins s σ H _ us Q I rs ⟨_, _, rfl, .inl ⟨_, h2, rfl⟩, ?_⟩
    rw [List.length_map]
    exact q _ φ G H Ext.refl ok (.d (.int _))
  · cases e
    obtain ⟨v, e1, r1⟩ := r.one
    obtain ⟨a, ks, e2, h2, r2⟩ := r1.dic ok.le
    subst e1 e2
    refine call_lenD pins s σ H _ us Q I rs ⟨a, ks, rfl, h2, ?_⟩
    rw [r2.len]
    exact q _ φ G H Ext.refl ok (.d (.int _))
  · split at e
    · rename_i hz
      cases e
      obtain ⟨v, e1, r1⟩ := r.one
      have e2 := r1.str
      subst e1 e2
      refine call_len pins s σ H _ us Q I rs ⟨_, _, rfl, ⟨by rw [len_ofString, ← SL_eq]; exact hz, rfl⟩, ?_⟩
      rw [len_ofString]
      exact q _ φ G H Ext.refl ok (.d (.int _))
    · cases e
  · cases e
theorem cb_int : CallR X (.type "int") (rBi (ct X ca) Ev.intR) := by
  intro pins s σ H vs us Q I rs h
  obtain ⟨φ, G, μ, xs, z, ok, r, e, q⟩ := h
  unfold Ev.intR at e
  split at e
  · cases e
    obtain ⟨v, e1, r1⟩ := r.one
    have e2 := r1.int
    subst e1 e2
    exact call_int1 pins s σ H _ us Q I rs (.inl ⟨_, rfl, q _ φ G H Ext.refl ok (.d (.int _))⟩)
  · cases e
    obtain ⟨v, e1, r1⟩ := r.one
    have e2 := r1.bl
    subst e1 e2
    exact call_int1 pins s σ H _ us Q I rs (.inr ⟨_, rfl, q _ φ G H Ext.refl ok (.d (.int _))⟩)
  · cases e
theorem cb_tuple : CallR X (.type "tuple") (rBi (ct X ca) Ev.tupleR) := by
  intro pins s σ H vs us Q I rs h
  obtain ⟨φ, G, μ, xs, z, ok, r, e, q⟩ := h
  unfold Ev.tupleR at e
  split at e
  · cases e
    obtain ⟨v, e1, r1⟩ := r.one
    obtain ⟨a, ys, e2, h2, r2⟩ := r1.tuple
    subst e1 e2
    exact call_tuple_of pins s σ H _ us Q I rs ⟨a, ys, rfl, .inr ⟨Same.seqT ok.le h2, q _ φ G H Ext.refl ok (.d (.tup h2 r2))⟩⟩
  · cases e
    obtain ⟨v, e1, r1⟩ := r.one
    obtain ⟨a, ys, e2, h2, r2⟩ := r1.list ok.le
    subst e1 e2
    refine call_tuple_of pins s σ H _ us Q I rs ⟨a, ys, rfl, .inl ⟨.inl (.inl h2), fun l hl => ?_⟩⟩
    exact q _ φ _ _ (Ext.new ok hl) (ok.new hl) (.d (.tup (.inl (.inl upd_same)) (r2.mono (same_upd (ok.ng hl)))))
  · cases e
theorem cb_list : CallR X (.type "list") (rBiN (ct X ca) Ev.listR) := by
  intro pins s σ H vs us Q I rs h
  obtain ⟨φ, G, μ, xs, z, ok, r, e, q⟩ := h
  unfold Ev.listR at e
  split at e
  · cases e
    obtain ⟨v, e1, r1⟩ := r.one
    obtain ⟨a, ys, e2, h2, r2⟩ := r1.tuple
    subst e1 e2
    refine call_list_of pins s σ H _ us Q I rs ⟨a, ys, rfl, .inr (Same.seqT ok.le h2), fun l hl => ?_⟩
    have q := q (fun _ _ _ => True)
    rw [← mkL_d] at q
    exact postN_lst q ok hl (RRs.ofD r2)
  · cases e
    obtain ⟨v, e1, r1⟩ := r.one
    obtain ⟨a, ys, e2, h2, r2⟩ := r1.list ok.le
    subst e1 e2
    refine call_list_of pins s σ H _ us Q I rs ⟨a, ys, rfl, .inl (.inl (.inl h2)), fun l hl => ?_⟩
    have q := q (fun _ _ _ => True)
    rw [← mkL_d] at q
    exact postN_lst q ok hl (RRs.ofD r2)
  · cases e
theorem ints_some : ∀ {ds : List Ev.D} {ns : List Int}, Ev.intsD ds = some ns → ds = ns.map .int
  | [], _, h => by cases h; rfl
  | .int i :: ds, ns, h => by
    obtain ⟨ms, e1, e2⟩ := Option.map_eq_some_iff.mp (show (Ev.intsD ds).map _ = some ns from h)
    subst e2
    rw [ints_some e1]; rfl
  | .non :: _, _, h => by cases h
  | .bl _ :: _, _, h => by cases h
  | .str _ :: _, _, h => by cases h
  | .tup _ :: _, _, h => by cases h
  | .lst _ :: _, _, h => by cases h
theorem DRs.intsD {K : PySem.W.Frag} {G : Hp} : ∀ {vs : List V} {ns : List Int}, DRs K G vs (ns.map Ev.D.int) → vs = ns.map V.int
  | _, [], h => by cases h; rfl
  | _, n :: ns, h => by
    cases h with
    | cons a b =>
      cases a
      rw [DRs.intsD b]; rfl
theorem maxI_mem : ∀ (xs : List Int) (x : Int), Ev.maxI x xs ∈ x :: xs
  | [], x => by simp [Ev.maxI]
  | y :: ys, x => by
    have h := maxI_mem ys (if y > x then y else x)
    simp only [Ev.maxI, List.mem_cons] at h ⊢
    split at h <;> rename_i c <;> simp only [c, if_true, if_false] <;> rcases h with h | h <;> simp [h]
theorem maxI_ge : ∀ (xs : List Int) (x : Int), ∀ y ∈ x :: xs, y ≤ Ev.maxI x xs
  | [], x, y, h => by simp at h; simp [Ev.maxI, h]
  | z :: zs, x, y, h => by
    have h1 := maxI_ge zs (if z > x then z else x)
    simp only [Ev.maxI]
    have h0 := h1 (if z > x then z else x) (by simp)
    rcases List.mem_cons.mp h with h | h
    · subst h
      split at h0 <;> rename_i c <;> simp only [c, if_true, if_false] <;> omega
    · rcases List.mem_cons.mp h with h | h
      · subst h
        split at h0 <;> rename_i c <;> simp only [c, if_true, if_false] <;> omega
      · exact h1 y (List.mem_cons_of_mem _ h)
theorem cb_max (hc : X.calm = true) : CallR X (.builtin "max") (rBi (ct X ca) Ev.maxR) := by
  intro pins s σ H vs us Q I rs h
  obtain ⟨φ, G, μ, xs, z, ok, r, e, q⟩ := h
  unfold Ev.maxR at e
  split at e
  · cases e
    obtain ⟨v, w, e1, r1, r2⟩ := r.two
    have e2 := r1.int; have e3 := r2.int
    subst e1 e2 e3
    exact call_max2 hc pins s σ H _ us Q I rs ⟨_, _, rfl, q _ φ G H Ext.refl ok (.d (.int _))⟩
  · split at e
    · rename_i ds x xs e0
      cases e
      obtain ⟨v, e1, r1⟩ := r.one
      obtain ⟨a, ys, e2, h2, r2⟩ := r1.list ok.le
      have e3 := ints_some e0
      subst e1 e2 e3
      have e4 := r2.intsD
      subst e4
      refine cr_max hc pins s σ H _ us Q I rs ⟨a, x :: xs, rfl, .inl (.inl h2), by simp, fun m hm hb => ?_⟩
      have e5 : m = Ev.maxI x xs := Int.le_antisymm (maxI_ge xs x m hm) (hb _ (maxI_mem xs x))
      rw [e5]
      exact q _ φ G H Ext.refl ok (.d (.int _))
    · cases e
  · cases e
theorem cb_repr (hg : X.A.guards = some []) (hu : X.A.units + 65 < cLine) : CallR X (.builtin "repr") (rBi (ct X ca) Ev.reprR) := by
  intro pins s σ H vs us Q I rs h
  obtain ⟨φ, G, μ, xs, z, ok, r, e, q⟩ := h
  unfold Ev.reprR at e
  split at e
  · rename_i x
    split at e
    · rename_i hz
      cases e
      obtain ⟨v, e1, r1⟩ := r.one
      subst e1
      obtain ⟨u, e2, rv⟩ := vals1 rs
      subst e2
      have hl : (toPy x).shown.length ≤ sizeLine := Nat.le_trans (shown_cost x hz.2) (by rw [← SL_eq]; exact hz.2)
      have hd : x.dep ≤ 64 := hz.1
      have q0 : Q (.str (toPy x).shown) H := q _ φ G H Ext.refl ok .rep
      obtain ⟨as, r2⟩ := Dp.reads I _ _ _ (r1.dp ok.le) rv
      cases x with
      | non =>
        have e := r1.non; subst e
        cases (show u = Value.none from rv)
        exact PySem.P.repr_of_none ⟨.str (toPy .non).shown, H, I.tok _, ⟨s.toks, by simp only [toPy, PyData.shown_none]⟩, q0⟩
      | bl b =>
        have e := r1.bl; subst e
        cases (show u = Value.bool b from rv)
        refine PySem.P.repr_of_bool ⟨.str (toPy (.bl b)).shown, H, I.tok _, ⟨s.toks, ?_⟩, q0⟩
        simp only [toPy, PyData.shown_bool]
      | int i =>
        have e := r1.int; subst e
        obtain ⟨t, rfl⟩ := rv
        have hs := showable_cost (.int i) hz.2
        simp only [toPy, PyData.showable, decide_eq_true_eq] at hs
        exact PySem.P.repr_of_int hs ⟨.str (toPy (.int i)).shown, H, I.tok _, ⟨s.toks, by simp only [toPy, PyData.shown_int]⟩, q0⟩
      | str y =>
        have e := r1.str; subst e
        obtain ⟨t, rfl⟩ := rv
        simp only [toPy, PyData.shown_str] at q0 hl
        exact PySem.P.repr_of_str ⟨.str _, H, I.tok _, ⟨_, rfl⟩, q0⟩ hl
      | tup ds =>
        obtain ⟨a, ys, e2, h2, _⟩ := r1.tuple
        subst e2
        cases (show u = Value.ref a from rv)
        refine repr_of_reads' r2 (showable_cost _ hz.2) (PyData.noDict_hsm (PyData.hasDict_of_canLay _ (canLay_toPy _))) hg (by rw [dep_toPy]; omega) (fun b o e => e) (fun h' u tk hk => ?_) hl
        exact ⟨.str _, H, I.kept hk, ⟨_, rfl⟩, q0⟩
      | lst ds =>
        obtain ⟨a, ys, e2, h2, _⟩ := r1.list ok.le
        subst e2
        cases (show u = Value.ref a from rv)
        refine repr_of_reads' r2 (showable_cost _ hz.2) (PyData.noDict_hsm (PyData.hasDict_of_canLay _ (canLay_toPy _))) hg (by rw [dep_toPy]; omega) (fun b o e => e) (fun h' u tk hk => ?_) hl
        exact ⟨.str _, H, I.kept hk, ⟨_, rfl⟩, q0⟩
    · cases e
  · cases e

def tyNames : List String := ["NoneType", "bool", "int", "str", "tuple", "list", "dict"]
def isT (T : String) : Bool := tyNames.all fun a => kitB a T == some (Ev.isB T a)
theorem RKs.any {Γ : Ct} {φ : List Addr} {G : Hp} (k : Ev.Ky) : ∀ {ks : List (Key × V)} {kvs : List (Ev.Ky × Ev.R)}, RKs Γ φ G ks kvs → (ks.any fun kv => decide (kv.1 = kyK k)) = kvs.any fun kv => decide (kv.1 = k)
  | _, _, .nil => rfl
  | _, _, .cons (k := j) _ h => by
    rw [List.any_cons, List.any_cons, RKs.any k h]
    congr 1
    by_cases e : j = k
    · subst e; simp
    · have : ¬ kyK j = kyK k := fun z => e (kyK_inj z)
      simp [e, this]
theorem RKs.map {Γ : Ct} {φ : List Addr} {G : Hp} {v : V} {r : Ev.R} (k : Ev.Ky) (h : RR Γ φ G v r) : ∀ {ks : List (Key × V)} {kvs : List (Ev.Ky × Ev.R)}, RKs Γ φ G ks kvs →
    RKs Γ φ G (ks.map fun kv => if kv.1 = kyK k then (kv.1, v) else kv) (kvs.map fun kv => if kv.1 = k then (kv.1, r) else kv)
  | _, _, .nil => .nil
  | _, _, .cons (k := j) h1 h2 => by
    rw [List.map_cons, List.map_cons]
    by_cases e : j = k
    · subst e
      rw [if_pos rfl, if_pos rfl]
      exact .cons h (RKs.map _ h h2)
    · have : ¬ kyK j = kyK k := fun z => e (kyK_inj z)
      rw [if_neg this, if_neg e]
      exact .cons h1 (RKs.map _ h h2)
theorem RKs.snoc {Γ : Ct} {φ : List Addr} {G : Hp} {v : V} {r : Ev.R} (k : Ev.Ky) (h : RR Γ φ G v r) : ∀ {ks : List (Key × V)} {kvs : List (Ev.Ky × Ev.R)}, RKs Γ φ G ks kvs → RKs Γ φ G (ks ++ [(kyK k, v)]) (kvs ++ [(k, r)])
  | _, _, .nil => .cons h .nil
  | _, _, .cons h1 h2 => .cons h1 (RKs.snoc k h h2)
theorem RKs.put {Γ : Ct} {φ : List Addr} {G : Hp} {v : V} {r : Ev.R} {ks : List (Key × V)} {kvs : List (Ev.Ky × Ev.R)} (k : Ev.Ky) (h : RR Γ φ G v r) (q : RKs Γ φ G ks kvs) : RKs Γ φ G (L2.putK ks (kyK k) v) (Ev.putK kvs k r) := by
  unfold L2.putK Ev.putK
  rw [q.any k]
  split
  · exact q.map k h
  · exact q.snoc k h
theorem Ok.upd {Γ : Ct} {φ : List Addr} {G H : Hp} {μ : Ev.Mem} {p : Addr} {o : HO} (k : Ok Γ φ G H μ) (hp : p ∉ φ) (hg : G p = none) (hno : ∀ a, H p ≠ some (.own a)) (hnt : ∀ a, H p ≠ some (.tbl a)) : Ok Γ φ G (upd H p o) μ := by
  have ne : ∀ {b : Addr} {x : HO}, G b = some x → b ≠ p := fun {b x} e z => by subst z; rw [hg] at e; cases e
  refine ⟨fun b x e => by rw [upd_ne (ne e)]; exact k.le b x e, k.nd, k.len, k.fre, fun a ha => ?_, fun n a c h1 h2 => ?_, fun q hq => ?_⟩
  · rw [upd_ne (show a ≠ p from fun z => hp (by rw [← z]; exact ha))]; exact k.thr a ha
  · have ha : a ≠ p := fun z => hp (by rw [← z]; exact List.mem_of_getElem? h1)
    refine (k.cell n a c h1 h2).keep (Same.refl _) (fun _ _ z => z) (fun o e => by rw [upd_ne ha]; exact e) fun d e => ?_
    rw [upd_ne (show d ≠ p from fun z => hno a (by rw [← z]; exact e))]; exact e
  · obtain ⟨⟨ps, e, t⟩, h2, h3⟩ := k.tb q hq
    exact ⟨⟨ps, by rw [upd_ne (fun z => hnt ps (by rw [← z]; exact e))]; exact e, t⟩, h2, h3⟩
theorem Ext.upd {φ φ' : List Addr} {G G' H H' : Hp} {p : Addr} {o : HO} (a : Ext φ G H φ' G' H') (hp : H p = none) : Ext φ G H φ' G' (upd H' p o) :=
  ⟨a.g, a.gn, a.p, fun b x e hn => by rw [upd_ne (show b ≠ p from fun z => by rw [z, hp] at e; cases e)]; exact a.f b x e hn⟩
theorem Ext.from_new {φ φ' : List Addr} {G G' H H' : Hp} {p : Addr} {o : HO} (hp : H p = none) (a : Ext φ G (L2.upd H p o) φ' G' H') : Ext φ G H φ' G' H' := by
  have back : ∀ {b : Addr}, (L2.upd H p o) b = none → H b = none := fun {b} h => by
    by_cases hb : b = p
    · subst hb; rw [upd_same] at h; cases h
    · rw [upd_ne hb] at h; exact h
  refine ⟨a.g, fun b hb => ?_, ?_, fun b x e hn => ?_⟩
  · rcases a.gn b hb with z | z | z
    · exact .inl z
    · exact .inr (.inl (back z))
    · exact .inr (.inr z)
  · obtain ⟨ψ, e, q⟩ := a.p
    exact ⟨ψ, e, fun b hb => ⟨back (q b hb).1, (q b hb).2⟩⟩
  · exact a.f b x (by rw [upd_ne (show b ≠ p from fun z => by rw [z, hp] at e; cases e)]; exact e) hn
theorem EnvR.new0 {Γ : Ct} {φ : List Addr} {G H : Hp} {σ : L2.St} {ρ : Ev.Env} {p : Addr} {o : HO} (h : EnvR Γ φ G H σ ρ) (hp : H p = none) : EnvR Γ φ G (L2.upd H p o) σ ρ := h.ext (Ext.of_same (same_upd hp))
end
end EvS
end

section
set_option maxHeartbeats 0
set_option Elab.async false
set_option linter.all false
set_option maxRecDepth 100000
namespace EvS
open PySem PySem.Spec PyProof.Rows L2

set_option maxHeartbeats 1000000 in
structure ItR (Γ : Ct) (φ : List Addr) (G : Hp) (J : It) (rs : List Ev.R) : Prop where
  goes : ∀ i H, i < rs.length → Same G H → J.go i H
  stops : ∀ H, Same G H → J.stop rs.length H
  yields : ∀ i H x H' r, rs[i]? = some r → Same G H → J.yld i H x H' → (H' = H ∧ RR Γ φ G x r) ∨ ∃ T xs ds, x = .ref T ∧ H T = none ∧ H' = upd H T (.tup xs) ∧ r = .d (.tup ds) ∧ DRs Γ.K G xs ds
theorem ItR.ext {Γ : Ct} {φ φ' : List Addr} {G G' H H' : Hp} {J : It} {rs : List Ev.R} (h : ItR Γ φ G J rs) (a : Ext φ G H φ' G' H') : ItR Γ φ' G' J rs := by
  refine ⟨fun i H hi s => h.goes i H hi (a.g.trans s), fun H s => h.stops H (a.g.trans s), fun i H x H' r e s y => ?_⟩
  rcases h.yields i H x H' r e (a.g.trans s) y with ⟨z, q⟩ | ⟨T, xs, ds, h1, h2, h3, h4, h5⟩
  · exact .inl ⟨z, a.rr q⟩
  · exact .inr ⟨T, xs, ds, h1, h2, h3, h4, h5.mono a.g⟩
theorem ItR.walk {Γ : Ct} {φ : List Addr} {G : Hp} {J : It} {rs : List Ev.R} (h : ItR Γ φ G J rs) : Walk J rs.length (Same G) J.yld := ⟨h.goes, h.stops, fun _ _ _ _ _ _ y => y⟩
theorem ItR.turn {Γ : Ct} {φ : List Addr} {G H H' : Hp} {μ : Ev.Mem} {J : It} {rs : List Ev.R} {i : Nat} {x : V} {r : Ev.R} (h : ItR Γ φ G J rs) (ok : Ok Γ φ G H μ) (e : rs[i]? = some r) (y : J.yld i H x H') :
    ∃ G', Ext φ G H φ G' H' ∧ Ok Γ φ G' H' μ ∧ RR Γ φ G' x r := by
  rcases h.yields i H x H' r e ok.le y with ⟨z, q⟩ | ⟨T, xs, ds, h1, h2, h3, h4, h5⟩
  · subst z; exact ⟨G, Ext.refl, ok, q⟩
  · subst h1 h3 h4
    exact ⟨_, Ext.new ok h2, ok.new h2, .d (.tup (.inl (.inl upd_same)) (h5.mono (same_upd (ok.ng h2))))⟩
def tI (Γ : Ct) (W : WX) (f : Ev.It) : TI := fun σ H R => ∃ φ G ρ μ, Ok Γ φ G H μ ∧ EnvR Γ φ G H σ ρ ∧ post Γ (WE W σ) φ G H (f ρ μ) (fun φ G _ J rs => ItR Γ φ G J rs) R
theorem RRs.at_ {Γ : Ct} {φ : List Addr} {G : Hp} {vs : List V} {rs : List Ev.R} {i : Nat} {r : Ev.R} {x : V} (h : RRs Γ φ G vs rs) (e : rs[i]? = some r) (e2 : vs[i]? = some x) : RR Γ φ G x r := by
  obtain ⟨v, h1, h2⟩ := h.get e
  rw [e2] at h1; cases h1; exact h2
theorem DRs.at_ {K : PySem.W.Frag} {G : Hp} {vs : List V} {ds : List Ev.D} {i : Nat} {d : Ev.D} {x : V} (h : DRs K G vs ds) (e : ds[i]? = some d) (e2 : vs[i]? = some x) : DR K G x d := by
  obtain ⟨v, h1, h2⟩ := h.get e
  rw [e2] at h1; cases h1; exact h2
theorem itR_list {Γ : Ct} {φ : List Addr} {G : Hp} {a : Addr} {vs : List V} {rs : List Ev.R} (h : SqL Γ.K G a vs) (r : RRs Γ φ G vs rs) : ItR Γ φ G (Itl Γ.K a) rs := by
  refine ⟨fun i H hi s => ⟨vs, vs[i]'(by rw [r.len]; exact hi), s.seq h, by simp [r.len, hi]⟩, fun H s => ⟨vs, s.seq h, by rw [r.len]; exact Nat.le_refl _⟩, fun i H x H' q e s y => .inl ⟨y.1, r.at_ e (y.2 vs (s.seq h))⟩⟩
theorem itR_tup {Γ : Ct} {φ : List Addr} {G : Hp} {a : Addr} {vs : List V} {rs : List Ev.R} (h : SqT Γ.K G a vs) (r : RRs Γ φ G vs rs) : ItR Γ φ G (Itt Γ.K a) rs := by
  refine ⟨fun i H hi s => ⟨vs, vs[i]'(by rw [r.len]; exact hi), Same.seqT s h, by simp [r.len, hi]⟩, fun H s => ⟨vs, Same.seqT s h, by rw [r.len]; exact Nat.le_refl _⟩, fun i H x H' q e s y => .inl ⟨y.1, r.at_ e (y.2 vs (Same.seqT s h))⟩⟩
theorem rangeF_at : ∀ (n : Nat) (lo : Int) (i : Nat) (r : Ev.R), (Ev.rangeF lo n)[i]? = some r → r = .d (.int (lo + i))
  | 0, lo, i, r, h => by simp [Ev.rangeF] at h
  | n + 1, lo, 0, r, h => by simp [Ev.rangeF] at h; rw [← h]; simp
  | n + 1, lo, i + 1, r, h => by
    rw [rangeF_at n (lo + 1) i r (by simpa [Ev.rangeF] using h)]
    congr 2; omega
theorem rangeF_len : ∀ (n : Nat) (lo : Int), (Ev.rangeF lo n).length = n
  | 0, _ => rfl
  | n + 1, lo => by simp [Ev.rangeF, rangeF_len n]
theorem itR_range {Γ : Ct} {φ : List Addr} {G : Hp} {lo : Int} {n : Nat} : ItR Γ φ G (Itr lo n) (Ev.rangeF lo n) :=
  ⟨fun i H hi s => by rw [rangeF_len] at hi; exact hi, fun H s => by rw [rangeF_len]; exact Nat.le_refl n, fun i H x H' q e s y => .inl ⟨y.1, by rw [y.2, rangeF_at n lo i q e]; exact .d (.int _)⟩⟩
def iAny (K : PySem.W.Frag) (te : TE) : TI := fun σ H R => te σ H fun x H1 => ∃ a, x = .ref a ∧ (((∃ xs, SqL K H1 a xs) ∧ R (Itl K a) H1) ∨ ((∃ xs, SqT K H1 a xs) ∧ R (Itt K a) H1))
theorem pi_any {X : Cx} {tg l : Expr} {tl : TE} (hl : PE X l tl) : PI X tg l (iAny X.K tl) := by
  refine ⟨fun pins s σ H R I h => thn (hl.run pins s σ H _ I h) fun v s1 ⟨x, H1, I1, r1, a, ex, q1⟩ => ?_⟩
  subst ex
  cases (show v = Value.ref a from r1)
  have fr : ∀ b, b ∈ [s1.heap.objs.size] → FpOk X pins H1 b := fun b hb => by
    rw [List.mem_singleton.mp hb]
    exact I1.fpOk (Nat.le_refl _) (I1.hok.fresh (Nat.le_refl _))
  rcases q1 with ⟨⟨xs, hq⟩, q⟩ | ⟨⟨xs, hq⟩, q⟩
  · obtain ⟨its, rv, p, _⟩ := I1.list hq
    have J : Inv X pins σ H1 { s1 with heap := s1.heap.push { cls := .type "list_iterator", data := .fields #[.ref a, .int 0 0] } } := I1.kept (t' := s1.toks) fun _ _ e => Heap.get?_push_of_some _ e
    exact wpAny_pyIter_list p.isList ⟨_, _, _, _, H1, rfl, J, turn_list a _, ⟨_, Heap.get?_push_size _ rfl, rfl, rfl⟩, fr, q⟩
  · obtain ⟨its, rv, p, _⟩ := I1.tuple hq
    have J : Inv X pins σ H1 { s1 with heap := s1.heap.push { cls := .type "tuple_iterator", data := .fields #[.ref a, .int 0 0] } } := I1.kept (t' := s1.toks) fun _ _ e => Heap.get?_push_of_some _ e
    exact wpAny_pyIter_tuple (show s1.heap.IsTuple a its.toArray from p) ⟨_, _, _, _, H1, rfl, J, turn_tuple a _, ⟨_, Heap.get?_push_size _ rfl, rfl, rfl⟩, fr, q⟩
section
variable {X : Cx} {W : WX} {ca : Cn} {k : Nat}
theorem si_e {tg e : Expr} {f : Ev.E} (h : PE X e (tE (ct X ca) W f)) : PI X tg e (tI (ct X ca) W (Ev.iE f)) := PI.imp (pi_any h) fun σ H Q q => by
  obtain ⟨φ, G, ρ, μ, ok, en, q⟩ := q
  unfold Ev.iE at q
  refine ⟨φ, G, ρ, μ, ok, en, post_bind q fun v1 φ1 G1 H1 x μ1 _ ext ok1 r1 q1 => ?_⟩
  obtain ⟨rs, e, q1⟩ := post_lift q1
  have fin : ∀ {J : It}, ItR (ct X ca) φ1 G1 J rs → Q J H1 := fun i => post_ok q1 ok1 i
  cases x with
  | d d =>
    cases d with
    | tup ds =>
      cases e
      cases r1.inv_d with
      | tup h1 h2 => exact ⟨_, rfl, .inr ⟨⟨_, Same.seqT ok1.le h1⟩, fin (itR_tup h1 (RRs.ofD h2))⟩⟩
    | lst ds =>
      cases e
      cases r1.inv_d with
      | lst h1 h2 => exact ⟨_, rfl, .inl ⟨⟨_, ok1.le.seq (.inl (.inl h1))⟩, fin (itR_list (.inl (.inl h1)) (RRs.ofD h2))⟩⟩
    | _ => cases e
  | ls ss =>
    cases e
    cases r1 with
    | ls h1 h2 => exact ⟨_, rfl, .inl ⟨⟨_, ok1.le.seq (.inl (.inl h1))⟩, fin (itR_list (.inl (.inl h1)) h2)⟩⟩
  | scr ns =>
    cases e
    cases r1 with
    | scr h1 =>
      refine ⟨_, rfl, .inl ⟨⟨_, ok1.le.seq h1⟩, fin (itR_list h1 ?_)⟩⟩
      have : ∀ ns : List Int, RRs (ct X ca) φ1 G1 (ns.map V.int) (ns.map fun n => Ev.R.d (.int n)) := fun ns => by
        induction ns with
        | nil => exact .nil
        | cons n ns ih => exact .cons (.d (.int n)) ih
      exact this ns
  | _ => cases e
theorem si_range1 {tg a : Expr} {f : Ev.E} {p pos : Pos} (hg : Gl X "range") (hm : X.mg "range" = none) (ha : PE X a (tE (ct X ca) W f)) (hs : starEach [a] X.env = [(false, eval a X.env)] := by rfl) :
    PI X tg (.Call (.Name "range" p) [a] [] pos) (tI (ct X ca) W (Ev.iRange1 f)) := PI.imp (pi_range1 hg hm (pa_cons ha pa_nil hs) hs) fun σ H Q q => by
  obtain ⟨φ, G, ρ, μ, ok, en, q⟩ := q
  unfold Ev.iRange1 at q
  refine ⟨φ, G, ρ, μ, ok, en, post_bind q fun v1 φ1 G1 H1 x μ1 _ ext ok1 r1 q1 => ?_⟩
  split at q1
  · split at q1
    · rename_i hz
      simp only [Ev.inRange62, Bool.and_eq_true, decide_eq_true_eq] at hz
      have := r1.int
      subst this
      exact ⟨_, rfl, by omega, by omega, post_ok q1 ok1 itR_range⟩
    · exact q1.elim
  · exact q1.elim
theorem si_range2 {tg a b : Expr} {f g : Ev.E} {p pos : Pos} (hg : Gl X "range") (hm : X.mg "range" = none) (ha : PE X a (tE (ct X ca) W f)) (hb : PE X b (tE (ct X ca) W g))
    (hs : starEach [a, b] X.env = [(false, eval a X.env), (false, eval b X.env)] := by rfl) (hs2 : starEach [b] X.env = [(false, eval b X.env)] := by rfl) :
    PI X tg (.Call (.Name "range" p) [a, b] [] pos) (tI (ct X ca) W (Ev.iRange2 f g)) := PI.imp (pi_range2 hg hm (pa_cons ha (pa_cons hb pa_nil hs2) (by rw [hs, hs2])) hs hs2) fun σ H Q q => by
  obtain ⟨φ, G, ρ, μ, ok, en, q⟩ := q
  unfold Ev.iRange2 at q
  refine ⟨φ, G, ρ, μ, ok, en, post_bind q fun v1 φ1 G1 H1 x μ1 _ ext ok1 r1 q1 => ?_⟩
  refine ⟨φ1, G1, ρ, μ1, ok1, en.ext ext, post_bind q1 fun v2 φ2 G2 H2 y μ2 _ ext2 ok2 r2 q2 => ?_⟩
  split at q2
  · split at q2
    · rename_i hz
      simp only [Ev.inRange62, Bool.and_eq_true, decide_eq_true_eq] at hz
      have := r1.int
      have := r2.int
      subst v1 v2
      exact ⟨_, _, rfl, by omega, post_ok q2 ok2 itR_range⟩
    · exact q2.elim
  · exact q2.elim
end

structure Chg (is : List Nat) (σ : L2.St) (ρ : Ev.Env) (σ' : L2.St) (ρ' : Ev.Env) : Prop where
  len : σ'.length = σ.length
  out : ∀ j : Nat, j ∉ is → σ'[j]? = σ[j]?
  own : ∀ (j : Nat) (s : Ev.Sl), ρ'[j]? = some s → isOwn s = true → ρ[j]? = some s ∧ σ'[j]? = σ[j]?
theorem Chg.refl {is : List Nat} {σ : L2.St} {ρ : Ev.Env} : Chg is σ ρ σ ρ := ⟨rfl, fun _ _ => rfl, fun _ _ h _ => ⟨h, rfl⟩⟩
theorem Chg.trans {is js : List Nat} {σ σ1 σ2 : L2.St} {ρ ρ1 ρ2 : Ev.Env} (a : Chg is σ ρ σ1 ρ1) (b : Chg js σ1 ρ1 σ2 ρ2) : Chg (is ++ js) σ ρ σ2 ρ2 := by
  refine ⟨b.len.trans a.len, fun j hj => ?_, fun j s h o => ?_⟩
  · rw [b.out j fun z => hj (List.mem_append_right _ z), a.out j fun z => hj (List.mem_append_left _ z)]
  · obtain ⟨h1, h2⟩ := b.own j s h o
    obtain ⟨h3, h4⟩ := a.own j s h1 o
    exact ⟨h3, h2.trans h4⟩
theorem Chg.fresh {is : List Nat} {σ σ' : L2.St} {ρ ρ' : Ev.Env} {H0 : Hp} (a : Chg is σ ρ σ' ρ') (h : Fresh H0 σ ρ) : Fresh H0 σ' ρ' := fun i s b e o q => by
  obtain ⟨h1, h2⟩ := a.own i s e o
  exact h i s b h1 o (h2 ▸ q)
theorem wipe_get (σ : L2.St) (vs : List Nat) (j : Nat) : (wipe σ vs)[j]? = if j ∈ vs ∧ j < σ.length then some none else σ[j]? := by
  induction vs with
  | nil => simp [wipe]
  | cons v vs ih =>
    unfold wipe
    by_cases hv : v = j
    · subst hv
      by_cases hl : v < σ.length
      · rw [List.getElem?_set_self (by rw [wipe_length]; exact hl)]
        simp [hl]
      · rw [List.getElem?_eq_none (by simp [wipe_length]; omega), List.getElem?_eq_none (by omega)]
        simp [hl]
    · rw [List.getElem?_set_ne hv, ih]
      have : (j ∈ v :: vs) ↔ (j ∈ vs) := by simp [Ne.symm hv]
      simp only [this]
theorem Chg.wipe {is vs : List Nat} {σ σ' : L2.St} {ρ ρ' : Ev.Env} (a : Chg is (L2.wipe σ vs) ρ σ' ρ') (h : ∀ j ∈ is, j ∈ vs) : L2.wipe σ' vs = L2.wipe σ vs := by
  refine List.ext_getElem? fun j => ?_
  have hl : σ'.length = σ.length := by rw [a.len, wipe_length]
  rw [wipe_get, wipe_get, hl]
  split
  · rfl
  · rename_i hc
    by_cases hj : j ∈ is
    · have hjl : ¬ j < σ.length := fun z => hc ⟨h j hj, z⟩
      rw [List.getElem?_eq_none (by omega), List.getElem?_eq_none (by omega)]
    · rw [a.out j hj, wipe_get, if_neg hc]
def GOk (Γ : Ct) (g : TG) (t : Ev.Tg) (is : List Nat) : Prop := ∀ (φ : List Addr) (G H : Hp) (μ : Ev.Mem) (σ : L2.St) (ρ ρ' : Ev.Env) (v : V) (r : Ev.R) (Kt : L2.St → Hp → Prop),
  Ok Γ φ G H μ → EnvR Γ φ G H σ ρ → RR Γ φ G v r → t r ρ = some ρ' → (∀ σ', EnvR Γ φ G H σ' ρ' → Chg is σ ρ σ' ρ' → Kt σ' H) → g v σ H Kt
def GsOk (Γ : Ct) (g : TGs) (ts : List Ev.Tg) (is : List Nat) : Prop := ∀ (φ : List Addr) (G H : Hp) (μ : Ev.Mem) (σ : L2.St) (ρ ρ' : Ev.Env) (vs : List V) (rs : List Ev.R) (Kt : L2.St → Hp → Prop),
  Ok Γ φ G H μ → EnvR Γ φ G H σ ρ → RRs Γ φ G vs rs → Ev.tgs ts rs ρ = some ρ' → (∀ σ', EnvR Γ φ G H σ' ρ' → Chg is σ ρ σ' ρ' → Kt σ' H) → g vs σ H Kt
theorem gok_name {Γ : Ct} {i : Nat} : GOk Γ (gName i) (Ev.tgN i) [i] := fun φ G H μ σ ρ ρ' v r Kt ok en rr e k => by
  unfold Ev.tgN at e
  cases e
  refine k _ (en.set rr) ⟨by simp, fun j hj => ?_, fun j s h o => ?_⟩
  · rw [List.getElem?_set_ne (fun z => hj (by simp [z]))]
  · by_cases hij : i = j
    · subst hij
      by_cases hl : i < ρ.length
      · rw [List.getElem?_set_self hl] at h
        cases h; cases o
      · rw [List.getElem?_eq_none (by simpa using hl)] at h; cases h
    · rw [List.getElem?_set_ne hij] at h ⊢
      exact ⟨h, rfl⟩
theorem gsok_nil {Γ : Ct} : GsOk Γ gNil [] [] := fun φ G H μ σ ρ ρ' vs rs Kt ok en rr e k => by
  cases rr with
  | nil => cases e; exact ⟨rfl, k _ en Chg.refl⟩
  | cons => cases e
theorem gsok_cons {Γ : Ct} {g : TG} {u : TGs} {t : Ev.Tg} {ts : List Ev.Tg} {is js : List Nat} (h1 : GOk Γ g t is) (h2 : GsOk Γ u ts js) : GsOk Γ (gCons g u) (t :: ts) (is ++ js) := fun φ G H μ σ ρ ρ' vs rs Kt ok en rr e k => by
  cases rr with
  | nil => cases e
  | cons a b =>
    obtain ⟨ρ1, e1, e2⟩ := Option.bind_eq_some_iff.mp (show (t _ ρ).bind _ = some ρ' from e)
    refine ⟨_, _, rfl, h1 φ G H μ σ ρ ρ1 _ _ _ ok en a e1 fun σ1 en1 c1 => ?_⟩
    exact h2 φ G H μ σ1 ρ1 ρ' _ _ _ ok en1 b e2 fun σ2 en2 c2 => k σ2 en2 (c1.trans c2)
def gSeq (K : PySem.W.Frag) (n : Nat) (t : TGs) : TG := fun v σ H Q => gTup K n t v σ H Q ∨ gUnl K n t v σ H Q
theorem pg_seq {X : Cx} {es : List Expr} {k : Nat} {t : TGs} {n : Nat} {pos : Pos} (hc : X.calm = true) (h : PGs X es t)
    (hn : (assignEach es X.env).length = n := by rfl) (hst : (assignEach es X.env).findIdx? (·.1) = none := by rfl) : PG X (.Tuple es k pos) (gSeq X.K n t) :=
  ⟨fun pins s σ H v u Q I r hw => hw.elim ((pg_tup hc h hn hst).run pins s σ H v u Q I r) ((pg_unl hc h hn hst).run pins s σ H v u Q I r)⟩
theorem tgs_len : ∀ {ts : List Ev.Tg} {rs : List Ev.R} {ρ ρ' : Ev.Env}, Ev.tgs ts rs ρ = some ρ' → rs.length = ts.length
  | [], [], _, _, _ => rfl
  | [], _ :: _, _, _, h => by cases h
  | _ :: _, [], _, _, h => by cases h
  | t :: ts, r :: rs, ρ, ρ', h => by
    obtain ⟨ρ1, e1, e2⟩ := Option.bind_eq_some_iff.mp (show (t _ ρ).bind _ = some ρ' from h)
    simp [tgs_len e2]
theorem gok_seq {Γ : Ct} {u : TGs} {ts : List Ev.Tg} {is : List Nat} {n : Nat} (hn : ts.length = n) (h : GsOk Γ u ts is) : GOk Γ (gSeq Γ.K n u) (Ev.tgT ts) is := fun φ G H μ σ ρ ρ' v r Kt ok en rr e k => by
  unfold Ev.tgT at e
  split at e
  · rename_i ds
    have hl := tgs_len e
    cases rr.inv_d with
    | tup h1 h2 => exact .inl ⟨_, _, rfl, Same.seqT ok.le h1, by rw [h2.len, ← hn, ← hl, List.length_map], h φ G H μ σ ρ ρ' _ _ _ ok en (RRs.ofD h2) e k⟩
  · have hl := tgs_len e
    cases rr.inv_d with
    | lst h1 h2 => exact .inr ⟨_, _, rfl, .inl (.inl (ok.le _ _ h1)), by rw [h2.len, ← hn, ← hl, List.length_map], h φ G H μ σ ρ ρ' _ _ _ ok en (RRs.ofD h2) e k⟩
  · cases e

def Wn : WX := fun _ _ _ _ => False
theorem XS.blk {X : Cx} {W : WX} {k : Nat} (x : XS X W k) {s : Shared} {H : Hp} {scope : Scope} {ce : Env} {fp : List Addr} : XS (X.blk s H scope ce fp) Wn k :=
  ⟨x.calm, x.nd, x.room, fun u s' ⟨_, _, _, _, _, _, _, _, _, _, _, _, _, _, _, _, w⟩ => w.elim, PassesOwn.never, fun _ _ _ _ _ h => h⟩
section
variable {X : Cx} {W : WX} {ca : Cn} {k : Nat}
theorem Ext.keep2 {φ φ1 : List Addr} {G G1 H H1 : Hp} {c : Addr} {o : HO} (a : Ext φ G H φ1 G1 H1) (h : H c = some o ∧ c ∉ φ ∧ G c = none) (ht : ∀ q, o ≠ .tbl q := by intro q z; cases z) : H1 c = some o ∧ c ∉ φ1 ∧ G1 c = none := a.keep h.1 h.2.1 h.2.2 ht
theorem lc_of {X : Cx} {own : List (Str × Nat)} {g : TG} {t : Ev.Tg} {is : List Nat} {it : Ev.It} {c : Ev.T} {fe : Ev.E} {tt : TT} {σ : L2.St} {H : Hp} {Q : VK}
    (gk : GOk (ct X ca) g t is) (hin : ∀ j ∈ is, j ∈ own.map (·.2)) (htt : ∀ σ H Q, tT (ct X ca) Wn c σ H Q → tt σ H Q) (q : tN (ct X ca) W (Ev.eComp (own.map (·.2)) t it c fe) σ H Q) :
    tLc (tI (ct X ca) W it) g tt (tE (ct X ca) Wn fe) (own.map (·.2)) σ H Q := by
  obtain ⟨φ, G, ρ, μ, ok, en, q⟩ := q
  generalize hown : own.map (·.2) = vs at hin q ⊢
  unfold Ev.eComp at q
  refine ⟨φ, G, ρ, μ, ok, en, postN_bind q fun J φ1 G1 H1 xl μ1 _ ext ok1 ir q1 D hD => ?_⟩
  have en1 := en.ext ext
  cases hc : Ev.compL t c fe xl (Ev.wipeE ρ vs) μ1 with
  | no => rw [hc] at q1; exact q1.elim
  | exn e μ' => exact absurd hc (Ev.compL_exn _ _ _ _ _ _ _ _)
  | ok ys μf =>
    rw [hc] at q1
    have q1 : postN (ct X ca) (WE W σ) φ1 G1 H1 (if ys.length ≤ Ev.SL then .ok (Ev.mkL ys) μf else .no) Q := q1
    split at q1
    · rename_i hlen
      have qf : ∀ a φ' G' H', Ext φ1 G1 H1 φ' G' H' → Ok (ct X ca) φ' G' H' μf → H1 a = none → G' a = none → a ∉ φ' → Nw (ct X ca) φ' G' H' a (Ev.mkL ys) → Q (.ref a) H' := q1
      refine lc_it ir.walk (fun i H => ∃ φ' G' μ' acc rs ys', Ext φ1 G1 H1 φ' G' H ∧ Ok (ct X ca) φ' G' H μ' ∧ (H D = some (.lst acc) ∧ D ∉ φ' ∧ G' D = none) ∧ RRs (ct X ca) φ' G' acc rs ∧
        Ev.compL t c fe (xl.drop i) (Ev.wipeE ρ vs) μ' = .ok ys' μf ∧ rs ++ ys' = ys) ?_ ?_ ?_ ?_
      · exact ⟨φ1, G1, μ1, [], [], ys, Ext.of_same (same_upd hD), ok1.new0 hD, ⟨upd_same, ok1.nphi hD, ok1.ng hD⟩, .nil, hc, rfl⟩
      · rintro i H hi ⟨φ', G', μ', acc, rs, ys', e1, ok', _⟩
        exact e1.g.trans ok'.le
      · rintro i x H H' hi ⟨φ', G', μ', acc, rs, ys', e1, ok', hd, rr, hcl, hys⟩ y
        have hx : xl[i]? = some xl[i] := by simp [hi]
        obtain ⟨G2, e2, ok2, rx⟩ := (ir.ext e1).turn ok' hx y
        rw [List.drop_eq_getElem_cons hi, Ev.compL_cons] at hcl
        cases htg : t xl[i] (Ev.wipeE ρ vs) with
        | none => rw [htg] at hcl; cases hcl
        | some ρ1 =>
          rw [htg] at hcl
          dsimp only at hcl
          obtain ⟨b, μ2, hb2, hcl⟩ := Ev.bind_eq_ok hcl
          have hb2 := Ev.nx_eq_ok hb2
          refine gk φ' G2 H' μ' _ _ ρ1 x _ _ ok2 (((en1.ext e1).ext e2).wipe vs) rx htg fun σ2 en2 ch => ⟨ch.wipe hin, htt _ _ _ ⟨φ', G2, ρ1, μ', ok2, en2, ?_⟩⟩
          rw [hb2]
          intro v φ3 G3 H3 e3 ok3 hv
          have hv : v = b := hv
          subst hv
          have hd3 := e3.keep2 (e2.keep2 hd)
          have e13 := (e1.trans e2).trans e3
          cases v with
          | false =>
            rw [if_neg (by decide)] at hcl ⊢
            exact ⟨φ3, G3, μ2, acc, rs, ys', e13, ok3, hd3, e3.rrs (e2.rrs rr), hcl, hys⟩
          | true =>
            rw [if_pos rfl] at hcl ⊢
            obtain ⟨z, μ3, hz, hcl⟩ := Ev.bind_eq_ok hcl
            have hz := Ev.nx_eq_ok hz
            obtain ⟨ys2, μ4, hcl, hcl2⟩ := Ev.bind_eq_ok hcl
            cases hcl2
            refine ⟨φ3, G3, ρ1, μ2, ok3, en2.ext e3, ?_⟩
            rw [hz]
            intro v φ4 G4 H4 e4 ok4 hv
            have hd4 := e4.keep2 hd3
            have hl : acc.length < sizeLine := by
              have h1 := rr.len
              have h2 : (rs ++ z :: ys2).length ≤ Ev.SL := by rw [hys]; exact hlen
              rw [List.length_append, List.length_cons] at h2
              rw [← SL_eq]; omega
            refine ⟨acc, hd4.1, hl, φ4, G4, μ3, acc ++ [v], rs ++ [z], ys2, (e13.trans e4).upd hD, ok4.upd hd4.2.1 hd4.2.2 (fun a q => by rw [hd4.1] at q; cases q) (fun a q => by rw [hd4.1] at q; cases q), ⟨upd_same, hd4.2.1, hd4.2.2⟩, ?_, hcl, by rw [← hys]; simp⟩
            exact (e4.rrs (e3.rrs (e2.rrs rr))).append (.cons hv .nil)
      · rintro H ⟨φ', G', μ', acc, rs, ys', e1, ok', hd, rr, hcl, hys⟩
        rw [List.drop_length] at hcl
        cases hcl
        rw [List.append_nil] at hys
        subst hys
        exact qf D φ' G' H e1 ok' hD hd.2.2 hd.2.1 (.lst hd.1 rr)
    · exact q1.elim
theorem sn_comp {elt tg iter : Expr} {ifs : List Expr} {scope : Scope} {own : List (Str × Nat)} {pos : Pos} {g : TG} {t : Ev.Tg} {is : List Nat} {it : Ev.It} {c : Ev.T} {fe : Ev.E} {tt : TT}
    (xs : XS X W k) (hi : PI X tg iter (tI (ct X ca) W it)) (hb : BlkOk X.N X.env.scope scope own)
    (hg : ∀ (s : Shared) (H : Hp) (C : Addr) (cl : List (Str × Addr)) (fp : List Addr), PG (X.blk s H scope (compEnvC scope cl C X.env) fp) tg g)
    (gk : GOk (ct X ca) g t is) (hin : ∀ j ∈ is, j ∈ own.map (·.2))
    (ht : ∀ (s : Shared) (H : Hp) (C : Addr) (cl : List (Str × Addr)) (fp : List Addr), PTs (X.blk s H scope (compEnvC scope cl C X.env) fp) ifs tt)
    (htt : ∀ σ H Q, tT (ct X ca) Wn c σ H Q → tt σ H Q)
    (he : ∀ (s : Shared) (H : Hp) (C : Addr) (cl : List (Str × Addr)) (fp : List Addr), PE (X.blk s H scope (compEnvC scope cl C X.env) fp) elt (tE (ct X ca) Wn fe)) (hs : ∀ x, foldedSetIterable iter X.env x = pure x := by intro _; rfl) :
    PE X (.ListComp elt [⟨tg, iter, ifs, 0⟩] scope pos) (tN (ct X ca) W (Ev.eComp (own.map (·.2)) t it c fe)) := PE.imp (pe_lc xs.calm xs.nd hi hb hg ht he hs) fun σ H Q q => lc_of gk hin htt q
theorem yes_of {X : Cx} {ca : Cn} : ∀ σ H Q, tT (ct X ca) Wn Ev.tYes σ H Q → L2.tYes σ H Q := fun σ H Q ⟨φ, G, ρ, μ, ok, en, q⟩ => by
  unfold Ev.tYes at q
  exact post_ok (x := true) (μ := μ) q ok rfl
section
variable {y : Str} {i : Nat} {py spos : Pos} {elt tg iter c : Expr} {scope : Scope} {own : List (Str × Nat)} {pos : Pos} {g : TG} {t : Ev.Tg} {is : List Nat} {it : Ev.It} {fc : Ev.T} {fe : Ev.E}
theorem sn_comp0 (xs : XS X W k) (hi : PI X tg iter (tI (ct X ca) W it)) (hb : BlkOk X.N X.env.scope scope own)
    (hg : ∀ (s : Shared) (H : Hp) (C : Addr) (cl : List (Str × Addr)) (fp : List Addr), PG (X.blk s H scope (compEnvC scope cl C X.env) fp) tg g) (gk : GOk (ct X ca) g t is) (hin : ∀ j ∈ is, j ∈ own.map (·.2))
    (he : ∀ (s : Shared) (H : Hp) (C : Addr) (cl : List (Str × Addr)) (fp : List Addr), PE (X.blk s H scope (compEnvC scope cl C X.env) fp) elt (tE (ct X ca) Wn fe)) (hs : ∀ x, foldedSetIterable iter X.env x = pure x := by intro _; rfl) :
    PE X (.ListComp elt [⟨tg, iter, [], 0⟩] scope pos) (tN (ct X ca) W (Ev.eComp (own.map (·.2)) t it Ev.tYes fe)) := sn_comp xs hi hb hg gk hin (fun _ _ _ _ _ => pts_nil) yes_of he hs
end
end
end EvS
end

section
set_option maxHeartbeats 0
set_option Elab.async false
set_option linter.all false
set_option maxRecDepth 100000
namespace EvS
open PySem PySem.Spec PyProof.Rows L2 GenW GxR

section
variable {Γ : Ct} {φ : List Addr} {G H : Hp} {μ : Ev.Mem} {P : Addr} {ps qs : Array Value}
theorem Ok.tab (k : Ok Γ φ G H μ) (hp : ∃ c, (c, P) ∈ Γ.ca.tabs) (ho : H P = some (.tbl ps)) (ht : TriplesOk qs.toList) : Ok Γ φ G (L2.upd H P (.tbl qs)) μ := by
  obtain ⟨c, hp⟩ := hp
  obtain ⟨_, hn, hg⟩ := k.tb _ hp
  have hn : P ∉ φ := hn
  have hg : G P = none := hg
  have ne : ∀ {b : Addr} {x : HO}, G b = some x → b ≠ P := fun {b x} e z => by subst z; rw [hg] at e; cases e
  refine ⟨fun b x e => by rw [upd_ne (ne e)]; exact k.le b x e, k.nd, k.len, k.fre, fun a ha => ?_, fun n a c h1 h2 => ?_, fun q hq => ?_⟩
  · rw [upd_ne (show a ≠ P from fun z => hn (by rw [← z]; exact ha))]; exact k.thr a ha
  · have ha : a ≠ P := fun z => hn (by rw [← z]; exact List.mem_of_getElem? h1)
    refine (k.cell n a c h1 h2).keep (Same.refl _) (fun _ _ z => z) (fun o e => by rw [upd_ne ha]; exact e) fun d e => ?_
    rw [upd_ne (show d ≠ P from fun z => by rw [z, ho] at e; cases e)]; exact e
  · by_cases hq2 : q.2 = P
    · rw [hq2]; exact ⟨⟨qs, upd_same, ht⟩, hn, hg⟩
    · obtain ⟨⟨rs, e, t⟩, h2, h3⟩ := k.tb q hq
      exact ⟨⟨rs, by rw [upd_ne hq2]; exact e, t⟩, h2, h3⟩
theorem Ext.tab (ho : H P = some (.tbl ps)) : Ext φ G H φ G (L2.upd H P (.tbl qs)) :=
  ⟨Same.refl _, fun _ h => .inl h, ⟨[], by simp, by simp⟩, fun b x e hb => by
    by_cases hbP : b = P
    · subst hbP
      rw [ho] at e; cases e
      exact .inr ⟨ps, qs, rfl, upd_same⟩
    · exact .inl (by rw [upd_ne hbP]; exact e)⟩
end

section
variable {X : Cx} {pins : List (Addr × Obj)} {σ : L2.St} {H : Hp} {s : Shared}
end

section
variable {M : Model} {prog : Program} {w : World} {A : Around} {a : Addr} {g : Nat} {kk : Bool} {Fin : Bool → Shared → Prop} {Rf : Result → Shared → Prop}
end

section
variable {X : Cx} {ca : Cn}
end

section
variable {X : Cx} {W : WX} {ca : Cn} {k : Nat}
end
section
variable {X : Cx} {W : WX} {ca : Cn} {k : Nat}
end
end EvS
end

section
set_option maxHeartbeats 0
set_option Elab.async false
set_option linter.all false
set_option maxRecDepth 100000
namespace EvS
open PySem PySem.Spec PyProof.Rows L2
section
variable {Γ : Ct} {W : WX} {e : En} {φ φ1 : List Addr} {G G1 H H1 : Hp} {σ σ1 : L2.St} {ρ ρ1 : Ev.Env} {μ μ1 : Ev.Mem}
theorem BS.step (b : BS Γ e φ G H σ ρ μ) (x : Ext φ G H φ1 G1 H1) (ok : Ok Γ φ1 G1 H1 μ1) : BS Γ e φ1 G1 H1 σ ρ μ1 := ⟨b.ext.trans x, ok, b.en.ext x, b.fr⟩
theorem BS.bind {α δ : Type} {o : Ev.Out α} {k : α → Ev.Mem → Ev.Out Ev.Fl} {Rel1 : List Addr → Hp → Hp → δ → α → Prop} {D : Ends} {Q1 : δ → Hp → Prop} (b : BS Γ e φ G H σ ρ μ) (h : postS Γ W e φ G σ (o.bind k) D)
    (hk : ∀ v1 φ1 G1 H1 x μ1, o = .ok x μ1 → Ext φ G H φ1 G1 H1 → Ok Γ φ1 G1 H1 μ1 → Rel1 φ1 G1 H1 v1 x → postS Γ W e φ G σ (k x μ1) D → Q1 v1 H1) : post Γ (WE W σ) φ G H o Rel1 Q1 := by
  cases o with
  | ok x μ => exact fun v φ' G' H' a c d => hk v φ' G' H' x μ rfl a c d h
  | exn x μ => exact fun c od φ' G' H' a k r => h c od φ' G' H' (b.ext.trans a) k r
  | no => exact h
theorem BS.bindN {o : Ev.Out Ev.R} {k : Ev.R → Ev.Mem → Ev.Out Ev.Fl} {D : Ends} {Q : VK} (b : BS Γ e φ G H σ ρ μ) (h : postS Γ W e φ G σ (o.bind k) D)
    (hk : ∀ a φ1 G1 H1 x μ1, o = .ok x μ1 → Ext φ G H φ1 G1 H1 → Ok Γ φ1 G1 H1 μ1 → H a = none → G1 a = none → a ∉ φ1 → Nw Γ φ1 G1 H1 a x → postS Γ W e φ G σ (k x μ1) D → Q (.ref a) H1) : postN Γ (WE W σ) φ G H o Q := by
  cases o with
  | ok x μ => exact fun a φ' G' H' x1 c n1 n2 n3 d => hk a φ' G' H' x μ rfl x1 c n1 n2 n3 d h
  | exn x μ => exact fun c od φ' G' H' a k r => h c od φ' G' H' (b.ext.trans a) k r
  | no => exact h
theorem postS_flat (fw : ∀ (c : Value) (d : Option Addr) (σ σ' : L2.St) (H : Hp), W c d σ H → W c d σ' H) (l : Lq φ G φ1 G1) {o : Ev.Out Ev.Fl} {D : Ends} (h : postS Γ W e φ G σ o D) : postS Γ W e φ1 G1 σ1 o D := by
  cases o with
  | ok f μ =>
    cases f with
    | nx ρ => exact fun σ φ' G' H bs k => h σ φ' G' H bs (l.trans k)
    | bk ρ => exact fun σ φ' G' H bs k => h σ φ' G' H bs (l.trans k)
    | ct ρ => exact fun σ φ' G' H bs k => h σ φ' G' H bs (l.trans k)
    | rt r => exact h
  | exn x μ => exact fun c od φ G H a b r => fw _ _ _ _ _ (h c od φ G H a b r)
  | no => exact h
theorem EnvR.upd (h : EnvR Γ φ G H σ ρ) {i : Nat} {a : Addr} {o : HO} {s t : Ev.Sl} (hi : ρ[i]? = some s) (ho : isOwn s = true) (hs : σ[i]? = some (some (.ref a))) (ht : SlotR Γ φ G (L2.upd H a o) (some (.ref a)) t) (hto : isOwn t = true) :
    EnvR Γ φ G (L2.upd H a o) σ (ρ.set i t) := by
  have hil : i < ρ.length := (List.getElem?_eq_some_iff.mp hi).1
  refine ⟨by rw [List.length_set]; exact h.len, fun j u e => ?_, fun j k b u v e1 e2 o1 o2 q1 q2 => ?_⟩
  · by_cases hj : i = j
    · subst hj
      rw [List.getElem?_set_self hil] at e
      cases e
      exact ⟨_, hs, ht⟩
    · rw [List.getElem?_set_ne hj] at e
      obtain ⟨w, e1, e2⟩ := h.at_ j u e
      refine ⟨w, e1, ?_⟩
      cases e2 with
      | un => exact .un
      | v r => exact .v r
      | own h1 h2 h3 h4 =>
        rename_i b xs rs
        have hb : b ≠ a := fun z => hj (h.ap i j a s _ hi e ho rfl hs (by rw [e1, z]))
        exact .own (by rw [upd_ne hb]; exact h1) h2 h3 h4
      | odic h1 h2 h3 h4 =>
        rename_i b xs rs
        have hb : b ≠ a := fun z => hj (h.ap i j a s _ hi e ho rfl hs (by rw [e1, z]))
        exact .odic (by rw [upd_ne hb]; exact h1) h2 h3 h4
  · have key : ∀ {l : Nat} {x : Ev.Sl}, (ρ.set i t)[l]? = some x → isOwn x = true → ∃ y, ρ[l]? = some y ∧ isOwn y = true := fun {l x} e o => by
      by_cases hl : i = l
      · subst hl; exact ⟨s, hi, ho⟩
      · rw [List.getElem?_set_ne hl] at e; exact ⟨x, e, o⟩
    obtain ⟨u', e1', o1'⟩ := key e1 o1
    obtain ⟨v', e2', o2'⟩ := key e2 o2
    exact h.ap j k b u' v' e1' e2' o1' o2' q1 q2
theorem EnvR.own (h : EnvR Γ φ G H σ ρ) {i : Nat} {a : Addr} {t : Ev.Sl} (ht : SlotR Γ φ G H (some (.ref a)) t) (hf : ∀ (j : Nat) (s : Ev.Sl) , ρ[j]? = some s → isOwn s = true → σ[j]? ≠ some (some (.ref a))) :
    EnvR Γ φ G H (σ.set i (some (.ref a))) (ρ.set i t) := by
  refine ⟨by simp [h.len], fun j u e => ?_, fun j k b u v e1 e2 o1 o2 q1 q2 => ?_⟩
  · by_cases hj : i = j
    · subst hj
      by_cases hl : i < ρ.length
      · rw [List.getElem?_set_self hl] at e
        cases e
        exact ⟨_, List.getElem?_set_self (by rw [h.len]; exact hl), ht⟩
      · rw [List.getElem?_eq_none (by simpa using hl)] at e; cases e
    · rw [List.getElem?_set_ne hj] at e ⊢
      exact h.at_ j u e
  · by_cases hj : i = j
    · by_cases hk : i = k
      · rw [← hj, ← hk]
      · subst hj
        rw [List.getElem?_set_ne hk] at e2 q2
        by_cases hl : i < ρ.length
        · rw [List.getElem?_set_self (by rw [h.len]; exact hl)] at q1
          cases q1
          exact absurd q2 (hf k v e2 o2)
        · rw [List.getElem?_eq_none (by simpa using hl)] at e1; cases e1
    · rw [List.getElem?_set_ne hj] at e1 q1
      by_cases hk : i = k
      · subst hk
        by_cases hl : i < ρ.length
        · rw [List.getElem?_set_self (by rw [h.len]; exact hl)] at q2
          cases q2
          exact absurd q1 (hf j u e1 o1)
        · rw [List.getElem?_eq_none (by simpa using hl)] at e2; cases e2
      · rw [List.getElem?_set_ne hk] at e2 q2
        exact h.ap j k b u v e1 e2 o1 o2 q1 q2
theorem Fresh.set {H0 : Hp} (h : Fresh H0 σ ρ) {i : Nat} {v : V} {r : Ev.R} : Fresh H0 (σ.set i (some v)) (ρ.set i (.v r)) := fun j s a e o q => by
  by_cases hj : i = j
  · subst hj
    by_cases hl : i < ρ.length
    · rw [List.getElem?_set_self hl] at e; cases e; cases o
    · rw [List.getElem?_eq_none (by simpa using hl)] at e; cases e
  · rw [List.getElem?_set_ne hj] at e q
    exact h j s a e o q
theorem Fresh.own {H0 : Hp} (h : Fresh H0 σ ρ) {i : Nat} {a : Addr} {t : Ev.Sl} (ha : H0 a = none) : Fresh H0 (σ.set i (some (.ref a))) (ρ.set i t) := fun j s b e o q => by
  by_cases hj : i = j
  · subst hj
    by_cases hl : i < σ.length
    · rw [List.getElem?_set_self hl] at q; cases q; exact ha
    · rw [List.getElem?_eq_none (by simpa using hl)] at q; cases q
  · rw [List.getElem?_set_ne hj] at e q
    exact h j s b e o q
theorem Fresh.upd {H0 : Hp} (h : Fresh H0 σ ρ) {i : Nat} {s t : Ev.Sl} (hi : ρ[i]? = some s) (ho : isOwn s = true) : Fresh H0 σ (ρ.set i t) := fun j u b e o q => by
  by_cases hj : i = j
  · subst hj; exact h i s b hi ho q
  · rw [List.getElem?_set_ne hj] at e; exact h j u b e o q
theorem EnvR.frz (h : EnvR Γ φ G H σ ρ) {i : Nat} {a : Addr} {o : HO} {s : Ev.Sl} {r : Ev.R} (hi : ρ[i]? = some s) (ho : isOwn s = true) (hs : σ[i]? = some (some (.ref a))) (ng : G a = none) (hr : RR Γ φ (L2.upd G a o) (.ref a) r) :
    EnvR Γ φ (L2.upd G a o) H σ (ρ.set i (.v r)) := by
  have hil : i < ρ.length := (List.getElem?_eq_some_iff.mp hi).1
  refine ⟨by rw [List.length_set]; exact h.len, fun j u e => ?_, fun j k b u v e1 e2 o1 o2 q1 q2 => ?_⟩
  · by_cases hj : i = j
    · subst hj
      rw [List.getElem?_set_self hil] at e
      cases e
      exact ⟨_, hs, .v hr⟩
    · rw [List.getElem?_set_ne hj] at e
      obtain ⟨w, e1, e2⟩ := h.at_ j u e
      refine ⟨w, e1, ?_⟩
      cases e2 with
      | un => exact .un
      | v r => exact .v (r.mono (same_upd ng) fun _ _ z => z)
      | own h1 h2 h3 h4 =>
        rename_i b xs rs
        have hb : b ≠ a := fun z => hj (h.ap i j a s _ hi e ho rfl hs (by rw [e1, z]))
        exact .own h1 h2 (by rw [upd_ne hb]; exact h3) (h4.mono (same_upd ng) fun _ _ z => z)
      | odic h1 h2 h3 h4 =>
        rename_i b xs rs
        have hb : b ≠ a := fun z => hj (h.ap i j a s _ hi e ho rfl hs (by rw [e1, z]))
        exact .odic h1 h2 (by rw [upd_ne hb]; exact h3) (h4.mono (same_upd ng) fun _ _ z => z)
  · have key : ∀ {l : Nat} {x : Ev.Sl}, (ρ.set i (.v r))[l]? = some x → isOwn x = true → ρ[l]? = some x := fun {l x} e o => by
      by_cases hl : i = l
      · subst hl
        rw [List.getElem?_set_self hil] at e
        cases e; cases o
      · rw [List.getElem?_set_ne hl] at e; exact e
    exact h.ap j k b u v (key e1 o1) (key e2 o2) o1 o2 q1 q2
theorem Fresh.setv {H0 : Hp} (h : Fresh H0 σ ρ) {i : Nat} {r : Ev.R} : Fresh H0 σ (ρ.set i (.v r)) := fun j s a e o q => by
  by_cases hj : i = j
  · subst hj
    by_cases hl : i < ρ.length
    · rw [List.getElem?_set_self hl] at e; cases e; cases o
    · rw [List.getElem?_eq_none (by simpa using hl)] at e; cases e
  · rw [List.getElem?_set_ne hj] at e
    exact h j s a e o q
theorem EnvR.notNew (h : EnvR Γ φ G H σ ρ) {a : Addr} (ha : H a = none) : ∀ (j : Nat) (s : Ev.Sl), ρ[j]? = some s → isOwn s = true → σ[j]? ≠ some (some (V.ref a)) := fun j s e o q => by
  obtain ⟨w, e1, e2⟩ := h.at_ j s e
  rw [q] at e1
  cases e1
  cases e2 with
  | own h1 => rw [h1] at ha; cases ha
  | odic h1 => rw [h1] at ha; cases ha
  | un => cases o
  | v => cases o
end

section
variable {X : Cx} {W : WX} {ca : Cn} {k : Nat} {e : En}
theorem ss_one {st : Stmt} {f : Ev.S} (h : PS X st (tS (ct X ca) W e f)) : PSs X [st] (tS (ct X ca) W e f) := pss_one h
theorem ss_cons {st : Stmt} {rest : List Stmt} {f g : Ev.S} (xs : XS X W k) (h1 : PS X st (tS (ct X ca) W e f)) (h2 : PSs X rest (tS (ct X ca) W e g)) : PSs X (st :: rest) (tS (ct X ca) W e (Ev.sq f g)) := PSs.imp (pss_cons h1 h2) fun D σ H q => by
  obtain ⟨φ, G, ρ, μ, bs, q⟩ := q
  refine ⟨φ, G, ρ, μ, bs, ?_⟩
  unfold Ev.sq at q
  generalize f ρ μ = o at q
  cases o with
  | no => exact q
  | exn x μ => exact q
  | ok fl μ1 =>
    cases fl with
    | nx ρ1 => exact fun σ1 φ1 G1 H1 bs1 l => ⟨φ1, G1, ρ1, μ1, bs1, postS_flat xs.fw l q⟩
    | rt r => exact q
    | bk ρ1 => exact q
    | ct ρ1 => exact q
theorem ss_frz {rest : List Stmt} {i : Nat} {g : Ev.S} (xs : XS X W k) (h : PSs X rest (tS (ct X ca) W e g)) : PSs X rest (tS (ct X ca) W e (Ev.sq (Ev.sFrz i) g)) := PSs.imp h fun D σ H q => by
  obtain ⟨φ, G, ρ, μ, bs, q⟩ := q
  unfold Ev.sq Ev.sFrz at q
  cases hs : ρ[i]? with
  | none => rw [hs] at q; exact q.elim
  | some s =>
    rw [hs] at q
    obtain ⟨o, e1, e2⟩ := bs.en.at_ i s hs
    cases e2 with
    | un => exact q.elim
    | v r => exact q.elim
    | own h1 h2 h3 h4 =>
      rename_i a ys rs
      obtain ⟨x1, x2⟩ := freeze bs.ext bs.ok (.inl (bs.fr i _ a hs rfl e1)) h3 h2 h1
      exact ⟨φ, _, _, μ, ⟨x1, x2, bs.en.frz hs rfl e1 h3 (RR.mkL upd_same (h4.mono (same_upd h3) fun _ _ z => z)), bs.fr.setv⟩, postS_flat xs.fw ⟨same_upd h3, fun _ _ z => z⟩ q⟩
    | odic h1 h2 h3 h4 =>
      rename_i a ys rs
      obtain ⟨x1, x2⟩ := freeze bs.ext bs.ok (.inl (bs.fr i _ a hs rfl e1)) h3 h2 h1
      exact ⟨φ, _, _, μ, ⟨x1, x2, bs.en.frz hs rfl e1 h3 (.dic upd_same (h4.mono (same_upd h3) fun _ _ z => z)), bs.fr.setv⟩, postS_flat xs.fw ⟨same_upd h3, fun _ _ z => z⟩ q⟩
theorem ss_nil : PSs X [] (tS (ct X ca) W e Ev.sNil) := PSs.imp pss_nil fun D σ H q => by
  obtain ⟨φ, G, ρ, μ, bs, q⟩ := q
  unfold Ev.sNil at q
  exact q σ φ G H bs Lq.refl
theorem s_ret {a : Expr} {f : Ev.E} {pos} (h : PE X a (tE (ct X ca) W f)) : PS X (.Return (some a) pos) (tS (ct X ca) W e (Ev.sRet f)) := PS.imp (ps_ret h) fun D σ H q => by
  obtain ⟨φ, G, ρ, μ, bs, q⟩ := q
  unfold Ev.sRet at q
  refine ⟨φ, G, ρ, μ, bs.ok, bs.en, bs.bind q fun v1 φ1 G1 H1 x μ1 _ ext ok1 r1 q1 => ?_⟩
  exact q1 v1 φ1 G1 H1 (bs.ext.trans ext) ok1 r1
theorem s_if {c : Expr} {t : Ev.T} {a b : List Stmt} {f g : Ev.S} {pos : Pos} (xs : XS X W k) (hc : PT X c (tT (ct X ca) W t)) (ha : PSs X a (tS (ct X ca) W e f)) (hb : PSs X b (tS (ct X ca) W e g)) : PS X (.If c a b pos) (tS (ct X ca) W e (Ev.sIf t f g)) := PS.imp (ps_if hc ha hb) fun D σ H q => by
  obtain ⟨φ, G, ρ, μ, bs, q⟩ := q
  unfold Ev.sIf at q
  refine ⟨φ, G, ρ, μ, bs.ok, bs.en, bs.bind q fun v1 φ1 G1 H1 x μ1 _ ext ok1 r1 q1 => ?_⟩
  cases r1
  cases v1 with
  | true => rw [if_pos rfl] at q1 ⊢; exact ⟨φ1, G1, ρ, μ1, bs.step ext ok1, postS_flat xs.fw ext.lq q1⟩
  | false => rw [if_neg (by decide)] at q1 ⊢; exact ⟨φ1, G1, ρ, μ1, bs.step ext ok1, postS_flat xs.fw ext.lq q1⟩
theorem s_asOf {st : Stmt} {f : Ev.E} {g : TG} {t : Ev.Tg} {is : List Nat} (h : PS X st (tAsg (tE (ct X ca) W f) g)) (gk : GOk (ct X ca) g t is) : PS X st (tS (ct X ca) W e (Ev.sAs t f)) := PS.imp h fun D σ H q => by
  obtain ⟨φ, G, ρ, μ, bs, q⟩ := q
  unfold Ev.sAs at q
  refine ⟨φ, G, ρ, μ, bs.ok, bs.en, bs.bind q fun v1 φ1 G1 H1 x μ1 _ ext ok1 r1 q1 => ?_⟩
  cases ht : t x ρ with
  | none => rw [ht] at q1; exact q1.elim
  | some ρ1 =>
    rw [ht] at q1
    have b1 := bs.step ext ok1
    exact gk φ1 G1 H1 μ1 σ ρ ρ1 v1 x _ ok1 b1.en r1 ht fun σ' en' ch => q1 σ' φ1 G1 H1 ⟨b1.ext, ok1, en', ch.fresh b1.fr⟩ ext.lq
theorem s_as {i : Nat} {x : Str} {a : Expr} {f : Ev.E} {pos pos' : Pos} (hN : X.N.Nodup) (hi : X.N[i]? = some x) (hx : Loc X.env.scope x) (h : PE X a (tE (ct X ca) W f)) (hs : swapsWith a (some (.Name x pos')) pos.line X.env = pure false := by rfl) (hf : X.fn x = true ∨ X.env.scope.names.lookup x = some .local := by first | exact .inl rfl | exact .inr rfl | assumption) :
    PS X (.Assign [.Name x pos'] a pos) (tS (ct X ca) W e (Ev.sAs (Ev.tgN i) f)) := s_asOf (ps_set hN hi hx h hs hf) gok_name
theorem s_asT {tg a : Expr} {f : Ev.E} {g : TG} {t : Ev.Tg} {is : List Nat} {pos : Pos} (hg : PG X tg g) (gk : GOk (ct X ca) g t is) (h : PE X a (tE (ct X ca) W f)) (hs : swapsWithSole [tg] a pos.line X.env = pure false := by rfl) (hw : swappedStores [tg] a X.env = pure none := by rfl)
    (h1 : (assignEach [tg] X.env).map (·.2) = [assign tg X.env] := by rfl) : PS X (.Assign [tg] a pos) (tS (ct X ca) W e (Ev.sAs t f)) := s_asOf (ps_asg h hg hs hw h1) gk
theorem s_ownOf {st : Stmt} {i : Nat} {f : Ev.E} (h : PS X st (tAsg (tN (ct X ca) W f) (gName i))) : PS X st (tS (ct X ca) W e (Ev.sOwn i f)) := PS.imp h fun D σ H q => by
  obtain ⟨φ, G, ρ, μ, bs, q⟩ := q
  unfold Ev.sOwn at q
  refine ⟨φ, G, ρ, μ, bs.ok, bs.en, bs.bindN q fun a φ1 G1 H1 x μ1 _ ext ok1 n1 n2 n3 nw q1 => ?_⟩
  have b1 := bs.step ext ok1
  have fresh : e.H a = none := Ext.back bs.ext bs.ok n1
  have nn : ∀ (j : Nat) (s : Ev.Sl), ρ[j]? = some s → isOwn s = true → σ[j]? ≠ some (some (V.ref a)) := bs.en.notNew n1
  have fin : ∀ t, SlotR (ct X ca) φ1 G1 H1 (some (.ref a)) t → postS (ct X ca) W e φ G σ (.ok (.nx (ρ.set i t)) μ1) D → D.nx (σ.set i (some (.ref a))) H1 := fun t ht q => q _ φ1 G1 H1 ⟨b1.ext, ok1, b1.en.own ht nn, b1.fr.own fresh⟩ ext.lq
  cases nw with
  | lst h1 h2 =>
    rename_i ys rs _
    unfold Ev.mkL at q1
    cases hv : Ev.valsR rs with
    | none =>
      rw [hv] at q1
      exact fin _ (.own h1 n3 n2 h2) q1
    | some ds =>
      rw [hv] at q1
      have er := valsR_some hv
      subst er
      exact fin _ (.own h1 n3 n2 h2) q1
  | dic h1 h2 => exact fin _ (.odic h1 n3 n2 h2) q1
theorem s_own {i : Nat} {x : Str} {a : Expr} {f : Ev.E} {pos pos' : Pos} (hN : X.N.Nodup) (hi : X.N[i]? = some x) (hx : Loc X.env.scope x) (h : PE X a (tN (ct X ca) W f)) (hs : swapsWith a (some (.Name x pos')) pos.line X.env = pure false := by rfl) (hf : X.fn x = true ∨ X.env.scope.names.lookup x = some .local := by first | exact .inl rfl | exact .inr rfl | assumption) :
    PS X (.Assign [.Name x pos'] a pos) (tS (ct X ca) W e (Ev.sOwn i f)) := s_ownOf (ps_set hN hi hx h hs hf)
theorem s_cellOf {st : Stmt} {i : Nat} {f : Ev.E} (h : PS X st (tAsg (tN (ct X ca) W f) (gName i))) : PS X st (tS (ct X ca) W e (Ev.sCell i f)) := PS.imp h fun D σ H q => by
  obtain ⟨φ, G, ρ, μ, bs, q⟩ := q
  unfold Ev.sCell at q
  refine ⟨φ, G, ρ, μ, bs.ok, bs.en, bs.bindN q fun a φ1 G1 H1 x μ1 _ ext ok1 n1 n2 n3 nw q1 => ?_⟩
  have b1 := bs.step ext ok1
  have fresh : e.H a = none := Ext.back bs.ext bs.ok n1
  have nn : ∀ (j : Nat) (s : Ev.Sl), ρ[j]? = some s → isOwn s = true → σ[j]? ≠ some (some (V.ref a)) := bs.en.notNew n1
  cases nw with
  | dic h1 h2 => exact q1.elim
  | lst h1 h2 =>
    rename_i ys rs _
    unfold Ev.mkL at q1
    cases hv : Ev.valsR rs with
    | none => rw [hv] at q1; exact q1.elim
    | some ds =>
      rw [hv] at q1
      have hr := h2.vals hv
      have hm : φ1.length = μ1.length := ok1.len
      have ix : ∀ (n : Nat) (c : Addr), φ1[n]? = some c → (φ1 ++ [a])[n]? = some c := fun n c h => by
        rw [List.getElem?_append_left (List.getElem?_eq_some_iff.mp h).1]; exact h
      have en2 : EnvR (ct X ca) (φ1 ++ [a]) G1 H1 σ ρ := by
        refine ⟨b1.en.len, fun j s e => ?_, b1.en.ap⟩
        obtain ⟨o, z1, z2⟩ := b1.en.at_ j s e
        refine ⟨o, z1, ?_⟩
        have nna : ∀ {c : Addr}, o = some (.ref c) → isOwn s = true → c ≠ a := fun {c} eo os z => by
          subst z; subst eo
          exact nn j s e os z1
        cases z2 with
        | un => exact .un
        | v r => exact .v (r.mono (Same.refl _) ix)
        | own y1 y2 y3 y4 =>
          exact .own y1 (fun z => (List.mem_append.mp z).elim y2 fun z => nna rfl rfl (List.mem_singleton.mp z)) y3 (y4.mono (Same.refl _) ix)
        | odic y1 y2 y3 y4 =>
          exact .odic y1 (fun z => (List.mem_append.mp z).elim y2 fun z => nna rfl rfl (List.mem_singleton.mp z)) y3 (y4.mono (Same.refl _) ix)
      have ok2 : Ok (ct X ca) (φ1 ++ [a]) G1 H1 (μ1 ++ [.lst ds]) := by
        refine ⟨ok1.le, List.nodup_append.mpr ⟨ok1.nd, by simp, fun b hb c hc z => n3 (by rw [List.mem_singleton.mp hc] at z; rw [← z]; exact hb)⟩, by simp [hm], fun b hb => ?_, fun b hb => ?_, fun n b c e1 e2 => ?_, fun q hq => ?_⟩
        · rcases List.mem_append.mp hb with z | z
          · exact ok1.fre b z
          · rw [List.mem_singleton.mp z]; exact n2
        · rcases List.mem_append.mp hb with z | z
          · exact ok1.thr b z
          · rw [List.mem_singleton.mp z]; exact ⟨_, h1⟩
        · by_cases hn : n < φ1.length
          · rw [List.getElem?_append_left hn] at e1
            rw [List.getElem?_append_left (by omega)] at e2
            exact (ok1.cell n b c e1 e2).keep (Same.refl _) ix (fun _ z => z) fun _ z => z
          · rw [List.getElem?_append_right (by omega)] at e1
            rw [List.getElem?_append_right (by omega)] at e2
            have hn0 : n - φ1.length = 0 := by
              by_cases h0 : n - φ1.length = 0
              · exact h0
              · rw [List.getElem?_eq_none (by simp; omega)] at e1; cases e1
            have hn1 : n - μ1.length = 0 := by omega
            rw [hn0] at e1
            rw [hn1] at e2
            cases e1; cases e2
            exact .lst h1 hr
        · obtain ⟨⟨ps, e, t⟩, h2, h3⟩ := ok1.tb q hq
          exact ⟨⟨ps, e, t⟩, fun z => (List.mem_append.mp z).elim h2 fun z => (by rw [List.mem_singleton.mp z, h1] at e; cases e), h3⟩
      have ext2 : Ext e.φ e.G e.H (φ1 ++ [a]) G1 H1 := by
        obtain ⟨ψ, z1, z2⟩ := b1.ext.p
        refine ⟨b1.ext.g, b1.ext.gn, ⟨ψ ++ [a], by rw [z1, List.append_assoc], fun c hc => ?_⟩, b1.ext.f⟩
        rcases List.mem_append.mp hc with z | z
        · exact z2 c z
        · rw [List.mem_singleton.mp z]
          exact ⟨fresh, fun y => n3 (by rw [z1]; exact List.mem_append_left _ y)⟩
      have q1 : ∀ σ' φ' G' H', BS (ct X ca) e φ' G' H' σ' (ρ.set i (.v (.p μ1.length))) (μ1 ++ [.lst ds]) → Lq φ G φ' G' → D.nx σ' H' := q1
      refine q1 (σ.set i (some (.ref a))) (φ1 ++ [a]) G1 H1 ⟨ext2, ok2, en2.set (.p ?_), b1.fr.set⟩ (ext.lq.trans ⟨Same.refl _, ix⟩)
      rw [← hm, List.getElem?_append_right (Nat.le_refl _), Nat.sub_self]; rfl
theorem s_cell {i : Nat} {x : Str} {a : Expr} {f : Ev.E} {pos pos' : Pos} (hN : X.N.Nodup) (hi : X.N[i]? = some x) (hx : Loc X.env.scope x) (h : PE X a (tN (ct X ca) W f)) (hs : swapsWith a (some (.Name x pos')) pos.line X.env = pure false := by rfl) (hf : X.fn x = true ∨ X.env.scope.names.lookup x = some .local := by first | exact .inl rfl | exact .inr rfl | assumption) :
    PS X (.Assign [.Name x pos'] a pos) (tS (ct X ca) W e (Ev.sCell i f)) := s_cellOf (ps_set hN hi hx h hs hf)
theorem own_at {Γ : Ct} {φ : List Addr} {G H : Hp} {σ : L2.St} {ρ : Ev.Env} {i : Nat} {rs : List Ev.R} (en : EnvR Γ φ G H σ ρ) (h : ρ[i]? = some (.own rs)) : ∃ a xs, σ[i]? = some (some (.ref a)) ∧ H a = some (.lst xs) ∧ a ∉ φ ∧ G a = none ∧ RRs Γ φ G xs rs := by
  obtain ⟨o, e1, e2⟩ := en.at_ i _ h
  cases e2 with
  | own h1 h2 h3 h4 => exact ⟨_, _, e1, h1, h2, h3, h4⟩
theorem odic_at {Γ : Ct} {φ : List Addr} {G H : Hp} {σ : L2.St} {ρ : Ev.Env} {i : Nat} {rs : List (Ev.Ky × Ev.R)} (en : EnvR Γ φ G H σ ρ) (h : ρ[i]? = some (.odic rs)) : ∃ a xs, σ[i]? = some (some (.ref a)) ∧ H a = some (.dK xs) ∧ a ∉ φ ∧ G a = none ∧ RKs Γ φ G xs rs := by
  obtain ⟨o, e1, e2⟩ := en.at_ i _ h
  cases e2 with
  | odic h1 h2 h3 h4 => exact ⟨_, _, e1, h1, h2, h3, h4⟩
theorem BS.own {Γ : Ct} {e : En} {φ : List Addr} {G H : Hp} {σ : L2.St} {ρ : Ev.Env} {μ : Ev.Mem} {i : Nat} {a : Addr} {o : HO} {s t : Ev.Sl} (b : BS Γ e φ G H σ ρ μ) (hi : ρ[i]? = some s) (ho : isOwn s = true) (hs : σ[i]? = some (some (.ref a))) (hp : a ∉ φ) (hg : G a = none) (hno : ∀ c, H a ≠ some (.own c))
    (ht : SlotR Γ φ G (L2.upd H a o) (some (.ref a)) t) (hto : isOwn t = true) : BS Γ e φ G (L2.upd H a o) σ (ρ.set i t) μ := by
  have hnt : ∀ c, H a ≠ some (.tbl c) := by
    obtain ⟨o', e1, e2⟩ := b.en.at_ i s hi
    rw [hs] at e1
    cases e1
    cases e2 with
    | un => cases ho
    | v => cases ho
    | own h1 _ _ _ => intro c z; rw [h1] at z; cases z
    | odic h1 _ _ _ => intro c z; rw [h1] at z; cases z
  exact ⟨b.ext.upd (b.fr i s a hi ho hs), b.ok.upd hp hg hno hnt, b.en.upd hi ho hs ht hto, b.fr.upd hi ho⟩
theorem s_app {i : Nat} {x : Str} {a : Expr} {fa : Ev.E} {p apos cpos pos : Pos} (hN : X.N[i]? = some x) (hv : Vis X.env.scope x) (ha : PE X a (tE (ct X ca) W fa))
    (hd : (x == ("__debug__" : Str)) = false := by decide) (hcd : (x == ("__classdict__" : Str)) = false := by decide)
    (hbase : attributeBase (.Name x p) "append" X.env (eval (.Name x p) X.env) = eval (.Name x p) X.env := by rfl)
    (hfew : ((backTo cpos (starEach [a] X.env)).all (fun x => !x.1) && (backToKw cpos (keywordEach [] X.env)).all (fun x => x.1.isSome)
      && decide (([a] : List Expr).length + ([] : List Keyword).length + (if ([] : List Keyword).isEmpty then 0 else 1) < 30)) = true := by rfl)
    (hline : (apos.endLine == cpos.line) = true := by rfl) (hs : starEach [a] X.env = (false, eval a X.env) :: starEach [] X.env := by rfl) (hplain : (backTo cpos (starEach [] X.env)).any (·.1) = false := by rfl)
    (hsw : swapsWith (.Call (.Attribute (.Name x p) "append" apos) [a] [] cpos) none pos.line X.env = pure false := by rfl) :
    PS X (.Expr (.Call (.Attribute (.Name x p) "append" apos) [a] [] cpos) pos) (tS (ct X ca) W e (Ev.sApp i fa)) :=
  PS.imp (ps_expr (pe_bm PySem.F.plainAttrs_list PySem.F.slot_list_append PySem.F.type_list_append mt_append (pe_var hN hv hd hcd) (pa_cons ha pa_nil hs) hbase hfew hline hs hplain) hsw) fun D σ H q => by
    obtain ⟨φ, G, ρ, μ, bs, q⟩ := q
    unfold Ev.sApp at q
    split at q
    · rename_i rs hi
      obtain ⟨l, ys, e1, h1, h2, h3, h4⟩ := own_at bs.en hi
      refine ⟨_, e1, .inl ⟨rfl, _, SqL.of h1⟩, φ, G, ρ, μ, bs.ok, bs.en, bs.bind q fun v1 φ1 G1 H1 r μ1 _ ext ok1 r1 q1 => ?_⟩
      split at q1
      · rename_i hz
        obtain ⟨k1, k2, k3⟩ := ext.keep h1 h2 h3
        have hl := h4.len
        have r2 := (ext.rrs h4).append (.cons r1 .nil)
        refine ⟨l, ys, v1, rfl, rfl, k1, by rw [hl, ← SL_eq]; exact hz, ?_⟩
        exact q1 σ φ1 G1 _ ((bs.step ext ok1).own (t := .own (rs ++ [r])) hi rfl e1 k2 k3 (fun c z => by rw [k1] at z; cases z) (.own upd_same k2 k3 r2) rfl) ext.lq
      · exact q1.elim
    · exact q.elim
theorem s_dput {i : Nat} {x : Str} {o a : Expr} {fo fa : Ev.E} {p pos' pos : Pos} (hu : X.A.units + 1 < cLine) (xs : XS X W k) (hN : X.N[i]? = some x) (hv : Vis X.env.scope x) (ho : PE X o (tE (ct X ca) W fo)) (ha : PE X a (tE (ct X ca) W fa))
    (hd : (x == ("__debug__" : Str)) = false := by decide) (hcd : (x == ("__classdict__" : Str)) = false := by decide)
    (hs : swapsWith a (some (.Subscript (.Name x p) o pos')) pos.line X.env = pure false := by rfl) :
    PS X (.Assign [.Subscript (.Name x p) o pos'] a pos) (tS (ct X ca) W e (Ev.sSetD i fo fa)) :=
  PS.imp (ps_dput hu (pe_var hN hv hd hcd) ho ha hs) fun D σ H q => by
    obtain ⟨φ, G, ρ, μ, bs, q⟩ := q
    unfold Ev.sSetD at q
    refine ⟨φ, G, ρ, μ, bs.ok, bs.en, bs.bind q fun v1 φ1 G1 H1 r μ1 _ ext ok1 r1 q1 => ?_⟩
    have b1 := bs.step ext ok1
    split at q1
    · rename_i kvs hi
      obtain ⟨l, ys, e1, h1, h2, h3, h4⟩ := odic_at b1.en hi
      refine ⟨_, e1, φ1, G1, ρ, μ1, ok1, b1.en, b1.bind (postS_flat (σ1 := σ) xs.fw ext.lq q1) fun v2 φ2 G2 H2 r' μ2 _ ext2 ok2 r2 q2 => ?_⟩
      split at q2
      · split at q2
        · rename_i ky hk
          split at q2
          · rename_i hz
            obtain ⟨k1, k2, k3⟩ := ext2.keep h1 h2 h3
            have ek := keyOf_kV r2.inv_d hk
            subst ek
            have hl := h4.len
            have h5 : RKs (ct X ca) φ2 G2 ys kvs := h4.mono ext2.g ext2.ix
            refine ⟨l, _, rfl, DPut.k k1 (by rw [hl, ← SL_eq]; exact hz), ?_⟩
            exact q2 σ φ2 G2 _ ((b1.step ext2 ok2).own (t := .odic (Ev.putK kvs ky r)) hi rfl e1 k2 k3 (fun c z => by rw [k1] at z; cases z) (.odic upd_same k2 k3 (h5.put ky (ext2.rr r1))) rfl) ext2.lq
          · exact q2.elim
        · exact q2.elim
      · exact q2.elim
    · exact q1.elim
theorem Ok.cellSet {Γ : Ct} {φ : List Addr} {G H : Hp} {μ : Ev.Mem} {n : Nat} {a : Addr} {ys : List V} {ds : List Ev.D} (k : Ok Γ φ G H μ) (hn : φ[n]? = some a) (ha : ∃ xs, H a = some (.lst xs)) (r : DRs Γ.K G ys ds) :
    Ok Γ φ G (L2.upd H a (.lst ys)) (μ.set n (.lst ds)) := by
  obtain ⟨xs, ha⟩ := ha
  have hg : G a = none := k.fre a (List.mem_of_getElem? hn)
  have ne : ∀ {b : Addr} {x : HO}, G b = some x → b ≠ a := fun {b x} e z => by subst z; rw [hg] at e; cases e
  refine ⟨fun b x e => by rw [upd_ne (ne e)]; exact k.le b x e, k.nd, by rw [List.length_set]; exact k.len, k.fre, fun b hb => ?_, fun m b c h1 h2 => ?_, fun q hq => ?_⟩
  · by_cases hba : b = a
    · subst hba; exact ⟨_, upd_same⟩
    · rw [upd_ne hba]; exact k.thr b hb
  · by_cases hm : n = m
    · subst hm
      rw [hn] at h1; cases h1
      have hl : n < μ.length := by
        rw [← k.len]; exact (List.getElem?_eq_some_iff.mp hn).1
      rw [List.getElem?_set_self hl] at h2
      cases h2
      exact .lst upd_same r
    · rw [List.getElem?_set_ne hm] at h2
      have hba : b ≠ a := fun z => hm ((List.getElem?_inj (List.getElem?_eq_some_iff.mp hn).1 k.nd).mp (by rw [hn, h1, z]))
      refine (k.cell m b c h1 h2).keep (Same.refl _) (fun _ _ z => z) (fun o e => by rw [upd_ne hba]; exact e) fun d e => ?_
      rw [upd_ne (show d ≠ a from fun z => by rw [z, ha] at e; cases e)]; exact e
  · obtain ⟨⟨ps, e, t⟩, h2, h3⟩ := k.tb q hq
    exact ⟨⟨ps, by rw [upd_ne (fun z => by rw [z, ha] at e; cases e)]; exact e, t⟩, h2, h3⟩
theorem Ext.cellSet {φ : List Addr} {G H : Hp} {n : Nat} {a : Addr} {o : HO} (hn : φ[n]? = some a) : Ext φ G H φ G (L2.upd H a o) :=
  ⟨Same.refl _, fun _ h => .inl h, ⟨[], by simp, by simp⟩, fun b x e hb => .inl (by rw [upd_ne (show b ≠ a from fun z => hb (by rw [z]; exact List.mem_of_getElem? hn))]; exact e)⟩
theorem s_set {b o a : Expr} {fb fo fa : Ev.E} {pos' pos : Pos} (xs : XS X W k) (hb : PE X b (tE (ct X ca) W fb)) (ho : PE X o (tE (ct X ca) W fo)) (ha : PE X a (tE (ct X ca) W fa))
    (hq : ∀ v, assign (.Subscript b o pos') X.env v = (do
      let ov ← holding [v] (eval b X.env)
      let iv ← holding [v, ov] (eval o X.env)
      standAt pos'
      holding [v, ov, iv] (setItem ov iv v)
      release [v, ov, iv] []) := by intro _; rfl)
    (hs : swapsWithSole [.Subscript b o pos'] a pos.line X.env = pure false := by rfl) (hw : swappedStores [.Subscript b o pos'] a X.env = pure none := by rfl)
    (h1 : (assignEach [.Subscript b o pos'] X.env).map (·.2) = [assign (.Subscript b o pos') X.env] := by rfl) :
    PS X (.Assign [.Subscript b o pos'] a pos) (tS (ct X ca) W e (Ev.sSet fb fo fa)) :=
  PS.imp (ps_asg ha (pg_sub hb ho set_list hq) hs hw h1) fun D σ H q => by
    obtain ⟨φ, G, ρ, μ, bs, q⟩ := q
    unfold Ev.sSet at q
    refine ⟨φ, G, ρ, μ, bs.ok, bs.en, bs.bind q fun v1 φ1 G1 H1 z μ1 _ ext ok1 r1 q1 => ?_⟩
    have b1 := bs.step ext ok1
    refine ⟨φ1, G1, ρ, μ1, ok1, b1.en, b1.bind (postS_flat (σ1 := σ) xs.fw ext.lq q1) fun v2 φ2 G2 H2 x μ2 _ ext2 ok2 r2 q2 => ?_⟩
    have b2 := b1.step ext2 ok2
    refine ⟨φ2, G2, ρ, μ2, ok2, b2.en, b2.bind (postS_flat (σ1 := σ) xs.fw ext2.lq q2) fun v3 φ3 G3 H3 y μ3 _ ext3 ok3 r3 q3 => ?_⟩
    have b3 := b2.step ext3 ok3
    split at q3
    · split at q3
      · rename_i ds hm
        split at q3
        · rename_i j hj
          have r2 := ext3.rr r2
          cases r2 with
          | p hn =>
            rename_i c
            have hc := ok3.cell _ c _ hn hm
            cases hc with
            | lst y1 y2 =>
              rename_i ys
              have ei := r3.int
              subst ei
              refine ⟨c, ys, _, j, rfl, rfl, y1, by rw [y2.len]; exact hj, ?_⟩
              have x1 : Ext φ3 G3 H3 φ3 G3 (L2.upd H3 c (.lst (ys.set j v1))) := Ext.cellSet hn
              have hv := (ext3.rr (ext2.rr r1)).inv_d
              exact q3 σ φ3 G3 _ (b3.step x1 (ok3.cellSet hn ⟨_, y1⟩ (y2.set hv j))) ext3.lq
        · exact q3.elim
      · exact q3.elim
    · exact q3.elim

theorem ItR.mono {Γ : Ct} {φ φ' : List Addr} {G G' : Hp} {J : It} {rs : List Ev.R} (h : ItR Γ φ G J rs) (a : Lq φ G φ' G') : ItR Γ φ' G' J rs := by
  refine ⟨fun i H hi s => h.goes i H hi (a.g.trans s), fun H s => h.stops H (a.g.trans s), fun i H x H' r e s y => ?_⟩
  rcases h.yields i H x H' r e (a.g.trans s) y with ⟨z, q⟩ | ⟨T, xs, ds, h1, h2, h3, h4, h5⟩
  · exact .inl ⟨z, q.mono a.g a.ix⟩
  · exact .inr ⟨T, xs, ds, h1, h2, h3, h4, h5.mono a.g⟩
theorem s_for {tg iter : Expr} {body : List Stmt} {it : Ev.It} {g : TG} {t : Ev.Tg} {is : List Nat} {f : Ev.S} {pos : Pos} (xs : XS X W k) (hi : PI X tg iter (tI (ct X ca) W it)) (hg : PG X tg g) (gk : GOk (ct X ca) g t is) (hb : PSs X body (tS (ct X ca) W e f))
    (hs : ∀ x, foldedSetIterable iter X.env x = pure x := by intro _; rfl) : PS X (.For tg iter body [] pos) (tS (ct X ca) W e (Ev.sFor t it f)) := PS.imp (ps_for xs.po xs.calm hi hg hb hs) fun D σ H q => by
  obtain ⟨φ, G, ρ, μ, bs, q⟩ := q
  unfold Ev.sFor at q
  refine ⟨φ, G, ρ, μ, bs.ok, bs.en, bs.bind q fun J φ1 G1 H1 xl μ1 _ ext ok1 ir q1 => ?_⟩
  have q1 := postS_flat (σ1 := σ) xs.fw ext.lq q1
  refine for_it ir.walk (fun i σ' H' => ∃ φ' G' ρ' μ', BS (ct X ca) e φ' G' H' σ' ρ' μ' ∧ Lq φ1 G1 φ' G' ∧ postS (ct X ca) W e φ' G' σ' (Ev.forL t f (xl.drop i) ρ' μ') D) ?_ ?_ ?_ ?_
  · exact ⟨φ1, G1, ρ, μ1, bs.step ext ok1, Lq.refl, q1⟩
  · rintro i σ' H' hi' ⟨φ', G', ρ', μ', b', l', _⟩
    exact l'.g.trans b'.ok.le
  · rintro i x σ' H' H2 hi' ⟨φ', G', ρ', μ', b', l', q'⟩ y
    obtain ⟨G2, e2, ok2, rx⟩ := (ir.mono l').turn b'.ok (by simp [hi'] : xl[i]? = some xl[i]) y
    have b2 := b'.step e2 ok2
    rw [List.drop_eq_getElem_cons hi'] at q'
    have q' : postS (ct X ca) W e φ' G' σ' (match t xl[i] ρ' with
      | none => .no
      | some ρ1 => (f ρ1 μ').bind fun fl μ => match fl with
        | .nx ρ => Ev.forL t f (xl.drop (i + 1)) ρ μ
        | .ct ρ => Ev.forL t f (xl.drop (i + 1)) ρ μ
        | .bk ρ => .ok (.nx ρ) μ
        | .rt r => .ok (.rt r) μ) D := q'
    cases htg : t xl[i] ρ' with
    | none => rw [htg] at q'; exact q'.elim
    | some ρ1 =>
      rw [htg] at q'
      dsimp only at q'
      refine gk φ' G2 H2 μ' σ' ρ' ρ1 x xl[i] _ ok2 b2.en rx htg fun σ2 en2 ch => ⟨φ', G2, ρ1, μ', ⟨b2.ext, ok2, en2, ch.fresh b2.fr⟩, ?_⟩
      have l2 := l'.trans e2.lq
      generalize f ρ1 μ' = o at q'
      cases o with
      | no => exact q'
      | exn c μ2 => exact fun c od φ G H a b r => xs.fw _ _ _ _ _ (q' c od φ G H a b r)
      | ok fl μ2 =>
        cases fl with
        | nx ρ3 => exact fun σ3 φ3 G3 H3 b3 l3 => ⟨φ3, G3, ρ3, μ2, b3, l2.trans l3, postS_flat xs.fw (e2.lq.trans l3) q'⟩
        | ct ρ3 => exact fun σ3 φ3 G3 H3 b3 l3 => ⟨φ3, G3, ρ3, μ2, b3, l2.trans l3, postS_flat xs.fw (e2.lq.trans l3) q'⟩
        | bk ρ3 => exact fun σ3 φ3 G3 H3 b3 l3 => q' σ3 φ3 G3 H3 b3 (e2.lq.trans l3)
        | rt r => exact q'
  · rintro σ' H' ⟨φ', G', ρ', μ', b', l', q'⟩
    rw [List.drop_length] at q'
    exact q' σ' φ' G' H' b' Lq.refl
theorem s_while {c : Expr} {body : List Stmt} {t : Ev.T} {f : Ev.S} {n : Nat} {pos : Pos} (xs : XS X W k) (hc : PT X c (tT (ct X ca) W t)) (hb : PSs X body (tS (ct X ca) W e f)) : PS X (.While c body [] pos) (tS (ct X ca) W e (Ev.sWhile n t f)) := PS.imp (ps_while xs.po hc hb) fun D σ H q => by
  obtain ⟨φ, G, ρ, μ, bs, q⟩ := q
  unfold Ev.sWhile at q
  refine ⟨fun m σ' H' => ∃ φ' G' ρ' μ', BS (ct X ca) e φ' G' H' σ' ρ' μ' ∧ postS (ct X ca) W e φ' G' σ' (Ev.whL t f m ρ' μ') D, ⟨n, φ, G, ρ, μ, bs, q⟩, ?_⟩
  rintro m σ' H' ⟨φ', G', ρ', μ', b', q'⟩
  cases m with
  | zero => exact q'.elim
  | succ m =>
    refine ⟨φ', G', ρ', μ', b'.ok, b'.en, b'.bind (show postS (ct X ca) W e φ' G' σ' ((t ρ' μ').bind _) D from q') fun v φ1 G1 H1 z μ1 _ ext ok1 r1 q1 => ?_⟩
    have b1 := b'.step ext ok1
    have hz : v = z := r1
    subst hz
    cases v with
    | false =>
      rw [if_neg (by decide)] at q1 ⊢
      exact q1 σ' φ1 G1 H1 b1 ext.lq
    | true =>
      rw [if_pos rfl] at q1 ⊢
      have q1 := postS_flat (σ1 := σ') xs.fw ext.lq q1
      refine ⟨fun σ2 H2 => ∃ φ' G' ρ' μ', BS (ct X ca) e φ' G' H2 σ2 ρ' μ' ∧ postS (ct X ca) W e φ' G' σ2 (Ev.whL t f m ρ' μ') D, fun σ2 H2 h => ⟨m, Nat.lt_succ_self m, h⟩, φ1, G1, ρ', μ1, b1, ?_⟩
      generalize f ρ' μ1 = o at q1
      cases o with
      | no => exact q1
      | exn c μ2 => exact q1
      | ok fl μ2 =>
        cases fl with
        | nx ρ3 => exact fun σ3 φ3 G3 H3 b3 l3 => ⟨φ3, G3, ρ3, μ2, b3, postS_flat xs.fw l3 q1⟩
        | ct ρ3 => exact fun σ3 φ3 G3 H3 b3 l3 => ⟨φ3, G3, ρ3, μ2, b3, postS_flat xs.fw l3 q1⟩
        | bk ρ3 => exact q1
        | rt r => exact q1
end
end EvS
end

section
set_option maxHeartbeats 0
set_option Elab.async false
set_option linter.all false
set_option maxRecDepth 100000
namespace EvS
open PySem PySem.Spec PyProof.Rows L2
theorem FnG.imp {P : Program} {w : World} {K : PySem.W.Frag} {mg : Str → Option Value} {base : Heap} {k : Nat} {f : Addr} {fd : FuncData} {ps : List Str} {sp sp' : Sp} (h : FnG P w K mg base k f fd ps sp) (i : ∀ vs H Q E, sp' vs H Q E → sp vs H Q E) : FnG P w K mg base k f fd ps sp' :=
  ⟨fun vs H Q E q => h.len vs H Q E (i vs H Q E q), fun A out s H args us vs Q E hr e0 hb r q => h.go A out s H args us vs Q E hr e0 hb r (i vs H Q E q)⟩
abbrev cx (Pg : Program) (w : World) (K : PySem.W.Frag) (mg : Str → Option Value) (base : Heap) (N : List Str) (qual : Str) (scope : Scope) (a : Addr) (cdv : Value) (A : Around) (out : List Env) (s : Shared) (H : Hp) (E : XK) : Cx := cxOf (CX Pg w) Pg w K mg base N qual scope a cdv A out s H E
abbrev wE (E : XK) : WX := fun c d _ H => E c d H
def TBs (ca : Cn) (base : Heap) (mg : Str → Option Value) : Prop := ∀ p ∈ ca.tabs, GxR.TabB base mg p.1 p.2
def codeAt (K : PySem.W.Frag) (a : Addr) : Addr := match K.lookup a with
  | some ⟨_, _, .func fd, _⟩ => (match fd.code with
    | .ref c => c
    | _ => 0)
  | _ => 0
def Dn (Pg : Program) (w : World) (K : PySem.W.Frag) (mg : Str → Option Value) (ca : Cn) (P : String → Option Ev.Def) (f : String) (d : Ev.Def) : Prop :=
  ∃ (name qual : Str) (params : Arguments) (body : List Stmt) (scope : Scope) (a : Addr) (fd : FuncData) (N ps : List Str),
    FunD K name qual params body scope [] [] a fd ∧ AtF K mg ca f a d.own ∧ FnScope N ps scope ∧ ps.length = d.np ∧ N.length = d.nl ∧ Binds K fd ps [] ∧
    ∀ (base : Heap) (cdv : Value) (A : Around) (out : List Env) (s : Shared) (H : Hp) (E : XK) (e : En) (n : Nat), TBs ca base mg → cdv = .ref (codeAt K a) →
      (∀ g d', P g = some d' → Callee (cx Pg w K mg base N qual scope a cdv A out s H E) ca n (Ev.callN P n) g d'.np d'.own) → XS (cx Pg w K mg base N qual scope a cdv A out s H E) (wE E) n → Slk (cx Pg w K mg base N qual scope a cdv A out s H E) n →
        PSs (cx Pg w K mg base N qual scope a cdv A out s H E) body (tS (ct (cx Pg w K mg base N qual scope a cdv A out s H E) ca) (wE E) e (d.body (Ev.callN P n)))
theorem tab {Pg : Program} {w : World} {K : PySem.W.Frag} {mg : Str → Option Value} {ca : Cn} {P : String → Option Ev.Def} (hd : ∀ f d, P f = some d → Dn Pg w K mg ca P f d) :
    ∀ n f d, P f = some d → ∃ (a : Addr) (fd : FuncData) (ps : List Str), ps.length = d.np ∧ AtF K mg ca f a d.own ∧ PySem.W.keepIn K (.ref a) = true ∧ Binds K fd ps [] ∧ ∀ base : Heap, TBs ca base mg → FnG Pg w K mg base n a fd ps (spF ⟨K, ca, w⟩ d.np (Ev.callN P n f))
  | 0, f, d, h => by
    obtain ⟨name, qual, params, body, scope, a, fd, N, ps, F, hm, S, h1, h2, hb, _⟩ := hd f d h
    refine ⟨a, fd, ps, h1, hm, F.kp, hb, fun base _ => ⟨fun vs H Q E q => ?_, fun A out s H args us vs Q E hr e0 hb r q => ?_⟩⟩
    · obtain ⟨_, _, _, _, _, _, _, q⟩ := q; exact q.elim
    · obtain ⟨_, _, _, _, _, _, _, q⟩ := q; exact q.elim
  | n + 1, f, d, h => by
    obtain ⟨name, qual, params, body, scope, a, fd, N, ps, F, hm, S, h1, h2, hb, hbody⟩ := hd f d h
    obtain ⟨oc, od, dV, kV, doc, pm, an, cdv, ct0, osl, e1, lk, hcd, _, _⟩ := F.ex
    subst e1
    have ih := tab hd n
    have hcv : cdv = .ref (codeAt K a) := by
      obtain ⟨c, hc⟩ := He.codeIn_ref hcd
      subst hc
      unfold codeAt
      rw [lk]
    refine ⟨a, _, ps, h1, hm, F.kp, hb, fun base tb => (fn_body (k := n) (np := d.np) (nl := d.nl) (ca := ca) (b := d.body (Ev.callN P n)) lk hcd S h1 h2 fun A out s H E e xs sl => ?_).imp fun vs H Q E q => ?_⟩
    · exact hbody base cdv A out s H E e n tb hcv (fun g d' hg => let ⟨a, fd, ps, z1, z2, z3, z4, z5⟩ := ih g d' hg; ⟨a, fd, ps, z1, z2, z3, z4, z5 base tb⟩) xs sl
    · obtain ⟨φ, G, rs, μ, ok, r, hl, q⟩ := q
      refine ⟨φ, G, rs, μ, ok, r, hl, ?_⟩
      unfold Ev.callN at q
      rw [h] at q
      simpa only [hl, if_true] using q

def scrH (K : PySem.W.Frag) (a : Addr) (o : Obj) (xs : List V) : Hp := fun b => if b = a ∧ (K.lookup a).isNone = true then some (.frz o (.lst xs)) else none
theorem scrH_some {K : PySem.W.Frag} {a b : Addr} {o : Obj} {xs : List V} {u : HO} (h : scrH K a o xs b = some u) : b = a ∧ (K.lookup a).isNone = true ∧ u = .frz o (.lst xs) := by
  unfold scrH at h
  split at h
  · rename_i c
    exact ⟨c.1, c.2, (Option.some.inj h).symm⟩
  · cases h
theorem law_callG {Pg : Program} {w : World} {K : PySem.W.Frag} {mg mb : Str → Option Value} {k : Nat} {fa a : Addr} {fd : FuncData} {x : Str} {ca : Cn} {c : List Ev.R → Ev.Mem → Ev.Out Ev.R} {s₁ : Shared} {vs : List Value} {ns : List Int}
    (inK : K.In s₁.heap) (nsM : s₁.heap.Ns mainGlobals mg) (nsB : s₁.heap.Ns builtinsNs mb) (blt : ∀ y : Str, y ≠ "__name__" → mb y = bootBuiltins y) (lim : s₁.heap.NoLimit) (gens : s₁.gens = #[])
    (hT : ∀ p ∈ ca.tabs, s₁.heap.get? p.2 = some { cls := .none, data := .fields #[] }) (nT : ∀ p ∈ ca.tabs, K.lookup p.2 = none) (Cd : ∀ p ∈ ca.tabs, PySem.W.CodeHd s₁.heap p.1 p.2)
    (hbm : ∃ (bm : Addr) (ob : Obj), mg "__builtins__" = some (.ref bm) ∧ bm ≠ builtinsNs ∧ s₁.heap.get? bm = some ob ∧ ob.cls = .type "module" ∧ ob.dict = some builtinsNs ∧ ob.data = .plain)
    (obj : s₁.heap.get? a = some { cls := .type "list", data := .seq vs.toArray }) (nums : IntsAre vs ns) (len : ns.length ≤ sizeLine) (room : Room k callerA)
    (F : ∀ base : Heap, TBs ca base mg → FnG Pg w K mg base k fa fd [x] (spF ⟨K, ca, w⟩ 1 c)) (bnd : Binds K fd [x] []) (law : c [.scr ns] [] = .ok (.d (.bl true)) []) :
    codeAny (model Pg w) callerA (.call (.ref fa) ⟨[.ref a], []⟩) (fun r s' => r = .ok (.ret (.bool true)) ∧ OldK s₁.heap s'.heap ∧ s'.os = s₁.os ∧ AllBare s'.gens) s₁ := by
  have vals := vals_ints nums
  have lv := nums.length
  have isT : ∀ b : Addr, b ∈ ca.tabs.map (·.2) → s₁.heap.get? b = some { cls := .none, data := .fields #[] } := fun b hb => by
    obtain ⟨p, hp, e⟩ := List.mem_map.mp hb
    rw [← e]
    exact hT p hp
  have aT : a ∉ ca.tabs.map (·.2) := fun z => by
    have q := isT a z
    rw [obj] at q
    have z' : Data.seq vs.toArray _ = Data.fields #[] := congrArg Obj.data (Option.some.inj q)
    cases z'
  have memT : ∀ p ∈ ca.tabs, p.2 ∈ ca.tabs.map (·.2) := fun p hp => List.mem_map.mpr ⟨p, hp, rfl⟩
  generalize ho : ({ cls := .type "list", data := .seq vs.toArray } : Obj) = o at obj
  generalize hG : scrH K a o (ns.map V.int) = G
  generalize hH : (fun b => if b ∈ ca.tabs.map (·.2) then some (HO.tbl #[]) else G b : Hp) = H
  have offG : ∀ {b : Addr} {u : HO}, G b = some u → b = a ∧ K.lookup a = none ∧ u = .frz o (.lst (ns.map V.int)) := fun {b u} e => by
    rw [← hG] at e
    obtain ⟨h1, h2, h3⟩ := scrH_some e
    exact ⟨h1, Option.isNone_iff_eq_none.mp h2, h3⟩
  have inT : ∀ {b : Addr}, b ∈ ca.tabs.map (·.2) → H b = some (.tbl #[]) := fun {b} hb => by rw [← hH]; exact if_pos hb
  have ouT : ∀ {b : Addr}, b ∉ ca.tabs.map (·.2) → H b = G b := fun {b} hb => by rw [← hH]; exact if_neg hb
  have off : ∀ {b : Addr} {u : HO}, b ∉ ca.tabs.map (·.2) → H b = some u → b = a ∧ K.lookup a = none ∧ u = .frz o (.lst (ns.map V.int)) := fun {b u} hb e => by rw [ouT hb] at e; exact offG e
  have none_of : ∀ {b : Addr}, b ∉ ca.tabs.map (·.2) → (b = a → K.lookup a = none → False) → H b = none := fun {b} hb n => by
    cases q : H b with
    | none => rfl
    | some u => obtain ⟨h1, h2, _⟩ := off hb q; exact (n h1 h2).elim
  have noD : ∀ {b : Addr} {u : Obj}, s₁.heap.get? b = some u → (∀ vs n, u.data ≠ .seq vs n) → u.data ≠ .fields #[] → H b = none := fun {b u} e h1 h2 => by
    refine none_of (fun hb => ?_) fun h3 _ => ?_
    · rw [isT b hb] at e; cases e; exact h2 rfl
    · subst h3
      rw [obj] at e
      cases e
      exact h1 _ _ (by rw [← ho])
  have dictFree : ∀ {b : Addr} {u : Obj} {es : Array DictEntry} {ep : Nat}, s₁.heap.get? b = some u → u.data = .dict es ep → H b = none := fun {b u es ep} e d =>
    noD e (fun vs n z => by rw [d] at z; cases z) fun z => by rw [d] at z; cases z
  have keepNs : ∀ {b : Addr} {m : Str → Option Value}, s₁.heap.Ns b m → (hidT s₁.heap H).Ns b m := fun {b m} ⟨u, es, ep, e, d, r⟩ => ⟨u, es, ep, hidT_get e (dictFree e d), d, r⟩
  have keepK : K.In (hidT s₁.heap H) := fun b u e => hidT_get (inK b u e) (none_of (fun hb => by
    obtain ⟨p, hp, ep⟩ := List.mem_map.mp hb
    rw [← ep, nT p hp] at e
    cases e) fun h1 h2 => by rw [h1, h2] at e; cases e)
  have lim' := lim
  obtain ⟨mc, lim1, lim2⟩ := lim
  have modK : Mod K mg (hidT s₁.heap H) := ⟨keepK, keepNs nsM, ⟨mb, keepNs nsB, blt⟩, ⟨mc, keepNs lim1, lim2⟩⟩
  have hok : HOk Pg w H s₁.heap := fun b u e => by
    by_cases hb : b ∈ ca.tabs.map (·.2)
    · rw [inT hb] at e
      cases e
      exact isT b hb
    · obtain ⟨h1, _, h3⟩ := off hb e
      subst h1 h3
      exact ⟨obj, by rw [List.length_map]; exact len, vs, _, vals, by rw [obj, ← ho]⟩
  have seq : SqL K G a (ns.map V.int) := by
    cases q : K.lookup a with
    | some u =>
      have e := inK a u q
      rw [obj] at e
      cases e
      rw [← ho] at q
      exact .inr ⟨_, vs.toArray, _, q, rfl, rfl, rfl, by rw [List.size_toArray, lv]; exact len, by simpa using vals⟩
    | none => exact .inl (.inr ⟨o, by rw [← hG]; unfold scrH; rw [if_pos ⟨rfl, by rw [q]; rfl⟩]⟩)
  have noB : ∀ b : Addr, b ∉ ([] : List Addr) := fun b h => by cases h
  have env : Env0 Pg w K mg (hidT s₁.heap H) callerA [] s₁ H := ⟨rfl, modK, fun b u e => of_hidT e, Nat.le_of_eq (hidT_size _ _), trivial, fun b hb => absurd hb (noB b), hok, .of_eq gens⟩
  have TB : TBs ca (hidT s₁.heap H) mg := fun p hp => by
    have hTp := hT p hp
    refine ⟨?_, ?_, fun z => ?_⟩
    · obtain ⟨o, us, file, tf, flags, tg, inF, text, tt, e1, r1, r2, r3, r4, r5, r6, r7, r8, hne⟩ := Cd p hp
      refine ⟨o, us, file, tf, flags, tg, inF, text, tt, hidT_get e1 (noD e1 (fun vs n z => ?_) fun z => ?_), r1, r2, r3, r4, r5, r6, r7, r8, hne⟩
      · rw [r2] at z
        cases z
      · rw [r2] at z
        cases z
        simp at r3
    · obtain ⟨bm, ob, b1, b2, b3, b4, b5, b6⟩ := hbm
      have nG : bm ≠ mainGlobals := fun q => by
        obtain ⟨o, es, ep, e, hd, _⟩ := nsM
        rw [q, e] at b3
        cases b3
        rw [hd] at b6
        cases b6
      have nP : bm ≠ p.2 := fun q => by
        rw [q, hTp] at b3
        cases b3
        cases b6
      refine ⟨bm, ob, b1, b2, nG, nP, hidT_get b3 (noD b3 (fun vs n z => ?_) fun z => ?_), b4, b5, b6⟩
      · rw [b6] at z
        cases z
      · rw [b6] at z
        cases z
    · obtain ⟨o, es, ep, e, hd, _⟩ := nsM
      rw [z, hTp] at e
      cases e
      cases hd
  have bt : BindsTo s₁ fd ⟨[.ref a], []⟩ [(x, .ref a)] := by
    have q := bnd s₁ [.ref a] inK rfl
    exact q
  have start : spF ⟨K, ca, w⟩ 1 c [.ref a] H (fun v _ => v = .bl true) fun _ _ _ => False := by
    refine ⟨[], G, [.scr ns], [], ⟨fun b u e => ?_, List.nodup_nil, rfl, fun b h => absurd h (noB b), fun b h => absurd h (noB b), (fun n b u e => by cases e), fun p hp => ⟨⟨#[], inT (memT p hp), trivial⟩, noB _, ?_⟩⟩, .cons (.scr seq) .nil, rfl, ?_⟩
    · obtain ⟨h1, _, _⟩ := offG e
      rw [ouT (by rw [h1]; exact aT)]; exact e
    · cases q : G p.2 with
      | none => rfl
      | some u =>
        obtain ⟨h1, _, _⟩ := offG q
        exact absurd (memT p hp) (by rw [h1]; exact aT)
    · rw [law]
      exact fun v φ' G' H' _ _ r => r.bl
  refine codeAny_mono ((F (hidT s₁.heap H) TB).go callerA [] s₁ H ⟨[.ref a], []⟩ [.ref a] [.ref a] _ _ ⟨room, rfl⟩ env bt (.cons rfl .nil) start) fun r s' h => ?_
  match r, h with
  | .error e, ⟨_, _, _, _, _, _, _, _, _, _, _, _, z⟩ => exact z.elim
  | .ok .next, h => exact h.elim
  | .ok .brk, h => exact h.elim
  | .ok .cont, h => exact h.elim
  | .ok (.ret u), ⟨v, H', os, bare, un, hok', rv, q⟩ =>
    have q : v = .bl true := q
    subst q
    cases (show u = Value.bool true from rv)
    have key : ∀ b u, b ∉ ca.tabs.map (·.2) → s₁.heap.get? b = some u → s'.heap.get? b = some u := fun b u hb e => by
      cases q : H b with
      | none => exact un.keep b u e q (noB b) (noB b)
      | some z =>
        obtain ⟨h1, _, h3⟩ := off hb q
        subst h1 h3
        obtain ⟨z1, _⟩ := hok b _ q
        obtain ⟨z2, _⟩ := hok' b _ (un.frzs b _ _ q)
        rw [e] at z1
        cases z1
        exact z2
    have grown : ∀ p ∈ ca.tabs, ∃ more : Array Value, s'.heap.get? p.2 = some { cls := .none, data := .fields more } := fun p hp => by
      obtain ⟨more, z⟩ := un.tbls p.2 #[] (inT (memT p hp))
      exact ⟨_, hok' p.2 _ z⟩
    refine ⟨rfl, ⟨fun b o e => ?_, fun b o e => ?_⟩, os, bare⟩
    · by_cases hb : b ∈ ca.tabs.map (·.2)
      · obtain ⟨p, hp, ep⟩ := List.mem_map.mp hb
        obtain ⟨more, hm⟩ := grown p hp
        rw [← ep] at e ⊢
        rw [hT p hp] at e
        cases e
        exact .inr (.inl ⟨((Cd p hp).tab (hT p hp)).isCodeTable, rfl, #[], more, rfl, by rw [Array.empty_append]; exact hm⟩)
      · exact .inl (key b o hb e)
    · by_cases hb : b ∈ ca.tabs.map (·.2)
      · obtain ⟨p, hp, ep⟩ := List.mem_map.mp hb
        obtain ⟨more, hm⟩ := grown p hp
        rw [← ep]
        exact ⟨_, hm⟩
      · exact ⟨o, key b o hb e⟩
theorem walk_ev {l : PySem.W.OpenLaw} {k : Nat} {q : Program} {loose : List Str} {XP : (Str → Option Value) → Heap → Prop} {YP : World → Heap → Prop} {d : DefRec} {P : String → Option Ev.Def} {dl : Ev.Def} {n : Nat}
    (hn : l.most = some n) (hn2 : n ≤ sizeLine) (hdf : d.params.defaults = []) (hr : Room k callerA) (hnm : d.name = Str.ofString "law") (hl : P "law" = some dl) (h1 : dl.np = 1) (h2 : dl.own = none)
    (F : ∀ (w : World) (mg : Str → Option Value) (h : Heap), YP w h → h.Ns mainGlobals mg → ∃ (K : PySem.W.Frag) (ca : Cn), K.In h ∧ (∀ p ∈ ca.tabs, h.get? p.2 = some { cls := .none, data := .fields #[] }) ∧ (∀ p ∈ ca.tabs, K.lookup p.2 = none) ∧ (∀ p ∈ ca.tabs, PySem.W.CodeHd h p.1 p.2) ∧ ∀ f d, P f = some d → Dn l.prog w K mg ca P f d)
    (law : ∀ ns : List Int, ns.length ≤ n → (∀ k ∈ ns, Builtin.Int.intBits k ≤ 1048576) → Ev.callN P k "law" [.scr ns] [] = .ok (.d (.bl true)) []) :
    PySem.W.WalkO q loose XP YP l.row.toRowW d [] (fun f vs => PySem.call f vs) := by
  refine Att.attach_callB hn hdf fun w s₀ s₁ mg mb fa o pm cd doc a vs ns G Y ho hd hcd hmg hobj hints hlen hbits hg => ?_
  obtain ⟨K, ca, KX, hT, nT, Cd, hD⟩ := F w mg _ Y G.T.g
  obtain ⟨a0, fd0, ps0, e1, e2, e3, e4, T⟩ := tab hD k "law" dl hl
  rw [h2] at e2
  have e2 : mg (Str.ofString "law") = some (.ref a0) := e2
  rw [hnm, e2] at hmg
  cases hmg
  rw [h1] at e1 T
  obtain ⟨x, rfl⟩ := List.length_eq_one_iff.mp e1
  exact law_callG KX G.T.g G.T.b G.T.builtins G.T.nolimit hg hT nT Cd G.T.bmain hobj hints (Nat.le_trans hlen hn2) hr T e4 (law ns hlen hbits)

def caK (K : PySem.W.Frag) (tf : List He.Defn) : Cn := ⟨fun c => He.ga K (Str.ofString c), tf.map (He.cT K)⟩
theorem caK_all {K : PySem.W.Frag} {tf : List He.Defn} {R : Addr × Addr → Prop} (h : ∀ p ∈ tf, R (He.cT K p)) : ∀ q ∈ (caK K tf).tabs, R q := fun q hq => by
  obtain ⟨p, hp, e⟩ := List.mem_map.mp hq
  rw [← e]; exact h p hp
section
variable {X : Cx} {W : WX} {ca : Cn} {k : Nat}
theorem XS.u65 (xs : XS X W k) : X.A.units + 65 < cLine := by have := xs.room.r.un; omega
theorem XS.u64 (xs : XS X W k) : X.A.units + 64 < cLine := by have := xs.room.r.un; omega
theorem XS.u1 (xs : XS X W k) : X.A.units + 1 < cLine := by have := xs.room.r.un; omega
end
mutual
def isDV (K : PySem.W.Frag) : Ev.D → Value → Bool
  | .non, .none => true
  | .bl a, .bool b => a == b
  | .int i, .int j _ => decide (i = j)
  | .str z, .str y _ => decide (y = Str.ofString z)
  | .tup ds, .ref a => match K.lookup a with
    | some ⟨.type c, _, .seq its _, _⟩ => decide (c = "tuple") && (decide (its.size ≤ sizeLine) && isDVs K ds its.toList)
    | _ => false
  | _, _ => false
def isDVs (K : PySem.W.Frag) : List Ev.D → List Value → Bool
  | [], [] => true
  | d :: ds, u :: us => isDV K d u && isDVs K ds us
  | _, _ => false
end
def gcB (K : PySem.W.Frag) (x : Str) (d : Ev.D) : Bool := match PySem.W.nsIn K mainGlobals x with
  | some (some u) => isDV K d u
  | _ => false
def gcs (K : PySem.W.Frag) (l : List (String × Ev.D)) : Bool := l.all fun p => gcB K (Str.ofString p.1) p.2
theorem lookup_mem {α : Type} {l : List (String × α)} {f : String} {d : α} (h : l.lookup f = some d) : (f, d) ∈ l := by
  induction l with
  | nil => cases h
  | cons p l ih =>
    obtain ⟨g, e⟩ := p
    rw [List.lookup_cons] at h
    split at h
    · rename_i hb
      cases h
      have : f = g := by simpa using hb
      rw [this]; exact List.mem_cons_self
    · exact List.mem_cons_of_mem _ (ih h)
end EvS
end

section
set_option maxHeartbeats 0
set_option Elab.async false
set_option linter.all false
set_option maxRecDepth 100000
namespace EvS
open PySem PySem.Spec PyProof.Rows L2

mutual
theorem toks_toPy : ∀ x : Ev.D, PySem.W.keyToks (toPy x) = x.toks
  | .non => by simp [toPy, PySem.W.keyToks, Ev.D.toks]
  | .bl b => by simp [toPy, PySem.W.keyToks, Ev.D.toks]
  | .int b => by simp [toPy, PySem.W.keyToks, Ev.D.toks]
  | .str b => by simp [toPy, PySem.W.keyToks, Ev.D.toks, cps_ofString]
  | .tup xs => by simp only [toPy, PySem.W.keyToks, Ev.D.toks]; exact toksL_toPy xs
  | .lst xs => by simp only [toPy, PySem.W.keyToks, Ev.D.toks]; exact toksL_toPy xs
theorem toksL_toPy : ∀ xs : List Ev.D, PySem.W.keyToksAll (toPyL xs) = Ev.D.toksL xs
  | [] => by simp [toPyL, PySem.W.keyToksAll, Ev.D.toksL]
  | x :: xs => by simp only [toPyL, PySem.W.keyToksAll, Ev.D.toksL]; rw [toks_toPy x, toksL_toPy xs]
end
theorem tkLt_eq : ∀ x y, PyProof.Rows.itemLt x y = Ev.tkLt x y
  | .inl _, .inl _ => rfl
  | .inl _, .inr _ => rfl
  | .inr _, .inl _ => rfl
  | .inr _, .inr _ => rfl
theorem tksLt_eq : ∀ x y, PyProof.Rows.lexLt PyProof.Rows.itemOrd x y = Ev.tksLt x y
  | [], [] => rfl
  | [], _ :: _ => rfl
  | _ :: _, [] => rfl
  | x :: r, y :: t => by
    show (PyProof.Rows.itemLt x y || (!PyProof.Rows.itemLt y x && PyProof.Rows.lexLt PyProof.Rows.itemOrd r t)) = (Ev.tkLt x y || (!Ev.tkLt y x && Ev.tksLt r t))
    rw [tkLt_eq, tkLt_eq, tksLt_eq]
theorem leK_eq : PySem.W.dataLe false toPy = Ev.D.leK := by
  funext x y
  show (!PyProof.Rows.lexLt PyProof.Rows.itemOrd (PySem.W.keyToks (toPy y)) (PySem.W.keyToks (toPy x))) = _
  rw [tksLt_eq, toks_toPy, toks_toPy]
  rfl
mutual
theorem alike_toPy : ∀ x y : Ev.D, PySem.W.alike (toPy x) (toPy y) = Ev.D.alike x y
  | .non, y => by cases y <;> simp [toPy, PySem.W.alike, Ev.D.alike]
  | .bl b, y => by cases y <;> simp [toPy, PySem.W.alike, Ev.D.alike]
  | .int b, y => by cases y <;> simp [toPy, PySem.W.alike, Ev.D.alike]
  | .str b, y => by cases y <;> simp [toPy, PySem.W.alike, Ev.D.alike]
  | .tup xs, y => by
    cases y with
    | tup ys => simp only [toPy, PySem.W.alike, Ev.D.alike]; exact alikeL_toPy xs ys
    | _ => simp [toPy, PySem.W.alike, Ev.D.alike]
  | .lst xs, y => by
    cases y with
    | lst ys => simp only [toPy, PySem.W.alike, Ev.D.alike]; exact alikeL_toPy xs ys
    | _ => simp [toPy, PySem.W.alike, Ev.D.alike]
theorem alikeL_toPy : ∀ xs ys : List Ev.D, PySem.W.alikeAll (toPyL xs) (toPyL ys) = Ev.D.alikeL xs ys
  | [], ys => by cases ys <;> simp [toPyL, PySem.W.alikeAll, Ev.D.alikeL]
  | x :: xs, [] => by simp [toPyL, PySem.W.alikeAll, Ev.D.alikeL]
  | x :: xs, y :: ys => by simp only [toPyL, PySem.W.alikeAll, Ev.D.alikeL]; rw [alike_toPy x y, alikeL_toPy xs ys]
end
theorem sortable_of {ds : List Ev.D} (h : Ev.canSort ds = true) : PySem.W.AllAlike (ds.map toPy) ∧ PySem.W.Sortable (ds.map toPy) ∧ (∀ d ∈ ds, d.dep ≤ 64) ∧ ds.length ≤ Ev.SL := by
  unfold Ev.canSort at h
  rw [Bool.and_eq_true, Bool.and_eq_true, Bool.and_eq_true, Bool.or_eq_true, List.all_eq_true, List.all_eq_true, List.all_eq_true, List.all_eq_true, decide_eq_true_eq] at h
  obtain ⟨⟨⟨h1, h2⟩, h3⟩, h4⟩ := h
  refine ⟨fun d hd d' hd' => ?_, ?_, fun d hd => by simpa using h3 d hd, h4⟩
  · obtain ⟨x, hx, rfl⟩ := List.mem_map.mp hd
    obtain ⟨y, hy, rfl⟩ := List.mem_map.mp hd'
    rw [alike_toPy]
    exact List.all_eq_true.mp (h1 x hx) y hy
  · rcases h2 with h2 | h2
    · refine .inl fun d hd => ?_
      obtain ⟨x, hx, rfl⟩ := List.mem_map.mp hd
      have := h2 x hx
      cases x with
      | tup ds => cases ds with
        | nil => simp [Ev.isT1] at this
        | cons a r => exact ⟨toPy a, toPyL r, by simp [toPy, toPyL]⟩
      | _ => simp [Ev.isT1] at this
    · refine .inr fun d hd => ?_
      obtain ⟨x, hx, rfl⟩ := List.mem_map.mp hd
      have := h2 x hx
      cases x <;> simp [Ev.isT0] at this <;> simp [toPy]
section
variable {prog : Program} {w : World} {A : Around} {E : Value → Shared → Prop} {s : Shared}
theorem collect_tupS {l : Addr} {vs : List Value} {Q : List Value → Shared → Prop} (hl : IsTup s.heap l vs.toArray)
    (h : Q vs { s with heap := (s.heap.push (seqObj "list" #[] 0)).update s.heap.objs.size (Obj.mapSeq (· ++ vs.toArray)) }) (hsz : vs.length ≤ sizeLine) :
    wpAny (model prog w) A (collect (.ref l)) Q E s := by
  obtain ⟨o, ho, hc, n, hd⟩ := hl
  unfold collect
  refine wpAny_bind (wpAny_runValue (codeAny_builtin entry_proto_collect' ?_))
  show wpAny _ _ (do again (.builtin "list.__iadd__" ⟨[← newList [], .ref l], []⟩)) _ _ s
  refine wpAny_bind (wpAny_newList (wpAny_pure ⟨Code.quiet_builtin _ (by decide +kernel), codeAny_builtin entry_list_iadd' ?_⟩))
  show wpAny _ _ (Builtin.List.listExtendWith (.ref s.heap.objs.size) (.ref l) (.ref s.heap.objs.size)) _ _ { s with heap := s.heap.push (seqObj "list" #[] 0) }
  unfold Builtin.List.listExtendWith
  have ho' : (s.heap.push (seqObj "list" #[] 0)).get? l = some o := Heap.get?_push_of_some _ ho
  refine wpAny_bind (wpAny_typeOf (T := "tuple") ⟨o, ho', hc⟩ ?_)
  have ht : (Value.type "tuple" == Value.type "tuple") = true := by rfl
  rw [if_pos (by rw [ht]; simp)]
  refine wpAny_bind (listItems_at ho' hd ?_)
  refine wpAny_bind (listItems_at (xs := #[]) (n := 0) (Heap.get?_push_size _ rfl) rfl ?_)
  rw [if_neg (by simp)]
  refine wpAny_bind (listUpdate_at (xs := #[]) (n := 0) (Heap.get?_push_size _ rfl) rfl ?_ (Nat.zero_le _) (by show (#[] ++ vs.toArray).size ≤ sizeLine + 1; simp only [Array.size_append, List.size_toArray, List.length_nil]; omega))
  refine wpAny_pure ?_
  refine wpAny_bind (wpAny_load (get?_update_seq (Heap.get?_push_size _ rfl) _) ?_)
  show wpAny _ _ (pure ((#[] : Array Value) ++ vs.toArray).toList) Q E _
  rw [show ((#[] : Array Value) ++ vs.toArray).toList = vs by simp]
  exact wpAny_pure h
open PySem.W PySem.Calls in
theorem sorted_valsT {κ : PyProof.Rows.KeyKind} {l : Addr} {vs : List Value} {Q : Value → Shared → Prop} (hl : IsTup s.heap l vs.toArray) (S : SortsAt prog w A.in1.in1 { s with heap := sortingHeap (copyHeap s.heap vs) (s.heap.objs.size + 1) vs } κ vs) (hL : vs.length ≤ sizeLine)
    (h : Q (.ref (s.heap.objs.size + 1)) { s with heap := sortedAll s.heap vs (sortVals κ false vs vs).toArray }) : wpAny (model prog w) A (call (.builtin "sorted") [.ref l]) Q E s := by
  refine call_function_entry_kw kind_sorted plain_sorted entry_sorted (args_sorted1 _) ?_
  unfold Builtin.«sorted»
  refine wpAny_bind (m := checkCount "sorted" 1 1 _) (wpAny_pure ?_)
  refine wpAny_bind (collect_tupS hl ?_ hL)
  refine wpAny_bind (wpAny_newList ?_ hL)
  have hsz : ((s.heap.push (seqObj "list" #[] 0)).update s.heap.objs.size (Obj.mapSeq (· ++ vs.toArray))).objs.size = s.heap.objs.size + 1 := by
    rw [Heap.size_update, size_push']
  show wpAny _ _ _ _ _ { s with heap := copyHeap s.heap vs }
  rw [hsz]
  refine wpAny_bind (wpAny_holding (wpAny_call_entry_kw slot_list_sort ⟨_, copyHeap_at s.heap vs, rfl⟩ entry_list_sort ?body (args_list_sort _)))
  case body => exact list_sort_vals (s := { s with heap := copyHeap s.heap vs }) (copyHeap_at s.heap vs) S hL ⟨_, rfl, wpAny_pure ⟨_, rfl, h⟩⟩
open PySem.W PySem.Calls in
theorem sorted_dataT {β : Type} {vs : List Value} {bs : List β} {enc : β → PyData} {R : Value → β → Prop} {l : Addr} {Q : Value → Shared → Prop} (hl : IsTup s.heap l vs.toArray) (e : EachIs R vs bs) (er : EachIs (fun v b => ∃ as, Reads s.heap v (enc b) as) vs bs) (hal : AllAlike (bs.map enc)) (hk : PySem.W.Sortable (bs.map enc)) (hL : bs.length ≤ sizeLine)
    (hu : ∀ b, b ∈ bs → A.units + 2 + (enc b).depth < cLine) (h : ∀ out, out.length = bs.length → EachIs R out (bs.mergeSort (dataLe false enc)) → Q (.ref (s.heap.objs.size + 1)) { s with heap := sortedAll s.heap vs (List.toArray out) }) :
    wpAny (model prog w) A (call (.builtin "sorted") [.ref l]) Q E s := by
  have er' : EachIs (fun v b => ∃ as, Reads (sortingHeap (copyHeap s.heap vs) (s.heap.objs.size + 1) vs) v (enc b) as) vs bs := er.mono fun _ _ ⟨as, r⟩ => ⟨as, PyProof.Rows.Reads.keeps (fun _ _ => sorting_copy_old) r⟩
  exact sorted_valsT hl (SortsAt.data (s := { s with heap := sortingHeap (copyHeap s.heap vs) (s.heap.objs.size + 1) vs }) (each_map (R := fun v d => ∃ as, Reads (sortingHeap (copyHeap s.heap vs) (s.heap.objs.size + 1) vs) v d as) enc er') hal hk (bound_map hu)) (by rw [e.length]; exact hL)
    (h _ (by rw [sortVals_length false rfl]; exact e.length) (sortVals_data false e er' hal))
end
theorem XS.u67 {X : Cx} {W : WX} {k : Nat} (xs : XS X W k) : X.A.units + 67 < cLine := by have := xs.room.r.un; omega
section
variable {X : Cx} {W : WX} {ca : Cn} {k : Nat}
open PySem.W in
theorem each_bs {K : PySem.W.Frag} {G : Hp} : ∀ {ys : List V} {its : List Value} {ds : List Ev.D}, Vals ys its → DRs K G ys ds → EachIs (fun (u : Value) (b : V × Ev.D) => RelV b.1 u ∧ DR K G b.1 b.2) its (ys.zip ds)
  | [], _, _, r, d => by cases r; cases d; exact .nil
  | y :: ys, _, _, r, d => by
    cases r with
    | cons r1 r2 =>
      cases d with
      | cons d1 d2 => exact .cons ⟨r1, d1⟩ (each_bs r2 d2)
open PySem.W in
theorem each_back {K : PySem.W.Frag} {G : Hp} : ∀ {its : List Value} {bs : List (V × Ev.D)}, EachIs (fun (u : Value) (b : V × Ev.D) => RelV b.1 u ∧ DR K G b.1 b.2) its bs → Vals (bs.map (·.1)) its ∧ DRs K G (bs.map (·.1)) (bs.map (·.2))
  | [], [], _ => ⟨.nil, .nil⟩
  | _ :: _, b :: bs, h => by
    cases h with
    | cons h1 h2 =>
      obtain ⟨a, c⟩ := each_back h2
      exact ⟨.cons h1.1 a, .cons h1.2 c⟩
  | [], _ :: _, h => by cases h
  | _ :: _, [], h => by cases h
theorem zip_snd {α β : Type} : ∀ {ys : List α} {ds : List β}, ys.length = ds.length → (ys.zip ds).map (·.2) = ds
  | [], [], _ => rfl
  | _ :: ys, d :: ds, h => by
    simp only [List.zip_cons_cons, List.map_cons]
    rw [zip_snd (by simpa using h)]
  | [], _ :: _, h => by simp at h
  | _ :: _, [], h => by simp at h
open PySem.W in
theorem cb_sorted (hu : X.A.units + 67 < cLine) : CallR X (.builtin "sorted") (rBiN (ct X ca) Ev.sortR) := by
  intro pins s σ H vs us Q I rs h
  obtain ⟨φ, G, μ, xs, z, ok, r, e, q⟩ := h
  have main : ∀ {a : Addr} {ys : List V} {its : List Value} {ds : List Ev.D}, Ev.canSort ds = true → Vals ys its → ys.length ≤ sizeLine → DRs X.K G ys ds → z = .d (.lst (ds.mergeSort Ev.D.leK)) →
      (∀ {β : Type} {bs : List β} {enc : β → PyData} {R : Value → β → Prop} {Q' : Value → Shared → Prop}, EachIs R its bs → EachIs (fun v b => ∃ as, Reads s.heap v (enc b) as) its bs → AllAlike (bs.map enc) → PySem.W.Sortable (bs.map enc) → bs.length ≤ sizeLine →
        (∀ b, b ∈ bs → X.A.units + 2 + (enc b).depth < cLine) → (∀ out, out.length = bs.length → EachIs R out (bs.mergeSort (dataLe false enc)) → Q' (.ref (s.heap.objs.size + 1)) { s with heap := sortedAll s.heap its (List.toArray out) }) →
        wpAny (model X.prog X.w) X.A (call (.builtin "sorted") [.ref a]) Q' X.xe s) → wpAny (model X.prog X.w) X.A (call (.builtin "sorted") [.ref a]) (EP X pins σ Q) X.xe s := by
    intro a ys its ds hc rv hz rd hzz run
    obtain ⟨c1, c2, c3, c4⟩ := sortable_of hc
    have hlen := rd.len
    have hmap : (ys.zip ds).map (fun b => toPy b.2) = ds.map toPy := by
      rw [show (fun b : V × Ev.D => toPy b.2) = toPy ∘ (·.2) from rfl, ← List.map_map, zip_snd hlen]
    refine run (bs := ys.zip ds) (enc := fun b => toPy b.2) (R := fun u b => RelV b.1 u ∧ DR X.K G b.1 b.2) (each_bs rv rd) ((each_bs rv rd).mono fun u b hb => Dp.reads I _ _ _ (Dp.mono ok.le hb.2.dp) hb.1) (by rw [hmap]; exact c1) (by rw [hmap]; exact c2) (by rw [List.length_zip]; omega) (fun b hb => ?_) fun out ho eo => ?_
    · have := c3 b.2 (List.of_mem_zip (a := b.1) (b := b.2) hb).2
      rw [dep_toPy]; omega
    · obtain ⟨ep, he'⟩ := sortedAll_at s.heap its out.toArray
      obtain ⟨v1, v2⟩ := each_back eo
      have hsort : ((ys.zip ds).mergeSort (dataLe false fun b => toPy b.2)).map (·.2) = ds.mergeSort Ev.D.leK := by
        rw [sort_maps (s := Ev.D.leK) (fun b : V × Ev.D => b.2) (fun a _ b _ => by rw [← leK_eq]; rfl), zip_snd hlen]
      rw [hsort] at v2
      have hl2 : (((ys.zip ds).mergeSort (dataLe false fun b => toPy b.2)).map (·.1)).length ≤ sizeLine := by
        rw [List.length_map, List.length_mergeSort, List.length_zip]; omega
      have hp : H (s.heap.objs.size + 1) = none := I.hok.fresh (Nat.le_succ _)
      have q2 := q (fun _ _ _ => True)
      rw [hzz, ← mkL_d] at q2
      have q3 := postN_lst q2 ok hp (RRs.ofD v2)
      exact ⟨.ref _, _, I.laid (t' := s.toks) (fun _ _ => sortedAll_old) (Nat.le_succ _) (show ObjOk X.prog X.w _ _ _ (.lst (((ys.zip ds).mergeSort (dataLe false fun b => toPy b.2)).map (·.1))) from ⟨hl2, out, ep, v1, he'⟩), rfl, q3⟩
  unfold Ev.sortR at e
  split at e
  · split at e
    · rename_i hc
      cases e
      obtain ⟨v, e1, r1⟩ := r.one
      obtain ⟨a, ys, e2, h2, r2⟩ := r1.list ok.le
      subst e1 e2
      obtain ⟨its, rv, pl, hz⟩ := I.list (.inl (.inl h2))
      rw [Vals.ref1 rs]
      exact main hc rv hz r2 rfl fun a1 a2 a3 a4 a5 a6 a7 => sorted_data pl.isList a1 a2 a3 a4 a5 a6 a7
    · cases e
  · split at e
    · rename_i hc
      cases e
      obtain ⟨v, e1, r1⟩ := r.one
      obtain ⟨a, ys, e2, h2, r2⟩ := r1.tuple
      subst e1 e2
      obtain ⟨its, rv, pl, hz⟩ := I.tuple (Same.seqT ok.le h2)
      rw [Vals.ref1 rs]
      exact main hc rv hz r2 rfl fun a1 a2 a3 a4 a5 a6 a7 => sorted_dataT pl a1 a2 a3 a4 a5 a6 a7
    · cases e
  · cases e
end
end EvS
end

section
set_option maxHeartbeats 0
set_option Elab.async false
set_option linter.all false
set_option maxRecDepth 100000
namespace EvS
open PySem PySem.Spec PyProof.Rows L2
section
variable {X : Cx} {W : WX} {ca : Cn} {k : Nat}
def NoD (D : Addr) (σ : L2.St) (ρ : Ev.Env) : Prop := ∀ (j : Nat) (s : Ev.Sl) (a : Addr), ρ[j]? = some s → isOwn s = true → σ[j]? = some (some (V.ref a)) → a ≠ D
theorem NoD.of {Γ : Ct} {φ : List Addr} {G H : Hp} {σ : L2.St} {ρ : Ev.Env} {D : Addr} (h : EnvR Γ φ G H σ ρ) (hD : H D = none) : NoD D σ ρ := fun j s a e o q z => by
  obtain ⟨v, e1, r⟩ := h.at_ j s e
  rw [q] at e1
  cases e1
  subst z
  cases r with
  | un => cases o
  | v _ => cases o
  | own h1 _ _ _ => rw [hD] at h1; cases h1
  | odic h1 _ _ _ => rw [hD] at h1; cases h1
section
variable {y : Str} {i : Nat} {py spos : Pos} {elt tg iter tg1 iter1 : Expr} {scope : Scope} {own own1 : List (Str × Nat)} {pos : Pos} {g g1 : TG} {t t1 : Ev.Tg} {is is1 : List Nat} {it it1 : Ev.It} {fe : Ev.E}
end
end
end EvS
end

section
set_option maxHeartbeats 0
set_option Elab.async false
set_option linter.all false
set_option maxRecDepth 100000
namespace EvS
open PySem PySem.Spec PyProof.Rows L2
section
variable {X : Cx} {W : WX} {ca : Cn}
end
end EvS
end

section
set_option maxHeartbeats 0
set_option Elab.async false
set_option linter.all false
set_option maxRecDepth 100000
namespace EvS
open PySem PySem.Spec PyProof.Rows L2
section
variable {Γ : Ct} {φ : List Addr} {G H : Hp} {μ : Ev.Mem}
theorem RFs.get : ∀ {gs : List (Str × V)} {fs : List (String × Ev.R)} {f : String} {r : Ev.R}, RFs Γ φ G gs fs → fs.lookup f = some r → ∃ v, gs.lookup (Str.ofString f) = some v ∧ RR Γ φ G v r
  | _, _, f, r, .nil, e => by cases e
  | _, _, f, r, .cons (k := k) h h2, e => by
    rw [List.lookup_cons] at e ⊢
    rw [ofString_eq]
    cases hk : f == k with
    | true => rw [hk] at e; cases e; exact ⟨_, rfl, h⟩
    | false => rw [hk] at e; exact RFs.get h2 e
theorem RFs.none : ∀ {gs : List (Str × V)} {fs : List (String × Ev.R)} {f : String}, RFs Γ φ G gs fs → fs.lookup f = none → gs.lookup (Str.ofString f) = none
  | _, _, f, .nil, e => rfl
  | _, _, f, .cons (k := k) h h2, e => by
    rw [List.lookup_cons] at e ⊢
    rw [ofString_eq]
    cases hk : f == k with
    | true => rw [hk] at e; cases e
    | false => rw [hk] at e; exact RFs.none h2 e
theorem RFs.put {f : String} {v : V} {r : Ev.R} (hr : RR Γ φ G v r) : ∀ {gs : List (Str × V)} {fs : List (String × Ev.R)}, RFs Γ φ G gs fs → RFs Γ φ G (putF (Str.ofString f) v gs) (Ev.putA f r fs)
  | _, _, .nil => .cons hr .nil
  | _, _, .cons (k := k) h h2 => by
    unfold putF Ev.putA
    by_cases e : k = f
    · subst e
      rw [if_pos rfl, if_pos rfl]
      exact .cons hr h2
    · rw [if_neg e, if_neg (fun z => e (ofString_inj z))]
      exact .cons h (RFs.put hr h2)
theorem RFs.len : ∀ {gs : List (Str × V)} {fs : List (String × Ev.R)}, RFs Γ φ G gs fs → gs.length = fs.length
  | _, _, .nil => rfl
  | _, _, .cons _ h2 => by rw [List.length_cons, List.length_cons, RFs.len h2]
theorem ins_of {v : V} {x : Ev.R} {c : String} {fs : List (String × Ev.R)} (ok : Ok Γ φ G H μ) (r : RR Γ φ G v x) (h : Ev.insOf μ c x = some fs) : ∃ a dx gs, v = .ref a ∧ H a = some (.ins (Γ.ca.cls c) dx gs) ∧ RFs Γ φ G gs fs := by
  unfold Ev.insOf at h
  split at h
  · rename_i n
    split at h
    · rename_i c' fs' hm
      split at h
      · rename_i hc
        cases h
        subst hc
        cases r with
        | p hn =>
          cases ok.cell _ _ _ hn hm with
          | ins h1 h2 h3 => exact ⟨_, _, _, rfl, h1, h3⟩
      · cases h
    · cases h
  · split at h
    · rename_i hc
      cases h
      subst hc
      cases r with
      | ins h1 h2 h3 => exact ⟨_, _, _, rfl, ok.le _ _ h1, h3⟩
    · cases h
  · cases h
theorem Ok.insSet {n : Nat} {a dx : Addr} {c : String} {gs gs' : List (Str × V)} {fs' : List (String × Ev.R)} (k : Ok Γ φ G H μ) (hn : φ[n]? = some a) (ha : H a = some (.ins (Γ.ca.cls c) dx gs)) (hd : H dx = some (.own a)) (r : RFs Γ φ G gs' fs') :
    Ok Γ φ G (L2.upd H a (.ins (Γ.ca.cls c) dx gs')) (μ.set n (.ins c fs')) := by
  have hg : G a = none := k.fre a (List.mem_of_getElem? hn)
  have ne : ∀ {b : Addr} {x : HO}, G b = some x → b ≠ a := fun {b x} e z => by subst z; rw [hg] at e; cases e
  refine ⟨fun b x e => by rw [upd_ne (ne e)]; exact k.le b x e, k.nd, by rw [List.length_set]; exact k.len, k.fre, fun b hb => ?_, fun m b c h1 h2 => ?_, fun q hq => ?_⟩
  · by_cases hba : b = a
    · subst hba; exact ⟨_, upd_same⟩
    · rw [upd_ne hba]; exact k.thr b hb
  · by_cases hm : n = m
    · subst hm
      rw [hn] at h1; cases h1
      have hl : n < μ.length := by
        rw [← k.len]; exact (List.getElem?_eq_some_iff.mp hn).1
      rw [List.getElem?_set_self hl] at h2
      cases h2
      exact .ins upd_same (by rw [upd_ne (show dx ≠ a from fun z => by rw [z, ha] at hd; cases hd)]; exact hd) r
    · rw [List.getElem?_set_ne hm] at h2
      have hba : b ≠ a := fun z => hm ((List.getElem?_inj (List.getElem?_eq_some_iff.mp hn).1 k.nd).mp (by rw [hn, h1, z]))
      refine (k.cell m b c h1 h2).keep (Same.refl _) (fun _ _ z => z) (fun o e => by rw [upd_ne hba]; exact e) fun d e => ?_
      rw [upd_ne (show d ≠ a from fun z => by rw [z, ha] at e; cases e)]; exact e
  · obtain ⟨⟨ps, e, t⟩, h2, h3⟩ := k.tb q hq
    exact ⟨⟨ps, by rw [upd_ne (fun z => by rw [z, ha] at e; cases e)]; exact e, t⟩, h2, h3⟩
end
section
variable {X : Cx} {W : WX} {ca : Cn} {k : Nat} {e : En}
theorem se_fld {c f : String} {f' : Str} {o : Expr} {fo : Ev.E} {pos : Pos} (cl : Cls X.K (ca.cls c)) (na : NoAttr X.K (ca.cls c) (Str.ofString f)) (h : PE X o (tE (ct X ca) W fo)) (hf : f' = Str.ofString f := by rfl) (hb : attributeBase o f' X.env (eval o X.env) = eval o X.env := by rfl) :
    PE X (.Attribute o f' pos) (tE (ct X ca) W (Ev.eFld c fo f)) := PE.imp (pe_fld h hb) fun σ H Q q => by
  obtain ⟨φ, G, ρ, μ, ok, en, q⟩ := q
  unfold Ev.eFld at q
  refine ⟨φ, G, ρ, μ, ok, en, post_bind q fun v1 φ1 G1 H1 x μ1 _ ext ok1 r1 q1 => ?_⟩
  obtain ⟨z, e1, q2⟩ := post_lift q1
  obtain ⟨fs, e2, e3⟩ := Option.bind_eq_some_iff.mp e1
  obtain ⟨a, dx, gs, h1, h2, h3⟩ := ins_of ok1 r1 e2
  obtain ⟨v, h4, h5⟩ := h3.get e3
  subst hf
  exact ⟨a, _, dx, gs, v, h1, h2, cl, na, h4, post_ok q2 ok1 h5⟩
theorem putI_ok {c f : String} {σ : L2.St} {φ φ0 : List Addr} {G G0 H : Hp} {μ : Ev.Mem} {ρ : Ev.Env} {v1 v2 : V} {z x : Ev.R} {D : Ends} (cl : Cls X.K (ca.cls c)) (na : NoAttr X.K (ca.cls c) (Str.ofString f)) (b : BS (ct X ca) e φ G H σ ρ μ) (l : Lq φ0 G0 φ G)
    (rz : RR (ct X ca) φ G v1 z) (rx : RR (ct X ca) φ G v2 x) (q : postS (ct X ca) W e φ0 G0 σ (Ev.putI c f z x ρ μ) D) :
    ∃ a dx fs, v2 = .ref a ∧ H a = some (.ins (ca.cls c) dx fs) ∧ Cls X.K (ca.cls c) ∧ NoAttr X.K (ca.cls c) (Str.ofString f) ∧ fs.length < 1000 ∧ D.nx σ (upd H a (.ins (ca.cls c) dx (putF (Str.ofString f) v1 fs))) := by
  unfold Ev.putI at q
  split at q
  · rename_i n
    split at q
    · rename_i c' fs hm
      split at q
      · rename_i hc
        obtain ⟨hc, hl⟩ := hc
        subst hc
        cases rx with
        | p hn =>
          cases b.ok.cell _ _ _ hn hm with
          | ins h1 h2 h3 =>
            rename_i a dx gs
            refine ⟨a, dx, gs, rfl, h1, cl, na, by rw [h3.len]; exact hl, ?_⟩
            exact q σ φ G _ (b.step (Ext.cellSet hn) (b.ok.insSet hn h1 h2 (RFs.put rz h3))) l
      · exact q.elim
    · exact q.elim
  · exact q.elim
theorem s_fld {c f : String} {f' : Str} {o a : Expr} {fo fa : Ev.E} {pos' pos : Pos} (xs : XS X W k) (cl : Cls X.K (ca.cls c)) (na : NoAttr X.K (ca.cls c) (Str.ofString f)) (ho : PE X o (tE (ct X ca) W fo)) (ha : PE X a (tE (ct X ca) W fa)) (hf : f' = Str.ofString f := by rfl)
    (hs : swapsWith a (some (.Attribute o f' pos')) pos.line X.env = pure false := by rfl) : PS X (.Assign [.Attribute o f' pos'] a pos) (tS (ct X ca) W e (Ev.sFld c fo f fa)) := PS.imp (ps_fld ho ha hs) fun D σ H q => by
  obtain ⟨φ, G, ρ, μ, bs, q⟩ := q
  unfold Ev.sFld at q
  refine ⟨φ, G, ρ, μ, bs.ok, bs.en, bs.bind q fun v1 φ1 G1 H1 z μ1 _ ext ok1 r1 q1 => ?_⟩
  have b1 := bs.step ext ok1
  refine ⟨φ1, G1, ρ, μ1, ok1, b1.en, b1.bind (postS_flat (σ1 := σ) xs.fw ext.lq q1) fun v2 φ2 G2 H2 x μ2 _ ext2 ok2 r2 q2 => ?_⟩
  obtain ⟨a, dx, fs, h1, h2, h3, h4, h5, h6⟩ := putI_ok cl na (b1.step ext2 ok2) ext2.lq (ext2.rr r1) r2 q2
  subst hf
  exact ⟨a, _, dx, fs, h1, h2, h3, h4, h5, h6⟩
theorem s_fldAdd {c f : String} {f' : Str} {o a : Expr} {fo fa : Ev.E} {pos' pos : Pos} (xs : XS X W k) (cl : Cls X.K (ca.cls c)) (na : NoAttr X.K (ca.cls c) (Str.ofString f)) (ho : PE X o (tE (ct X ca) W fo)) (ha : PE X a (tE (ct X ca) W fa)) (hf : f' = Str.ofString f := by rfl) :
    PS X (.AugAssign (.Attribute o f' pos') .Add a pos) (tS (ct X ca) W e (Ev.sFldAug c fo f Ev.addI fa)) := PS.imp (ps_fldaug ho ha in_add) fun D σ H q => by
  obtain ⟨φ, G, ρ, μ, bs, q⟩ := q
  unfold Ev.sFldAug at q
  refine ⟨φ, G, ρ, μ, bs.ok, bs.en, bs.bind q fun v1 φ1 G1 H1 x μ1 _ ext ok1 r1 q1 => ?_⟩
  have b1 := bs.step ext ok1
  cases hv : ((Ev.insOf μ1 c x).bind fun fs => fs.lookup f) with
  | none => rw [hv] at q1; exact q1.elim
  | some v =>
    rw [hv, Ev.lift_some, Ev.bind_ok] at q1
    obtain ⟨fs, e2, e3⟩ := Option.bind_eq_some_iff.mp hv
    obtain ⟨a, dx, gs, h1, h2, h3⟩ := ins_of ok1 r1 e2
    obtain ⟨v0, h4, h5⟩ := h3.get e3
    subst hf
    refine ⟨a, _, dx, gs, v0, h1, h2, cl, na, h4, ?_⟩
    refine ⟨φ1, G1, ρ, μ1, ok1, b1.en, b1.bind (postS_flat (σ1 := σ) xs.fw ext.lq q1) fun v2 φ2 G2 H2 y μ2 _ ext2 ok2 r2 q2 => ?_⟩
    generalize ho : Ev.addI v y = z at q2
    cases z with
    | none => exact q2.elim
    | some z =>
      rw [Ev.lift_some, Ev.bind_ok] at q2
      obtain ⟨i, j, z1, z2, z3⟩ := Ev.addI_some ho
      subst z1 z2 z3
      have i1 := (ext2.rr h5).int
      have i2 := r2.int
      subst i1 i2
      refine ⟨i, j, rfl, rfl, ?_⟩
      obtain ⟨a', dx', fs', k1, k2, k3, k4, k5, k6⟩ := putI_ok cl na (b1.step ext2 ok2) ext2.lq (RR.d (DR.int (i + j))) (ext2.rr r1) q2
      rw [h1] at k1
      cases k1
      exact ⟨dx', fs', k2, k5, k6⟩
theorem se_meth {C : Ev.Fn} {c m q0 : String} {np : Nat} {m' : Str} {o a : Expr} {as : List Expr} {fo : Ev.E} {fs : List Ev.E} {apos pos : Pos} {pl : Sem Bool} (F : Callee X ca k C q0 np (some (c, m))) (xs : XS X W k) (cl : Cls X.K (ca.cls c)) (ho : PE X o (tE (ct X ca) W fo)) (ha : PA X (a :: as) (tA (ct X ca) W fs)) (hn : fs.length + 1 = np)
    (hm' : m' = Str.ofString m := by rfl) (he : starEach (a :: as) X.env = (false, eval a X.env) :: starEach as X.env := by rfl) (hpl : (backTo pos (starEach as X.env)).any (·.1) = false := by rfl)
    (ht : eval (.Call (.Attribute o m' apos) (a :: as) [] pos) X.env = (do
      let ov ← eval o X.env
      standAt apos.atName
      let (f, first) ← holding [ov] (getMethod ov m' pl)
      callWith pos f first (backTo pos (starEach (a :: as) X.env)) (backToKw pos (keywordEach [] X.env))) := by rfl) :
    PE X (.Call (.Attribute o m' apos) (a :: as) [] pos) (tE (ct X ca) W (Ev.eMeth C c m q0 fo fs)) := by
  obtain ⟨g, fd, ps, hps, hm, hk, hb, FG⟩ := F.at_
  have hm : Meth X.K (ca.cls c) (Str.ofString m) g := hm
  refine ⟨fun pins s σ H Q I q => ?_⟩
  subst hm'
  obtain ⟨φ, G, ρ, μ, ok, en, q⟩ := q
  unfold Ev.eMeth at q
  refine PySem.W.methodCall_KW (pl := pl) (thn (ho.run pins s σ H (fun v H1 => ∃ φ1 G1 x μ1, Ok (ct X ca) φ1 G1 H1 μ1 ∧ EnvR (ct X ca) φ1 G1 H1 σ ρ ∧ RR (ct X ca) φ1 G1 v x ∧ post (ct X ca) (WE W σ) φ1 G1 H1 (match Ev.insOf μ1 c x with
    | some fs0 => if (fs0.lookup m).isNone then (Ev.evs fs ρ μ1).bind fun rs μ => C q0 (x :: rs) μ else .no
    | none => .no) (rRR (ct X ca)) Q) I ⟨φ, G, ρ, μ, ok, en, post_bind q fun v1 φ1 G1 H1 x μ1 _ ext ok1 r1 q1 => ⟨φ1, G1, x, μ1, ok1, en.ext ext, r1, q1⟩⟩) fun u s1 ⟨v, H1, I1, rv, φ1, G1, x, μ1, ok1, en1, r1, q1⟩ => ?_) ht
  split at q1
  · rename_i fs0 hi
    split at q1
    · rename_i hnone
      obtain ⟨b, dx, gs, e1, e2, e3⟩ := ins_of ok1 r1 hi
      subst e1
      obtain rfl : u = Value.ref b := rv
      refine getmeth_ok I1 e2 cl hm (e3.none (Option.isNone_iff_eq_none.mp hnone)) ?_
      refine PySem.W.callWith_K (first := [.ref b]) (h₀ := X.base) I1.ok.mod.kin hk (thn (ha.run pos pins s1 σ H1 (fun vs H2 => spF (ct X ca) np (C q0) (.ref b :: vs) H2 Q (WE W σ)) I1 ?_) fun us s2 ⟨vs, H2, I2, r, q2⟩ => ⟨I2.kIn, run_g (us := .ref b :: us) (vs := .ref b :: vs) FG xs.room xs.tk hb I2 (.cons rfl r) q2⟩) he hpl
      refine ⟨φ1, G1, ρ, μ1, ok1, en1, post_bind (Rel1 := rRRs (ct X ca)) q1 fun vs φ2 G2 H2 rs μ2 e2 ext ok2 r2 q2 => ?_⟩
      exact ⟨φ2, G2, x :: rs, μ2, ok2, .cons (ext.rr r1) r2, by rw [List.length_cons, Ev.evs_len e2]; exact hn, q2⟩
    · exact q1.elim
  · exact q1.elim
theorem se_meth0 {C : Ev.Fn} {c m q0 : String} {m' : Str} {o : Expr} {fo : Ev.E} {apos pos : Pos} {pl : Sem Bool} (F : Callee X ca k C q0 1 (some (c, m))) (xs : XS X W k) (cl : Cls X.K (ca.cls c)) (ho : PE X o (tE (ct X ca) W fo))
    (hm' : m' = Str.ofString m := by rfl)
    (ht : eval (.Call (.Attribute o m' apos) [] [] pos) X.env = (do
      let ov ← eval o X.env
      standAt apos.atName
      let (f, first) ← holding [ov] (getMethod ov m' pl)
      callWith pos f first (backTo pos (starEach [] X.env)) (backToKw pos (keywordEach [] X.env))) := by rfl) :
    PE X (.Call (.Attribute o m' apos) [] [] pos) (tE (ct X ca) W (Ev.eMeth C c m q0 fo [])) := by
  obtain ⟨g, fd, ps, hps, hm, hk, hb, FG⟩ := F.at_
  have hm : Meth X.K (ca.cls c) (Str.ofString m) g := hm
  refine ⟨fun pins s σ H Q I q => ?_⟩
  subst hm'
  obtain ⟨φ, G, ρ, μ, ok, en, q⟩ := q
  unfold Ev.eMeth at q
  refine PySem.W.methodCall_KW (pl := pl) (thn (ho.run pins s σ H (fun v H1 => ∃ φ1 G1 x μ1, Ok (ct X ca) φ1 G1 H1 μ1 ∧ EnvR (ct X ca) φ1 G1 H1 σ ρ ∧ RR (ct X ca) φ1 G1 v x ∧ post (ct X ca) (WE W σ) φ1 G1 H1 (match Ev.insOf μ1 c x with
    | some fs0 => if (fs0.lookup m).isNone then (Ev.evs [] ρ μ1).bind fun rs μ => C q0 (x :: rs) μ else .no
    | none => .no) (rRR (ct X ca)) Q) I ⟨φ, G, ρ, μ, ok, en, post_bind q fun v1 φ1 G1 H1 x μ1 _ ext ok1 r1 q1 => ⟨φ1, G1, x, μ1, ok1, en.ext ext, r1, q1⟩⟩) fun u s1 ⟨v, H1, I1, rv, φ1, G1, x, μ1, ok1, en1, r1, q1⟩ => ?_) ht
  split at q1
  · rename_i fs0 hi
    split at q1
    · rename_i hnone
      obtain ⟨b, dx, gs, e1, e2, e3⟩ := ins_of ok1 r1 hi
      subst e1
      obtain rfl : u = Value.ref b := rv
      refine getmeth_ok I1 e2 cl hm (e3.none (Option.isNone_iff_eq_none.mp hnone)) ?_
      exact PySem.W.callWith_K0 (first := [.ref b]) I1.kIn hk (run_g (us := [.ref b]) (vs := [.ref b]) FG xs.room xs.tk hb I1 (.cons rfl .nil) ⟨φ1, G1, [x], μ1, ok1, .cons r1 .nil, rfl, q1⟩)
    · exact q1.elim
  · exact q1.elim
theorem make_guards {A : Around} {C : Addr} {us : List Value} {kw : List (Str × Value)} (h : A.guards = some []) : (A.under (.builtin "type.__call__" ⟨.ref C :: us, kw⟩)).guards = some [] := by
  first
    | exact h
    | (simp [Around.under, Code.weight, Code.isCreation, Code.isGuard, Code.isCaller, Code.frames, Code.isFrame, guardIds, h]; done)
theorem room_make {A : Around} {C : Addr} {us : List Value} {k : Nat} (hd : A.handled = none) (g : A.guards = some []) (dp : A.depth + 3 * k + 7 < recursionLimit) (un : A.units + 16 * k + 213 < cLine) : RoomG k (A.under (.builtin "type.__call__" ⟨.ref C :: us, []⟩)) :=
  ⟨⟨hd, by rw [make_depth]; omega, by rw [make_units]; omega⟩, make_guards g⟩
theorem run_makeG {pins : List (Addr × Obj)} {σ : L2.St} {H : Hp} {s : Shared} {Q : VK} {us : List Value} {vs : List V} {C f : Addr} {fd : FuncData} {ps : List Str} {sp : Sp} (M : Mk X.K C f) (F : FnG X.prog X.w X.K X.mg X.base k f fd ps sp) (hr : RoomG k X.A) (sl : Slk X k) (tk : Takes X W)
    (hb : Binds X.K fd ps []) (I : Inv X pins σ H s) (r : Vals vs us)
    (h : ∀ x dx, H x = none → H dx = none → dx ≠ x → sp (.ref x :: vs) (upd (upd H dx (.own x)) x (.ins C dx [])) (fun v H2 => v = .non ∧ Q (.ref x) H2) (WE W σ)) :
    wpAny (model X.prog X.w) X.A (call (.ref C) us) (EP X pins σ Q) X.xe s := by
  have hq := h (s.heap.objs.size + 1) s.heap.objs.size (I.hok.fresh (Nat.le_succ _)) (I.hok.fresh (Nat.le_refl _)) (Nat.ne_of_lt (Nat.lt_succ_self _))
  have I2 := Inv.made (C := C) I
  have r2 : Vals (V.ref (s.heap.objs.size + 1) :: vs) (Value.ref (s.heap.objs.size + 1) :: us) := .cons rfl r
  have hl : (Value.ref (s.heap.objs.size + 1) :: us).length = ps.length := by
    have e := r2.length
    rw [F.len _ _ _ _ hq] at e
    exact e.symm
  have hb2 := hb _ (Value.ref (s.heap.objs.size + 1) :: us) I2.kIn (by rw [List.append_nil]; exact hl)
  rw [List.append_nil] at hb2
  refine wpAny_call (make_map (f := f) I.kIn M.makes M.init (beq_iff_eq.mp M.fn) (codeAny_mono (F.go _ X.stack _ _ ⟨Value.ref (s.heap.objs.size + 1) :: us, []⟩ (Value.ref (s.heap.objs.size + 1) :: us) _ _ (WE W σ) (room_make hr.r.hd hr.g sl.dp sl.un)
    (I2.env0.make C us []) hb2 r2 hq) fun r s' hq' => ?_))
  match r, hq' with
  | .error e, hq' => exact passAt tk σ pins _ _ e s' I2 hq'
  | .ok (.ret u), hq' =>
    obtain ⟨v, H', I3, rv, ev, q3⟩ := I2.after hq'
    subst ev
    exact ⟨rv, ⟨V.ref (s.heap.objs.size + 1), H', I3, rfl, q3⟩⟩
theorem made_ok {Γ : Ct} {φ : List Addr} {G H : Hp} {μ : Ev.Mem} {x dx : Addr} {c : String} (ok : Ok Γ φ G H μ) (nx : H x = none) (nd : H dx = none) (ne : dx ≠ x) :
    Ok Γ (φ ++ [x]) G (upd (upd H dx (.own x)) x (.ins (Γ.ca.cls c) dx [])) (μ ++ [.ins c []]) ∧ Ext φ G H (φ ++ [x]) G (upd (upd H dx (.own x)) x (.ins (Γ.ca.cls c) dx [])) := by
  have nx2 : upd H dx (.own x) x = none := by rw [upd_ne (Ne.symm ne)]; exact nx
  have s1 : Same H (upd (upd H dx (.own x)) x (.ins (Γ.ca.cls c) dx [])) := (same_upd nd).trans (same_upd nx2)
  have hm : φ.length = μ.length := ok.len
  have ix : ∀ (n : Nat) (c : Addr), φ[n]? = some c → (φ ++ [x])[n]? = some c := fun n c h => by
    rw [List.getElem?_append_left (List.getElem?_eq_some_iff.mp h).1]; exact h
  have nphi := ok.nphi nx
  refine ⟨⟨ok.le.trans s1, List.nodup_append.mpr ⟨ok.nd, by simp, fun b hb c hc z => nphi (by rw [List.mem_singleton.mp hc] at z; rw [← z]; exact hb)⟩, by simp [hm], fun b hb => ?_, fun b hb => ?_, fun n b c e1 e2 => ?_, fun q hq => ?_⟩, Same.refl _, fun _ h => .inl h, ⟨[x], rfl, fun b hb => ?_⟩, fun b o e _ => .inl (s1 b o e)⟩
  · rcases List.mem_append.mp hb with z | z
    · exact ok.fre b z
    · rw [List.mem_singleton.mp z]; exact ok.ng nx
  · rcases List.mem_append.mp hb with z | z
    · obtain ⟨o, e⟩ := ok.thr b z
      exact ⟨o, s1 b o e⟩
    · rw [List.mem_singleton.mp z]; exact ⟨_, upd_same⟩
  · by_cases hn : n < φ.length
    · rw [List.getElem?_append_left hn] at e1
      rw [List.getElem?_append_left (by omega)] at e2
      exact (ok.cell n b c e1 e2).keep (Same.refl _) ix (fun o z => s1 b o z) fun d z => s1 d _ z
    · rw [List.getElem?_append_right (by omega)] at e1
      rw [List.getElem?_append_right (by omega)] at e2
      have hn0 : n - φ.length = 0 := by
        by_cases h0 : n - φ.length = 0
        · exact h0
        · rw [List.getElem?_eq_none (by simp; omega)] at e1; cases e1
      have hn1 : n - μ.length = 0 := by omega
      rw [hn0] at e1
      rw [hn1] at e2
      cases e1; cases e2
      exact .ins upd_same (by rw [upd_ne ne, upd_same]) .nil
  · obtain ⟨⟨ps, e, t⟩, h2, h3⟩ := ok.tb q hq
    exact ⟨⟨ps, s1 _ _ e, t⟩, fun z => (List.mem_append.mp z).elim h2 fun z => (by rw [List.mem_singleton.mp z, nx] at e; cases e), h3⟩
  · rw [List.mem_singleton.mp hb]; exact ⟨nx, nphi⟩
theorem new_run {C : Ev.Fn} {c q0 : String} {np : Nat} {fa : Addr} {fd : FuncData} {ps : List Str} {pins : List (Addr × Obj)} {σ : L2.St} {H : Hp} {s : Shared} {Q : VK} {us : List Value} {vs : List V} {φ : List Addr} {G : Hp} {rs : List Ev.R} {μ : Ev.Mem}
    (M : Mk X.K (ca.cls c) fa) (FG : FnG X.prog X.w X.K X.mg X.base k fa fd ps (spF (ct X ca) np (C q0))) (hb : Binds X.K fd ps []) (xs : XS X W k) (sl : Slk X k) (I : Inv X pins σ H s) (r : Vals vs us) (ok : Ok (ct X ca) φ G H μ) (rr : RRs (ct X ca) φ G vs rs) (hn : rs.length + 1 = np)
    (q : post (ct X ca) (WE W σ) φ G H ((C q0 (.p μ.length :: rs) (μ ++ [.ins c []])).bind fun r μ' => match r with
      | .d .non => .ok (.p μ.length) μ'
      | _ => .no) (rRR (ct X ca)) Q) : wpAny (model X.prog X.w) X.A (call (.ref (ca.cls c)) us) (EP X pins σ Q) X.xe s := by
  refine run_makeG M FG xs.room sl xs.tk hb I r fun x dx nx nd ne => ?_
  obtain ⟨ok2, ext2⟩ := made_ok (c := c) ok nx nd ne
  have hix : (φ ++ [x])[μ.length]? = some x := by rw [← ok.len, List.getElem?_append_right (Nat.le_refl _), Nat.sub_self]; rfl
  refine ⟨φ ++ [x], G, .p μ.length :: rs, _, ok2, .cons (.p hix) (ext2.rrs rr), by rw [List.length_cons]; exact hn, ?_⟩
  refine post_bind (post_ext ext2 q) fun v1 φ1 G1 H1 y μ1 _ ext3 ok3 r3 q3 => ?_
  split at q3
  · exact ⟨r3.non, post_ok q3 ok3 (ext3.rr (.p hix))⟩
  · exact q3.elim
theorem se_new {C : Ev.Fn} {c q0 : String} {np : Nat} {x : Str} {p pos : Pos} {a : Expr} {as : List Expr} {fs : List Ev.E} (F : Callee X ca k C q0 np (some (c, "__init__"))) (xs : XS X W k) (sl : Slk X k) (mk : Mk X.K (ca.cls c) (He.ma X.K (ca.cls c) "__init__")) (gm : X.mg (Str.ofString c) = some (.ref (ca.cls c)))
    (hx : x = Str.ofString c) (hg : Gl X x) (ha : PA X (a :: as) (tA (ct X ca) W fs)) (hn : fs.length + 1 = np)
    (hdb : (x == ("__debug__" : Str)) = false := by decide) (he : starEach (a :: as) X.env = (false, eval a X.env) :: starEach as X.env := by rfl) (hpl : (backTo pos (starEach as X.env)).any (·.1) = false := by rfl) :
    PE X (.Call (.Name x p) (a :: as) [] pos) (tE (ct X ca) W (Ev.eNew C c q0 fs)) := by
  obtain ⟨g, fd, ps, hps, hm, hk, hb, FG⟩ := F.at_
  have hm : Meth X.K (ca.cls c) (Str.ofString "__init__") g := hm
  have hgm : He.ma X.K (ca.cls c) "__init__" = g := by
    have e1 := mk.init
    have e2 := hm.at_
    rw [show ("__init__" : Str) = Str.ofString "__init__" from rfl] at e1
    rw [e2] at e1
    injection e1 with e1
    injection e1 with e1
    injection e1 with e1
    exact e1.symm
  rw [hgm] at mk
  refine ⟨fun pins s σ H Q I q => ?_⟩
  subst hx
  refine wpAny_Call_Name_kw (ld_glob I hg gm ?_ hdb)
  refine PySem.W.callWith_K (h₀ := X.base) I.ok.mod.kin mk.kp (thn (ha.run pos pins s σ H (fun vs H1 => ∃ φ G rs μ, Ok (ct X ca) φ G H1 μ ∧ RRs (ct X ca) φ G vs rs ∧ rs.length + 1 = np ∧ post (ct X ca) (WE W σ) φ G H1 ((C q0 (.p μ.length :: rs) (μ ++ [.ins c []])).bind fun r μ' => match r with
      | .d .non => .ok (.p μ.length) μ'
      | _ => .no) (rRR (ct X ca)) Q) I ?_) fun us s1 ⟨vs, H1, I1, r, φ, G, rs, μ, ok, rr, hl, q⟩ => ⟨I1.kIn, new_run mk FG hb xs sl I1 r ok rr hl q⟩) he hpl
  obtain ⟨φ, G1, ρ, μ, ok, en, q⟩ := q
  unfold Ev.eNew at q
  refine ⟨φ, G1, ρ, μ, ok, en, post_bind (Rel1 := rRRs (ct X ca)) q fun vs φ2 G2 H2 rs μ2 e2 ext ok2 r2 q2 => ?_⟩
  exact ⟨φ2, G2, rs, μ2, ok2, r2, by rw [Ev.evs_len e2]; exact hn, q2⟩
structure ExF (K : PySem.W.Frag) (mg : Str → Option Value) (ca : Cn) (c : String) : Prop where
  ex : PySem.W.excIn K (ca.cls c) He.veBase "ValueError.__new__" = true
  kp : PySem.W.keepIn K (.ref (ca.cls c)) = true
  sb : PySem.W.subIn K (.ref (ca.cls c)) (.type "BaseException") = some true
  ty : PySem.W.typeIn K (.ref (ca.cls c)) = some (.type "type")
  mg : mg (Str.ofString c) = some (.ref (ca.cls c))
theorem ExF.rs {c : String} (x : ExF X.K X.mg ca c) : Raises X (.ref (ca.cls c)) := raises_own x.sb x.ty
theorem Takes.imp {X : Cx} {W W' : WX} (tk : Takes X W) (h : ∀ c d σ H, σ.length = X.N.length → W' c d σ H → W c d σ H) : Takes X W' := fun u s' x => tk u s' (by
  obtain ⟨a, B, sI, pins, σ, H, cls, d, e1, I, nb, up, sky, na, os, ag, w⟩ := x
  exact ⟨a, B, sI, pins, σ, H, cls, d, e1, I, nb, up, sky, na, os, ag, h _ _ _ _ I.len w⟩)
end
end EvS
end

section
set_option maxHeartbeats 0
set_option Elab.async false
set_option linter.all false
set_option maxRecDepth 100000
namespace EvS
open PySem PySem.Spec PyProof.Rows L2
section
variable {X : Cx} {ca : Cn} {W : WX} {e : En} {k : Nat}
theorem pe_disp0 {pos : Pos} : PE X (.Dict [] [] pos) (fun σ H Q => ∀ p, H p = none → Q (.ref p) (upd H p (.dK []))) := by
  refine ⟨fun pins s σ H Q I q => ?_⟩
  have hn := I.hok.fresh (Nat.le_refl s.heap.objs.size)
  have I1 := I.laid (a := s.heap.objs.size) (o := .dK []) (h' := s.heap.push { cls := .type "dict", data := .dict #[] }) (t' := s.toks) (fun _ _ q => Heap.get?_push_of_some _ q) (Nat.le_refl _) (dk_empty s.heap I.big)
  exact wpAny_Dict_empty ⟨.ref s.heap.objs.size, _, I1, rfl, q _ hn⟩
theorem sn_dic0 {pos : Pos} : PE X (.Dict [] [] pos) (tN (ct X ca) W (Ev.eDic [])) := PE.imp pe_disp0 fun σ H Q q => by
  obtain ⟨φ, G, ρ, μ, ok, en, q⟩ := q
  unfold Ev.eDic at q
  intro p hp
  have q : ∀ a φ' G' H', Ext φ G H φ' G' H' → Ok (ct X ca) φ' G' H' μ → H a = none → G' a = none → a ∉ φ' → Nw (ct X ca) φ' G' H' a (.dic []) → Q (.ref a) H' := q
  have hn := ok.nphi hp
  have hg := ok.ng hp
  exact q p φ G _ (Ext.from_new hp Ext.refl) (ok.new0 hp) hp hg hn (.dic upd_same .nil)
theorem mk_of {f : Ev.E} {σ : L2.St} {H : Hp} {Q : VK} (q : tE (ct X ca) W (Ev.eMk f) σ H Q) : tN (ct X ca) W f σ H Q := by
  obtain ⟨φ, G, ρ, μ, ok, en, q⟩ := q
  refine ⟨φ, G, ρ, μ, ok, en, ?_⟩
  unfold Ev.eMk at q
  generalize f ρ μ = o at q
  cases o with
  | exn e μ => exact q
  | no => exact q
  | ok x μ1 =>
    intro a φ1 G1 H1 ext ok1 hn ng na nw
    cases nw with
    | dic h1 h2 => exact q.elim
    | lst h1 h2 =>
      rename_i ys rs
      rw [Ev.bind_ok] at q
      unfold Ev.mkL at q
      cases hv : Ev.valsR rs with
      | none => rw [hv] at q; exact q.elim
      | some ds =>
        rw [hv] at q
        have hr := h2.vals hv
        have hm : φ1.length = μ1.length := ok1.len
        have ix : ∀ (n : Nat) (c : Addr), φ1[n]? = some c → (φ1 ++ [a])[n]? = some c := fun n c h => by
          rw [List.getElem?_append_left (List.getElem?_eq_some_iff.mp h).1]; exact h
        have ok2 : Ok (ct X ca) (φ1 ++ [a]) G1 H1 (μ1 ++ [.lst ds]) := by
          refine ⟨ok1.le, List.nodup_append.mpr ⟨ok1.nd, by simp, fun b hb c hc z => na (by rw [List.mem_singleton.mp hc] at z; rw [← z]; exact hb)⟩, by simp [hm], fun b hb => ?_, fun b hb => ?_, fun n b c e1 e2 => ?_, fun q hq => ?_⟩
          · rcases List.mem_append.mp hb with z | z
            · exact ok1.fre b z
            · rw [List.mem_singleton.mp z]; exact ng
          · rcases List.mem_append.mp hb with z | z
            · exact ok1.thr b z
            · rw [List.mem_singleton.mp z]; exact ⟨_, h1⟩
          · by_cases hn' : n < φ1.length
            · rw [List.getElem?_append_left hn'] at e1
              rw [List.getElem?_append_left (by omega)] at e2
              exact (ok1.cell n b c e1 e2).keep (Same.refl _) ix (fun _ z => z) fun _ z => z
            · rw [List.getElem?_append_right (by omega)] at e1
              rw [List.getElem?_append_right (by omega)] at e2
              have hn0 : n - φ1.length = 0 := by
                by_cases h0 : n - φ1.length = 0
                · exact h0
                · rw [List.getElem?_eq_none (by simp; omega)] at e1; cases e1
              have hn1 : n - μ1.length = 0 := by omega
              rw [hn0] at e1
              rw [hn1] at e2
              cases e1; cases e2
              exact .lst h1 hr
          · obtain ⟨⟨ps, e, t⟩, h2, h3⟩ := ok1.tb q hq
            exact ⟨⟨ps, e, t⟩, fun z => (List.mem_append.mp z).elim h2 fun z => (by rw [List.mem_singleton.mp z, h1] at e; cases e), h3⟩
        have ext2 : Ext φ G H (φ1 ++ [a]) G1 H1 := by
          obtain ⟨ψ, z1, z2⟩ := ext.p
          refine ⟨ext.g, ext.gn, ⟨ψ ++ [a], by rw [z1, List.append_assoc], fun c hc => ?_⟩, ext.f⟩
          rcases List.mem_append.mp hc with z | z
          · exact z2 c z
          · rw [List.mem_singleton.mp z]
            exact ⟨hn, fun y => na (by rw [z1]; exact List.mem_append_left _ y)⟩
        have q : ∀ v φ' G' H', Ext φ G H φ' G' H' → Ok (ct X ca) φ' G' H' (μ1 ++ [.lst ds]) → RR (ct X ca) φ' G' v (.p μ1.length) → Q v H' := q
        refine q (.ref a) (φ1 ++ [a]) G1 H1 ext2 ok2 (.p ?_)
        rw [← hm, List.getElem?_append_right (Nat.le_refl _), Nat.sub_self]; rfl
theorem se_mk {a : Expr} {f : Ev.E} (h : PE X a (tN (ct X ca) W f)) : PE X a (tE (ct X ca) W (Ev.eMk f)) := PE.imp h fun σ H Q q => mk_of q
theorem s_appC {o a : Expr} {fo fa : Ev.E} {apos cpos pos : Pos} (xs : XS X W k) (ho : PE X o (tE (ct X ca) W fo)) (ha : PE X a (tE (ct X ca) W fa))
    (hbase : attributeBase o "append" X.env (eval o X.env) = eval o X.env := by rfl)
    (hfew : ((backTo cpos (starEach [a] X.env)).all (fun x => !x.1) && (backToKw cpos (keywordEach [] X.env)).all (fun x => x.1.isSome)
      && decide (([a] : List Expr).length + ([] : List Keyword).length + (if ([] : List Keyword).isEmpty then 0 else 1) < 30)) = true := by rfl)
    (hline : (apos.endLine == cpos.line) = true := by rfl) (hs : starEach [a] X.env = (false, eval a X.env) :: starEach [] X.env := by rfl) (hplain : (backTo cpos (starEach [] X.env)).any (·.1) = false := by rfl)
    (hsw : swapsWith (.Call (.Attribute o "append" apos) [a] [] cpos) none pos.line X.env = pure false := by rfl) :
    PS X (.Expr (.Call (.Attribute o "append" apos) [a] [] cpos) pos) (tS (ct X ca) W e (Ev.sAppC fo fa)) :=
  PS.imp (ps_expr (pe_bm PySem.F.plainAttrs_list PySem.F.slot_list_append PySem.F.type_list_append mt_append ho (pa_cons ha pa_nil hs) hbase hfew hline hs hplain) hsw) fun D σ H q => by
    obtain ⟨φ, G, ρ, μ, bs, q⟩ := q
    unfold Ev.sAppC at q
    refine ⟨φ, G, ρ, μ, bs.ok, bs.en, bs.bind q fun v1 φ1 G1 H1 x μ1 _ ext ok1 r1 q1 => ?_⟩
    have b1 := bs.step ext ok1
    split at q1
    · rename_i n
      split at q1
      · rename_i ds0 hm0
        cases r1 with
        | p hn =>
          rename_i c
          have hc := ok1.cell _ c _ hn hm0
          cases hc with
          | lst y1 y2 =>
            refine ⟨.inl ⟨rfl, _, SqL.of y1⟩, φ1, G1, ρ, μ1, ok1, b1.en, b1.bind (postS_flat (σ1 := σ) xs.fw ext.lq q1) fun v2 φ2 G2 H2 z μ2 _ ext2 ok2 r2 q2 => ?_⟩
            split at q2
            · rename_i z' ds hm _
              split at q2
              · rename_i hz
                have hn2 := ext2.lq.ix _ c hn
                have hc2 := ok2.cell _ c _ hn2 hm
                cases hc2 with
                | lst w1 w2 =>
                  rename_i ys
                  have hv := r2.inv_d
                  refine ⟨c, ys, v2, rfl, rfl, w1, by rw [w2.len, ← SL_eq]; exact hz, ?_⟩
                  have x1 : Ext φ2 G2 H2 φ2 G2 (L2.upd H2 c (.lst (ys ++ [v2]))) := Ext.cellSet hn2
                  exact q2 σ φ2 G2 _ ((b1.step ext2 ok2).step x1 (ok2.cellSet hn2 ⟨_, w1⟩ (w2.append (.cons hv .nil)))) ext2.lq
              · exact q2.elim
            · exact q2.elim
      · exact q1.elim
    · exact q1.elim
theorem RRs.take {Γ : Ct} {φ : List Addr} {G : Hp} : ∀ {xs : List V} {rs : List Ev.R}, RRs Γ φ G xs rs → ∀ j, RRs Γ φ G (xs.take j) (rs.take j)
  | _, _, .nil, j => by rw [List.take_nil, List.take_nil]; exact .nil
  | _, _, .cons h t, 0 => .nil
  | _, _, .cons h t, j + 1 => .cons h (RRs.take t j)
theorem RRs.drop {Γ : Ct} {φ : List Addr} {G : Hp} : ∀ {xs : List V} {rs : List Ev.R}, RRs Γ φ G xs rs → ∀ j, RRs Γ φ G (xs.drop j) (rs.drop j)
  | _, _, .nil, j => by rw [List.drop_nil, List.drop_nil]; exact .nil
  | _, _, .cons h t, 0 => .cons h t
  | _, _, .cons h t, j + 1 => RRs.drop t j
end
end EvS
end

section
set_option maxHeartbeats 0
set_option linter.all false
namespace Ev
theorem callN_run {P : String → Option Def} {n : Nat} {f : String} {d : Def} {args : List R} {μ : Mem} (h : P f = some d) (hl : args.length = d.np) : callN P (n + 1) f args μ = runB d.nl (d.body (callN P n)) args μ := by
  unfold callN; rw [h]; simp [hl]
def sat {α : Type} (o : Out α) (Q : α → Mem → Prop) : Prop := match o with
  | .ok a μ => Q a μ
  | _ => False
@[simp] theorem sat_ok {α : Type} {a : α} {μ : Mem} {Q : α → Mem → Prop} : sat (.ok a μ) Q ↔ Q a μ := Iff.rfl
@[simp] theorem sat_no {α : Type} {Q : α → Mem → Prop} : sat (.no : Out α) Q ↔ False := Iff.rfl
@[simp] theorem sat_exn {α : Type} {x : Exn} {μ : Mem} {Q : α → Mem → Prop} : sat (.exn x μ : Out α) Q ↔ False := Iff.rfl
theorem sat.mono {α : Type} {o : Out α} {Q Q' : α → Mem → Prop} (h : sat o Q) (i : ∀ a μ, Q a μ → Q' a μ) : sat o Q' := by
  cases o with
  | ok a μ => exact i a μ h
  | exn x μ => exact h
  | no => exact h
theorem compL_filter {t : Tg} {c : T} {e : E} {ρ : Env} {μ : Mem} {α : Type} (enc : α → R) (out : α → R) (p : α → Bool) : ∀ {xs : List α}, (∀ x ∈ xs, ∃ ρ1, t (enc x) ρ = some ρ1 ∧ c ρ1 μ = .ok (p x) μ ∧ (p x = true → e ρ1 μ = .ok (out x) μ)) → compL t c e (xs.map enc) ρ μ = .ok ((xs.filter p).map out) μ
  | [], _ => rfl
  | x :: xs, h => by
    obtain ⟨ρ1, h1, h2, h3⟩ := h x List.mem_cons_self
    rw [List.map_cons, compL_cons, h1]
    have ih := compL_filter (t := t) (c := c) (e := e) (ρ := ρ) (μ := μ) enc out p (xs := xs) fun y hy => h y (List.mem_cons_of_mem _ hy)
    cases hp : p x with
    | true => simp [h2, h3 hp, hp, ih]
    | false => simp [h2, hp, ih]
theorem mkL_map {α : Type} (f : α → D) (xs : List α) : mkL (xs.map fun x => .d (f x)) = .d (.lst (xs.map f)) := by
  unfold mkL; rw [valsR_map]
theorem atI_nat {α : Type} (xs : List α) (i : Nat) : atI xs (i : Int) = xs[i]? := by
  unfold atI ixN
  by_cases h : i < xs.length
  · simp [h]
  · simp [h]
@[simp] theorem length_enumF : ∀ (ds : List D) (k : Nat), (enumF k ds).length = ds.length
  | [], _ => rfl
  | d :: ds, k => by simp [enumF, length_enumF ds]
theorem getElem_rangeF : ∀ (n : Nat) (lo : Int) (i : Nat), i < n → (rangeF lo n)[i]? = some (.d (.int (lo + i)))
  | n + 1, lo, 0, _ => by simp [rangeF]
  | n + 1, lo, i + 1, h => by
    simp only [rangeF, List.getElem?_cons_succ]
    rw [getElem_rangeF n (lo + 1) i (by omega)]
    congr 3; omega
@[simp] theorem length_rangeF : ∀ (n : Nat) (lo : Int), (rangeF lo n).length = n
  | 0, _ => rfl
  | n + 1, lo => by simp [rangeF, length_rangeF n]
theorem fin_same {r : R} {μ μ' : Mem} (h : μ'.length = μ.length) : fin μ.length r μ' = .ok r μ' := by unfold fin; rw [if_pos h]
@[simp] theorem eqv_str (a b : String) : D.eqv (.str a) (.str b) = (a == b) := by simp [D.eqv]
@[simp] theorem eqv_int (a b : Int) : D.eqv (.int a) (.int b) = (a == b) := by simp [D.eqv]
@[simp] theorem eqv_tup (a b : List D) : D.eqv (.tup a) (.tup b) = D.eqvL a b := by simp [D.eqv]
@[simp] theorem eqvL_nil : D.eqvL [] [] = true := by simp [D.eqvL]
@[simp] theorem eqvL_cons (x y : D) (xs ys : List D) : D.eqvL (x :: xs) (y :: ys) = (D.eqv x y && D.eqvL xs ys) := by simp [D.eqvL]
@[simp] theorem eqvL_nc (y : D) (ys : List D) : D.eqvL [] (y :: ys) = false := by simp [D.eqvL]
@[simp] theorem eqvL_cn (y : D) (ys : List D) : D.eqvL (y :: ys) [] = false := by simp [D.eqvL]
theorem eqD_left {x y : D} (h : x.dep ≤ 64) : eqD x y = some (x.eqv y) := by unfold eqD; exact if_pos (Nat.le_trans (Nat.min_le_left _ _) h)
@[simp] theorem idxR_tup {ds : List D} {i : Int} : idxR (.d (.tup ds)) (.d (.int i)) = (atI ds i).map .d := rfl
@[simp] theorem idxR_lst {ds : List D} {i : Int} : idxR (.d (.lst ds)) (.d (.int i)) = (atI ds i).map .d := rfl
@[simp] theorem idxR_ls {rs : List R} {i : Int} : idxR (.ls rs) (.d (.int i)) = atI rs i := rfl
@[simp] theorem idxR_scr {ns : List Int} {i : Int} : idxR (.scr ns) (.d (.int i)) = (atI ns i).map fun n => .d (.int n) := rfl
@[simp] theorem idxR_dic {kvs : List (Ky × R)} {x : D} : idxR (.dic kvs) (.d x) = (keyOf x).bind (valK kvs) := rfl
@[simp] theorem eqR_d {x y : D} : eqR (.d x) (.d y) = eqD x y := rfl
@[simp] theorem neR_d {x y : D} : neR (.d x) (.d y) = (eqD x y).map not := rfl
@[simp] theorem ltR_int {a b : Int} : ltR (.d (.int a)) (.d (.int b)) = some (decide (a < b)) := rfl
@[simp] theorem leR_int {a b : Int} : leR (.d (.int a)) (.d (.int b)) = some (decide (a ≤ b)) := rfl
@[simp] theorem gtR_int {a b : Int} : gtR (.d (.int a)) (.d (.int b)) = some (decide (b < a)) := rfl
@[simp] theorem geR_int {a b : Int} : geR (.d (.int a)) (.d (.int b)) = some (decide (b ≤ a)) := rfl
@[simp] theorem addR_int {a b : Int} : addR (.d (.int a)) (.d (.int b)) = some (.d (.int (a + b))) := rfl
@[simp] theorem subR_int {a b : Int} : subR (.d (.int a)) (.d (.int b)) = some (.d (.int (a - b))) := rfl
@[simp] theorem addR_tup {a b : List D} : addR (.d (.tup a)) (.d (.tup b)) = if a.length + b.length ≤ SL then some (.d (.tup (a ++ b))) else none := rfl
@[simp] theorem addR_lst {a b : List D} : addR (.d (.lst a)) (.d (.lst b)) = if a.length + b.length ≤ SL then some (.d (.lst (a ++ b))) else none := rfl
@[simp] theorem addR_str {a b : String} : addR (.d (.str a)) (.d (.str b)) = if a.length + b.length ≤ SL then some (.d (.str (a ++ b))) else none := rfl
@[simp] theorem addL_lst {a b : List D} : addL (.d (.lst a)) (.d (.lst b)) = if a.length + b.length ≤ SL then some (.d (.lst (a ++ b))) else none := rfl
@[simp] theorem modR_int {a b : Int} : modR (.d (.int a)) (.d (.int b)) = if 0 < b then some (.d (.int (a % b))) else none := rfl
@[simp] theorem fdivR_int {a b : Int} : fdivR (.d (.int a)) (.d (.int b)) = if 0 < b ∧ b < 1073741824 then some (.d (.int (a / b))) else none := rfl
theorem mulR_r {a b : Int} (h : small b = true) : mulR (.d (.int a)) (.d (.int b)) = some (.d (.int (a * b))) := by
  show (if (small a || small b) = true then _ else _) = _
  rw [h, Bool.or_true]; rfl
theorem mulR_l {a b : Int} (h : small a = true) : mulR (.d (.int a)) (.d (.int b)) = some (.d (.int (a * b))) := by
  show (if (small a || small b) = true then _ else _) = _
  rw [h, Bool.true_or]; rfl
@[simp] theorem slcR_tup {ds : List D} {lo hi : Option Int} : slcR (.d (.tup ds)) lo hi = some (.d (.tup (cut ds lo hi))) := rfl
@[simp] theorem slcR_lst {ds : List D} {lo hi : Option Int} : slcR (.d (.lst ds)) lo hi = some (.d (.lst (cut ds lo hi))) := rfl
@[simp] theorem inR_lst {x : D} {ys : List D} : inR (.d x) (.d (.lst ys)) = if min x.dep (D.depL ys) ≤ EqDep then some (ys.any fun y => y.eqv x) else none := rfl
@[simp] theorem inR_tup {x : D} {ys : List D} : inR (.d x) (.d (.tup ys)) = if min x.dep (D.depL ys) ≤ EqDep then some (ys.any fun y => y.eqv x) else none := rfl
@[simp] theorem inR_dic {x : D} {kvs : List (Ky × R)} : inR (.d x) (.dic kvs) = (keyOf x).map fun k => (valK kvs k).isSome := rfl
@[simp] theorem isNonR_non : isNonR (.d .non) = true := rfl
@[simp] theorem isNonR_tup {ds : List D} : isNonR (.d (.tup ds)) = false := rfl
@[simp] theorem isNonR_lst {ds : List D} : isNonR (.d (.lst ds)) = false := rfl
@[simp] theorem lenR_tup {ds : List D} : lenR [.d (.tup ds)] = some (.d (.int ds.length)) := rfl
@[simp] theorem lenR_lst {ds : List D} : lenR [.d (.lst ds)] = some (.d (.int ds.length)) := rfl
@[simp] theorem lenR_scr {ns : List Int} : lenR [.scr ns] = some (.d (.int ns.length)) := rfl
@[simp] theorem intR_int {i : Int} : intR [.d (.int i)] = some (.d (.int i)) := rfl
@[simp] theorem intR_bl {b : Bool} : intR [.d (.bl b)] = some (.d (.int (if b then 1 else 0))) := rfl
@[simp] theorem tupleR_tup {ds : List D} : tupleR [.d (.tup ds)] = some (.d (.tup ds)) := rfl
@[simp] theorem tupleR_lst {ds : List D} : tupleR [.d (.lst ds)] = some (.d (.tup ds)) := rfl
@[simp] theorem listR_tup {ds : List D} : listR [.d (.tup ds)] = some (.d (.lst ds)) := rfl
@[simp] theorem listR_lst {ds : List D} : listR [.d (.lst ds)] = some (.d (.lst ds)) := rfl
@[simp] theorem maxR_two {a b : Int} : maxR [.d (.int a), .d (.int b)] = some (.d (.int (if b > a then b else a))) := rfl
@[simp] theorem minR_two {a b : Int} : minR [.d (.int a), .d (.int b)] = some (.d (.int (if b < a then b else a))) := rfl
@[simp] theorem truthR_bl {b : Bool} : truthR (.d (.bl b)) = some b := rfl
@[simp] theorem truthR_int {i : Int} : truthR (.d (.int i)) = some (i != 0) := rfl
@[simp] theorem itemsR_tup {ds : List D} : itemsR (.d (.tup ds)) = some (ds.map .d) := rfl
@[simp] theorem itemsR_lst {ds : List D} : itemsR (.d (.lst ds)) = some (ds.map .d) := rfl
@[simp] theorem itemsR_ls {rs : List R} : itemsR (.ls rs) = some rs := rfl
@[simp] theorem reprR_d {x : D} : reprR [.d x] = if x.dep ≤ EqDep ∧ x.cost ≤ SL then some (.rep x) else none := rfl
@[simp] theorem eqR_rep {x y : D} : eqR (.rep x) (.rep y) = if x.same y then some true else none := rfl
@[simp] theorem atI_zero {α : Type} (xs : List α) : atI xs 0 = xs[0]? := atI_nat xs 0
@[simp] theorem atI_one {α : Type} (xs : List α) : atI xs 1 = xs[1]? := atI_nat xs 1
@[simp] theorem atI_two {α : Type} (xs : List α) : atI xs 2 = xs[2]? := atI_nat xs 2
@[simp] theorem atI_three {α : Type} (xs : List α) : atI xs 3 = xs[3]? := atI_nat xs 3
@[simp] theorem atI_cast {α : Type} (xs : List α) (n : Nat) : atI xs (n : Int) = xs[n]? := atI_nat xs n
@[simp] theorem lt_SL_0 : (0 : Nat) < SL := by decide
@[simp] theorem lt_SL_1 : (1 : Nat) < SL := by decide
@[simp] theorem lt_SL_2 : (2 : Nat) < SL := by decide
@[simp] theorem lt_SL_3 : (3 : Nat) < SL := by decide
@[simp] theorem lt_SL_4 : (4 : Nat) < SL := by decide
@[simp] theorem lt_SL_5 : (5 : Nat) < SL := by decide
@[simp] theorem lt_SL_6 : (6 : Nat) < SL := by decide
@[simp] theorem lt_SL_7 : (7 : Nat) < SL := by decide
@[simp] theorem lt_SL_8 : (8 : Nat) < SL := by decide
@[simp] theorem lt_SL_9 : (9 : Nat) < SL := by decide
@[simp] theorem le_SL_1 : (1 : Nat) ≤ SL := by decide
@[simp] theorem le_SL_2 : (2 : Nat) ≤ SL := by decide
@[simp] theorem le_SL_3 : (3 : Nat) ≤ SL := by decide
@[simp] theorem le_SL_4 : (4 : Nat) ≤ SL := by decide
@[simp] theorem le_SL_5 : (5 : Nat) ≤ SL := by decide
@[simp] theorem le_SL_6 : (6 : Nat) ≤ SL := by decide
@[simp] theorem le_SL_7 : (7 : Nat) ≤ SL := by decide
@[simp] theorem le_SL_8 : (8 : Nat) ≤ SL := by decide
@[simp] theorem le_SL_9 : (9 : Nat) ≤ SL := by decide
theorem le_SL {n : Nat} (h : n ≤ 1000000) : n ≤ SL := Nat.le_trans h (by decide)
theorem lt_SL {n : Nat} (h : n < 1000000) : n < SL := Nat.lt_of_lt_of_le h (by decide)
theorem inRange62_nat {n : Nat} (h : n ≤ 1000000) : inRange62 (n : Int) = true := by
  unfold inRange62
  simp only [Bool.and_eq_true, decide_eq_true_eq]
  constructor <;> omega
theorem iRange1_nat {a : E} {ρ : Env} {μ μ' : Mem} {n : Nat} (h : a ρ μ = .ok (.d (.int n)) μ') (hn : n ≤ 1000000) : iRange1 a ρ μ = .ok (rangeF 0 n) μ' := by
  unfold iRange1
  rw [h, bind_ok]
  show (if inRange62 (n : Int) then _ else _) = _
  rw [if_pos (inRange62_nat hn)]
  rfl
theorem sq_nx {a b : S} {ρ ρ' : Env} {μ μ' : Mem} (h : a ρ μ = .ok (.nx ρ') μ') : sq a b ρ μ = b ρ' μ' := by unfold sq; rw [h]; rfl
theorem sq_rt {a b : S} {ρ : Env} {r : R} {μ μ' : Mem} (h : a ρ μ = .ok (.rt r) μ') : sq a b ρ μ = .ok (.rt r) μ' := by unfold sq; rw [h]; rfl
theorem runB_rt {nl : Nat} {b : S} {args : List R} {μ μ' : Mem} {r : R} (h : b (args.map .v ++ List.replicate (nl - args.length) .un) μ = .ok (.rt r) μ') (hl : μ'.length = μ.length) : runB nl b args μ = .ok r μ' := by
  unfold runB; rw [h]; exact fin_same hl
theorem sIf_t {c : T} {a b : S} {ρ : Env} {μ μ' : Mem} (h : c ρ μ = .ok true μ') : sIf c a b ρ μ = a ρ μ' := by unfold sIf; rw [h]; rfl
theorem sIf_f {c : T} {a b : S} {ρ : Env} {μ μ' : Mem} (h : c ρ μ = .ok false μ') : sIf c a b ρ μ = b ρ μ' := by unfold sIf; rw [h]; rfl
theorem sNil_ok {ρ : Env} {μ : Mem} : sNil ρ μ = .ok (.nx ρ) μ := by unfold sNil; rfl
theorem sRet_ok {e : E} {ρ : Env} {μ μ' : Mem} {r : R} (h : e ρ μ = .ok r μ') : sRet e ρ μ = .ok (.rt r) μ' := by unfold sRet; rw [h]; rfl
theorem sAs_ok {e : E} {i : Nat} {ρ : Env} {μ μ' : Mem} {r : R} (h : e ρ μ = .ok r μ') : sAs (tgN i) e ρ μ = .ok (.nx (ρ.set i (.v r))) μ' := by unfold sAs tgN; rw [h]; rfl
theorem sq_if_f {c : T} {a b : S} {ρ : Env} {μ μ' : Mem} (h : c ρ μ = .ok false μ') : sq (sIf c a sNil) b ρ μ = b ρ μ' := sq_nx (by rw [sIf_f h]; exact sNil_ok)
theorem sq_as {e : E} {b : S} {i : Nat} {ρ : Env} {μ μ' : Mem} {r : R} (h : e ρ μ = .ok r μ') : sq (sAs (tgN i) e) b ρ μ = b (ρ.set i (.v r)) μ' := sq_nx (sAs_ok h)
theorem eComp_ok {own : List Nat} {t : Tg} {it : It} {c : T} {e : E} {ρ : Env} {μ μ1 μ2 : Mem} {xs ys : List R} (h1 : it ρ μ = .ok xs μ1) (h2 : compL t c e xs (wipeE ρ own) μ1 = .ok ys μ2) (h3 : ys.length ≤ 1000000) : eComp own t it c e ρ μ = .ok (mkL ys) μ2 := by
  unfold eComp
  rw [h1, bind_ok, h2, bind_ok, if_pos (le_SL h3)]
theorem forL_find {α : Type} {t : Tg} {b : S} {μ : Mem} (enc : α → R) (p : α → Bool) (out : α → R) (E : Env → Prop) : ∀ {xs : List α} {ρ : Env}, E ρ →
    (∀ x ∈ xs, ∀ ρ, E ρ → ∃ ρ1, t (enc x) ρ = some ρ1 ∧ ((p x = true ∧ b ρ1 μ = .ok (.rt (out x)) μ) ∨ (p x = false ∧ ∃ ρ2, E ρ2 ∧ b ρ1 μ = .ok (.nx ρ2) μ))) →
    (∃ x, xs.find? p = some x ∧ forL t b (xs.map enc) ρ μ = .ok (.rt (out x)) μ) ∨ (xs.find? p = none ∧ ∃ ρ', E ρ' ∧ forL t b (xs.map enc) ρ μ = .ok (.nx ρ') μ)
  | [], ρ, he, _ => .inr ⟨rfl, ρ, he, rfl⟩
  | x :: xs, ρ, he, h => by
    obtain ⟨ρ1, h1, h2⟩ := h x List.mem_cons_self ρ he
    rcases h2 with ⟨hp, hb⟩ | ⟨hp, ρ2, he2, hb⟩
    · refine .inl ⟨x, by rw [List.find?_cons, hp], ?_⟩
      rw [List.map_cons]; unfold forL; rw [h1]; simp [hb]
    · have e : forL t b ((x :: xs).map enc) ρ μ = forL t b (xs.map enc) ρ2 μ := by
        rw [List.map_cons]
        show (match t (enc x) ρ with
          | none => (.no : Out Fl)
          | some ρ1 => (b ρ1 μ).bind fun f μ => match f with
            | .nx ρ => forL t b (xs.map enc) ρ μ
            | .ct ρ => forL t b (xs.map enc) ρ μ
            | .bk ρ => .ok (.nx ρ) μ
            | .rt r => .ok (.rt r) μ) = _
        rw [h1]; simp [hb]
      rcases forL_find enc p out E he2 (fun y hy => h y (List.mem_cons_of_mem _ hy)) with ⟨y, hy, hr⟩ | ⟨hn, ρ', he', hr⟩
      · exact .inl ⟨y, by rw [List.find?_cons, hp]; exact hy, e.trans hr⟩
      · exact .inr ⟨by rw [List.find?_cons, hp]; exact hn, ρ', he', e.trans hr⟩
theorem sFor_rt {t : Tg} {it : It} {b : S} {ρ : Env} {μ μ1 μ2 : Mem} {xs : List R} {f : Fl} (h1 : it ρ μ = .ok xs μ1) (h2 : forL t b xs ρ μ1 = .ok f μ2) : sFor t it b ρ μ = .ok f μ2 := by unfold sFor; rw [h1]; exact h2
theorem iE_tup {a : E} {ρ : Env} {μ μ' : Mem} {ds : List D} (h : a ρ μ = .ok (.d (.tup ds)) μ') : iE a ρ μ = .ok (ds.map .d) μ' := by unfold iE; rw [h]; rfl
theorem iE_lst {a : E} {ρ : Env} {μ μ' : Mem} {ds : List D} (h : a ρ μ = .ok (.d (.lst ds)) μ') : iE a ρ μ = .ok (ds.map .d) μ' := by unfold iE; rw [h]; rfl
theorem eV_at {i : Nat} {ρ : Env} {μ : Mem} {r : R} (h : ρ[i]? = some (.v r)) : eV i ρ μ = .ok r μ := by unfold eV; rw [h]
theorem forL_inv {t : Tg} {b : S} {μ : Mem} (I : Nat → Env → Prop) : ∀ {xs : List R} {k : Nat} {ρ : Env}, I k ρ →
    (∀ i x ρ, xs[i]? = some x → I (k + i) ρ → ∃ ρ1, t x ρ = some ρ1 ∧ ∃ ρ2, I (k + i + 1) ρ2 ∧ b ρ1 μ = .ok (.nx ρ2) μ) → ∃ ρ', I (k + xs.length) ρ' ∧ forL t b xs ρ μ = .ok (.nx ρ') μ
  | [], k, ρ, h, _ => ⟨ρ, h, rfl⟩
  | x :: xs, k, ρ, h, st => by
    obtain ⟨ρ1, h1, ρ2, h2, h3⟩ := st 0 x ρ rfl h
    obtain ⟨ρ', h4, h5⟩ := forL_inv I (xs := xs) (k := k + 1) (ρ := ρ2) h2 (fun i y ρ hy hi => by
      obtain ⟨r1, a1, r2, a2, a3⟩ := st (i + 1) y ρ (by simpa using hy) (by rw [show k + (i + 1) = k + 1 + i by omega]; exact hi)
      exact ⟨r1, a1, r2, by rw [show k + 1 + i + 1 = k + (i + 1) + 1 by omega]; exact a2, a3⟩)
    refine ⟨ρ', by rw [List.length_cons, show k + (xs.length + 1) = k + 1 + xs.length by omega]; exact h4, ?_⟩
    show (match t x ρ with
      | none => (.no : Out Fl)
      | some ρ1 => (b ρ1 μ).bind fun f μ => match f with
        | .nx ρ => forL t b xs ρ μ
        | .ct ρ => forL t b xs ρ μ
        | .bk ρ => .ok (.nx ρ) μ
        | .rt r => .ok (.rt r) μ) = _
    rw [h1]
    simp [h3, h5]
theorem cut_take {α : Type} (xs : List α) (i : Nat) : cut xs none (some (i : Int)) = xs.take i := by
  unfold cut sIx
  have h1 : ¬ ((i : Int) < 0) := by omega
  simp only [h1, if_false, Int.toNat_natCast, List.drop_zero, Nat.sub_zero]
  by_cases h : i ≤ xs.length
  · rw [Nat.min_eq_left h]
  · rw [Nat.min_eq_right (by omega), List.take_length, List.take_of_length_le (by omega)]
theorem cut_drop {α : Type} (xs : List α) (i : Nat) : cut xs (some (i : Int)) none = xs.drop i := by
  unfold cut sIx
  have h1 : ¬ ((i : Int) < 0) := by omega
  simp only [h1, if_false, Int.toNat_natCast]
  by_cases h : i ≤ xs.length
  · rw [Nat.min_eq_left h, List.take_of_length_le (by simp)]
  · rw [Nat.min_eq_right (by omega), List.drop_length, List.drop_eq_nil_of_le (by omega)]; simp
theorem compL_invM {t : Tg} {c : T} {e : E} {ρ : Env} (I : Nat → List R → Mem → Prop) : ∀ {xs : List R} {k : Nat} {acc : List R} {μ : Mem}, I k acc μ →
    (∀ i x acc μ, xs[i]? = some x → I (k + i) acc μ → ∃ ρ1, t x ρ = some ρ1 ∧ ((∃ μ1 y μ2, c ρ1 μ = .ok true μ1 ∧ e ρ1 μ1 = .ok y μ2 ∧ I (k + i + 1) (acc ++ [y]) μ2) ∨ ∃ μ1, c ρ1 μ = .ok false μ1 ∧ I (k + i + 1) acc μ1)) →
    ∃ ys μ', I (k + xs.length) (acc ++ ys) μ' ∧ compL t c e xs ρ μ = .ok ys μ'
  | [], k, acc, μ, h, _ => ⟨[], μ, by simpa using h, rfl⟩
  | x :: xs, k, acc, μ, h, st => by
    obtain ⟨ρ1, h1, h2⟩ := st 0 x acc μ rfl h
    have st' : ∀ i y acc μ, xs[i]? = some y → I (k + 1 + i) acc μ → ∃ ρ1, t y ρ = some ρ1 ∧ ((∃ μ1 z μ2, c ρ1 μ = .ok true μ1 ∧ e ρ1 μ1 = .ok z μ2 ∧ I (k + 1 + i + 1) (acc ++ [z]) μ2) ∨ ∃ μ1, c ρ1 μ = .ok false μ1 ∧ I (k + 1 + i + 1) acc μ1) := fun i y acc μ hy hi => by
      have := st (i + 1) y acc μ (by simpa using hy) (by rw [show k + (i + 1) = k + 1 + i by omega]; exact hi)
      rwa [show k + (i + 1) + 1 = k + 1 + i + 1 by omega] at this
    rcases h2 with ⟨μ1, y, μ2, h3, h4, h5⟩ | ⟨μ1, h3, h5⟩
    · obtain ⟨ys, μ', h6, h7⟩ := compL_invM I (xs := xs) (k := k + 1) h5 st'
      refine ⟨y :: ys, μ', by rw [List.length_cons, show k + (xs.length + 1) = k + 1 + xs.length by omega]; simpa using h6, ?_⟩
      rw [compL_cons, h1]; simp [h3, h4, h7]
    · obtain ⟨ys, μ', h6, h7⟩ := compL_invM I (xs := xs) (k := k + 1) h5 st'
      refine ⟨ys, μ', by rw [List.length_cons, show k + (xs.length + 1) = k + 1 + xs.length by omega]; exact h6, ?_⟩
      rw [compL_cons, h1]; simp [h3, h7]
theorem eOp_ok {f : R → R → Option R} {a b : E} {ρ : Env} {μ μ1 μ2 : Mem} {x y z : R} (ha : a ρ μ = .ok x μ1) (hb : b ρ μ1 = .ok y μ2) (hf : f (vw μ2 x) (vw μ2 y) = some z) : eOp f a b ρ μ = .ok z μ2 := by
  unfold eOp; rw [ha, bind_ok, hb, bind_ok, hf]; rfl
theorem eC_ok {x : D} {ρ : Env} {μ : Mem} : eC x ρ μ = .ok (.d x) μ := by unfold eC; rfl
theorem eBi1_ok {f : List R → Option R} {a : E} {ρ : Env} {μ μ1 : Mem} {x z : R} (ha : a ρ μ = .ok x μ1) (hf : f [vw μ1 x] = some z) : eBi f [a] ρ μ = .ok z μ1 := by
  unfold eBi; rw [evs_cons, ha, bind_ok, evs_nil, bind_ok, bind_ok, List.map_cons, List.map_nil, hf]; rfl
theorem tCmp_ok {f : R → R → Option Bool} {a b : E} {ρ : Env} {μ μ1 μ2 : Mem} {x y : R} {z : Bool} (ha : a ρ μ = .ok x μ1) (hb : b ρ μ1 = .ok y μ2) (hf : f (vw μ2 x) (vw μ2 y) = some z) : tCmp f a b ρ μ = .ok z μ2 := by
  unfold tCmp; rw [ha, bind_ok, hb, bind_ok, hf]; rfl
theorem modR_ok {a b : Int} (h : 0 < b) : modR (.d (.int a)) (.d (.int b)) = some (.d (.int (a % b))) := by
  show (if 0 < b then _ else _) = _; rw [if_pos h]
theorem fdivR_ok {a b : Int} (h : 0 < b ∧ b < 1073741824) : fdivR (.d (.int a)) (.d (.int b)) = some (.d (.int (a / b))) := by
  show (if 0 < b ∧ b < 1073741824 then _ else _) = _; rw [if_pos h]
theorem powR_ok {a b : Int} (h : 0 ≤ b ∧ b ≤ 1000000 ∧ small a = true) : powR (.d (.int a)) (.d (.int b)) = some (.d (.int (a ^ b.toNat))) := by
  show (if 0 ≤ b ∧ b ≤ 1000000 ∧ small a = true then _ else _) = _; rw [if_pos h]
end Ev
end

section
set_option maxHeartbeats 0
set_option linter.all false
set_option maxRecDepth 100000
namespace Ev
theorem compL_each {α : Type} {t : Tg} {e : E} {ρ : Env} {μ : Mem} (encX out : α → R) {xs : List α} (h : ∀ x ∈ xs, ∃ ρ1, t (encX x) ρ = some ρ1 ∧ e ρ1 μ = .ok (out x) μ) : compL t tYes e (xs.map encX) ρ μ = .ok (xs.map out) μ := by
  have := compL_filter (t := t) (c := tYes) (e := e) (ρ := ρ) (μ := μ) encX out (fun _ => true) (xs := xs) fun x hx => by
    obtain ⟨ρ1, h1, h2⟩ := h x hx
    exact ⟨ρ1, h1, by simp [tYes], fun _ => h2⟩
  rw [List.filter_eq_self.mpr (fun _ _ => rfl)] at this
  exact this
theorem eTup1 {a : E} {ρ : Env} {μ μ1 : Mem} {x : D} (ha : a ρ μ = .ok (.d x) μ1) : eTup [a] ρ μ = .ok (.d (.tup [x])) μ1 := by
  unfold eTup
  rw [evs_cons, ha, bind_ok, evs_nil, bind_ok, bind_ok]
  simp
theorem eTup2 {a b : E} {ρ : Env} {μ μ1 μ2 : Mem} {x y : D} (ha : a ρ μ = .ok (.d x) μ1) (hb : b ρ μ1 = .ok (.d y) μ2) : eTup [a, b] ρ μ = .ok (.d (.tup [x, y])) μ2 := by
  unfold eTup
  rw [evs_cons, ha, bind_ok, evs_cons, hb, bind_ok, evs_nil, bind_ok, bind_ok, bind_ok]
  simp
theorem eTup3 {a b c : E} {ρ : Env} {μ μ1 μ2 μ3 : Mem} {x y z : D} (ha : a ρ μ = .ok (.d x) μ1) (hb : b ρ μ1 = .ok (.d y) μ2) (hc : c ρ μ2 = .ok (.d z) μ3) : eTup [a, b, c] ρ μ = .ok (.d (.tup [x, y, z])) μ3 := by
  unfold eTup
  rw [evs_cons, ha, bind_ok, evs_cons, hb, bind_ok, evs_cons, hc, bind_ok, evs_nil, bind_ok, bind_ok, bind_ok, bind_ok]
  simp
theorem eTup0 {ρ : Env} {μ : Mem} : eTup [] ρ μ = .ok (.d (.tup [])) μ := by
  unfold eTup
  rw [evs_nil, bind_ok]
  simp
theorem eLst1 {a : E} {ρ : Env} {μ μ1 : Mem} {x : D} (ha : a ρ μ = .ok (.d x) μ1) : eLst [a] ρ μ = .ok (.d (.lst [x])) μ1 := by
  unfold eLst
  rw [evs_cons, ha, bind_ok, evs_nil, bind_ok, bind_ok]
  simp
theorem eLst0 {ρ : Env} {μ : Mem} : eLst [] ρ μ = .ok (.d (.lst [])) μ := by
  unfold eLst
  rw [evs_nil, bind_ok]
  simp
theorem rng_map : ∀ (n : Nat) (lo : Int), rangeF lo n = (List.range n).map fun (i : Nat) => R.d (.int (lo + (i : Int)))
  | 0, _ => rfl
  | n + 1, lo => by
    rw [rangeF, rng_map n (lo + 1), List.range_succ_eq_map, List.map_cons, List.map_map]
    simp
    intro a _
    omega
theorem eBi2_ok {f : List R → Option R} {a b : E} {ρ : Env} {μ μ1 μ2 : Mem} {x y z : R} (ha : a ρ μ = .ok x μ1) (hb : b ρ μ1 = .ok y μ2) (hf : f [vw μ2 x, vw μ2 y] = some z) : eBi f [a, b] ρ μ = .ok z μ2 := by
  unfold eBi; rw [evs_cons, ha, bind_ok, evs_cons, hb, bind_ok, evs_nil, bind_ok, bind_ok, bind_ok, List.map_cons, List.map_cons, List.map_nil, hf]; rfl
theorem call2 {C : Fn} {f : String} {a b : E} {ρ : Env} {μ μ1 μ2 : Mem} {x y : R} {o : Out R} (h1 : a ρ μ = .ok x μ1) (h2 : b ρ μ1 = .ok y μ2) (h : C f [x, y] μ2 = o) : eCall C f [a, b] ρ μ = o := by
  unfold eCall
  rw [evs_cons, h1, bind_ok, evs_cons, h2, bind_ok, evs_nil, bind_ok, bind_ok, bind_ok]
  exact h
theorem call4 {C : Fn} {f : String} {a b c d : E} {ρ : Env} {μ μ1 μ2 μ3 μ4 : Mem} {x y z w : R} {o : Out R} (h1 : a ρ μ = .ok x μ1) (h2 : b ρ μ1 = .ok y μ2) (h3 : c ρ μ2 = .ok z μ3) (h4 : d ρ μ3 = .ok w μ4) (h : C f [x, y, z, w] μ4 = o) : eCall C f [a, b, c, d] ρ μ = o := by
  unfold eCall
  rw [evs_cons, h1, bind_ok, evs_cons, h2, bind_ok, evs_cons, h3, bind_ok, evs_cons, h4, bind_ok, evs_nil, bind_ok, bind_ok, bind_ok, bind_ok, bind_ok]
  exact h
theorem iRange2_nat {a b : E} {ρ : Env} {μ μ1 μ2 : Mem} {k n : Nat} (h1 : a ρ μ = .ok (.d (.int (k : Int))) μ1) (h2 : b ρ μ1 = .ok (.d (.int ((k + n : Nat) : Int))) μ2) (hn : k + n ≤ 1000000) : iRange2 a b ρ μ = .ok (rangeF (k : Int) n) μ2 := by
  unfold iRange2
  rw [h1, bind_ok, h2, bind_ok]
  show (if (inRange62 (k : Int) && inRange62 ((k + n : Nat) : Int)) = true then _ else _) = _
  rw [if_pos (by rw [inRange62_nat (by omega), inRange62_nat hn]; rfl), show (((k + n : Nat) : Int) - (k : Int)).toNat = n by omega]
theorem comp_draw {α β : Type} {t : Tg} {elt : E} {ρw : Env} (encI : α → R) (encB : β → D) (Q : α → β → Prop) : ∀ (items : List α) (J : Nat → Mem → Prop) (μ : Mem),
    (∀ (i : Nat) (x : α) (μ : Mem), items[i]? = some x → J i μ → ∃ ρ1, t (encI x) ρw = some ρ1 ∧ ∃ b μ', Q x b ∧ J (i + 1) μ' ∧ elt ρ1 μ = .ok (.d (encB b)) μ') → J 0 μ →
    ∃ (bs : List β) (μ' : Mem), bs.length = items.length ∧ (∀ (i : Nat) (x : α) (b : β), items[i]? = some x → bs[i]? = some b → Q x b) ∧ J items.length μ' ∧ compL t tYes elt (items.map encI) ρw μ = .ok (bs.map fun b => R.d (encB b)) μ'
  | [], J, μ, _, h0 => ⟨[], μ, rfl, fun i x b h => by simp at h, h0, rfl⟩
  | x :: items, J, μ, h, h0 => by
    obtain ⟨ρ1, h1, b, μ1, hq, hj, h2⟩ := h 0 x μ rfl h0
    obtain ⟨bs, μ', e1, e2, e3, e4⟩ := comp_draw encI encB Q items (fun i => J (i + 1)) μ1 (fun i x μ hx hj => h (i + 1) x μ (by simpa using hx) hj) hj
    refine ⟨b :: bs, μ', by simp [e1], fun i y c hy hc => ?_, e3, ?_⟩
    · cases i with
      | zero => simp at hy hc; subst hy hc; exact hq
      | succ i => exact e2 i y c (by simpa using hy) (by simpa using hc)
    · rw [List.map_cons, compL_cons, h1]
      show ((tYes ρ1 μ).nx).bind _ = _
      have hy : tYes ρ1 μ = .ok true μ := by simp [tYes]
      rw [hy]
      show (elt ρ1 μ).nx.bind _ = _
      rw [h2]
      show (compL t tYes elt (items.map encI) ρw μ1).bind _ = _
      rw [e4]
      rfl
end Ev
end

section
set_option maxHeartbeats 0
set_option linter.all false
set_option maxRecDepth 100000
namespace Ev
theorem eFld_ok {c f : String} {o : E} {ρ : Env} {μ : Mem} {m : Nat} {v : R} {fs : List (String × R)} (ho : o ρ μ = .ok (.p m) μ) (hm : μ[m]? = some (.ins c fs)) (hf : fs.lookup f = some v) : eFld c o f ρ μ = .ok v μ := by
  unfold eFld
  rw [ho, bind_ok]
  simp only [insOf, hm, if_true, Option.bind_some, hf]
  rfl
theorem sFld_ok {c f : String} {o e : E} {ρ : Env} {μ : Mem} {m : Nat} {z : R} {fs : List (String × R)} (he : e ρ μ = .ok z μ) (ho : o ρ μ = .ok (.p m) μ) (hm : μ[m]? = some (.ins c fs)) (hl : fs.length < 1000) : sFld c o f e ρ μ = .ok (.nx ρ) (μ.set m (.ins c (putA f z fs))) := by
  unfold sFld
  rw [he, bind_ok, ho, bind_ok]
  simp only [putI, hm]
  rw [if_pos ⟨trivial, hl⟩]
theorem eMeth_ok {C : Fn} {c mn q : String} {o : E} {es : List E} {ρ : Env} {μ : Mem} {m : Nat} {rs : List R} {fs : List (String × R)} {out : Out R} (ho : o ρ μ = .ok (.p m) μ) (hm : μ[m]? = some (.ins c fs)) (hf : (fs.lookup mn).isNone = true) (he : evs es ρ μ = .ok rs μ) (h : C q (.p m :: rs) μ = out) : eMeth C c mn q o es ρ μ = out := by
  unfold eMeth
  rw [ho, bind_ok]
  simp only [insOf, hm, if_true, hf]
  rw [he, bind_ok, h]
theorem eB_own {i : Nat} {ρ : Env} {μ : Mem} {rs : List R} (h : ρ[i]? = some (.own rs)) : eB i ρ μ = .ok (mkL rs) μ := by unfold eB; rw [h]
theorem eAnd_b {a b : E} {ρ : Env} {μ : Mem} {x y : Bool} (ha : a ρ μ = .ok (.d (.bl x)) μ) (hb : x = true → b ρ μ = .ok (.d (.bl y)) μ) : eAnd a b ρ μ = .ok (.d (.bl (x && y))) μ := by
  unfold eAnd
  rw [ha, bind_ok]
  cases x with
  | true => exact hb rfl
  | false => rfl
theorem set_last {μ : Mem} {a b : Cell} : (μ ++ [a]).set μ.length b = μ ++ [b] := by
  rw [List.set_append_right _ _ (Nat.le_refl _), Nat.sub_self]
  rfl
theorem get_last {μ : Mem} {a : Cell} : (μ ++ [a])[μ.length]? = some a := by
  rw [List.getElem?_append_right (Nat.le_refl _), Nat.sub_self]
  rfl
end Ev
end

section
set_option maxHeartbeats 0
set_option linter.all false
set_option maxRecDepth 100000
namespace Ev.W0
open Ev
def wp {α : Type} (o : Out α) (Q : α → Mem → Prop) (X : Exn → Mem → Prop) : Prop := match o with
  | .ok a μ => Q a μ
  | .exn x μ => X x μ
  | .no => False
def wo {α : Type} (o : Option α) (K : α → Prop) : Prop := match o with
  | some a => K a
  | none => False
def gd (p k : Prop) : Prop := p ∧ k
theorem gd_i {p k : Prop} (h : p) (hk : k) : gd p k := ⟨h, hk⟩
theorem w_ok {α : Type} {a : α} {μ : Mem} {Q : α → Mem → Prop} {X : Exn → Mem → Prop} (k : Q a μ) : wp (.ok a μ) Q X := k
theorem w_exn {α : Type} {x : Exn} {μ : Mem} {Q : α → Mem → Prop} {X : Exn → Mem → Prop} (k : X x μ) : wp (.exn x μ : Out α) Q X := k
theorem wo_i {α : Type} {o : Option α} {K : α → Prop} {a : α} (h : o = some a) (k : K a) : wo o K := by subst h; exact k
def wm {α : Type} (o : Option α) (K : α → Prop) : Prop := wo o K
theorem wp_bind {α β : Type} {o : Out α} {k : α → Mem → Out β} {Q : β → Mem → Prop} {X : Exn → Mem → Prop} : wp (o.bind k) Q X ↔ wp o (fun a μ => wp (k a μ) Q X) X := by cases o <;> rfl
theorem wp_lift {α : Type} {o : Option α} {μ : Mem} {Q : α → Mem → Prop} {X : Exn → Mem → Prop} : wp (lift o μ) Q X ↔ wo o fun a => Q a μ := by cases o <;> rfl
theorem wp_nx {α : Type} {o : Out α} {Q : α → Mem → Prop} {X : Exn → Mem → Prop} : wp o.nx Q X ↔ wp o Q fun _ _ => False := by cases o <;> rfl
theorem wp.mono {α : Type} {o : Out α} {Q Q' : α → Mem → Prop} {X X' : Exn → Mem → Prop} (h : wp o Q X) (i : ∀ a μ, Q a μ → Q' a μ) (j : ∀ x μ, X x μ → X' x μ) : wp o Q' X' := by
  cases o with
  | ok a μ => exact i a μ h
  | exn x μ => exact j x μ h
  | no => exact h
theorem wp.monoQ {α : Type} {o : Out α} {Q Q' : α → Mem → Prop} {X : Exn → Mem → Prop} (h : wp o Q X) (i : ∀ a μ, Q a μ → Q' a μ) : wp o Q' X := h.mono i fun _ _ h => h
theorem wp.ok {α : Type} {o : Out α} {a : α} {μ : Mem} (h : wp o (fun b ν => b = a ∧ ν = μ) fun _ _ => False) : o = .ok a μ := by
  cases o with
  | ok b ν => rw [h.1, h.2]
  | exn x μ => exact h.elim
  | no => exact h.elim
theorem wp_eq {α : Type} {o o' : Out α} {Q : α → Mem → Prop} {X : Exn → Mem → Prop} (h : o = o') (k : wp o' Q X) : wp o Q X := by rw [h]; exact k
section
variable {ρ : Env} {μ : Mem} {X : Exn → Mem → Prop}
theorem w_eV {i : Nat} {r : R} {Q : R → Mem → Prop} (h : ρ[i]? = some (.v r)) (k : Q r μ) : wp (eV i ρ μ) Q X := by rw [eV_at h]; exact k
theorem w_eB {i : Nat} {rs : List R} {Q : R → Mem → Prop} (h : ρ[i]? = some (.own rs)) (k : Q (mkL rs) μ) : wp (eB i ρ μ) Q X := by rw [eB_own h]; exact k
theorem w_eBd {i : Nat} {kvs : List (Ky × R)} {Q : R → Mem → Prop} (h : ρ[i]? = some (.odic kvs)) (k : Q (.dic kvs) μ) : wp (eB i ρ μ) Q X := by unfold eB; rw [h]; exact k
theorem w_eC {x : D} {Q : R → Mem → Prop} (k : Q (.d x) μ) : wp (eC x ρ μ) Q X := by unfold eC; exact k
theorem w_nil {Q : List R → Mem → Prop} (k : Q [] μ) : wp (evs [] ρ μ) Q X := by exact k
theorem w_cons {e : E} {es : List E} {Q : List R → Mem → Prop} (h : wp (e ρ μ) (fun r μ => wp (evs es ρ μ) (fun rs μ => Q (r :: rs) μ) X) X) : wp (evs (e :: es) ρ μ) Q X := by
  rw [evs_cons, wp_bind]
  refine h.monoQ fun r μ h => ?_
  rw [wp_bind]
  exact h
theorem w_tup {es : List E} {Q : R → Mem → Prop} (h : wp (evs es ρ μ) (fun rs μ => wo (valsR rs) fun ds => gd (ds.length ≤ SL) (Q (.d (.tup ds)) μ)) X) : wp (eTup es ρ μ) Q X := by
  unfold eTup
  rw [wp_bind]
  refine h.monoQ fun rs μ h => ?_
  cases hv : valsR rs with
  | none => rw [hv] at h; exact h.elim
  | some ds => rw [hv] at h; simp only [if_pos h.1]; exact h.2
theorem w_lst {es : List E} {Q : R → Mem → Prop} (h : wp (evs es ρ μ) (fun rs μ => wo (valsR rs) fun ds => gd (ds.length ≤ SL) (Q (.d (.lst ds)) μ)) X) : wp (eLst es ρ μ) Q X := by
  unfold eLst
  rw [wp_bind]
  refine h.monoQ fun rs μ h => ?_
  cases hv : valsR rs with
  | none => rw [hv] at h; exact h.elim
  | some ds => rw [hv] at h; simp only [if_pos h.1]; exact h.2
theorem w_op {f : R → R → Option R} {a b : E} {Q : R → Mem → Prop} (h : wp (a ρ μ) (fun x μ => wp (b ρ μ) (fun y μ => wo (f (vw μ x) (vw μ y)) fun z => Q z μ) X) X) : wp (eOp f a b ρ μ) Q X := by
  unfold eOp
  rw [wp_bind]
  refine h.monoQ fun x μ h => ?_
  rw [wp_bind]
  refine h.monoQ fun y μ h => ?_
  rw [wp_lift]
  exact h
theorem w_opMul {a b : E} {Q : R → Mem → Prop} (h : wp (a ρ μ) (fun x μ => wp (b ρ μ) (fun y μ => wm (mulR (vw μ x) (vw μ y)) fun z => Q z μ) X) X) : wp (eOp mulR a b ρ μ) Q X := w_op h
theorem w_opMulL {a b : E} {Q : R → Mem → Prop} (h : wp (a ρ μ) (fun x μ => wp (b ρ μ) (fun y μ => wm (mulL (vw μ x) (vw μ y)) fun z => Q z μ) X) X) : wp (eOp mulL a b ρ μ) Q X := w_op h
theorem w_idx {a b : E} {Q : R → Mem → Prop} (h : wp (a ρ μ) (fun x μ => wp (b ρ μ) (fun y μ => wo (idxR (vw μ x) (vw μ y)) fun z => Q z μ) X) X) : wp (eIdx a b ρ μ) Q X := by unfold eIdx; exact w_op h
theorem w_neg {a : E} {Q : R → Mem → Prop} (h : wp (a ρ μ) (fun x μ => ∃ i, x = .d (.int i) ∧ Q (.d (.int (-i))) μ) X) : wp (eNeg a ρ μ) Q X := by
  unfold eNeg
  rw [wp_bind]
  refine h.monoQ fun x μ h => ?_
  obtain ⟨i, rfl, h⟩ := h
  exact h
theorem w_cmp {f : R → R → Option Bool} {a b : E} {Q : Bool → Mem → Prop} (h : wp (a ρ μ) (fun x μ => wp (b ρ μ) (fun y μ => wo (f (vw μ x) (vw μ y)) fun z => Q z μ) X) X) : wp (tCmp f a b ρ μ) Q X := by
  unfold tCmp
  rw [wp_bind]
  refine h.monoQ fun x μ h => ?_
  rw [wp_bind]
  refine h.monoQ fun y μ h => ?_
  rw [wp_lift]
  exact h
theorem w_ch {f g : R → R → Option Bool} {a b c : E} {Q : Bool → Mem → Prop} (h : wp (a ρ μ) (fun x μ => wp (b ρ μ) (fun y μ => wo (f (vw μ x) (vw μ y)) fun k => wp (c ρ μ) (fun z ν => ν = μ ∧ wo (g (vw μ y) (vw μ z)) fun j => Q (k && j) μ) fun _ _ => False) X) X) : wp (tCh f g a b c ρ μ) Q X := by
  unfold tCh
  rw [wp_bind]
  refine h.monoQ fun x μ h => ?_
  rw [wp_bind]
  refine h.monoQ fun y μ h => ?_
  rw [wp_bind, wp_lift]
  cases hf : f (vw μ x) (vw μ y) with
  | none => rw [hf] at h; exact h.elim
  | some k =>
    rw [hf] at h
    have h : wp (c ρ μ) (fun z ν => ν = μ ∧ wo (g (vw μ y) (vw μ z)) fun j => Q (k && j) μ) fun _ _ => False := h
    cases k with
    | true =>
      show wp ((c ρ μ).bind _) Q X
      rw [wp_bind]
      refine h.mono (fun z ν h => ?_) fun _ _ h => h.elim
      obtain ⟨rfl, h⟩ := h
      rw [wp_lift]
      exact h
    | false =>
      show Q false μ
      cases hc : c ρ μ with
      | ok z ν =>
        rw [hc] at h
        obtain ⟨rfl, h⟩ := h
        cases hg : g (vw ν y) (vw ν z) with
        | none => rw [hg] at h; exact h.elim
        | some j => rw [hg] at h; exact h
      | exn x ν => rw [hc] at h; exact h.elim
      | no => rw [hc] at h; exact h.elim
theorem w_isN {a : E} {Q : Bool → Mem → Prop} (h : wp (a ρ μ) (fun x μ => Q (isNonR x) μ) X) : wp (tIsN a ρ μ) Q X := by unfold tIsN; rw [wp_bind]; exact h
theorem w_notN {a : E} {Q : Bool → Mem → Prop} (h : wp (a ρ μ) (fun x μ => Q (!isNonR x) μ) X) : wp (tNotN a ρ μ) Q X := by unfold tNotN; rw [wp_bind]; exact h
theorem w_eT {t : T} {Q : R → Mem → Prop} (h : wp (t ρ μ) (fun b μ => Q (.d (.bl b)) μ) X) : wp (eT t ρ μ) Q X := by unfold eT; rw [wp_bind]; exact h
theorem w_tE {e : E} {Q : Bool → Mem → Prop} (h : wp (e ρ μ) (fun x μ => wo (truthR (vw μ x)) fun b => Q b μ) X) : wp (tE e ρ μ) Q X := by
  unfold tE; rw [wp_bind]
  refine h.monoQ fun x μ h => ?_
  rw [wp_lift]; exact h
def andQ (b : T) (ρ : Env) (Q : Bool → Mem → Prop) (X : Exn → Mem → Prop) (x : Bool) (μ : Mem) : Prop := if x = true then wp (b ρ μ) Q X else Q false μ
def orQ (b : T) (ρ : Env) (Q : Bool → Mem → Prop) (X : Exn → Mem → Prop) (x : Bool) (μ : Mem) : Prop := if x = true then Q true μ else wp (b ρ μ) Q X
theorem w_and' {a b : T} {Q : Bool → Mem → Prop} (h : wp (a ρ μ) (andQ b ρ Q X) X) : wp (tAnd a b ρ μ) Q X := by
  unfold tAnd; rw [wp_bind]
  refine h.monoQ fun x ν h => ?_
  cases x <;> exact h
theorem w_or' {a b : T} {Q : Bool → Mem → Prop} (h : wp (a ρ μ) (orQ b ρ Q X) X) : wp (tOr a b ρ μ) Q X := by
  unfold tOr; rw [wp_bind]
  refine h.monoQ fun x ν h => ?_
  cases x <;> exact h
theorem w_not {a : T} {Q : Bool → Mem → Prop} (h : wp (a ρ μ) (fun k μ => Q (!k) μ) X) : wp (tNot a ρ μ) Q X := by unfold tNot; rw [wp_bind]; exact h
theorem w_eNot {a : E} {Q : R → Mem → Prop} (h : wp (a ρ μ) (fun x μ => wo (truthR (vw μ x)) fun b => Q (.d (.bl (!b))) μ) X) : wp (eNot a ρ μ) Q X := by
  unfold eNot; rw [wp_bind]
  refine h.monoQ fun x μ h => ?_
  rw [wp_bind, wp_lift]; exact h
def ifE (a b : E) (ρ : Env) (Q : R → Mem → Prop) (X : Exn → Mem → Prop) (k : Bool) (μ : Mem) : Prop := if k = true then wp (a ρ μ) Q X else wp (b ρ μ) Q X
theorem w_eIf {c : T} {a b : E} {Q : R → Mem → Prop} (h : wp (c ρ μ) (ifE a b ρ Q X) X) : wp (eIf c a b ρ μ) Q X := by
  unfold eIf; rw [wp_bind]
  refine h.monoQ fun k μ h => ?_
  cases k <;> exact h
theorem andQ_t {b : T} {Q : Bool → Mem → Prop} {k : Bool} (hk : k = true) (h : wp (b ρ μ) Q X) : andQ b ρ Q X k μ := by subst hk; exact h
theorem andQ_f {b : T} {Q : Bool → Mem → Prop} {k : Bool} (hk : k = false) (h : Q false μ) : andQ b ρ Q X k μ := by subst hk; exact h
theorem orQ_t {b : T} {Q : Bool → Mem → Prop} {k : Bool} (hk : k = true) (h : Q true μ) : orQ b ρ Q X k μ := by subst hk; exact h
theorem orQ_f {b : T} {Q : Bool → Mem → Prop} {k : Bool} (hk : k = false) (h : wp (b ρ μ) Q X) : orQ b ρ Q X k μ := by subst hk; exact h
def eAndQ (b : E) (ρ : Env) (Q : R → Mem → Prop) (X : Exn → Mem → Prop) (r : R) (μ : Mem) : Prop := match truthR (vw μ r) with
  | some true => wp (b ρ μ) Q X
  | some false => Q r μ
  | none => False
def eOrQ (b : E) (ρ : Env) (Q : R → Mem → Prop) (X : Exn → Mem → Prop) (r : R) (μ : Mem) : Prop := match truthR (vw μ r) with
  | some true => Q r μ
  | some false => wp (b ρ μ) Q X
  | none => False
theorem w_eAnd {a b : E} {Q : R → Mem → Prop} (h : wp (a ρ μ) (eAndQ b ρ Q X) X) : wp (eAnd a b ρ μ) Q X := by
  unfold eAnd; rw [wp_bind]
  refine h.monoQ fun x μ h => ?_
  unfold eAndQ at h
  split at h
  · rename_i e; first | exact h | (rw [e]; exact h)
  · rename_i e; first | exact h | (rw [e]; exact h)
  · exact h.elim
theorem w_eOr {a b : E} {Q : R → Mem → Prop} (h : wp (a ρ μ) (eOrQ b ρ Q X) X) : wp (eOr a b ρ μ) Q X := by
  unfold eOr; rw [wp_bind]
  refine h.monoQ fun x μ h => ?_
  unfold eOrQ at h
  split at h
  · rename_i e; first | exact h | (rw [e]; exact h)
  · rename_i e; first | exact h | (rw [e]; exact h)
  · exact h.elim
theorem w_oN {Q : Option Int → Mem → Prop} (k : Q none μ) : wp (oN ρ μ) Q X := by unfold oN; exact k
theorem w_oE {e : E} {Q : Option Int → Mem → Prop} (h : wp (e ρ μ) (fun x μ => ∃ i, x = .d (.int i) ∧ Q (some i) μ) X) : wp (oE e ρ μ) Q X := by
  unfold oE; rw [wp_bind]
  refine h.monoQ fun x μ h => ?_
  obtain ⟨i, rfl, h⟩ := h
  exact h
theorem w_slc {a : E} {lo hi : O} {Q : R → Mem → Prop} (h : wp (a ρ μ) (fun x μ => wp (lo ρ μ) (fun l μ => wp (hi ρ μ) (fun h μ => wo (slcR (vw μ x) l h) fun z => Q z μ) X) X) X) : wp (eSlc a lo hi ρ μ) Q X := by
  unfold eSlc; rw [wp_bind]
  refine h.monoQ fun x μ h => ?_
  rw [wp_bind]
  refine h.monoQ fun x μ h => ?_
  rw [wp_bind]
  refine h.monoQ fun x μ h => ?_
  rw [wp_lift]; exact h
theorem w_call {C : Fn} {f : String} {es : List E} {Q : R → Mem → Prop} (h : wp (evs es ρ μ) (fun rs μ => wp (C f rs μ) Q X) X) : wp (eCall C f es ρ μ) Q X := by unfold eCall; rw [wp_bind]; exact h
theorem w_bi {f : List R → Option R} {es : List E} {Q : R → Mem → Prop} (h : wp (evs es ρ μ) (fun rs μ => wo (f (rs.map (vw μ))) fun z => Q z μ) X) : wp (eBi f es ρ μ) Q X := by
  unfold eBi; rw [wp_bind]
  refine h.monoQ fun x μ h => ?_
  rw [wp_lift]; exact h
theorem w_fld {c f : String} {o : E} {Q : R → Mem → Prop} (h : wp (o ρ μ) (fun x μ => wo ((insOf μ c x).bind fun fs => fs.lookup f) fun z => Q z μ) X) : wp (eFld c o f ρ μ) Q X := by
  unfold eFld; rw [wp_bind]
  refine h.monoQ fun x μ h => ?_
  rw [wp_lift]; exact h
theorem w_meth {C : Fn} {c m q : String} {o : E} {es : List E} {Q : R → Mem → Prop} (h : wp (o ρ μ) (fun x μ => wo (insOf μ c x) fun fs => gd ((fs.lookup m).isNone = true) (wp (evs es ρ μ) (fun rs μ => wp (C q (x :: rs) μ) Q X) X)) X) : wp (eMeth C c m q o es ρ μ) Q X := by
  unfold eMeth; rw [wp_bind]
  refine h.monoQ fun x μ h => ?_
  cases hi : insOf μ c x with
  | none => rw [hi] at h; exact h.elim
  | some fs =>
    rw [hi] at h
    simp only [if_pos h.1]
    rw [wp_bind]
    exact h.2
theorem w_new {C : Fn} {c q : String} {es : List E} {Q : R → Mem → Prop} (h : wp (evs es ρ μ) (fun rs μ => wp (C q (.p μ.length :: rs) (μ ++ [.ins c []])) (fun r μ' => r = .d .non ∧ Q (.p μ.length) μ') X) X) : wp (eNew C c q es ρ μ) Q X := by
  unfold eNew; rw [wp_bind]
  refine h.monoQ fun x μ h => ?_
  rw [wp_bind]
  refine h.monoQ fun r μ' h => ?_
  obtain ⟨rfl, h⟩ := h
  exact h
theorem w_mk {f : E} {Q : R → Mem → Prop} (h : wp (f ρ μ) (fun r μ => ∃ ds, r = .d (.lst ds) ∧ Q (.p μ.length) (μ ++ [.lst ds])) X) : wp (eMk f ρ μ) Q X := by
  unfold eMk; rw [wp_bind]
  refine h.monoQ fun x μ h => ?_
  obtain ⟨ds, rfl, h⟩ := h
  exact h
theorem w_iE {e : E} {Q : List R → Mem → Prop} (h : wp (e ρ μ) (fun x μ => wo (itemsR x) fun xs => Q xs μ) X) : wp (iE e ρ μ) Q X := by
  unfold iE; rw [wp_bind]
  refine h.monoQ fun x μ h => ?_
  rw [wp_lift]; exact h
def enumR : R → Option (List R)
  | .d (.tup ds) => some (enumF 0 ds)
  | .d (.lst ds) => some (enumF 0 ds)
  | _ => none
theorem w_iEnum {e : E} {Q : List R → Mem → Prop} (h : wp (e ρ μ) (fun x μ => wo (enumR x) fun xs => Q xs μ) X) : wp (iEnum e ρ μ) Q X := by
  unfold iEnum; rw [wp_bind]
  refine h.monoQ fun x μ h => ?_
  unfold enumR at h
  split at h
  · exact h
  · exact h
  · exact h.elim
theorem w_iRange1 {e : E} {Q : List R → Mem → Prop} (h : wp (e ρ μ) (fun x μ => ∃ n : Nat, x = .d (.int (n : Int)) ∧ gd (n ≤ 1000000) (Q (rangeF 0 n) μ)) X) : wp (iRange1 e ρ μ) Q X := by
  unfold iRange1; rw [wp_bind]
  refine h.monoQ fun x μ h => ?_
  obtain ⟨n, rfl, h⟩ := h
  have h1 : n ≤ 1000000 := h.1
  have h2 : Q (rangeF 0 n) μ := h.2
  have h3 : (n : Int).toNat = n := Int.toNat_natCast n
  simp only [if_pos (inRange62_nat h1), h3]
  exact h2
theorem w_iRange2 {a b : E} {Q : List R → Mem → Prop} (h : wp (a ρ μ) (fun x μ => wp (b ρ μ) (fun y μ => ∃ lo hi : Int, x = .d (.int lo) ∧ y = .d (.int hi) ∧ gd (inRange62 lo = true ∧ inRange62 hi = true) (Q (rangeF lo (hi - lo).toNat) μ)) X) X) : wp (iRange2 a b ρ μ) Q X := by
  unfold iRange2; rw [wp_bind]
  refine h.monoQ fun x μ h => ?_
  rw [wp_bind]
  refine h.monoQ fun y μ h => ?_
  obtain ⟨lo, hi, rfl, rfl, ⟨h1, h2⟩, h⟩ := h
  simp only [h1, h2]
  exact h
def zipR : R → R → Option (List R)
  | .d (.lst xs), .d (.lst ys) => some (zipF xs ys)
  | .d (.tup xs), .d (.tup ys) => some (zipF xs ys)
  | _, _ => none
theorem w_iZip {a b : E} {Q : List R → Mem → Prop} (h : wp (a ρ μ) (fun x μ => wp (b ρ μ) (fun y μ => wo (zipR x y) fun xs => Q xs μ) X) X) : wp (iZip a b ρ μ) Q X := by
  unfold iZip; rw [wp_bind]
  refine h.monoQ fun x μ h => ?_
  rw [wp_bind]
  refine h.monoQ fun y μ h => ?_
  unfold zipR at h
  split at h
  · exact h
  · exact h
  · exact h.elim
theorem w_comp {own : List Nat} {t : Tg} {it : It} {c : T} {e : E} {Q : R → Mem → Prop} (h : wp (it ρ μ) (fun xs μ => wp (compL t c e xs (wipeE ρ own) μ) (fun ys μ => gd (ys.length ≤ SL) (Q (mkL ys) μ)) fun _ _ => False) X) : wp (eComp own t it c e ρ μ) Q X := by
  unfold eComp; rw [wp_bind]
  refine h.monoQ fun xs μ h => ?_
  rw [wp_bind]
  refine h.mono (fun ys μ h => ?_) fun _ _ h => h.elim
  rw [if_pos h.1]
  exact h.2
theorem w_comp2 {own own1 : List Nat} {t t1 : Tg} {it it1 : It} {c c1 : T} {e : E} {Q : R → Mem → Prop} (h : wp (it ρ μ) (fun xs μ => wp (compL2 t c own1 t1 it1 c1 e xs (wipeE ρ own) μ) (fun ys μ => gd (ys.length ≤ SL) (Q (mkL ys) μ)) fun _ _ => False) X) : wp (eComp2 own t it c own1 t1 it1 c1 e ρ μ) Q X := by
  unfold eComp2; rw [wp_bind]
  refine h.monoQ fun xs μ h => ?_
  rw [wp_bind]
  refine h.mono (fun ys μ h => ?_) fun _ _ h => h.elim
  rw [if_pos h.1]
  exact h.2
theorem w_yes {Q : Bool → Mem → Prop} (k : Q true μ) : wp (tYes ρ μ) Q X := by unfold tYes; exact k
theorem w_compMap {α : Type} {t : Tg} {e : E} {xs : List R} {Q : List R → Mem → Prop} {Y : Exn → Mem → Prop} (l : List α) (enc out : α → R) (hx : xs = l.map enc)
    (step : ∀ x ∈ l, wo (t (enc x) ρ) fun ρ1 => wp (e ρ1 μ) (fun r ν => r = out x ∧ ν = μ) fun _ _ => False) (done : Q (l.map out) μ) : wp (compL t tYes e xs ρ μ) Q Y := by
  subst hx
  rw [compL_each enc out fun x hm => by
    have := step x hm
    cases ht : t (enc x) ρ with
    | none => rw [ht] at this; exact this.elim
    | some ρ1 => rw [ht] at this; exact ⟨ρ1, rfl, wp.ok this⟩]
  exact done
theorem w_all {k : Bool} {own : List Nat} {t : Tg} {it : It} {e : E} {Q : R → Mem → Prop} (h : wp (it ρ μ) (fun xs μ => wp (allL k t e xs (wipeE ρ own) μ) (fun b μ => Q (.d (.bl b)) μ) fun _ _ => False) X) : wp (eAll k own t it e ρ μ) Q X := by
  unfold eAll; rw [wp_bind]
  refine h.monoQ fun xs μ h => ?_
  rw [wp_bind, wp_nx]
  exact h
theorem tg1 {i : Nat} {r : R} : tgN i r ρ = some (ρ.set i (.v r)) := by unfold tgN; rfl
theorem tg2 {i j : Nat} {a b : D} : tgT [tgN i, tgN j] (.d (.tup [a, b])) ρ = some ((ρ.set i (.v (.d a))).set j (.v (.d b))) := by simp only [tgT, tgs, tgN, List.map_cons, List.map_nil, Option.bind_some]
theorem tg3 {i j k : Nat} {a b c : D} : tgT [tgN i, tgN j, tgN k] (.d (.tup [a, b, c])) ρ = some (((ρ.set i (.v (.d a))).set j (.v (.d b))).set k (.v (.d c))) := by simp only [tgT, tgs, tgN, List.map_cons, List.map_nil, Option.bind_some]
theorem tg4 {i j k l : Nat} {a b c d : D} : tgT [tgN i, tgN j, tgN k, tgN l] (.d (.tup [a, b, c, d])) ρ = some ((((ρ.set i (.v (.d a))).set j (.v (.d b))).set k (.v (.d c))).set l (.v (.d d))) := by simp only [tgT, tgs, tgN, List.map_cons, List.map_nil, Option.bind_some]
theorem tg12 {i j k : Nat} {a b c : D} : tgT [tgN i, tgT [tgN j, tgN k]] (.d (.tup [a, .tup [b, c]])) ρ = some (((ρ.set i (.v (.d a))).set j (.v (.d b))).set k (.v (.d c))) := by simp only [tgT, tgs, tgN, List.map_cons, List.map_nil, Option.bind_some]
theorem tg2l {i j : Nat} {a b : D} : tgT [tgN i, tgN j] (.d (.lst [a, b])) ρ = some ((ρ.set i (.v (.d a))).set j (.v (.d b))) := by simp only [tgT, tgs, tgN, List.map_cons, List.map_nil, Option.bind_some]
theorem tg3l {i j k : Nat} {a b c : D} : tgT [tgN i, tgN j, tgN k] (.d (.lst [a, b, c])) ρ = some (((ρ.set i (.v (.d a))).set j (.v (.d b))).set k (.v (.d c))) := by simp only [tgT, tgs, tgN, List.map_cons, List.map_nil, Option.bind_some]
theorem tg4l {i j k l : Nat} {a b c d : D} : tgT [tgN i, tgN j, tgN k, tgN l] (.d (.lst [a, b, c, d])) ρ = some ((((ρ.set i (.v (.d a))).set j (.v (.d b))).set k (.v (.d c))).set l (.v (.d d))) := by simp only [tgT, tgs, tgN, List.map_cons, List.map_nil, Option.bind_some]
def seqQ (b : S) (Q : Fl → Mem → Prop) (X : Exn → Mem → Prop) (f : Fl) (μ : Mem) : Prop := match f with
  | .nx ρ => wp (b ρ μ) Q X
  | f => Q f μ
theorem seq_nx {b : S} {Q : Fl → Mem → Prop} (k : wp (b ρ μ) Q X) : seqQ b Q X (.nx ρ) μ := by exact k
theorem seq_rt {b : S} {Q : Fl → Mem → Prop} {r : R} (k : Q (.rt r) μ) : seqQ b Q X (.rt r) μ := by exact k
theorem seq_bk {b : S} {Q : Fl → Mem → Prop} (k : Q (.bk ρ) μ) : seqQ b Q X (.bk ρ) μ := by exact k
theorem seq_ct {b : S} {Q : Fl → Mem → Prop} (k : Q (.ct ρ) μ) : seqQ b Q X (.ct ρ) μ := by exact k
theorem w_sq {a b : S} {Q : Fl → Mem → Prop} (h : wp (a ρ μ) (seqQ b Q X) X) : wp (sq a b ρ μ) Q X := by
  unfold sq; rw [wp_bind]
  refine h.monoQ fun f μ h => ?_
  cases f <;> exact h
theorem w_sNil {Q : Fl → Mem → Prop} (k : Q (.nx ρ) μ) : wp (sNil ρ μ) Q X := by unfold sNil; exact k
theorem w_sX {e : E} {Q : Fl → Mem → Prop} (h : wp (e ρ μ) (fun _ μ => Q (.nx ρ) μ) X) : wp (sX e ρ μ) Q X := by unfold sX; rw [wp_bind]; exact h
theorem w_sAs {i : Nat} {e : E} {Q : Fl → Mem → Prop} (h : wp (e ρ μ) (fun r μ => Q (.nx (ρ.set i (.v r))) μ) X) : wp (sAs (tgN i) e ρ μ) Q X := by
  unfold sAs tgN; rw [wp_bind]; exact h
theorem w_sAsT {t : Tg} {e : E} {Q : Fl → Mem → Prop} (h : wp (e ρ μ) (fun r μ => wo (t r ρ) fun ρ => Q (.nx ρ) μ) X) : wp (sAs t e ρ μ) Q X := by
  unfold sAs; rw [wp_bind]
  refine h.monoQ fun r μ h => ?_
  cases ht : t r ρ with
  | none => rw [ht] at h; exact h.elim
  | some ρ1 => rw [ht] at h; exact h
theorem w_sAug {i : Nat} {f : R → R → Option R} {e : E} {x : R} {Q : Fl → Mem → Prop} (hx : ρ[i]? = some (.v x)) (h : wp (e ρ μ) (fun y μ => wo (f x y) fun z => Q (.nx (ρ.set i (.v z))) μ) X) : wp (sAug i f e ρ μ) Q X := by
  unfold sAug; rw [hx]; simp only; rw [wp_bind]
  refine h.monoQ fun y μ h => ?_
  rw [wp_bind, wp_lift]; exact h
theorem w_sPar {i j : Nat} {a b : E} {Q : Fl → Mem → Prop} (h : wp (a ρ μ) (fun x μ => wp (b ρ μ) (fun y μ => Q (.nx ((ρ.set i (.v x)).set j (.v y))) μ) X) X) : wp (sPar i j a b ρ μ) Q X := by
  unfold sPar; rw [wp_bind]
  refine h.monoQ fun x μ h => ?_
  rw [wp_bind]; exact h
def ownR : R → Option Sl
  | .d (.lst ds) => some (.own (ds.map .d))
  | .ls rs => some (.own rs)
  | .dic kvs => some (.odic kvs)
  | _ => none
theorem w_sOwn {i : Nat} {e : E} {Q : Fl → Mem → Prop} (h : wp (e ρ μ) (fun r μ => wo (ownR r) fun s => Q (.nx (ρ.set i s)) μ) X) : wp (sOwn i e ρ μ) Q X := by
  unfold sOwn; rw [wp_bind]
  refine h.monoQ fun r μ h => ?_
  unfold ownR at h
  split at h
  · exact h
  · exact h
  · exact h
  · exact h.elim
theorem w_sCell {i : Nat} {e : E} {Q : Fl → Mem → Prop} (h : wp (e ρ μ) (fun r μ => ∃ ds, r = .d (.lst ds) ∧ Q (.nx (ρ.set i (.v (.p μ.length)))) (μ ++ [.lst ds])) X) : wp (sCell i e ρ μ) Q X := by
  unfold sCell; rw [wp_bind]
  refine h.monoQ fun r μ h => ?_
  obtain ⟨ds, rfl, h⟩ := h
  exact h
theorem w_sFrz {i : Nat} {rs : List R} {Q : Fl → Mem → Prop} (hx : ρ[i]? = some (.own rs)) (k : Q (.nx (ρ.set i (.v (mkL rs)))) μ) : wp (sFrz i ρ μ) Q X := by unfold sFrz; rw [hx]; exact k
theorem w_sFrzD {i : Nat} {kvs : List (Ky × R)} {Q : Fl → Mem → Prop} (hx : ρ[i]? = some (.odic kvs)) (k : Q (.nx (ρ.set i (.v (.dic kvs)))) μ) : wp (sFrz i ρ μ) Q X := by unfold sFrz; rw [hx]; exact k
theorem w_sApp {i : Nat} {e : E} {xs : List R} {Q : Fl → Mem → Prop} (hx : ρ[i]? = some (.own xs)) (h : wp (e ρ μ) (fun r μ => gd (xs.length < SL) (Q (.nx (ρ.set i (.own (xs ++ [r])))) μ)) X) : wp (sApp i e ρ μ) Q X := by
  unfold sApp; rw [hx]; simp only; rw [wp_bind]
  refine h.monoQ fun r μ h => ?_
  rw [if_pos h.1]; exact h.2
theorem w_sExt {i : Nat} {e : E} {xs : List R} {Q : Fl → Mem → Prop} (hx : ρ[i]? = some (.own xs)) (h : wp (e ρ μ) (fun r μ => wo (extR (vw μ r)) fun ys => gd (xs.length + ys.length ≤ SL) (Q (.nx (ρ.set i (.own (xs ++ ys)))) μ)) X) : wp (sExt i e ρ μ) Q X := by
  unfold sExt; rw [hx]; simp only; rw [wp_bind]
  refine h.monoQ fun r μ h => ?_
  cases he : extR (vw μ r) with
  | none => rw [he] at h; exact h.elim
  | some ys => rw [he] at h; simp only [if_pos h.1]; exact h.2
theorem w_sRev {i : Nat} {xs : List R} {Q : Fl → Mem → Prop} (hx : ρ[i]? = some (.own xs)) (k : Q (.nx (ρ.set i (.own xs.reverse))) μ) : wp (sRev i ρ μ) Q X := by unfold sRev; rw [hx]; exact k
theorem w_sSetI {a : Nat} {i e : E} {rs : List R} {Q : Fl → Mem → Prop} (hx : ρ[a]? = some (.own rs)) (h : wp (e ρ μ) (fun z μ => wp (i ρ μ) (fun k μ => ∃ j : Nat, k = .d (.int (j : Int)) ∧ gd (j < rs.length) (Q (.nx (ρ.set a (.own (rs.set j z)))) μ)) X) X) : wp (sSetI a i e ρ μ) Q X := by
  unfold sSetI; rw [wp_bind]
  refine h.monoQ fun z μ h => ?_
  rw [hx]
  simp only
  rw [wp_bind]
  refine h.monoQ fun k μ h => ?_
  obtain ⟨j, rfl, h1, h⟩ := h
  have : ixN rs.length (j : Int) = some j := by unfold ixN; simp [h1]
  simp only [this]
  exact h
theorem w_sSetD {a : Nat} {i e : E} {kvs : List (Ky × R)} {Q : Fl → Mem → Prop} (hx : ρ[a]? = some (.odic kvs)) (h : wp (e ρ μ) (fun z μ => wp (i ρ μ) (fun k μ => ∃ d, k = .d d ∧ wo (keyOf d) fun k => gd (kvs.length < SL) (Q (.nx (ρ.set a (.odic (putK kvs k z)))) μ)) X) X) : wp (sSetD a i e ρ μ) Q X := by
  unfold sSetD; rw [wp_bind]
  refine h.monoQ fun z μ h => ?_
  rw [hx]
  simp only
  rw [wp_bind]
  refine h.monoQ fun k μ h => ?_
  obtain ⟨d, rfl, h⟩ := h
  cases hk : keyOf d with
  | none => rw [hk] at h; exact h.elim
  | some k => rw [hk] at h; simp only [hk, if_pos h.1]; exact h.2
theorem w_sAugI {a : Nat} {i e : E} {xs : List R} {Q : Fl → Mem → Prop} (hx : ρ[a]? = some (.own xs)) (h : wp (i ρ μ) (fun k μ => ∃ (j : Nat) (x : Int), k = .d (.int (j : Int)) ∧ xs[j]? = some (.d (.int x)) ∧ wp (e ρ μ) (fun z μ => ∃ y, z = .d (.int y) ∧ Q (.nx (ρ.set a (.own (xs.set j (.d (.int (x + y))))))) μ) X) X) : wp (sAugI a i e ρ μ) Q X := by
  unfold sAugI; rw [hx]; simp only; rw [wp_bind]
  refine h.monoQ fun k μ h => ?_
  obtain ⟨j, x, rfl, h1, h⟩ := h
  simp only [Int.natCast_nonneg, if_true, Int.toNat_natCast, h1]
  rw [wp_bind]
  refine h.monoQ fun z μ h => ?_
  obtain ⟨y, rfl, h⟩ := h
  exact h
theorem w_sRet {e : E} {Q : Fl → Mem → Prop} (h : wp (e ρ μ) (fun r μ => Q (.rt r) μ) X) : wp (sRet e ρ μ) Q X := by unfold sRet; rw [wp_bind]; exact h
theorem w_sRetN {Q : Fl → Mem → Prop} (k : Q (.rt (.d .non)) μ) : wp (sRetN ρ μ) Q X := by unfold sRetN; exact k
def ifQ (a b : S) (ρ : Env) (Q : Fl → Mem → Prop) (X : Exn → Mem → Prop) (k : Bool) (μ : Mem) : Prop := if k = true then wp (a ρ μ) Q X else wp (b ρ μ) Q X
theorem w_sIf {c : T} {a b : S} {Q : Fl → Mem → Prop} (h : wp (c ρ μ) (ifQ a b ρ Q X) X) : wp (sIf c a b ρ μ) Q X := by
  unfold sIf; rw [wp_bind]
  refine h.monoQ fun k μ h => ?_
  cases k <;> exact h
theorem ifQ_t {a b : S} {Q : Fl → Mem → Prop} {k : Bool} (hk : k = true) (h : wp (a ρ μ) Q X) : ifQ a b ρ Q X k μ := by subst hk; exact h
theorem ifQ_f {a b : S} {Q : Fl → Mem → Prop} {k : Bool} (hk : k = false) (h : wp (b ρ μ) Q X) : ifQ a b ρ Q X k μ := by subst hk; exact h
theorem w_sBrk {Q : Fl → Mem → Prop} (k : Q (.bk ρ) μ) : wp (sBrk ρ μ) Q X := by unfold sBrk; exact k
theorem w_sCnt {Q : Fl → Mem → Prop} (k : Q (.ct ρ) μ) : wp (sCnt ρ μ) Q X := by unfold sCnt; exact k
theorem w_sFor {t : Tg} {it : It} {b : S} {Q : Fl → Mem → Prop} (h : wp (it ρ μ) (fun xs μ => wp (forL t b xs ρ μ) Q X) X) : wp (sFor t it b ρ μ) Q X := by unfold sFor; rw [wp_bind]; exact h
def loopQ (N : Env → Mem → Prop) (Q : Fl → Mem → Prop) (f : Fl) (μ : Mem) : Prop := match f with
  | .nx ρ => N ρ μ
  | .ct ρ => N ρ μ
  | .bk ρ => Q (.nx ρ) μ
  | .rt r => Q (.rt r) μ
theorem loop_nx {N : Env → Mem → Prop} {Q : Fl → Mem → Prop} (k : N ρ μ) : loopQ N Q (.nx ρ) μ := by exact k
theorem loop_ct {N : Env → Mem → Prop} {Q : Fl → Mem → Prop} (k : N ρ μ) : loopQ N Q (.ct ρ) μ := by exact k
theorem loop_bk {N : Env → Mem → Prop} {Q : Fl → Mem → Prop} (k : Q (.nx ρ) μ) : loopQ N Q (.bk ρ) μ := by exact k
theorem loop_rt {N : Env → Mem → Prop} {Q : Fl → Mem → Prop} {r : R} (k : Q (.rt r) μ) : loopQ N Q (.rt r) μ := by exact k
theorem w_forL {α : Type} {t : Tg} {b : S} {xs : List R} {Q : Fl → Mem → Prop} (l : List α) (enc : α → R) (I : Nat → List α → Env → Mem → Prop) (hx : xs = l.map enc) (init : I 0 l ρ μ)
    (step : ∀ (k : Nat) (x : α) (rest : List α) (ρ : Env) (μ : Mem), l[k]? = some x → l.drop (k + 1) = rest → I k (x :: rest) ρ μ → wo (t (enc x) ρ) fun ρ1 => wp (b ρ1 μ) (loopQ (I (k + 1) rest) Q) X)
    (done : ∀ ρ μ, I l.length [] ρ μ → Q (.nx ρ) μ) : wp (forL t b xs ρ μ) Q X := by
  subst hx
  have key : ∀ (rest : List α) (k : Nat), l.drop k = rest → k ≤ l.length → ∀ ρ μ, I k rest ρ μ → wp (forL t b (rest.map enc) ρ μ) Q X := fun rest => by
    induction rest with
    | nil =>
      intro k hk hl ρ μ h
      have : k = l.length := by
        have := congrArg List.length hk
        rw [List.length_drop, List.length_nil] at this
        omega
      subst this
      exact done ρ μ h
    | cons x rest ih =>
      intro k hk hl ρ μ h
      have e0 : l[k]? = some x := by
        have : (l.drop k)[0]? = some x := by rw [hk]; rfl
        rw [List.getElem?_drop] at this
        exact this
      have hlt := (List.getElem?_eq_some_iff.mp e0).1
      have e1 : l.drop (k + 1) = rest := by rw [← List.drop_drop, hk]; rfl
      have h1 := step k x rest ρ μ e0 e1 h
      rw [List.map_cons]
      cases ht : t (enc x) ρ with
      | none => rw [ht] at h1; exact h1.elim
      | some ρ1 =>
        rw [ht] at h1
        have h1 : wp (b ρ1 μ) (loopQ (I (k + 1) rest) Q) X := h1
        unfold forL
        rw [ht]
        simp only
        rw [wp_bind]
        refine h1.monoQ fun f μ h => ?_
        cases f with
        | nx ρ => exact ih (k + 1) e1 hlt ρ μ h
        | ct ρ => exact ih (k + 1) e1 hlt ρ μ h
        | bk ρ => exact h
        | rt r => exact h
  exact key l 0 rfl (Nat.zero_le _) ρ μ init
theorem w_forK {α : Type} {t : Tg} {b : S} {xs : List R} {Q : Fl → Mem → Prop} (l : List α) (enc : Nat → α → R) (I : Nat → List α → Env → Mem → Prop) (hx : ∀ k, xs[k]? = (l[k]?).map (enc k)) (init : I 0 l ρ μ)
    (step : ∀ (k : Nat) (x : α) (rest : List α) (ρ : Env) (μ : Mem), l[k]? = some x → l.drop (k + 1) = rest → I k (x :: rest) ρ μ → wo (t (enc k x) ρ) fun ρ1 => wp (b ρ1 μ) (loopQ (I (k + 1) rest) Q) X)
    (done : ∀ ρ μ, I l.length [] ρ μ → Q (.nx ρ) μ) : wp (forL t b xs ρ μ) Q X := by
  have he : xs = l.zipIdx.map fun p => enc p.2 p.1 := by
    refine List.ext_getElem? fun k => ?_
    rw [hx, List.getElem?_map, List.getElem?_zipIdx]
    cases l[k]? <;> simp
  refine w_forL (l := l.zipIdx) (enc := fun p => enc p.2 p.1) (I := fun k rest => I k (rest.map (·.1))) he (by simpa using init) (fun k x rest ρ μ h1 h2 h3 => ?_) (fun ρ μ h => done ρ μ (by simpa using h))
  rw [List.getElem?_zipIdx] at h1
  obtain ⟨y, h4, rfl⟩ := Option.map_eq_some_iff.mp h1
  rw [List.map_cons] at h3
  have := step k y (rest.map (·.1)) ρ μ h4 (by rw [← h2, List.map_drop]; simp) h3
  rw [Nat.zero_add]
  exact this
theorem w_while {W : Nat} {c : T} {b : S} {Q : Fl → Mem → Prop} (I : Nat → Env → Mem → Prop) (m : Nat) (hm : m < W) (init : I m ρ μ)
    (step : ∀ m ρ μ, I m ρ μ → wp (c ρ μ) (fun k μ => if k = true then 0 < m ∧ wp (b ρ μ) (loopQ (fun ρ μ => ∃ m', m' < m ∧ I m' ρ μ) Q) X else Q (.nx ρ) μ) X) : wp (sWhile W c b ρ μ) Q X := by
  have key : ∀ (W m : Nat) (ρ : Env) (μ : Mem), m < W → I m ρ μ → wp (whL c b W ρ μ) Q X := fun W => by
    induction W with
    | zero => intro m ρ μ h; omega
    | succ W ih =>
      intro m ρ μ hm h
      unfold whL
      rw [wp_bind]
      refine (step m ρ μ h).monoQ fun k μ h => ?_
      cases k with
      | false => exact h
      | true =>
        simp only [if_true] at h ⊢
        rw [wp_bind]
        refine h.2.monoQ fun f μ h => ?_
        cases f with
        | nx ρ => obtain ⟨m', h1, h2⟩ := h; exact ih m' ρ μ (by omega) h2
        | ct ρ => obtain ⟨m', h1, h2⟩ := h; exact ih m' ρ μ (by omega) h2
        | bk ρ => exact h
        | rt r => exact h
  unfold sWhile
  exact key W m ρ μ hm init
theorem w_raise {c : String} {Q : Fl → Mem → Prop} (k : X ⟨c, []⟩ μ) : wp (sRaise c ρ μ) Q X := by unfold sRaise; exact k
theorem w_dn {Q : R → Mem → Prop} (k : Q (.p μ.length) (μ ++ [.dn []])) : wp (eDn ρ μ) Q X := by unfold eDn; exact k
theorem w_inN {neg : Bool} {k d : E} {Q : Bool → Mem → Prop} (h : wp (k ρ μ) (fun x μ => wp (d ρ μ) (fun y μ => wo (inN neg x y μ) fun b => Q b μ) X) X) : wp (tInN neg k d ρ μ) Q X := by
  unfold tInN; rw [wp_bind]
  refine h.monoQ fun x μ h => ?_
  rw [wp_bind]
  refine h.monoQ fun y μ h => ?_
  rw [wp_lift]; exact h
theorem w_getN {d k : E} {Q : R → Mem → Prop} (h : wp (d ρ μ) (fun y μ => wp (k ρ μ) (fun x μ => wo (getN y x μ) fun z => Q z μ) X) X) : wp (eGetN d k ρ μ) Q X := by
  unfold eGetN; rw [wp_bind]
  refine h.monoQ fun y μ h => ?_
  rw [wp_bind]
  refine h.monoQ fun x μ h => ?_
  rw [wp_lift]; exact h
theorem w_putN {d k e : E} {Q : Fl → Mem → Prop} (h : wp (e ρ μ) (fun z μ => wp (d ρ μ) (fun y μ => wp (k ρ μ) (fun x μ => ∃ x' n z' kvs, x = .d x' ∧ y = .p n ∧ z = .d z' ∧ μ[n]? = some (.dn kvs) ∧ gd (keyN x' = true ∧ kvs.length < SL) (Q (.nx ρ) (μ.set n (.dn (putN kvs x' z'))))) X) X) X) : wp (sPutN d k e ρ μ) Q X := by
  unfold sPutN; rw [wp_bind]
  refine h.monoQ fun z μ h => ?_
  rw [wp_bind]
  refine h.monoQ fun y μ h => ?_
  rw [wp_bind]
  refine h.monoQ fun x μ h => ?_
  obtain ⟨x', n, z', kvs, rfl, rfl, rfl, h1, ⟨h2, h3⟩, h⟩ := h
  simp only [h1]
  rw [if_pos (by rw [h2]; simpa using h3)]
  exact h
theorem w_iRev1 {a : E} {Q : List R → Mem → Prop} (h : wp (a ρ μ) (fun x μ => ∃ n, x = .d (.int n) ∧ gd (inRange62 n = true) (Q (rangeF 0 n.toNat).reverse μ)) X) : wp (iRev1 a ρ μ) Q X := by
  unfold iRev1; rw [wp_bind]
  refine h.monoQ fun x μ h => ?_
  obtain ⟨n, rfl, h1, h⟩ := h
  simp only [if_pos h1]
  exact h
theorem w_sFld {c f : String} {o e : E} {Q : Fl → Mem → Prop} (h : wp (e ρ μ) (fun z μ => wp (o ρ μ) (fun x μ => ∃ n fs, x = .p n ∧ μ[n]? = some (.ins c fs) ∧ gd (fs.length < 1000) (Q (.nx ρ) (μ.set n (.ins c (putA f z fs))))) X) X) : wp (sFld c o f e ρ μ) Q X := by
  unfold sFld; rw [wp_bind]
  refine h.monoQ fun z μ h => ?_
  rw [wp_bind]
  refine h.monoQ fun x μ h => ?_
  obtain ⟨n, fs, rfl, h1, h2, h⟩ := h
  simp only [putI, h1]
  rw [if_pos ⟨trivial, h2⟩]
  exact h
theorem w_sFldAug {c f : String} {op : R → R → Option R} {o e : E} {Q : Fl → Mem → Prop} (h : wp (o ρ μ) (fun x μ => ∃ n fs v, x = .p n ∧ μ[n]? = some (.ins c fs) ∧ fs.lookup f = some v ∧ wp (e ρ μ) (fun y ν => ν = μ ∧ wo (op v y) fun z => gd (fs.length < 1000) (Q (.nx ρ) (μ.set n (.ins c (putA f z fs))))) X) X) : wp (sFldAug c o f op e ρ μ) Q X := by
  unfold sFldAug; rw [wp_bind]
  refine h.monoQ fun x μ h => ?_
  obtain ⟨n, fs, v, rfl, h1, h2, h⟩ := h
  have hi : insOf μ c (.p n) = some fs := by simp [insOf, h1]
  rw [hi, Option.bind_some, h2, wp_bind]
  show wp ((e ρ μ).bind _) Q X
  rw [wp_bind]
  refine h.monoQ fun y ν h => ?_
  obtain ⟨rfl, h⟩ := h
  rw [wp_bind, wp_lift]
  cases ho : op v y with
  | none => rw [ho] at h; exact h.elim
  | some z =>
    rw [ho] at h
    show wp (putI c f z (.p n) ρ ν) Q X
    simp only [putI, h1]
    rw [if_pos ⟨trivial, h.1⟩]
    exact h.2
theorem w_sAppC {a e : E} {Q : Fl → Mem → Prop} (h : wp (a ρ μ) (fun x μ => ∃ n ds, x = .p n ∧ μ[n]? = some (.lst ds) ∧ wp (e ρ μ) (fun z ν => ν = μ ∧ ∃ d, z = .d d ∧ gd (ds.length < SL) (Q (.nx ρ) (μ.set n (.lst (ds ++ [d]))))) X) X) : wp (sAppC a e ρ μ) Q X := by
  unfold sAppC; rw [wp_bind]
  refine h.monoQ fun x μ h => ?_
  obtain ⟨n, ds, rfl, h1, h⟩ := h
  simp only [h1]
  rw [wp_bind]
  refine h.monoQ fun z ν h => ?_
  obtain ⟨rfl, d, rfl, h2, h⟩ := h
  simp only [h1, if_pos h2]
  exact h
end
def runQ (m : Nat) (Q : R → Mem → Prop) (X : Exn → Mem → Prop) (f : Fl) (μ : Mem) : Prop := match f with
  | .rt r => wp (fin m r μ) Q X
  | .nx _ => wp (fin m (.d .non) μ) Q X
  | _ => False
theorem run_rt {m : Nat} {Q : R → Mem → Prop} {X : Exn → Mem → Prop} {r : R} {μ : Mem} (hl : μ.length = m) (k : Q r μ) : runQ m Q X (.rt r) μ := by
  subst hl
  show wp (fin μ.length r μ) Q X
  rw [fin_same rfl]; exact k
theorem run_nx {m : Nat} {Q : R → Mem → Prop} {X : Exn → Mem → Prop} {ρ : Env} {μ : Mem} (hl : μ.length = m) (k : Q (.d .non) μ) : runQ m Q X (.nx ρ) μ := by
  subst hl
  show wp (fin μ.length (.d .non) μ) Q X
  rw [fin_same rfl]; exact k
theorem run_cut {m : Nat} {Q : R → Mem → Prop} {X : Exn → Mem → Prop} {r : R} {μ ν : Mem} (hl : μ.length = m) (hr : okR m r = true) (hm : μ.all (okCell m) = true) (k : Q r μ) : runQ m Q X (.rt r) (μ ++ ν) := by
  subst hl
  show wp (fin μ.length r (μ ++ ν)) Q X
  unfold fin
  split
  · rename_i hl
    rw [List.length_append] at hl
    obtain rfl : ν = [] := List.length_eq_zero_iff.mp (by omega)
    rw [List.append_nil]
    exact k
  · rw [List.take_left, if_pos (by rw [hm, hr]; rfl)]
    exact k
theorem wp_call {P : String → Option Def} {n : Nat} {f : String} {d : Def} {args : List R} {μ : Mem} {Q : R → Mem → Prop} {X : Exn → Mem → Prop} (h : P f = some d) (hl : args.length = d.np)
    (k : wp (d.body (callN P n) (args.map .v ++ List.replicate (d.nl - args.length) .un) μ) (runQ μ.length Q X) X) : wp (callN P (n + 1) f args μ) Q X := by
  rw [callN_run h hl]
  unfold runB
  rw [wp_bind]
  refine k.monoQ fun f μ h => ?_
  cases f <;> exact h
theorem eqi_ok {a b : Int} : eqR (.d (.int a)) (.d (.int b)) = some (decide (a = b)) := by
  rw [eqR_d, eqD_left (by simp [D.dep]), eqv_int, Bool.beq_eq_decide_eq]
theorem eqs_ok {a b : String} : eqR (.d (.str a)) (.d (.str b)) = some (decide (a = b)) := by
  rw [eqR_d, eqD_left (by simp [D.dep]), eqv_str, Bool.beq_eq_decide_eq]
theorem nei_ok {a b : Int} : neR (.d (.int a)) (.d (.int b)) = some (!decide (a = b)) := by
  show (eqR _ _).map not = _; rw [eqi_ok]; rfl
theorem nes_ok {a b : String} : neR (.d (.str a)) (.d (.str b)) = some (!decide (a = b)) := by
  show (eqR _ _).map not = _; rw [eqs_ok]; rfl
theorem vals0 : valsR [] = some [] := rfl
theorem vals1 {a : D} : valsR [.d a] = some [a] := rfl
theorem vals2 {a b : D} : valsR [.d a, .d b] = some [a, b] := rfl
theorem vals3 {a b c : D} : valsR [.d a, .d b, .d c] = some [a, b, c] := rfl
theorem vals4 {a b c d : D} : valsR [.d a, .d b, .d c, .d d] = some [a, b, c, d] := rfl
theorem vals5 {a b c d e : D} : valsR [.d a, .d b, .d c, .d d, .d e] = some [a, b, c, d, e] := rfl
theorem ll0 {α : Type} : ([] : List α).length ≤ SL := Nat.zero_le _
theorem ll1 {α : Type} {a : α} : [a].length ≤ SL := le_SL_1
theorem ll2 {α : Type} {a b : α} : [a, b].length ≤ SL := le_SL_2
theorem ll3 {α : Type} {a b c : α} : [a, b, c].length ≤ SL := le_SL_3
theorem ll4 {α : Type} {a b c d : α} : [a, b, c, d].length ≤ SL := le_SL_4
theorem ll5 {α : Type} {a b c d e : α} : [a, b, c, d, e].length ≤ SL := le_SL_5
theorem iadd_int {a b : Int} : iaddR (.d (.int a)) (.d (.int b)) = some (.d (.int (a + b))) := rfl
theorem idx_nat {ds : List D} {x : D} {j : Nat} (h : ds[j]? = some x) : idxR (.d (.tup ds)) (.d (.int (j : Int))) = some (.d x) := by rw [idxR_tup, atI_cast, h]; rfl
theorem idxl_nat {ds : List D} {x : D} {j : Nat} (h : ds[j]? = some x) : idxR (.d (.lst ds)) (.d (.int (j : Int))) = some (.d x) := by rw [idxR_lst, atI_cast, h]; rfl
theorem hx_range {n : Nat} (k : Nat) : (rangeF 0 n)[k]? = ((List.range n)[k]?).map fun (i : Nat) => R.d (.int (i : Int)) := by
  rw [show rangeF 0 n = (List.range n).map fun (i : Nat) => R.d (.int (i : Int)) from by rw [rng_map]; simp, List.getElem?_map]
theorem own_ds {ds : List D} : ownR (.d (.lst ds)) = some (.own (ds.map .d)) := rfl
end Ev.W0
end

section
set_option maxHeartbeats 0
set_option linter.all false
set_option maxRecDepth 100000
namespace Ev
@[irreducible] def wp {α : Type} (o : Out α) (Q : α → Mem → Prop) (X : Exn → Mem → Prop) : Prop := W0.wp o Q X
@[irreducible] def wo {α : Type} (o : Option α) (K : α → Prop) : Prop := W0.wo o K
@[irreducible] def gd (p k : Prop) : Prop := W0.gd p k
theorem gd_i {p k : Prop} (h : p) (hk : k) : gd p k := by with_unfolding_all exact W0.gd_i h hk
theorem w_ok {α : Type} {a : α} {μ : Mem} {Q : α → Mem → Prop} {X : Exn → Mem → Prop} (k : Q a μ) : wp (.ok a μ) Q X := by with_unfolding_all exact W0.w_ok k
theorem w_exn {α : Type} {x : Exn} {μ : Mem} {Q : α → Mem → Prop} {X : Exn → Mem → Prop} (k : X x μ) : wp (.exn x μ : Out α) Q X := by with_unfolding_all exact W0.w_exn k
theorem wo_i {α : Type} {o : Option α} {K : α → Prop} {a : α} (h : o = some a) (k : K a) : wo o K := by with_unfolding_all exact W0.wo_i h k
@[irreducible] def wm {α : Type} (o : Option α) (K : α → Prop) : Prop := W0.wm o K
theorem wp_bind {α β : Type} {o : Out α} {k : α → Mem → Out β} {Q : β → Mem → Prop} {X : Exn → Mem → Prop} : wp (o.bind k) Q X ↔ wp o (fun a μ => wp (k a μ) Q X) X := by with_unfolding_all exact W0.wp_bind 
theorem wp.mono {α : Type} {o : Out α} {Q Q' : α → Mem → Prop} {X X' : Exn → Mem → Prop} (h : wp o Q X) (i : ∀ a μ, Q a μ → Q' a μ) (j : ∀ x μ, X x μ → X' x μ) : wp o Q' X' := by with_unfolding_all exact W0.wp.mono h i j
theorem wp.monoQ {α : Type} {o : Out α} {Q Q' : α → Mem → Prop} {X : Exn → Mem → Prop} (h : wp o Q X) (i : ∀ a μ, Q a μ → Q' a μ) : wp o Q' X := by with_unfolding_all exact W0.wp.monoQ h i
theorem wp.ok {α : Type} {o : Out α} {a : α} {μ : Mem} (h : wp o (fun b ν => b = a ∧ ν = μ) fun _ _ => False) : o = .ok a μ := by with_unfolding_all exact W0.wp.ok h
theorem wp_eq {α : Type} {o o' : Out α} {Q : α → Mem → Prop} {X : Exn → Mem → Prop} (h : o = o') (k : wp o' Q X) : wp o Q X := by with_unfolding_all exact W0.wp_eq h k
theorem w_eV {ρ : Env} {μ : Mem} {X : Exn → Mem → Prop} {i : Nat} {r : R} {Q : R → Mem → Prop} (h : ρ[i]? = some (.v r)) (k : Q r μ) : wp (eV i ρ μ) Q X := by with_unfolding_all exact W0.w_eV h k
theorem w_eB {ρ : Env} {μ : Mem} {X : Exn → Mem → Prop} {i : Nat} {rs : List R} {Q : R → Mem → Prop} (h : ρ[i]? = some (.own rs)) (k : Q (mkL rs) μ) : wp (eB i ρ μ) Q X := by with_unfolding_all exact W0.w_eB h k
theorem w_eBd {ρ : Env} {μ : Mem} {X : Exn → Mem → Prop} {i : Nat} {kvs : List (Ky × R)} {Q : R → Mem → Prop} (h : ρ[i]? = some (.odic kvs)) (k : Q (.dic kvs) μ) : wp (eB i ρ μ) Q X := by with_unfolding_all exact W0.w_eBd h k
theorem w_eC {ρ : Env} {μ : Mem} {X : Exn → Mem → Prop} {x : D} {Q : R → Mem → Prop} (k : Q (.d x) μ) : wp (eC x ρ μ) Q X := by with_unfolding_all exact W0.w_eC k
theorem w_nil {ρ : Env} {μ : Mem} {X : Exn → Mem → Prop} {Q : List R → Mem → Prop} (k : Q [] μ) : wp (evs [] ρ μ) Q X := by with_unfolding_all exact W0.w_nil k
theorem w_cons {ρ : Env} {μ : Mem} {X : Exn → Mem → Prop} {e : E} {es : List E} {Q : List R → Mem → Prop} (h : wp (e ρ μ) (fun r μ => wp (evs es ρ μ) (fun rs μ => Q (r :: rs) μ) X) X) : wp (evs (e :: es) ρ μ) Q X := by with_unfolding_all exact W0.w_cons h
theorem w_tup {ρ : Env} {μ : Mem} {X : Exn → Mem → Prop} {es : List E} {Q : R → Mem → Prop} (h : wp (evs es ρ μ) (fun rs μ => wo (valsR rs) fun ds => gd (ds.length ≤ SL) (Q (.d (.tup ds)) μ)) X) : wp (eTup es ρ μ) Q X := by with_unfolding_all exact W0.w_tup h
theorem w_lst {ρ : Env} {μ : Mem} {X : Exn → Mem → Prop} {es : List E} {Q : R → Mem → Prop} (h : wp (evs es ρ μ) (fun rs μ => wo (valsR rs) fun ds => gd (ds.length ≤ SL) (Q (.d (.lst ds)) μ)) X) : wp (eLst es ρ μ) Q X := by with_unfolding_all exact W0.w_lst h
theorem w_op {ρ : Env} {μ : Mem} {X : Exn → Mem → Prop} {f : R → R → Option R} {a b : E} {Q : R → Mem → Prop} (h : wp (a ρ μ) (fun x μ => wp (b ρ μ) (fun y μ => wo (f (vw μ x) (vw μ y)) fun z => Q z μ) X) X) : wp (eOp f a b ρ μ) Q X := by with_unfolding_all exact W0.w_op h
theorem w_opMul {ρ : Env} {μ : Mem} {X : Exn → Mem → Prop} {a b : E} {Q : R → Mem → Prop} (h : wp (a ρ μ) (fun x μ => wp (b ρ μ) (fun y μ => wm (mulR (vw μ x) (vw μ y)) fun z => Q z μ) X) X) : wp (eOp mulR a b ρ μ) Q X := by with_unfolding_all exact W0.w_opMul h
theorem w_opMulL {ρ : Env} {μ : Mem} {X : Exn → Mem → Prop} {a b : E} {Q : R → Mem → Prop} (h : wp (a ρ μ) (fun x μ => wp (b ρ μ) (fun y μ => wm (mulL (vw μ x) (vw μ y)) fun z => Q z μ) X) X) : wp (eOp mulL a b ρ μ) Q X := by with_unfolding_all exact W0.w_opMulL h
theorem w_idx {ρ : Env} {μ : Mem} {X : Exn → Mem → Prop} {a b : E} {Q : R → Mem → Prop} (h : wp (a ρ μ) (fun x μ => wp (b ρ μ) (fun y μ => wo (idxR (vw μ x) (vw μ y)) fun z => Q z μ) X) X) : wp (eIdx a b ρ μ) Q X := by with_unfolding_all exact W0.w_idx h
theorem w_neg {ρ : Env} {μ : Mem} {X : Exn → Mem → Prop} {a : E} {Q : R → Mem → Prop} (h : wp (a ρ μ) (fun x μ => ∃ i, x = .d (.int i) ∧ Q (.d (.int (-i))) μ) X) : wp (eNeg a ρ μ) Q X := by with_unfolding_all exact W0.w_neg h
theorem w_cmp {ρ : Env} {μ : Mem} {X : Exn → Mem → Prop} {f : R → R → Option Bool} {a b : E} {Q : Bool → Mem → Prop} (h : wp (a ρ μ) (fun x μ => wp (b ρ μ) (fun y μ => wo (f (vw μ x) (vw μ y)) fun z => Q z μ) X) X) : wp (tCmp f a b ρ μ) Q X := by with_unfolding_all exact W0.w_cmp h
theorem w_ch {ρ : Env} {μ : Mem} {X : Exn → Mem → Prop} {f g : R → R → Option Bool} {a b c : E} {Q : Bool → Mem → Prop} (h : wp (a ρ μ) (fun x μ => wp (b ρ μ) (fun y μ => wo (f (vw μ x) (vw μ y)) fun k => wp (c ρ μ) (fun z ν => ν = μ ∧ wo (g (vw μ y) (vw μ z)) fun j => Q (k && j) μ) fun _ _ => False) X) X) : wp (tCh f g a b c ρ μ) Q X := by with_unfolding_all exact W0.w_ch h
theorem w_isN {ρ : Env} {μ : Mem} {X : Exn → Mem → Prop} {a : E} {Q : Bool → Mem → Prop} (h : wp (a ρ μ) (fun x μ => Q (isNonR x) μ) X) : wp (tIsN a ρ μ) Q X := by with_unfolding_all exact W0.w_isN h
theorem w_notN {ρ : Env} {μ : Mem} {X : Exn → Mem → Prop} {a : E} {Q : Bool → Mem → Prop} (h : wp (a ρ μ) (fun x μ => Q (!isNonR x) μ) X) : wp (tNotN a ρ μ) Q X := by with_unfolding_all exact W0.w_notN h
theorem w_eT {ρ : Env} {μ : Mem} {X : Exn → Mem → Prop} {t : T} {Q : R → Mem → Prop} (h : wp (t ρ μ) (fun b μ => Q (.d (.bl b)) μ) X) : wp (eT t ρ μ) Q X := by with_unfolding_all exact W0.w_eT h
theorem w_tE {ρ : Env} {μ : Mem} {X : Exn → Mem → Prop} {e : E} {Q : Bool → Mem → Prop} (h : wp (e ρ μ) (fun x μ => wo (truthR (vw μ x)) fun b => Q b μ) X) : wp (tE e ρ μ) Q X := by with_unfolding_all exact W0.w_tE h
@[irreducible] def andQ (b : T) (ρ : Env) (Q : Bool → Mem → Prop) (X : Exn → Mem → Prop) (x : Bool) (μ : Mem) : Prop := W0.andQ b ρ Q X x μ
@[irreducible] def orQ (b : T) (ρ : Env) (Q : Bool → Mem → Prop) (X : Exn → Mem → Prop) (x : Bool) (μ : Mem) : Prop := W0.orQ b ρ Q X x μ
theorem w_and' {ρ : Env} {μ : Mem} {X : Exn → Mem → Prop} {a b : T} {Q : Bool → Mem → Prop} (h : wp (a ρ μ) (andQ b ρ Q X) X) : wp (tAnd a b ρ μ) Q X := by with_unfolding_all exact W0.w_and' h
theorem w_or' {ρ : Env} {μ : Mem} {X : Exn → Mem → Prop} {a b : T} {Q : Bool → Mem → Prop} (h : wp (a ρ μ) (orQ b ρ Q X) X) : wp (tOr a b ρ μ) Q X := by with_unfolding_all exact W0.w_or' h
theorem w_not {ρ : Env} {μ : Mem} {X : Exn → Mem → Prop} {a : T} {Q : Bool → Mem → Prop} (h : wp (a ρ μ) (fun k μ => Q (!k) μ) X) : wp (tNot a ρ μ) Q X := by with_unfolding_all exact W0.w_not h
theorem w_eNot {ρ : Env} {μ : Mem} {X : Exn → Mem → Prop} {a : E} {Q : R → Mem → Prop} (h : wp (a ρ μ) (fun x μ => wo (truthR (vw μ x)) fun b => Q (.d (.bl (!b))) μ) X) : wp (eNot a ρ μ) Q X := by with_unfolding_all exact W0.w_eNot h
@[irreducible] def ifE (a b : E) (ρ : Env) (Q : R → Mem → Prop) (X : Exn → Mem → Prop) (k : Bool) (μ : Mem) : Prop := W0.ifE a b ρ Q X k μ
theorem w_eIf {ρ : Env} {μ : Mem} {X : Exn → Mem → Prop} {c : T} {a b : E} {Q : R → Mem → Prop} (h : wp (c ρ μ) (ifE a b ρ Q X) X) : wp (eIf c a b ρ μ) Q X := by with_unfolding_all exact W0.w_eIf h
theorem andQ_t {ρ : Env} {μ : Mem} {X : Exn → Mem → Prop} {b : T} {Q : Bool → Mem → Prop} {k : Bool} (hk : k = true) (h : wp (b ρ μ) Q X) : andQ b ρ Q X k μ := by with_unfolding_all exact W0.andQ_t hk h
theorem andQ_f {ρ : Env} {μ : Mem} {X : Exn → Mem → Prop} {b : T} {Q : Bool → Mem → Prop} {k : Bool} (hk : k = false) (h : Q false μ) : andQ b ρ Q X k μ := by with_unfolding_all exact W0.andQ_f hk h
theorem orQ_t {ρ : Env} {μ : Mem} {X : Exn → Mem → Prop} {b : T} {Q : Bool → Mem → Prop} {k : Bool} (hk : k = true) (h : Q true μ) : orQ b ρ Q X k μ := by with_unfolding_all exact W0.orQ_t hk h
theorem orQ_f {ρ : Env} {μ : Mem} {X : Exn → Mem → Prop} {b : T} {Q : Bool → Mem → Prop} {k : Bool} (hk : k = false) (h : wp (b ρ μ) Q X) : orQ b ρ Q X k μ := by with_unfolding_all exact W0.orQ_f hk h
@[irreducible] def eAndQ (b : E) (ρ : Env) (Q : R → Mem → Prop) (X : Exn → Mem → Prop) (r : R) (μ : Mem) : Prop := W0.eAndQ b ρ Q X r μ
@[irreducible] def eOrQ (b : E) (ρ : Env) (Q : R → Mem → Prop) (X : Exn → Mem → Prop) (r : R) (μ : Mem) : Prop := W0.eOrQ b ρ Q X r μ
theorem w_eAnd {ρ : Env} {μ : Mem} {X : Exn → Mem → Prop} {a b : E} {Q : R → Mem → Prop} (h : wp (a ρ μ) (eAndQ b ρ Q X) X) : wp (eAnd a b ρ μ) Q X := by with_unfolding_all exact W0.w_eAnd h
theorem w_eOr {ρ : Env} {μ : Mem} {X : Exn → Mem → Prop} {a b : E} {Q : R → Mem → Prop} (h : wp (a ρ μ) (eOrQ b ρ Q X) X) : wp (eOr a b ρ μ) Q X := by with_unfolding_all exact W0.w_eOr h
theorem w_oN {ρ : Env} {μ : Mem} {X : Exn → Mem → Prop} {Q : Option Int → Mem → Prop} (k : Q none μ) : wp (oN ρ μ) Q X := by with_unfolding_all exact W0.w_oN k
theorem w_oE {ρ : Env} {μ : Mem} {X : Exn → Mem → Prop} {e : E} {Q : Option Int → Mem → Prop} (h : wp (e ρ μ) (fun x μ => ∃ i, x = .d (.int i) ∧ Q (some i) μ) X) : wp (oE e ρ μ) Q X := by with_unfolding_all exact W0.w_oE h
theorem w_slc {ρ : Env} {μ : Mem} {X : Exn → Mem → Prop} {a : E} {lo hi : O} {Q : R → Mem → Prop} (h : wp (a ρ μ) (fun x μ => wp (lo ρ μ) (fun l μ => wp (hi ρ μ) (fun h μ => wo (slcR (vw μ x) l h) fun z => Q z μ) X) X) X) : wp (eSlc a lo hi ρ μ) Q X := by with_unfolding_all exact W0.w_slc h
theorem w_call {ρ : Env} {μ : Mem} {X : Exn → Mem → Prop} {C : Fn} {f : String} {es : List E} {Q : R → Mem → Prop} (h : wp (evs es ρ μ) (fun rs μ => wp (C f rs μ) Q X) X) : wp (eCall C f es ρ μ) Q X := by with_unfolding_all exact W0.w_call h
theorem w_bi {ρ : Env} {μ : Mem} {X : Exn → Mem → Prop} {f : List R → Option R} {es : List E} {Q : R → Mem → Prop} (h : wp (evs es ρ μ) (fun rs μ => wo (f (rs.map (vw μ))) fun z => Q z μ) X) : wp (eBi f es ρ μ) Q X := by with_unfolding_all exact W0.w_bi h
theorem w_fld {ρ : Env} {μ : Mem} {X : Exn → Mem → Prop} {c f : String} {o : E} {Q : R → Mem → Prop} (h : wp (o ρ μ) (fun x μ => wo ((insOf μ c x).bind fun fs => fs.lookup f) fun z => Q z μ) X) : wp (eFld c o f ρ μ) Q X := by with_unfolding_all exact W0.w_fld h
theorem w_meth {ρ : Env} {μ : Mem} {X : Exn → Mem → Prop} {C : Fn} {c m q : String} {o : E} {es : List E} {Q : R → Mem → Prop} (h : wp (o ρ μ) (fun x μ => wo (insOf μ c x) fun fs => gd ((fs.lookup m).isNone = true) (wp (evs es ρ μ) (fun rs μ => wp (C q (x :: rs) μ) Q X) X)) X) : wp (eMeth C c m q o es ρ μ) Q X := by with_unfolding_all exact W0.w_meth h
theorem w_new {ρ : Env} {μ : Mem} {X : Exn → Mem → Prop} {C : Fn} {c q : String} {es : List E} {Q : R → Mem → Prop} (h : wp (evs es ρ μ) (fun rs μ => wp (C q (.p μ.length :: rs) (μ ++ [.ins c []])) (fun r μ' => r = .d .non ∧ Q (.p μ.length) μ') X) X) : wp (eNew C c q es ρ μ) Q X := by with_unfolding_all exact W0.w_new h
theorem w_mk {ρ : Env} {μ : Mem} {X : Exn → Mem → Prop} {f : E} {Q : R → Mem → Prop} (h : wp (f ρ μ) (fun r μ => ∃ ds, r = .d (.lst ds) ∧ Q (.p μ.length) (μ ++ [.lst ds])) X) : wp (eMk f ρ μ) Q X := by with_unfolding_all exact W0.w_mk h
theorem w_iE {ρ : Env} {μ : Mem} {X : Exn → Mem → Prop} {e : E} {Q : List R → Mem → Prop} (h : wp (e ρ μ) (fun x μ => wo (itemsR x) fun xs => Q xs μ) X) : wp (iE e ρ μ) Q X := by with_unfolding_all exact W0.w_iE h
abbrev enumR := W0.enumR
theorem w_iEnum {ρ : Env} {μ : Mem} {X : Exn → Mem → Prop} {e : E} {Q : List R → Mem → Prop} (h : wp (e ρ μ) (fun x μ => wo (enumR x) fun xs => Q xs μ) X) : wp (iEnum e ρ μ) Q X := by with_unfolding_all exact W0.w_iEnum h
theorem w_iRange1 {ρ : Env} {μ : Mem} {X : Exn → Mem → Prop} {e : E} {Q : List R → Mem → Prop} (h : wp (e ρ μ) (fun x μ => ∃ n : Nat, x = .d (.int (n : Int)) ∧ gd (n ≤ 1000000) (Q (rangeF 0 n) μ)) X) : wp (iRange1 e ρ μ) Q X := by with_unfolding_all exact W0.w_iRange1 h
theorem w_iRange2 {ρ : Env} {μ : Mem} {X : Exn → Mem → Prop} {a b : E} {Q : List R → Mem → Prop} (h : wp (a ρ μ) (fun x μ => wp (b ρ μ) (fun y μ => ∃ lo hi : Int, x = .d (.int lo) ∧ y = .d (.int hi) ∧ gd (inRange62 lo = true ∧ inRange62 hi = true) (Q (rangeF lo (hi - lo).toNat) μ)) X) X) : wp (iRange2 a b ρ μ) Q X := by with_unfolding_all exact W0.w_iRange2 h
abbrev zipR := W0.zipR
theorem w_iZip {ρ : Env} {μ : Mem} {X : Exn → Mem → Prop} {a b : E} {Q : List R → Mem → Prop} (h : wp (a ρ μ) (fun x μ => wp (b ρ μ) (fun y μ => wo (zipR x y) fun xs => Q xs μ) X) X) : wp (iZip a b ρ μ) Q X := by with_unfolding_all exact W0.w_iZip h
theorem w_comp {ρ : Env} {μ : Mem} {X : Exn → Mem → Prop} {own : List Nat} {t : Tg} {it : It} {c : T} {e : E} {Q : R → Mem → Prop} (h : wp (it ρ μ) (fun xs μ => wp (compL t c e xs (wipeE ρ own) μ) (fun ys μ => gd (ys.length ≤ SL) (Q (mkL ys) μ)) fun _ _ => False) X) : wp (eComp own t it c e ρ μ) Q X := by with_unfolding_all exact W0.w_comp h
theorem w_comp2 {ρ : Env} {μ : Mem} {X : Exn → Mem → Prop} {own own1 : List Nat} {t t1 : Tg} {it it1 : It} {c c1 : T} {e : E} {Q : R → Mem → Prop} (h : wp (it ρ μ) (fun xs μ => wp (compL2 t c own1 t1 it1 c1 e xs (wipeE ρ own) μ) (fun ys μ => gd (ys.length ≤ SL) (Q (mkL ys) μ)) fun _ _ => False) X) : wp (eComp2 own t it c own1 t1 it1 c1 e ρ μ) Q X := by with_unfolding_all exact W0.w_comp2 h
theorem w_yes {ρ : Env} {μ : Mem} {X : Exn → Mem → Prop} {Q : Bool → Mem → Prop} (k : Q true μ) : wp (tYes ρ μ) Q X := by with_unfolding_all exact W0.w_yes k
theorem w_compMap {ρ : Env} {μ : Mem} {α : Type} {t : Tg} {e : E} {xs : List R} {Q : List R → Mem → Prop} {Y : Exn → Mem → Prop} (l : List α) (enc out : α → R) (hx : xs = l.map enc)
    (step : ∀ x ∈ l, wo (t (enc x) ρ) fun ρ1 => wp (e ρ1 μ) (fun r ν => r = out x ∧ ν = μ) fun _ _ => False) (done : Q (l.map out) μ) : wp (compL t tYes e xs ρ μ) Q Y := by with_unfolding_all exact W0.w_compMap l enc out hx step done
theorem w_all {ρ : Env} {μ : Mem} {X : Exn → Mem → Prop} {k : Bool} {own : List Nat} {t : Tg} {it : It} {e : E} {Q : R → Mem → Prop} (h : wp (it ρ μ) (fun xs μ => wp (allL k t e xs (wipeE ρ own) μ) (fun b μ => Q (.d (.bl b)) μ) fun _ _ => False) X) : wp (eAll k own t it e ρ μ) Q X := by with_unfolding_all exact W0.w_all h
theorem tg1 {ρ : Env} {i : Nat} {r : R} : tgN i r ρ = some (ρ.set i (.v r)) := W0.tg1 
theorem tg2 {ρ : Env} {i j : Nat} {a b : D} : tgT [tgN i, tgN j] (.d (.tup [a, b])) ρ = some ((ρ.set i (.v (.d a))).set j (.v (.d b))) := W0.tg2 
theorem tg3 {ρ : Env} {i j k : Nat} {a b c : D} : tgT [tgN i, tgN j, tgN k] (.d (.tup [a, b, c])) ρ = some (((ρ.set i (.v (.d a))).set j (.v (.d b))).set k (.v (.d c))) := W0.tg3 
theorem tg4 {ρ : Env} {i j k l : Nat} {a b c d : D} : tgT [tgN i, tgN j, tgN k, tgN l] (.d (.tup [a, b, c, d])) ρ = some ((((ρ.set i (.v (.d a))).set j (.v (.d b))).set k (.v (.d c))).set l (.v (.d d))) := W0.tg4 
theorem tg12 {ρ : Env} {i j k : Nat} {a b c : D} : tgT [tgN i, tgT [tgN j, tgN k]] (.d (.tup [a, .tup [b, c]])) ρ = some (((ρ.set i (.v (.d a))).set j (.v (.d b))).set k (.v (.d c))) := W0.tg12 
theorem tg2l {ρ : Env} {i j : Nat} {a b : D} : tgT [tgN i, tgN j] (.d (.lst [a, b])) ρ = some ((ρ.set i (.v (.d a))).set j (.v (.d b))) := W0.tg2l 
theorem tg3l {ρ : Env} {i j k : Nat} {a b c : D} : tgT [tgN i, tgN j, tgN k] (.d (.lst [a, b, c])) ρ = some (((ρ.set i (.v (.d a))).set j (.v (.d b))).set k (.v (.d c))) := W0.tg3l 
theorem tg4l {ρ : Env} {i j k l : Nat} {a b c d : D} : tgT [tgN i, tgN j, tgN k, tgN l] (.d (.lst [a, b, c, d])) ρ = some ((((ρ.set i (.v (.d a))).set j (.v (.d b))).set k (.v (.d c))).set l (.v (.d d))) := W0.tg4l 
@[irreducible] def seqQ (b : S) (Q : Fl → Mem → Prop) (X : Exn → Mem → Prop) (f : Fl) (μ : Mem) : Prop := W0.seqQ b Q X f μ
theorem seq_nx {ρ : Env} {μ : Mem} {X : Exn → Mem → Prop} {b : S} {Q : Fl → Mem → Prop} (k : wp (b ρ μ) Q X) : seqQ b Q X (.nx ρ) μ := by with_unfolding_all exact W0.seq_nx k
theorem seq_rt {μ : Mem} {X : Exn → Mem → Prop} {b : S} {Q : Fl → Mem → Prop} {r : R} (k : Q (.rt r) μ) : seqQ b Q X (.rt r) μ := by with_unfolding_all exact W0.seq_rt k
theorem seq_bk {ρ : Env} {μ : Mem} {X : Exn → Mem → Prop} {b : S} {Q : Fl → Mem → Prop} (k : Q (.bk ρ) μ) : seqQ b Q X (.bk ρ) μ := by with_unfolding_all exact W0.seq_bk k
theorem seq_ct {ρ : Env} {μ : Mem} {X : Exn → Mem → Prop} {b : S} {Q : Fl → Mem → Prop} (k : Q (.ct ρ) μ) : seqQ b Q X (.ct ρ) μ := by with_unfolding_all exact W0.seq_ct k
theorem w_sq {ρ : Env} {μ : Mem} {X : Exn → Mem → Prop} {a b : S} {Q : Fl → Mem → Prop} (h : wp (a ρ μ) (seqQ b Q X) X) : wp (sq a b ρ μ) Q X := by with_unfolding_all exact W0.w_sq h
theorem w_sNil {ρ : Env} {μ : Mem} {X : Exn → Mem → Prop} {Q : Fl → Mem → Prop} (k : Q (.nx ρ) μ) : wp (sNil ρ μ) Q X := by with_unfolding_all exact W0.w_sNil k
theorem w_sX {ρ : Env} {μ : Mem} {X : Exn → Mem → Prop} {e : E} {Q : Fl → Mem → Prop} (h : wp (e ρ μ) (fun _ μ => Q (.nx ρ) μ) X) : wp (sX e ρ μ) Q X := by with_unfolding_all exact W0.w_sX h
theorem w_sAs {ρ : Env} {μ : Mem} {X : Exn → Mem → Prop} {i : Nat} {e : E} {Q : Fl → Mem → Prop} (h : wp (e ρ μ) (fun r μ => Q (.nx (ρ.set i (.v r))) μ) X) : wp (sAs (tgN i) e ρ μ) Q X := by with_unfolding_all exact W0.w_sAs h
theorem w_sAsT {ρ : Env} {μ : Mem} {X : Exn → Mem → Prop} {t : Tg} {e : E} {Q : Fl → Mem → Prop} (h : wp (e ρ μ) (fun r μ => wo (t r ρ) fun ρ => Q (.nx ρ) μ) X) : wp (sAs t e ρ μ) Q X := by with_unfolding_all exact W0.w_sAsT h
theorem w_sAug {ρ : Env} {μ : Mem} {X : Exn → Mem → Prop} {i : Nat} {f : R → R → Option R} {e : E} {x : R} {Q : Fl → Mem → Prop} (hx : ρ[i]? = some (.v x)) (h : wp (e ρ μ) (fun y μ => wo (f x y) fun z => Q (.nx (ρ.set i (.v z))) μ) X) : wp (sAug i f e ρ μ) Q X := by with_unfolding_all exact W0.w_sAug hx h
theorem w_sPar {ρ : Env} {μ : Mem} {X : Exn → Mem → Prop} {i j : Nat} {a b : E} {Q : Fl → Mem → Prop} (h : wp (a ρ μ) (fun x μ => wp (b ρ μ) (fun y μ => Q (.nx ((ρ.set i (.v x)).set j (.v y))) μ) X) X) : wp (sPar i j a b ρ μ) Q X := by with_unfolding_all exact W0.w_sPar h
abbrev ownR := W0.ownR
theorem w_sOwn {ρ : Env} {μ : Mem} {X : Exn → Mem → Prop} {i : Nat} {e : E} {Q : Fl → Mem → Prop} (h : wp (e ρ μ) (fun r μ => wo (ownR r) fun s => Q (.nx (ρ.set i s)) μ) X) : wp (sOwn i e ρ μ) Q X := by with_unfolding_all exact W0.w_sOwn h
theorem w_sCell {ρ : Env} {μ : Mem} {X : Exn → Mem → Prop} {i : Nat} {e : E} {Q : Fl → Mem → Prop} (h : wp (e ρ μ) (fun r μ => ∃ ds, r = .d (.lst ds) ∧ Q (.nx (ρ.set i (.v (.p μ.length)))) (μ ++ [.lst ds])) X) : wp (sCell i e ρ μ) Q X := by with_unfolding_all exact W0.w_sCell h
theorem w_sFrz {ρ : Env} {μ : Mem} {X : Exn → Mem → Prop} {i : Nat} {rs : List R} {Q : Fl → Mem → Prop} (hx : ρ[i]? = some (.own rs)) (k : Q (.nx (ρ.set i (.v (mkL rs)))) μ) : wp (sFrz i ρ μ) Q X := by with_unfolding_all exact W0.w_sFrz hx k
theorem w_sFrzD {ρ : Env} {μ : Mem} {X : Exn → Mem → Prop} {i : Nat} {kvs : List (Ky × R)} {Q : Fl → Mem → Prop} (hx : ρ[i]? = some (.odic kvs)) (k : Q (.nx (ρ.set i (.v (.dic kvs)))) μ) : wp (sFrz i ρ μ) Q X := by with_unfolding_all exact W0.w_sFrzD hx k
theorem w_sApp {ρ : Env} {μ : Mem} {X : Exn → Mem → Prop} {i : Nat} {e : E} {xs : List R} {Q : Fl → Mem → Prop} (hx : ρ[i]? = some (.own xs)) (h : wp (e ρ μ) (fun r μ => gd (xs.length < SL) (Q (.nx (ρ.set i (.own (xs ++ [r])))) μ)) X) : wp (sApp i e ρ μ) Q X := by with_unfolding_all exact W0.w_sApp hx h
theorem w_sExt {ρ : Env} {μ : Mem} {X : Exn → Mem → Prop} {i : Nat} {e : E} {xs : List R} {Q : Fl → Mem → Prop} (hx : ρ[i]? = some (.own xs)) (h : wp (e ρ μ) (fun r μ => wo (extR (vw μ r)) fun ys => gd (xs.length + ys.length ≤ SL) (Q (.nx (ρ.set i (.own (xs ++ ys)))) μ)) X) : wp (sExt i e ρ μ) Q X := by with_unfolding_all exact W0.w_sExt hx h
theorem w_sRev {ρ : Env} {μ : Mem} {X : Exn → Mem → Prop} {i : Nat} {xs : List R} {Q : Fl → Mem → Prop} (hx : ρ[i]? = some (.own xs)) (k : Q (.nx (ρ.set i (.own xs.reverse))) μ) : wp (sRev i ρ μ) Q X := by with_unfolding_all exact W0.w_sRev hx k
theorem w_sSetI {ρ : Env} {μ : Mem} {X : Exn → Mem → Prop} {a : Nat} {i e : E} {rs : List R} {Q : Fl → Mem → Prop} (hx : ρ[a]? = some (.own rs)) (h : wp (e ρ μ) (fun z μ => wp (i ρ μ) (fun k μ => ∃ j : Nat, k = .d (.int (j : Int)) ∧ gd (j < rs.length) (Q (.nx (ρ.set a (.own (rs.set j z)))) μ)) X) X) : wp (sSetI a i e ρ μ) Q X := by with_unfolding_all exact W0.w_sSetI hx h
theorem w_sSetD {ρ : Env} {μ : Mem} {X : Exn → Mem → Prop} {a : Nat} {i e : E} {kvs : List (Ky × R)} {Q : Fl → Mem → Prop} (hx : ρ[a]? = some (.odic kvs)) (h : wp (e ρ μ) (fun z μ => wp (i ρ μ) (fun k μ => ∃ d, k = .d d ∧ wo (keyOf d) fun k => gd (kvs.length < SL) (Q (.nx (ρ.set a (.odic (putK kvs k z)))) μ)) X) X) : wp (sSetD a i e ρ μ) Q X := by with_unfolding_all exact W0.w_sSetD hx h
theorem w_sAugI {ρ : Env} {μ : Mem} {X : Exn → Mem → Prop} {a : Nat} {i e : E} {xs : List R} {Q : Fl → Mem → Prop} (hx : ρ[a]? = some (.own xs)) (h : wp (i ρ μ) (fun k μ => ∃ (j : Nat) (x : Int), k = .d (.int (j : Int)) ∧ xs[j]? = some (.d (.int x)) ∧ wp (e ρ μ) (fun z μ => ∃ y, z = .d (.int y) ∧ Q (.nx (ρ.set a (.own (xs.set j (.d (.int (x + y))))))) μ) X) X) : wp (sAugI a i e ρ μ) Q X := by with_unfolding_all exact W0.w_sAugI hx h
theorem w_sRet {ρ : Env} {μ : Mem} {X : Exn → Mem → Prop} {e : E} {Q : Fl → Mem → Prop} (h : wp (e ρ μ) (fun r μ => Q (.rt r) μ) X) : wp (sRet e ρ μ) Q X := by with_unfolding_all exact W0.w_sRet h
theorem w_sRetN {ρ : Env} {μ : Mem} {X : Exn → Mem → Prop} {Q : Fl → Mem → Prop} (k : Q (.rt (.d .non)) μ) : wp (sRetN ρ μ) Q X := by with_unfolding_all exact W0.w_sRetN k
@[irreducible] def ifQ (a b : S) (ρ : Env) (Q : Fl → Mem → Prop) (X : Exn → Mem → Prop) (k : Bool) (μ : Mem) : Prop := W0.ifQ a b ρ Q X k μ
theorem w_sIf {ρ : Env} {μ : Mem} {X : Exn → Mem → Prop} {c : T} {a b : S} {Q : Fl → Mem → Prop} (h : wp (c ρ μ) (ifQ a b ρ Q X) X) : wp (sIf c a b ρ μ) Q X := by with_unfolding_all exact W0.w_sIf h
theorem ifQ_t {ρ : Env} {μ : Mem} {X : Exn → Mem → Prop} {a b : S} {Q : Fl → Mem → Prop} {k : Bool} (hk : k = true) (h : wp (a ρ μ) Q X) : ifQ a b ρ Q X k μ := by with_unfolding_all exact W0.ifQ_t hk h
theorem ifQ_f {ρ : Env} {μ : Mem} {X : Exn → Mem → Prop} {a b : S} {Q : Fl → Mem → Prop} {k : Bool} (hk : k = false) (h : wp (b ρ μ) Q X) : ifQ a b ρ Q X k μ := by with_unfolding_all exact W0.ifQ_f hk h
theorem w_sBrk {ρ : Env} {μ : Mem} {X : Exn → Mem → Prop} {Q : Fl → Mem → Prop} (k : Q (.bk ρ) μ) : wp (sBrk ρ μ) Q X := by with_unfolding_all exact W0.w_sBrk k
theorem w_sCnt {ρ : Env} {μ : Mem} {X : Exn → Mem → Prop} {Q : Fl → Mem → Prop} (k : Q (.ct ρ) μ) : wp (sCnt ρ μ) Q X := by with_unfolding_all exact W0.w_sCnt k
theorem w_sFor {ρ : Env} {μ : Mem} {X : Exn → Mem → Prop} {t : Tg} {it : It} {b : S} {Q : Fl → Mem → Prop} (h : wp (it ρ μ) (fun xs μ => wp (forL t b xs ρ μ) Q X) X) : wp (sFor t it b ρ μ) Q X := by with_unfolding_all exact W0.w_sFor h
@[irreducible] def loopQ (N : Env → Mem → Prop) (Q : Fl → Mem → Prop) (f : Fl) (μ : Mem) : Prop := W0.loopQ N Q f μ
theorem loop_nx {ρ : Env} {μ : Mem} {N : Env → Mem → Prop} {Q : Fl → Mem → Prop} (k : N ρ μ) : loopQ N Q (.nx ρ) μ := by with_unfolding_all exact W0.loop_nx k
theorem loop_ct {ρ : Env} {μ : Mem} {N : Env → Mem → Prop} {Q : Fl → Mem → Prop} (k : N ρ μ) : loopQ N Q (.ct ρ) μ := by with_unfolding_all exact W0.loop_ct k
theorem loop_bk {ρ : Env} {μ : Mem} {N : Env → Mem → Prop} {Q : Fl → Mem → Prop} (k : Q (.nx ρ) μ) : loopQ N Q (.bk ρ) μ := by with_unfolding_all exact W0.loop_bk k
theorem loop_rt {μ : Mem} {N : Env → Mem → Prop} {Q : Fl → Mem → Prop} {r : R} (k : Q (.rt r) μ) : loopQ N Q (.rt r) μ := by with_unfolding_all exact W0.loop_rt k
theorem w_forL {ρ : Env} {μ : Mem} {X : Exn → Mem → Prop} {α : Type} {t : Tg} {b : S} {xs : List R} {Q : Fl → Mem → Prop} (l : List α) (enc : α → R) (I : Nat → List α → Env → Mem → Prop) (hx : xs = l.map enc) (init : I 0 l ρ μ)
    (step : ∀ (k : Nat) (x : α) (rest : List α) (ρ : Env) (μ : Mem), l[k]? = some x → l.drop (k + 1) = rest → I k (x :: rest) ρ μ → wo (t (enc x) ρ) fun ρ1 => wp (b ρ1 μ) (loopQ (I (k + 1) rest) Q) X)
    (done : ∀ ρ μ, I l.length [] ρ μ → Q (.nx ρ) μ) : wp (forL t b xs ρ μ) Q X := by with_unfolding_all exact W0.w_forL l enc I hx init step done
theorem w_forK {ρ : Env} {μ : Mem} {X : Exn → Mem → Prop} {α : Type} {t : Tg} {b : S} {xs : List R} {Q : Fl → Mem → Prop} (l : List α) (enc : Nat → α → R) (I : Nat → List α → Env → Mem → Prop) (hx : ∀ k, xs[k]? = (l[k]?).map (enc k)) (init : I 0 l ρ μ)
    (step : ∀ (k : Nat) (x : α) (rest : List α) (ρ : Env) (μ : Mem), l[k]? = some x → l.drop (k + 1) = rest → I k (x :: rest) ρ μ → wo (t (enc k x) ρ) fun ρ1 => wp (b ρ1 μ) (loopQ (I (k + 1) rest) Q) X)
    (done : ∀ ρ μ, I l.length [] ρ μ → Q (.nx ρ) μ) : wp (forL t b xs ρ μ) Q X := by with_unfolding_all exact W0.w_forK l enc I hx init step done
theorem w_while {ρ : Env} {μ : Mem} {X : Exn → Mem → Prop} {W : Nat} {c : T} {b : S} {Q : Fl → Mem → Prop} (I : Nat → Env → Mem → Prop) (m : Nat) (hm : m < W) (init : I m ρ μ)
    (step : ∀ m ρ μ, I m ρ μ → wp (c ρ μ) (fun k μ => if k = true then 0 < m ∧ wp (b ρ μ) (loopQ (fun ρ μ => ∃ m', m' < m ∧ I m' ρ μ) Q) X else Q (.nx ρ) μ) X) : wp (sWhile W c b ρ μ) Q X := by with_unfolding_all exact W0.w_while I m hm init step
theorem w_raise {ρ : Env} {μ : Mem} {X : Exn → Mem → Prop} {c : String} {Q : Fl → Mem → Prop} (k : X ⟨c, []⟩ μ) : wp (sRaise c ρ μ) Q X := by with_unfolding_all exact W0.w_raise k
theorem w_dn {ρ : Env} {μ : Mem} {X : Exn → Mem → Prop} {Q : R → Mem → Prop} (k : Q (.p μ.length) (μ ++ [.dn []])) : wp (eDn ρ μ) Q X := by with_unfolding_all exact W0.w_dn k
theorem w_inN {ρ : Env} {μ : Mem} {X : Exn → Mem → Prop} {neg : Bool} {k d : E} {Q : Bool → Mem → Prop} (h : wp (k ρ μ) (fun x μ => wp (d ρ μ) (fun y μ => wo (inN neg x y μ) fun b => Q b μ) X) X) : wp (tInN neg k d ρ μ) Q X := by with_unfolding_all exact W0.w_inN h
theorem w_getN {ρ : Env} {μ : Mem} {X : Exn → Mem → Prop} {d k : E} {Q : R → Mem → Prop} (h : wp (d ρ μ) (fun y μ => wp (k ρ μ) (fun x μ => wo (getN y x μ) fun z => Q z μ) X) X) : wp (eGetN d k ρ μ) Q X := by with_unfolding_all exact W0.w_getN h
theorem w_putN {ρ : Env} {μ : Mem} {X : Exn → Mem → Prop} {d k e : E} {Q : Fl → Mem → Prop} (h : wp (e ρ μ) (fun z μ => wp (d ρ μ) (fun y μ => wp (k ρ μ) (fun x μ => ∃ x' n z' kvs, x = .d x' ∧ y = .p n ∧ z = .d z' ∧ μ[n]? = some (.dn kvs) ∧ gd (keyN x' = true ∧ kvs.length < SL) (Q (.nx ρ) (μ.set n (.dn (putN kvs x' z'))))) X) X) X) : wp (sPutN d k e ρ μ) Q X := by with_unfolding_all exact W0.w_putN h
theorem w_iRev1 {ρ : Env} {μ : Mem} {X : Exn → Mem → Prop} {a : E} {Q : List R → Mem → Prop} (h : wp (a ρ μ) (fun x μ => ∃ n, x = .d (.int n) ∧ gd (inRange62 n = true) (Q (rangeF 0 n.toNat).reverse μ)) X) : wp (iRev1 a ρ μ) Q X := by with_unfolding_all exact W0.w_iRev1 h
theorem w_sFld {ρ : Env} {μ : Mem} {X : Exn → Mem → Prop} {c f : String} {o e : E} {Q : Fl → Mem → Prop} (h : wp (e ρ μ) (fun z μ => wp (o ρ μ) (fun x μ => ∃ n fs, x = .p n ∧ μ[n]? = some (.ins c fs) ∧ gd (fs.length < 1000) (Q (.nx ρ) (μ.set n (.ins c (putA f z fs))))) X) X) : wp (sFld c o f e ρ μ) Q X := by with_unfolding_all exact W0.w_sFld h
theorem w_sFldAug {ρ : Env} {μ : Mem} {X : Exn → Mem → Prop} {c f : String} {op : R → R → Option R} {o e : E} {Q : Fl → Mem → Prop} (h : wp (o ρ μ) (fun x μ => ∃ n fs v, x = .p n ∧ μ[n]? = some (.ins c fs) ∧ fs.lookup f = some v ∧ wp (e ρ μ) (fun y ν => ν = μ ∧ wo (op v y) fun z => gd (fs.length < 1000) (Q (.nx ρ) (μ.set n (.ins c (putA f z fs))))) X) X) : wp (sFldAug c o f op e ρ μ) Q X := by with_unfolding_all exact W0.w_sFldAug h
theorem w_sAppC {ρ : Env} {μ : Mem} {X : Exn → Mem → Prop} {a e : E} {Q : Fl → Mem → Prop} (h : wp (a ρ μ) (fun x μ => ∃ n ds, x = .p n ∧ μ[n]? = some (.lst ds) ∧ wp (e ρ μ) (fun z ν => ν = μ ∧ ∃ d, z = .d d ∧ gd (ds.length < SL) (Q (.nx ρ) (μ.set n (.lst (ds ++ [d]))))) X) X) : wp (sAppC a e ρ μ) Q X := by with_unfolding_all exact W0.w_sAppC h
@[irreducible] def runQ (m : Nat) (Q : R → Mem → Prop) (X : Exn → Mem → Prop) (f : Fl) (μ : Mem) : Prop := W0.runQ m Q X f μ
theorem run_rt {m : Nat} {Q : R → Mem → Prop} {X : Exn → Mem → Prop} {r : R} {μ : Mem} (hl : μ.length = m) (k : Q r μ) : runQ m Q X (.rt r) μ := by with_unfolding_all exact W0.run_rt hl k
theorem run_nx {m : Nat} {Q : R → Mem → Prop} {X : Exn → Mem → Prop} {ρ : Env} {μ : Mem} (hl : μ.length = m) (k : Q (.d .non) μ) : runQ m Q X (.nx ρ) μ := by with_unfolding_all exact W0.run_nx hl k
theorem run_cut {m : Nat} {Q : R → Mem → Prop} {X : Exn → Mem → Prop} {r : R} {μ ν : Mem} (hl : μ.length = m) (hr : okR m r = true) (hm : μ.all (okCell m) = true) (k : Q r μ) : runQ m Q X (.rt r) (μ ++ ν) := by with_unfolding_all exact W0.run_cut hl hr hm k
theorem wp_call {P : String → Option Def} {n : Nat} {f : String} {d : Def} {args : List R} {μ : Mem} {Q : R → Mem → Prop} {X : Exn → Mem → Prop} (h : P f = some d) (hl : args.length = d.np)
    (k : wp (d.body (callN P n) (args.map .v ++ List.replicate (d.nl - args.length) .un) μ) (runQ μ.length Q X) X) : wp (callN P (n + 1) f args μ) Q X := by with_unfolding_all exact W0.wp_call h hl k
theorem eqi_ok {a b : Int} : eqR (.d (.int a)) (.d (.int b)) = some (decide (a = b)) := W0.eqi_ok 
theorem eqs_ok {a b : String} : eqR (.d (.str a)) (.d (.str b)) = some (decide (a = b)) := W0.eqs_ok 
theorem nei_ok {a b : Int} : neR (.d (.int a)) (.d (.int b)) = some (!decide (a = b)) := W0.nei_ok 
theorem nes_ok {a b : String} : neR (.d (.str a)) (.d (.str b)) = some (!decide (a = b)) := W0.nes_ok 
theorem vals0  : valsR [] = some [] := W0.vals0 
theorem vals1 {a : D} : valsR [.d a] = some [a] := W0.vals1 
theorem vals2 {a b : D} : valsR [.d a, .d b] = some [a, b] := W0.vals2 
theorem vals3 {a b c : D} : valsR [.d a, .d b, .d c] = some [a, b, c] := W0.vals3 
theorem vals4 {a b c d : D} : valsR [.d a, .d b, .d c, .d d] = some [a, b, c, d] := W0.vals4 
theorem vals5 {a b c d e : D} : valsR [.d a, .d b, .d c, .d d, .d e] = some [a, b, c, d, e] := W0.vals5 
theorem ll0 {α : Type} : ([] : List α).length ≤ SL := W0.ll0 
theorem ll1 {α : Type} {a : α} : [a].length ≤ SL := W0.ll1 
theorem ll2 {α : Type} {a b : α} : [a, b].length ≤ SL := W0.ll2 
theorem ll3 {α : Type} {a b c : α} : [a, b, c].length ≤ SL := W0.ll3 
theorem ll4 {α : Type} {a b c d : α} : [a, b, c, d].length ≤ SL := W0.ll4 
theorem ll5 {α : Type} {a b c d e : α} : [a, b, c, d, e].length ≤ SL := W0.ll5 
theorem iadd_int {a b : Int} : iaddR (.d (.int a)) (.d (.int b)) = some (.d (.int (a + b))) := W0.iadd_int 
theorem idx_nat {ds : List D} {x : D} {j : Nat} (h : ds[j]? = some x) : idxR (.d (.tup ds)) (.d (.int (j : Int))) = some (.d x) := W0.idx_nat h
theorem idxl_nat {ds : List D} {x : D} {j : Nat} (h : ds[j]? = some x) : idxR (.d (.lst ds)) (.d (.int (j : Int))) = some (.d x) := W0.idxl_nat h
theorem hx_range {n : Nat} (k : Nat) : (rangeF 0 n)[k]? = ((List.range n)[k]?).map fun (i : Nat) => R.d (.int (i : Int)) := W0.hx_range k
theorem own_ds {ds : List D} : ownR (.d (.lst ds)) = some (.own (ds.map .d)) := W0.own_ds 
end Ev
end

section
set_option maxHeartbeats 0
set_option linter.all false
set_option maxRecDepth 100000
namespace Ev
theorem W0.run_nxk {m : Nat} {Q : R → Mem → Prop} {X : Exn → Mem → Prop} {ρ : Env} {μ : Mem} (h : (μ.take m).all (okCell m) = false) (k : Q (.d .non) μ) : W0.runQ m Q X (.nx ρ) μ := by
  show W0.wp (fin m (.d .non) μ) Q X
  unfold fin
  split
  · exact k
  · rw [h, Bool.and_false, if_neg (by simp)]; exact k
theorem run_nxk {m : Nat} {Q : R → Mem → Prop} {X : Exn → Mem → Prop} {ρ : Env} {μ : Mem} (h : (μ.take m).all (okCell m) = false) (k : Q (.d .non) μ) : runQ m Q X (.nx ρ) μ := by with_unfolding_all exact W0.run_nxk h k
theorem W0.wp_ex {α : Type} {o : Out α} {Q : α → Mem → Prop} (h : W0.wp o Q fun _ _ => False) : ∃ a μ, o = .ok a μ ∧ Q a μ := by
  cases o with
  | ok a μ => exact ⟨a, μ, rfl, h⟩
  | exn x μ => exact h.elim
  | no => exact h.elim
theorem wp_ex {α : Type} {o : Out α} {Q : α → Mem → Prop} (h : wp o Q fun _ _ => False) : ∃ a μ, o = .ok a μ ∧ Q a μ := by with_unfolding_all exact W0.wp_ex h
theorem W0.w_dic {es : List E} {ρ : Env} {μ : Mem} {Q : R → Mem → Prop} {X : Exn → Mem → Prop} (h : W0.wp (evs es ρ μ) (fun rs μ => W0.wo (pairsR rs) fun kvs => W0.gd (kvs.length ≤ 15) (Q (.dic (mergeK [] kvs)) μ)) X) : W0.wp (eDic es ρ μ) Q X := by
  unfold eDic
  rw [W0.wp_bind]
  refine h.monoQ fun rs μ h => ?_
  cases hp : pairsR rs with
  | none => rw [hp] at h; exact h.elim
  | some kvs => rw [hp] at h; first | exact h.2 | (simp only [if_pos h.1]; exact h.2)
theorem w_dic {es : List E} {ρ : Env} {μ : Mem} {Q : R → Mem → Prop} {X : Exn → Mem → Prop} (h : wp (evs es ρ μ) (fun rs μ => wo (pairsR rs) fun kvs => gd (kvs.length ≤ 15) (Q (.dic (mergeK [] kvs)) μ)) X) : wp (eDic es ρ μ) Q X := by with_unfolding_all exact W0.w_dic h
end Ev
end

section
set_option maxHeartbeats 0
set_option linter.all false
namespace K20
open Ev
def f_value_at : Def := ⟨2, 4, none, fun C =>
  (sq (sAs (tgN 2) (eIdx (eV 0) (eIdx (eV 1) (eC (.int 0)))))
  (sq (sFor (tgN 3) (iE (eSlc (eV 1) (oE (eC (.int 1))) oN))
  (sAs (tgN 2) (eIdx (eIdx (eV 2) (eC (.int 2))) (eV 3))))
  (sRet (eV 2))))⟩
def f_Asking_init : Def := ⟨3, 3, some ("Asking", "__init__"), fun C =>
  (sq (sFld "Asking" (eV 0) "given" (eV 1))
  (sq (sFld "Asking" (eV 0) "answers" (eV 2))
  (sFld "Asking" (eV 0) "questions" (eMk (eLst [])))))⟩
def f_Asking_bound : Def := ⟨2, 4, some ("Asking", "bound"), fun C =>
  (sRet (eBi tupleR [(eComp [2, 3] (tgT [(tgN 2), (tgN 3)]) (iE (eV 1)) tYes (eTup [(eV 2), (eCall C "value_at" [(eFld "Asking" (eV 0) "given"), (eV 3)])]))]))⟩
def f_Asking_taken : Def := ⟨3, 3, some ("Asking", "taken"), fun C =>
  (sRet (eTup [(eTup [(eV 1), (eMeth C "Asking" "bound" "Asking.bound" (eV 0) [(eV 2)])]), (eBi tupleR [(eFld "Asking" (eV 0) "questions")])]))⟩
def f_Asking_failed : Def := ⟨1, 1, some ("Asking", "failed"), fun C =>
  (sRet (eTup [(eC (.non)), (eBi tupleR [(eFld "Asking" (eV 0) "questions")])]))⟩
def f_Asking_ask : Def := ⟨3, 4, some ("Asking", "ask"), fun C =>
  (sq (sAs (tgN 3) (eBi lenR [(eFld "Asking" (eV 0) "questions")]))
  (sq (sAppC (eFld "Asking" (eV 0) "questions") (eTup [(eV 1), (eMeth C "Asking" "bound" "Asking.bound" (eV 0) [(eV 2)])]))
  (sRet (eAnd (eT (tCmp ltR (eV 3) (eBi lenR [(eFld "Asking" (eV 0) "answers")]))) (eIdx (eFld "Asking" (eV 0) "answers") (eV 3))))))⟩
def f_Machine_init : Def := ⟨3, 3, some ("Machine", "__init__"), fun C =>
  (sq (sFld "Machine" (eV 0) "asking" (eNew C "Asking" "Asking.__init__" [(eV 1), (eV 2)]))
  (sq (sFld "Machine" (eV 0) "place" (eC (.int 0)))
  (sFld "Machine" (eV 0) "held" (eC (.non)))))⟩
def f_Machine_holds : Def := ⟨2, 2, some ("Machine", "holds"), fun C =>
  (sq (sIf (tCmp eqR (eIdx (eV 1) (eC (.int 0))) (eC (.str "is"))) (sRet (eT (tCmp eqR (eIdx (eFld "Machine" (eV 0) "held") (eC (.int 1))) (eIdx (eV 1) (eC (.int 1)))))) sNil)
  (sRet (eT (tCmp leR (eIdx (eFld "Machine" (eV 0) "held") (eC (.int 1))) (eIdx (eV 1) (eC (.int 1)))))))⟩
def f_Machine_step : Def := ⟨2, 3, some ("Machine", "step"), fun C =>
  (sq (sAs (tgN 2) (eIdx (eV 1) (eC (.int 0))))
  (sq (sFldAug "Machine" (eV 0) "place" addI (eC (.int 1)))
  (sq (sIf (tCmp eqR (eV 2) (eC (.str "argument"))) (sFld "Machine" (eV 0) "held" (eIdx (eFld "Asking" (eFld "Machine" (eV 0) "asking") "given") (eIdx (eV 1) (eC (.int 1))))) (sIf (tCmp eqR (eV 2) (eC (.str "field"))) (sFld "Machine" (eV 0) "held" (eIdx (eIdx (eFld "Machine" (eV 0) "held") (eC (.int 2))) (eIdx (eV 1) (eC (.int 1))))) (sIf (tCmp eqR (eV 2) (eC (.str "jump"))) (sFld "Machine" (eV 0) "place" (eIdx (eV 1) (eC (.int 1)))) (sIf (tCmp inR (eV 2) (eTup [(eC (.str "is")), (eC (.str "upto"))])) (sIf (tE (eMeth C "Machine" "holds" "Machine.holds" (eV 0) [(eV 1)])) (sFld "Machine" (eV 0) "place" (eIdx (eV 1) (eC (.int 2)))) sNil) (sIf (tCmp eqR (eV 2) (eC (.str "take"))) (sRet (eMeth C "Asking" "taken" "Asking.taken" (eFld "Machine" (eV 0) "asking") [(eIdx (eV 1) (eC (.int 1))), (eIdx (eV 1) (eC (.int 2)))])) (sIf (tCmp eqR (eV 2) (eC (.str "ask"))) (sq (sIf (tE (eMeth C "Asking" "ask" "Asking.ask" (eFld "Machine" (eV 0) "asking") [(eIdx (eV 1) (eC (.int 1))), (eIdx (eV 1) (eC (.int 2)))])) (sRet (eMeth C "Asking" "taken" "Asking.taken" (eFld "Machine" (eV 0) "asking") [(eIdx (eV 1) (eC (.int 1))), (eIdx (eV 1) (eC (.int 2)))])) sNil)
  (sFld "Machine" (eV 0) "place" (eIdx (eV 1) (eC (.int 3))))) (sRet (eMeth C "Asking" "failed" "Asking.failed" (eFld "Machine" (eV 0) "asking") []))))))))
  (sRet (eC (.non))))))⟩
def f_run_code : Def := ⟨3, 5, none, fun C =>
  (sq (sAs (tgN 3) (eNew C "Machine" "Machine.__init__" [(eV 1), (eV 2)]))
  (sq (sAs (tgN 4) (eC (.non)))
  (sq (sWhile 1000000 (tIsN (eV 4)) (sAs (tgN 4) (eMeth C "Machine" "step" "Machine.step" (eV 3) [(eIdx (eV 0) (eFld "Machine" (eV 3) "place"))])))
  (sRet (eV 4)))))⟩
def f_law_cell : Def := ⟨2, 2, none, fun C =>
  (sq (sIf (tCmp ltR (eV 1) (eBi lenR [(eV 0)])) (sRet (eIdx (eV 0) (eV 1))) sNil)
  (sRet (eC (.int 0))))⟩
def f_law_digits_2 : Def := ⟨3, 8, none, fun C =>
  (sq (sOwn 3 (eLst []))
  (sq (sFor (tgN 4) (iRange2 (eV 1) (eV 2))
  (sq (sAs (tgN 5) (eCall C "_law_cell" [(eV 0), (eV 4)]))
  (sq (sIf (tCmp ltR (eV 5) (eC (.int 0))) (sAs (tgN 5) (eOp subR (eC (.int 1)) (eOp mulR (eC (.int 2)) (eV 5)))) sNil)
  (sIf (tCmp geR (eV 5) (eOp powR (eC (.int 10)) (eC (.int 18)))) (sFor (tgN 6) (iRange1 (eC (.int 60)))
  (sIf (tCmp gtR (eV 5) (eC (.int 0))) (sq (sApp 3 (eOp modR (eBi intR [(eV 5)]) (eC (.int 1000))))
  (sAs (tgN 5) (eOp fdivR (eV 5) (eC (.int 1000))))) sNil)) (sq (sAs (tgN 7) (eOp modR (eBi intR [(eOp addR (eOp addR (eOp mulR (eV 5) (eC (.int 48271))) (eOp mulR (eV 4) (eC (.int 69621)))) (eC (.int 11)))]) (eC (.int 2147483647))))
  (sFor (tgN 6) (iRange1 (eC (.int 12)))
  (sq (sAs (tgN 7) (eOp modR (eBi intR [(eOp addR (eOp addR (eOp mulR (eV 7) (eC (.int 16807))) (eOp mulR (eC (.int 7)) (eV 6))) (eC (.int 1)))]) (eC (.int 2147483647))))
  (sApp 3 (eOp modR (eBi intR [(eOp fdivR (eV 7) (eC (.int 997)))]) (eC (.int 1000)))))))))))
  (sq (sFrz 3)
  (sRet (eV 3)))))⟩
def f_law_draw : Def := ⟨2, 3, none, fun C =>
  (sq (sAs (tgN 2) (eIdx (eV 0) (eC (.int 1))))
  (sq (sSet (eV 0) (eC (.int 1)) (eOp addR (eV 2) (eC (.int 1))))
  (sq (sIf (tCmp ltR (eV 2) (eBi lenR [(eIdx (eV 0) (eC (.int 0)))])) (sRet (eOp modR (eBi intR [(eIdx (eIdx (eV 0) (eC (.int 0))) (eV 2))]) (eV 1))) sNil)
  (sRet (eOp modR (eBi intR [(eOp addR (eOp mulR (eV 2) (eC (.int 7))) (eC (.int 3)))]) (eV 1))))))⟩
def f_law_same : Def := ⟨2, 2, none, fun C =>
  (sRet (eT (tCmp eqR (eBi reprR [(eV 0)]) (eBi reprR [(eV 1)]))))⟩
def f_law_types_3 : Def := ⟨1, 2, none, fun C =>
  (sq (sAs (tgN 1) (eCall C "_law_draw" [(eV 0), (eC (.int 5))]))
  (sq (sIf (tCmp eqR (eV 1) (eC (.int 0))) (sRet (eTup [(eTup [(eC (.str "B")), (eTup [(eTup [(eC (.str "Yes")), (eTup [])]), (eTup [(eC (.str "No")), (eTup [])])])])])) sNil)
  (sq (sIf (tCmp eqR (eV 1) (eC (.int 1))) (sRet (eTup [(eTup [(eC (.str "L")), (eTup [(eTup [(eC (.str "Nil")), (eTup [])]), (eTup [(eC (.str "Cons")), (eTup [(eC (.str "Int")), (eC (.str "L"))])])])])])) sNil)
  (sq (sIf (tCmp eqR (eV 1) (eC (.int 2))) (sRet (eTup [(eTup [(eC (.str "B")), (eTup [(eTup [(eC (.str "Yes")), (eTup [])]), (eTup [(eC (.str "No")), (eTup [])])])]), (eTup [(eC (.str "L")), (eTup [(eTup [(eC (.str "Nil")), (eTup [])]), (eTup [(eC (.str "Cons")), (eTup [(eC (.str "B")), (eC (.str "L"))])]), (eTup [(eC (.str "Two")), (eTup [(eC (.str "L")), (eC (.str "L"))])])])])])) sNil)
  (sq (sIf (tCmp eqR (eV 1) (eC (.int 3))) (sRet (eTup [(eTup [(eC (.str "T")), (eTup [(eTup [(eC (.str "Leaf")), (eTup [(eC (.str "Int"))])]), (eTup [(eC (.str "Fork")), (eTup [(eC (.str "T")), (eC (.str "T"))])]), (eTup [(eC (.str "Ref")), (eTup [(eC (.str "U"))])])])]), (eTup [(eC (.str "U")), (eTup [(eTup [(eC (.str "End")), (eTup [])]), (eTup [(eC (.str "Wrap")), (eTup [(eC (.str "T"))])])])])])) sNil)
  (sRet (eTup [(eTup [(eC (.str "C")), (eTup [(eTup [(eC (.str "Red")), (eTup [])]), (eTup [(eC (.str "Gold")), (eTup [])]), (eTup [(eC (.str "Blue")), (eTup [])]), (eTup [(eC (.str "Pair")), (eTup [(eC (.str "C")), (eC (.str "Int"))])])])]), (eTup [(eC (.str "N")), (eTup [(eTup [(eC (.str "Zero")), (eTup [])]), (eTup [(eC (.str "Next")), (eTup [(eC (.str "N"))])])])])])))))))⟩
def f_law_parameters : Def := ⟨2, 5, none, fun C =>
  (sq (sAs (tgN 2) (eOp addR (eComp [3] (tgN 3) (iE (eV 1)) tYes (eIdx (eV 3) (eC (.int 0)))) (eLst [(eC (.str "Int"))])))
  (sRet (eBi tupleR [(eComp [4] (tgN 4) (iRange1 (eOp addR (eC (.int 1)) (eCall C "_law_draw" [(eV 0), (eC (.int 3))]))) tYes (eIdx (eV 2) (eOp modR (eBi intR [(eCall C "_law_draw" [(eV 0), (eC (.int 90))])]) (eBi lenR [(eV 2)]))))])))⟩
def f_law_constructors : Def := ⟨2, 3, none, fun C =>
  (sq (sFor (tgN 2) (iE (eV 0))
  (sIf (tCmp eqR (eIdx (eV 2) (eC (.int 0))) (eV 1)) (sRet (eIdx (eV 2) (eC (.int 1)))) sNil))
  (sRet (eTup [])))⟩
def f_law_value_2 : Def := ⟨4, 7, none, fun C =>
  (sq (sIf (tCmp eqR (eV 2) (eC (.str "Int"))) (sRet (eTup [(eC (.str "int")), (eOp subR (eCall C "_law_draw" [(eV 0), (eC (.int 15))]) (eC (.int 7)))])) sNil)
  (sq (sAs (tgN 4) (eCall C "_law_constructors" [(eV 1), (eV 2)]))
  (sq (sAs (tgN 5) (eIdx (eV 4) (eOp modR (eBi intR [(eCall C "_law_draw" [(eV 0), (eC (.int 90))])]) (eBi lenR [(eV 4)]))))
  (sq (sIf (tCmp eqR (eV 3) (eC (.int 0))) (sAs (tgN 5) (eCall C "_law_small" [(eV 1), (eV 2)])) sNil)
  (sRet (eTup [(eC (.str "make")), (eIdx (eV 5) (eC (.int 0))), (eBi tupleR [(eComp [6] (tgN 6) (iE (eIdx (eV 5) (eC (.int 1)))) tYes (eCall C "_law_value" [(eV 0), (eV 1), (eV 6), (eBi maxR [(eC (.int 0)), (eOp subR (eV 3) (eC (.int 1)))])]))])]))))))⟩
def f_law_small : Def := ⟨2, 4, none, fun C =>
  (sq (sAs (tgN 2) (eCall C "_law_constructors" [(eV 0), (eV 1)]))
  (sq (sFor (tgN 3) (iE (eV 2))
  (sIf (tOr (tCmp eqR (eIdx (eV 3) (eC (.int 1))) (eTup [])) (tCmp eqR (eIdx (eV 3) (eC (.int 1))) (eTup [(eC (.str "Int"))]))) (sRet (eV 3)) sNil))
  (sRet (eIdx (eV 2) (eC (.int 0))))))⟩
def f_law_values : Def := ⟨3, 4, none, fun C =>
  (sRet (eBi tupleR [(eComp [3] (tgN 3) (iE (eV 2)) tYes (eCall C "_law_value" [(eV 0), (eV 1), (eV 3), (eCall C "_law_draw" [(eV 0), (eC (.int 4))])]))]))⟩
def f_law_answers : Def := ⟨1, 2, none, fun C =>
  (sRet (eBi tupleR [(eComp [1] (tgN 1) (iRange1 (eCall C "_law_draw" [(eV 0), (eC (.int 7))])) tYes (eT (tCmp eqR (eCall C "_law_draw" [(eV 0), (eC (.int 2))]) (eC (.int 1)))))]))⟩
def f_law_at_2 : Def := ⟨2, 4, none, fun C =>
  (sq (sAs (tgN 2) (eIdx (eV 0) (eIdx (eV 1) (eC (.int 0)))))
  (sq (sFor (tgN 3) (iE (eSlc (eV 1) (oE (eC (.int 1))) oN))
  (sAs (tgN 2) (eIdx (eIdx (eV 2) (eC (.int 2))) (eV 3))))
  (sRet (eV 2))))⟩
def f_law_bound : Def := ⟨2, 4, none, fun C =>
  (sRet (eBi tupleR [(eComp [2, 3] (tgT [(tgN 2), (tgN 3)]) (iE (eBi sortR [(eV 0)])) tYes (eTup [(eV 2), (eCall C "_law_at" [(eV 1), (eV 3)])]))]))⟩
def f_law_walked : Def := ⟨2, 6, none, fun C =>
  (sq (sAs (tgN 2) (eTup [(eOp modR (eBi intR [(eCall C "_law_draw" [(eV 0), (eC (.int 90))])]) (eBi lenR [(eV 1)]))]))
  (sq (sAs (tgN 3) (eIdx (eV 1) (eIdx (eV 2) (eC (.int 0)))))
  (sq (sFor (tgN 4) (iRange1 (eCall C "_law_draw" [(eV 0), (eC (.int 4))]))
  (sIf (tAnd (tCmp eqR (eIdx (eV 3) (eC (.int 0))) (eC (.str "make"))) (tCmp gtR (eBi lenR [(eIdx (eV 3) (eC (.int 2)))]) (eC (.int 0)))) (sq (sAs (tgN 5) (eOp modR (eBi intR [(eCall C "_law_draw" [(eV 0), (eC (.int 90))])]) (eBi lenR [(eIdx (eV 3) (eC (.int 2)))])))
  (sq (sAs (tgN 2) (eOp addR (eV 2) (eTup [(eV 5)])))
  (sAs (tgN 3) (eIdx (eIdx (eV 3) (eC (.int 2))) (eV 5))))) sNil))
  (sRet (eLst [(eV 2), (eV 3)])))))⟩
def f_law_code_2 : Def := ⟨3, 10, none, fun C =>
  (sq (sOwn 3 (eLst []))
  (sq (sFor (tgN 4) (iRange1 (eOp addR (eC (.int 1)) (eCall C "_law_draw" [(eV 0), (eC (.int 5))])))
  (sq (sAs (tgT [(tgN 5), (tgN 6)]) (eCall C "_law_walked" [(eV 0), (eV 2)]))
  (sq (sApp 3 (eTup [(eC (.str "argument")), (eIdx (eV 5) (eC (.int 0)))]))
  (sq (sOwn 3 (eOp addL (eB 3) (eComp [7] (tgN 7) (iE (eSlc (eV 5) (oE (eC (.int 1))) oN)) tYes (eTup [(eC (.str "field")), (eV 7)]))))
  (sq (sIf (tCmp eqR (eIdx (eV 6) (eC (.int 0))) (eC (.str "int"))) (sApp 3 (eTup [(eC (.str "upto")), (eOp subR (eOp addR (eIdx (eV 6) (eC (.int 1))) (eCall C "_law_draw" [(eV 0), (eC (.int 3))])) (eC (.int 1))), (eOp addR (eC (.int 900)) (eV 4))])) (sApp 3 (eTup [(eC (.str "is")), (eIdx (eLst [(eC (.str "Nil")), (eC (.str "Zero")), (eIdx (eV 6) (eC (.int 1))), (eIdx (eV 6) (eC (.int 1)))]) (eCall C "_law_draw" [(eV 0), (eC (.int 4))])), (eOp addR (eC (.int 900)) (eV 4))])))
  (sq (sAs (tgN 8) (eIdx (eCall C "_law_walked" [(eV 0), (eV 2)]) (eC (.int 0))))
  (sq (sAs (tgN 9) (eCall C "_law_draw" [(eV 0), (eC (.int 4))]))
  (sq (sIf (tCmp eqR (eV 9) (eC (.int 0))) (sApp 3 (eTup [(eC (.str "jump")), (eOp addR (eC (.int 900)) (eV 4))])) (sIf (tCmp eqR (eV 9) (eC (.int 1))) (sApp 3 (eTup [(eC (.str "ask")), (eV 4), (eTup [(eTup [(eC (.str "x")), (eV 8)])]), (eOp addR (eC (.int 900)) (eV 4))])) (sIf (tCmp eqR (eV 9) (eC (.int 2))) (sApp 3 (eTup [(eC (.str "take")), (eV 4), (eSlc (eTup [(eTup [(eC (.str "x")), (eV 5)]), (eTup [(eC (.str "y")), (eV 8)])]) oN (oE (eCall C "_law_draw" [(eV 0), (eC (.int 3))])))])) sNil)))
  (sApp 3 (eTup [(eC (.str "mark")), (eOp addR (eC (.int 900)) (eV 4))]))))))))))
  (sq (sApp 3 (eIdx (eLst [(eTup [(eC (.str "fail"))]), (eTup [(eC (.str "take")), (eC (.int 9)), (eTup [])])]) (eCall C "_law_draw" [(eV 0), (eC (.int 2))])))
  (sq (sFrz 3)
  (sRet (eV 3))))))⟩
def f_law_placed : Def := ⟨1, 5, none, fun C =>
  (sq (sOwn 1 (eDic []))
  (sq (sOwn 2 (eLst []))
  (sq (sFor (tgN 3) (iE (eV 0))
  (sIf (tCmp eqR (eIdx (eV 3) (eC (.int 0))) (eC (.str "mark"))) (sSetD 1 (eIdx (eV 3) (eC (.int 1))) (eBi lenR [(eB 2)])) (sApp 2 (eV 3))))
  (sq (sOwn 4 (eLst []))
  (sq (sFrz 2)
  (sq (sFor (tgN 3) (iE (eV 2))
  (sq (sIf (tCmp inR (eIdx (eV 3) (eC (.int 0))) (eLst [(eC (.str "jump")), (eC (.str "is")), (eC (.str "upto")), (eC (.str "ask"))])) (sAs (tgN 3) (eOp addR (eSlc (eV 3) oN (oE (eOp subR (eBi lenR [(eV 3)]) (eC (.int 1))))) (eTup [(eIdx (eB 1) (eIdx (eV 3) (eOp subR (eBi lenR [(eV 3)]) (eC (.int 1)))))]))) sNil)
  (sApp 4 (eV 3))))
  (sRet (eBi tupleR [(eB 4)]))))))))⟩
def f_law_run : Def := ⟨3, 8, none, fun C =>
  (sq (sOwn 3 (eLst []))
  (sq (sAs (tgN 4) (eTup []))
  (sq (sAs (tgN 5) (eC (.int 0)))
  (sq (sFor (tgN 6) (iRange1 (eC (.int 200)))
  (sq (sAs (tgN 7) (eIdx (eV 0) (eV 5)))
  (sq (sAs (tgN 5) (eOp addR (eV 5) (eC (.int 1))))
  (sIf (tCmp eqR (eIdx (eV 7) (eC (.int 0))) (eC (.str "argument"))) (sAs (tgN 4) (eIdx (eV 1) (eIdx (eV 7) (eC (.int 1))))) (sIf (tCmp eqR (eIdx (eV 7) (eC (.int 0))) (eC (.str "field"))) (sAs (tgN 4) (eIdx (eIdx (eV 4) (eC (.int 2))) (eIdx (eV 7) (eC (.int 1))))) (sIf (tOr (tCmp eqR (eIdx (eV 7) (eC (.int 0))) (eC (.str "jump"))) (tOr (tAnd (tCmp eqR (eIdx (eV 7) (eC (.int 0))) (eC (.str "is"))) (tCmp eqR (eIdx (eV 4) (eC (.int 1))) (eIdx (eV 7) (eC (.int 1))))) (tAnd (tCmp eqR (eIdx (eV 7) (eC (.int 0))) (eC (.str "upto"))) (tCmp leR (eIdx (eV 4) (eC (.int 1))) (eIdx (eV 7) (eC (.int 1))))))) (sAs (tgN 5) (eIdx (eV 7) (eOp subR (eBi lenR [(eV 7)]) (eC (.int 1))))) (sIf (tCmp eqR (eIdx (eV 7) (eC (.int 0))) (eC (.str "take"))) (sRet (eTup [(eTup [(eIdx (eV 7) (eC (.int 1))), (eCall C "_law_bound" [(eBi listR [(eIdx (eV 7) (eC (.int 2)))]), (eV 1)])]), (eBi tupleR [(eB 3)])])) (sIf (tCmp eqR (eIdx (eV 7) (eC (.int 0))) (eC (.str "ask"))) (sq (sApp 3 (eTup [(eIdx (eV 7) (eC (.int 1))), (eCall C "_law_bound" [(eBi listR [(eIdx (eV 7) (eC (.int 2)))]), (eV 1)])]))
  (sq (sIf (tAnd (tCmp leR (eBi lenR [(eB 3)]) (eBi lenR [(eV 2)])) (tE (eIdx (eV 2) (eOp subR (eBi lenR [(eB 3)]) (eC (.int 1)))))) (sRet (eTup [(eIdx (eB 3) (eOp subR (eBi lenR [(eB 3)]) (eC (.int 1)))), (eBi tupleR [(eB 3)])])) sNil)
  (sAs (tgN 5) (eIdx (eV 7) (eC (.int 3)))))) (sIf (tCmp eqR (eIdx (eV 7) (eC (.int 0))) (eC (.str "fail"))) (sRet (eTup [(eC (.non)), (eBi tupleR [(eB 3)])])) sNil)))))))))
  (sRet (eTup []))))))⟩
def f_law_21 : Def := ⟨1, 7, none, fun C =>
  (sq (sCell 1 (eLst [(eCall C "_law_digits" [(eV 0), (eC (.int 0)), (eC (.int 40))]), (eC (.int 0))]))
  (sq (sFor (tgN 2) (iRange1 (eC (.int 4)))
  (sq (sAs (tgN 3) (eCall C "_law_types" [(eV 1)]))
  (sq (sAs (tgN 4) (eCall C "_law_values" [(eV 1), (eV 3), (eCall C "_law_parameters" [(eV 1), (eV 3)])]))
  (sq (sAs (tgN 5) (eCall C "_law_placed" [(eCall C "_law_code" [(eV 1), (eV 3), (eV 4)])]))
  (sq (sAs (tgN 6) (eCall C "_law_answers" [(eV 1)]))
  (sIf (tNot (tE (eCall C "_law_same" [(eCall C "run_code" [(eV 5), (eV 4), (eV 6)]), (eCall C "_law_run" [(eV 5), (eV 4), (eV 6)])]))) (sRet (eC (.bl false))) sNil))))))
  (sRet (eC (.bl true)))))⟩
def tbl : List (String × Def) := [("value_at", f_value_at), ("Asking.__init__", f_Asking_init), ("Asking.bound", f_Asking_bound), ("Asking.taken", f_Asking_taken), ("Asking.failed", f_Asking_failed), ("Asking.ask", f_Asking_ask), ("Machine.__init__", f_Machine_init), ("Machine.holds", f_Machine_holds), ("Machine.step", f_Machine_step), ("run_code", f_run_code), ("_law_cell", f_law_cell), ("_law_digits", f_law_digits_2), ("_law_draw", f_law_draw), ("_law_same", f_law_same), ("_law_types", f_law_types_3), ("_law_parameters", f_law_parameters), ("_law_constructors", f_law_constructors), ("_law_value", f_law_value_2), ("_law_small", f_law_small), ("_law_values", f_law_values), ("_law_answers", f_law_answers), ("_law_at", f_law_at_2), ("_law_bound", f_law_bound), ("_law_walked", f_law_walked), ("_law_code", f_law_code_2), ("_law_placed", f_law_placed), ("_law_run", f_law_run), ("law", f_law_21)]
def P (f : String) : Option Def := tbl.lookup f
end K20
end

section
set_option maxHeartbeats 0
set_option Elab.async false
set_option linter.all false
set_option maxRecDepth 100000
set_option maxHeartbeats 0
namespace K20.Wk
open PySem PySem.Spec PyProof.Rows L2 EvS
def top (i : Nat) : Stmt := PySem.Challenge.pw_matchgraph_k20_machine_runs.main.body.getD i (.Pass ⟨0, 0, 0, 0⟩)
def topM (i j : Nat) : Stmt := match top i with
  | .ClassDef _ _ _ b _ _ _ _ _ _ _ => b.getD j (.Pass ⟨0, 0, 0, 0⟩)
  | _ => .Pass ⟨0, 0, 0, 0⟩
structure Gx (K : PySem.W.Frag) (mg : Str → Option Value) (ca : Cn) : Prop where
  f_int : mg "int" = none
  f_len : mg "len" = none
  f_list : mg "list" = none
  f_max : mg "max" = none
  f_range : mg "range" = none
  f_repr : mg "repr" = none
  f_sorted : mg "sorted" = none
  f_tuple : mg "tuple" = none
  cl_Asking : Cls K (ca.cls "Asking")
  na_Asking_given : NoAttr K (ca.cls "Asking") (Str.ofString "given")
  na_Asking_answers : NoAttr K (ca.cls "Asking") (Str.ofString "answers")
  na_Asking_questions : NoAttr K (ca.cls "Asking") (Str.ofString "questions")
  mk_Asking : L2.Mk K (ca.cls "Asking") (He.ma K (ca.cls "Asking") "__init__")
  mg_Asking : mg (Str.ofString "Asking") = some (.ref (ca.cls "Asking"))
  cl_Machine : Cls K (ca.cls "Machine")
  na_Machine_asking : NoAttr K (ca.cls "Machine") (Str.ofString "asking")
  na_Machine_place : NoAttr K (ca.cls "Machine") (Str.ofString "place")
  na_Machine_held : NoAttr K (ca.cls "Machine") (Str.ofString "held")
  mk_Machine : L2.Mk K (ca.cls "Machine") (He.ma K (ca.cls "Machine") "__init__")
  mg_Machine : mg (Str.ofString "Machine") = some (.ref (ca.cls "Machine"))
def d_f_value_at : He.DefD := ⟨("value_at", none), "value_at", "value_at", defArgs (top 1), defBody (top 1), defScope (top 1), [], []⟩
def d_f_Asking_init : He.DefD := ⟨("Asking", some "__init__"), "__init__", "Asking.__init__", defArgs (topM 3 0), defBody (topM 3 0), defScope (topM 3 0), [], []⟩
def d_f_Asking_bound : He.DefD := ⟨("Asking", some "bound"), "bound", "Asking.bound", defArgs (topM 3 1), defBody (topM 3 1), defScope (topM 3 1), [], []⟩
def d_f_Asking_taken : He.DefD := ⟨("Asking", some "taken"), "taken", "Asking.taken", defArgs (topM 3 2), defBody (topM 3 2), defScope (topM 3 2), [], []⟩
def d_f_Asking_failed : He.DefD := ⟨("Asking", some "failed"), "failed", "Asking.failed", defArgs (topM 3 3), defBody (topM 3 3), defScope (topM 3 3), [], []⟩
def d_f_Asking_ask : He.DefD := ⟨("Asking", some "ask"), "ask", "Asking.ask", defArgs (topM 3 4), defBody (topM 3 4), defScope (topM 3 4), [], []⟩
def d_f_Machine_init : He.DefD := ⟨("Machine", some "__init__"), "__init__", "Machine.__init__", defArgs (topM 5 0), defBody (topM 5 0), defScope (topM 5 0), [], []⟩
def d_f_Machine_holds : He.DefD := ⟨("Machine", some "holds"), "holds", "Machine.holds", defArgs (topM 5 1), defBody (topM 5 1), defScope (topM 5 1), [], []⟩
def d_f_Machine_step : He.DefD := ⟨("Machine", some "step"), "step", "Machine.step", defArgs (topM 5 2), defBody (topM 5 2), defScope (topM 5 2), [], []⟩
def d_f_run_code : He.DefD := ⟨("run_code", none), "run_code", "run_code", defArgs (top 6), defBody (top 6), defScope (top 6), [], []⟩
def d_f_law_cell : He.DefD := ⟨("_law_cell", none), "_law_cell", "_law_cell", defArgs (top 8), defBody (top 8), defScope (top 8), [], []⟩
def d_f_law_digits_2 : He.DefD := ⟨("_law_digits", none), "_law_digits", "_law_digits", defArgs (top 9), defBody (top 9), defScope (top 9), [], []⟩
def d_f_law_draw : He.DefD := ⟨("_law_draw", none), "_law_draw", "_law_draw", defArgs (top 10), defBody (top 10), defScope (top 10), [], []⟩
def d_f_law_same : He.DefD := ⟨("_law_same", none), "_law_same", "_law_same", defArgs (top 11), defBody (top 11), defScope (top 11), [], []⟩
def d_f_law_types_3 : He.DefD := ⟨("_law_types", none), "_law_types", "_law_types", defArgs (top 12), defBody (top 12), defScope (top 12), [], []⟩
def d_f_law_parameters : He.DefD := ⟨("_law_parameters", none), "_law_parameters", "_law_parameters", defArgs (top 13), defBody (top 13), defScope (top 13), [], []⟩
def d_f_law_constructors : He.DefD := ⟨("_law_constructors", none), "_law_constructors", "_law_constructors", defArgs (top 14), defBody (top 14), defScope (top 14), [], []⟩
def d_f_law_value_2 : He.DefD := ⟨("_law_value", none), "_law_value", "_law_value", defArgs (top 15), defBody (top 15), defScope (top 15), [], []⟩
def d_f_law_small : He.DefD := ⟨("_law_small", none), "_law_small", "_law_small", defArgs (top 16), defBody (top 16), defScope (top 16), [], []⟩
def d_f_law_values : He.DefD := ⟨("_law_values", none), "_law_values", "_law_values", defArgs (top 17), defBody (top 17), defScope (top 17), [], []⟩
def d_f_law_answers : He.DefD := ⟨("_law_answers", none), "_law_answers", "_law_answers", defArgs (top 18), defBody (top 18), defScope (top 18), [], []⟩
def d_f_law_at_2 : He.DefD := ⟨("_law_at", none), "_law_at", "_law_at", defArgs (top 19), defBody (top 19), defScope (top 19), [], []⟩
def d_f_law_bound : He.DefD := ⟨("_law_bound", none), "_law_bound", "_law_bound", defArgs (top 20), defBody (top 20), defScope (top 20), [], []⟩
def d_f_law_walked : He.DefD := ⟨("_law_walked", none), "_law_walked", "_law_walked", defArgs (top 21), defBody (top 21), defScope (top 21), [], []⟩
def d_f_law_code_2 : He.DefD := ⟨("_law_code", none), "_law_code", "_law_code", defArgs (top 22), defBody (top 22), defScope (top 22), [], []⟩
def d_f_law_placed : He.DefD := ⟨("_law_placed", none), "_law_placed", "_law_placed", defArgs (top 23), defBody (top 23), defScope (top 23), [], []⟩
def d_f_law_run : He.DefD := ⟨("_law_run", none), "_law_run", "_law_run", defArgs (top 24), defBody (top 24), defScope (top 24), [], []⟩
def d_f_law_21 : He.DefD := ⟨("law", none), "law", "law", defArgs (top 25), defBody (top 25), defScope (top 25), [], []⟩
def fn : List He.DefD := [d_f_value_at, d_f_Asking_init, d_f_Asking_bound, d_f_Asking_taken, d_f_Asking_failed, d_f_Asking_ask, d_f_Machine_init, d_f_Machine_holds, d_f_Machine_step, d_f_run_code, d_f_law_cell, d_f_law_digits_2, d_f_law_draw, d_f_law_same, d_f_law_types_3, d_f_law_parameters, d_f_law_constructors, d_f_law_value_2, d_f_law_small, d_f_law_values, d_f_law_answers, d_f_law_at_2, d_f_law_bound, d_f_law_walked, d_f_law_code_2, d_f_law_placed, d_f_law_run, d_f_law_21]
def fa : List He.Fa := [.glo "value_at", .meth "Asking" "__init__", .meth "Asking" "bound", .meth "Asking" "taken", .meth "Asking" "failed", .meth "Asking" "ask", .meth "Machine" "__init__", .meth "Machine" "holds", .meth "Machine" "step", .glo "run_code", .glo "_law_cell", .glo "_law_digits", .glo "_law_draw", .glo "_law_same", .glo "_law_types", .glo "_law_parameters", .glo "_law_constructors", .glo "_law_value", .glo "_law_small", .glo "_law_values", .glo "_law_answers", .glo "_law_at", .glo "_law_bound", .glo "_law_walked", .glo "_law_code", .glo "_law_placed", .glo "_law_run", .glo "law", .free "int", .free "len", .free "list", .free "max", .free "range", .free "repr", .free "sorted", .free "tuple", .cls "Asking", .noat "Asking" "given", .noat "Asking" "answers", .noat "Asking" "questions", .mkr "Asking", .glo "Asking", .cls "Machine", .noat "Machine" "asking", .noat "Machine" "place", .noat "Machine" "held", .mkr "Machine", .glo "Machine"]
def cs : List (String × Ev.D) := []
def tf : List He.Defn := []
section
variable {Pg : Program} {w : World} {K : PySem.W.Frag} {mg : Str → Option Value} {h : Heap} {ca : Cn}
theorem gx (X : K.In h) (G : h.Ns mainGlobals mg) (c : He.SaysD fa fn K) (cc : gcs K cs = true) : Gx K mg (caK K tf) where
  f_int := He.free_ok X G (c.fact 28 (f := .free "int") rfl)
  f_len := He.free_ok X G (c.fact 29 (f := .free "len") rfl)
  f_list := He.free_ok X G (c.fact 30 (f := .free "list") rfl)
  f_max := He.free_ok X G (c.fact 31 (f := .free "max") rfl)
  f_range := He.free_ok X G (c.fact 32 (f := .free "range") rfl)
  f_repr := He.free_ok X G (c.fact 33 (f := .free "repr") rfl)
  f_sorted := He.free_ok X G (c.fact 34 (f := .free "sorted") rfl)
  f_tuple := He.free_ok X G (c.fact 35 (f := .free "tuple") rfl)
  cl_Asking := He.cls_ok (c.fact 36 (f := .cls "Asking") rfl)
  na_Asking_given := He.noat_ok (c.fact 37 (f := .noat "Asking" "given") rfl)
  na_Asking_answers := He.noat_ok (c.fact 38 (f := .noat "Asking" "answers") rfl)
  na_Asking_questions := He.noat_ok (c.fact 39 (f := .noat "Asking" "questions") rfl)
  mk_Asking := He.mkr_ok (c.fact 40 (f := .mkr "Asking") rfl)
  mg_Asking := He.glo_ok X G (c.fact 41 (f := .glo "Asking") rfl)
  cl_Machine := He.cls_ok (c.fact 42 (f := .cls "Machine") rfl)
  na_Machine_asking := He.noat_ok (c.fact 43 (f := .noat "Machine" "asking") rfl)
  na_Machine_place := He.noat_ok (c.fact 44 (f := .noat "Machine" "place") rfl)
  na_Machine_held := He.noat_ok (c.fact 45 (f := .noat "Machine" "held") rfl)
  mk_Machine := He.mkr_ok (c.fact 46 (f := .mkr "Machine") rfl)
  mg_Machine := He.glo_ok X G (c.fact 47 (f := .glo "Machine") rfl)
theorem sc_f_value_at : FnScope ["values", "path", "value", "at"] ["values", "path"] (defScope (top 1)) := ⟨rfl, rfl, rfl, by decide +kernel, rfl, by decide +kernel, by decide +kernel⟩
theorem dv_f_value_at {base : Heap} {a : Addr} {cdv : Value} {A : Around} {out : List Env} {s : Shared} {H : Hp} {E : XK} {e : En} {n : Nat} (g : Gx K mg ca)
    (cal : ∀ g d, P g = some d → Callee (cx Pg w K mg base ["values", "path", "value", "at"] "value_at" (defScope (top 1)) a cdv A out s H E) ca n (Ev.callN P n) g d.np d.own) (xs : XS (cx Pg w K mg base ["values", "path", "value", "at"] "value_at" (defScope (top 1)) a cdv A out s H E) (EvS.wE E) n) (sl : Slk (cx Pg w K mg base ["values", "path", "value", "at"] "value_at" (defScope (top 1)) a cdv A out s H E) n) :
    PSs (cx Pg w K mg base ["values", "path", "value", "at"] "value_at" (defScope (top 1)) a cdv A out s H E) (defBody (top 1)) (tS (ct (cx Pg w K mg base ["values", "path", "value", "at"] "value_at" (defScope (top 1)) a cdv A out s H E) ca) (EvS.wE E) e (f_value_at.body (Ev.callN P n))) :=
  (ss_cons xs (s_as xs.nd rfl (by first | exact .inl rfl | exact .inr rfl) (se_ix xs.u1 (SV (se_v rfl (by first | exact .inl rfl | exact .inr (.inl rfl) | exact .inr (.inr rfl)))) (se_ix xs.u1 (SV (se_v rfl (by first | exact .inl rfl | exact .inr (.inl rfl) | exact .inr (.inr rfl)))) se_int)))
  (ss_cons xs (s_for xs (si_e (se_slc (SV (se_v rfl (by first | exact .inl rfl | exact .inr (.inl rfl) | exact .inr (.inr rfl)))) (so_e se_int) so_n)) (pg_name xs.nd rfl (by first | exact .inl rfl | exact .inr rfl)) gok_name (ss_one (s_as xs.nd rfl (by first | exact .inl rfl | exact .inr rfl) (se_ix xs.u1 (SV (se_ix xs.u1 (SV (se_v rfl (by first | exact .inl rfl | exact .inr (.inl rfl) | exact .inr (.inr rfl)))) se_int)) (se_v rfl (by first | exact .inl rfl | exact .inr (.inl rfl) | exact .inr (.inr rfl)))))))
  (ss_one (s_ret (se_v rfl (by first | exact .inl rfl | exact .inr (.inl rfl) | exact .inr (.inr rfl)))))))
theorem dn_f_value_at (X : K.In h) (G : h.Ns mainGlobals mg) (c : He.SaysD fa fn K) (g : Gx K mg (caK K tf)) : Dn Pg w K mg (caK K tf) P "value_at" f_value_at := by
  obtain ⟨fd, F⟩ := c.def_ 0 (d := d_f_value_at) rfl
  exact ⟨_, _, _, _, _, _, fd, ["values", "path", "value", "at"], ["values", "path"], F, He.glo_ok X G (c.fact 0 (f := .glo "value_at") rfl), sc_f_value_at, rfl, rfl, F.bindsN fun _ _ _ _ _ _ us hl => match us, hl with | [_, _], _ => rfl, fun base cdv A out s H E e n tb hc cal xs sl => dv_f_value_at g cal xs sl⟩
theorem sc_f_Asking_init : FnScope ["self", "values", "answers"] ["self", "values", "answers"] (defScope (topM 3 0)) := ⟨rfl, rfl, rfl, by decide +kernel, rfl, by decide +kernel, by decide +kernel⟩
theorem dv_f_Asking_init {base : Heap} {a : Addr} {cdv : Value} {A : Around} {out : List Env} {s : Shared} {H : Hp} {E : XK} {e : En} {n : Nat} (g : Gx K mg ca)
    (cal : ∀ g d, P g = some d → Callee (cx Pg w K mg base ["self", "values", "answers"] "Asking.__init__" (defScope (topM 3 0)) a cdv A out s H E) ca n (Ev.callN P n) g d.np d.own) (xs : XS (cx Pg w K mg base ["self", "values", "answers"] "Asking.__init__" (defScope (topM 3 0)) a cdv A out s H E) (EvS.wE E) n) (sl : Slk (cx Pg w K mg base ["self", "values", "answers"] "Asking.__init__" (defScope (topM 3 0)) a cdv A out s H E) n) :
    PSs (cx Pg w K mg base ["self", "values", "answers"] "Asking.__init__" (defScope (topM 3 0)) a cdv A out s H E) (defBody (topM 3 0)) (tS (ct (cx Pg w K mg base ["self", "values", "answers"] "Asking.__init__" (defScope (topM 3 0)) a cdv A out s H E) ca) (EvS.wE E) e (f_Asking_init.body (Ev.callN P n))) :=
  (ss_cons xs (s_fld xs g.cl_Asking g.na_Asking_given (se_v rfl (by first | exact .inl rfl | exact .inr (.inl rfl) | exact .inr (.inr rfl))) (se_v rfl (by first | exact .inl rfl | exact .inr (.inl rfl) | exact .inr (.inr rfl))))
  (ss_cons xs (s_fld xs g.cl_Asking g.na_Asking_answers (se_v rfl (by first | exact .inl rfl | exact .inr (.inl rfl) | exact .inr (.inr rfl))) (se_v rfl (by first | exact .inl rfl | exact .inr (.inl rfl) | exact .inr (.inr rfl))))
  (ss_one (s_fld xs g.cl_Asking g.na_Asking_questions (se_v rfl (by first | exact .inl rfl | exact .inr (.inl rfl) | exact .inr (.inr rfl))) (se_mk (sn_lst sa_nil))))))
theorem dn_f_Asking_init (X : K.In h) (G : h.Ns mainGlobals mg) (c : He.SaysD fa fn K) (g : Gx K mg (caK K tf)) : Dn Pg w K mg (caK K tf) P "Asking.__init__" f_Asking_init := by
  obtain ⟨fd, F⟩ := c.def_ 1 (d := d_f_Asking_init) rfl
  exact ⟨_, _, _, _, _, _, fd, ["self", "values", "answers"], ["self", "values", "answers"], F, He.meth_ok (c.fact 1 (f := .meth "Asking" "__init__") rfl), sc_f_Asking_init, rfl, rfl, F.bindsN fun _ _ _ _ _ _ us hl => match us, hl with | [_, _, _], _ => rfl, fun base cdv A out s H E e n tb hc cal xs sl => dv_f_Asking_init g cal xs sl⟩
theorem sc_f_Asking_bound : FnScope ["self", "bindings", "name", "path"] ["self", "bindings"] (defScope (topM 3 1)) := ⟨rfl, rfl, rfl, by decide +kernel, rfl, by decide +kernel, by decide +kernel⟩
theorem dv_f_Asking_bound {base : Heap} {a : Addr} {cdv : Value} {A : Around} {out : List Env} {s : Shared} {H : Hp} {E : XK} {e : En} {n : Nat} (g : Gx K mg ca)
    (cal : ∀ g d, P g = some d → Callee (cx Pg w K mg base ["self", "bindings", "name", "path"] "Asking.bound" (defScope (topM 3 1)) a cdv A out s H E) ca n (Ev.callN P n) g d.np d.own) (xs : XS (cx Pg w K mg base ["self", "bindings", "name", "path"] "Asking.bound" (defScope (topM 3 1)) a cdv A out s H E) (EvS.wE E) n) (sl : Slk (cx Pg w K mg base ["self", "bindings", "name", "path"] "Asking.bound" (defScope (topM 3 1)) a cdv A out s H E) n) :
    PSs (cx Pg w K mg base ["self", "bindings", "name", "path"] "Asking.bound" (defScope (topM 3 1)) a cdv A out s H E) (defBody (topM 3 1)) (tS (ct (cx Pg w K mg base ["self", "bindings", "name", "path"] "Asking.bound" (defScope (topM 3 1)) a cdv A out s H E) ca) (EvS.wE E) e (f_Asking_bound.body (Ev.callN P n))) :=
  (ss_one (s_ret (se_bi (pe_callTy cb_tuple rfl g.f_tuple rfl (sav_cons (SV (SN (sn_comp0 (own := [("name", 2), ("path", 3)]) xs (si_e (se_v rfl (by first | exact .inl rfl | exact .inr (.inl rfl) | exact .inr (.inr rfl)))) (blkOk_by (by kernel_rfl)) (fun _ _ _ _ _ => (pg_seq xs.blk.calm (pgs_cons (pg_name xs.blk.nd rfl (by first | exact .inl rfl | exact .inr rfl)) (pgs_cons (pg_name xs.blk.nd rfl (by first | exact .inl rfl | exact .inr rfl)) pgs_nil)))) (gok_seq rfl (gsok_cons gok_name (gsok_cons gok_name gsok_nil))) (by decide) (fun _ _ _ _ _ => (se_tup (sa_cons (se_v rfl (by first | exact .inl rfl | exact .inr (.inl rfl) | exact .inr (.inr rfl))) (sa_cons (se_call ⟨(cal "value_at" _ rfl).at_⟩ xs.blk rfl rfl (sa_cons (se_fld g.cl_Asking g.na_Asking_given (se_v rfl (by first | exact .inl rfl | exact .inr (.inl rfl) | exact .inr (.inr rfl)))) (sa_cons (se_v rfl (by first | exact .inl rfl | exact .inr (.inl rfl) | exact .inr (.inr rfl))) sa_nil)) rfl) sa_nil))))))) sav_nil)))))
theorem dn_f_Asking_bound (X : K.In h) (G : h.Ns mainGlobals mg) (c : He.SaysD fa fn K) (g : Gx K mg (caK K tf)) : Dn Pg w K mg (caK K tf) P "Asking.bound" f_Asking_bound := by
  obtain ⟨fd, F⟩ := c.def_ 2 (d := d_f_Asking_bound) rfl
  exact ⟨_, _, _, _, _, _, fd, ["self", "bindings", "name", "path"], ["self", "bindings"], F, He.meth_ok (c.fact 2 (f := .meth "Asking" "bound") rfl), sc_f_Asking_bound, rfl, rfl, F.bindsN fun _ _ _ _ _ _ us hl => match us, hl with | [_, _], _ => rfl, fun base cdv A out s H E e n tb hc cal xs sl => dv_f_Asking_bound g cal xs sl⟩
theorem sc_f_Asking_taken : FnScope ["self", "clause", "bindings"] ["self", "clause", "bindings"] (defScope (topM 3 2)) := ⟨rfl, rfl, rfl, by decide +kernel, rfl, by decide +kernel, by decide +kernel⟩
theorem dv_f_Asking_taken {base : Heap} {a : Addr} {cdv : Value} {A : Around} {out : List Env} {s : Shared} {H : Hp} {E : XK} {e : En} {n : Nat} (g : Gx K mg ca)
    (cal : ∀ g d, P g = some d → Callee (cx Pg w K mg base ["self", "clause", "bindings"] "Asking.taken" (defScope (topM 3 2)) a cdv A out s H E) ca n (Ev.callN P n) g d.np d.own) (xs : XS (cx Pg w K mg base ["self", "clause", "bindings"] "Asking.taken" (defScope (topM 3 2)) a cdv A out s H E) (EvS.wE E) n) (sl : Slk (cx Pg w K mg base ["self", "clause", "bindings"] "Asking.taken" (defScope (topM 3 2)) a cdv A out s H E) n) :
    PSs (cx Pg w K mg base ["self", "clause", "bindings"] "Asking.taken" (defScope (topM 3 2)) a cdv A out s H E) (defBody (topM 3 2)) (tS (ct (cx Pg w K mg base ["self", "clause", "bindings"] "Asking.taken" (defScope (topM 3 2)) a cdv A out s H E) ca) (EvS.wE E) e (f_Asking_taken.body (Ev.callN P n))) :=
  (ss_one (s_ret (se_tup (sa_cons (se_tup (sa_cons (se_v rfl (by first | exact .inl rfl | exact .inr (.inl rfl) | exact .inr (.inr rfl))) (sa_cons (se_meth ⟨(cal "Asking.bound" _ rfl).at_⟩ xs g.cl_Asking (se_v rfl (by first | exact .inl rfl | exact .inr (.inl rfl) | exact .inr (.inr rfl))) (sa_cons (se_v rfl (by first | exact .inl rfl | exact .inr (.inl rfl) | exact .inr (.inr rfl))) sa_nil) rfl) sa_nil))) (sa_cons (se_bi (pe_callTy cb_tuple rfl g.f_tuple rfl (sav_cons (SV (se_fld g.cl_Asking g.na_Asking_questions (se_v rfl (by first | exact .inl rfl | exact .inr (.inl rfl) | exact .inr (.inr rfl))))) sav_nil))) sa_nil)))))
theorem dn_f_Asking_taken (X : K.In h) (G : h.Ns mainGlobals mg) (c : He.SaysD fa fn K) (g : Gx K mg (caK K tf)) : Dn Pg w K mg (caK K tf) P "Asking.taken" f_Asking_taken := by
  obtain ⟨fd, F⟩ := c.def_ 3 (d := d_f_Asking_taken) rfl
  exact ⟨_, _, _, _, _, _, fd, ["self", "clause", "bindings"], ["self", "clause", "bindings"], F, He.meth_ok (c.fact 3 (f := .meth "Asking" "taken") rfl), sc_f_Asking_taken, rfl, rfl, F.bindsN fun _ _ _ _ _ _ us hl => match us, hl with | [_, _, _], _ => rfl, fun base cdv A out s H E e n tb hc cal xs sl => dv_f_Asking_taken g cal xs sl⟩
theorem sc_f_Asking_failed : FnScope ["self"] ["self"] (defScope (topM 3 3)) := ⟨rfl, rfl, rfl, by decide +kernel, rfl, by decide +kernel, by decide +kernel⟩
theorem dv_f_Asking_failed {base : Heap} {a : Addr} {cdv : Value} {A : Around} {out : List Env} {s : Shared} {H : Hp} {E : XK} {e : En} {n : Nat} (g : Gx K mg ca)
    (cal : ∀ g d, P g = some d → Callee (cx Pg w K mg base ["self"] "Asking.failed" (defScope (topM 3 3)) a cdv A out s H E) ca n (Ev.callN P n) g d.np d.own) (xs : XS (cx Pg w K mg base ["self"] "Asking.failed" (defScope (topM 3 3)) a cdv A out s H E) (EvS.wE E) n) (sl : Slk (cx Pg w K mg base ["self"] "Asking.failed" (defScope (topM 3 3)) a cdv A out s H E) n) :
    PSs (cx Pg w K mg base ["self"] "Asking.failed" (defScope (topM 3 3)) a cdv A out s H E) (defBody (topM 3 3)) (tS (ct (cx Pg w K mg base ["self"] "Asking.failed" (defScope (topM 3 3)) a cdv A out s H E) ca) (EvS.wE E) e (f_Asking_failed.body (Ev.callN P n))) :=
  (ss_one (s_ret (se_tup (sa_cons se_non (sa_cons (se_bi (pe_callTy cb_tuple rfl g.f_tuple rfl (sav_cons (SV (se_fld g.cl_Asking g.na_Asking_questions (se_v rfl (by first | exact .inl rfl | exact .inr (.inl rfl) | exact .inr (.inr rfl))))) sav_nil))) sa_nil)))))
theorem dn_f_Asking_failed (X : K.In h) (G : h.Ns mainGlobals mg) (c : He.SaysD fa fn K) (g : Gx K mg (caK K tf)) : Dn Pg w K mg (caK K tf) P "Asking.failed" f_Asking_failed := by
  obtain ⟨fd, F⟩ := c.def_ 4 (d := d_f_Asking_failed) rfl
  exact ⟨_, _, _, _, _, _, fd, ["self"], ["self"], F, He.meth_ok (c.fact 4 (f := .meth "Asking" "failed") rfl), sc_f_Asking_failed, rfl, rfl, F.bindsN fun _ _ _ _ _ _ us hl => match us, hl with | [_], _ => rfl, fun base cdv A out s H E e n tb hc cal xs sl => dv_f_Asking_failed g cal xs sl⟩
theorem sc_f_Asking_ask : FnScope ["self", "clause", "bindings", "at"] ["self", "clause", "bindings"] (defScope (topM 3 4)) := ⟨rfl, rfl, rfl, by decide +kernel, rfl, by decide +kernel, by decide +kernel⟩
theorem dv_f_Asking_ask {base : Heap} {a : Addr} {cdv : Value} {A : Around} {out : List Env} {s : Shared} {H : Hp} {E : XK} {e : En} {n : Nat} (g : Gx K mg ca)
    (cal : ∀ g d, P g = some d → Callee (cx Pg w K mg base ["self", "clause", "bindings", "at"] "Asking.ask" (defScope (topM 3 4)) a cdv A out s H E) ca n (Ev.callN P n) g d.np d.own) (xs : XS (cx Pg w K mg base ["self", "clause", "bindings", "at"] "Asking.ask" (defScope (topM 3 4)) a cdv A out s H E) (EvS.wE E) n) (sl : Slk (cx Pg w K mg base ["self", "clause", "bindings", "at"] "Asking.ask" (defScope (topM 3 4)) a cdv A out s H E) n) :
    PSs (cx Pg w K mg base ["self", "clause", "bindings", "at"] "Asking.ask" (defScope (topM 3 4)) a cdv A out s H E) (defBody (topM 3 4)) (tS (ct (cx Pg w K mg base ["self", "clause", "bindings", "at"] "Asking.ask" (defScope (topM 3 4)) a cdv A out s H E) ca) (EvS.wE E) e (f_Asking_ask.body (Ev.callN P n))) :=
  (ss_cons xs (s_as xs.nd rfl (by first | exact .inl rfl | exact .inr rfl) (se_bi (pe_callB cb_len rfl g.f_len rfl (sav_cons (SV (se_fld g.cl_Asking g.na_Asking_questions (se_v rfl (by first | exact .inl rfl | exact .inr (.inl rfl) | exact .inr (.inr rfl))))) sav_nil))))
  (ss_cons xs (s_appC xs (se_fld g.cl_Asking g.na_Asking_questions (se_v rfl (by first | exact .inl rfl | exact .inr (.inl rfl) | exact .inr (.inr rfl)))) (se_tup (sa_cons (se_v rfl (by first | exact .inl rfl | exact .inr (.inl rfl) | exact .inr (.inr rfl))) (sa_cons (se_meth ⟨(cal "Asking.bound" _ rfl).at_⟩ xs g.cl_Asking (se_v rfl (by first | exact .inl rfl | exact .inr (.inl rfl) | exact .inr (.inr rfl))) (sa_cons (se_v rfl (by first | exact .inl rfl | exact .inr (.inl rfl) | exact .inr (.inr rfl))) sa_nil) rfl) sa_nil))))
  (ss_one (s_ret (se_and (se_cmp opC_lt (SV (se_v rfl (by first | exact .inl rfl | exact .inr (.inl rfl) | exact .inr (.inr rfl)))) (SV (se_bi (pe_callB cb_len rfl g.f_len rfl (sav_cons (SV (se_fld g.cl_Asking g.na_Asking_answers (se_v rfl (by first | exact .inl rfl | exact .inr (.inl rfl) | exact .inr (.inr rfl))))) sav_nil)))) rfl) (se_one (se_ix xs.u1 (SV (se_fld g.cl_Asking g.na_Asking_answers (se_v rfl (by first | exact .inl rfl | exact .inr (.inl rfl) | exact .inr (.inr rfl))))) (se_v rfl (by first | exact .inl rfl | exact .inr (.inl rfl) | exact .inr (.inr rfl))))))))))
theorem dn_f_Asking_ask (X : K.In h) (G : h.Ns mainGlobals mg) (c : He.SaysD fa fn K) (g : Gx K mg (caK K tf)) : Dn Pg w K mg (caK K tf) P "Asking.ask" f_Asking_ask := by
  obtain ⟨fd, F⟩ := c.def_ 5 (d := d_f_Asking_ask) rfl
  exact ⟨_, _, _, _, _, _, fd, ["self", "clause", "bindings", "at"], ["self", "clause", "bindings"], F, He.meth_ok (c.fact 5 (f := .meth "Asking" "ask") rfl), sc_f_Asking_ask, rfl, rfl, F.bindsN fun _ _ _ _ _ _ us hl => match us, hl with | [_, _, _], _ => rfl, fun base cdv A out s H E e n tb hc cal xs sl => dv_f_Asking_ask g cal xs sl⟩
theorem sc_f_Machine_init : FnScope ["self", "values", "answers"] ["self", "values", "answers"] (defScope (topM 5 0)) := ⟨rfl, rfl, rfl, by decide +kernel, rfl, by decide +kernel, by decide +kernel⟩
theorem dv_f_Machine_init {base : Heap} {a : Addr} {cdv : Value} {A : Around} {out : List Env} {s : Shared} {H : Hp} {E : XK} {e : En} {n : Nat} (g : Gx K mg ca)
    (cal : ∀ g d, P g = some d → Callee (cx Pg w K mg base ["self", "values", "answers"] "Machine.__init__" (defScope (topM 5 0)) a cdv A out s H E) ca n (Ev.callN P n) g d.np d.own) (xs : XS (cx Pg w K mg base ["self", "values", "answers"] "Machine.__init__" (defScope (topM 5 0)) a cdv A out s H E) (EvS.wE E) n) (sl : Slk (cx Pg w K mg base ["self", "values", "answers"] "Machine.__init__" (defScope (topM 5 0)) a cdv A out s H E) n) :
    PSs (cx Pg w K mg base ["self", "values", "answers"] "Machine.__init__" (defScope (topM 5 0)) a cdv A out s H E) (defBody (topM 5 0)) (tS (ct (cx Pg w K mg base ["self", "values", "answers"] "Machine.__init__" (defScope (topM 5 0)) a cdv A out s H E) ca) (EvS.wE E) e (f_Machine_init.body (Ev.callN P n))) :=
  (ss_cons xs (s_fld xs g.cl_Machine g.na_Machine_asking (se_v rfl (by first | exact .inl rfl | exact .inr (.inl rfl) | exact .inr (.inr rfl))) (se_new ⟨(cal "Asking.__init__" _ rfl).at_⟩ xs sl g.mk_Asking g.mg_Asking rfl rfl (sa_cons (se_v rfl (by first | exact .inl rfl | exact .inr (.inl rfl) | exact .inr (.inr rfl))) (sa_cons (se_v rfl (by first | exact .inl rfl | exact .inr (.inl rfl) | exact .inr (.inr rfl))) sa_nil)) rfl))
  (ss_cons xs (s_fld xs g.cl_Machine g.na_Machine_place (se_v rfl (by first | exact .inl rfl | exact .inr (.inl rfl) | exact .inr (.inr rfl))) se_int)
  (ss_one (s_fld xs g.cl_Machine g.na_Machine_held (se_v rfl (by first | exact .inl rfl | exact .inr (.inl rfl) | exact .inr (.inr rfl))) se_non))))
theorem dn_f_Machine_init (X : K.In h) (G : h.Ns mainGlobals mg) (c : He.SaysD fa fn K) (g : Gx K mg (caK K tf)) : Dn Pg w K mg (caK K tf) P "Machine.__init__" f_Machine_init := by
  obtain ⟨fd, F⟩ := c.def_ 6 (d := d_f_Machine_init) rfl
  exact ⟨_, _, _, _, _, _, fd, ["self", "values", "answers"], ["self", "values", "answers"], F, He.meth_ok (c.fact 6 (f := .meth "Machine" "__init__") rfl), sc_f_Machine_init, rfl, rfl, F.bindsN fun _ _ _ _ _ _ us hl => match us, hl with | [_, _, _], _ => rfl, fun base cdv A out s H E e n tb hc cal xs sl => dv_f_Machine_init g cal xs sl⟩
theorem sc_f_Machine_holds : FnScope ["self", "instruction"] ["self", "instruction"] (defScope (topM 5 1)) := ⟨rfl, rfl, rfl, by decide +kernel, rfl, by decide +kernel, by decide +kernel⟩
theorem dv_f_Machine_holds {base : Heap} {a : Addr} {cdv : Value} {A : Around} {out : List Env} {s : Shared} {H : Hp} {E : XK} {e : En} {n : Nat} (g : Gx K mg ca)
    (cal : ∀ g d, P g = some d → Callee (cx Pg w K mg base ["self", "instruction"] "Machine.holds" (defScope (topM 5 1)) a cdv A out s H E) ca n (Ev.callN P n) g d.np d.own) (xs : XS (cx Pg w K mg base ["self", "instruction"] "Machine.holds" (defScope (topM 5 1)) a cdv A out s H E) (EvS.wE E) n) (sl : Slk (cx Pg w K mg base ["self", "instruction"] "Machine.holds" (defScope (topM 5 1)) a cdv A out s H E) n) :
    PSs (cx Pg w K mg base ["self", "instruction"] "Machine.holds" (defScope (topM 5 1)) a cdv A out s H E) (defBody (topM 5 1)) (tS (ct (cx Pg w K mg base ["self", "instruction"] "Machine.holds" (defScope (topM 5 1)) a cdv A out s H E) ca) (EvS.wE E) e (f_Machine_holds.body (Ev.callN P n))) :=
  (ss_cons xs (s_if xs (st_cmp (opC_eq xs.u64) (SV (se_ix xs.u1 (SV (se_v rfl (by first | exact .inl rfl | exact .inr (.inl rfl) | exact .inr (.inr rfl)))) se_int)) (SV se_str) rfl) (ss_one (s_ret (se_cmp (opC_eq xs.u64) (SV (se_ix xs.u1 (SV (se_fld g.cl_Machine g.na_Machine_held (se_v rfl (by first | exact .inl rfl | exact .inr (.inl rfl) | exact .inr (.inr rfl))))) se_int)) (SV (se_ix xs.u1 (SV (se_v rfl (by first | exact .inl rfl | exact .inr (.inl rfl) | exact .inr (.inr rfl)))) se_int)) rfl))) ss_nil)
  (ss_one (s_ret (se_cmp opC_le (SV (se_ix xs.u1 (SV (se_fld g.cl_Machine g.na_Machine_held (se_v rfl (by first | exact .inl rfl | exact .inr (.inl rfl) | exact .inr (.inr rfl))))) se_int)) (SV (se_ix xs.u1 (SV (se_v rfl (by first | exact .inl rfl | exact .inr (.inl rfl) | exact .inr (.inr rfl)))) se_int)) rfl))))
theorem dn_f_Machine_holds (X : K.In h) (G : h.Ns mainGlobals mg) (c : He.SaysD fa fn K) (g : Gx K mg (caK K tf)) : Dn Pg w K mg (caK K tf) P "Machine.holds" f_Machine_holds := by
  obtain ⟨fd, F⟩ := c.def_ 7 (d := d_f_Machine_holds) rfl
  exact ⟨_, _, _, _, _, _, fd, ["self", "instruction"], ["self", "instruction"], F, He.meth_ok (c.fact 7 (f := .meth "Machine" "holds") rfl), sc_f_Machine_holds, rfl, rfl, F.bindsN fun _ _ _ _ _ _ us hl => match us, hl with | [_, _], _ => rfl, fun base cdv A out s H E e n tb hc cal xs sl => dv_f_Machine_holds g cal xs sl⟩
theorem sc_f_Machine_step : FnScope ["self", "instruction", "kind"] ["self", "instruction"] (defScope (topM 5 2)) := ⟨rfl, rfl, rfl, by decide +kernel, rfl, by decide +kernel, by decide +kernel⟩
theorem dv_f_Machine_step {base : Heap} {a : Addr} {cdv : Value} {A : Around} {out : List Env} {s : Shared} {H : Hp} {E : XK} {e : En} {n : Nat} (g : Gx K mg ca)
    (cal : ∀ g d, P g = some d → Callee (cx Pg w K mg base ["self", "instruction", "kind"] "Machine.step" (defScope (topM 5 2)) a cdv A out s H E) ca n (Ev.callN P n) g d.np d.own) (xs : XS (cx Pg w K mg base ["self", "instruction", "kind"] "Machine.step" (defScope (topM 5 2)) a cdv A out s H E) (EvS.wE E) n) (sl : Slk (cx Pg w K mg base ["self", "instruction", "kind"] "Machine.step" (defScope (topM 5 2)) a cdv A out s H E) n) :
    PSs (cx Pg w K mg base ["self", "instruction", "kind"] "Machine.step" (defScope (topM 5 2)) a cdv A out s H E) (defBody (topM 5 2)) (tS (ct (cx Pg w K mg base ["self", "instruction", "kind"] "Machine.step" (defScope (topM 5 2)) a cdv A out s H E) ca) (EvS.wE E) e (f_Machine_step.body (Ev.callN P n))) :=
  (ss_cons xs (s_as xs.nd rfl (by first | exact .inl rfl | exact .inr rfl) (se_ix xs.u1 (SV (se_v rfl (by first | exact .inl rfl | exact .inr (.inl rfl) | exact .inr (.inr rfl)))) se_int))
  (ss_cons xs (s_fldAdd xs g.cl_Machine g.na_Machine_place (se_v rfl (by first | exact .inl rfl | exact .inr (.inl rfl) | exact .inr (.inr rfl))) se_int)
  (ss_cons xs (s_if xs (st_cmp (opC_eq xs.u64) (SV (se_v rfl (by first | exact .inl rfl | exact .inr (.inl rfl) | exact .inr (.inr rfl)))) (SV se_str) rfl) (ss_one (s_fld xs g.cl_Machine g.na_Machine_held (se_v rfl (by first | exact .inl rfl | exact .inr (.inl rfl) | exact .inr (.inr rfl))) (se_ix xs.u1 (SV (se_fld g.cl_Asking g.na_Asking_given (se_fld g.cl_Machine g.na_Machine_asking (se_v rfl (by first | exact .inl rfl | exact .inr (.inl rfl) | exact .inr (.inr rfl)))))) (se_ix xs.u1 (SV (se_v rfl (by first | exact .inl rfl | exact .inr (.inl rfl) | exact .inr (.inr rfl)))) se_int)))) (ss_one (s_if xs (st_cmp (opC_eq xs.u64) (SV (se_v rfl (by first | exact .inl rfl | exact .inr (.inl rfl) | exact .inr (.inr rfl)))) (SV se_str) rfl) (ss_one (s_fld xs g.cl_Machine g.na_Machine_held (se_v rfl (by first | exact .inl rfl | exact .inr (.inl rfl) | exact .inr (.inr rfl))) (se_ix xs.u1 (SV (se_ix xs.u1 (SV (se_fld g.cl_Machine g.na_Machine_held (se_v rfl (by first | exact .inl rfl | exact .inr (.inl rfl) | exact .inr (.inr rfl))))) se_int)) (se_ix xs.u1 (SV (se_v rfl (by first | exact .inl rfl | exact .inr (.inl rfl) | exact .inr (.inr rfl)))) se_int)))) (ss_one (s_if xs (st_cmp (opC_eq xs.u64) (SV (se_v rfl (by first | exact .inl rfl | exact .inr (.inl rfl) | exact .inr (.inr rfl)))) (SV se_str) rfl) (ss_one (s_fld xs g.cl_Machine g.na_Machine_place (se_v rfl (by first | exact .inl rfl | exact .inr (.inl rfl) | exact .inr (.inr rfl))) (se_ix xs.u1 (SV (se_v rfl (by first | exact .inl rfl | exact .inr (.inl rfl) | exact .inr (.inr rfl)))) se_int))) (ss_one (s_if xs (st_cmp (opC_in xs.u65) (SV (se_v rfl (by first | exact .inl rfl | exact .inr (.inl rfl) | exact .inr (.inr rfl)))) (SV (se_tup (sa_cons se_str (sa_cons se_str sa_nil)))) rfl) (ss_one (s_if xs (st_e (SV (se_meth ⟨(cal "Machine.holds" _ rfl).at_⟩ xs g.cl_Machine (se_v rfl (by first | exact .inl rfl | exact .inr (.inl rfl) | exact .inr (.inr rfl))) (sa_cons (se_v rfl (by first | exact .inl rfl | exact .inr (.inl rfl) | exact .inr (.inr rfl))) sa_nil) rfl))) (ss_one (s_fld xs g.cl_Machine g.na_Machine_place (se_v rfl (by first | exact .inl rfl | exact .inr (.inl rfl) | exact .inr (.inr rfl))) (se_ix xs.u1 (SV (se_v rfl (by first | exact .inl rfl | exact .inr (.inl rfl) | exact .inr (.inr rfl)))) se_int))) ss_nil)) (ss_one (s_if xs (st_cmp (opC_eq xs.u64) (SV (se_v rfl (by first | exact .inl rfl | exact .inr (.inl rfl) | exact .inr (.inr rfl)))) (SV se_str) rfl) (ss_one (s_ret (se_meth ⟨(cal "Asking.taken" _ rfl).at_⟩ xs g.cl_Asking (se_fld g.cl_Machine g.na_Machine_asking (se_v rfl (by first | exact .inl rfl | exact .inr (.inl rfl) | exact .inr (.inr rfl)))) (sa_cons (se_ix xs.u1 (SV (se_v rfl (by first | exact .inl rfl | exact .inr (.inl rfl) | exact .inr (.inr rfl)))) se_int) (sa_cons (se_ix xs.u1 (SV (se_v rfl (by first | exact .inl rfl | exact .inr (.inl rfl) | exact .inr (.inr rfl)))) se_int) sa_nil)) rfl))) (ss_one (s_if xs (st_cmp (opC_eq xs.u64) (SV (se_v rfl (by first | exact .inl rfl | exact .inr (.inl rfl) | exact .inr (.inr rfl)))) (SV se_str) rfl) (ss_cons xs (s_if xs (st_e (SV (se_meth ⟨(cal "Asking.ask" _ rfl).at_⟩ xs g.cl_Asking (se_fld g.cl_Machine g.na_Machine_asking (se_v rfl (by first | exact .inl rfl | exact .inr (.inl rfl) | exact .inr (.inr rfl)))) (sa_cons (se_ix xs.u1 (SV (se_v rfl (by first | exact .inl rfl | exact .inr (.inl rfl) | exact .inr (.inr rfl)))) se_int) (sa_cons (se_ix xs.u1 (SV (se_v rfl (by first | exact .inl rfl | exact .inr (.inl rfl) | exact .inr (.inr rfl)))) se_int) sa_nil)) rfl))) (ss_one (s_ret (se_meth ⟨(cal "Asking.taken" _ rfl).at_⟩ xs g.cl_Asking (se_fld g.cl_Machine g.na_Machine_asking (se_v rfl (by first | exact .inl rfl | exact .inr (.inl rfl) | exact .inr (.inr rfl)))) (sa_cons (se_ix xs.u1 (SV (se_v rfl (by first | exact .inl rfl | exact .inr (.inl rfl) | exact .inr (.inr rfl)))) se_int) (sa_cons (se_ix xs.u1 (SV (se_v rfl (by first | exact .inl rfl | exact .inr (.inl rfl) | exact .inr (.inr rfl)))) se_int) sa_nil)) rfl))) ss_nil)
  (ss_one (s_fld xs g.cl_Machine g.na_Machine_place (se_v rfl (by first | exact .inl rfl | exact .inr (.inl rfl) | exact .inr (.inr rfl))) (se_ix xs.u1 (SV (se_v rfl (by first | exact .inl rfl | exact .inr (.inl rfl) | exact .inr (.inr rfl)))) se_int)))) (ss_one (s_ret (se_meth0 ⟨(cal "Asking.failed" _ rfl).at_⟩ xs g.cl_Asking (se_fld g.cl_Machine g.na_Machine_asking (se_v rfl (by first | exact .inl rfl | exact .inr (.inl rfl) | exact .inr (.inr rfl))))))))))))))))))
  (ss_one (s_ret se_non)))))
theorem dn_f_Machine_step (X : K.In h) (G : h.Ns mainGlobals mg) (c : He.SaysD fa fn K) (g : Gx K mg (caK K tf)) : Dn Pg w K mg (caK K tf) P "Machine.step" f_Machine_step := by
  obtain ⟨fd, F⟩ := c.def_ 8 (d := d_f_Machine_step) rfl
  exact ⟨_, _, _, _, _, _, fd, ["self", "instruction", "kind"], ["self", "instruction"], F, He.meth_ok (c.fact 8 (f := .meth "Machine" "step") rfl), sc_f_Machine_step, rfl, rfl, F.bindsN fun _ _ _ _ _ _ us hl => match us, hl with | [_, _], _ => rfl, fun base cdv A out s H E e n tb hc cal xs sl => dv_f_Machine_step g cal xs sl⟩
theorem sc_f_run_code : FnScope ["code", "values", "answers", "machine", "told"] ["code", "values", "answers"] (defScope (top 6)) := ⟨rfl, rfl, rfl, by decide +kernel, rfl, by decide +kernel, by decide +kernel⟩
theorem dv_f_run_code {base : Heap} {a : Addr} {cdv : Value} {A : Around} {out : List Env} {s : Shared} {H : Hp} {E : XK} {e : En} {n : Nat} (g : Gx K mg ca)
    (cal : ∀ g d, P g = some d → Callee (cx Pg w K mg base ["code", "values", "answers", "machine", "told"] "run_code" (defScope (top 6)) a cdv A out s H E) ca n (Ev.callN P n) g d.np d.own) (xs : XS (cx Pg w K mg base ["code", "values", "answers", "machine", "told"] "run_code" (defScope (top 6)) a cdv A out s H E) (EvS.wE E) n) (sl : Slk (cx Pg w K mg base ["code", "values", "answers", "machine", "told"] "run_code" (defScope (top 6)) a cdv A out s H E) n) :
    PSs (cx Pg w K mg base ["code", "values", "answers", "machine", "told"] "run_code" (defScope (top 6)) a cdv A out s H E) (defBody (top 6)) (tS (ct (cx Pg w K mg base ["code", "values", "answers", "machine", "told"] "run_code" (defScope (top 6)) a cdv A out s H E) ca) (EvS.wE E) e (f_run_code.body (Ev.callN P n))) :=
  (ss_cons xs (s_as xs.nd rfl (by first | exact .inl rfl | exact .inr rfl) (se_new ⟨(cal "Machine.__init__" _ rfl).at_⟩ xs sl g.mk_Machine g.mg_Machine rfl rfl (sa_cons (se_v rfl (by first | exact .inl rfl | exact .inr (.inl rfl) | exact .inr (.inr rfl))) (sa_cons (se_v rfl (by first | exact .inl rfl | exact .inr (.inl rfl) | exact .inr (.inr rfl))) sa_nil)) rfl))
  (ss_cons xs (s_as xs.nd rfl (by first | exact .inl rfl | exact .inr rfl) se_non)
  (ss_cons xs (s_while xs (st_isN (SV (se_v rfl (by first | exact .inl rfl | exact .inr (.inl rfl) | exact .inr (.inr rfl))))) (ss_one (s_as xs.nd rfl (by first | exact .inl rfl | exact .inr rfl) (se_meth ⟨(cal "Machine.step" _ rfl).at_⟩ xs g.cl_Machine (se_v rfl (by first | exact .inl rfl | exact .inr (.inl rfl) | exact .inr (.inr rfl))) (sa_cons (se_ix xs.u1 (SV (se_v rfl (by first | exact .inl rfl | exact .inr (.inl rfl) | exact .inr (.inr rfl)))) (se_fld g.cl_Machine g.na_Machine_place (se_v rfl (by first | exact .inl rfl | exact .inr (.inl rfl) | exact .inr (.inr rfl))))) sa_nil) rfl))))
  (ss_one (s_ret (se_v rfl (by first | exact .inl rfl | exact .inr (.inl rfl) | exact .inr (.inr rfl))))))))
theorem dn_f_run_code (X : K.In h) (G : h.Ns mainGlobals mg) (c : He.SaysD fa fn K) (g : Gx K mg (caK K tf)) : Dn Pg w K mg (caK K tf) P "run_code" f_run_code := by
  obtain ⟨fd, F⟩ := c.def_ 9 (d := d_f_run_code) rfl
  exact ⟨_, _, _, _, _, _, fd, ["code", "values", "answers", "machine", "told"], ["code", "values", "answers"], F, He.glo_ok X G (c.fact 9 (f := .glo "run_code") rfl), sc_f_run_code, rfl, rfl, F.bindsN fun _ _ _ _ _ _ us hl => match us, hl with | [_, _, _], _ => rfl, fun base cdv A out s H E e n tb hc cal xs sl => dv_f_run_code g cal xs sl⟩
theorem sc_f_law_cell : FnScope ["script", "k"] ["script", "k"] (defScope (top 8)) := ⟨rfl, rfl, rfl, by decide +kernel, rfl, by decide +kernel, by decide +kernel⟩
theorem dv_f_law_cell {base : Heap} {a : Addr} {cdv : Value} {A : Around} {out : List Env} {s : Shared} {H : Hp} {E : XK} {e : En} {n : Nat} (g : Gx K mg ca)
    (cal : ∀ g d, P g = some d → Callee (cx Pg w K mg base ["script", "k"] "_law_cell" (defScope (top 8)) a cdv A out s H E) ca n (Ev.callN P n) g d.np d.own) (xs : XS (cx Pg w K mg base ["script", "k"] "_law_cell" (defScope (top 8)) a cdv A out s H E) (EvS.wE E) n) (sl : Slk (cx Pg w K mg base ["script", "k"] "_law_cell" (defScope (top 8)) a cdv A out s H E) n) :
    PSs (cx Pg w K mg base ["script", "k"] "_law_cell" (defScope (top 8)) a cdv A out s H E) (defBody (top 8)) (tS (ct (cx Pg w K mg base ["script", "k"] "_law_cell" (defScope (top 8)) a cdv A out s H E) ca) (EvS.wE E) e (f_law_cell.body (Ev.callN P n))) :=
  (ss_cons xs (s_if xs (st_cmp opC_lt (SV (se_v rfl (by first | exact .inl rfl | exact .inr (.inl rfl) | exact .inr (.inr rfl)))) (SV (se_bi (pe_callB cb_len rfl g.f_len rfl (sav_cons (SV (se_v rfl (by first | exact .inl rfl | exact .inr (.inl rfl) | exact .inr (.inr rfl)))) sav_nil)))) rfl) (ss_one (s_ret (se_ix xs.u1 (SV (se_v rfl (by first | exact .inl rfl | exact .inr (.inl rfl) | exact .inr (.inr rfl)))) (se_v rfl (by first | exact .inl rfl | exact .inr (.inl rfl) | exact .inr (.inr rfl)))))) ss_nil)
  (ss_one (s_ret se_int)))
theorem dn_f_law_cell (X : K.In h) (G : h.Ns mainGlobals mg) (c : He.SaysD fa fn K) (g : Gx K mg (caK K tf)) : Dn Pg w K mg (caK K tf) P "_law_cell" f_law_cell := by
  obtain ⟨fd, F⟩ := c.def_ 10 (d := d_f_law_cell) rfl
  exact ⟨_, _, _, _, _, _, fd, ["script", "k"], ["script", "k"], F, He.glo_ok X G (c.fact 10 (f := .glo "_law_cell") rfl), sc_f_law_cell, rfl, rfl, F.bindsN fun _ _ _ _ _ _ us hl => match us, hl with | [_, _], _ => rfl, fun base cdv A out s H E e n tb hc cal xs sl => dv_f_law_cell g cal xs sl⟩
theorem sc_f_law_digits_2 : FnScope ["script", "first", "last", "digits", "k", "cell", "place", "seed"] ["script", "first", "last"] (defScope (top 9)) := ⟨rfl, rfl, rfl, by decide +kernel, rfl, by decide +kernel, by decide +kernel⟩
theorem dv_f_law_digits_2 {base : Heap} {a : Addr} {cdv : Value} {A : Around} {out : List Env} {s : Shared} {H : Hp} {E : XK} {e : En} {n : Nat} (g : Gx K mg ca)
    (cal : ∀ g d, P g = some d → Callee (cx Pg w K mg base ["script", "first", "last", "digits", "k", "cell", "place", "seed"] "_law_digits" (defScope (top 9)) a cdv A out s H E) ca n (Ev.callN P n) g d.np d.own) (xs : XS (cx Pg w K mg base ["script", "first", "last", "digits", "k", "cell", "place", "seed"] "_law_digits" (defScope (top 9)) a cdv A out s H E) (EvS.wE E) n) (sl : Slk (cx Pg w K mg base ["script", "first", "last", "digits", "k", "cell", "place", "seed"] "_law_digits" (defScope (top 9)) a cdv A out s H E) n) :
    PSs (cx Pg w K mg base ["script", "first", "last", "digits", "k", "cell", "place", "seed"] "_law_digits" (defScope (top 9)) a cdv A out s H E) (defBody (top 9)) (tS (ct (cx Pg w K mg base ["script", "first", "last", "digits", "k", "cell", "place", "seed"] "_law_digits" (defScope (top 9)) a cdv A out s H E) ca) (EvS.wE E) e (f_law_digits_2.body (Ev.callN P n))) :=
  (ss_cons xs (s_own xs.nd rfl (by first | exact .inl rfl | exact .inr rfl) (sn_lst sa_nil))
  (ss_cons xs (s_for xs (si_range2 rfl g.f_range (se_v rfl (by first | exact .inl rfl | exact .inr (.inl rfl) | exact .inr (.inr rfl))) (se_v rfl (by first | exact .inl rfl | exact .inr (.inl rfl) | exact .inr (.inr rfl)))) (pg_name xs.nd rfl (by first | exact .inl rfl | exact .inr rfl)) gok_name (ss_cons xs (s_as xs.nd rfl (by first | exact .inl rfl | exact .inr rfl) (se_call ⟨(cal "_law_cell" _ rfl).at_⟩ xs rfl rfl (sa_cons (se_v rfl (by first | exact .inl rfl | exact .inr (.inl rfl) | exact .inr (.inr rfl))) (sa_cons (se_v rfl (by first | exact .inl rfl | exact .inr (.inl rfl) | exact .inr (.inr rfl))) sa_nil)) rfl))
  (ss_cons xs (s_if xs (st_cmp opC_lt (SV (se_v rfl (by first | exact .inl rfl | exact .inr (.inl rfl) | exact .inr (.inr rfl)))) (SV se_int) rfl) (ss_one (s_as xs.nd rfl (by first | exact .inl rfl | exact .inr rfl) (se_op opD_sub (SV se_int) (SV (se_op opD_mul (SV se_int) (SV (se_v rfl (by first | exact .inl rfl | exact .inr (.inl rfl) | exact .inr (.inr rfl))))))))) ss_nil)
  (ss_one (s_if xs (st_cmp opC_ge (SV (se_v rfl (by first | exact .inl rfl | exact .inr (.inl rfl) | exact .inr (.inr rfl)))) (SV (se_op opD_pow (SV se_int) (SV se_int))) rfl) (ss_one (s_for xs (si_range1 rfl g.f_range se_int) (pg_name xs.nd rfl (by first | exact .inl rfl | exact .inr rfl)) gok_name (ss_one (s_if xs (st_cmp opC_gt (SV (se_v rfl (by first | exact .inl rfl | exact .inr (.inl rfl) | exact .inr (.inr rfl)))) (SV se_int) rfl) (ss_cons xs (s_app rfl (by first | exact .inl rfl | exact .inr (.inl rfl) | exact .inr (.inr rfl)) (se_op opD_mod (SV (se_bi (pe_callTy cb_int rfl g.f_int rfl (sav_cons (SV (se_v rfl (by first | exact .inl rfl | exact .inr (.inl rfl) | exact .inr (.inr rfl)))) sav_nil)))) (SV se_int)))
  (ss_one (s_as xs.nd rfl (by first | exact .inl rfl | exact .inr rfl) (se_op opD_fdiv (SV (se_v rfl (by first | exact .inl rfl | exact .inr (.inl rfl) | exact .inr (.inr rfl)))) (SV se_int))))) ss_nil)))) (ss_cons xs (s_as xs.nd rfl (by first | exact .inl rfl | exact .inr rfl) (se_op opD_mod (SV (se_bi (pe_callTy cb_int rfl g.f_int rfl (sav_cons (SV (se_op opD_add (SV (se_op opD_add (SV (se_op opD_mul (SV (se_v rfl (by first | exact .inl rfl | exact .inr (.inl rfl) | exact .inr (.inr rfl)))) (SV se_int))) (SV (se_op opD_mul (SV (se_v rfl (by first | exact .inl rfl | exact .inr (.inl rfl) | exact .inr (.inr rfl)))) (SV se_int))))) (SV se_int))) sav_nil)))) (SV se_int)))
  (ss_one (s_for xs (si_range1 rfl g.f_range se_int) (pg_name xs.nd rfl (by first | exact .inl rfl | exact .inr rfl)) gok_name (ss_cons xs (s_as xs.nd rfl (by first | exact .inl rfl | exact .inr rfl) (se_op opD_mod (SV (se_bi (pe_callTy cb_int rfl g.f_int rfl (sav_cons (SV (se_op opD_add (SV (se_op opD_add (SV (se_op opD_mul (SV (se_v rfl (by first | exact .inl rfl | exact .inr (.inl rfl) | exact .inr (.inr rfl)))) (SV se_int))) (SV (se_op opD_mul (SV se_int) (SV (se_v rfl (by first | exact .inl rfl | exact .inr (.inl rfl) | exact .inr (.inr rfl)))))))) (SV se_int))) sav_nil)))) (SV se_int)))
  (ss_one (s_app rfl (by first | exact .inl rfl | exact .inr (.inl rfl) | exact .inr (.inr rfl)) (se_op opD_mod (SV (se_bi (pe_callTy cb_int rfl g.f_int rfl (sav_cons (SV (se_op opD_fdiv (SV (se_v rfl (by first | exact .inl rfl | exact .inr (.inl rfl) | exact .inr (.inr rfl)))) (SV se_int))) sav_nil)))) (SV se_int)))))))))))))
  (ss_frz xs (ss_one (s_ret (se_v rfl (by first | exact .inl rfl | exact .inr (.inl rfl) | exact .inr (.inr rfl))))))))
theorem dn_f_law_digits_2 (X : K.In h) (G : h.Ns mainGlobals mg) (c : He.SaysD fa fn K) (g : Gx K mg (caK K tf)) : Dn Pg w K mg (caK K tf) P "_law_digits" f_law_digits_2 := by
  obtain ⟨fd, F⟩ := c.def_ 11 (d := d_f_law_digits_2) rfl
  exact ⟨_, _, _, _, _, _, fd, ["script", "first", "last", "digits", "k", "cell", "place", "seed"], ["script", "first", "last"], F, He.glo_ok X G (c.fact 11 (f := .glo "_law_digits") rfl), sc_f_law_digits_2, rfl, rfl, F.bindsN fun _ _ _ _ _ _ us hl => match us, hl with | [_, _, _], _ => rfl, fun base cdv A out s H E e n tb hc cal xs sl => dv_f_law_digits_2 g cal xs sl⟩
theorem sc_f_law_draw : FnScope ["box", "many", "at"] ["box", "many"] (defScope (top 10)) := ⟨rfl, rfl, rfl, by decide +kernel, rfl, by decide +kernel, by decide +kernel⟩
theorem dv_f_law_draw {base : Heap} {a : Addr} {cdv : Value} {A : Around} {out : List Env} {s : Shared} {H : Hp} {E : XK} {e : En} {n : Nat} (g : Gx K mg ca)
    (cal : ∀ g d, P g = some d → Callee (cx Pg w K mg base ["box", "many", "at"] "_law_draw" (defScope (top 10)) a cdv A out s H E) ca n (Ev.callN P n) g d.np d.own) (xs : XS (cx Pg w K mg base ["box", "many", "at"] "_law_draw" (defScope (top 10)) a cdv A out s H E) (EvS.wE E) n) (sl : Slk (cx Pg w K mg base ["box", "many", "at"] "_law_draw" (defScope (top 10)) a cdv A out s H E) n) :
    PSs (cx Pg w K mg base ["box", "many", "at"] "_law_draw" (defScope (top 10)) a cdv A out s H E) (defBody (top 10)) (tS (ct (cx Pg w K mg base ["box", "many", "at"] "_law_draw" (defScope (top 10)) a cdv A out s H E) ca) (EvS.wE E) e (f_law_draw.body (Ev.callN P n))) :=
  (ss_cons xs (s_as xs.nd rfl (by first | exact .inl rfl | exact .inr rfl) (se_ix xs.u1 (SV (se_v rfl (by first | exact .inl rfl | exact .inr (.inl rfl) | exact .inr (.inr rfl)))) se_int))
  (ss_cons xs (s_set xs (se_v rfl (by first | exact .inl rfl | exact .inr (.inl rfl) | exact .inr (.inr rfl))) se_int (se_op opD_add (SV (se_v rfl (by first | exact .inl rfl | exact .inr (.inl rfl) | exact .inr (.inr rfl)))) (SV se_int)))
  (ss_cons xs (s_if xs (st_cmp opC_lt (SV (se_v rfl (by first | exact .inl rfl | exact .inr (.inl rfl) | exact .inr (.inr rfl)))) (SV (se_bi (pe_callB cb_len rfl g.f_len rfl (sav_cons (SV (se_ix xs.u1 (SV (se_v rfl (by first | exact .inl rfl | exact .inr (.inl rfl) | exact .inr (.inr rfl)))) se_int)) sav_nil)))) rfl) (ss_one (s_ret (se_op opD_mod (SV (se_bi (pe_callTy cb_int rfl g.f_int rfl (sav_cons (SV (se_ix xs.u1 (SV (se_ix xs.u1 (SV (se_v rfl (by first | exact .inl rfl | exact .inr (.inl rfl) | exact .inr (.inr rfl)))) se_int)) (se_v rfl (by first | exact .inl rfl | exact .inr (.inl rfl) | exact .inr (.inr rfl))))) sav_nil)))) (SV (se_v rfl (by first | exact .inl rfl | exact .inr (.inl rfl) | exact .inr (.inr rfl))))))) ss_nil)
  (ss_one (s_ret (se_op opD_mod (SV (se_bi (pe_callTy cb_int rfl g.f_int rfl (sav_cons (SV (se_op opD_add (SV (se_op opD_mul (SV (se_v rfl (by first | exact .inl rfl | exact .inr (.inl rfl) | exact .inr (.inr rfl)))) (SV se_int))) (SV se_int))) sav_nil)))) (SV (se_v rfl (by first | exact .inl rfl | exact .inr (.inl rfl) | exact .inr (.inr rfl))))))))))
theorem dn_f_law_draw (X : K.In h) (G : h.Ns mainGlobals mg) (c : He.SaysD fa fn K) (g : Gx K mg (caK K tf)) : Dn Pg w K mg (caK K tf) P "_law_draw" f_law_draw := by
  obtain ⟨fd, F⟩ := c.def_ 12 (d := d_f_law_draw) rfl
  exact ⟨_, _, _, _, _, _, fd, ["box", "many", "at"], ["box", "many"], F, He.glo_ok X G (c.fact 12 (f := .glo "_law_draw") rfl), sc_f_law_draw, rfl, rfl, F.bindsN fun _ _ _ _ _ _ us hl => match us, hl with | [_, _], _ => rfl, fun base cdv A out s H E e n tb hc cal xs sl => dv_f_law_draw g cal xs sl⟩
theorem sc_f_law_same : FnScope ["actual", "due"] ["actual", "due"] (defScope (top 11)) := ⟨rfl, rfl, rfl, by decide +kernel, rfl, by decide +kernel, by decide +kernel⟩
theorem dv_f_law_same {base : Heap} {a : Addr} {cdv : Value} {A : Around} {out : List Env} {s : Shared} {H : Hp} {E : XK} {e : En} {n : Nat} (g : Gx K mg ca)
    (cal : ∀ g d, P g = some d → Callee (cx Pg w K mg base ["actual", "due"] "_law_same" (defScope (top 11)) a cdv A out s H E) ca n (Ev.callN P n) g d.np d.own) (xs : XS (cx Pg w K mg base ["actual", "due"] "_law_same" (defScope (top 11)) a cdv A out s H E) (EvS.wE E) n) (sl : Slk (cx Pg w K mg base ["actual", "due"] "_law_same" (defScope (top 11)) a cdv A out s H E) n) :
    PSs (cx Pg w K mg base ["actual", "due"] "_law_same" (defScope (top 11)) a cdv A out s H E) (defBody (top 11)) (tS (ct (cx Pg w K mg base ["actual", "due"] "_law_same" (defScope (top 11)) a cdv A out s H E) ca) (EvS.wE E) e (f_law_same.body (Ev.callN P n))) :=
  (ss_one (s_ret (se_cmp (opC_eq xs.u64) (SV (se_bi (pe_callB (cb_repr xs.room.g xs.u65) rfl g.f_repr rfl (sav_cons (SV (se_v rfl (by first | exact .inl rfl | exact .inr (.inl rfl) | exact .inr (.inr rfl)))) sav_nil)))) (SV (se_bi (pe_callB (cb_repr xs.room.g xs.u65) rfl g.f_repr rfl (sav_cons (SV (se_v rfl (by first | exact .inl rfl | exact .inr (.inl rfl) | exact .inr (.inr rfl)))) sav_nil)))) rfl)))
theorem dn_f_law_same (X : K.In h) (G : h.Ns mainGlobals mg) (c : He.SaysD fa fn K) (g : Gx K mg (caK K tf)) : Dn Pg w K mg (caK K tf) P "_law_same" f_law_same := by
  obtain ⟨fd, F⟩ := c.def_ 13 (d := d_f_law_same) rfl
  exact ⟨_, _, _, _, _, _, fd, ["actual", "due"], ["actual", "due"], F, He.glo_ok X G (c.fact 13 (f := .glo "_law_same") rfl), sc_f_law_same, rfl, rfl, F.bindsN fun _ _ _ _ _ _ us hl => match us, hl with | [_, _], _ => rfl, fun base cdv A out s H E e n tb hc cal xs sl => dv_f_law_same g cal xs sl⟩
theorem sc_f_law_types_3 : FnScope ["box", "kind"] ["box"] (defScope (top 12)) := ⟨rfl, rfl, rfl, by decide +kernel, rfl, by decide +kernel, by decide +kernel⟩
theorem dv_f_law_types_3 {base : Heap} {a : Addr} {cdv : Value} {A : Around} {out : List Env} {s : Shared} {H : Hp} {E : XK} {e : En} {n : Nat} (g : Gx K mg ca)
    (cal : ∀ g d, P g = some d → Callee (cx Pg w K mg base ["box", "kind"] "_law_types" (defScope (top 12)) a cdv A out s H E) ca n (Ev.callN P n) g d.np d.own) (xs : XS (cx Pg w K mg base ["box", "kind"] "_law_types" (defScope (top 12)) a cdv A out s H E) (EvS.wE E) n) (sl : Slk (cx Pg w K mg base ["box", "kind"] "_law_types" (defScope (top 12)) a cdv A out s H E) n) :
    PSs (cx Pg w K mg base ["box", "kind"] "_law_types" (defScope (top 12)) a cdv A out s H E) (defBody (top 12)) (tS (ct (cx Pg w K mg base ["box", "kind"] "_law_types" (defScope (top 12)) a cdv A out s H E) ca) (EvS.wE E) e (f_law_types_3.body (Ev.callN P n))) :=
  (ss_cons xs (s_as xs.nd rfl (by first | exact .inl rfl | exact .inr rfl) (se_call ⟨(cal "_law_draw" _ rfl).at_⟩ xs rfl rfl (sa_cons (se_v rfl (by first | exact .inl rfl | exact .inr (.inl rfl) | exact .inr (.inr rfl))) (sa_cons se_int sa_nil)) rfl))
  (ss_cons xs (s_if xs (st_cmp (opC_eq xs.u64) (SV (se_v rfl (by first | exact .inl rfl | exact .inr (.inl rfl) | exact .inr (.inr rfl)))) (SV se_int) rfl) (ss_one (s_ret (se_tup (sa_cons (se_tup (sa_cons se_str (sa_cons (se_tup (sa_cons (se_tup (sa_cons se_str (sa_cons (se_tup sa_nil) sa_nil))) (sa_cons (se_tup (sa_cons se_str (sa_cons (se_tup sa_nil) sa_nil))) sa_nil))) sa_nil))) sa_nil)))) ss_nil)
  (ss_cons xs (s_if xs (st_cmp (opC_eq xs.u64) (SV (se_v rfl (by first | exact .inl rfl | exact .inr (.inl rfl) | exact .inr (.inr rfl)))) (SV se_int) rfl) (ss_one (s_ret (se_tup (sa_cons (se_tup (sa_cons se_str (sa_cons (se_tup (sa_cons (se_tup (sa_cons se_str (sa_cons (se_tup sa_nil) sa_nil))) (sa_cons (se_tup (sa_cons se_str (sa_cons (se_tup (sa_cons se_str (sa_cons se_str sa_nil))) sa_nil))) sa_nil))) sa_nil))) sa_nil)))) ss_nil)
  (ss_cons xs (s_if xs (st_cmp (opC_eq xs.u64) (SV (se_v rfl (by first | exact .inl rfl | exact .inr (.inl rfl) | exact .inr (.inr rfl)))) (SV se_int) rfl) (ss_one (s_ret (se_tup (sa_cons (se_tup (sa_cons se_str (sa_cons (se_tup (sa_cons (se_tup (sa_cons se_str (sa_cons (se_tup sa_nil) sa_nil))) (sa_cons (se_tup (sa_cons se_str (sa_cons (se_tup sa_nil) sa_nil))) sa_nil))) sa_nil))) (sa_cons (se_tup (sa_cons se_str (sa_cons (se_tup (sa_cons (se_tup (sa_cons se_str (sa_cons (se_tup sa_nil) sa_nil))) (sa_cons (se_tup (sa_cons se_str (sa_cons (se_tup (sa_cons se_str (sa_cons se_str sa_nil))) sa_nil))) (sa_cons (se_tup (sa_cons se_str (sa_cons (se_tup (sa_cons se_str (sa_cons se_str sa_nil))) sa_nil))) sa_nil)))) sa_nil))) sa_nil))))) ss_nil)
  (ss_cons xs (s_if xs (st_cmp (opC_eq xs.u64) (SV (se_v rfl (by first | exact .inl rfl | exact .inr (.inl rfl) | exact .inr (.inr rfl)))) (SV se_int) rfl) (ss_one (s_ret (se_tup (sa_cons (se_tup (sa_cons se_str (sa_cons (se_tup (sa_cons (se_tup (sa_cons se_str (sa_cons (se_tup (sa_cons se_str sa_nil)) sa_nil))) (sa_cons (se_tup (sa_cons se_str (sa_cons (se_tup (sa_cons se_str (sa_cons se_str sa_nil))) sa_nil))) (sa_cons (se_tup (sa_cons se_str (sa_cons (se_tup (sa_cons se_str sa_nil)) sa_nil))) sa_nil)))) sa_nil))) (sa_cons (se_tup (sa_cons se_str (sa_cons (se_tup (sa_cons (se_tup (sa_cons se_str (sa_cons (se_tup sa_nil) sa_nil))) (sa_cons (se_tup (sa_cons se_str (sa_cons (se_tup (sa_cons se_str sa_nil)) sa_nil))) sa_nil))) sa_nil))) sa_nil))))) ss_nil)
  (ss_one (s_ret (se_tup (sa_cons (se_tup (sa_cons se_str (sa_cons (se_tup (sa_cons (se_tup (sa_cons se_str (sa_cons (se_tup sa_nil) sa_nil))) (sa_cons (se_tup (sa_cons se_str (sa_cons (se_tup sa_nil) sa_nil))) (sa_cons (se_tup (sa_cons se_str (sa_cons (se_tup sa_nil) sa_nil))) (sa_cons (se_tup (sa_cons se_str (sa_cons (se_tup (sa_cons se_str (sa_cons se_str sa_nil))) sa_nil))) sa_nil))))) sa_nil))) (sa_cons (se_tup (sa_cons se_str (sa_cons (se_tup (sa_cons (se_tup (sa_cons se_str (sa_cons (se_tup sa_nil) sa_nil))) (sa_cons (se_tup (sa_cons se_str (sa_cons (se_tup (sa_cons se_str sa_nil)) sa_nil))) sa_nil))) sa_nil))) sa_nil))))))))))
theorem dn_f_law_types_3 (X : K.In h) (G : h.Ns mainGlobals mg) (c : He.SaysD fa fn K) (g : Gx K mg (caK K tf)) : Dn Pg w K mg (caK K tf) P "_law_types" f_law_types_3 := by
  obtain ⟨fd, F⟩ := c.def_ 14 (d := d_f_law_types_3) rfl
  exact ⟨_, _, _, _, _, _, fd, ["box", "kind"], ["box"], F, He.glo_ok X G (c.fact 14 (f := .glo "_law_types") rfl), sc_f_law_types_3, rfl, rfl, F.bindsN fun _ _ _ _ _ _ us hl => match us, hl with | [_], _ => rfl, fun base cdv A out s H E e n tb hc cal xs sl => dv_f_law_types_3 g cal xs sl⟩
theorem sc_f_law_parameters : FnScope ["box", "types", "names", "row", "k"] ["box", "types"] (defScope (top 13)) := ⟨rfl, rfl, rfl, by decide +kernel, rfl, by decide +kernel, by decide +kernel⟩
theorem dv_f_law_parameters {base : Heap} {a : Addr} {cdv : Value} {A : Around} {out : List Env} {s : Shared} {H : Hp} {E : XK} {e : En} {n : Nat} (g : Gx K mg ca)
    (cal : ∀ g d, P g = some d → Callee (cx Pg w K mg base ["box", "types", "names", "row", "k"] "_law_parameters" (defScope (top 13)) a cdv A out s H E) ca n (Ev.callN P n) g d.np d.own) (xs : XS (cx Pg w K mg base ["box", "types", "names", "row", "k"] "_law_parameters" (defScope (top 13)) a cdv A out s H E) (EvS.wE E) n) (sl : Slk (cx Pg w K mg base ["box", "types", "names", "row", "k"] "_law_parameters" (defScope (top 13)) a cdv A out s H E) n) :
    PSs (cx Pg w K mg base ["box", "types", "names", "row", "k"] "_law_parameters" (defScope (top 13)) a cdv A out s H E) (defBody (top 13)) (tS (ct (cx Pg w K mg base ["box", "types", "names", "row", "k"] "_law_parameters" (defScope (top 13)) a cdv A out s H E) ca) (EvS.wE E) e (f_law_parameters.body (Ev.callN P n))) :=
  (ss_cons xs (s_as xs.nd rfl (by first | exact .inl rfl | exact .inr rfl) (se_op opD_add (SV (SN (sn_comp0 (own := [("row", 3)]) xs (si_e (se_v rfl (by first | exact .inl rfl | exact .inr (.inl rfl) | exact .inr (.inr rfl)))) (blkOk_by (by kernel_rfl)) (fun _ _ _ _ _ => (pg_name xs.blk.nd rfl (by first | exact .inl rfl | exact .inr rfl))) gok_name (by decide) (fun _ _ _ _ _ => (se_ix xs.blk.u1 (SV (se_v rfl (by first | exact .inl rfl | exact .inr (.inl rfl) | exact .inr (.inr rfl)))) se_int))))) (SV (SN (sn_lst (sa_cons se_str sa_nil))))))
  (ss_one (s_ret (se_bi (pe_callTy cb_tuple rfl g.f_tuple rfl (sav_cons (SV (SN (sn_comp0 (own := [("k", 4)]) xs (si_range1 rfl g.f_range (se_op opD_add (SV se_int) (SV (se_call ⟨(cal "_law_draw" _ rfl).at_⟩ xs rfl rfl (sa_cons (se_v rfl (by first | exact .inl rfl | exact .inr (.inl rfl) | exact .inr (.inr rfl))) (sa_cons se_int sa_nil)) rfl)))) (blkOk_by (by kernel_rfl)) (fun _ _ _ _ _ => (pg_name xs.blk.nd rfl (by first | exact .inl rfl | exact .inr rfl))) gok_name (by decide) (fun _ _ _ _ _ => (se_ix xs.blk.u1 (SV (se_v rfl (by first | exact .inl rfl | exact .inr (.inl rfl) | exact .inr (.inr rfl)))) (se_op opD_mod (SV (se_bi (pe_callTy cb_int rfl g.f_int rfl (sav_cons (SV (se_call ⟨(cal "_law_draw" _ rfl).at_⟩ xs.blk rfl rfl (sa_cons (se_v rfl (by first | exact .inl rfl | exact .inr (.inl rfl) | exact .inr (.inr rfl))) (sa_cons se_int sa_nil)) rfl)) sav_nil)))) (SV (se_bi (pe_callB cb_len rfl g.f_len rfl (sav_cons (SV (se_v rfl (by first | exact .inl rfl | exact .inr (.inl rfl) | exact .inr (.inr rfl)))) sav_nil)))))))))) sav_nil))))))
theorem dn_f_law_parameters (X : K.In h) (G : h.Ns mainGlobals mg) (c : He.SaysD fa fn K) (g : Gx K mg (caK K tf)) : Dn Pg w K mg (caK K tf) P "_law_parameters" f_law_parameters := by
  obtain ⟨fd, F⟩ := c.def_ 15 (d := d_f_law_parameters) rfl
  exact ⟨_, _, _, _, _, _, fd, ["box", "types", "names", "row", "k"], ["box", "types"], F, He.glo_ok X G (c.fact 15 (f := .glo "_law_parameters") rfl), sc_f_law_parameters, rfl, rfl, F.bindsN fun _ _ _ _ _ _ us hl => match us, hl with | [_, _], _ => rfl, fun base cdv A out s H E e n tb hc cal xs sl => dv_f_law_parameters g cal xs sl⟩
theorem sc_f_law_constructors : FnScope ["types", "name", "row"] ["types", "name"] (defScope (top 14)) := ⟨rfl, rfl, rfl, by decide +kernel, rfl, by decide +kernel, by decide +kernel⟩
theorem dv_f_law_constructors {base : Heap} {a : Addr} {cdv : Value} {A : Around} {out : List Env} {s : Shared} {H : Hp} {E : XK} {e : En} {n : Nat} (g : Gx K mg ca)
    (cal : ∀ g d, P g = some d → Callee (cx Pg w K mg base ["types", "name", "row"] "_law_constructors" (defScope (top 14)) a cdv A out s H E) ca n (Ev.callN P n) g d.np d.own) (xs : XS (cx Pg w K mg base ["types", "name", "row"] "_law_constructors" (defScope (top 14)) a cdv A out s H E) (EvS.wE E) n) (sl : Slk (cx Pg w K mg base ["types", "name", "row"] "_law_constructors" (defScope (top 14)) a cdv A out s H E) n) :
    PSs (cx Pg w K mg base ["types", "name", "row"] "_law_constructors" (defScope (top 14)) a cdv A out s H E) (defBody (top 14)) (tS (ct (cx Pg w K mg base ["types", "name", "row"] "_law_constructors" (defScope (top 14)) a cdv A out s H E) ca) (EvS.wE E) e (f_law_constructors.body (Ev.callN P n))) :=
  (ss_cons xs (s_for xs (si_e (se_v rfl (by first | exact .inl rfl | exact .inr (.inl rfl) | exact .inr (.inr rfl)))) (pg_name xs.nd rfl (by first | exact .inl rfl | exact .inr rfl)) gok_name (ss_one (s_if xs (st_cmp (opC_eq xs.u64) (SV (se_ix xs.u1 (SV (se_v rfl (by first | exact .inl rfl | exact .inr (.inl rfl) | exact .inr (.inr rfl)))) se_int)) (SV (se_v rfl (by first | exact .inl rfl | exact .inr (.inl rfl) | exact .inr (.inr rfl)))) rfl) (ss_one (s_ret (se_ix xs.u1 (SV (se_v rfl (by first | exact .inl rfl | exact .inr (.inl rfl) | exact .inr (.inr rfl)))) se_int))) ss_nil)))
  (ss_one (s_ret (se_tup sa_nil))))
theorem dn_f_law_constructors (X : K.In h) (G : h.Ns mainGlobals mg) (c : He.SaysD fa fn K) (g : Gx K mg (caK K tf)) : Dn Pg w K mg (caK K tf) P "_law_constructors" f_law_constructors := by
  obtain ⟨fd, F⟩ := c.def_ 16 (d := d_f_law_constructors) rfl
  exact ⟨_, _, _, _, _, _, fd, ["types", "name", "row"], ["types", "name"], F, He.glo_ok X G (c.fact 16 (f := .glo "_law_constructors") rfl), sc_f_law_constructors, rfl, rfl, F.bindsN fun _ _ _ _ _ _ us hl => match us, hl with | [_, _], _ => rfl, fun base cdv A out s H E e n tb hc cal xs sl => dv_f_law_constructors g cal xs sl⟩
theorem sc_f_law_value_2 : FnScope ["box", "types", "name", "depth", "rows", "made", "field"] ["box", "types", "name", "depth"] (defScope (top 15)) := ⟨rfl, rfl, rfl, by decide +kernel, rfl, by decide +kernel, by decide +kernel⟩
theorem dv_f_law_value_2 {base : Heap} {a : Addr} {cdv : Value} {A : Around} {out : List Env} {s : Shared} {H : Hp} {E : XK} {e : En} {n : Nat} (g : Gx K mg ca)
    (cal : ∀ g d, P g = some d → Callee (cx Pg w K mg base ["box", "types", "name", "depth", "rows", "made", "field"] "_law_value" (defScope (top 15)) a cdv A out s H E) ca n (Ev.callN P n) g d.np d.own) (xs : XS (cx Pg w K mg base ["box", "types", "name", "depth", "rows", "made", "field"] "_law_value" (defScope (top 15)) a cdv A out s H E) (EvS.wE E) n) (sl : Slk (cx Pg w K mg base ["box", "types", "name", "depth", "rows", "made", "field"] "_law_value" (defScope (top 15)) a cdv A out s H E) n) :
    PSs (cx Pg w K mg base ["box", "types", "name", "depth", "rows", "made", "field"] "_law_value" (defScope (top 15)) a cdv A out s H E) (defBody (top 15)) (tS (ct (cx Pg w K mg base ["box", "types", "name", "depth", "rows", "made", "field"] "_law_value" (defScope (top 15)) a cdv A out s H E) ca) (EvS.wE E) e (f_law_value_2.body (Ev.callN P n))) :=
  (ss_cons xs (s_if xs (st_cmp (opC_eq xs.u64) (SV (se_v rfl (by first | exact .inl rfl | exact .inr (.inl rfl) | exact .inr (.inr rfl)))) (SV se_str) rfl) (ss_one (s_ret (se_tup (sa_cons se_str (sa_cons (se_op opD_sub (SV (se_call ⟨(cal "_law_draw" _ rfl).at_⟩ xs rfl rfl (sa_cons (se_v rfl (by first | exact .inl rfl | exact .inr (.inl rfl) | exact .inr (.inr rfl))) (sa_cons se_int sa_nil)) rfl)) (SV se_int)) sa_nil))))) ss_nil)
  (ss_cons xs (s_as xs.nd rfl (by first | exact .inl rfl | exact .inr rfl) (se_call ⟨(cal "_law_constructors" _ rfl).at_⟩ xs rfl rfl (sa_cons (se_v rfl (by first | exact .inl rfl | exact .inr (.inl rfl) | exact .inr (.inr rfl))) (sa_cons (se_v rfl (by first | exact .inl rfl | exact .inr (.inl rfl) | exact .inr (.inr rfl))) sa_nil)) rfl))
  (ss_cons xs (s_as xs.nd rfl (by first | exact .inl rfl | exact .inr rfl) (se_ix xs.u1 (SV (se_v rfl (by first | exact .inl rfl | exact .inr (.inl rfl) | exact .inr (.inr rfl)))) (se_op opD_mod (SV (se_bi (pe_callTy cb_int rfl g.f_int rfl (sav_cons (SV (se_call ⟨(cal "_law_draw" _ rfl).at_⟩ xs rfl rfl (sa_cons (se_v rfl (by first | exact .inl rfl | exact .inr (.inl rfl) | exact .inr (.inr rfl))) (sa_cons se_int sa_nil)) rfl)) sav_nil)))) (SV (se_bi (pe_callB cb_len rfl g.f_len rfl (sav_cons (SV (se_v rfl (by first | exact .inl rfl | exact .inr (.inl rfl) | exact .inr (.inr rfl)))) sav_nil)))))))
  (ss_cons xs (s_if xs (st_cmp (opC_eq xs.u64) (SV (se_v rfl (by first | exact .inl rfl | exact .inr (.inl rfl) | exact .inr (.inr rfl)))) (SV se_int) rfl) (ss_one (s_as xs.nd rfl (by first | exact .inl rfl | exact .inr rfl) (se_call ⟨(cal "_law_small" _ rfl).at_⟩ xs rfl rfl (sa_cons (se_v rfl (by first | exact .inl rfl | exact .inr (.inl rfl) | exact .inr (.inr rfl))) (sa_cons (se_v rfl (by first | exact .inl rfl | exact .inr (.inl rfl) | exact .inr (.inr rfl))) sa_nil)) rfl))) ss_nil)
  (ss_one (s_ret (se_tup (sa_cons se_str (sa_cons (se_ix xs.u1 (SV (se_v rfl (by first | exact .inl rfl | exact .inr (.inl rfl) | exact .inr (.inr rfl)))) se_int) (sa_cons (se_bi (pe_callTy cb_tuple rfl g.f_tuple rfl (sav_cons (SV (SN (sn_comp0 (own := [("field", 6)]) xs (si_e (se_ix xs.u1 (SV (se_v rfl (by first | exact .inl rfl | exact .inr (.inl rfl) | exact .inr (.inr rfl)))) se_int)) (blkOk_by (by kernel_rfl)) (fun _ _ _ _ _ => (pg_name xs.blk.nd rfl (by first | exact .inl rfl | exact .inr rfl))) gok_name (by decide) (fun _ _ _ _ _ => (se_call ⟨(cal "_law_value" _ rfl).at_⟩ xs.blk rfl rfl (sa_cons (se_v rfl (by first | exact .inl rfl | exact .inr (.inl rfl) | exact .inr (.inr rfl))) (sa_cons (se_v rfl (by first | exact .inl rfl | exact .inr (.inl rfl) | exact .inr (.inr rfl))) (sa_cons (se_v rfl (by first | exact .inl rfl | exact .inr (.inl rfl) | exact .inr (.inr rfl))) (sa_cons (se_bi (pe_callB (cb_max xs.blk.calm) rfl g.f_max rfl (sav_cons (SV se_int) (sav_cons (SV (se_op opD_sub (SV (se_v rfl (by first | exact .inl rfl | exact .inr (.inl rfl) | exact .inr (.inr rfl)))) (SV se_int))) sav_nil)))) sa_nil)))) rfl))))) sav_nil))) sa_nil))))))))))
theorem dn_f_law_value_2 (X : K.In h) (G : h.Ns mainGlobals mg) (c : He.SaysD fa fn K) (g : Gx K mg (caK K tf)) : Dn Pg w K mg (caK K tf) P "_law_value" f_law_value_2 := by
  obtain ⟨fd, F⟩ := c.def_ 17 (d := d_f_law_value_2) rfl
  exact ⟨_, _, _, _, _, _, fd, ["box", "types", "name", "depth", "rows", "made", "field"], ["box", "types", "name", "depth"], F, He.glo_ok X G (c.fact 17 (f := .glo "_law_value") rfl), sc_f_law_value_2, rfl, rfl, F.bindsN fun _ _ _ _ _ _ us hl => match us, hl with | [_, _, _, _], _ => rfl, fun base cdv A out s H E e n tb hc cal xs sl => dv_f_law_value_2 g cal xs sl⟩
theorem sc_f_law_small : FnScope ["types", "name", "rows", "row"] ["types", "name"] (defScope (top 16)) := ⟨rfl, rfl, rfl, by decide +kernel, rfl, by decide +kernel, by decide +kernel⟩
theorem dv_f_law_small {base : Heap} {a : Addr} {cdv : Value} {A : Around} {out : List Env} {s : Shared} {H : Hp} {E : XK} {e : En} {n : Nat} (g : Gx K mg ca)
    (cal : ∀ g d, P g = some d → Callee (cx Pg w K mg base ["types", "name", "rows", "row"] "_law_small" (defScope (top 16)) a cdv A out s H E) ca n (Ev.callN P n) g d.np d.own) (xs : XS (cx Pg w K mg base ["types", "name", "rows", "row"] "_law_small" (defScope (top 16)) a cdv A out s H E) (EvS.wE E) n) (sl : Slk (cx Pg w K mg base ["types", "name", "rows", "row"] "_law_small" (defScope (top 16)) a cdv A out s H E) n) :
    PSs (cx Pg w K mg base ["types", "name", "rows", "row"] "_law_small" (defScope (top 16)) a cdv A out s H E) (defBody (top 16)) (tS (ct (cx Pg w K mg base ["types", "name", "rows", "row"] "_law_small" (defScope (top 16)) a cdv A out s H E) ca) (EvS.wE E) e (f_law_small.body (Ev.callN P n))) :=
  (ss_cons xs (s_as xs.nd rfl (by first | exact .inl rfl | exact .inr rfl) (se_call ⟨(cal "_law_constructors" _ rfl).at_⟩ xs rfl rfl (sa_cons (se_v rfl (by first | exact .inl rfl | exact .inr (.inl rfl) | exact .inr (.inr rfl))) (sa_cons (se_v rfl (by first | exact .inl rfl | exact .inr (.inl rfl) | exact .inr (.inr rfl))) sa_nil)) rfl))
  (ss_cons xs (s_for xs (si_e (se_v rfl (by first | exact .inl rfl | exact .inr (.inl rfl) | exact .inr (.inr rfl)))) (pg_name xs.nd rfl (by first | exact .inl rfl | exact .inr rfl)) gok_name (ss_one (s_if xs (PW.pt (sw_or (st_cmp (opC_eq xs.u64) (SV (se_ix xs.u1 (SV (se_v rfl (by first | exact .inl rfl | exact .inr (.inl rfl) | exact .inr (.inr rfl)))) se_int)) (SV (se_tup sa_nil)) rfl) (sw_or1 (st_cmp (opC_eq xs.u64) (SV (se_ix xs.u1 (SV (se_v rfl (by first | exact .inl rfl | exact .inr (.inl rfl) | exact .inr (.inr rfl)))) se_int)) (SV (se_tup (sa_cons se_str sa_nil))) rfl)))) (ss_one (s_ret (se_v rfl (by first | exact .inl rfl | exact .inr (.inl rfl) | exact .inr (.inr rfl))))) ss_nil)))
  (ss_one (s_ret (se_ix xs.u1 (SV (se_v rfl (by first | exact .inl rfl | exact .inr (.inl rfl) | exact .inr (.inr rfl)))) se_int)))))
theorem dn_f_law_small (X : K.In h) (G : h.Ns mainGlobals mg) (c : He.SaysD fa fn K) (g : Gx K mg (caK K tf)) : Dn Pg w K mg (caK K tf) P "_law_small" f_law_small := by
  obtain ⟨fd, F⟩ := c.def_ 18 (d := d_f_law_small) rfl
  exact ⟨_, _, _, _, _, _, fd, ["types", "name", "rows", "row"], ["types", "name"], F, He.glo_ok X G (c.fact 18 (f := .glo "_law_small") rfl), sc_f_law_small, rfl, rfl, F.bindsN fun _ _ _ _ _ _ us hl => match us, hl with | [_, _], _ => rfl, fun base cdv A out s H E e n tb hc cal xs sl => dv_f_law_small g cal xs sl⟩
theorem sc_f_law_values : FnScope ["box", "types", "parameters", "name"] ["box", "types", "parameters"] (defScope (top 17)) := ⟨rfl, rfl, rfl, by decide +kernel, rfl, by decide +kernel, by decide +kernel⟩
theorem dv_f_law_values {base : Heap} {a : Addr} {cdv : Value} {A : Around} {out : List Env} {s : Shared} {H : Hp} {E : XK} {e : En} {n : Nat} (g : Gx K mg ca)
    (cal : ∀ g d, P g = some d → Callee (cx Pg w K mg base ["box", "types", "parameters", "name"] "_law_values" (defScope (top 17)) a cdv A out s H E) ca n (Ev.callN P n) g d.np d.own) (xs : XS (cx Pg w K mg base ["box", "types", "parameters", "name"] "_law_values" (defScope (top 17)) a cdv A out s H E) (EvS.wE E) n) (sl : Slk (cx Pg w K mg base ["box", "types", "parameters", "name"] "_law_values" (defScope (top 17)) a cdv A out s H E) n) :
    PSs (cx Pg w K mg base ["box", "types", "parameters", "name"] "_law_values" (defScope (top 17)) a cdv A out s H E) (defBody (top 17)) (tS (ct (cx Pg w K mg base ["box", "types", "parameters", "name"] "_law_values" (defScope (top 17)) a cdv A out s H E) ca) (EvS.wE E) e (f_law_values.body (Ev.callN P n))) :=
  (ss_one (s_ret (se_bi (pe_callTy cb_tuple rfl g.f_tuple rfl (sav_cons (SV (SN (sn_comp0 (own := [("name", 3)]) xs (si_e (se_v rfl (by first | exact .inl rfl | exact .inr (.inl rfl) | exact .inr (.inr rfl)))) (blkOk_by (by kernel_rfl)) (fun _ _ _ _ _ => (pg_name xs.blk.nd rfl (by first | exact .inl rfl | exact .inr rfl))) gok_name (by decide) (fun _ _ _ _ _ => (se_call ⟨(cal "_law_value" _ rfl).at_⟩ xs.blk rfl rfl (sa_cons (se_v rfl (by first | exact .inl rfl | exact .inr (.inl rfl) | exact .inr (.inr rfl))) (sa_cons (se_v rfl (by first | exact .inl rfl | exact .inr (.inl rfl) | exact .inr (.inr rfl))) (sa_cons (se_v rfl (by first | exact .inl rfl | exact .inr (.inl rfl) | exact .inr (.inr rfl))) (sa_cons (se_call ⟨(cal "_law_draw" _ rfl).at_⟩ xs.blk rfl rfl (sa_cons (se_v rfl (by first | exact .inl rfl | exact .inr (.inl rfl) | exact .inr (.inr rfl))) (sa_cons se_int sa_nil)) rfl) sa_nil)))) rfl))))) sav_nil)))))
theorem dn_f_law_values (X : K.In h) (G : h.Ns mainGlobals mg) (c : He.SaysD fa fn K) (g : Gx K mg (caK K tf)) : Dn Pg w K mg (caK K tf) P "_law_values" f_law_values := by
  obtain ⟨fd, F⟩ := c.def_ 19 (d := d_f_law_values) rfl
  exact ⟨_, _, _, _, _, _, fd, ["box", "types", "parameters", "name"], ["box", "types", "parameters"], F, He.glo_ok X G (c.fact 19 (f := .glo "_law_values") rfl), sc_f_law_values, rfl, rfl, F.bindsN fun _ _ _ _ _ _ us hl => match us, hl with | [_, _, _], _ => rfl, fun base cdv A out s H E e n tb hc cal xs sl => dv_f_law_values g cal xs sl⟩
theorem sc_f_law_answers : FnScope ["box", "k"] ["box"] (defScope (top 18)) := ⟨rfl, rfl, rfl, by decide +kernel, rfl, by decide +kernel, by decide +kernel⟩
theorem dv_f_law_answers {base : Heap} {a : Addr} {cdv : Value} {A : Around} {out : List Env} {s : Shared} {H : Hp} {E : XK} {e : En} {n : Nat} (g : Gx K mg ca)
    (cal : ∀ g d, P g = some d → Callee (cx Pg w K mg base ["box", "k"] "_law_answers" (defScope (top 18)) a cdv A out s H E) ca n (Ev.callN P n) g d.np d.own) (xs : XS (cx Pg w K mg base ["box", "k"] "_law_answers" (defScope (top 18)) a cdv A out s H E) (EvS.wE E) n) (sl : Slk (cx Pg w K mg base ["box", "k"] "_law_answers" (defScope (top 18)) a cdv A out s H E) n) :
    PSs (cx Pg w K mg base ["box", "k"] "_law_answers" (defScope (top 18)) a cdv A out s H E) (defBody (top 18)) (tS (ct (cx Pg w K mg base ["box", "k"] "_law_answers" (defScope (top 18)) a cdv A out s H E) ca) (EvS.wE E) e (f_law_answers.body (Ev.callN P n))) :=
  (ss_one (s_ret (se_bi (pe_callTy cb_tuple rfl g.f_tuple rfl (sav_cons (SV (SN (sn_comp0 (own := [("k", 1)]) xs (si_range1 rfl g.f_range (se_call ⟨(cal "_law_draw" _ rfl).at_⟩ xs rfl rfl (sa_cons (se_v rfl (by first | exact .inl rfl | exact .inr (.inl rfl) | exact .inr (.inr rfl))) (sa_cons se_int sa_nil)) rfl)) (blkOk_by (by kernel_rfl)) (fun _ _ _ _ _ => (pg_name xs.blk.nd rfl (by first | exact .inl rfl | exact .inr rfl))) gok_name (by decide) (fun _ _ _ _ _ => (se_cmp (opC_eq xs.blk.u64) (SV (se_call ⟨(cal "_law_draw" _ rfl).at_⟩ xs.blk rfl rfl (sa_cons (se_v rfl (by first | exact .inl rfl | exact .inr (.inl rfl) | exact .inr (.inr rfl))) (sa_cons se_int sa_nil)) rfl)) (SV se_int) rfl))))) sav_nil)))))
theorem dn_f_law_answers (X : K.In h) (G : h.Ns mainGlobals mg) (c : He.SaysD fa fn K) (g : Gx K mg (caK K tf)) : Dn Pg w K mg (caK K tf) P "_law_answers" f_law_answers := by
  obtain ⟨fd, F⟩ := c.def_ 20 (d := d_f_law_answers) rfl
  exact ⟨_, _, _, _, _, _, fd, ["box", "k"], ["box"], F, He.glo_ok X G (c.fact 20 (f := .glo "_law_answers") rfl), sc_f_law_answers, rfl, rfl, F.bindsN fun _ _ _ _ _ _ us hl => match us, hl with | [_], _ => rfl, fun base cdv A out s H E e n tb hc cal xs sl => dv_f_law_answers g cal xs sl⟩
theorem sc_f_law_at_2 : FnScope ["values", "path", "value", "at"] ["values", "path"] (defScope (top 19)) := ⟨rfl, rfl, rfl, by decide +kernel, rfl, by decide +kernel, by decide +kernel⟩
theorem dv_f_law_at_2 {base : Heap} {a : Addr} {cdv : Value} {A : Around} {out : List Env} {s : Shared} {H : Hp} {E : XK} {e : En} {n : Nat} (g : Gx K mg ca)
    (cal : ∀ g d, P g = some d → Callee (cx Pg w K mg base ["values", "path", "value", "at"] "_law_at" (defScope (top 19)) a cdv A out s H E) ca n (Ev.callN P n) g d.np d.own) (xs : XS (cx Pg w K mg base ["values", "path", "value", "at"] "_law_at" (defScope (top 19)) a cdv A out s H E) (EvS.wE E) n) (sl : Slk (cx Pg w K mg base ["values", "path", "value", "at"] "_law_at" (defScope (top 19)) a cdv A out s H E) n) :
    PSs (cx Pg w K mg base ["values", "path", "value", "at"] "_law_at" (defScope (top 19)) a cdv A out s H E) (defBody (top 19)) (tS (ct (cx Pg w K mg base ["values", "path", "value", "at"] "_law_at" (defScope (top 19)) a cdv A out s H E) ca) (EvS.wE E) e (f_law_at_2.body (Ev.callN P n))) :=
  (ss_cons xs (s_as xs.nd rfl (by first | exact .inl rfl | exact .inr rfl) (se_ix xs.u1 (SV (se_v rfl (by first | exact .inl rfl | exact .inr (.inl rfl) | exact .inr (.inr rfl)))) (se_ix xs.u1 (SV (se_v rfl (by first | exact .inl rfl | exact .inr (.inl rfl) | exact .inr (.inr rfl)))) se_int)))
  (ss_cons xs (s_for xs (si_e (se_slc (SV (se_v rfl (by first | exact .inl rfl | exact .inr (.inl rfl) | exact .inr (.inr rfl)))) (so_e se_int) so_n)) (pg_name xs.nd rfl (by first | exact .inl rfl | exact .inr rfl)) gok_name (ss_one (s_as xs.nd rfl (by first | exact .inl rfl | exact .inr rfl) (se_ix xs.u1 (SV (se_ix xs.u1 (SV (se_v rfl (by first | exact .inl rfl | exact .inr (.inl rfl) | exact .inr (.inr rfl)))) se_int)) (se_v rfl (by first | exact .inl rfl | exact .inr (.inl rfl) | exact .inr (.inr rfl)))))))
  (ss_one (s_ret (se_v rfl (by first | exact .inl rfl | exact .inr (.inl rfl) | exact .inr (.inr rfl)))))))
theorem dn_f_law_at_2 (X : K.In h) (G : h.Ns mainGlobals mg) (c : He.SaysD fa fn K) (g : Gx K mg (caK K tf)) : Dn Pg w K mg (caK K tf) P "_law_at" f_law_at_2 := by
  obtain ⟨fd, F⟩ := c.def_ 21 (d := d_f_law_at_2) rfl
  exact ⟨_, _, _, _, _, _, fd, ["values", "path", "value", "at"], ["values", "path"], F, He.glo_ok X G (c.fact 21 (f := .glo "_law_at") rfl), sc_f_law_at_2, rfl, rfl, F.bindsN fun _ _ _ _ _ _ us hl => match us, hl with | [_, _], _ => rfl, fun base cdv A out s H E e n tb hc cal xs sl => dv_f_law_at_2 g cal xs sl⟩
theorem sc_f_law_bound : FnScope ["bindings", "values", "name", "path"] ["bindings", "values"] (defScope (top 20)) := ⟨rfl, rfl, rfl, by decide +kernel, rfl, by decide +kernel, by decide +kernel⟩
theorem dv_f_law_bound {base : Heap} {a : Addr} {cdv : Value} {A : Around} {out : List Env} {s : Shared} {H : Hp} {E : XK} {e : En} {n : Nat} (g : Gx K mg ca)
    (cal : ∀ g d, P g = some d → Callee (cx Pg w K mg base ["bindings", "values", "name", "path"] "_law_bound" (defScope (top 20)) a cdv A out s H E) ca n (Ev.callN P n) g d.np d.own) (xs : XS (cx Pg w K mg base ["bindings", "values", "name", "path"] "_law_bound" (defScope (top 20)) a cdv A out s H E) (EvS.wE E) n) (sl : Slk (cx Pg w K mg base ["bindings", "values", "name", "path"] "_law_bound" (defScope (top 20)) a cdv A out s H E) n) :
    PSs (cx Pg w K mg base ["bindings", "values", "name", "path"] "_law_bound" (defScope (top 20)) a cdv A out s H E) (defBody (top 20)) (tS (ct (cx Pg w K mg base ["bindings", "values", "name", "path"] "_law_bound" (defScope (top 20)) a cdv A out s H E) ca) (EvS.wE E) e (f_law_bound.body (Ev.callN P n))) :=
  (ss_one (s_ret (se_bi (pe_callTy cb_tuple rfl g.f_tuple rfl (sav_cons (SV (SN (sn_comp0 (own := [("name", 2), ("path", 3)]) xs (si_e (SN (sn_bi (pe_callB (cb_sorted xs.u67) rfl g.f_sorted rfl (sav_cons (SV (se_v rfl (by first | exact .inl rfl | exact .inr (.inl rfl) | exact .inr (.inr rfl)))) sav_nil))))) (blkOk_by (by kernel_rfl)) (fun _ _ _ _ _ => (pg_seq xs.blk.calm (pgs_cons (pg_name xs.blk.nd rfl (by first | exact .inl rfl | exact .inr rfl)) (pgs_cons (pg_name xs.blk.nd rfl (by first | exact .inl rfl | exact .inr rfl)) pgs_nil)))) (gok_seq rfl (gsok_cons gok_name (gsok_cons gok_name gsok_nil))) (by decide) (fun _ _ _ _ _ => (se_tup (sa_cons (se_v rfl (by first | exact .inl rfl | exact .inr (.inl rfl) | exact .inr (.inr rfl))) (sa_cons (se_call ⟨(cal "_law_at" _ rfl).at_⟩ xs.blk rfl rfl (sa_cons (se_v rfl (by first | exact .inl rfl | exact .inr (.inl rfl) | exact .inr (.inr rfl))) (sa_cons (se_v rfl (by first | exact .inl rfl | exact .inr (.inl rfl) | exact .inr (.inr rfl))) sa_nil)) rfl) sa_nil))))))) sav_nil)))))
theorem dn_f_law_bound (X : K.In h) (G : h.Ns mainGlobals mg) (c : He.SaysD fa fn K) (g : Gx K mg (caK K tf)) : Dn Pg w K mg (caK K tf) P "_law_bound" f_law_bound := by
  obtain ⟨fd, F⟩ := c.def_ 22 (d := d_f_law_bound) rfl
  exact ⟨_, _, _, _, _, _, fd, ["bindings", "values", "name", "path"], ["bindings", "values"], F, He.glo_ok X G (c.fact 22 (f := .glo "_law_bound") rfl), sc_f_law_bound, rfl, rfl, F.bindsN fun _ _ _ _ _ _ us hl => match us, hl with | [_, _], _ => rfl, fun base cdv A out s H E e n tb hc cal xs sl => dv_f_law_bound g cal xs sl⟩
theorem sc_f_law_walked : FnScope ["box", "values", "path", "value", "turn", "at"] ["box", "values"] (defScope (top 21)) := ⟨rfl, rfl, rfl, by decide +kernel, rfl, by decide +kernel, by decide +kernel⟩
theorem dv_f_law_walked {base : Heap} {a : Addr} {cdv : Value} {A : Around} {out : List Env} {s : Shared} {H : Hp} {E : XK} {e : En} {n : Nat} (g : Gx K mg ca)
    (cal : ∀ g d, P g = some d → Callee (cx Pg w K mg base ["box", "values", "path", "value", "turn", "at"] "_law_walked" (defScope (top 21)) a cdv A out s H E) ca n (Ev.callN P n) g d.np d.own) (xs : XS (cx Pg w K mg base ["box", "values", "path", "value", "turn", "at"] "_law_walked" (defScope (top 21)) a cdv A out s H E) (EvS.wE E) n) (sl : Slk (cx Pg w K mg base ["box", "values", "path", "value", "turn", "at"] "_law_walked" (defScope (top 21)) a cdv A out s H E) n) :
    PSs (cx Pg w K mg base ["box", "values", "path", "value", "turn", "at"] "_law_walked" (defScope (top 21)) a cdv A out s H E) (defBody (top 21)) (tS (ct (cx Pg w K mg base ["box", "values", "path", "value", "turn", "at"] "_law_walked" (defScope (top 21)) a cdv A out s H E) ca) (EvS.wE E) e (f_law_walked.body (Ev.callN P n))) :=
  (ss_cons xs (s_as xs.nd rfl (by first | exact .inl rfl | exact .inr rfl) (se_tup (sa_cons (se_op opD_mod (SV (se_bi (pe_callTy cb_int rfl g.f_int rfl (sav_cons (SV (se_call ⟨(cal "_law_draw" _ rfl).at_⟩ xs rfl rfl (sa_cons (se_v rfl (by first | exact .inl rfl | exact .inr (.inl rfl) | exact .inr (.inr rfl))) (sa_cons se_int sa_nil)) rfl)) sav_nil)))) (SV (se_bi (pe_callB cb_len rfl g.f_len rfl (sav_cons (SV (se_v rfl (by first | exact .inl rfl | exact .inr (.inl rfl) | exact .inr (.inr rfl)))) sav_nil))))) sa_nil)))
  (ss_cons xs (s_as xs.nd rfl (by first | exact .inl rfl | exact .inr rfl) (se_ix xs.u1 (SV (se_v rfl (by first | exact .inl rfl | exact .inr (.inl rfl) | exact .inr (.inr rfl)))) (se_ix xs.u1 (SV (se_v rfl (by first | exact .inl rfl | exact .inr (.inl rfl) | exact .inr (.inr rfl)))) se_int)))
  (ss_cons xs (s_for xs (si_range1 rfl g.f_range (se_call ⟨(cal "_law_draw" _ rfl).at_⟩ xs rfl rfl (sa_cons (se_v rfl (by first | exact .inl rfl | exact .inr (.inl rfl) | exact .inr (.inr rfl))) (sa_cons se_int sa_nil)) rfl)) (pg_name xs.nd rfl (by first | exact .inl rfl | exact .inr rfl)) gok_name (ss_one (s_if xs (PW.pt (sw_and (st_cmp (opC_eq xs.u64) (SV (se_ix xs.u1 (SV (se_v rfl (by first | exact .inl rfl | exact .inr (.inl rfl) | exact .inr (.inr rfl)))) se_int)) (SV se_str) rfl) (sw_and1 (st_cmp opC_gt (SV (se_bi (pe_callB cb_len rfl g.f_len rfl (sav_cons (SV (se_ix xs.u1 (SV (se_v rfl (by first | exact .inl rfl | exact .inr (.inl rfl) | exact .inr (.inr rfl)))) se_int)) sav_nil)))) (SV se_int) rfl)))) (ss_cons xs (s_as xs.nd rfl (by first | exact .inl rfl | exact .inr rfl) (se_op opD_mod (SV (se_bi (pe_callTy cb_int rfl g.f_int rfl (sav_cons (SV (se_call ⟨(cal "_law_draw" _ rfl).at_⟩ xs rfl rfl (sa_cons (se_v rfl (by first | exact .inl rfl | exact .inr (.inl rfl) | exact .inr (.inr rfl))) (sa_cons se_int sa_nil)) rfl)) sav_nil)))) (SV (se_bi (pe_callB cb_len rfl g.f_len rfl (sav_cons (SV (se_ix xs.u1 (SV (se_v rfl (by first | exact .inl rfl | exact .inr (.inl rfl) | exact .inr (.inr rfl)))) se_int)) sav_nil))))))
  (ss_cons xs (s_as xs.nd rfl (by first | exact .inl rfl | exact .inr rfl) (se_op opD_add (SV (se_v rfl (by first | exact .inl rfl | exact .inr (.inl rfl) | exact .inr (.inr rfl)))) (SV (se_tup (sa_cons (se_v rfl (by first | exact .inl rfl | exact .inr (.inl rfl) | exact .inr (.inr rfl))) sa_nil)))))
  (ss_one (s_as xs.nd rfl (by first | exact .inl rfl | exact .inr rfl) (se_ix xs.u1 (SV (se_ix xs.u1 (SV (se_v rfl (by first | exact .inl rfl | exact .inr (.inl rfl) | exact .inr (.inr rfl)))) se_int)) (se_v rfl (by first | exact .inl rfl | exact .inr (.inl rfl) | exact .inr (.inr rfl)))))))) ss_nil)))
  (ss_one (s_ret (SN (sn_lst (sa_cons (se_v rfl (by first | exact .inl rfl | exact .inr (.inl rfl) | exact .inr (.inr rfl))) (sa_cons (se_v rfl (by first | exact .inl rfl | exact .inr (.inl rfl) | exact .inr (.inr rfl))) sa_nil)))))))))
theorem dn_f_law_walked (X : K.In h) (G : h.Ns mainGlobals mg) (c : He.SaysD fa fn K) (g : Gx K mg (caK K tf)) : Dn Pg w K mg (caK K tf) P "_law_walked" f_law_walked := by
  obtain ⟨fd, F⟩ := c.def_ 23 (d := d_f_law_walked) rfl
  exact ⟨_, _, _, _, _, _, fd, ["box", "values", "path", "value", "turn", "at"], ["box", "values"], F, He.glo_ok X G (c.fact 23 (f := .glo "_law_walked") rfl), sc_f_law_walked, rfl, rfl, F.bindsN fun _ _ _ _ _ _ us hl => match us, hl with | [_, _], _ => rfl, fun base cdv A out s H E e n tb hc cal xs sl => dv_f_law_walked g cal xs sl⟩
theorem sc_f_law_code_2 : FnScope ["box", "types", "values", "rows", "turn", "path", "value", "at", "spot", "kind"] ["box", "types", "values"] (defScope (top 22)) := ⟨rfl, rfl, rfl, by decide +kernel, rfl, by decide +kernel, by decide +kernel⟩
theorem dv_f_law_code_2 {base : Heap} {a : Addr} {cdv : Value} {A : Around} {out : List Env} {s : Shared} {H : Hp} {E : XK} {e : En} {n : Nat} (g : Gx K mg ca)
    (cal : ∀ g d, P g = some d → Callee (cx Pg w K mg base ["box", "types", "values", "rows", "turn", "path", "value", "at", "spot", "kind"] "_law_code" (defScope (top 22)) a cdv A out s H E) ca n (Ev.callN P n) g d.np d.own) (xs : XS (cx Pg w K mg base ["box", "types", "values", "rows", "turn", "path", "value", "at", "spot", "kind"] "_law_code" (defScope (top 22)) a cdv A out s H E) (EvS.wE E) n) (sl : Slk (cx Pg w K mg base ["box", "types", "values", "rows", "turn", "path", "value", "at", "spot", "kind"] "_law_code" (defScope (top 22)) a cdv A out s H E) n) :
    PSs (cx Pg w K mg base ["box", "types", "values", "rows", "turn", "path", "value", "at", "spot", "kind"] "_law_code" (defScope (top 22)) a cdv A out s H E) (defBody (top 22)) (tS (ct (cx Pg w K mg base ["box", "types", "values", "rows", "turn", "path", "value", "at", "spot", "kind"] "_law_code" (defScope (top 22)) a cdv A out s H E) ca) (EvS.wE E) e (f_law_code_2.body (Ev.callN P n))) :=
  (ss_cons xs (s_own xs.nd rfl (by first | exact .inl rfl | exact .inr rfl) (sn_lst sa_nil))
  (ss_cons xs (s_for xs (si_range1 rfl g.f_range (se_op opD_add (SV se_int) (SV (se_call ⟨(cal "_law_draw" _ rfl).at_⟩ xs rfl rfl (sa_cons (se_v rfl (by first | exact .inl rfl | exact .inr (.inl rfl) | exact .inr (.inr rfl))) (sa_cons se_int sa_nil)) rfl)))) (pg_name xs.nd rfl (by first | exact .inl rfl | exact .inr rfl)) gok_name (ss_cons xs (s_asT (pg_seq xs.calm (pgs_cons (pg_name xs.nd rfl (by first | exact .inl rfl | exact .inr rfl)) (pgs_cons (pg_name xs.nd rfl (by first | exact .inl rfl | exact .inr rfl)) pgs_nil))) (gok_seq rfl (gsok_cons gok_name (gsok_cons gok_name gsok_nil))) (se_call ⟨(cal "_law_walked" _ rfl).at_⟩ xs rfl rfl (sa_cons (se_v rfl (by first | exact .inl rfl | exact .inr (.inl rfl) | exact .inr (.inr rfl))) (sa_cons (se_v rfl (by first | exact .inl rfl | exact .inr (.inl rfl) | exact .inr (.inr rfl))) sa_nil)) rfl))
  (ss_cons xs (s_app rfl (by first | exact .inl rfl | exact .inr (.inl rfl) | exact .inr (.inr rfl)) (se_tup (sa_cons se_str (sa_cons (se_ix xs.u1 (SV (se_v rfl (by first | exact .inl rfl | exact .inr (.inl rfl) | exact .inr (.inr rfl)))) se_int) sa_nil))))
  (ss_cons xs (s_own xs.nd rfl (by first | exact .inl rfl | exact .inr rfl) (sn_op opD_addL (sv_b rfl (by first | exact .inl rfl | exact .inr (.inl rfl) | exact .inr (.inr rfl))) (SV (SN (sn_comp0 (own := [("at", 7)]) xs (si_e (se_slc (SV (se_v rfl (by first | exact .inl rfl | exact .inr (.inl rfl) | exact .inr (.inr rfl)))) (so_e se_int) so_n)) (blkOk_by (by kernel_rfl)) (fun _ _ _ _ _ => (pg_name xs.blk.nd rfl (by first | exact .inl rfl | exact .inr rfl))) gok_name (by decide) (fun _ _ _ _ _ => (se_tup (sa_cons se_str (sa_cons (se_v rfl (by first | exact .inl rfl | exact .inr (.inl rfl) | exact .inr (.inr rfl))) sa_nil)))))))))
  (ss_cons xs (s_if xs (st_cmp (opC_eq xs.u64) (SV (se_ix xs.u1 (SV (se_v rfl (by first | exact .inl rfl | exact .inr (.inl rfl) | exact .inr (.inr rfl)))) se_int)) (SV se_str) rfl) (ss_one (s_app rfl (by first | exact .inl rfl | exact .inr (.inl rfl) | exact .inr (.inr rfl)) (se_tup (sa_cons se_str (sa_cons (se_op opD_sub (SV (se_op opD_add (SV (se_ix xs.u1 (SV (se_v rfl (by first | exact .inl rfl | exact .inr (.inl rfl) | exact .inr (.inr rfl)))) se_int)) (SV (se_call ⟨(cal "_law_draw" _ rfl).at_⟩ xs rfl rfl (sa_cons (se_v rfl (by first | exact .inl rfl | exact .inr (.inl rfl) | exact .inr (.inr rfl))) (sa_cons se_int sa_nil)) rfl)))) (SV se_int)) (sa_cons (se_op opD_add (SV se_int) (SV (se_v rfl (by first | exact .inl rfl | exact .inr (.inl rfl) | exact .inr (.inr rfl))))) sa_nil)))))) (ss_one (s_app rfl (by first | exact .inl rfl | exact .inr (.inl rfl) | exact .inr (.inr rfl)) (se_tup (sa_cons se_str (sa_cons (se_ix xs.u1 (SV (SN (sn_lst (sa_cons se_str (sa_cons se_str (sa_cons (se_ix xs.u1 (SV (se_v rfl (by first | exact .inl rfl | exact .inr (.inl rfl) | exact .inr (.inr rfl)))) se_int) (sa_cons (se_ix xs.u1 (SV (se_v rfl (by first | exact .inl rfl | exact .inr (.inl rfl) | exact .inr (.inr rfl)))) se_int) sa_nil))))))) (se_call ⟨(cal "_law_draw" _ rfl).at_⟩ xs rfl rfl (sa_cons (se_v rfl (by first | exact .inl rfl | exact .inr (.inl rfl) | exact .inr (.inr rfl))) (sa_cons se_int sa_nil)) rfl)) (sa_cons (se_op opD_add (SV se_int) (SV (se_v rfl (by first | exact .inl rfl | exact .inr (.inl rfl) | exact .inr (.inr rfl))))) sa_nil)))))))
  (ss_cons xs (s_as xs.nd rfl (by first | exact .inl rfl | exact .inr rfl) (se_ix xs.u1 (SV (se_call ⟨(cal "_law_walked" _ rfl).at_⟩ xs rfl rfl (sa_cons (se_v rfl (by first | exact .inl rfl | exact .inr (.inl rfl) | exact .inr (.inr rfl))) (sa_cons (se_v rfl (by first | exact .inl rfl | exact .inr (.inl rfl) | exact .inr (.inr rfl))) sa_nil)) rfl)) se_int))
  (ss_cons xs (s_as xs.nd rfl (by first | exact .inl rfl | exact .inr rfl) (se_call ⟨(cal "_law_draw" _ rfl).at_⟩ xs rfl rfl (sa_cons (se_v rfl (by first | exact .inl rfl | exact .inr (.inl rfl) | exact .inr (.inr rfl))) (sa_cons se_int sa_nil)) rfl))
  (ss_cons xs (s_if xs (st_cmp (opC_eq xs.u64) (SV (se_v rfl (by first | exact .inl rfl | exact .inr (.inl rfl) | exact .inr (.inr rfl)))) (SV se_int) rfl) (ss_one (s_app rfl (by first | exact .inl rfl | exact .inr (.inl rfl) | exact .inr (.inr rfl)) (se_tup (sa_cons se_str (sa_cons (se_op opD_add (SV se_int) (SV (se_v rfl (by first | exact .inl rfl | exact .inr (.inl rfl) | exact .inr (.inr rfl))))) sa_nil))))) (ss_one (s_if xs (st_cmp (opC_eq xs.u64) (SV (se_v rfl (by first | exact .inl rfl | exact .inr (.inl rfl) | exact .inr (.inr rfl)))) (SV se_int) rfl) (ss_one (s_app rfl (by first | exact .inl rfl | exact .inr (.inl rfl) | exact .inr (.inr rfl)) (se_tup (sa_cons se_str (sa_cons (se_v rfl (by first | exact .inl rfl | exact .inr (.inl rfl) | exact .inr (.inr rfl))) (sa_cons (se_tup (sa_cons (se_tup (sa_cons se_str (sa_cons (se_v rfl (by first | exact .inl rfl | exact .inr (.inl rfl) | exact .inr (.inr rfl))) sa_nil))) sa_nil)) (sa_cons (se_op opD_add (SV se_int) (SV (se_v rfl (by first | exact .inl rfl | exact .inr (.inl rfl) | exact .inr (.inr rfl))))) sa_nil))))))) (ss_one (s_if xs (st_cmp (opC_eq xs.u64) (SV (se_v rfl (by first | exact .inl rfl | exact .inr (.inl rfl) | exact .inr (.inr rfl)))) (SV se_int) rfl) (ss_one (s_app rfl (by first | exact .inl rfl | exact .inr (.inl rfl) | exact .inr (.inr rfl)) (se_tup (sa_cons se_str (sa_cons (se_v rfl (by first | exact .inl rfl | exact .inr (.inl rfl) | exact .inr (.inr rfl))) (sa_cons (se_slc (SV (se_tup (sa_cons (se_tup (sa_cons se_str (sa_cons (se_v rfl (by first | exact .inl rfl | exact .inr (.inl rfl) | exact .inr (.inr rfl))) sa_nil))) (sa_cons (se_tup (sa_cons se_str (sa_cons (se_v rfl (by first | exact .inl rfl | exact .inr (.inl rfl) | exact .inr (.inr rfl))) sa_nil))) sa_nil)))) so_n (so_e (se_call ⟨(cal "_law_draw" _ rfl).at_⟩ xs rfl rfl (sa_cons (se_v rfl (by first | exact .inl rfl | exact .inr (.inl rfl) | exact .inr (.inr rfl))) (sa_cons se_int sa_nil)) rfl))) sa_nil)))))) ss_nil)))))
  (ss_one (s_app rfl (by first | exact .inl rfl | exact .inr (.inl rfl) | exact .inr (.inr rfl)) (se_tup (sa_cons se_str (sa_cons (se_op opD_add (SV se_int) (SV (se_v rfl (by first | exact .inl rfl | exact .inr (.inl rfl) | exact .inr (.inr rfl))))) sa_nil)))))))))))))
  (ss_cons xs (s_app rfl (by first | exact .inl rfl | exact .inr (.inl rfl) | exact .inr (.inr rfl)) (se_ix xs.u1 (SV (SN (sn_lst (sa_cons (se_tup (sa_cons se_str sa_nil)) (sa_cons (se_tup (sa_cons se_str (sa_cons se_int (sa_cons (se_tup sa_nil) sa_nil)))) sa_nil))))) (se_call ⟨(cal "_law_draw" _ rfl).at_⟩ xs rfl rfl (sa_cons (se_v rfl (by first | exact .inl rfl | exact .inr (.inl rfl) | exact .inr (.inr rfl))) (sa_cons se_int sa_nil)) rfl)))
  (ss_frz xs (ss_one (s_ret (se_v rfl (by first | exact .inl rfl | exact .inr (.inl rfl) | exact .inr (.inr rfl)))))))))
theorem dn_f_law_code_2 (X : K.In h) (G : h.Ns mainGlobals mg) (c : He.SaysD fa fn K) (g : Gx K mg (caK K tf)) : Dn Pg w K mg (caK K tf) P "_law_code" f_law_code_2 := by
  obtain ⟨fd, F⟩ := c.def_ 24 (d := d_f_law_code_2) rfl
  exact ⟨_, _, _, _, _, _, fd, ["box", "types", "values", "rows", "turn", "path", "value", "at", "spot", "kind"], ["box", "types", "values"], F, He.glo_ok X G (c.fact 24 (f := .glo "_law_code") rfl), sc_f_law_code_2, rfl, rfl, F.bindsN fun _ _ _ _ _ _ us hl => match us, hl with | [_, _, _], _ => rfl, fun base cdv A out s H E e n tb hc cal xs sl => dv_f_law_code_2 g cal xs sl⟩
theorem sc_f_law_placed : FnScope ["rows", "places", "code", "row", "found"] ["rows"] (defScope (top 23)) := ⟨rfl, rfl, rfl, by decide +kernel, rfl, by decide +kernel, by decide +kernel⟩
theorem dv_f_law_placed {base : Heap} {a : Addr} {cdv : Value} {A : Around} {out : List Env} {s : Shared} {H : Hp} {E : XK} {e : En} {n : Nat} (g : Gx K mg ca)
    (cal : ∀ g d, P g = some d → Callee (cx Pg w K mg base ["rows", "places", "code", "row", "found"] "_law_placed" (defScope (top 23)) a cdv A out s H E) ca n (Ev.callN P n) g d.np d.own) (xs : XS (cx Pg w K mg base ["rows", "places", "code", "row", "found"] "_law_placed" (defScope (top 23)) a cdv A out s H E) (EvS.wE E) n) (sl : Slk (cx Pg w K mg base ["rows", "places", "code", "row", "found"] "_law_placed" (defScope (top 23)) a cdv A out s H E) n) :
    PSs (cx Pg w K mg base ["rows", "places", "code", "row", "found"] "_law_placed" (defScope (top 23)) a cdv A out s H E) (defBody (top 23)) (tS (ct (cx Pg w K mg base ["rows", "places", "code", "row", "found"] "_law_placed" (defScope (top 23)) a cdv A out s H E) ca) (EvS.wE E) e (f_law_placed.body (Ev.callN P n))) :=
  (ss_cons xs (s_own xs.nd rfl (by first | exact .inl rfl | exact .inr rfl) sn_dic0)
  (ss_cons xs (s_own xs.nd rfl (by first | exact .inl rfl | exact .inr rfl) (sn_lst sa_nil))
  (ss_cons xs (s_for xs (si_e (se_v rfl (by first | exact .inl rfl | exact .inr (.inl rfl) | exact .inr (.inr rfl)))) (pg_name xs.nd rfl (by first | exact .inl rfl | exact .inr rfl)) gok_name (ss_one (s_if xs (st_cmp (opC_eq xs.u64) (SV (se_ix xs.u1 (SV (se_v rfl (by first | exact .inl rfl | exact .inr (.inl rfl) | exact .inr (.inr rfl)))) se_int)) (SV se_str) rfl) (ss_one (s_dput xs.u1 xs rfl (by first | exact .inl rfl | exact .inr (.inl rfl) | exact .inr (.inr rfl)) (se_ix xs.u1 (SV (se_v rfl (by first | exact .inl rfl | exact .inr (.inl rfl) | exact .inr (.inr rfl)))) se_int) (se_bi (pe_callB cb_len rfl g.f_len rfl (sav_cons (sv_b rfl (by first | exact .inl rfl | exact .inr (.inl rfl) | exact .inr (.inr rfl))) sav_nil))))) (ss_one (s_app rfl (by first | exact .inl rfl | exact .inr (.inl rfl) | exact .inr (.inr rfl)) (se_v rfl (by first | exact .inl rfl | exact .inr (.inl rfl) | exact .inr (.inr rfl))))))))
  (ss_cons xs (s_own xs.nd rfl (by first | exact .inl rfl | exact .inr rfl) (sn_lst sa_nil))
  (ss_frz xs (ss_cons xs (s_for xs (si_e (se_v rfl (by first | exact .inl rfl | exact .inr (.inl rfl) | exact .inr (.inr rfl)))) (pg_name xs.nd rfl (by first | exact .inl rfl | exact .inr rfl)) gok_name (ss_cons xs (s_if xs (st_cmp (opC_in xs.u65) (SV (se_ix xs.u1 (SV (se_v rfl (by first | exact .inl rfl | exact .inr (.inl rfl) | exact .inr (.inr rfl)))) se_int)) (SV (SN (sn_lst (sa_cons se_str (sa_cons se_str (sa_cons se_str (sa_cons se_str sa_nil))))))) rfl) (ss_one (s_as xs.nd rfl (by first | exact .inl rfl | exact .inr rfl) (se_op opD_add (SV (se_slc (SV (se_v rfl (by first | exact .inl rfl | exact .inr (.inl rfl) | exact .inr (.inr rfl)))) so_n (so_e (se_op opD_sub (SV (se_bi (pe_callB cb_len rfl g.f_len rfl (sav_cons (SV (se_v rfl (by first | exact .inl rfl | exact .inr (.inl rfl) | exact .inr (.inr rfl)))) sav_nil)))) (SV se_int))))) (SV (se_tup (sa_cons (se_ix xs.u1 (sv_b rfl (by first | exact .inl rfl | exact .inr (.inl rfl) | exact .inr (.inr rfl))) (se_ix xs.u1 (SV (se_v rfl (by first | exact .inl rfl | exact .inr (.inl rfl) | exact .inr (.inr rfl)))) (se_op opD_sub (SV (se_bi (pe_callB cb_len rfl g.f_len rfl (sav_cons (SV (se_v rfl (by first | exact .inl rfl | exact .inr (.inl rfl) | exact .inr (.inr rfl)))) sav_nil)))) (SV se_int)))) sa_nil)))))) ss_nil)
  (ss_one (s_app rfl (by first | exact .inl rfl | exact .inr (.inl rfl) | exact .inr (.inr rfl)) (se_v rfl (by first | exact .inl rfl | exact .inr (.inl rfl) | exact .inr (.inr rfl)))))))
  (ss_one (s_ret (se_bi (pe_callTy cb_tuple rfl g.f_tuple rfl (sav_cons (sv_b rfl (by first | exact .inl rfl | exact .inr (.inl rfl) | exact .inr (.inr rfl))) sav_nil)))))))))))
theorem dn_f_law_placed (X : K.In h) (G : h.Ns mainGlobals mg) (c : He.SaysD fa fn K) (g : Gx K mg (caK K tf)) : Dn Pg w K mg (caK K tf) P "_law_placed" f_law_placed := by
  obtain ⟨fd, F⟩ := c.def_ 25 (d := d_f_law_placed) rfl
  exact ⟨_, _, _, _, _, _, fd, ["rows", "places", "code", "row", "found"], ["rows"], F, He.glo_ok X G (c.fact 25 (f := .glo "_law_placed") rfl), sc_f_law_placed, rfl, rfl, F.bindsN fun _ _ _ _ _ _ us hl => match us, hl with | [_], _ => rfl, fun base cdv A out s H E e n tb hc cal xs sl => dv_f_law_placed g cal xs sl⟩
theorem sc_f_law_run : FnScope ["code", "values", "answers", "asked", "held", "at", "turn", "row"] ["code", "values", "answers"] (defScope (top 24)) := ⟨rfl, rfl, rfl, by decide +kernel, rfl, by decide +kernel, by decide +kernel⟩
theorem dv_f_law_run {base : Heap} {a : Addr} {cdv : Value} {A : Around} {out : List Env} {s : Shared} {H : Hp} {E : XK} {e : En} {n : Nat} (g : Gx K mg ca)
    (cal : ∀ g d, P g = some d → Callee (cx Pg w K mg base ["code", "values", "answers", "asked", "held", "at", "turn", "row"] "_law_run" (defScope (top 24)) a cdv A out s H E) ca n (Ev.callN P n) g d.np d.own) (xs : XS (cx Pg w K mg base ["code", "values", "answers", "asked", "held", "at", "turn", "row"] "_law_run" (defScope (top 24)) a cdv A out s H E) (EvS.wE E) n) (sl : Slk (cx Pg w K mg base ["code", "values", "answers", "asked", "held", "at", "turn", "row"] "_law_run" (defScope (top 24)) a cdv A out s H E) n) :
    PSs (cx Pg w K mg base ["code", "values", "answers", "asked", "held", "at", "turn", "row"] "_law_run" (defScope (top 24)) a cdv A out s H E) (defBody (top 24)) (tS (ct (cx Pg w K mg base ["code", "values", "answers", "asked", "held", "at", "turn", "row"] "_law_run" (defScope (top 24)) a cdv A out s H E) ca) (EvS.wE E) e (f_law_run.body (Ev.callN P n))) :=
  (ss_cons xs (s_own xs.nd rfl (by first | exact .inl rfl | exact .inr rfl) (sn_lst sa_nil))
  (ss_cons xs (s_as xs.nd rfl (by first | exact .inl rfl | exact .inr rfl) (se_tup sa_nil))
  (ss_cons xs (s_as xs.nd rfl (by first | exact .inl rfl | exact .inr rfl) se_int)
  (ss_cons xs (s_for xs (si_range1 rfl g.f_range se_int) (pg_name xs.nd rfl (by first | exact .inl rfl | exact .inr rfl)) gok_name (ss_cons xs (s_as xs.nd rfl (by first | exact .inl rfl | exact .inr rfl) (se_ix xs.u1 (SV (se_v rfl (by first | exact .inl rfl | exact .inr (.inl rfl) | exact .inr (.inr rfl)))) (se_v rfl (by first | exact .inl rfl | exact .inr (.inl rfl) | exact .inr (.inr rfl)))))
  (ss_cons xs (s_as xs.nd rfl (by first | exact .inl rfl | exact .inr rfl) (se_op opD_add (SV (se_v rfl (by first | exact .inl rfl | exact .inr (.inl rfl) | exact .inr (.inr rfl)))) (SV se_int)))
  (ss_one (s_if xs (st_cmp (opC_eq xs.u64) (SV (se_ix xs.u1 (SV (se_v rfl (by first | exact .inl rfl | exact .inr (.inl rfl) | exact .inr (.inr rfl)))) se_int)) (SV se_str) rfl) (ss_one (s_as xs.nd rfl (by first | exact .inl rfl | exact .inr rfl) (se_ix xs.u1 (SV (se_v rfl (by first | exact .inl rfl | exact .inr (.inl rfl) | exact .inr (.inr rfl)))) (se_ix xs.u1 (SV (se_v rfl (by first | exact .inl rfl | exact .inr (.inl rfl) | exact .inr (.inr rfl)))) se_int)))) (ss_one (s_if xs (st_cmp (opC_eq xs.u64) (SV (se_ix xs.u1 (SV (se_v rfl (by first | exact .inl rfl | exact .inr (.inl rfl) | exact .inr (.inr rfl)))) se_int)) (SV se_str) rfl) (ss_one (s_as xs.nd rfl (by first | exact .inl rfl | exact .inr rfl) (se_ix xs.u1 (SV (se_ix xs.u1 (SV (se_v rfl (by first | exact .inl rfl | exact .inr (.inl rfl) | exact .inr (.inr rfl)))) se_int)) (se_ix xs.u1 (SV (se_v rfl (by first | exact .inl rfl | exact .inr (.inl rfl) | exact .inr (.inr rfl)))) se_int)))) (ss_one (s_if xs (PW.pt (sw_or (st_cmp (opC_eq xs.u64) (SV (se_ix xs.u1 (SV (se_v rfl (by first | exact .inl rfl | exact .inr (.inl rfl) | exact .inr (.inr rfl)))) se_int)) (SV se_str) rfl) (sw_or (PW.pt (sw_and (st_cmp (opC_eq xs.u64) (SV (se_ix xs.u1 (SV (se_v rfl (by first | exact .inl rfl | exact .inr (.inl rfl) | exact .inr (.inr rfl)))) se_int)) (SV se_str) rfl) (sw_and1 (st_cmp (opC_eq xs.u64) (SV (se_ix xs.u1 (SV (se_v rfl (by first | exact .inl rfl | exact .inr (.inl rfl) | exact .inr (.inr rfl)))) se_int)) (SV (se_ix xs.u1 (SV (se_v rfl (by first | exact .inl rfl | exact .inr (.inl rfl) | exact .inr (.inr rfl)))) se_int)) rfl)))) (sw_or1 (PW.pt (sw_and (st_cmp (opC_eq xs.u64) (SV (se_ix xs.u1 (SV (se_v rfl (by first | exact .inl rfl | exact .inr (.inl rfl) | exact .inr (.inr rfl)))) se_int)) (SV se_str) rfl) (sw_and1 (st_cmp opC_le (SV (se_ix xs.u1 (SV (se_v rfl (by first | exact .inl rfl | exact .inr (.inl rfl) | exact .inr (.inr rfl)))) se_int)) (SV (se_ix xs.u1 (SV (se_v rfl (by first | exact .inl rfl | exact .inr (.inl rfl) | exact .inr (.inr rfl)))) se_int)) rfl)))))))) (ss_one (s_as xs.nd rfl (by first | exact .inl rfl | exact .inr rfl) (se_ix xs.u1 (SV (se_v rfl (by first | exact .inl rfl | exact .inr (.inl rfl) | exact .inr (.inr rfl)))) (se_op opD_sub (SV (se_bi (pe_callB cb_len rfl g.f_len rfl (sav_cons (SV (se_v rfl (by first | exact .inl rfl | exact .inr (.inl rfl) | exact .inr (.inr rfl)))) sav_nil)))) (SV se_int))))) (ss_one (s_if xs (st_cmp (opC_eq xs.u64) (SV (se_ix xs.u1 (SV (se_v rfl (by first | exact .inl rfl | exact .inr (.inl rfl) | exact .inr (.inr rfl)))) se_int)) (SV se_str) rfl) (ss_one (s_ret (se_tup (sa_cons (se_tup (sa_cons (se_ix xs.u1 (SV (se_v rfl (by first | exact .inl rfl | exact .inr (.inl rfl) | exact .inr (.inr rfl)))) se_int) (sa_cons (se_call ⟨(cal "_law_bound" _ rfl).at_⟩ xs rfl rfl (sa_cons (SN (sn_bi (pe_callTy cb_list rfl g.f_list rfl (sav_cons (SV (se_ix xs.u1 (SV (se_v rfl (by first | exact .inl rfl | exact .inr (.inl rfl) | exact .inr (.inr rfl)))) se_int)) sav_nil)))) (sa_cons (se_v rfl (by first | exact .inl rfl | exact .inr (.inl rfl) | exact .inr (.inr rfl))) sa_nil)) rfl) sa_nil))) (sa_cons (se_bi (pe_callTy cb_tuple rfl g.f_tuple rfl (sav_cons (sv_b rfl (by first | exact .inl rfl | exact .inr (.inl rfl) | exact .inr (.inr rfl))) sav_nil))) sa_nil))))) (ss_one (s_if xs (st_cmp (opC_eq xs.u64) (SV (se_ix xs.u1 (SV (se_v rfl (by first | exact .inl rfl | exact .inr (.inl rfl) | exact .inr (.inr rfl)))) se_int)) (SV se_str) rfl) (ss_cons xs (s_app rfl (by first | exact .inl rfl | exact .inr (.inl rfl) | exact .inr (.inr rfl)) (se_tup (sa_cons (se_ix xs.u1 (SV (se_v rfl (by first | exact .inl rfl | exact .inr (.inl rfl) | exact .inr (.inr rfl)))) se_int) (sa_cons (se_call ⟨(cal "_law_bound" _ rfl).at_⟩ xs rfl rfl (sa_cons (SN (sn_bi (pe_callTy cb_list rfl g.f_list rfl (sav_cons (SV (se_ix xs.u1 (SV (se_v rfl (by first | exact .inl rfl | exact .inr (.inl rfl) | exact .inr (.inr rfl)))) se_int)) sav_nil)))) (sa_cons (se_v rfl (by first | exact .inl rfl | exact .inr (.inl rfl) | exact .inr (.inr rfl))) sa_nil)) rfl) sa_nil))))
  (ss_cons xs (s_if xs (PW.pt (sw_and (st_cmp opC_le (SV (se_bi (pe_callB cb_len rfl g.f_len rfl (sav_cons (sv_b rfl (by first | exact .inl rfl | exact .inr (.inl rfl) | exact .inr (.inr rfl))) sav_nil)))) (SV (se_bi (pe_callB cb_len rfl g.f_len rfl (sav_cons (SV (se_v rfl (by first | exact .inl rfl | exact .inr (.inl rfl) | exact .inr (.inr rfl)))) sav_nil)))) rfl) (sw_and1 (st_e (SV (se_ix xs.u1 (SV (se_v rfl (by first | exact .inl rfl | exact .inr (.inl rfl) | exact .inr (.inr rfl)))) (se_op opD_sub (SV (se_bi (pe_callB cb_len rfl g.f_len rfl (sav_cons (sv_b rfl (by first | exact .inl rfl | exact .inr (.inl rfl) | exact .inr (.inr rfl))) sav_nil)))) (SV se_int)))))))) (ss_one (s_ret (se_tup (sa_cons (se_ix xs.u1 (sv_b rfl (by first | exact .inl rfl | exact .inr (.inl rfl) | exact .inr (.inr rfl))) (se_op opD_sub (SV (se_bi (pe_callB cb_len rfl g.f_len rfl (sav_cons (sv_b rfl (by first | exact .inl rfl | exact .inr (.inl rfl) | exact .inr (.inr rfl))) sav_nil)))) (SV se_int))) (sa_cons (se_bi (pe_callTy cb_tuple rfl g.f_tuple rfl (sav_cons (sv_b rfl (by first | exact .inl rfl | exact .inr (.inl rfl) | exact .inr (.inr rfl))) sav_nil))) sa_nil))))) ss_nil)
  (ss_one (s_as xs.nd rfl (by first | exact .inl rfl | exact .inr rfl) (se_ix xs.u1 (SV (se_v rfl (by first | exact .inl rfl | exact .inr (.inl rfl) | exact .inr (.inr rfl)))) se_int))))) (ss_one (s_if xs (st_cmp (opC_eq xs.u64) (SV (se_ix xs.u1 (SV (se_v rfl (by first | exact .inl rfl | exact .inr (.inl rfl) | exact .inr (.inr rfl)))) se_int)) (SV se_str) rfl) (ss_one (s_ret (se_tup (sa_cons se_non (sa_cons (se_bi (pe_callTy cb_tuple rfl g.f_tuple rfl (sav_cons (sv_b rfl (by first | exact .inl rfl | exact .inr (.inl rfl) | exact .inr (.inr rfl))) sav_nil))) sa_nil))))) ss_nil)))))))))))))))
  (ss_one (s_ret (se_tup sa_nil)))))))
theorem dn_f_law_run (X : K.In h) (G : h.Ns mainGlobals mg) (c : He.SaysD fa fn K) (g : Gx K mg (caK K tf)) : Dn Pg w K mg (caK K tf) P "_law_run" f_law_run := by
  obtain ⟨fd, F⟩ := c.def_ 26 (d := d_f_law_run) rfl
  exact ⟨_, _, _, _, _, _, fd, ["code", "values", "answers", "asked", "held", "at", "turn", "row"], ["code", "values", "answers"], F, He.glo_ok X G (c.fact 26 (f := .glo "_law_run") rfl), sc_f_law_run, rfl, rfl, F.bindsN fun _ _ _ _ _ _ us hl => match us, hl with | [_, _, _], _ => rfl, fun base cdv A out s H E e n tb hc cal xs sl => dv_f_law_run g cal xs sl⟩
theorem sc_f_law_21 : FnScope ["script", "box", "turn", "types", "values", "code", "answers"] ["script"] (defScope (top 25)) := ⟨rfl, rfl, rfl, by decide +kernel, rfl, by decide +kernel, by decide +kernel⟩
theorem dv_f_law_21 {base : Heap} {a : Addr} {cdv : Value} {A : Around} {out : List Env} {s : Shared} {H : Hp} {E : XK} {e : En} {n : Nat} (g : Gx K mg ca)
    (cal : ∀ g d, P g = some d → Callee (cx Pg w K mg base ["script", "box", "turn", "types", "values", "code", "answers"] "law" (defScope (top 25)) a cdv A out s H E) ca n (Ev.callN P n) g d.np d.own) (xs : XS (cx Pg w K mg base ["script", "box", "turn", "types", "values", "code", "answers"] "law" (defScope (top 25)) a cdv A out s H E) (EvS.wE E) n) (sl : Slk (cx Pg w K mg base ["script", "box", "turn", "types", "values", "code", "answers"] "law" (defScope (top 25)) a cdv A out s H E) n) :
    PSs (cx Pg w K mg base ["script", "box", "turn", "types", "values", "code", "answers"] "law" (defScope (top 25)) a cdv A out s H E) (defBody (top 25)) (tS (ct (cx Pg w K mg base ["script", "box", "turn", "types", "values", "code", "answers"] "law" (defScope (top 25)) a cdv A out s H E) ca) (EvS.wE E) e (f_law_21.body (Ev.callN P n))) :=
  (ss_cons xs (s_cell xs.nd rfl (by first | exact .inl rfl | exact .inr rfl) (sn_lst (sa_cons (se_call ⟨(cal "_law_digits" _ rfl).at_⟩ xs rfl rfl (sa_cons (se_v rfl (by first | exact .inl rfl | exact .inr (.inl rfl) | exact .inr (.inr rfl))) (sa_cons se_int (sa_cons se_int sa_nil))) rfl) (sa_cons se_int sa_nil))))
  (ss_cons xs (s_for xs (si_range1 rfl g.f_range se_int) (pg_name xs.nd rfl (by first | exact .inl rfl | exact .inr rfl)) gok_name (ss_cons xs (s_as xs.nd rfl (by first | exact .inl rfl | exact .inr rfl) (se_call ⟨(cal "_law_types" _ rfl).at_⟩ xs rfl rfl (sa_cons (se_v rfl (by first | exact .inl rfl | exact .inr (.inl rfl) | exact .inr (.inr rfl))) sa_nil) rfl))
  (ss_cons xs (s_as xs.nd rfl (by first | exact .inl rfl | exact .inr rfl) (se_call ⟨(cal "_law_values" _ rfl).at_⟩ xs rfl rfl (sa_cons (se_v rfl (by first | exact .inl rfl | exact .inr (.inl rfl) | exact .inr (.inr rfl))) (sa_cons (se_v rfl (by first | exact .inl rfl | exact .inr (.inl rfl) | exact .inr (.inr rfl))) (sa_cons (se_call ⟨(cal "_law_parameters" _ rfl).at_⟩ xs rfl rfl (sa_cons (se_v rfl (by first | exact .inl rfl | exact .inr (.inl rfl) | exact .inr (.inr rfl))) (sa_cons (se_v rfl (by first | exact .inl rfl | exact .inr (.inl rfl) | exact .inr (.inr rfl))) sa_nil)) rfl) sa_nil))) rfl))
  (ss_cons xs (s_as xs.nd rfl (by first | exact .inl rfl | exact .inr rfl) (se_call ⟨(cal "_law_placed" _ rfl).at_⟩ xs rfl rfl (sa_cons (se_call ⟨(cal "_law_code" _ rfl).at_⟩ xs rfl rfl (sa_cons (se_v rfl (by first | exact .inl rfl | exact .inr (.inl rfl) | exact .inr (.inr rfl))) (sa_cons (se_v rfl (by first | exact .inl rfl | exact .inr (.inl rfl) | exact .inr (.inr rfl))) (sa_cons (se_v rfl (by first | exact .inl rfl | exact .inr (.inl rfl) | exact .inr (.inr rfl))) sa_nil))) rfl) sa_nil) rfl))
  (ss_cons xs (s_as xs.nd rfl (by first | exact .inl rfl | exact .inr rfl) (se_call ⟨(cal "_law_answers" _ rfl).at_⟩ xs rfl rfl (sa_cons (se_v rfl (by first | exact .inl rfl | exact .inr (.inl rfl) | exact .inr (.inr rfl))) sa_nil) rfl))
  (ss_one (s_if xs (st_not (st_e (SV (se_call ⟨(cal "_law_same" _ rfl).at_⟩ xs rfl rfl (sa_cons (se_call ⟨(cal "run_code" _ rfl).at_⟩ xs rfl rfl (sa_cons (se_v rfl (by first | exact .inl rfl | exact .inr (.inl rfl) | exact .inr (.inr rfl))) (sa_cons (se_v rfl (by first | exact .inl rfl | exact .inr (.inl rfl) | exact .inr (.inr rfl))) (sa_cons (se_v rfl (by first | exact .inl rfl | exact .inr (.inl rfl) | exact .inr (.inr rfl))) sa_nil))) rfl) (sa_cons (se_call ⟨(cal "_law_run" _ rfl).at_⟩ xs rfl rfl (sa_cons (se_v rfl (by first | exact .inl rfl | exact .inr (.inl rfl) | exact .inr (.inr rfl))) (sa_cons (se_v rfl (by first | exact .inl rfl | exact .inr (.inl rfl) | exact .inr (.inr rfl))) (sa_cons (se_v rfl (by first | exact .inl rfl | exact .inr (.inl rfl) | exact .inr (.inr rfl))) sa_nil))) rfl) sa_nil)) rfl)))) (ss_one (s_ret se_bl)) ss_nil)))))))
  (ss_one (s_ret se_bl))))
theorem dn_f_law_21 (X : K.In h) (G : h.Ns mainGlobals mg) (c : He.SaysD fa fn K) (g : Gx K mg (caK K tf)) : Dn Pg w K mg (caK K tf) P "law" f_law_21 := by
  obtain ⟨fd, F⟩ := c.def_ 27 (d := d_f_law_21) rfl
  exact ⟨_, _, _, _, _, _, fd, ["script", "box", "turn", "types", "values", "code", "answers"], ["script"], F, He.glo_ok X G (c.fact 27 (f := .glo "law") rfl), sc_f_law_21, rfl, rfl, F.bindsN fun _ _ _ _ _ _ us hl => match us, hl with | [_], _ => rfl, fun base cdv A out s H E e n tb hc cal xs sl => dv_f_law_21 g cal xs sl⟩
theorem dns (X : K.In h) (G : h.Ns mainGlobals mg) (c : He.SaysD fa fn K) (g : Gx K mg (caK K tf)) : ∀ f d, P f = some d → Dn Pg w K mg (caK K tf) P f d := fun f d hp => by
  have hm := lookup_mem hp
  simp only [tbl, List.mem_cons, Prod.mk.injEq, List.not_mem_nil, or_false] at hm
  rcases hm with ⟨rfl, rfl⟩ | ⟨rfl, rfl⟩ | ⟨rfl, rfl⟩ | ⟨rfl, rfl⟩ | ⟨rfl, rfl⟩ | ⟨rfl, rfl⟩ | ⟨rfl, rfl⟩ | ⟨rfl, rfl⟩ | ⟨rfl, rfl⟩ | ⟨rfl, rfl⟩ | ⟨rfl, rfl⟩ | ⟨rfl, rfl⟩ | ⟨rfl, rfl⟩ | ⟨rfl, rfl⟩ | ⟨rfl, rfl⟩ | ⟨rfl, rfl⟩ | ⟨rfl, rfl⟩ | ⟨rfl, rfl⟩ | ⟨rfl, rfl⟩ | ⟨rfl, rfl⟩ | ⟨rfl, rfl⟩ | ⟨rfl, rfl⟩ | ⟨rfl, rfl⟩ | ⟨rfl, rfl⟩ | ⟨rfl, rfl⟩ | ⟨rfl, rfl⟩ | ⟨rfl, rfl⟩ | ⟨rfl, rfl⟩
  · exact dn_f_value_at X G c g
  · exact dn_f_Asking_init X G c g
  · exact dn_f_Asking_bound X G c g
  · exact dn_f_Asking_taken X G c g
  · exact dn_f_Asking_failed X G c g
  · exact dn_f_Asking_ask X G c g
  · exact dn_f_Machine_init X G c g
  · exact dn_f_Machine_holds X G c g
  · exact dn_f_Machine_step X G c g
  · exact dn_f_run_code X G c g
  · exact dn_f_law_cell X G c g
  · exact dn_f_law_digits_2 X G c g
  · exact dn_f_law_draw X G c g
  · exact dn_f_law_same X G c g
  · exact dn_f_law_types_3 X G c g
  · exact dn_f_law_parameters X G c g
  · exact dn_f_law_constructors X G c g
  · exact dn_f_law_value_2 X G c g
  · exact dn_f_law_small X G c g
  · exact dn_f_law_values X G c g
  · exact dn_f_law_answers X G c g
  · exact dn_f_law_at_2 X G c g
  · exact dn_f_law_bound X G c g
  · exact dn_f_law_walked X G c g
  · exact dn_f_law_code_2 X G c g
  · exact dn_f_law_placed X G c g
  · exact dn_f_law_run X G c g
  · exact dn_f_law_21 X G c g
end
abbrev R : PySem.W.OpenRow := PySem.W.OpenLaw.row PySem.Challenge.rw_matchgraph_k20_machine_runs
abbrev hk : PySem.W.Hook := He.hookX 5 fa fn [] tf (fun K => gcs K cs)
def ob (s : PySem.W.SharedT) : He.AlX := He.obsX 5 fa fn [] tf (fun K => gcs K cs) (HandSHeadRun.getT s)
theorem ob_eq (s : PySem.W.SharedT) : ob s = hk.obs s.abs := He.obsX_eq (HandSHeadRun.getT_eq s)
def loose : List Str := (["Asking", "Machine", "_law_answers", "_law_at", "_law_bound", "_law_cell", "_law_code", "_law_constructors", "_law_digits", "_law_draw", "_law_parameters", "_law_placed", "_law_run", "_law_same", "_law_small", "_law_types", "_law_value", "_law_values", "_law_walked", "run_code", "value_at"] : List Str)
theorem run (w : World) : HandSHeadRun.RunEq R (PySem.W.view R.prog [25]) hk ob 20000 loose w := by
  intro os
  kernel_rfl
end K20.Wk
end

section
set_option maxHeartbeats 0
set_option linter.all false
set_option maxRecDepth 100000
namespace K20
open Ev
inductive Rg where
  | any | rng (a b : Int) | nt (l : List String) | mk (c : String) (ps : List Rg)
deriving Inhabited
mutual
def enc : Rg → D
  | .any => .tup [.str "any"]
  | .rng a b => .tup [.str "range", .int a, .int b]
  | .nt l => .tup [.str "not", .tup (l.map .str)]
  | .mk c ps => .tup [.str "make", .str c, .tup (encL ps)]
def encL : List Rg → List D
  | [] => []
  | r :: rs => enc r :: encL rs
end
theorem encL_map : ∀ rs : List Rg, encL rs = rs.map enc
  | [] => rfl
  | r :: rs => by rw [encL, encL_map rs]; rfl
@[simp] theorem encL_len (rs : List Rg) : (encL rs).length = rs.length := by rw [encL_map, List.length_map]
mutual
def cutM : Rg → Rg → Option Rg
  | r, .any => some r
  | .any, s => some s
  | .rng a b, .rng c d => if (if c > a then c else a) ≤ (if d < b then d else b) then some (.rng (if c > a then c else a) (if d < b then d else b)) else none
  | .nt l, .mk c ps => if c ∈ l then none else some (.mk c ps)
  | .mk c ps, .mk c' qs => if c = c' then (match cutL ps qs with
    | some xs => some (.mk c xs)
    | none => none) else none
  | _, _ => none
def cutL : List Rg → List Rg → Option (List Rg)
  | [], [] => some []
  | p :: ps, q :: qs => match cutM p q with
    | some x => (match cutL ps qs with
      | some xs => some (x :: xs)
      | none => none)
    | none => none
  | _, _ => none
end
mutual
def Al : Rg → Rg → Prop
  | _, .any => True
  | .any, .rng _ _ => True
  | .any, .mk _ _ => True
  | .rng _ _, .rng _ _ => True
  | .nt _, .mk _ _ => True
  | .mk c ps, .mk c' qs => c = c' → ps.length ≤ 100 ∧ AlL ps qs
  | _, _ => False
def AlL : List Rg → List Rg → Prop
  | [], [] => True
  | p :: ps, q :: qs => Al p q ∧ AlL ps qs
  | _, _ => False
end
theorem AlL.len : ∀ {ps qs : List Rg}, AlL ps qs → ps.length = qs.length
  | [], [], _ => rfl
  | [], _ :: _, h => by simp [AlL] at h
  | _ :: _, [], h => by simp [AlL] at h
  | p :: ps, q :: qs, h => by simp only [AlL] at h; simp [AlL.len h.2]
theorem AlL.get : ∀ {ps qs : List Rg} {i : Nat} {p q : Rg}, AlL ps qs → ps[i]? = some p → qs[i]? = some q → Al p q
  | p :: ps, q :: qs, 0, _, _, h, h1, h2 => by
    simp only [AlL] at h
    simp at h1 h2; subst h1 h2; exact h.1
  | p :: ps, q :: qs, i + 1, _, _, h, h1, h2 => by
    simp only [AlL] at h
    exact AlL.get h.2 (by simpa using h1) (by simpa using h2)
  | [], _, _, _, _, _, h1, _ => by simp at h1
  | _ :: _, [], _, _, _, _, _, h2 => by simp at h2
end K20
end

section
set_option maxHeartbeats 0
set_option linter.all false
set_option maxRecDepth 100000
namespace K20
open Ev
abbrev Mk := String × List String
abbrev Ty := List (String × List Mk)
def encF (fs : List String) : D := .tup (fs.map .str)
def encM (m : Mk) : D := .tup [.str m.1, encF m.2]
def encMs (ms : List Mk) : D := .tup (ms.map encM)
def encRow (r : String × List Mk) : D := .tup [.str r.1, encMs r.2]
def encT (T : Ty) : D := .tup (T.map encRow)
def makersOf (T : Ty) (name : String) : List Mk := match T.find? (fun r => r.1 == name) with
  | some r => r.2
  | none => []
def fieldsOf (T : Ty) (c : String) : List String := match T.find? (fun r => (r.2.find? (fun m => m.1 == c)).isSome) with
  | some r => (match r.2.find? (fun m => m.1 == c) with
    | some m => m.2
    | none => [])
  | none => []
def rr (r : Rg) (lo hi c d : Int) : List Rg := if d < lo ∨ hi < c then [r] else (if lo < c then [.rng lo (c - 1)] else []) ++ (if d < hi then [.rng (d + 1) hi] else [])
theorem sApp_ok {i : Nat} {e : E} {ρ : Env} {μ μ' : Mem} {xs : List R} {r : R} (h1 : ρ[i]? = some (.own xs)) (h2 : e ρ μ = .ok r μ') (h3 : xs.length < 1000000) : sApp i e ρ μ = .ok (.nx (ρ.set i (.own (xs ++ [r])))) μ' := by
  unfold sApp; rw [h1]; show (e ρ μ).bind _ = _; rw [h2, bind_ok, if_pos (lt_SL h3)]
theorem sOwn_lst {i : Nat} {e : E} {ρ : Env} {μ μ' : Mem} {ds : List D} (h : e ρ μ = .ok (.d (.lst ds)) μ') : sOwn i e ρ μ = .ok (.nx (ρ.set i (.own (ds.map .d)))) μ' := by unfold sOwn; rw [h]; rfl
theorem sFrz_ok {i : Nat} {ρ : Env} {μ : Mem} {rs : List R} (h : ρ[i]? = some (.own rs)) : sFrz i ρ μ = .ok (.nx (ρ.set i (.v (mkL rs)))) μ := by unfold sFrz; rw [h]
def namesOf (T : Ty) (name : String) : List String := (makersOf T name).map (·.1)
def leftM (T : Ty) (name : String) (l : List String) (c : String) : List Rg :=
  if ((namesOf T name).filter fun x => x ∈ l ∨ x = c).length < (namesOf T name).length then [.nt ((namesOf T name).filter fun x => x ∈ l ∨ x = c)] else []
end K20
end

section
set_option maxHeartbeats 0
set_option linter.all false
set_option maxRecDepth 100000
namespace K20
open Ev
mutual
def restM (T : Ty) : String → Rg → Rg → List Rg
  | _, _, .any => []
  | _, .rng a b, .rng c d => rr (.rng a b) a b c d
  | _, r, .rng c d => rr r (-99) 99 c d
  | name, .nt l, .mk c qs => if c ∈ l then [.nt l] else leftM T name l c ++ (match cutL (qs.map fun _ => .any) qs with
    | none => [qs.map fun _ => Rg.any]
    | some cs => rowsL T [] (fieldsOf T c) (qs.map fun _ => .any) qs cs).map (.mk c)
  | _, .mk c' ps, .mk c qs => if c' = c then (match cutL ps qs with
    | none => [ps]
    | some cs => rowsL T [] (fieldsOf T c) ps qs cs).map (.mk c) else [.mk c' ps]
  | name, _, .mk c qs => leftM T name [] c ++ (match cutL (qs.map fun _ => .any) qs with
    | none => [qs.map fun _ => Rg.any]
    | some cs => rowsL T [] (fieldsOf T c) (qs.map fun _ => .any) qs cs).map (.mk c)
  | _, _, .nt _ => []
def rowsL (T : Ty) : List Rg → List String → List Rg → List Rg → List Rg → List (List Rg)
  | pre, n :: ns, p :: ps, q :: qs, c :: cs => (restM T n p q).map (fun x => pre ++ x :: ps) ++ rowsL T (pre ++ [c]) ns ps qs cs
  | _, _, _, _, _ => []
end
def restL (T : Ty) (ns : List String) (ps qs : List Rg) : List (List Rg) := match cutL ps qs with
  | none => [ps]
  | some cs => rowsL T [] ns ps qs cs
mutual
def RT (T : Ty) : String → Rg → Rg → Prop
  | _, _, .any => True
  | _, .any, .rng _ _ => True
  | _, .rng _ _, .rng _ _ => True
  | name, .any, .mk c qs => c ∈ namesOf T name ∧ (namesOf T name).Nodup ∧ qs.length ≤ 100 ∧ (fieldsOf T c).length = qs.length ∧ RTL T (fieldsOf T c) (qs.map fun _ => .any) qs
  | name, .nt l, .mk c qs => c ∈ namesOf T name ∧ (namesOf T name).Nodup ∧ qs.length ≤ 100 ∧ (fieldsOf T c).length = qs.length ∧ l.Nodup ∧ l.length ≤ 1000 ∧ (∀ x ∈ l, x ∈ namesOf T name) ∧ RTL T (fieldsOf T c) (qs.map fun _ => .any) qs
  | name, .mk c' ps, .mk c qs => c' = c → qs.length ≤ 100 ∧ RTL T (fieldsOf T c) ps qs
  | _, _, _ => False
def RTL (T : Ty) : List String → List Rg → List Rg → Prop
  | [], [], [] => True
  | n :: ns, p :: ps, q :: qs => RT T n p q ∧ Al p q ∧ RTL T ns ps qs
  | _, _, _ => False
end
theorem RTL.al {T : Ty} : ∀ {ns : List String} {ps qs : List Rg}, RTL T ns ps qs → AlL ps qs
  | [], [], [], _ => by simp [AlL]
  | _ :: _, _ :: _, _ :: _, h => by
    simp only [RTL] at h
    simp only [AlL]
    exact ⟨h.2.1, RTL.al h.2.2⟩
  | [], [], _ :: _, h => by simp [RTL] at h
  | [], _ :: _, _, h => by simp [RTL] at h
  | _ :: _, [], _, h => by simp [RTL] at h
  | _ :: _, _ :: _, [], h => by simp [RTL] at h
theorem RTL.len {T : Ty} : ∀ {ns : List String} {ps qs : List Rg}, RTL T ns ps qs → ns.length = ps.length ∧ ps.length = qs.length
  | [], [], [], _ => by simp
  | _ :: _, _ :: _, _ :: _, h => by
    simp only [RTL] at h
    have := RTL.len h.2.2
    simp; omega
  | [], [], _ :: _, h => by simp [RTL] at h
  | [], _ :: _, _, h => by simp [RTL] at h
  | _ :: _, [], _, h => by simp [RTL] at h
  | _ :: _, _ :: _, [], h => by simp [RTL] at h
theorem RTL.get {T : Ty} : ∀ {ns : List String} {ps qs : List Rg} {i : Nat} {n : String} {p q : Rg}, RTL T ns ps qs → ns[i]? = some n → ps[i]? = some p → qs[i]? = some q → RT T n p q
  | _ :: _, _ :: _, _ :: _, 0, _, _, _, h, h1, h2, h3 => by
    simp only [RTL] at h
    simp at h1 h2 h3; subst h1 h2 h3; exact h.1
  | _ :: _, _ :: _, _ :: _, i + 1, _, _, _, h, h1, h2, h3 => by
    simp only [RTL] at h
    exact RTL.get h.2.2 (by simpa using h1) (by simpa using h2) (by simpa using h3)
  | [], _, _, _, _, _, _, _, h1, _, _ => by simp at h1
  | _ :: _, [], _, _, _, _, _, _, _, h2, _ => by simp at h2
  | _ :: _, _ :: _, [], _, _, _, _, _, _, _, h3 => by simp at h3
end K20
end

section
set_option maxHeartbeats 0
set_option linter.all false
set_option maxRecDepth 100000
namespace K20
open Ev
section
variable {n : Nat} {T : Ty} {name c : String} {ps qs : List Rg} {μ : Mem}
end
end K20
end

section
set_option maxHeartbeats 0
set_option linter.all false
set_option maxRecDepth 100000
namespace K20
open Ev
end K20
end

section
set_option maxHeartbeats 0
set_option linter.all false
set_option maxRecDepth 100000
namespace K20
open Ev
def Bx (ν : Mem) (digs : List Int) (k : Nat) : Mem := .lst [.lst (digs.map .int), .int k] :: ν
theorem vw_box (ν : Mem) (digs : List Int) (k : Nat) : vw (Bx ν digs k) (.p 0) = .d (.lst [.lst (digs.map .int), .int k]) := rfl
theorem draw_spec (n : Nat) (ν : Mem) (digs : List Int) (k : Nat) (m : Int) (hm : 0 < m) : ∃ v, 0 ≤ v ∧ v < m ∧ callN P (n + 1) "_law_draw" [.p 0, .d (.int m)] (Bx ν digs k) = .ok (.d (.int v)) (Bx ν digs (k + 1)) := by
  rw [callN_run (d := f_law_draw) rfl rfl]
  generalize callN P n = C
  have key : ∀ w : Int, 0 ≤ w % m ∧ w % m < m := fun w => ⟨Int.emod_nonneg _ (by omega), Int.emod_lt_of_pos _ hm⟩
  have s1 : sAs (tgN 2) (eIdx (eV 0) (eC (.int 1))) [.v (.p 0), .v (.d (.int m)), .un] (Bx ν digs k) = .ok (.nx [.v (.p 0), .v (.d (.int m)), .v (.d (.int k))]) (Bx ν digs k) := by
    rw [sAs_ok (μ' := Bx ν digs k) (r := .d (.int k)) (by simp [eIdx, eOp, eV, eC, vw_box, lift])]; rfl
  have s2 : sSet (eV 0) (eC (.int 1)) (eOp addR (eV 2) (eC (.int 1))) [.v (.p 0), .v (.d (.int m)), .v (.d (.int k))] (Bx ν digs k) = .ok (.nx [.v (.p 0), .v (.d (.int m)), .v (.d (.int k))]) (Bx ν digs (k + 1)) := by
    simp [sSet, eV, eC, eOp, vw_d, lift, Bx, ixN]
  by_cases h : k < digs.length
  · refine ⟨digs[k] % m, (key _).1, (key _).2, runB_rt ?_ rfl⟩
    simp only [f_law_draw, List.map_cons, List.map_nil, List.length_cons, List.length_nil, Nat.reduceAdd, Nat.reduceSub, List.replicate_succ, List.replicate_zero, List.cons_append, List.nil_append]
    rw [sq_nx s1, sq_nx s2]
    refine sq_rt ?_
    rw [sIf_t (μ' := Bx ν digs (k + 1)) (by simp [tCmp, eV, vw_d, eBi, evs_cons, evs_nil, eIdx, eOp, eC, vw_box, lift, h])]
    exact sRet_ok (by simp [eOp, eBi, evs_cons, evs_nil, eIdx, eV, eC, vw_d, vw_box, lift, h, hm])
  · refine ⟨((k : Int) * 7 + 3) % m, (key _).1, (key _).2, runB_rt ?_ rfl⟩
    simp only [f_law_draw, List.map_cons, List.map_nil, List.length_cons, List.length_nil, Nat.reduceAdd, Nat.reduceSub, List.replicate_succ, List.replicate_zero, List.cons_append, List.nil_append]
    rw [sq_nx s1, sq_nx s2]
    rw [sq_if_f (μ' := Bx ν digs (k + 1)) (by simp [tCmp, eV, vw_d, eBi, evs_cons, evs_nil, eIdx, eOp, eC, vw_box, lift]; omega)]
    exact sRet_ok (eOp_ok (eBi1_ok (eOp_ok (eOp_ok (eV_at rfl) eC_ok (mulR_r (by decide))) eC_ok rfl) rfl) (eV_at rfl) (modR_ok hm))
theorem cell_spec (n : Nat) (ns : List Int) (k : Nat) (μ : Mem) : ∃ v : Int, callN P (n + 1) "_law_cell" [.scr ns, .d (.int k)] μ = .ok (.d (.int v)) μ := by
  rw [callN_run (d := f_law_cell) rfl rfl]
  generalize callN P n = C
  by_cases h : k < ns.length
  · refine ⟨ns[k], runB_rt (μ' := μ) ?_ rfl⟩
    simp only [f_law_cell, List.map_cons, List.map_nil, List.length_cons, List.length_nil, Nat.reduceAdd, Nat.reduceSub, List.replicate_succ, List.replicate_zero, List.cons_append, List.nil_append]
    refine sq_rt ?_
    rw [sIf_t (μ' := μ) (by simp [eV, eB, vw_d, vw_scr, vw_ls, vw_dic, eBi, evs_nil, evs_cons, lift, eIdx, eOp, eC, tCmp, eTup, eLst, valsR_nil, valsR_cons, tAnd, tOr, tNot, tE, eT, eIf, eCall, tIsN, tNotN, eNeg, eSlc, oN, oE, EqDep, eqD, D.dep, D.depL, h])]
    exact sRet_ok (by simp [eV, eB, vw_d, vw_scr, vw_ls, vw_dic, eBi, evs_nil, evs_cons, lift, eIdx, eOp, eC, tCmp, eTup, eLst, valsR_nil, valsR_cons, tAnd, tOr, tNot, tE, eT, eIf, eCall, tIsN, tNotN, eNeg, eSlc, oN, oE, EqDep, eqD, D.dep, D.depL, h])
  · refine ⟨0, runB_rt (μ' := μ) ?_ rfl⟩
    simp only [f_law_cell, List.map_cons, List.map_nil, List.length_cons, List.length_nil, Nat.reduceAdd, Nat.reduceSub, List.replicate_succ, List.replicate_zero, List.cons_append, List.nil_append]
    rw [sq_if_f (μ' := μ) (by simp [eV, eB, vw_d, vw_scr, vw_ls, vw_dic, eBi, evs_nil, evs_cons, lift, eIdx, eOp, eC, tCmp, eTup, eLst, valsR_nil, valsR_cons, tAnd, tOr, tNot, tE, eT, eIf, eCall, tIsN, tNotN, eNeg, eSlc, oN, oE, EqDep, eqD, D.dep, D.depL]; omega)]
    exact sRet_ok (by simp [eV, eB, vw_d, vw_scr, vw_ls, vw_dic, eBi, evs_nil, evs_cons, lift, eIdx, eOp, eC, tCmp, eTup, eLst, valsR_nil, valsR_cons, tAnd, tOr, tNot, tE, eT, eIf, eCall, tIsN, tNotN, eNeg, eSlc, oN, oE, EqDep, eqD, D.dep, D.depL])
theorem digits_specG (n : Nat) (ns : List Int) (k0 L : Nat) (hL : k0 + L ≤ 1000) (μ : Mem) : ∃ digs : List Int, callN P (n + 2) "_law_digits" [.scr ns, .d (.int (k0 : Int)), .d (.int ((k0 + L : Nat) : Int))] μ = .ok (.d (.lst (digs.map .int))) μ := by
  rw [callN_run (d := f_law_digits_2) rfl rfl]
  have hcell := fun k => cell_spec n ns k μ
  generalize callN P (n + 1) = C at hcell ⊢
  have small_loop : ∀ (digs : List Int) (k cell seed0 : Int) (x6 : Sl), digs.length ≤ 100000 → ∃ (digs' : List Int) (x6' x7' : Sl), digs'.length ≤ digs.length + 12 ∧
      forL (tgN 6) (sq (sAs (tgN 7) (eOp modR (eBi intR [eOp addR (eOp addR (eOp mulR (eV 7) (eC (.int 16807))) (eOp mulR (eC (.int 7)) (eV 6))) (eC (.int 1))]) (eC (.int 2147483647)))) (sApp 3 (eOp modR (eBi intR [eOp fdivR (eV 7) (eC (.int 997))]) (eC (.int 1000))))) (rangeF 0 12)
        [.v (.scr ns), .v (.d (.int (k0 : Int))), .v (.d (.int ((k0 + L : Nat) : Int))), .own (digs.map fun d => .d (.int d)), .v (.d (.int k)), .v (.d (.int cell)), x6, .v (.d (.int seed0))] μ =
        .ok (.nx [.v (.scr ns), .v (.d (.int (k0 : Int))), .v (.d (.int ((k0 + L : Nat) : Int))), .own (digs'.map fun d => .d (.int d)), .v (.d (.int k)), .v (.d (.int cell)), x6', x7']) μ := by
    intro digs k cell seed0 x6 hl
    obtain ⟨ρ', ⟨digs', y6, seed', rfl, hd⟩, h⟩ := forL_inv (t := tgN 6) (b := sq (sAs (tgN 7) (eOp modR (eBi intR [eOp addR (eOp addR (eOp mulR (eV 7) (eC (.int 16807))) (eOp mulR (eC (.int 7)) (eV 6))) (eC (.int 1))]) (eC (.int 2147483647)))) (sApp 3 (eOp modR (eBi intR [eOp fdivR (eV 7) (eC (.int 997))]) (eC (.int 1000))))) (μ := μ)
      (fun i ρ => ∃ (digs' : List Int) (y6 : Sl) (seed' : Int), ρ = [.v (.scr ns), .v (.d (.int (k0 : Int))), .v (.d (.int ((k0 + L : Nat) : Int))), .own (digs'.map fun d => .d (.int d)), .v (.d (.int k)), .v (.d (.int cell)), y6, .v (.d (.int seed'))] ∧ digs'.length ≤ digs.length + i)
      (xs := rangeF 0 12) (k := 0) (ρ := [.v (.scr ns), .v (.d (.int (k0 : Int))), .v (.d (.int ((k0 + L : Nat) : Int))), .own (digs.map fun d => .d (.int d)), .v (.d (.int k)), .v (.d (.int cell)), x6, .v (.d (.int seed0))]) ⟨digs, x6, seed0, rfl, by simp⟩ (by
        rintro i x ρ hx ⟨digs', y6, seed', rfl, hd⟩
        have hi : i < 12 := by
          have := (List.getElem?_eq_some_iff.mp hx).1
          simpa using this
        rw [getElem_rangeF _ _ _ hi] at hx
        cases hx
        refine ⟨_, by simp only [tgN]; rfl, ?_⟩
        simp only [List.set_cons_succ, List.set_cons_zero]
        refine ⟨_, ⟨digs' ++ [(seed' * 16807 + 7 * (0 + (i : Int)) + 1) % 2147483647 / 997 % 1000], .v (.d (.int (0 + (i : Int)))), (seed' * 16807 + 7 * (0 + (i : Int)) + 1) % 2147483647, rfl, by simp; omega⟩, ?_⟩
        rw [sq_as (μ' := μ) (r := .d (.int ((seed' * 16807 + 7 * (0 + (i : Int)) + 1) % 2147483647))) (eOp_ok (eBi1_ok (eOp_ok (eOp_ok (eOp_ok (eV_at rfl) eC_ok (mulR_r (by decide))) (eOp_ok eC_ok (eV_at rfl) (mulR_l (by decide))) rfl) eC_ok rfl) rfl) eC_ok (modR_ok (by decide)))]
        simp only [List.set_cons_succ, List.set_cons_zero]
        rw [sApp_ok (μ' := μ) (r := .d (.int ((seed' * 16807 + 7 * (0 + (i : Int)) + 1) % 2147483647 / 997 % 1000))) rfl (eOp_ok (eBi1_ok (eOp_ok (eV_at rfl) eC_ok (fdivR_ok (by decide))) rfl) eC_ok (modR_ok (by decide))) (by simp; omega)]
        simp only [List.set_cons_succ, List.set_cons_zero]
        simp)
    exact ⟨digs', y6, _, by simpa using hd, h⟩
  have big_loop : ∀ (digs : List Int) (k cell : Int) (x6 x7 : Sl), digs.length ≤ 100000 → ∃ (digs' : List Int) (x6' : Sl) (cell' : Int), digs'.length ≤ digs.length + 60 ∧
      forL (tgN 6) (sIf (tCmp gtR (eV 5) (eC (.int 0))) (sq (sApp 3 (eOp modR (eBi intR [eV 5]) (eC (.int 1000)))) (sAs (tgN 5) (eOp fdivR (eV 5) (eC (.int 1000))))) sNil) (rangeF 0 60)
        [.v (.scr ns), .v (.d (.int (k0 : Int))), .v (.d (.int ((k0 + L : Nat) : Int))), .own (digs.map fun d => .d (.int d)), .v (.d (.int k)), .v (.d (.int cell)), x6, x7] μ =
        .ok (.nx [.v (.scr ns), .v (.d (.int (k0 : Int))), .v (.d (.int ((k0 + L : Nat) : Int))), .own (digs'.map fun d => .d (.int d)), .v (.d (.int k)), .v (.d (.int cell')), x6', x7]) μ := by
    intro digs k cell x6 x7 hl
    obtain ⟨ρ', ⟨digs', y6, cell', rfl, hd⟩, h⟩ := forL_inv (t := tgN 6) (b := sIf (tCmp gtR (eV 5) (eC (.int 0))) (sq (sApp 3 (eOp modR (eBi intR [eV 5]) (eC (.int 1000)))) (sAs (tgN 5) (eOp fdivR (eV 5) (eC (.int 1000))))) sNil) (μ := μ)
      (fun i ρ => ∃ (digs' : List Int) (y6 : Sl) (cell' : Int), ρ = [.v (.scr ns), .v (.d (.int (k0 : Int))), .v (.d (.int ((k0 + L : Nat) : Int))), .own (digs'.map fun d => .d (.int d)), .v (.d (.int k)), .v (.d (.int cell')), y6, x7] ∧ digs'.length ≤ digs.length + i)
      (xs := rangeF 0 60) (k := 0) (ρ := [.v (.scr ns), .v (.d (.int (k0 : Int))), .v (.d (.int ((k0 + L : Nat) : Int))), .own (digs.map fun d => .d (.int d)), .v (.d (.int k)), .v (.d (.int cell)), x6, x7]) ⟨digs, x6, cell, rfl, by simp⟩ (by
        rintro i x ρ hx ⟨digs', y6, cell', rfl, hd⟩
        have hi : i < 60 := by
          have := (List.getElem?_eq_some_iff.mp hx).1
          simpa using this
        rw [getElem_rangeF _ _ _ hi] at hx
        cases hx
        refine ⟨_, by simp only [tgN]; rfl, ?_⟩
        simp only [List.set_cons_succ, List.set_cons_zero]
        by_cases hc : 0 < cell'
        · refine ⟨_, ⟨digs' ++ [cell' % 1000], .v (.d (.int (0 + (i : Int)))), cell' / 1000, rfl, by simp; omega⟩, ?_⟩
          rw [sIf_t (tCmp_ok (μ2 := μ) (eV_at rfl) eC_ok (show some (decide (0 < cell')) = some true by rw [decide_eq_true hc]))]
          rw [sq_nx (sApp_ok (μ' := μ) (r := .d (.int (cell' % 1000))) rfl (eOp_ok (eBi1_ok (eV_at rfl) rfl) eC_ok (modR_ok (by decide))) (by simp; omega))]
          simp only [List.set_cons_succ, List.set_cons_zero]
          rw [sAs_ok (μ' := μ) (r := .d (.int (cell' / 1000))) (eOp_ok (eV_at rfl) eC_ok (fdivR_ok (by decide)))]
          simp only [List.set_cons_succ, List.set_cons_zero]
          simp
        · refine ⟨_, ⟨digs', .v (.d (.int (0 + (i : Int)))), cell', rfl, by omega⟩, ?_⟩
          rw [sIf_f (tCmp_ok (μ2 := μ) (eV_at rfl) eC_ok (show some (decide (0 < cell')) = some false by rw [decide_eq_false hc]))]
          exact sNil_ok)
    exact ⟨digs', y6, cell', by simpa using hd, h⟩
  have pow18 : powR (.d (.int 10)) (.d (.int 18)) = some (.d (.int 1000000000000000000)) := by
    rw [powR_ok (by decide)]
    rfl
  obtain ⟨ρ', ⟨digs, x4, x5, x6, x7, rfl, hd⟩, h⟩ := forL_inv (t := tgN 4) (b := (sq (sAs (tgN 5) (eCall C "_law_cell" [eV 0, eV 4]))
  (sq (sIf (tCmp ltR (eV 5) (eC (.int 0))) (sAs (tgN 5) (eOp subR (eC (.int 1)) (eOp mulR (eC (.int 2)) (eV 5)))) sNil)
  (sIf (tCmp geR (eV 5) (eOp powR (eC (.int 10)) (eC (.int 18)))) (sFor (tgN 6) (iRange1 (eC (.int 60)))
  (sIf (tCmp gtR (eV 5) (eC (.int 0))) (sq (sApp 3 (eOp modR (eBi intR [eV 5]) (eC (.int 1000)))) (sAs (tgN 5) (eOp fdivR (eV 5) (eC (.int 1000))))) sNil))
  (sq (sAs (tgN 7) (eOp modR (eBi intR [eOp addR (eOp addR (eOp mulR (eV 5) (eC (.int 48271))) (eOp mulR (eV 4) (eC (.int 69621)))) (eC (.int 11))]) (eC (.int 2147483647))))
  (sFor (tgN 6) (iRange1 (eC (.int 12)))
  (sq (sAs (tgN 7) (eOp modR (eBi intR [eOp addR (eOp addR (eOp mulR (eV 7) (eC (.int 16807))) (eOp mulR (eC (.int 7)) (eV 6))) (eC (.int 1))]) (eC (.int 2147483647)))) (sApp 3 (eOp modR (eBi intR [eOp fdivR (eV 7) (eC (.int 997))]) (eC (.int 1000))))))))))) (μ := μ)
    (fun i ρ => ∃ (digs : List Int) (x4 x5 x6 x7 : Sl), ρ = [.v (.scr ns), .v (.d (.int (k0 : Int))), .v (.d (.int ((k0 + L : Nat) : Int))), .own (digs.map fun d => .d (.int d)), x4, x5, x6, x7] ∧ digs.length ≤ 60 * i)
    (xs := rangeF (k0 : Int) L) (k := 0) (ρ := [.v (.scr ns), .v (.d (.int (k0 : Int))), .v (.d (.int ((k0 + L : Nat) : Int))), .own [], .un, .un, .un, .un]) ⟨[], _, _, _, _, rfl, by simp⟩ (by
      rintro i x ρ hx ⟨digs, x4, x5, x6, x7, rfl, hd⟩
      have hi : i < L := by
        have := (List.getElem?_eq_some_iff.mp hx).1
        simpa using this
      rw [getElem_rangeF _ _ _ hi] at hx
      cases hx
      rw [show (k0 : Int) + (i : Int) = ((k0 + i : Nat) : Int) from rfl]
      generalize hki : k0 + i = ki
      rw [Nat.zero_add] at hd ⊢
      refine ⟨_, by simp only [tgN]; rfl, ?_⟩
      simp only [List.set_cons_succ, List.set_cons_zero]
      obtain ⟨v, hv⟩ := hcell ki
      have hv1 : eCall C "_law_cell" [eV 0, eV 4] [.v (.scr ns), .v (.d (.int (k0 : Int))), .v (.d (.int ((k0 + L : Nat) : Int))), .own (digs.map fun d => .d (.int d)), .v (.d (.int ki)), x5, x6, x7] μ = .ok (.d (.int v)) μ := by simp [eCall, evs_cons, evs_nil, eV, hv]
      rw [sq_as hv1]
      simp only [List.set_cons_succ, List.set_cons_zero]
      obtain ⟨w, hw⟩ : ∃ w : Int, sIf (tCmp ltR (eV 5) (eC (.int 0))) (sAs (tgN 5) (eOp subR (eC (.int 1)) (eOp mulR (eC (.int 2)) (eV 5)))) sNil [.v (.scr ns), .v (.d (.int (k0 : Int))), .v (.d (.int ((k0 + L : Nat) : Int))), .own (digs.map fun d => .d (.int d)), .v (.d (.int ki)), .v (.d (.int v)), x6, x7] μ =
          .ok (.nx [.v (.scr ns), .v (.d (.int (k0 : Int))), .v (.d (.int ((k0 + L : Nat) : Int))), .own (digs.map fun d => .d (.int d)), .v (.d (.int ki)), .v (.d (.int w)), x6, x7]) μ := by
        by_cases h0 : v < 0
        · refine ⟨1 - 2 * v, ?_⟩
          rw [sIf_t (tCmp_ok (μ2 := μ) (eV_at rfl) eC_ok (show some (decide (v < 0)) = some true by rw [decide_eq_true h0]))]
          rw [sAs_ok (μ' := μ) (r := .d (.int (1 - 2 * v))) (eOp_ok eC_ok (eOp_ok eC_ok (eV_at rfl) (mulR_l (by decide))) rfl)]
          simp only [List.set_cons_succ, List.set_cons_zero]
        · refine ⟨v, ?_⟩
          rw [sIf_f (tCmp_ok (μ2 := μ) (eV_at rfl) eC_ok (show some (decide (v < 0)) = some false by rw [decide_eq_false h0]))]
          exact sNil_ok
      rw [sq_nx hw]
      by_cases hb : (1000000000000000000 : Int) ≤ w
      · rw [sIf_t (tCmp_ok (μ2 := μ) (eV_at rfl) (eOp_ok eC_ok eC_ok pow18) (show some (decide ((1000000000000000000 : Int) ≤ w)) = some true by rw [decide_eq_true hb]))]
        obtain ⟨digs', y6, c', hd', hl⟩ := big_loop digs ki w x6 x7 (by omega)
        exact ⟨_, ⟨digs', _, _, _, _, rfl, by omega⟩, sFor_rt (iRange1_nat (n := 60) eC_ok (by omega)) hl⟩
      · rw [sIf_f (tCmp_ok (μ2 := μ) (eV_at rfl) (eOp_ok eC_ok eC_ok pow18) (show some (decide ((1000000000000000000 : Int) ≤ w)) = some false by rw [decide_eq_false hb]))]
        rw [sq_as (μ' := μ) (r := .d (.int ((w * 48271 + (ki : Int) * 69621 + 11) % 2147483647))) (eOp_ok (eBi1_ok (eOp_ok (eOp_ok (eOp_ok (eV_at rfl) eC_ok (mulR_r (by decide))) (eOp_ok (eV_at rfl) eC_ok (mulR_r (by decide))) rfl) eC_ok rfl) rfl) eC_ok (modR_ok (by decide)))]
        simp only [List.set_cons_succ, List.set_cons_zero]
        obtain ⟨digs', y6, y7, hd', hl⟩ := small_loop digs ki w ((w * 48271 + (ki : Int) * 69621 + 11) % 2147483647) x6 (by omega)
        exact ⟨_, ⟨digs', _, _, _, _, rfl, by omega⟩, sFor_rt (iRange1_nat (n := 12) eC_ok (by omega)) hl⟩)
  refine ⟨digs, runB_rt (μ' := μ) ?_ rfl⟩
  simp only [f_law_digits_2, List.map_cons, List.map_nil, List.length_cons, List.length_nil, Nat.reduceAdd, Nat.reduceSub, List.replicate_succ, List.replicate_zero, List.cons_append, List.nil_append]
  rw [sq_nx (sOwn_lst (ds := []) (μ' := μ) (by simp [eLst, evs_nil]))]
  simp only [List.set_cons_succ, List.set_cons_zero, List.map_nil]
  have hit : iRange2 (eV 1) (eV 2) [.v (.scr ns), .v (.d (.int (k0 : Int))), .v (.d (.int ((k0 + L : Nat) : Int))), .own [], .un, .un, .un, .un] μ = .ok (rangeF (k0 : Int) L) μ := iRange2_nat (k := k0) (n := L) (eV_at rfl) (eV_at rfl) (by omega)
  rw [sq_nx (sFor_rt hit h), sq_nx (sFrz_ok rfl)]
  simp only [List.set_cons_succ, List.set_cons_zero]
  rw [mkL_map]
  exact sRet_ok (eV_at rfl)
theorem digits_spec (n : Nat) (ns : List Int) (L : Nat) (hL : L ≤ 1000) (μ : Mem) : ∃ digs : List Int, callN P (n + 2) "_law_digits" [.scr ns, .d (.int 0), .d (.int (L : Int))] μ = .ok (.d (.lst (digs.map .int))) μ := by
  have := digits_specG n ns 0 L (by omega) μ
  rw [Nat.zero_add] at this
  exact this
end K20
end

section
set_option maxHeartbeats 0
set_option linter.all false
set_option maxRecDepth 100000
namespace K20
open Ev
def Draws (C : Fn) : Prop := ∀ (ν : Mem) (digs : List Int) (k m : Nat), 0 < m → ∃ v : Nat, v < m ∧ C "_law_draw" [.p 0, .d (.int m)] (Bx ν digs k) = .ok (.d (.int v)) (Bx ν digs (k + 1))
theorem draws (n : Nat) : Draws (callN P (n + 1)) := fun ν digs k m hm => by
  obtain ⟨v, h0, h1, h2⟩ := draw_spec n ν digs k m (by omega)
  exact ⟨v.toNat, by omega, by rw [h2]; congr 3; omega⟩
theorem eDraw {C : Fn} {ρ : Env} {ν : Mem} {digs : List Int} {k v : Nat} {m : Int} {i : Nat} (hb : ρ[i]? = some (.v (.p 0))) (h : C "_law_draw" [.p 0, .d (.int m)] (Bx ν digs k) = .ok (.d (.int v)) (Bx ν digs (k + 1))) : eCall C "_law_draw" [eV i, eC (.int m)] ρ (Bx ν digs k) = .ok (.d (.int v)) (Bx ν digs (k + 1)) :=
  call2 (eV_at hb) eC_ok h
theorem Draws.at {C : Fn} (hC : Draws C) (i : Nat) (ν : Mem) (digs : List Int) (k m : Nat) {mi : Int} (hm : mi = (m : Int)) (h0 : 0 < m) : ∃ v : Nat, v < m ∧ ∀ ρ : Env, ρ[i]? = some (.v (.p 0)) → eCall C "_law_draw" [eV i, eC (.int mi)] ρ (Bx ν digs k) = .ok (.d (.int v)) (Bx ν digs (k + 1)) := by
  subst hm
  obtain ⟨v, hv, h⟩ := hC ν digs k m h0
  exact ⟨v, hv, fun ρ hb => eDraw hb h⟩
theorem pick_ix {C : Fn} {ρ : Env} {ν : Mem} {digs : List Int} {k v : Nat} {i j : Nat} {pool : List D} {x : R} (hx : x = .d (.lst pool) ∨ x = .d (.tup pool)) (hb : ρ[i]? = some (.v (.p 0))) (hp : ρ[j]? = some (.v x)) (h0 : 0 < pool.length) (h : C "_law_draw" [.p 0, .d (.int 90)] (Bx ν digs k) = .ok (.d (.int v)) (Bx ν digs (k + 1))) :
    ∃ (w : Nat) (d : D), w < pool.length ∧ pool[w]? = some d ∧ eIdx (eV j) (eOp modR (eBi intR [eCall C "_law_draw" [eV i, eC (.int 90)]]) (eBi lenR [eV j])) ρ (Bx ν digs k) = .ok (.d d) (Bx ν digs (k + 1)) := by
  have hw : v % pool.length < pool.length := Nat.mod_lt _ h0
  refine ⟨v % pool.length, pool[v % pool.length], hw, by simp [hw], ?_⟩
  unfold eIdx
  have e1 : eBi intR [eCall C "_law_draw" [eV i, eC (.int 90)]] ρ (Bx ν digs k) = .ok (.d (.int v)) (Bx ν digs (k + 1)) := eBi1_ok (eDraw hb h) rfl
  have e2 : eBi lenR [eV j] ρ (Bx ν digs (k + 1)) = .ok (.d (.int pool.length)) (Bx ν digs (k + 1)) := eBi1_ok (eV_at hp) (by rcases hx with rfl | rfl <;> rfl)
  have e3 := eOp_ok (f := modR) e1 e2 (z := .d (.int ((v : Int) % (pool.length : Int)))) (modR_ok (by omega))
  refine eOp_ok (eV_at hp) e3 ?_
  rcases hx with rfl | rfl
  · rw [vw_d, vw_d, idxR_lst, show ((v : Int) % (pool.length : Int)) = ((v % pool.length : Nat) : Int) by omega, atI_cast]
    simp [hw]
  · rw [vw_d, vw_d, idxR_tup, show ((v : Int) % (pool.length : Int)) = ((v % pool.length : Nat) : Int) by omega, atI_cast]
    simp [hw]
theorem tCmp_eqi {a b : E} {ρ : Env} {μ μ1 μ2 : Mem} {x y : Nat} (ha : a ρ μ = .ok (.d (.int x)) μ1) (hb : b ρ μ1 = .ok (.d (.int y)) μ2) : tCmp eqR a b ρ μ = .ok (decide (x = y)) μ2 :=
  tCmp_ok ha hb (by rw [vw_d, vw_d, eqR_d, eqD_left (by simp [D.dep]), eqv_int]; congr 1; rw [Bool.eq_iff_iff, beq_iff_eq, decide_eq_true_eq]; omega)
theorem tCmp_eqs {a b : E} {ρ : Env} {μ μ1 μ2 : Mem} {x y : String} (ha : a ρ μ = .ok (.d (.str x)) μ1) (hb : b ρ μ1 = .ok (.d (.str y)) μ2) : tCmp eqR a b ρ μ = .ok (decide (x = y)) μ2 :=
  tCmp_ok ha hb (by rw [vw_d, vw_d, eqR_d, eqD_left (by simp [D.dep]), eqv_str]; congr 1)
theorem eq_c {a : E} {ρ : Env} {μ μ1 : Mem} {x : Nat} (y : Nat) {yi : Int} (hy : yi = (y : Int)) (ha : a ρ μ = .ok (.d (.int x)) μ1) : tCmp eqR a (eC (.int yi)) ρ μ = .ok (decide (x = y)) μ1 := by
  subst hy; exact tCmp_eqi ha eC_ok
theorem or_sc {a b : T} {ρ : Env} {μ μ1 : Mem} {x y : Bool} (ha : a ρ μ = .ok x μ1) (hb : x = false → b ρ μ1 = .ok y μ1) : tOr a b ρ μ = .ok (x || y) μ1 := by
  unfold tOr
  rw [ha, bind_ok]
  cases x with
  | true => rw [if_pos rfl, Bool.true_or]
  | false => rw [if_neg (by simp), hb rfl, Bool.false_or]
theorem eT_ok {t : Ev.T} {ρ : Env} {μ μ1 : Mem} {b : Bool} (h : t ρ μ = .ok b μ1) : eT t ρ μ = .ok (.d (.bl b)) μ1 := by unfold eT; rw [h]; rfl
theorem ix_ok {a b : E} {ρ : Env} {μ μ1 μ2 : Mem} {ds : List D} {k : Nat} {x : D} (ha : a ρ μ = .ok (.d (.tup ds)) μ1) (hb : b ρ μ1 = .ok (.d (.int k)) μ2) (hx : ds[k]? = some x) : eIdx a b ρ μ = .ok (.d x) μ2 := by
  unfold eIdx
  refine eOp_ok ha hb ?_
  rw [vw_d, vw_d, idxR_tup, atI_cast, hx]; rfl
theorem ixc_ok {a : E} {ρ : Env} {μ μ1 : Mem} {ds : List D} {i : Int} {x : D} (ha : a ρ μ = .ok (.d (.tup ds)) μ1) (hx : atI ds i = some x) : eIdx a (eC (.int i)) ρ μ = .ok (.d x) μ1 := by
  unfold eIdx
  refine eOp_ok ha eC_ok ?_
  rw [vw_d, vw_d, idxR_tup, hx]; rfl
theorem call2' {C : Fn} {f : String} {a b : E} {ρ : Env} {μ : Mem} {x y : R} {o : Out R} (ha : a ρ μ = .ok x μ) (hb : b ρ μ = .ok y μ) (h : C f [x, y] μ = o) : eCall C f [a, b] ρ μ = o := call2 ha hb h
theorem lt_c' {a b : E} {ρ : Env} {μ : Mem} {x y : Nat} (ha : a ρ μ = .ok (.d (.int x)) μ) (hb : b ρ μ = .ok (.d (.int y)) μ) : tCmp ltR a b ρ μ = .ok (decide (x < y)) μ := by
  refine tCmp_ok ha hb ?_
  rw [vw_d, vw_d, ltR_int]; congr 1; rw [Bool.eq_iff_iff, decide_eq_true_eq, decide_eq_true_eq]; omega
end K20
end

section
set_option maxHeartbeats 0
set_option linter.all false
set_option maxRecDepth 100000
namespace K20
open Ev
def ty5 : List Ty := [[("B", [("Yes", []), ("No", [])])],
  [("L", [("Nil", []), ("Cons", ["Int", "L"])])],
  [("B", [("Yes", []), ("No", [])]), ("L", [("Nil", []), ("Cons", ["B", "L"]), ("Two", ["L", "L"])])],
  [("T", [("Leaf", ["Int"]), ("Fork", ["T", "T"]), ("Ref", ["U"])]), ("U", [("End", []), ("Wrap", ["T"])])],
  [("C", [("Red", []), ("Gold", []), ("Blue", []), ("Pair", ["C", "Int"])]), ("N", [("Zero", []), ("Next", ["N"])])]]
structure GoodT (T : Ty) : Prop where
  nm : (T.map (·.1)).Nodup
  cs : (T.flatMap fun r => r.2.map (·.1)).Nodup
  row : ∀ r ∈ T, r.1 ≠ "Int" ∧ r.1.length ≤ 8 ∧ 1 ≤ r.2.length ∧ r.2.length ≤ 4 ∧ ∀ m ∈ r.2, m.1.length ≤ 8 ∧ m.2.length ≤ 2 ∧ ∀ f ∈ m.2, f = "Int" ∨ f ∈ T.map (·.1)
  len : 1 ≤ T.length ∧ T.length ≤ 2
theorem good5 : ∀ T ∈ ty5, GoodT T := fun T h => by
  have key : ∀ T ∈ ty5, ((T.map (·.1)).Nodup ∧ (T.flatMap fun r => r.2.map (·.1)).Nodup) ∧ (∀ r ∈ T, r.1 ≠ "Int" ∧ r.1.length ≤ 8 ∧ 1 ≤ r.2.length ∧ r.2.length ≤ 4 ∧ ∀ m ∈ r.2, m.1.length ≤ 8 ∧ m.2.length ≤ 2 ∧ ∀ f ∈ m.2, f = "Int" ∨ f ∈ T.map (·.1)) ∧ 1 ≤ T.length ∧ T.length ≤ 2 := by decide +kernel
  obtain ⟨⟨a, b⟩, c, d⟩ := key T h
  exact ⟨a, b, c, d⟩
def TyNm (T : Ty) (name : String) : Prop := name = "Int" ∨ name ∈ T.map (·.1)
section
variable {T : Ty}
theorem find_row {name : String} (h : name ∈ T.map (·.1)) : ∃ r ∈ T, r.1 = name ∧ T.find? (fun r => r.1 == name) = some r := by
  obtain ⟨r, hr, e⟩ := List.mem_map.mp h
  cases hf : T.find? (fun r => r.1 == name) with
  | none => have := List.find?_eq_none.mp hf r hr; simp [e] at this
  | some q => exact ⟨q, List.mem_of_find?_eq_some hf, by simpa using List.find?_some hf, rfl⟩
theorem makersOf_row {name : String} {m : Mk} (h : m ∈ makersOf T name) : ∃ r ∈ T, r.1 = name ∧ makersOf T name = r.2 := by
  unfold makersOf at h ⊢
  cases hf : T.find? (fun r => r.1 == name) with
  | none => rw [hf] at h; cases h
  | some r => exact ⟨r, List.mem_of_find?_eq_some hf, by simpa using List.find?_some hf, rfl⟩
theorem makersOf_le (g : GoodT T) (name : String) : (makersOf T name).length ≤ 4 := by
  unfold makersOf
  cases hf : T.find? (fun r => r.1 == name) with
  | none => simp
  | some r => exact (g.row r (List.mem_of_find?_eq_some hf)).2.2.2.1
theorem makersOf_pos (g : GoodT T) {name : String} (h : TyNm T name) (hi : name ≠ "Int") : makersOf T name ≠ [] := by
  rcases h with h | h
  · exact absurd h hi
  · obtain ⟨r, hr, e, hf⟩ := find_row h
    unfold makersOf
    rw [hf]
    have := (g.row r hr).2.2.1
    intro z
    have z : r.2 = [] := z
    rw [z] at this
    simp at this
theorem flat_nodup {α β : Type} {f : α → List β} : ∀ {l : List α}, (l.flatMap f).Nodup → ∀ a ∈ l, (f a).Nodup
  | a :: l, h, b, hb => by
    rw [List.flatMap_cons] at h
    obtain ⟨h1, h2, _⟩ := List.nodup_append.mp h
    rcases List.mem_cons.mp hb with rfl | hb
    · exact h1
    · exact flat_nodup h2 b hb
theorem flat_one {α β : Type} {f : α → List β} : ∀ {l : List α}, (l.flatMap f).Nodup → ∀ a ∈ l, ∀ b ∈ l, ∀ x, x ∈ f a → x ∈ f b → a = b
  | c :: l, h, a, ha, b, hb, x, hxa, hxb => by
    rw [List.flatMap_cons] at h
    obtain ⟨h1, h2, h3⟩ := List.nodup_append.mp h
    rcases List.mem_cons.mp ha with e1 | ha
    · rcases List.mem_cons.mp hb with e2 | hb
      · rw [e1, e2]
      · exact absurd rfl (h3 x (by rw [← e1]; exact hxa) x (List.mem_flatMap.mpr ⟨b, hb, hxb⟩))
    · rcases List.mem_cons.mp hb with e2 | hb
      · exact absurd rfl (h3 x (by rw [← e2]; exact hxb) x (List.mem_flatMap.mpr ⟨a, ha, hxa⟩))
      · exact flat_one h2 a ha b hb x hxa hxb
theorem namesOf_nodup (g : GoodT T) (name : String) : (namesOf T name).Nodup := by
  unfold namesOf makersOf
  cases hf : T.find? (fun r => r.1 == name) with
  | none => simp
  | some r => exact flat_nodup (f := fun r : String × List Mk => r.2.map (·.1)) g.cs r (List.mem_of_find?_eq_some hf)
theorem nodup_key {l : List Mk} : (l.map (·.1)).Nodup → ∀ a ∈ l, ∀ b ∈ l, a.1 = b.1 → a = b := by
  induction l with
  | nil => intro _ a ha; cases ha
  | cons c l ih =>
    intro h a ha b hb e
    rw [List.map_cons, List.nodup_cons] at h
    rcases List.mem_cons.mp ha with e1 | ha
    · rcases List.mem_cons.mp hb with e2 | hb
      · rw [e1, e2]
      · exact absurd (List.mem_map.mpr ⟨b, hb, by rw [← e, e1]⟩) h.1
    · rcases List.mem_cons.mp hb with e2 | hb
      · exact absurd (List.mem_map.mpr ⟨a, ha, by rw [e, e2]⟩) h.1
      · exact ih h.2 a ha b hb e
theorem maker_fields (g : GoodT T) {name : String} {m : Mk} (hm : m ∈ makersOf T name) : fieldsOf T m.1 = m.2 ∧ m.2.length ≤ 2 ∧ (∀ f ∈ m.2, TyNm T f) ∧ m.1.length ≤ 8 := by
  obtain ⟨r, hr, e1, e2⟩ := makersOf_row hm
  rw [e2] at hm
  obtain ⟨_, _, _, _, hrow⟩ := g.row r hr
  obtain ⟨h1, h2, h3⟩ := hrow m hm
  refine ⟨?_, h2, h3, h1⟩
  unfold fieldsOf
  cases hf : T.find? (fun r => (r.2.find? (fun q : Mk => q.1 == m.1)).isSome) with
  | none =>
    have := List.find?_eq_none.mp hf r hr
    rw [List.find?_isSome] at this
    exact absurd ⟨m, hm, by simp⟩ this
  | some q =>
    have hq := List.mem_of_find?_eq_some hf
    have hs := List.find?_some hf
    obtain ⟨p, hp⟩ := Option.isSome_iff_exists.mp hs
    have hp1 : p.1 = m.1 := by simpa using List.find?_some hp
    have hp2 := List.mem_of_find?_eq_some hp
    have hqr : q = r := flat_one (f := fun r : String × List Mk => r.2.map (·.1)) g.cs q hq r hr m.1 (List.mem_map.mpr ⟨p, hp2, hp1⟩) (List.mem_map.mpr ⟨m, hm, rfl⟩)
    subst hqr
    show (match q.2.find? (fun q => q.1 == m.1) with
      | some m => m.2
      | none => []) = m.2
    rw [hp]
    show p.2 = m.2
    rw [nodup_key (flat_nodup (f := fun r : String × List Mk => r.2.map (·.1)) g.cs q hq) p hp2 m hm hp1]
end
theorem types_spec (n : Nat) (ν : Mem) (digs : List Int) (k : Nat) : ∃ T ∈ ty5, callN P (n + 2) "_law_types" [.p 0] (Bx ν digs k) = .ok (.d (encT T)) (Bx ν digs (k + 1)) := by
  rw [callN_run (d := f_law_types_3) rfl rfl]
  obtain ⟨v, hv, hd⟩ := (draws n).at 0 ν digs k 5 (mi := 5) rfl (by omega)
  generalize callN P (n + 1) = C at hd ⊢
  have hlt : v < ty5.length := hv
  refine ⟨ty5[v], List.getElem_mem hlt, runB_rt ?_ rfl⟩
  simp only [f_law_types_3, List.map_cons, List.map_nil, List.length_cons, List.length_nil, Nat.reduceAdd, Nat.reduceSub, List.replicate_succ, List.replicate_zero, List.cons_append, List.nil_append]
  rw [sq_as (hd _ rfl)]
  simp only [List.set_cons_succ, List.set_cons_zero]
  have c0 : ∀ (y : Nat) {yi : Int}, yi = (y : Int) → tCmp eqR (eV 1) (eC (.int yi)) [.v (.p 0), .v (.d (.int v))] (Bx ν digs (k + 1)) = .ok (decide (v = y)) (Bx ν digs (k + 1)) := fun y _ hy => eq_c y hy (eV_at rfl)
  have c00 := c0 0 (yi := 0) rfl
  have c01 := c0 1 (yi := 1) rfl
  have c02 := c0 2 (yi := 2) rfl
  have c03 := c0 3 (yi := 3) rfl
  have hcase : v = 0 ∨ v = 1 ∨ v = 2 ∨ v = 3 ∨ v = 4 := by omega
  rcases hcase with rfl | rfl | rfl | rfl | rfl
  · refine sq_rt ?_
    rw [sIf_t c00]
    exact sRet_ok (by simp [eTup, evs_cons, evs_nil, eC, ty5, encT, encRow, encMs, encM, encF])
  · rw [sq_if_f c00]
    refine sq_rt ?_
    rw [sIf_t c01]
    exact sRet_ok (by simp [eTup, evs_cons, evs_nil, eC, ty5, encT, encRow, encMs, encM, encF])
  · rw [sq_if_f c00, sq_if_f c01]
    refine sq_rt ?_
    rw [sIf_t c02]
    exact sRet_ok (by simp [eTup, evs_cons, evs_nil, eC, ty5, encT, encRow, encMs, encM, encF])
  · rw [sq_if_f c00, sq_if_f c01, sq_if_f c02]
    refine sq_rt ?_
    rw [sIf_t c03]
    exact sRet_ok (by simp [eTup, evs_cons, evs_nil, eC, ty5, encT, encRow, encMs, encM, encF])
  · rw [sq_if_f c00, sq_if_f c01, sq_if_f c02, sq_if_f c03]
    exact sRet_ok (by simp [eTup, evs_cons, evs_nil, eC, ty5, encT, encRow, encMs, encM, encF])
theorem makers_spec (n : Nat) (T : Ty) (name : String) (μ : Mem) : callN P (n + 1) "_law_constructors" [.d (encT T), .d (.str name)] μ = .ok (.d (encMs (makersOf T name))) μ := by
  rw [callN_run (d := f_law_constructors) rfl rfl]
  refine runB_rt (μ' := μ) ?_ rfl
  simp only [f_law_constructors, List.map_cons, List.map_nil, List.length_cons, List.length_nil, Nat.reduceAdd, Nat.reduceSub, List.replicate_succ, List.replicate_zero, List.cons_append, List.nil_append]
  have h := forL_find (t := tgN 2) (b := sIf (tCmp eqR (eIdx (eV 2) (eC (.int 0))) (eV 1)) (sRet (eIdx (eV 2) (eC (.int 1)))) sNil) (μ := μ) (fun r : String × List Mk => .d (encRow r)) (fun r => r.1 == name) (fun r => .d (encMs r.2))
    (fun ρ => ∃ a, ρ = [.v (.d (encT T)), .v (.d (.str name)), a]) (xs := T) (ρ := [.v (.d (encT T)), .v (.d (.str name)), .un]) ⟨_, rfl⟩ (by
      rintro x hx ρ ⟨a, rfl⟩
      refine ⟨[.v (.d (encT T)), .v (.d (.str name)), .v (.d (encRow x))], by simp [tgN], ?_⟩
      by_cases hc : x.1 = name
      · exact .inl ⟨by simp [hc], by simp [eV, eB, vw_d, vw_scr, vw_ls, vw_dic, eBi, evs_nil, evs_cons, lift, eIdx, eOp, eC, tCmp, eTup, eLst, valsR_nil, valsR_cons, tAnd, tOr, tNot, tE, eT, eIf, eCall, tIsN, tNotN, eNeg, eSlc, oN, oE, EqDep, eqD, D.dep, D.depL, runB, sq, sIf, sRet, sRetN, fin, sNil, sAs, tgN, tgT, tgs, iE, iEnum, sX, encRow, hc]⟩
      · exact .inr ⟨by simp [hc], _, ⟨.v (.d (encRow x)), rfl⟩, by simp [eV, eB, vw_d, vw_scr, vw_ls, vw_dic, eBi, evs_nil, evs_cons, lift, eIdx, eOp, eC, tCmp, eTup, eLst, valsR_nil, valsR_cons, tAnd, tOr, tNot, tE, eT, eIf, eCall, tIsN, tNotN, eNeg, eSlc, oN, oE, EqDep, eqD, D.dep, D.depL, runB, sq, sIf, sRet, sRetN, fin, sNil, sAs, tgN, tgT, tgs, iE, iEnum, sX, encRow, hc]⟩)
  have hit : iE (eV 0) [.v (.d (encT T)), .v (.d (.str name)), .un] μ = .ok (T.map fun r => .d (encRow r)) μ := by rw [iE_tup (ds := T.map encRow) (eV_at rfl), List.map_map]; rfl
  rcases h with ⟨x, h1, h2⟩ | ⟨h1, ρ', ⟨a, rfl⟩, h2⟩
  · rw [sq_rt (sFor_rt hit h2), makersOf, h1]
  · rw [sq_nx (sFor_rt hit h2), makersOf, h1]
    exact sRet_ok (by simp [eV, eB, vw_d, vw_scr, vw_ls, vw_dic, eBi, evs_nil, evs_cons, lift, eIdx, eOp, eC, tCmp, eTup, eLst, valsR_nil, valsR_cons, tAnd, tOr, tNot, tE, eT, eIf, eCall, tIsN, tNotN, eNeg, eSlc, oN, oE, EqDep, eqD, D.dep, D.depL, encMs])
theorem params_spec (n : Nat) {T : Ty} (g : GoodT T) (ν : Mem) (digs : List Int) (k : Nat) : ∃ (ns : List String) (k' : Nat), 1 ≤ ns.length ∧ ns.length ≤ 3 ∧ (∀ x ∈ ns, TyNm T x) ∧ callN P (n + 2) "_law_parameters" [.p 0, .d (encT T)] (Bx ν digs k) = .ok (.d (encF ns)) (Bx ν digs k') := by
  rw [callN_run (d := f_law_parameters) rfl rfl]
  have hC := draws n
  generalize callN P (n + 1) = C at hC ⊢
  have hT := g.len
  obtain ⟨v, hv, h1⟩ := hC.at 0 ν digs k 3 (mi := 3) rfl (by omega)
  have e2 : eOp addR (eComp [3] (tgN 3) (iE (eV 1)) tYes (eIdx (eV 3) (eC (.int 0)))) (eLst [(eC (.str "Int"))]) [.v (.p 0), .v (.d (encT T)), .un, .un, .un] (Bx ν digs k) = .ok (.d (.lst ((T.map (·.1) ++ ["Int"]).map .str))) (Bx ν digs k) := by
    have hc := compL_each (t := tgN 3) (e := eIdx (eV 3) (eC (.int 0))) (ρ := [.v (.p 0), .v (.d (encT T)), .un, .un, .un]) (μ := Bx ν digs k) (fun r : String × List Mk => R.d (encRow r)) (fun r => R.d (.str r.1)) (xs := T) fun r _ =>
      ⟨[.v (.p 0), .v (.d (encT T)), .un, .v (.d (encRow r)), .un], by simp only [tgN, List.set_cons_succ, List.set_cons_zero], ixc_ok (ds := [.str r.1, encMs r.2]) (eV_at rfl) rfl⟩
    have e3 : eComp [3] (tgN 3) (iE (eV 1)) tYes (eIdx (eV 3) (eC (.int 0))) [.v (.p 0), .v (.d (encT T)), .un, .un, .un] (Bx ν digs k) = .ok (.d (.lst (T.map fun r => .str r.1))) (Bx ν digs k) := by
      rw [eComp_ok (iE_tup (ds := T.map encRow) (eV_at rfl)) (by simp only [wipeE, List.set_cons_succ, List.set_cons_zero]; rw [List.map_map]; exact hc) (by rw [List.length_map]; omega), mkL_map (fun r : String × List Mk => D.str r.1)]
    refine eOp_ok e3 (eLst1 eC_ok) ?_
    rw [vw_d, vw_d, addR_lst, if_pos (le_SL (by simp; omega))]
    simp
  have hpl : ∀ x ∈ T.map (·.1) ++ ["Int"], TyNm T x := fun x hx => by
    rcases List.mem_append.mp hx with h | h
    · exact .inr h
    · exact .inl (List.mem_singleton.mp h)
  generalize hp : T.map (·.1) ++ ["Int"] = pl at e2 hpl
  have hp0 : 0 < pl.length := by rw [← hp]; simp
  have e4 : eOp addR (eC (.int 1)) (eCall C "_law_draw" [(eV 0), (eC (.int 3))]) [.v (.p 0), .v (.d (encT T)), .v (.d (.lst (pl.map .str))), .un, .un] (Bx ν digs k) = .ok (.d (.int ((1 + v : Nat) : Int))) (Bx ν digs (k + 1)) := eOp_ok eC_ok (h1 _ rfl) (by rw [vw_d, vw_d, addR_int]; rfl)
  obtain ⟨ys, μ', ⟨k2, ns, rfl, e5, e6, e7⟩, h3⟩ := compL_invM (t := tgN 4) (c := tYes) (e := eIdx (eV 2) (eOp modR (eBi intR [(eCall C "_law_draw" [(eV 0), (eC (.int 90))])]) (eBi lenR [(eV 2)]))) (ρ := [.v (.p 0), .v (.d (encT T)), .v (.d (.lst (pl.map .str))), .un, .un])
    (fun i acc μ => ∃ (k2 : Nat) (ns : List String), μ = Bx ν digs k2 ∧ acc = ns.map (fun r => .d (.str r)) ∧ ns.length = i ∧ ∀ x ∈ ns, TyNm T x)
    (xs := rangeF 0 (1 + v)) (k := 0) (acc := []) (μ := Bx ν digs (k + 1)) ⟨k + 1, [], rfl, rfl, rfl, by simp⟩ (by
      rintro i x acc μ hx ⟨k2, ns, rfl, rfl, hl, hf⟩
      obtain ⟨w, hw, h2⟩ := hC ν digs k2 90 (by omega)
      refine ⟨[.v (.p 0), .v (.d (encT T)), .v (.d (.lst (pl.map .str))), .un, .v x], by simp only [tgN, List.set_cons_succ, List.set_cons_zero], ?_⟩
      obtain ⟨u, q, hu, hq, hpick⟩ := pick_ix (C := C) (ρ := [.v (.p 0), .v (.d (encT T)), .v (.d (.lst (pl.map .str))), .un, .v x]) (i := 0) (j := 2) (pool := pl.map .str) (.inl rfl) rfl rfl (by simpa using hp0) h2
      rw [List.getElem?_map] at hq
      obtain ⟨m, hm, hqm⟩ := Option.map_eq_some_iff.mp hq
      subst hqm
      refine .inl ⟨Bx ν digs k2, .d (.str m), Bx ν digs (k2 + 1), by simp [tYes], hpick, k2 + 1, ns ++ [m], rfl, by simp, by simp [hl], ?_⟩
      intro y hy
      rcases List.mem_append.mp hy with hy | hy
      · exact hf y hy
      · rw [List.mem_singleton] at hy; subst hy; exact hpl _ (List.mem_of_getElem? hm))
  rw [List.nil_append] at e5
  subst e5
  have hlen : (rangeF 0 (1 + v)).length = 1 + v := by simp
  rw [Nat.zero_add, hlen] at e6
  refine ⟨ns, k2, by omega, by omega, e7, runB_rt ?_ rfl⟩
  simp only [f_law_parameters, List.map_cons, List.map_nil, List.length_cons, List.length_nil, Nat.reduceAdd, Nat.reduceSub, List.replicate_succ, List.replicate_zero, List.cons_append, List.nil_append]
  rw [sq_as e2]
  simp only [List.set_cons_succ, List.set_cons_zero]
  refine sRet_ok (eBi1_ok (x := .d (.lst (ns.map .str))) ?_ (by rw [vw_d, tupleR_lst]; rfl))
  rw [eComp_ok (iRange1_nat e4 (by omega)) (by simp only [wipeE, List.set_cons_succ, List.set_cons_zero]; exact h3) (by simp; omega), mkL_map]
end K20
end

section
set_option maxHeartbeats 0
set_option linter.all false
set_option maxRecDepth 100000
namespace K20
open Ev
def Wr (fl : Bool) (T : Ty) : Nat → String → Rg → Prop
  | _, _, .any => True
  | _, name, .rng a b => name = "Int" ∧ -99 ≤ a ∧ a ≤ 99 ∧ -99 ≤ b ∧ b ≤ 99 ∧ a ≤ b
  | _, name, .nt l => fl = true ∧ name ≠ "Int" ∧ l.Nodup ∧ (∀ x ∈ l, x ∈ namesOf T name) ∧ ∃ x ∈ namesOf T name, x ∉ l
  | 0, _, .mk _ _ => False
  | d + 1, name, .mk c ps => name ≠ "Int" ∧ ∃ fs, (c, fs) ∈ makersOf T name ∧ fs.length = ps.length ∧ ∀ (i : Nat) (f : String) (p : Rg), fs[i]? = some f → ps[i]? = some p → Wr fl T d f p
theorem Wr.any {fl : Bool} {T : Ty} {d : Nat} {name : String} : Wr fl T d name .any := by cases d <;> simp [Wr]
end K20
end

section
set_option maxHeartbeats 0
set_option linter.all false
set_option maxRecDepth 100000
namespace K20
open Ev
section
variable {fl : Bool} {T : Ty} {d : Nat} {name : String}
theorem Wr.rng2 {a b : Int} (h : Wr fl T d name (.rng a b)) : name = "Int" ∧ -99 ≤ a ∧ a ≤ 99 ∧ -99 ≤ b ∧ b ≤ 99 ∧ a ≤ b := by cases d <;> simpa only [Wr] using h
theorem Wr.rng {a b : Int} (h : Wr fl T d name (.rng a b)) : name = "Int" ∧ -99 ≤ a ∧ a ≤ 99 ∧ -99 ≤ b ∧ b ≤ 99 := let ⟨h1, h2, h3, h4, h5, _⟩ := h.rng2; ⟨h1, h2, h3, h4, h5⟩
theorem Wr.nt2 {l : List String} (h : Wr fl T d name (.nt l)) : fl = true ∧ name ≠ "Int" ∧ l.Nodup ∧ (∀ x ∈ l, x ∈ namesOf T name) ∧ ∃ x ∈ namesOf T name, x ∉ l := by cases d <;> simpa only [Wr] using h
theorem Wr.nt {l : List String} (h : Wr fl T d name (.nt l)) : fl = true ∧ name ≠ "Int" ∧ l.Nodup ∧ ∀ x ∈ l, x ∈ namesOf T name := let ⟨h1, h2, h3, h4, _⟩ := h.nt2; ⟨h1, h2, h3, h4⟩
theorem Wr.mk {c : String} {ps : List Rg} (h : Wr fl T d name (.mk c ps)) : ∃ d', d = d' + 1 ∧ name ≠ "Int" ∧ ∃ fs, (c, fs) ∈ makersOf T name ∧ fs.length = ps.length ∧ ∀ (i : Nat) (f : String) (p : Rg), fs[i]? = some f → ps[i]? = some p → Wr fl T d' f p := by
  cases d with
  | zero => simp only [Wr] at h
  | succ d' => exact ⟨d', rfl, by simpa only [Wr] using h⟩
end
theorem AlL_get : ∀ {ps qs : List Rg}, ps.length = qs.length → (∀ (i : Nat) (p q : Rg), ps[i]? = some p → qs[i]? = some q → Al p q) → AlL ps qs
  | [], [], _, _ => by simp only [AlL]
  | [], _ :: _, h, _ => by simp at h
  | _ :: _, [], h, _ => by simp at h
  | p :: ps, q :: qs, h, f => by
    simp only [AlL]
    exact ⟨f 0 p q rfl rfl, AlL_get (by simpa using h) fun i p q h1 h2 => f (i + 1) p q (by simpa using h1) (by simpa using h2)⟩
theorem RTL_get {T : Ty} : ∀ {ns : List String} {ps qs : List Rg}, ns.length = ps.length → ps.length = qs.length → (∀ (i : Nat) (n : String) (p q : Rg), ns[i]? = some n → ps[i]? = some p → qs[i]? = some q → RT T n p q ∧ Al p q) → RTL T ns ps qs
  | [], [], [], _, _, _ => by simp only [RTL]
  | [], _ :: _, _, h, _, _ => by simp at h
  | _ :: _, [], _, h, _, _ => by simp at h
  | _, [], _ :: _, _, h, _ => by simp at h
  | _, _ :: _, [], _, h, _ => by simp at h
  | n :: ns, p :: ps, q :: qs, h1, h2, f => by
    simp only [RTL]
    obtain ⟨a, b⟩ := f 0 n p q rfl rfl rfl
    exact ⟨a, b, RTL_get (by simpa using h1) (by simpa using h2) fun i n p q h1 h2 h3 => f (i + 1) n p q (by simpa using h1) (by simpa using h2) (by simpa using h3)⟩
theorem same_fields {T : Ty} (g : GoodT T) {name : String} {c : String} {fs gs : List String} (h1 : (c, fs) ∈ makersOf T name) (h2 : (c, gs) ∈ makersOf T name) : fs = gs := by
  have a := (maker_fields g h1).1
  have b := (maker_fields g h2).1
  exact a.symm.trans b
theorem Wr.al {T : Ty} (g : GoodT T) : ∀ {d d2 : Nat} {name : String} {r s : Rg}, Wr true T d name r → Wr false T d2 name s → Al r s
  | d, d2, name, r, .any, _, _ => by cases r <;> simp only [Al]
  | d, d2, name, r, .nt l, _, h2 => by have := h2.nt.1; simp at this
  | d, d2, name, .any, .rng _ _, _, _ => by simp only [Al]
  | d, d2, name, .rng _ _, .rng _ _, _, _ => by simp only [Al]
  | d, d2, name, .nt _, .rng _ _, h1, h2 => absurd h2.rng.1 h1.nt.2.1
  | d, d2, name, .mk _ _, .rng _ _, h1, h2 => by obtain ⟨_, _, h, _⟩ := h1.mk; exact absurd h2.rng.1 h
  | d, d2, name, .any, .mk _ _, _, _ => by simp only [Al]
  | d, d2, name, .rng _ _, .mk _ _, h1, h2 => by obtain ⟨_, _, h, _⟩ := h2.mk; exact absurd h1.rng.1 h
  | d, d2, name, .nt _, .mk _ _, _, _ => by simp only [Al]
  | d, d2, name, .mk c ps, .mk c' qs, h1, h2 => by
    simp only [Al]
    intro hc; subst hc
    obtain ⟨d', rfl, _, fs, m1, l1, f1⟩ := h1.mk
    obtain ⟨d2', rfl, _, gs, m2, l2, f2⟩ := h2.mk
    obtain rfl := same_fields g m1 m2
    have := (maker_fields g m1).2.1
    simp only at this
    refine ⟨by omega, AlL_get (by omega) fun i p q hp hq => ?_⟩
    have hi := (List.getElem?_eq_some_iff.mp hp).1
    have hf : fs[i]? = some fs[i] := by simp
    exact Wr.al g (f1 i _ p hf hp) (f2 i _ q hf hq)
theorem Wr.rt {T : Ty} (g : GoodT T) : ∀ {d d2 : Nat} {name : String} {r s : Rg}, Wr true T d name r → Wr false T d2 name s → RT T name r s
  | d, d2, name, r, .any, _, _ => by cases r <;> simp only [RT]
  | d, d2, name, r, .nt l, _, h2 => by have := h2.nt.1; simp at this
  | d, d2, name, .any, .rng _ _, _, _ => by simp only [RT]
  | d, d2, name, .rng _ _, .rng _ _, _, _ => by simp only [RT]
  | d, d2, name, .nt _, .rng _ _, h1, h2 => absurd h2.rng.1 h1.nt.2.1
  | d, d2, name, .mk _ _, .rng _ _, h1, h2 => by obtain ⟨_, _, h, _⟩ := h1.mk; exact absurd h2.rng.1 h
  | d, d2, name, .any, .mk c qs, _, h2 => by
    obtain ⟨d2', rfl, _, gs, m2, l2, f2⟩ := h2.mk
    obtain ⟨e1, e2, e3, e4⟩ := maker_fields g m2
    simp only at e1 e2 e3 e4
    simp only [RT]
    refine ⟨List.mem_map.mpr ⟨_, m2, rfl⟩, namesOf_nodup g name, by omega, by rw [e1]; exact l2, ?_⟩
    rw [e1]
    refine RTL_get (by simpa using l2) (by simp) fun i n p q h1 h2 h3 => ?_
    rw [List.getElem?_map] at h2
    obtain ⟨_, _, rfl⟩ := Option.map_eq_some_iff.mp h2
    exact ⟨Wr.rt g (d := 0) Wr.any (f2 i n q h1 h3), Wr.al g (d := 0) Wr.any (f2 i n q h1 h3)⟩
  | d, d2, name, .rng _ _, .mk _ _, h1, h2 => by obtain ⟨_, _, h, _⟩ := h2.mk; exact absurd h1.rng.1 h
  | d, d2, name, .nt l, .mk c qs, h1, h2 => by
    obtain ⟨d2', rfl, _, gs, m2, l2, f2⟩ := h2.mk
    obtain ⟨e1, e2, e3, e4⟩ := maker_fields g m2
    obtain ⟨_, _, n1, n2⟩ := h1.nt
    simp only at e1 e2 e3 e4
    have hl : l.length ≤ (namesOf T name).length := n1.length_le_of_subset n2
    have := makersOf_le g name
    have hn : (namesOf T name).length = (makersOf T name).length := by simp [namesOf]
    simp only [RT]
    refine ⟨List.mem_map.mpr ⟨_, m2, rfl⟩, namesOf_nodup g name, by omega, by rw [e1]; exact l2, n1, by omega, n2, ?_⟩
    rw [e1]
    refine RTL_get (by simpa using l2) (by simp) fun i n p q h1 h2 h3 => ?_
    rw [List.getElem?_map] at h2
    obtain ⟨_, _, rfl⟩ := Option.map_eq_some_iff.mp h2
    exact ⟨Wr.rt g (d := 0) Wr.any (f2 i n q h1 h3), Wr.al g (d := 0) Wr.any (f2 i n q h1 h3)⟩
  | d, d2, name, .mk c' ps, .mk c qs, h1, h2 => by
    simp only [RT]
    intro hc; subst hc
    obtain ⟨d', rfl, _, fs, m1, l1, f1⟩ := h1.mk
    obtain ⟨d2', rfl, _, gs, m2, l2, f2⟩ := h2.mk
    obtain rfl := same_fields g m1 m2
    obtain ⟨e1, e2, e3, e4⟩ := maker_fields g m2
    simp only at e1 e2 e3 e4
    refine ⟨by omega, ?_⟩
    rw [e1]
    exact RTL_get l1 (by omega) fun i n p q h1 h2 h3 => ⟨Wr.rt g (f1 i n p h1 h2) (f2 i n q h1 h3), Wr.al g (f1 i n p h1 h2) (f2 i n q h1 h3)⟩
termination_by d d2 => d2
end K20
end

section
set_option maxHeartbeats 0
set_option linter.all false
set_option maxRecDepth 100000
namespace K20
open Ev
def Bd (B : Int) : Nat → Rg → Prop
  | _, .any => True
  | _, .rng a b => -B ≤ a ∧ a ≤ B ∧ -B ≤ b ∧ b ≤ B
  | _, .nt l => l.length ≤ 3 ∧ ∀ x ∈ l, x.length ≤ 8
  | 0, .mk _ _ => False
  | d + 1, .mk c ps => c.length ≤ 8 ∧ ps.length ≤ 2 ∧ ∀ p ∈ ps, Bd B d p
section
variable {B : Int} {d : Nat}
theorem Bd.any : Bd B d .any := by cases d <;> simp only [Bd]
theorem Bd_rng {a b : Int} : Bd B d (.rng a b) ↔ -B ≤ a ∧ a ≤ B ∧ -B ≤ b ∧ b ≤ B := by cases d <;> simp only [Bd]
theorem Bd_nt {l : List String} : Bd B d (.nt l) ↔ l.length ≤ 3 ∧ ∀ x ∈ l, x.length ≤ 8 := by cases d <;> simp only [Bd]
theorem Bd_mk {c : String} {ps : List Rg} : Bd B d (.mk c ps) ↔ ∃ d', d = d' + 1 ∧ c.length ≤ 8 ∧ ps.length ≤ 2 ∧ ∀ p ∈ ps, Bd B d' p := by
  cases d with
  | zero => simp only [Bd]; exact ⟨fun h => h.elim, fun ⟨_, h, _⟩ => by omega⟩
  | succ d' => simp only [Bd]; exact ⟨fun h => ⟨d', rfl, h⟩, fun ⟨_, h, h2⟩ => by cases h; exact h2⟩
end
theorem Bd.mono {B B' : Int} (hB : B ≤ B') : ∀ {d : Nat} {r : Rg}, Bd B d r → Bd B' d r
  | _, .any, _ => Bd.any
  | _, .rng _ _, h => by rw [Bd_rng] at h ⊢; omega
  | _, .nt _, h => by rw [Bd_nt] at h ⊢; exact h
  | d, .mk c ps, h => by
    rw [Bd_mk] at h ⊢
    obtain ⟨d', rfl, h1, h2, h3⟩ := h
    exact ⟨d', rfl, h1, h2, fun p hp => Bd.mono hB (h3 p hp)⟩
def Kc : Nat → Nat
  | 0 => 400
  | d + 1 => 400 + 2 * (Kc d + 2)
theorem costL_le {K : Nat} : ∀ {ds : List D}, (∀ x ∈ ds, x.cost ≤ K) → D.costL ds ≤ ds.length * (K + 2)
  | [], _ => by simp [D.costL]
  | d :: ds, h => by
    have h1 := h d (by simp)
    have h2 := costL_le (fun x hx => h x (List.mem_cons_of_mem _ hx))
    rw [D.costL, List.length_cons, Nat.succ_mul]; omega
theorem depL_le {K : Nat} : ∀ {ds : List D}, (∀ x ∈ ds, x.dep ≤ K) → D.depL ds ≤ K
  | [], _ => by simp [D.depL]
  | d :: ds, h => by
    have h1 := h d (by simp)
    have h2 := depL_le (fun x hx => h x (List.mem_cons_of_mem _ hx))
    rw [D.depL]; omega
theorem Kc_ge (d : Nat) : 400 ≤ Kc d := by cases d <;> simp [Kc]; 
theorem Bd.cost {B : Int} (hB : B ≤ 100000) : ∀ {d : Nat} {r : Rg}, Bd B d r → (enc r).cost ≤ Kc d
  | d, .any, _ => by have := Kc_ge d; simp [enc, D.cost, D.costL, String.length]; omega
  | d, .rng a b, h => by
    have := Kc_ge d
    rw [Bd_rng] at h
    have ha : a.natAbs < 1000000000000 := by omega
    have hb : b.natAbs < 1000000000000 := by omega
    simp only [enc, D.cost, D.costL, if_pos ha, if_pos hb, show ("range" : String).length = 5 from rfl]; omega
  | d, .nt l, h => by
    have := Kc_ge d
    rw [Bd_nt] at h
    have hc : D.costL (l.map .str) ≤ (l.map D.str).length * (82 + 2) := costL_le (by
      intro x hx
      obtain ⟨y, hy, rfl⟩ := List.mem_map.mp hx
      have := h.2 y hy
      rw [D.cost]; omega)
    rw [List.length_map] at hc
    have h1 := h.1
    simp only [enc, D.cost, D.costL, show ("not" : String).length = 3 from rfl]; omega
  | d, .mk c ps, h => by
    rw [Bd_mk] at h
    obtain ⟨d', rfl, h1, h2, h3⟩ := h
    have hc : D.costL (encL ps) ≤ (encL ps).length * (Kc d' + 2) := costL_le (by
      intro x hx
      rw [encL_map] at hx
      obtain ⟨y, hy, rfl⟩ := List.mem_map.mp hx
      exact Bd.cost hB (h3 y hy))
    rw [encL_len] at hc
    have hm : ps.length * (Kc d' + 2) ≤ 2 * (Kc d' + 2) := Nat.mul_le_mul_right _ h2
    simp only [enc, D.cost, D.costL, Kc, show ("make" : String).length = 4 from rfl]; omega
theorem Bd.dep {B : Int} : ∀ {d : Nat} {r : Rg}, Bd B d r → (enc r).dep ≤ 2 * d + 2
  | d, .any, _ => by simp [enc, D.dep, D.depL]
  | d, .rng a b, h => by simp [enc, D.dep, D.depL]
  | d, .nt l, h => by
    have hc : D.depL (l.map .str) ≤ 0 := depL_le (by
      intro x hx
      obtain ⟨y, hy, rfl⟩ := List.mem_map.mp hx
      simp [D.dep])
    simp only [enc, D.dep, D.depL]; omega
  | d, .mk c ps, h => by
    rw [Bd_mk] at h
    obtain ⟨d', rfl, h1, h2, h3⟩ := h
    have hc : D.depL (encL ps) ≤ 2 * d' + 2 := depL_le (by
      intro x hx
      rw [encL_map] at hx
      obtain ⟨y, hy, rfl⟩ := List.mem_map.mp hx
      exact Bd.dep (h3 y hy))
    simp only [enc, D.dep, D.depL]; omega
end K20
end

section
set_option maxHeartbeats 0
set_option linter.all false
set_option maxRecDepth 100000
namespace K20
open Ev
def Nk (T : Ty) : Prop := ∀ name, (namesOf T name).length ≤ 4 ∧ ∀ x ∈ namesOf T name, x.length ≤ 8
end K20
end

section
set_option maxHeartbeats 0
set_option linter.all false
set_option maxRecDepth 100000
namespace K20
open Ev
theorem repr_ok {x : D} (h1 : x.dep ≤ EqDep) (h2 : x.cost ≤ SL) : reprR [.d x] = some (.rep x) := by
  show (if x.dep ≤ EqDep ∧ x.cost ≤ SL then some (R.rep x) else none) = _
  rw [if_pos ⟨h1, h2⟩]
theorem same_spec (n : Nat) (x : D) (μ : Mem) (h1 : x.dep ≤ EqDep) (h2 : x.cost ≤ SL) : callN P (n + 1) "_law_same" [.d x, .d x] μ = .ok (.d (.bl true)) μ := by
  rw [callN_run (d := f_law_same) rfl rfl]
  refine runB_rt (μ' := μ) ?_ rfl
  generalize callN P n = C
  simp only [f_law_same, List.map_cons, List.map_nil, List.length_cons, List.length_nil, Nat.reduceAdd, Nat.reduceSub, List.replicate_succ, List.replicate_zero, List.cons_append, List.nil_append]
  refine sRet_ok ?_
  unfold eT
  rw [tCmp_ok (z := true) (eBi1_ok (μ1 := μ) (z := .rep x) (eV_at rfl) (by rw [vw_d]; exact repr_ok h1 h2)) (eBi1_ok (μ1 := μ) (z := .rep x) (eV_at rfl) (by rw [vw_d]; exact repr_ok h1 h2)) (by simp [vw, D.same_self]), bind_ok]
theorem Nk_good {T : Ty} (g : GoodT T) : Nk T := fun name => by
  refine ⟨by have := makersOf_le g name; simpa [namesOf] using this, fun x hx => ?_⟩
  obtain ⟨m, hm, rfl⟩ := List.mem_map.mp hx
  exact (maker_fields g hm).2.2.2
theorem Wr.bd {fl : Bool} {T : Ty} (g : GoodT T) : ∀ {d : Nat} {name : String} {r : Rg}, Wr fl T d name r → Bd 100 d r
  | d, name, .any, _ => Bd.any
  | d, name, .rng a b, h => by rw [Bd_rng]; have := h.rng.2; omega
  | d, name, .nt l, h => by
    obtain ⟨_, _, n1, n2, z, hz1, hz2⟩ := h.nt2
    obtain ⟨a, b⟩ := Nk_good g name
    have hl : (z :: l).length ≤ (namesOf T name).length := (List.nodup_cons.mpr ⟨hz2, n1⟩).length_le_of_subset fun y hy => by
      rcases List.mem_cons.mp hy with e | hy
      · rw [e]; exact hz1
      · exact n2 y hy
    rw [List.length_cons] at hl
    rw [Bd_nt]
    exact ⟨by omega, fun x hx => b x (n2 x hx)⟩
  | d, name, .mk c ps, h => by
    obtain ⟨d', rfl, _, fs, m1, l1, f1⟩ := h.mk
    obtain ⟨e1, e2, e3, e4⟩ := maker_fields g m1
    simp only at e1 e2 e3 e4
    rw [Bd_mk]
    refine ⟨d', rfl, e4, by omega, fun p hp => ?_⟩
    obtain ⟨i, hi, hp⟩ := List.mem_iff_getElem.mp hp
    have hf : fs[i]? = some fs[i] := by simp
    exact Wr.bd g (f1 i _ p hf (by rw [List.getElem?_eq_getElem hi, hp]))
termination_by d => d
end K20
end

section
set_option maxHeartbeats 0
set_option linter.all false
set_option maxRecDepth 100000
namespace K20
open Ev
inductive Vl where
  | int (i : Int) | mk (c : String) (vs : List Vl)
mutual
def encV : Vl → D
  | .int i => .tup [.str "int", .int i]
  | .mk c vs => .tup [.str "make", .str c, .tup (encVs vs)]
def encVs : List Vl → List D
  | [] => []
  | v :: vs => encV v :: encVs vs
end
theorem encVs_map : ∀ vs : List Vl, encVs vs = vs.map encV
  | [] => rfl
  | v :: vs => by rw [encVs, encVs_map vs]; rfl
mutual
def hd : Rg → Vl → Bool
  | .any, _ => true
  | .rng a b, .int i => decide (a ≤ i) && decide (i ≤ b)
  | .nt l, .mk c _ => !decide (c ∈ l)
  | .mk c ps, .mk c' vs => decide (c = c') && hdL ps vs
  | .rng _ _, .mk _ _ => false
  | .nt _, .int _ => false
  | .mk _ _, .int _ => false
def hdL : List Rg → List Vl → Bool
  | p :: ps, v :: vs => hd p v && hdL ps vs
  | [], [] => true
  | [], _ :: _ => false
  | _ :: _, [] => false
end
mutual
def Hv : Rg → Vl → Prop
  | .any, _ => True
  | .rng _ _, .int _ => True
  | .nt _, .mk _ _ => True
  | .mk c ps, .mk c' vs => c = c' → HvL ps vs
  | .rng _ _, .mk _ _ => False
  | .nt _, .int _ => False
  | .mk _ _, .int _ => False
def HvL : List Rg → List Vl → Prop
  | p :: ps, v :: vs => Hv p v ∧ HvL ps vs
  | [], [] => True
  | [], _ :: _ => False
  | _ :: _, [] => False
end
theorem HvL.len : ∀ {ps : List Rg} {vs : List Vl}, HvL ps vs → ps.length = vs.length
  | [], [], _ => rfl
  | [], _ :: _, h => by simp [HvL] at h
  | _ :: _, [], h => by simp [HvL] at h
  | p :: ps, v :: vs, h => by simp only [HvL] at h; simp [HvL.len h.2]
theorem HvL.get : ∀ {ps : List Rg} {vs : List Vl} {i : Nat} {p : Rg} {v : Vl}, HvL ps vs → ps[i]? = some p → vs[i]? = some v → Hv p v
  | p :: ps, v :: vs, 0, _, _, h, h1, h2 => by
    simp only [HvL] at h; simp at h1 h2; subst h1 h2; exact h.1
  | p :: ps, v :: vs, i + 1, _, _, h, h1, h2 => by
    simp only [HvL] at h; exact HvL.get h.2 (by simpa using h1) (by simpa using h2)
  | [], _, _, _, _, _, h1, _ => by simp at h1
  | _ :: _, [], _, _, _, _, _, h2 => by simp at h2
def Wv (T : Ty) : Nat → String → Vl → Prop
  | _, name, .int i => name = "Int" ∧ -99 ≤ i ∧ i ≤ 99
  | 0, _, .mk _ _ => False
  | d + 1, name, .mk c vs => name ≠ "Int" ∧ ∃ fs, (c, fs) ∈ makersOf T name ∧ fs.length = vs.length ∧ ∀ (i : Nat) (f : String) (v : Vl), fs[i]? = some f → vs[i]? = some v → Wv T d f v
section
variable {T : Ty} {d d2 : Nat} {name : String} {fl : Bool}
theorem Wv.int {i : Int} (h : Wv T d name (.int i)) : name = "Int" ∧ -99 ≤ i ∧ i ≤ 99 := by cases d <;> simpa only [Wv] using h
theorem Wv.mk {c : String} {vs : List Vl} (h : Wv T d name (.mk c vs)) : ∃ d', d = d' + 1 ∧ name ≠ "Int" ∧ ∃ fs, (c, fs) ∈ makersOf T name ∧ fs.length = vs.length ∧ ∀ (i : Nat) (f : String) (v : Vl), fs[i]? = some f → vs[i]? = some v → Wv T d' f v := by
  cases d with
  | zero => simp only [Wv] at h
  | succ d' => exact ⟨d', rfl, by simpa only [Wv] using h⟩
end
theorem HvL_get : ∀ {ps : List Rg} {vs : List Vl}, ps.length = vs.length → (∀ (i : Nat) (p : Rg) (v : Vl), ps[i]? = some p → vs[i]? = some v → Hv p v) → HvL ps vs
  | [], [], _, _ => by simp only [HvL]
  | [], _ :: _, h, _ => by simp at h
  | _ :: _, [], h, _ => by simp at h
  | p :: ps, v :: vs, h, f => by
    simp only [HvL]
    exact ⟨f 0 p v rfl rfl, HvL_get (by simpa using h) fun i p v h1 h2 => f (i + 1) p v (by simpa using h1) (by simpa using h2)⟩
theorem Wr.hv {T : Ty} (g : GoodT T) {fl : Bool} : ∀ {d d2 : Nat} {name : String} {r : Rg} {v : Vl}, Wr fl T d name r → Wv T d2 name v → Hv r v
  | d, d2, name, .any, v, _, _ => by simp only [Hv]
  | d, d2, name, .rng _ _, .int _, _, _ => by simp only [Hv]
  | d, d2, name, .rng _ _, .mk _ _, h1, h2 => by obtain ⟨_, _, h, _⟩ := h2.mk; exact absurd h1.rng.1 h
  | d, d2, name, .nt _, .mk _ _, _, _ => by simp only [Hv]
  | d, d2, name, .nt _, .int _, h1, h2 => absurd h2.int.1 h1.nt.2.1
  | d, d2, name, .mk _ _, .int _, h1, h2 => by obtain ⟨_, _, h, _⟩ := h1.mk; exact absurd h2.int.1 h
  | d, d2, name, .mk c ps, .mk c' vs, h1, h2 => by
    simp only [Hv]
    rintro rfl
    obtain ⟨d', rfl, _, fs, m1, l1, f1⟩ := h1.mk
    obtain ⟨d'', rfl, _, gs, m2, l2, f2⟩ := h2.mk
    obtain rfl := same_fields g m1 m2
    refine HvL_get (by omega) fun i p v hp hv => ?_
    have hi : i < fs.length := by have := (List.getElem?_eq_some_iff.mp hp).1; omega
    exact Wr.hv g (f1 i fs[i] p (by simp) hp) (f2 i fs[i] v (by simp) hv)
termination_by d => d
end K20
end

section
set_option maxHeartbeats 0
set_option linter.all false
set_option maxRecDepth 100000
namespace K20
open Ev
def TL (T : Ty) (d d2 d3 : Nat) : List String → List Rg → List Rg → List Vl → Prop
  | [], [], [], [] => True
  | n :: ns, p :: ps, q :: qs, v :: vs => Wr true T d n p ∧ Wr false T d2 n q ∧ Wv T d3 n v ∧ TL T d d2 d3 ns ps qs vs
  | _, _, _, _ => False
theorem TL.fst {T : Ty} (g : GoodT T) {d d2 d3 : Nat} : ∀ {ns : List String} {ps qs : List Rg} {vs : List Vl}, TL T d d2 d3 ns ps qs vs → HvL ps vs ∧ HvL qs vs ∧ AlL ps qs
  | [], [], [], [], _ => by simp [HvL, AlL]
  | n :: ns, p :: ps, q :: qs, v :: vs, h => by
    simp only [TL] at h
    obtain ⟨h1, h2, h3, h4⟩ := h
    obtain ⟨k1, k2, k3⟩ := TL.fst g h4
    simp only [HvL, AlL]
    exact ⟨⟨h1.hv g h3, k1⟩, ⟨h2.hv g h3, k2⟩, Wr.al g h1 h2, k3⟩
  | [], _ :: _, _, _, h => by simp [TL] at h
  | [], [], _ :: _, _, h => by simp [TL] at h
  | [], [], [], _ :: _, h => by simp [TL] at h
  | _ :: _, [], _, _, h => by simp [TL] at h
  | _ :: _, _ :: _, [], _, h => by simp [TL] at h
  | _ :: _, _ :: _, _ :: _, [], h => by simp [TL] at h
end K20
end

section
set_option maxHeartbeats 0
set_option linter.all false
set_option maxRecDepth 100000
namespace K20
open Ev
theorem encVs_get {rs : List Vl} {i : Nat} {p : Vl} (h : rs[i]? = some p) : (encVs rs)[i]? = some (encV p) := by rw [encVs_map, List.getElem?_map, h]; rfl
end K20
end

section
set_option maxHeartbeats 0
set_option linter.all false
set_option maxRecDepth 100000
namespace K20
open Ev
end K20
end

section
set_option maxHeartbeats 0
set_option linter.all false
set_option maxRecDepth 100000
namespace K20
open Ev
abbrev Hf := String → Option Nat
def mh (F : Hf) (m : Mk) : Nat := (m.2.map fun k => (F k).getD 0).foldl max 0 + 1
theorem mh_pos (F : Hf) (m : Mk) : 1 ≤ mh F m := by unfold mh; omega
end K20
end

section
set_option maxHeartbeats 0
set_option linter.all false
set_option maxRecDepth 100000
namespace K20
open Ev
theorem valK_put (k k' : Ky) (v : R) (kvs : List (Ky × R)) : valK (putK kvs k v) k' = if k' = k then some v else valK kvs k' := by
  have m1 : ∀ kvs : List (Ky × R), k' ≠ k → valK (kvs.map fun kv => if kv.1 = k then (kv.1, v) else kv) k' = valK kvs k' := by
    intro kvs hne
    induction kvs with
    | nil => rfl
    | cons p kvs ih =>
      unfold valK at ih ⊢
      rw [List.map_cons, List.find?_cons, List.find?_cons]
      have e : (if p.1 = k then (p.1, v) else p).1 = p.1 := by split <;> rfl
      rw [e]
      by_cases h : p.1 = k'
      · rw [decide_eq_true h]
        have h2 : p.1 ≠ k := fun z => hne (h.symm.trans z)
        rw [if_neg h2]
      · rw [decide_eq_false h]; exact ih
  have m2 : ∀ kvs : List (Ky × R), kvs.any (fun kv => decide (kv.1 = k)) = true → valK (kvs.map fun kv => if kv.1 = k then (kv.1, v) else kv) k = some v := by
    intro kvs
    induction kvs with
    | nil => intro h; simp at h
    | cons p kvs ih =>
      intro h
      unfold valK at ih ⊢
      rw [List.map_cons, List.find?_cons]
      have e : (if p.1 = k then (p.1, v) else p).1 = p.1 := by split <;> rfl
      rw [e]
      by_cases h1 : p.1 = k
      · rw [decide_eq_true h1, if_pos h1]; rfl
      · rw [decide_eq_false h1]
        refine ih ?_
        simpa [h1] using h
  have m3 : ∀ kvs : List (Ky × R), kvs.any (fun kv => decide (kv.1 = k)) = false → valK (kvs ++ [(k, v)]) k' = if k' = k then some v else valK kvs k' := by
    intro kvs
    induction kvs with
    | nil =>
      intro _
      unfold valK
      rw [List.nil_append, List.find?_cons]
      by_cases h : k' = k
      · rw [if_pos h, decide_eq_true h.symm]; rfl
      · rw [if_neg h, decide_eq_false (fun z => h z.symm)]
    | cons p kvs ih =>
      intro h
      rw [List.any_cons, Bool.or_eq_false_iff] at h
      have ih := ih h.2
      have hp : p.1 ≠ k := by simpa using h.1
      unfold valK at ih ⊢
      rw [List.cons_append, List.find?_cons, List.find?_cons]
      by_cases h1 : p.1 = k'
      · rw [decide_eq_true h1, if_neg (fun z => hp (h1.trans z))]
      · rw [decide_eq_false h1]; exact ih
  unfold putK
  cases ha : kvs.any (fun kv => decide (kv.1 = k)) with
  | true =>
    rw [if_pos rfl]
    by_cases h : k' = k
    · rw [if_pos h, h]; exact m2 kvs ha
    · rw [if_neg h]; exact m1 kvs h
  | false => rw [if_neg (by decide)]; exact m3 kvs ha
theorem putK_len (kvs : List (Ky × R)) (k : Ky) (v : R) : (putK kvs k v).length ≤ kvs.length + 1 := by
  unfold putK
  split
  · simp
  · simp
end K20
end

section
set_option maxHeartbeats 0
set_option linter.all false
set_option maxRecDepth 100000
namespace K20
open Ev
theorem Wv.mono {T : Ty} : ∀ {d d2 : Nat} {name : String} {v : Vl}, d ≤ d2 → Wv T d name v → Wv T d2 name v
  | d, d2, name, .int i, _, h => by
    have := h.int
    cases d2 <;> simpa only [Wv] using this
  | d, d2, name, .mk c vs, hd, h => by
    obtain ⟨d', rfl, h1, fs, h2, h3, h4⟩ := h.mk
    obtain ⟨d2', rfl⟩ : ∃ x, d2 = x + 1 := ⟨d2 - 1, by omega⟩
    simp only [Wv]
    exact ⟨h1, fs, h2, h3, fun i f v a b => Wv.mono (by omega) (h4 i f v a b)⟩
termination_by d => d
end K20
end

section
set_option maxHeartbeats 0
set_option linter.all false
set_option maxRecDepth 100000
namespace K20
open Ev
structure Mins (T : Ty) (F : Hf) : Prop where
  int : F "Int" = some 0
  tot : ∀ x, TyNm T x → ∃ a, F x = some a
  bd : ∀ x a, F x = some a → a ≤ 3 ∧ a ≤ T.length
  low : ∀ row ∈ T, ∀ m ∈ row.2, ∀ h, F row.1 = some h → h ≤ mh F m
  att : ∀ row ∈ T, ∃ m ∈ row.2, F row.1 = some (mh F m)
  dom : ∀ x, (F x).isSome = true → x = "Int" ∨ ∃ row ∈ T, row.1 = x
theorem Mins.fld {T : Ty} {F : Hf} (M : Mins T F) (g : GoodT T) {row : String × List Mk} (hr : row ∈ T) {m : Mk} (hm : m ∈ row.2) {f : String} (hf : f ∈ m.2) : ∃ a, F f = some a := by
  exact M.tot f (((g.row row hr).2.2.2.2 m hm).2.2 f hf)
theorem Mins.pos {T : Ty} {F : Hf} (M : Mins T F) {row : String × List Mk} (hr : row ∈ T) {a : Nat} (h : F row.1 = some a) : 1 ≤ a := by
  obtain ⟨m, hm, e⟩ := M.att row hr
  rw [h] at e
  have := Option.some.inj e
  have := mh_pos F m
  omega
end K20
end

section
set_option maxHeartbeats 0
set_option linter.all false
set_option maxRecDepth 100000
namespace K20
open Ev
theorem makers_nm {T : Ty} (g : GoodT T) {name : String} {m : Mk} (hm : m ∈ makersOf T name) : m.2.length ≤ 2 ∧ ∀ f ∈ m.2, TyNm T f := by
  obtain ⟨a, b, c, d⟩ := maker_fields g hm
  exact ⟨b, c⟩
end K20
end

section
set_option maxHeartbeats 0
set_option linter.all false
set_option maxRecDepth 100000
namespace K20
open Ev
theorem Wv.parts {T : Ty} (g : GoodT T) {d : Nat} {name : String} {c : String} {vs : List Vl} (h : Wv T d name (.mk c vs)) : vs.length ≤ 2 ∧ ∃ d', d = d' + 1 ∧ ∀ v ∈ vs, ∃ f, TyNm T f ∧ Wv T d' f v := by
  obtain ⟨d', e, hne, fs, h1, h2, h3⟩ := h.mk
  obtain ⟨a, b⟩ := makers_nm g h1
  simp only at a b
  refine ⟨by omega, d', e, fun v hv => ?_⟩
  obtain ⟨i, hi, e2⟩ := List.mem_iff_getElem.mp hv
  have hif : i < fs.length := by omega
  exact ⟨fs[i], b _ (List.getElem_mem hif), h3 i fs[i] v (List.getElem?_eq_getElem hif) (by rw [List.getElem?_eq_getElem hi, e2])⟩
end K20
end

section
set_option maxHeartbeats 0
set_option linter.all false
set_option maxRecDepth 100000
namespace K20
open Ev
theorem Wv.cost {T : Ty} (g : GoodT T) : ∀ {d : Nat} {name : String} {v : Vl}, Wv T d name v → (encV v).cost ≤ Kc d ∧ (encV v).dep ≤ 2 * d + 2
  | d, name, .int i, h => by
    have := h.int.2
    have hk := Kc_ge d
    simp only [encV, D.cost, D.costL, D.dep, D.depL]
    rw [if_pos (by omega)]
    have : ("int" : String).length = 3 := rfl
    omega
  | d, name, .mk c vs, h => by
    obtain ⟨d', rfl, hne, fs, h2, h3, h4⟩ := h.mk
    have hf := maker_fields g h2
    have hfl := hf.2.1
    have hcl := hf.2.2.2
    simp only at hfl hcl
    have ih : ∀ v ∈ vs, (encV v).cost ≤ Kc d' ∧ (encV v).dep ≤ 2 * d' + 2 := fun v hv => by
      obtain ⟨i, hi⟩ := List.getElem?_of_mem hv
      have hil := (List.getElem?_eq_some_iff.mp hi).1
      exact Wv.cost g (h4 i (fs[i]'(by omega)) v (by simp) hi)
    have a := costL_le (K := Kc d') (ds := encVs vs) fun x hx => by
      rw [encVs_map] at hx
      obtain ⟨v, hv, rfl⟩ := List.mem_map.mp hx
      exact (ih v hv).1
    have b := depL_le (K := 2 * d' + 2) (ds := encVs vs) fun x hx => by
      rw [encVs_map] at hx
      obtain ⟨v, hv, rfl⟩ := List.mem_map.mp hx
      exact (ih v hv).2
    have hl : (encVs vs).length ≤ 2 := by rw [encVs_map, List.length_map]; omega
    have hm : (encVs vs).length * (Kc d' + 2) ≤ 2 * (Kc d' + 2) := Nat.mul_le_mul_right _ hl
    have : ("make" : String).length = 4 := rfl
    simp only [encV, D.cost, D.costL, D.dep, D.depL, Kc]
    omega
termination_by d => d
end K20
end

section
set_option maxHeartbeats 0
set_option linter.all false
set_option maxRecDepth 100000
namespace K20
open Ev
theorem Wr.up {T : Ty} : ∀ {d : Nat} {name : String} {r : Rg}, Wr false T d name r → Wr true T d name r
  | d, name, .any, _ => Wr.any
  | d, name, .rng a b, h => by
    have := h.rng2
    cases d <;> simpa only [Wr] using this
  | d, name, .nt l, h => by have := h.nt.1; simp at this
  | d, name, .mk c ps, h => by
    obtain ⟨d', rfl, h1, fs, h2, h3, h4⟩ := h.mk
    simp only [Wr]
    exact ⟨h1, fs, h2, h3, fun i f p a b => Wr.up (h4 i f p a b)⟩
termination_by d => d
theorem Wr_rng {fl : Bool} {T : Ty} {d : Nat} {a b : Int} (h : -99 ≤ a ∧ a ≤ 99 ∧ -99 ≤ b ∧ b ≤ 99 ∧ a ≤ b) : Wr fl T d "Int" (.rng a b) := by cases d <;> simp only [Wr] <;> exact ⟨trivial, h⟩
theorem cutL_iff : ∀ {ps qs xs : List Rg}, cutL ps qs = some xs ↔ ps.length = qs.length ∧ xs.length = qs.length ∧ ∀ (i : Nat) (p q x : Rg), ps[i]? = some p → qs[i]? = some q → xs[i]? = some x → cutM p q = some x
  | [], [], xs => by
    simp only [cutL]
    constructor
    · intro h
      obtain rfl := Option.some.inj h
      simp
    · rintro ⟨_, h, _⟩
      rw [List.eq_nil_of_length_eq_zero h]
  | [], _ :: _, _ => by simp [cutL]
  | _ :: _, [], _ => by simp [cutL]
  | p :: ps, q :: qs, xs => by
    simp only [cutL]
    constructor
    · intro h
      cases hc : cutM p q with
      | none => rw [hc] at h; cases h
      | some x =>
        rw [hc] at h
        cases hc2 : cutL ps qs with
        | none => rw [hc2] at h; cases h
        | some ys =>
          rw [hc2] at h
          obtain rfl := Option.some.inj h
          obtain ⟨h1, h2, h3⟩ := cutL_iff.mp hc2
          refine ⟨by simp [h1], by simp [h2], fun i p' q' x' a b c => ?_⟩
          cases i with
          | zero =>
            simp at a b c
            subst a b c
            exact hc
          | succ i => exact h3 i p' q' x' (by simpa using a) (by simpa using b) (by simpa using c)
    · rintro ⟨h1, h2, h3⟩
      cases xs with
      | nil => simp at h2
      | cons x xs =>
        rw [h3 0 p q x rfl rfl rfl]
        have := (cutL_iff (ps := ps) (qs := qs) (xs := xs)).mpr ⟨by simpa using h1, by simpa using h2, fun i p q x a b c => h3 (i + 1) p q x (by simpa using a) (by simpa using b) (by simpa using c)⟩
        rw [this]
theorem cut_wr {T : Ty} (g : GoodT T) : ∀ {d : Nat} {name : String} {r s x : Rg}, Wr true T d name r → Wr false T d name s → cutM r s = some x → Wr true T d name x
  | d, name, r, .any, x, h1, h2, h => by
    have e : cutM r .any = some r := by cases r <;> simp [cutM]
    rw [e] at h
    rw [← Option.some.inj h]; exact h1
  | d, name, r, .nt l, x, _, h2, _ => by have := h2.nt.1; simp at this
  | d, name, .any, .rng a b, x, h1, h2, h => by
    simp only [cutM] at h
    rw [← Option.some.inj h]; exact h2.up
  | d, name, .any, .mk c qs, x, h1, h2, h => by
    simp only [cutM] at h
    rw [← Option.some.inj h]; exact h2.up
  | d, name, .rng a b, .rng c e, x, h1, h2, h => by
    obtain ⟨rfl, a1, a2, a3, a4, a5⟩ := h1.rng2
    obtain ⟨_, b1, b2, b3, b4, b5⟩ := h2.rng2
    simp only [cutM] at h
    by_cases hc : (if c > a then c else a) ≤ (if e < b then e else b)
    · rw [if_pos hc] at h
      rw [← Option.some.inj h]
      refine Wr_rng ⟨?_, ?_, ?_, ?_, hc⟩ <;> split <;> omega
    · rw [if_neg hc] at h; cases h
  | d, name, .nt _, .rng _ _, x, h1, h2, _ => absurd h2.rng.1 h1.nt.2.1
  | d, name, .mk _ _, .rng _ _, x, h1, h2, _ => by obtain ⟨_, _, h, _⟩ := h1.mk; exact absurd h2.rng.1 h
  | d, name, .rng _ _, .mk _ _, x, h1, h2, _ => by obtain ⟨_, _, h, _⟩ := h2.mk; exact absurd h1.rng.1 h
  | d, name, .nt l, .mk c qs, x, h1, h2, h => by
    simp only [cutM] at h
    split at h
    · cases h
    · rw [← Option.some.inj h]; exact h2.up
  | d, name, .mk c ps, .mk c' qs, x, h1, h2, h => by
    simp only [cutM] at h
    split at h
    · rename_i hc
      subst hc
      cases hl : cutL ps qs with
      | none => rw [hl] at h; cases h
      | some xs =>
        rw [hl] at h
        rw [← Option.some.inj h]
        obtain ⟨d', rfl, hne, fs, m1, l1, f1⟩ := h1.mk
        obtain ⟨d2', e2, _, gs, m2, l2, f2⟩ := h2.mk
        obtain rfl : d2' = d' := by omega
        obtain rfl := same_fields g m1 m2
        obtain ⟨k1, k2, k3⟩ := cutL_iff.mp hl
        simp only [Wr]
        refine ⟨hne, fs, m1, by omega, fun i f y hf hy => ?_⟩
        have hi : i < xs.length := (List.getElem?_eq_some_iff.mp hy).1
        have hp : ps[i]? = some (ps[i]'(by omega)) := List.getElem?_eq_getElem _
        have hq : qs[i]? = some (qs[i]'(by omega)) := List.getElem?_eq_getElem _
        exact cut_wr g (f1 i f _ hf hp) (f2 i f _ hf hq) (k3 i _ _ y hp hq hy)
    · cases h
termination_by d => d
def WL (fl : Bool) (T : Ty) (d : Nat) : List String → List Rg → Prop
  | [], [] => True
  | n :: ns, p :: ps => Wr fl T d n p ∧ WL fl T d ns ps
  | [], _ :: _ => False
  | _ :: _, [] => False
theorem WL.len {fl : Bool} {T : Ty} {d : Nat} : ∀ {ns : List String} {ps : List Rg}, WL fl T d ns ps → ps.length = ns.length
  | [], [], _ => rfl
  | n :: ns, p :: ps, h => by simp only [WL] at h; simp [WL.len h.2]
  | [], _ :: _, h => by simp [WL] at h
  | _ :: _, [], h => by simp [WL] at h
theorem WL.get {fl : Bool} {T : Ty} {d : Nat} : ∀ {ns : List String} {ps : List Rg} {i : Nat} {n : String} {p : Rg}, WL fl T d ns ps → ns[i]? = some n → ps[i]? = some p → Wr fl T d n p
  | n :: ns, p :: ps, 0, _, _, h, h1, h2 => by simp only [WL] at h; simp at h1 h2; subst h1 h2; exact h.1
  | n :: ns, p :: ps, i + 1, _, _, h, h1, h2 => by simp only [WL] at h; exact WL.get h.2 (by simpa using h1) (by simpa using h2)
  | [], _, _, _, _, _, h1, _ => by simp at h1
  | _ :: _, [], _, _, _, _, _, h2 => by simp at h2
theorem WL_of {fl : Bool} {T : Ty} {d : Nat} : ∀ {ns : List String} {ps : List Rg}, ps.length = ns.length → (∀ (i : Nat) (n : String) (p : Rg), ns[i]? = some n → ps[i]? = some p → Wr fl T d n p) → WL fl T d ns ps
  | [], [], _, _ => by simp only [WL]
  | n :: ns, p :: ps, h, f => by
    simp only [WL]
    exact ⟨f 0 n p rfl rfl, WL_of (by simpa using h) fun i n p a b => f (i + 1) n p (by simpa using a) (by simpa using b)⟩
  | [], _ :: _, h, _ => by simp at h
  | _ :: _, [], h, _ => by simp at h
theorem WL_append {fl : Bool} {T : Ty} {d : Nat} : ∀ {ns : List String} {ps : List Rg} {ms : List String} {qs : List Rg}, WL fl T d ns ps → WL fl T d ms qs → WL fl T d (ns ++ ms) (ps ++ qs)
  | [], [], _, _, _, h => h
  | n :: ns, p :: ps, _, _, h, h2 => by simp only [WL] at h; simp only [List.cons_append, WL]; exact ⟨h.1, WL_append h.2 h2⟩
  | [], _ :: _, _, _, h, _ => by simp [WL] at h
  | _ :: _, [], _, _, h, _ => by simp [WL] at h
theorem cutL_mid : ∀ {pre qpre : List Rg} {x q : Rg} {ps qs : List Rg}, pre.length = qpre.length → cutM x q = none → cutL (pre ++ x :: ps) (qpre ++ q :: qs) = none
  | [], [], x, q, ps, qs, _, h => by simp only [List.nil_append, cutL]; rw [h]
  | p :: pre, q' :: qpre, x, q, ps, qs, hl, h => by
    simp only [List.cons_append, cutL]
    rw [cutL_mid (by simpa using hl) h]
    cases cutM p q' <;> rfl
  | [], _ :: _, _, _, _, _, h, _ => by simp at h
  | _ :: _, [], _, _, _, _, h, _ => by simp at h
def PartP (T : Ty) (d : Nat) (name : String) (s x : Rg) : Prop := Wr true T d name x ∧ cutM x s = none ∧ restM T name x s = [x]
def RowP (T : Ty) (d : Nat) (ns : List String) (qs row : List Rg) : Prop := WL true T d ns row ∧ cutL row qs = none
theorem rr_part {T : Ty} {d : Nat} {a b c e : Int} (h1 : -99 ≤ a ∧ a ≤ 99 ∧ -99 ≤ b ∧ b ≤ 99 ∧ a ≤ b) (h2 : -99 ≤ c ∧ c ≤ 99 ∧ -99 ≤ e ∧ e ≤ 99 ∧ c ≤ e) (hd : e < a ∨ b < c) : PartP T d "Int" (.rng c e) (.rng a b) := by
  refine ⟨Wr_rng h1, ?_, ?_⟩
  · simp only [cutM]
    rw [if_neg]
    intro hh
    split at hh <;> split at hh <;> omega
  · simp only [restM, rr]
    rw [if_pos hd]
theorem rr_parts {T : Ty} {d : Nat} {r : Rg} {a b c e : Int} (hr : r = .rng a b ∨ ¬ (e < a ∨ b < c)) (h1 : -99 ≤ a ∧ a ≤ 99 ∧ -99 ≤ b ∧ b ≤ 99 ∧ a ≤ b) (h2 : -99 ≤ c ∧ c ≤ 99 ∧ -99 ≤ e ∧ e ≤ 99 ∧ c ≤ e) : ∀ x ∈ rr r a b c e, PartP T d "Int" (.rng c e) x := by
  intro x hx
  unfold rr at hx
  split at hx
  · rename_i hd
    rcases hr with hr | hr
    · rw [List.mem_singleton.mp hx, hr]
      exact rr_part h1 h2 hd
    · exact absurd hd hr
  · rcases List.mem_append.mp hx with hx | hx
    · split at hx
      · rw [List.mem_singleton.mp hx]
        exact rr_part (by omega) h2 (by omega)
      · cases hx
    · split at hx
      · rw [List.mem_singleton.mp hx]
        exact rr_part (by omega) h2 (by omega)
      · cases hx
theorem left_part {T : Ty} (g : GoodT T) {d : Nat} {name c : String} {l : List String} {qs : List Rg} (hne : name ≠ "Int") (hc : c ∈ namesOf T name) : ∀ x ∈ leftM T name l c, PartP T d name (.mk c qs) x := by
  intro x hx
  unfold leftM at hx
  split at hx
  · rename_i hlt
    rw [List.mem_singleton.mp hx]
    have hcL : c ∈ (namesOf T name).filter fun x => decide (x ∈ l ∨ x = c) := List.mem_filter.mpr ⟨hc, by simp⟩
    refine ⟨?_, ?_, ?_⟩
    · have : true = true ∧ name ≠ "Int" ∧ ((namesOf T name).filter fun x => decide (x ∈ l ∨ x = c)).Nodup ∧ (∀ x ∈ (namesOf T name).filter fun x => decide (x ∈ l ∨ x = c), x ∈ namesOf T name) ∧ ∃ x ∈ namesOf T name, x ∉ (namesOf T name).filter fun x => decide (x ∈ l ∨ x = c) := by
        refine ⟨rfl, hne, (namesOf_nodup g name).filter _, fun x hx => (List.mem_filter.mp hx).1, Classical.byContradiction fun hn => ?_⟩
        have hall : ((namesOf T name).filter fun x => decide (x ∈ l ∨ x = c)).length = (namesOf T name).length := List.length_filter_eq_length_iff.mpr fun y hy => by
          have : y ∈ (namesOf T name).filter fun x => decide (x ∈ l ∨ x = c) := Classical.byContradiction fun hm => hn ⟨y, hy, hm⟩
          exact (List.mem_filter.mp this).2
        omega
      cases d <;> simpa only [Wr] using this
    · simp only [cutM]
      rw [if_pos hcL]
    · simp only [restM]
      rw [if_pos hcL]
  · cases hx
theorem mk_part {T : Ty} {d : Nat} {name c : String} {fs : List String} {qs : List Rg} {row : List Rg} (hne : name ≠ "Int") (hm : (c, fs) ∈ makersOf T name) (hf : fieldsOf T c = fs) (h : RowP T d fs qs row) : PartP T (d + 1) name (.mk c qs) (.mk c row) := by
  obtain ⟨h1, h2⟩ := h
  refine ⟨?_, ?_, ?_⟩
  · simp only [Wr]
    exact ⟨hne, fs, hm, h1.len.symm, fun i f p a b => h1.get a b⟩
  · simp only [cutM]
    rw [if_pos trivial, h2]
  · simp only [restM]
    rw [if_pos trivial, h2]
    rfl
theorem rest_part_n {T : Ty} (g : GoodT T) : ∀ n : Nat, (∀ (d : Nat) (name : String) (r s : Rg), sizeOf s < n → Wr true T d name r → Wr false T d name s → ∀ x ∈ restM T name r s, PartP T d name s x) ∧
    ∀ (d : Nat) (ns : List String) (ps qs cs pre qpre : List Rg) (npre : List String), sizeOf qs < n → WL true T d ns ps → WL false T d ns qs → cutL ps qs = some cs → WL true T d npre pre → pre.length = qpre.length → ∀ row ∈ rowsL T pre ns ps qs cs, RowP T d (npre ++ ns) (qpre ++ qs) row
  | 0 => ⟨fun _ _ _ _ h => absurd h (Nat.not_lt_zero _), fun _ _ _ _ _ _ _ _ h => absurd h (Nat.not_lt_zero _)⟩
  | n + 1 => by
    obtain ⟨ih1, ih2⟩ := rest_part_n g n
    constructor
    · intro d name r s hn h1 h2
      cases s with
      | any =>
        have e : restM T name r .any = [] := by cases r <;> simp [restM]
        rw [e]
        intro x hx; cases hx
      | nt l => have := h2.nt.1; simp at this
      | rng c e =>
        obtain ⟨hname, hb⟩ := h2.rng2
        subst hname
        cases r with
        | any =>
          simp only [restM]
          exact rr_parts (.inr (by omega)) (by omega) hb
        | rng a b =>
          simp only [restM]
          exact rr_parts (.inl rfl) h1.rng2.2 hb
        | nt l => exact absurd rfl h1.nt.2.1
        | mk _ _ =>
          obtain ⟨_, _, hne, _⟩ := h1.mk
          exact absurd rfl hne
      | mk c qs =>
        obtain ⟨e2, rfl, hne, fs, m2, l2, f2⟩ := h2.mk
        obtain ⟨me1, me2, me3, me4⟩ := maker_fields g m2
        simp only at me1 me2 me3 me4
        have hcn : c ∈ namesOf T name := List.mem_map.mpr ⟨_, m2, rfl⟩
        have hsz : sizeOf qs < n := by simp at hn; omega
        have wq : WL false T e2 fs qs := WL_of l2.symm f2
        have rows : ∀ ps : List Rg, WL true T e2 fs ps → ∀ x ∈ (restL T (fieldsOf T c) ps qs).map (Rg.mk c), PartP T (e2 + 1) name (.mk c qs) x := by
          intro ps hp x hx
          obtain ⟨row, hrow, rfl⟩ := List.mem_map.mp hx
          rw [me1] at hrow
          refine mk_part hne m2 me1 ?_
          unfold restL at hrow
          cases hc : cutL ps qs with
          | none =>
            rw [hc] at hrow
            rw [List.mem_singleton.mp hrow]
            exact ⟨hp, hc⟩
          | some cs =>
            rw [hc] at hrow
            exact ih2 e2 fs ps qs cs [] [] [] hsz hp wq hc (by simp [WL]) rfl row hrow
        have anys : WL true T e2 fs (qs.map fun _ => Rg.any) := WL_of (by simp; omega) fun i n p _ hp => by
          rw [List.getElem?_map] at hp
          obtain ⟨_, _, rfl⟩ := Option.map_eq_some_iff.mp hp
          exact Wr.any
        cases r with
        | any =>
          have e : restM T name .any (.mk c qs) = leftM T name [] c ++ (restL T (fieldsOf T c) (qs.map fun _ => Rg.any) qs).map (.mk c) := by simp only [restM, restL]
          rw [e]
          exact fun x hx => (List.mem_append.mp hx).elim (left_part g hne hcn x) (rows _ anys x)
        | rng a b => exact absurd h1.rng.1 hne
        | nt l =>
          by_cases hl : c ∈ l
          · have e : restM T name (.nt l) (.mk c qs) = [.nt l] := by simp only [restM]; rw [if_pos hl]
            rw [e]
            intro x hx
            rw [List.mem_singleton.mp hx]
            exact ⟨h1, by simp only [cutM]; rw [if_pos hl], e⟩
          · have e : restM T name (.nt l) (.mk c qs) = leftM T name l c ++ (restL T (fieldsOf T c) (qs.map fun _ => Rg.any) qs).map (.mk c) := by simp only [restM, restL]; rw [if_neg hl]
            rw [e]
            exact fun x hx => (List.mem_append.mp hx).elim (left_part g hne hcn x) (rows _ anys x)
        | mk c' ps =>
          obtain ⟨e1, e1', _, fs', m1, l1, f1⟩ := h1.mk
          obtain rfl : e1 = e2 := by omega
          by_cases e : c' = c
          · subst e
            obtain rfl := same_fields g m1 m2
            have e : restM T name (.mk c' ps) (.mk c' qs) = (restL T (fieldsOf T c') ps qs).map (.mk c') := by simp only [restM, restL]; exact if_pos trivial
            rw [e]
            exact rows ps (WL_of l1.symm f1)
          · have e2 : restM T name (.mk c' ps) (.mk c qs) = [.mk c' ps] := by simp only [restM]; rw [if_neg e]
            rw [e2]
            intro x hx
            rw [List.mem_singleton.mp hx]
            exact ⟨h1, by simp only [cutM]; rw [if_neg e], e2⟩
    · intro d ns ps qs cs pre qpre npre hn wp wq hcs hpre hlen
      match ns, ps, qs, hn, wp, wq, hcs with
      | [], [], [], _, _, _, hcs =>
        simp [cutL] at hcs
        subst hcs
        intro row hrow
        simp [rowsL] at hrow
      | n' :: ns, p :: ps, q :: qs, hn, wp, wq, hcs =>
        simp only [WL] at wp wq
        simp at hn
        simp only [cutL] at hcs
        cases hc : cutM p q with
        | none => rw [hc] at hcs; cases hcs
        | some x =>
          rw [hc] at hcs
          cases hc2 : cutL ps qs with
          | none => rw [hc2] at hcs; cases hcs
          | some ys =>
            rw [hc2] at hcs
            obtain rfl := Option.some.inj hcs
            intro row hrow
            simp only [rowsL] at hrow
            rcases List.mem_append.mp hrow with h | h
            · obtain ⟨z, hz, rfl⟩ := List.mem_map.mp h
              obtain ⟨z1, z2, z3⟩ := ih1 d n' p q (by omega) wp.1 wq.1 z hz
              exact ⟨WL_append hpre (by simp only [WL]; exact ⟨z1, wp.2⟩), cutL_mid hlen z2⟩
            · have := ih2 d ns ps qs ys (pre ++ [x]) (qpre ++ [q]) (npre ++ [n']) (by omega) wp.2 wq.2 hc2 (WL_append hpre (by simp only [WL]; exact ⟨cut_wr g wp.1 wq.1 hc, trivial⟩)) (by simp [hlen]) row h
              simpa using this
      | [], _ :: _, _, _, h, _, _ => simp [WL] at h
      | [], [], _ :: _, _, _, h, _ => simp [WL] at h
      | _ :: _, [], _, _, h, _, _ => simp [WL] at h
      | _ :: _, _ :: _, [], _, _, h, _ => simp [WL] at h
end K20
end

section
set_option maxHeartbeats 0
set_option linter.all false
set_option maxRecDepth 100000
namespace K20
open Ev
theorem tkLt_irr : ∀ x, tkLt x x = false
  | .inl a => by simp [tkLt]
  | .inr a => by simp [tkLt, List.lt_irrefl]
theorem tkLt_tr : ∀ {x y z}, tkLt x y = true → tkLt y z = true → tkLt x z = true
  | .inl a, .inl b, .inl c, h1, h2 => by simp [tkLt] at *; omega
  | .inl _, .inl _, .inr _, _, _ => rfl
  | .inl _, .inr _, .inr _, _, _ => rfl
  | .inl _, .inr _, .inl _, _, h => by simp [tkLt] at h
  | .inr _, .inl _, _, h, _ => by simp [tkLt] at h
  | .inr _, .inr _, .inl _, _, h => by simp [tkLt] at h
  | .inr a, .inr b, .inr c, h1, h2 => by simp [tkLt] at *; exact List.lt_trans h1 h2
theorem tkLt_tot : ∀ {x y}, tkLt x y = false → tkLt y x = false → x = y
  | .inl a, .inl b, h1, h2 => by simp [tkLt] at *; omega
  | .inl _, .inr _, h, _ => by simp [tkLt] at h
  | .inr _, .inl _, _, h => by simp [tkLt] at h
  | .inr a, .inr b, h1, h2 => by
    simp [tkLt] at *
    exact List.le_antisymm h2 h1
theorem tksLt_tot : ∀ {x y}, tksLt x y = false → tksLt y x = false → x = y
  | [], [], _, _ => rfl
  | [], _ :: _, h, _ => by simp [tksLt] at h
  | _ :: _, [], _, h => by simp [tksLt] at h
  | x :: r, y :: t, h1, h2 => by
    simp only [tksLt, Bool.or_eq_false_iff, Bool.and_eq_false_iff, Bool.not_eq_false'] at h1 h2
    obtain ⟨a1, a2⟩ := h1
    obtain ⟨b1, b2⟩ := h2
    rw [b1] at a2
    rw [a1] at b2
    simp at a2 b2
    rw [tkLt_tot a1 b1, tksLt_tot a2 b2]
theorem tksLt_tr : ∀ {x y z}, tksLt y x = false → tksLt z y = false → tksLt z x = false
  | [], y, z, h1, h2 => by
    cases z with
    | nil => rfl
    | cons c z =>
      cases y with
      | nil => simp [tksLt] at h2 ⊢
      | cons b y => simp [tksLt]
  | a :: x, [], _, h1, _ => by simp [tksLt] at h1
  | a :: x, b :: y, [], _, h2 => by simp [tksLt] at h2
  | a :: x, b :: y, c :: z, h1, h2 => by
    simp only [tksLt, Bool.or_eq_false_iff, Bool.and_eq_false_iff, Bool.not_eq_false'] at h1 h2 ⊢
    obtain ⟨a1, a2⟩ := h1
    obtain ⟨b1, b2⟩ := h2
    have hca : tkLt c a = false := by
      cases hc : tkLt c a with
      | false => rfl
      | true =>
        cases hab : tkLt a b with
        | true => rw [tkLt_tr hc hab] at b1; cases b1
        | false => rw [← tkLt_tot hab a1] at b1; rw [hc] at b1; cases b1
    refine ⟨hca, ?_⟩
    cases hac : tkLt a c with
    | true => exact .inl rfl
    | false =>
      right
      obtain rfl := tkLt_tot hac hca
      cases hab : tkLt a b with
      | true => rw [hab] at b1; cases b1
      | false =>
        obtain rfl := tkLt_tot hab a1
        rw [tkLt_irr] at a2 b2
        simp at a2 b2
        exact tksLt_tr a2 b2
theorem leK_trans (a b c : D) (h1 : a.leK b = true) (h2 : b.leK c = true) : a.leK c = true := by
  unfold D.leK at *
  rw [Bool.not_eq_true'] at *
  exact tksLt_tr h1 h2
theorem leK_total (a b : D) : (a.leK b || b.leK a) = true := by
  unfold D.leK
  cases h : tksLt b.toks a.toks with
  | false => rfl
  | true =>
    cases h2 : tksLt a.toks b.toks with
    | false => rfl
    | true =>
      have : ∀ x y, tksLt x y = true → tksLt y x = true → False := fun x => by
        induction x with
        | nil => intro y; cases y <;> simp [tksLt]
        | cons a x ih =>
          intro y h1 h2
          cases y with
          | nil => simp [tksLt] at h1
          | cons b y =>
            simp only [tksLt, Bool.or_eq_true, Bool.and_eq_true, Bool.not_eq_true'] at h1 h2
            rcases h1 with h1 | ⟨h1, h3⟩
            · rcases h2 with h2 | ⟨h2, _⟩
              · have := tkLt_tr h1 h2
                rw [tkLt_irr] at this; cases this
              · rw [h1] at h2; cases h2
            · rcases h2 with h2 | ⟨_, h4⟩
              · rw [h1] at h2; cases h2
              · exact ih y h3 h4
      exact (this _ _ h h2).elim
abbrev B1 := String × List Int
def encB1 (b : B1) : D := .tup [.str b.1, .tup (b.2.map .int)]
def encBs (bs : List B1) : D := .tup (bs.map encB1)
def leB (a b : B1) : Bool := (encB1 a).leK (encB1 b)
def srt (bs : List B1) : List B1 := bs.mergeSort leB
theorem toks_ints : ∀ {xs ys : List Int} {l m : List (Int ⊕ List Nat)}, D.toksL (xs.map .int) ++ l = D.toksL (ys.map .int) ++ m → xs = ys ∧ l = m
  | [], [], _, _, h => by simpa [D.toksL] using h
  | [], _ :: _, _, _, h => by simp [D.toksL] at h
  | _ :: _, [], _, _, h => by simp [D.toksL] at h
  | x :: xs, y :: ys, l, m, h => by
    simp [D.toksL, D.toks] at h
    obtain ⟨rfl, h⟩ := h
    obtain ⟨h1, h2⟩ := toks_ints h
    exact ⟨by rw [h1], h2⟩
theorem chars_inj : ∀ {a b : List Char}, a.map Char.toNat = b.map Char.toNat → a = b
  | [], [], _ => rfl
  | [], _ :: _, h => by simp at h
  | _ :: _, [], h => by simp at h
  | x :: a, y :: b, h => by
    simp at h
    have hx : x = y := Char.ext (UInt32.toNat_inj.mp h.1)
    rw [hx, chars_inj (a := a) (b := b) (by simpa using h.2)]
theorem encB1_inj {a b : B1} (h : (encB1 a).toks = (encB1 b).toks) : a = b := by
  simp [encB1, D.toks, D.toksL] at h
  obtain ⟨h1, h2⟩ := h
  obtain ⟨h3, _⟩ := toks_ints (l := []) (m := []) (by simpa using h2)
  have h1 := String.toList_inj.mp (chars_inj h1)
  exact Prod.ext h1 h3
theorem leB_trans (a b c : B1) : leB a b = true → leB b c = true → leB a c = true := leK_trans _ _ _
theorem leB_total (a b : B1) : (leB a b || leB b a) = true := leK_total _ _
theorem leB_anti {a b : B1} (h1 : leB a b = true) (h2 : leB b a = true) : a = b := by
  unfold leB D.leK at *
  rw [Bool.not_eq_true'] at *
  exact encB1_inj (tksLt_tot h2 h1)
theorem perm_sorted : ∀ {l m : List B1}, l.Perm m → l.Pairwise (fun a b => leB a b = true) → m.Pairwise (fun a b => leB a b = true) → l = m
  | [], m, p, _, _ => (List.Perm.eq_nil p.symm).symm
  | x :: l, [], p, _, _ => absurd p.length_eq (by simp)
  | x :: l, y :: m, p, hl, hm => by
    have h1 : leB x y = true := by
      rcases List.mem_cons.mp (p.mem_iff.mpr (List.mem_cons_self (a := y) (l := m))) with e | h
      · rw [e]; have := leB_total x x; simpa using this
      · exact (List.pairwise_cons.mp hl).1 y h
    have h2 : leB y x = true := by
      rcases List.mem_cons.mp (p.mem_iff.mp (List.mem_cons_self (a := x) (l := l))) with e | h
      · rw [e]; have := leB_total y y; simpa using this
      · exact (List.pairwise_cons.mp hm).1 x h
    obtain rfl := leB_anti h1 h2
    rw [perm_sorted p.cons_inv (List.pairwise_cons.mp hl).2 (List.pairwise_cons.mp hm).2]
theorem srt_perm (l : List B1) : (srt l).Perm l := List.mergeSort_perm l leB
theorem srt_sorted (l : List B1) : (srt l).Pairwise (fun a b => leB a b = true) := List.pairwise_mergeSort leB_trans leB_total l
theorem srt_len (l : List B1) : (srt l).length = l.length := (srt_perm l).length_eq
theorem srt_mem {l : List B1} {b : B1} : b ∈ srt l ↔ b ∈ l := (srt_perm l).mem_iff
theorem srt_nil : srt [] = [] := by simp [srt]
theorem sort_enc (l : List B1) : (l.map encB1).mergeSort D.leK = (srt l).map encB1 := (List.map_mergeSort (r := leB) (s := D.leK) (f := encB1) (l := l) fun _ _ _ _ => rfl).symm
theorem alike_ints : ∀ xs ys : List Int, D.alikeL (xs.map .int) (ys.map .int) = true
  | [], ys => by cases ys <;> simp [D.alikeL]
  | x :: xs, [] => by simp [D.alikeL]
  | x :: xs, y :: ys => by simp only [List.map_cons, D.alikeL, D.alike, alike_ints xs ys, Bool.and_self]
theorem can_sort {l : List B1} (h : l.length ≤ 1000000) : canSort (l.map encB1) = true := by
  unfold canSort
  have h1 : ((l.map encB1).all fun x => (l.map encB1).all fun y => D.alike x y) = true := by
    rw [List.all_eq_true]
    intro x hx
    rw [List.all_eq_true]
    intro y hy
    obtain ⟨a, _, rfl⟩ := List.mem_map.mp hx
    obtain ⟨b, _, rfl⟩ := List.mem_map.mp hy
    simp [encB1, D.alike, D.alikeL, alike_ints]
  have h2 : (l.map encB1).all isT1 = true := by
    rw [List.all_eq_true]
    intro x hx
    obtain ⟨a, _, rfl⟩ := List.mem_map.mp hx
    rfl
  have h3 : ((l.map encB1).all fun x => decide (x.dep ≤ 64)) = true := by
    rw [List.all_eq_true]
    intro x hx
    obtain ⟨a, _, rfl⟩ := List.mem_map.mp hx
    have : ∀ xs : List Int, D.depL (xs.map .int) = 0 := fun xs => by
      induction xs with
      | nil => rfl
      | cons x xs ih => simp [D.depL, D.dep, ih]
    simp [encB1, D.dep, D.depL, this]
  rw [h1, h2, h3, List.length_map, decide_eq_true (le_SL h)]
  rfl
theorem sort_ok {l : List B1} (h : l.length ≤ 1000000) : sortR [.d (.lst (l.map encB1))] = some (.d (.lst ((srt l).map encB1))) := by
  show (if canSort (l.map encB1) = true then some (R.d (.lst ((l.map encB1).mergeSort D.leK))) else none) = _
  rw [if_pos (can_sort h), sort_enc]
inductive Pt where
  | any | var (x : String) | int (i : Int) | rng (a b : Int) | mk (c : String) (ps : List Pt) | or (ps : List Pt) | as (x : String) (p : Pt)
deriving Inhabited
end K20
end

section
set_option maxHeartbeats 0
set_option linter.all false
set_option maxRecDepth 100000
namespace K20
open Ev
end K20
end

section
set_option maxHeartbeats 0
set_option linter.all false
set_option maxRecDepth 100000
namespace K20
open Ev
end K20
end

section
set_option maxHeartbeats 0
set_option linter.all false
set_option maxRecDepth 100000
namespace K20
open Ev
def encPath (path : List Int) : D := .tup (path.map .int)
end K20
end

section
set_option maxHeartbeats 0
set_option linter.all false
set_option maxRecDepth 100000
namespace K20
open Ev
def vAt : Vl → List Nat → Option Vl
  | v, [] => some v
  | .mk _ vs, i :: r => match vs[i]? with
    | some v => vAt v r
    | none => none
  | .int _, _ :: _ => none
theorem at_loop {x0 x1 : Sl} {μ : Mem} : ∀ (r : List Nat) (v w : Vl) (x3 : Sl), vAt v r = some w → ∃ x3', forL (tgN 3) (sAs (tgN 2) (eIdx (eIdx (eV 2) (eC (.int 2))) (eV 3))) (r.map fun (n : Nat) => R.d (.int (n : Int))) [x0, x1, .v (.d (encV v)), x3] μ = .ok (.nx [x0, x1, .v (.d (encV w)), x3']) μ
  | [], v, w, x3, h => by
    simp only [vAt] at h
    obtain rfl := Option.some.inj h
    exact ⟨x3, rfl⟩
  | i :: r, .int _, w, x3, h => by simp [vAt] at h
  | i :: r, .mk c vs, w, x3, h => by
    simp only [vAt] at h
    cases hv : vs[i]? with
    | none => rw [hv] at h; cases h
    | some v =>
      rw [hv] at h
      obtain ⟨x3', ih⟩ := at_loop (x0 := x0) (x1 := x1) (μ := μ) r v w (.v (.d (.int (i : Int)))) h
      refine ⟨x3', ?_⟩
      rw [List.map_cons]
      unfold forL
      have ht : tgN 3 (.d (.int (i : Int))) [x0, x1, .v (.d (encV (.mk c vs))), x3] = some [x0, x1, .v (.d (encV (.mk c vs))), .v (.d (.int (i : Int)))] := by simp only [tgN, List.set_cons_succ, List.set_cons_zero]
      rw [ht]
      have e2 : eV 2 [x0, x1, .v (.d (encV (.mk c vs))), .v (.d (.int (i : Int)))] μ = .ok (.d (.tup [.str "make", .str c, .tup (encVs vs)])) μ := by rw [eV_at rfl]; simp [encV]
      have hs : sAs (tgN 2) (eIdx (eIdx (eV 2) (eC (.int 2))) (eV 3)) [x0, x1, .v (.d (encV (.mk c vs))), .v (.d (.int (i : Int)))] μ = .ok (.nx [x0, x1, .v (.d (encV v)), .v (.d (.int (i : Int)))]) μ := by
        rw [sAs_ok (ix_ok (ixc_ok e2 (x := .tup (encVs vs)) rfl) (eV_at rfl) (encVs_get hv))]
        simp only [List.set_cons_succ, List.set_cons_zero]
      simp only [hs, bind_ok]
      exact ih
theorem at_body (C : Fn) (vs : List Vl) (i : Nat) (r : List Nat) (v w : Vl) (μ : Mem) (h1 : vs[i]? = some v) (h2 : vAt v r = some w) :
    runB 4 (f_value_at.body C) [.d (.tup (encVs vs)), .d (encPath ((i : Int) :: r.map fun (n : Nat) => (n : Int)))] μ = .ok (.d (encV w)) μ := by
  refine runB_rt (μ' := μ) ?_ rfl
  simp only [f_value_at, List.map_cons, List.map_nil, List.length_cons, List.length_nil, Nat.reduceAdd, Nat.reduceSub, List.replicate_succ, List.replicate_zero, List.cons_append, List.nil_append]
  have e0 : eIdx (eV 0) (eIdx (eV 1) (eC (.int 0))) [.v (.d (.tup (encVs vs))), .v (.d (encPath ((i : Int) :: r.map fun (n : Nat) => (n : Int)))), .un, .un] μ = .ok (.d (encV v)) μ :=
    ix_ok (eV_at rfl) (ixc_ok (ds := (i : Int) :: r.map (fun (n : Nat) => (n : Int)) |>.map D.int) (eV_at (by simp [encPath])) (x := .int (i : Int)) (by simp)) (encVs_get h1)
  rw [sq_as e0]
  simp only [List.set_cons_succ, List.set_cons_zero]
  obtain ⟨x3', hl⟩ := at_loop (x0 := .v (.d (.tup (encVs vs)))) (x1 := .v (.d (encPath ((i : Int) :: r.map fun (n : Nat) => (n : Int))))) (μ := μ) r v w .un h2
  have e1 : eSlc (eV 1) (oE (eC (.int 1))) oN [.v (.d (.tup (encVs vs))), .v (.d (encPath ((i : Int) :: r.map fun (n : Nat) => (n : Int)))), .v (.d (encV v)), .un] μ = .ok (.d (.tup ((r.map fun (n : Nat) => (n : Int)).map .int))) μ := by
    unfold eSlc
    rw [eV_at rfl, bind_ok]
    have : oE (eC (.int 1)) [.v (.d (.tup (encVs vs))), .v (.d (encPath ((i : Int) :: r.map fun (n : Nat) => (n : Int)))), .v (.d (encV v)), .un] μ = .ok (some ((1 : Nat) : Int)) μ := by unfold oE; rw [eC_ok]; rfl
    rw [this, bind_ok]
    have : oN [.v (.d (.tup (encVs vs))), .v (.d (encPath ((i : Int) :: r.map fun (n : Nat) => (n : Int)))), .v (.d (encV v)), .un] μ = .ok none μ := by unfold oN; rfl
    rw [this, bind_ok, vw_d, encPath, slcR_tup, cut_drop]
    simp
  rw [sq_nx (sFor_rt (iE_tup e1) (by rw [List.map_map, List.map_map]; exact hl))]
  exact sRet_ok (eV_at rfl)
theorem value_at_spec (n : Nat) (vs : List Vl) (i : Nat) (r : List Nat) (v w : Vl) (μ : Mem) (h1 : vs[i]? = some v) (h2 : vAt v r = some w) :
    callN P (n + 1) "value_at" [.d (.tup (encVs vs)), .d (encPath ((i : Int) :: r.map fun (n : Nat) => (n : Int)))] μ = .ok (.d (encV w)) μ := by
  rw [callN_run (d := f_value_at) rfl rfl]
  exact at_body _ vs i r v w μ h1 h2
end K20
end

section
set_option maxHeartbeats 0
set_option linter.all false
set_option maxRecDepth 100000
namespace K20
open Ev
def Wp (T : Ty) : Nat → String → Pt → Prop
  | _, _, .any => True
  | _, _, .var x => x.length ≤ 8
  | _, name, .int i => name = "Int" ∧ -99 ≤ i ∧ i ≤ 99
  | _, name, .rng a b => name = "Int" ∧ -99 ≤ a ∧ a ≤ 99 ∧ -99 ≤ b ∧ b ≤ 99 ∧ a ≤ b
  | 0, _, .mk _ _ => False
  | 0, _, .or _ => False
  | 0, _, .as _ _ => False
  | d + 1, name, .mk c ps => name ≠ "Int" ∧ ∃ fs, (c, fs) ∈ makersOf T name ∧ fs.length = ps.length ∧ ∀ (i : Nat) (f : String) (p : Pt), fs[i]? = some f → ps[i]? = some p → Wp T d f p
  | d + 1, name, .or ps => ps.length = 2 ∧ ∀ p ∈ ps, Wp T d name p
  | d + 1, name, .as x p => x.length ≤ 8 ∧ Wp T d name p
section
variable {T : Ty} {d : Nat} {name : String}
theorem Wp.any : Wp T d name .any := by cases d <;> simp [Wp]
theorem Wp.var {x : String} (h : x.length ≤ 8) : Wp T d name (.var x) := by cases d <;> simpa [Wp] using h
theorem Wp.var2 {x : String} (h : Wp T d name (.var x)) : x.length ≤ 8 := by cases d <;> simpa [Wp] using h
theorem Wp.int2 {i : Int} (h : Wp T d name (.int i)) : name = "Int" ∧ -99 ≤ i ∧ i ≤ 99 := by cases d <;> simpa only [Wp] using h
theorem Wp.rng2 {a b : Int} (h : Wp T d name (.rng a b)) : name = "Int" ∧ -99 ≤ a ∧ a ≤ 99 ∧ -99 ≤ b ∧ b ≤ 99 ∧ a ≤ b := by cases d <;> simpa only [Wp] using h
theorem Wp.of_int {i : Int} (h : name = "Int" ∧ -99 ≤ i ∧ i ≤ 99) : Wp T d name (.int i) := by cases d <;> simpa only [Wp] using h
theorem Wp.of_rng {a b : Int} (h : name = "Int" ∧ -99 ≤ a ∧ a ≤ 99 ∧ -99 ≤ b ∧ b ≤ 99 ∧ a ≤ b) : Wp T d name (.rng a b) := by cases d <;> simpa only [Wp] using h
theorem Wp.mk2 {c : String} {ps : List Pt} (h : Wp T d name (.mk c ps)) : ∃ d', d = d' + 1 ∧ name ≠ "Int" ∧ ∃ fs, (c, fs) ∈ makersOf T name ∧ fs.length = ps.length ∧ ∀ (i : Nat) (f : String) (p : Pt), fs[i]? = some f → ps[i]? = some p → Wp T d' f p := by
  cases d with
  | zero => simp only [Wp] at h
  | succ d' => exact ⟨d', rfl, by simpa only [Wp] using h⟩
theorem Wp.or2 {ps : List Pt} (h : Wp T d name (.or ps)) : ∃ d', d = d' + 1 ∧ ps.length = 2 ∧ ∀ p ∈ ps, Wp T d' name p := by
  cases d with
  | zero => simp only [Wp] at h
  | succ d' => exact ⟨d', rfl, by simpa only [Wp] using h⟩
theorem Wp.as2 {x : String} {p : Pt} (h : Wp T d name (.as x p)) : ∃ d', d = d' + 1 ∧ x.length ≤ 8 ∧ Wp T d' name p := by
  cases d with
  | zero => simp only [Wp] at h
  | succ d' => exact ⟨d', rfl, by simpa only [Wp] using h⟩
end
theorem Wp.mono {T : Ty} : ∀ {d d2 : Nat} {name : String} {p : Pt}, d ≤ d2 → Wp T d name p → Wp T d2 name p
  | d, d2, name, .any, _, _ => Wp.any
  | d, d2, name, .var x, _, h => Wp.var h.var2
  | d, d2, name, .int i, _, h => Wp.of_int h.int2
  | d, d2, name, .rng a b, _, h => Wp.of_rng h.rng2
  | d, d2, name, .mk c ps, hd, h => by
    obtain ⟨d', rfl, h1, fs, h2, h3, h4⟩ := h.mk2
    obtain ⟨d2', rfl⟩ : ∃ d2', d2 = d2' + 1 := ⟨d2 - 1, by omega⟩
    simp only [Wp]
    exact ⟨h1, fs, h2, h3, fun i f p a b => Wp.mono (by omega) (h4 i f p a b)⟩
  | d, d2, name, .or ps, hd, h => by
    obtain ⟨d', rfl, h1, h2⟩ := h.or2
    obtain ⟨d2', rfl⟩ : ∃ d2', d2 = d2' + 1 := ⟨d2 - 1, by omega⟩
    simp only [Wp]
    exact ⟨h1, fun p hp => Wp.mono (by omega) (h2 p hp)⟩
  | d, d2, name, .as x p, hd, h => by
    obtain ⟨d', rfl, h1, h2⟩ := h.as2
    obtain ⟨d2', rfl⟩ : ∃ d2', d2 = d2' + 1 := ⟨d2 - 1, by omega⟩
    simp only [Wp]
    exact ⟨h1, Wp.mono (by omega) h2⟩
termination_by d => d
theorem Wr.mono {fl : Bool} {T : Ty} : ∀ {d d2 : Nat} {name : String} {r : Rg}, d ≤ d2 → Wr fl T d name r → Wr fl T d2 name r
  | d, d2, name, .any, _, _ => Wr.any
  | d, d2, name, .rng a b, _, h => by
    have := h.rng2
    cases d2 <;> simpa only [Wr] using this
  | d, d2, name, .nt l, _, h => by
    have := h.nt2
    cases d2 <;> simpa only [Wr] using this
  | d, d2, name, .mk c ps, hd, h => by
    obtain ⟨d', rfl, h1, fs, h2, h3, h4⟩ := h.mk
    obtain ⟨d2', rfl⟩ : ∃ d2', d2 = d2' + 1 := ⟨d2 - 1, by omega⟩
    simp only [Wr]
    exact ⟨h1, fs, h2, h3, fun i f p a b => Wr.mono (by omega) (h4 i f p a b)⟩
termination_by d => d
end K20
end

section
set_option maxHeartbeats 0
set_option linter.all false
set_option maxRecDepth 100000
namespace K20
open Ev
def WV (T : Ty) (d : Nat) (ns : List String) (vs : List Vl) : Prop := vs.length = ns.length ∧ ∀ (i : Nat) (n : String) (v : Vl), ns[i]? = some n → vs[i]? = some v → Wv T d n v
end K20
end

section
set_option maxHeartbeats 0
set_option linter.all false
set_option maxRecDepth 100000
namespace K20
open Ev
def encLB (l : List B1) : D := .lst (l.map encB1)
end K20
end

section
set_option maxHeartbeats 0
set_option linter.all false
set_option maxRecDepth 100000
namespace K20
open Ev
def By (ν0 : Mem) (digs : List Int) (k : Nat) : Mem := ν0 ++ [.lst [.lst (digs.map .int), .int k]]
theorem By_len (ν0 : Mem) (digs : List Int) (k : Nat) : (By ν0 digs k).length = ν0.length + 1 := by simp [By]
theorem By_get {ν0 : Mem} {digs : List Int} {k : Nat} : (By ν0 digs k)[ν0.length]? = some (.lst [.lst (digs.map .int), .int k]) := by simp [By]
theorem vw_by (ν0 : Mem) (digs : List Int) (k : Nat) : vw (By ν0 digs k) (.p ν0.length) = .d (.lst [.lst (digs.map .int), .int k]) := vw_lst By_get
theorem By_set {ν0 : Mem} {digs : List Int} {k : Nat} {j : Nat} : (By ν0 digs k).set ν0.length (.lst [.lst (digs.map .int), .int (j : Int)]) = By ν0 digs j := by
  unfold By
  rw [List.set_append_right _ _ (Nat.le_refl _), Nat.sub_self]
  rfl
theorem draw_specY (n : Nat) (ν0 : Mem) (digs : List Int) (k : Nat) (m : Int) (hm : 0 < m) : ∃ v, 0 ≤ v ∧ v < m ∧ callN P (n + 1) "_law_draw" [.p ν0.length, .d (.int m)] (By ν0 digs k) = .ok (.d (.int v)) (By ν0 digs (k + 1)) := by
  rw [callN_run (d := f_law_draw) rfl rfl]
  generalize callN P n = C
  have hlen : (By ν0 digs (k + 1)).length = (By ν0 digs k).length := by rw [By_len, By_len]
  have key : ∀ w : Int, 0 ≤ w % m ∧ w % m < m := fun w => ⟨Int.emod_nonneg _ (by omega), Int.emod_lt_of_pos _ hm⟩
  have s1 : sAs (tgN 2) (eIdx (eV 0) (eC (.int 1))) [.v (.p ν0.length), .v (.d (.int m)), .un] (By ν0 digs k) = .ok (.nx [.v (.p ν0.length), .v (.d (.int m)), .v (.d (.int k))]) (By ν0 digs k) := by
    rw [sAs_ok (μ' := By ν0 digs k) (r := .d (.int k)) (by simp [eIdx, eOp, eV, eC, vw_by, lift])]; rfl
  have s2 : sSet (eV 0) (eC (.int 1)) (eOp addR (eV 2) (eC (.int 1))) [.v (.p ν0.length), .v (.d (.int m)), .v (.d (.int k))] (By ν0 digs k) = .ok (.nx [.v (.p ν0.length), .v (.d (.int m)), .v (.d (.int k))]) (By ν0 digs (k + 1)) := by
    have h := By_set (ν0 := ν0) (digs := digs) (k := k) (j := k + 1)
    rw [show ((k + 1 : Nat) : Int) = (k : Int) + 1 from rfl] at h
    simp [sSet, eV, eC, eOp, vw_d, lift, By_get, ixN, h]
  by_cases h : k < digs.length
  · refine ⟨digs[k] % m, (key _).1, (key _).2, runB_rt ?_ hlen⟩
    simp only [f_law_draw, List.map_cons, List.map_nil, List.length_cons, List.length_nil, Nat.reduceAdd, Nat.reduceSub, List.replicate_succ, List.replicate_zero, List.cons_append, List.nil_append]
    rw [sq_nx s1, sq_nx s2]
    refine sq_rt ?_
    rw [sIf_t (μ' := By ν0 digs (k + 1)) (by simp [tCmp, eV, vw_d, eBi, evs_cons, evs_nil, eIdx, eOp, eC, vw_by, lift, h])]
    exact sRet_ok (by simp [eOp, eBi, evs_cons, evs_nil, eIdx, eV, eC, vw_d, vw_by, lift, h, hm])
  · refine ⟨((k : Int) * 7 + 3) % m, (key _).1, (key _).2, runB_rt ?_ hlen⟩
    simp only [f_law_draw, List.map_cons, List.map_nil, List.length_cons, List.length_nil, Nat.reduceAdd, Nat.reduceSub, List.replicate_succ, List.replicate_zero, List.cons_append, List.nil_append]
    rw [sq_nx s1, sq_nx s2]
    rw [sq_if_f (μ' := By ν0 digs (k + 1)) (by simp [tCmp, eV, vw_d, eBi, evs_cons, evs_nil, eIdx, eOp, eC, vw_by, lift]; omega)]
    exact sRet_ok (eOp_ok (eBi1_ok (eOp_ok (eOp_ok (eV_at rfl) eC_ok (mulR_r (by decide))) eC_ok rfl) rfl) (eV_at rfl) (modR_ok hm))
def DrawsY (C : Fn) : Prop := ∀ (ν0 : Mem) (digs : List Int) (k m : Nat), 0 < m → ∃ v : Nat, v < m ∧ C "_law_draw" [.p ν0.length, .d (.int m)] (By ν0 digs k) = .ok (.d (.int v)) (By ν0 digs (k + 1))
theorem drawsY (n : Nat) : DrawsY (callN P (n + 1)) := fun ν0 digs k m hm => by
  obtain ⟨v, h0, h1, h2⟩ := draw_specY n ν0 digs k m (by omega)
  exact ⟨v.toNat, by omega, by rw [h2]; congr 3; omega⟩
theorem DrawsY.at {C : Fn} (hC : DrawsY C) (i : Nat) (ν0 : Mem) (digs : List Int) (k m : Nat) {mi : Int} (hm : mi = (m : Int)) (h0 : 0 < m) : ∃ v : Nat, v < m ∧ ∀ ρ : Env, ρ[i]? = some (.v (.p ν0.length)) → eCall C "_law_draw" [eV i, eC (.int mi)] ρ (By ν0 digs k) = .ok (.d (.int v)) (By ν0 digs (k + 1)) := by
  subst hm
  obtain ⟨v, hv, h⟩ := hC ν0 digs k m h0
  exact ⟨v, hv, fun ρ hb => call2 (eV_at hb) eC_ok h⟩
theorem pick_ixY {C : Fn} (hC : DrawsY C) {ρ : Env} {ν0 : Mem} {digs : List Int} {k : Nat} {i j : Nat} {pool : List D} {x : R} (hx : x = .d (.lst pool) ∨ x = .d (.tup pool)) (hb : ρ[i]? = some (.v (.p ν0.length))) (hp : ρ[j]? = some (.v x)) (h0 : 0 < pool.length) :
    ∃ q ∈ pool, eIdx (eV j) (eOp modR (eBi intR [eCall C "_law_draw" [eV i, eC (.int 90)]]) (eBi lenR [eV j])) ρ (By ν0 digs k) = .ok (.d q) (By ν0 digs (k + 1)) := by
  obtain ⟨v, hv, h⟩ := hC.at i ν0 digs k 90 (mi := 90) rfl (by omega)
  have hlt : v % pool.length < pool.length := Nat.mod_lt _ h0
  have hl : eBi lenR [eV j] ρ (By ν0 digs (k + 1)) = .ok (.d (.int (pool.length : Int))) (By ν0 digs (k + 1)) := eBi1_ok (eV_at hp) (by rcases hx with rfl | rfl <;> rfl)
  have hi : eOp modR (eBi intR [eCall C "_law_draw" [eV i, eC (.int 90)]]) (eBi lenR [eV j]) ρ (By ν0 digs k) = .ok (.d (.int ((v % pool.length : Nat) : Int))) (By ν0 digs (k + 1)) :=
    eOp_ok (eBi1_ok (h ρ hb) (z := .d (.int (v : Int))) rfl) hl (by rw [vw_d, vw_d, modR_ok (by omega)]; rfl)
  refine ⟨pool[v % pool.length], List.getElem_mem hlt, ?_⟩
  unfold eIdx
  refine eOp_ok (eV_at hp) hi ?_
  rcases hx with rfl | rfl
  · rw [vw_d, vw_d, idxR_lst, atI_cast, List.getElem?_eq_getElem hlt]; rfl
  · rw [vw_d, vw_d, idxR_tup, atI_cast, List.getElem?_eq_getElem hlt]; rfl
def SmT (T : Ty) : Prop := ∀ name ∈ T.map (·.1), ∃ m ∈ makersOf T name, m.2 = [] ∨ m.2 = ["Int"]
theorem sm5 : ∀ T ∈ ty5, SmT T := fun T h => by
  have key : ∀ T ∈ ty5, ∀ name ∈ T.map (·.1), ∃ m ∈ makersOf T name, m.2 = [] ∨ m.2 = ["Int"] := by decide +kernel
  exact key T h
theorem eqvL_strs : ∀ a b : List String, D.eqvL (a.map .str) (b.map .str) = decide (a = b)
  | [], [] => by simp [D.eqvL]
  | [], _ :: _ => by simp [D.eqvL]
  | _ :: _, [] => by simp [D.eqvL]
  | x :: a, y :: b => by
    rw [List.map_cons, List.map_cons, eqvL_cons, eqv_str, eqvL_strs a b, Bool.eq_iff_iff]
    simp
theorem depL_strs : ∀ a : List String, D.depL (a.map .str) = 0
  | [] => rfl
  | x :: a => by rw [List.map_cons, D.depL, depL_strs a]; rfl
theorem eq_F {a b : E} {ρ : Env} {μ μ1 μ2 : Mem} {x y : List String} (ha : a ρ μ = .ok (.d (encF x)) μ1) (hb : b ρ μ1 = .ok (.d (encF y)) μ2) : tCmp eqR a b ρ μ = .ok (decide (x = y)) μ2 :=
  tCmp_ok ha hb (by rw [vw_d, vw_d, eqR_d, eqD_left (by simp [encF, D.dep, depL_strs, EqDep]), encF, encF, eqv_tup, eqvL_strs])
theorem law_small_spec (n : Nat) {T : Ty} (hS : SmT T) {name : String} (hn : name ∈ T.map (·.1)) (μ : Mem) : ∃ m ∈ makersOf T name, (m.2 = [] ∨ m.2 = ["Int"]) ∧ callN P (n + 2) "_law_small" [.d (encT T), .d (.str name)] μ = .ok (.d (encM m)) μ := by
  rw [callN_run (d := f_law_small) rfl rfl]
  have hmk := makers_spec n T name μ
  generalize callN P (n + 1) = C at hmk ⊢
  have t1 : ∀ (x : Mk) (x0 x1 x2 : Sl), tOr (tCmp eqR (eIdx (eV 3) (eC (.int 1))) (eTup [])) (tCmp eqR (eIdx (eV 3) (eC (.int 1))) (eTup [(eC (.str "Int"))])) [x0, x1, x2, .v (.d (encM x))] μ = .ok (decide (x.2 = []) || decide (x.2 = ["Int"])) μ := fun x x0 x1 x2 =>
    or_sc (eq_F (ixc_ok (ds := [.str x.1, encF x.2]) (eV_at rfl) rfl) (eTup0 (μ := μ))) fun _ => eq_F (ixc_ok (ds := [.str x.1, encF x.2]) (eV_at rfl) rfl) (eTup1 (eC_ok (x := .str "Int")))
  have h := forL_find (t := tgN 3) (b := sIf (tOr (tCmp eqR (eIdx (eV 3) (eC (.int 1))) (eTup [])) (tCmp eqR (eIdx (eV 3) (eC (.int 1))) (eTup [(eC (.str "Int"))]))) (sRet (eV 3)) sNil) (μ := μ) (fun m : Mk => .d (encM m)) (fun m => decide (m.2 = []) || decide (m.2 = ["Int"])) (fun m => .d (encM m))
    (fun ρ => ∃ a, ρ = [.v (.d (encT T)), .v (.d (.str name)), .v (.d (encMs (makersOf T name))), a]) (xs := makersOf T name) (ρ := [.v (.d (encT T)), .v (.d (.str name)), .v (.d (encMs (makersOf T name))), .un]) ⟨_, rfl⟩ (by
      rintro x hx ρ ⟨a, rfl⟩
      refine ⟨[.v (.d (encT T)), .v (.d (.str name)), .v (.d (encMs (makersOf T name))), .v (.d (encM x))], by simp [tgN], ?_⟩
      have := t1 x (.v (.d (encT T))) (.v (.d (.str name))) (.v (.d (encMs (makersOf T name))))
      cases hc : (decide (x.2 = []) || decide (x.2 = ["Int"])) with
      | true => rw [hc] at this; exact .inl ⟨rfl, by rw [sIf_t this]; exact sRet_ok (eV_at rfl)⟩
      | false => rw [hc] at this; exact .inr ⟨rfl, _, ⟨_, rfl⟩, by rw [sIf_f this]; exact sNil_ok⟩)
  have hit : iE (eV 2) [.v (.d (encT T)), .v (.d (.str name)), .v (.d (encMs (makersOf T name))), .un] μ = .ok ((makersOf T name).map fun m => .d (encM m)) μ := by rw [iE_tup (ds := (makersOf T name).map encM) (eV_at rfl), List.map_map]; rfl
  rcases h with ⟨x, h1, h2⟩ | ⟨h1, _⟩
  · have hx := List.find?_some h1
    refine ⟨x, List.mem_of_find?_eq_some h1, by simpa using hx, runB_rt (μ' := μ) ?_ rfl⟩
    simp only [f_law_small, List.map_cons, List.map_nil, List.length_cons, List.length_nil, Nat.reduceAdd, Nat.reduceSub, List.replicate_succ, List.replicate_zero, List.cons_append, List.nil_append]
    rw [sq_as (call2' (eV_at rfl) (eV_at rfl) hmk)]
    simp only [List.set_cons_succ, List.set_cons_zero]
    exact sq_rt (sFor_rt hit h2)
  · obtain ⟨m, hm, hs⟩ := hS name hn
    have := List.find?_eq_none.mp h1 m hm
    simp [hs] at this
theorem Wv.make {T : Ty} {d : Nat} {name : String} {m : Mk} {vs : List Vl} (h0 : name ≠ "Int") (h1 : m ∈ makersOf T name) (h2 : vs.length = m.2.length) (h3 : ∀ (i : Nat) (f : String) (v : Vl), m.2[i]? = some f → vs[i]? = some v → Wv T d f v) : Wv T (d + 1) name (.mk m.1 vs) := by
  simp only [Wv]
  exact ⟨h0, m.2, h1, h2.symm, h3⟩
theorem Wv.of_int {T : Ty} {d : Nat} {i : Int} (h : -99 ≤ i ∧ i ≤ 99) : Wv T d "Int" (.int i) := by cases d <;> simp only [Wv] <;> exact ⟨trivial, h⟩
abbrev vaE (ν0 : Mem) (T : Ty) (name : String) (dep : Nat) (x4 x5 x6 : Sl) : Env := [.v (.p ν0.length), .v (.d (encT T)), .v (.d (.str name)), .v (.d (.int (dep : Int))), x4, x5, x6]
theorem max_dep {e : E} {dep : Nat} {ρ : Env} {μ : Mem} (h : ρ[3]? = some (.v (.d (.int (dep : Int))))) : eBi maxR [(eC (.int 0)), (eOp subR (eV 3) (eC (.int 1)))] ρ μ = .ok (.d (.int ((dep - 1 : Nat) : Int))) μ := by
  refine eBi2_ok eC_ok (eOp_ok (eV_at h) eC_ok rfl) ?_
  rw [vw_d, vw_d]
  show some (R.d (.int (if (dep : Int) - 1 > 0 then (dep : Int) - 1 else 0))) = _
  congr 3
  split <;> omega
theorem value_spec {T : Ty} (g : GoodT T) (hS : SmT T) (ν0 : Mem) (digs : List Int) : ∀ (n dep : Nat) (name : String) (k : Nat), TyNm T name → (if name = "Int" then 2 else dep + 4) ≤ n →
    ∃ (v : Vl) (k' : Nat), Wv T (dep + 1) name v ∧ callN P n "_law_value" [.p ν0.length, .d (encT T), .d (.str name), .d (.int (dep : Int))] (By ν0 digs k) = .ok (.d (encV v)) (By ν0 digs k')
  | 0, dep, name, k, _, h => by split at h <;> omega
  | 1, dep, name, k, _, h => by split at h <;> omega
  | n + 2, dep, name, k, hty, hn => by
    rw [callN_run (d := f_law_value_2) rfl rfl]
    have hC := drawsY n
    have hM := fun name μ => makers_spec n T name μ
    have hSm := fun (h : 2 ≤ n + 1) (hnm : name ∈ T.map (·.1)) (μ : Mem) => law_small_spec (n - 1) hS hnm μ
    have ih := fun (dep : Nat) (name : String) (k : Nat) (hty : TyNm T name) (h : (if name = "Int" then 2 else dep + 4) ≤ n + 1) => value_spec g hS ν0 digs (n + 1) dep name k hty h
    have hlen : ∀ k' : Nat, (By ν0 digs k').length = (By ν0 digs k).length := fun k' => by rw [By_len, By_len]
    have hi : tCmp eqR (eV 2) (eC (.str "Int")) (vaE ν0 T name dep .un .un .un) (By ν0 digs k) = .ok (decide (name = "Int")) (By ν0 digs k) := tCmp_eqs (eV_at rfl) eC_ok
    by_cases hint : name = "Int"
    · generalize callN P (n + 1) = C at hC ⊢
      obtain ⟨v, hv, h1⟩ := hC.at 0 ν0 digs k 15 (mi := 15) rfl (by omega)
      rw [decide_eq_true hint] at hi
      refine ⟨.int ((v : Int) - 7), k + 1, by rw [hint]; exact Wv.of_int (by omega), runB_rt ?_ (hlen _)⟩
      simp only [f_law_value_2, List.map_cons, List.map_nil, List.length_cons, List.length_nil, Nat.reduceAdd, Nat.reduceSub, List.replicate_succ, List.replicate_zero, List.cons_append, List.nil_append]
      refine sq_rt ?_
      rw [sIf_t hi]
      refine sRet_ok ((eTup2 eC_ok (eOp_ok (h1 _ rfl) eC_ok (z := .d (.int ((v : Int) - 7))) rfl)).trans (by rw [encV]))
    · rw [if_neg hint] at hn
      rw [decide_eq_false hint] at hi
      have hnm : name ∈ T.map (·.1) := hty.resolve_left hint
      have hpos := makersOf_pos g hty hint
      have hSm' := fun μ => hSm (by omega) hnm μ
      rw [show n - 1 + 2 = n + 1 by omega] at hSm'
      generalize callN P (n + 1) = C at hC hM ih hSm' ⊢
      obtain ⟨q, hq, hpick⟩ := pick_ixY hC (ρ := vaE ν0 T name dep (.v (.d (encMs (makersOf T name)))) .un .un) (ν0 := ν0) (digs := digs) (k := k) (i := 0) (j := 4) (pool := (makersOf T name).map encM) (.inr rfl) rfl rfl (by rw [List.length_map]; exact List.length_pos_iff.mpr hpos)
      obtain ⟨m0, hm0, rfl⟩ := List.mem_map.mp hq
      have hz : tCmp eqR (eV 3) (eC (.int 0)) (vaE ν0 T name dep (.v (.d (encMs (makersOf T name)))) (.v (.d (encM m0))) .un) (By ν0 digs (k + 1)) = .ok (decide (dep = 0)) (By ν0 digs (k + 1)) := eq_c 0 (yi := 0) rfl (eV_at rfl)
      obtain ⟨m, hm, hfs, hstep⟩ : ∃ m ∈ makersOf T name, (∀ f ∈ m.2, (if f = "Int" then 2 else dep - 1 + 4) ≤ n + 1) ∧ sIf (tCmp eqR (eV 3) (eC (.int 0))) (sAs (tgN 5) (eCall C "_law_small" [(eV 1), (eV 2)])) sNil (vaE ν0 T name dep (.v (.d (encMs (makersOf T name)))) (.v (.d (encM m0))) .un) (By ν0 digs (k + 1)) =
          .ok (.nx (vaE ν0 T name dep (.v (.d (encMs (makersOf T name)))) (.v (.d (encM m))) .un)) (By ν0 digs (k + 1)) := by
        by_cases hd : dep = 0
        · obtain ⟨m, hm, hsm, e⟩ := hSm' (By ν0 digs (k + 1))
          refine ⟨m, hm, fun f hf => ?_, ?_⟩
          · rcases hsm with h | h
            · rw [h] at hf; cases hf
            · rw [h] at hf
              rw [if_pos (List.mem_singleton.mp hf)]; omega
          · rw [decide_eq_true hd] at hz
            rw [sIf_t hz, sAs_ok (call2' (eV_at rfl) (eV_at rfl) e)]
            rfl
        · refine ⟨m0, hm0, fun f _ => by split <;> omega, ?_⟩
          rw [decide_eq_false hd] at hz
          rw [sIf_f hz, sNil_ok]
      obtain ⟨_, hm2, hmf, _⟩ := maker_fields g hm
      obtain ⟨vs, μ', e1, e2, ⟨k', rfl⟩, e4⟩ := comp_draw (t := tgN 6) (elt := eCall C "_law_value" [(eV 0), (eV 1), (eV 6), (eBi maxR [(eC (.int 0)), (eOp subR (eV 3) (eC (.int 1)))])]) (ρw := vaE ν0 T name dep (.v (.d (encMs (makersOf T name)))) (.v (.d (encM m))) .un)
        (fun f : String => R.d (.str f)) encV (fun f v => Wv T dep f v) m.2 (fun _ μ => ∃ k', μ = By ν0 digs k') (By ν0 digs (k + 1)) (by
          rintro i f μ hf ⟨k2, rfl⟩
          have hfm := List.mem_of_getElem? hf
          obtain ⟨v, k3, hv, e⟩ := ih (dep - 1) f k2 (hmf f hfm) (hfs f hfm)
          refine ⟨vaE ν0 T name dep (.v (.d (encMs (makersOf T name)))) (.v (.d (encM m))) (.v (.d (.str f))), by simp only [tgN, vaE, List.set_cons_succ, List.set_cons_zero], v, By ν0 digs k3, ?_, ⟨k3, rfl⟩, call4 (eV_at rfl) (eV_at rfl) (eV_at rfl) (max_dep (e := eC .non) rfl) e⟩
          by_cases hd : dep = 0
          · subst hd
            have h2 := hfs f hfm
            have hfi : f = "Int" := by
              obtain ⟨m', hm', hsm, e'⟩ := hSm' (By ν0 digs (k + 1))
              rw [decide_eq_true rfl] at hz
              rw [sIf_t hz, sAs_ok (call2' (eV_at rfl) (eV_at rfl) e')] at hstep
              simp only [vaE, List.set_cons_succ, List.set_cons_zero] at hstep
              injection hstep with hs1 hs2
              injection hs1 with hs1
              simp only [List.cons.injEq, Sl.v.injEq, R.d.injEq, and_true, true_and] at hs1
              have hsame : m'.2 = m.2 := by
                have := hs1
                simp only [encM, encF, D.tup.injEq, List.cons.injEq, and_true] at this
                exact List.map_inj_right (f := D.str) (fun _ _ h => D.str.inj h) |>.mp this.2
              rcases hsm with h | h
              · rw [← hsame, h] at hfm; cases hfm
              · rw [← hsame, h] at hfm; exact List.mem_singleton.mp hfm
            subst hfi
            cases v with
            | int i => exact Wv.of_int (by have := hv.int; omega)
            | mk c vs => obtain ⟨_, _, hne, _⟩ := hv.mk; exact absurd rfl hne
          · rw [show dep - 1 + 1 = dep by omega] at hv
            exact hv) ⟨_, rfl⟩
      refine ⟨.mk m.1 vs, k', Wv.make hint hm e1 e2, runB_rt ?_ (hlen _)⟩
      simp only [f_law_value_2, List.map_cons, List.map_nil, List.length_cons, List.length_nil, Nat.reduceAdd, Nat.reduceSub, List.replicate_succ, List.replicate_zero, List.cons_append, List.nil_append]
      rw [sq_if_f hi, sq_as (call2 (eV_at rfl) (eV_at rfl) (hM _ _))]
      simp only [List.set_cons_succ, List.set_cons_zero]
      rw [sq_as hpick]
      simp only [List.set_cons_succ, List.set_cons_zero]
      rw [sq_nx hstep]
      refine sRet_ok ((eTup3 eC_ok (ixc_ok (ds := [.str m.1, encF m.2]) (eV_at rfl) rfl) (eBi1_ok (μ1 := By ν0 digs k') (x := .d (.lst (encVs vs))) ?_ (by rw [vw_d, tupleR_lst]))).trans (by rw [encV]))
      rw [eComp_ok (iE_tup (ds := m.2.map .str) (ixc_ok (ds := [.str m.1, encF m.2]) (i := 1) (eV_at rfl) rfl)) (by simp only [wipeE, vaE, List.set_cons_succ, List.set_cons_zero]; rw [List.map_map]; exact e4) (by rw [List.length_map]; omega), mkL_map, encVs_map]
theorem Wv.up {T : Ty} : ∀ {d d2 : Nat} {name : String} {v : Vl}, d ≤ d2 → Wv T d name v → Wv T d2 name v
  | d, d2, name, .int i, _, h => by obtain ⟨rfl, h2⟩ := h.int; exact Wv.of_int h2
  | d, d2, name, .mk c vs, hd, h => by
    obtain ⟨d', rfl, h0, fs, h1, h2, h3⟩ := h.mk
    obtain ⟨d2', rfl⟩ : ∃ d2', d2 = d2' + 1 := ⟨d2 - 1, by omega⟩
    simp only [Wv]
    exact ⟨h0, fs, h1, h2, fun i f v a b => (h3 i f v a b).up (by omega)⟩
termination_by d => d
theorem values_spec {T : Ty} (g : GoodT T) (hS : SmT T) (ν0 : Mem) (digs : List Int) {ns : List String} (h3 : ns.length ≤ 100) (hns : ∀ x ∈ ns, TyNm T x) (n k : Nat) : ∃ (vs : List Vl) (k' : Nat), WV T 4 ns vs ∧ callN P (n + 9) "_law_values" [.p ν0.length, .d (encT T), .d (encF ns)] (By ν0 digs k) = .ok (.d (.tup (encVs vs))) (By ν0 digs k') := by
  rw [callN_run (d := f_law_values) rfl rfl]
  have hC := drawsY (n + 7)
  have hv := fun (dep : Nat) (hd : dep ≤ 3) (name : String) (k : Nat) (hty : TyNm T name) => value_spec g hS ν0 digs (n + 8) dep name k hty (by split <;> omega)
  generalize callN P (n + 8) = C at hC hv ⊢
  obtain ⟨vs, μ', e1, e2, ⟨k', rfl⟩, e4⟩ := comp_draw (t := tgN 3) (elt := eCall C "_law_value" [(eV 0), (eV 1), (eV 3), (eCall C "_law_draw" [(eV 0), (eC (.int 4))])]) (ρw := [.v (.p ν0.length), .v (.d (encT T)), .v (.d (encF ns)), .un])
    (fun f : String => R.d (.str f)) encV (fun f v => Wv T 4 f v) ns (fun _ μ => ∃ k', μ = By ν0 digs k') (By ν0 digs k) (by
      rintro i f μ hf ⟨k2, rfl⟩
      obtain ⟨u, hu, hd⟩ := hC.at 0 ν0 digs k2 4 (mi := 4) rfl (by omega)
      obtain ⟨v, k3, hw, e⟩ := hv u (by omega) f (k2 + 1) (hns f (List.mem_of_getElem? hf))
      exact ⟨[.v (.p ν0.length), .v (.d (encT T)), .v (.d (encF ns)), .v (.d (.str f))], by simp only [tgN, List.set_cons_succ, List.set_cons_zero], v, By ν0 digs k3, hw.up (by omega), ⟨k3, rfl⟩, call4 (eV_at rfl) (eV_at rfl) (eV_at rfl) (hd _ rfl) e⟩) ⟨_, rfl⟩
  refine ⟨vs, k', ⟨e1, e2⟩, runB_rt ?_ (by rw [By_len, By_len])⟩
  simp only [f_law_values, List.map_cons, List.map_nil, List.length_cons, List.length_nil, Nat.reduceAdd, Nat.reduceSub, List.replicate_succ, List.replicate_zero, List.cons_append, List.nil_append]
  refine sRet_ok (eBi1_ok (x := .d (.lst (encVs vs))) ?_ (by rw [vw_d, tupleR_lst]))
  rw [eComp_ok (iE_tup (ds := ns.map .str) (eV_at rfl)) (by simp only [wipeE, List.set_cons_succ, List.set_cons_zero]; rw [List.map_map]; exact e4) (by rw [List.length_map]; omega), mkL_map, encVs_map]
end K20
end

section
set_option maxHeartbeats 0
set_option linter.all false
set_option maxRecDepth 100000
namespace K20
open Ev
theorem Wp.make {T : Ty} {d : Nat} {name c : String} {fs : List String} {ps : List Pt} (h0 : name ≠ "Int") (h1 : (c, fs) ∈ makersOf T name) (h2 : ps.length = fs.length) (h3 : ∀ (i : Nat) (f : String) (p : Pt), fs[i]? = some f → ps[i]? = some p → Wp T d f p) : Wp T (d + 1) name (.mk c ps) := by
  simp only [Wp]
  exact ⟨h0, fs, h1, h2.symm, h3⟩
end K20
end

section
set_option maxHeartbeats 0
set_option linter.all false
set_option maxRecDepth 100000
namespace K20
open Ev
end K20
end

section
set_option maxHeartbeats 0
set_option linter.all false
set_option maxRecDepth 100000
namespace K20
open Ev
end K20
end

section
set_option maxHeartbeats 0
set_option linter.all false
set_option maxRecDepth 100000
namespace K20
open Ev
abbrev Dc := Nat × Option String × List B1
structure Cs where
  rs : List Rg
  kp : D
  ds : List Dc
  op : Bool
def lastIs (ds : List Dc) (k : Nat) : Bool := match ds.getLast? with
  | none => false
  | some d => decide (d.1 = k)
def hereC (k : Nat) (s : List Rg) (c : Cs) : Option (List Rg) := if c.op && !(lastIs c.ds k) then cutL c.rs s else none
def stepC (T : Ty) (ns : List String) (k : Nat) (g : Option String) (s : List Rg) (bs : List B1) (c : Cs) : List Cs := match hereC k s c with
  | none => [c]
  | some x => ⟨x, c.kp, c.ds ++ [(k, g, bs)], g.isSome⟩ :: (restL T ns c.rs s).map fun r => ⟨r, c.kp, c.ds, true⟩
def BsOk (bs : List B1) : Prop := (∀ b ∈ bs, b.1.length ≤ 8 ∧ b.2.length ≤ 12 ∧ ∀ x ∈ b.2, x.natAbs ≤ 1000) ∧ bs.length ≤ 12
structure DcOk (d : Dc) : Prop where
  k : d.1 ≤ 100
  g : d.2.1 = none ∨ d.2.1 = some "g" ∨ d.2.1 = some "odd"
  b : BsOk d.2.2
structure CsOk (T : Ty) (ns : List String) (k : Nat) (c : Cs) : Prop where
  wl : WL true T 3 ns c.rs
  dc : ∀ d ∈ c.ds, DcOk d
  len : c.ds.length ≤ k + (if lastIs c.ds k then 1 else 0)
def AltOk (T : Ty) (ns : List String) (r : List Rg × List B1) : Prop := WL false T 3 ns r.1 ∧ BsOk r.2
theorem lastIs_app (ds : List Dc) (d : Dc) (k : Nat) : lastIs (ds ++ [d]) k = decide (d.1 = k) := by
  unfold lastIs
  rw [List.getLast?_append]
  rfl
section
variable {T : Ty} (gT : GoodT T) {ns : List String}
include gT
theorem WL.al {ps qs : List Rg} (h1 : WL true T 3 ns ps) (h2 : WL false T 3 ns qs) : AlL ps qs := by
  have l1 := h1.len
  have l2 := h2.len
  refine AlL_get (by omega) fun i p q hp hq => ?_
  have hil := (List.getElem?_eq_some_iff.mp hp).1
  exact (h1.get (n := ns[i]'(by omega)) (List.getElem?_eq_getElem (by omega)) hp).al gT (h2.get (List.getElem?_eq_getElem (by omega)) hq)
theorem WL.rt {ps qs : List Rg} (h1 : WL true T 3 ns ps) (h2 : WL false T 3 ns qs) : RTL T ns ps qs := by
  have l1 := h1.len
  have l2 := h2.len
  refine RTL_get (by omega) (by omega) fun i n p q hn hp hq => ⟨(h1.get hn hp).rt gT (h2.get hn hq), (h1.get hn hp).al gT (h2.get hn hq)⟩
theorem cutL_wl {d : Nat} {ps qs xs : List Rg} (h1 : WL true T d ns ps) (h2 : WL false T d ns qs) (h : cutL ps qs = some xs) : WL true T d ns xs := by
  obtain ⟨e1, e2, e3⟩ := cutL_iff.mp h
  have l1 := h1.len
  have l2 := h2.len
  refine WL_of (by omega) fun i n x hn hx => ?_
  have hil := (List.getElem?_eq_some_iff.mp hx).1
  have hp : ps[i]? = some (ps[i]'(by omega)) := List.getElem?_eq_getElem _
  have hq : qs[i]? = some (qs[i]'(by omega)) := List.getElem?_eq_getElem _
  exact cut_wr gT (h1.get hn hp) (h2.get hn hq) (e3 i _ _ _ hp hq hx)
theorem restL_wl {d : Nat} {ps qs : List Rg} (h1 : WL true T d ns ps) (h2 : WL false T d ns qs) : ∀ row ∈ restL T ns ps qs, WL true T d ns row := fun row hr => by
  unfold restL at hr
  cases hc : cutL ps qs with
  | none => rw [hc] at hr; rw [List.mem_singleton.mp hr]; exact h1
  | some cs =>
    rw [hc] at hr
    exact ((rest_part_n gT (sizeOf qs + 1)).2 d ns ps qs cs [] [] [] (Nat.lt_succ_self _) h1 h2 hc trivial rfl row hr).1
theorem stepC_ok {k : Nat} {gd : Option String} {r : List Rg × List B1} {c : Cs} (hk : k ≤ 100) (hg : gd = none ∨ gd = some "g" ∨ gd = some "odd") (ha : AltOk T ns r) (hc : CsOk T ns k c) : ∀ c' ∈ stepC T ns k gd r.1 r.2 c, CsOk T ns k c' := fun c' hm => by
  unfold stepC at hm
  cases hh : hereC k r.1 c with
  | none => rw [hh] at hm; rw [List.mem_singleton.mp hm]; exact hc
  | some x =>
    rw [hh] at hm
    unfold hereC at hh
    cases ho : c.op && !(lastIs c.ds k) with
    | false => rw [ho] at hh; simp at hh
    | true =>
      rw [ho, if_pos rfl] at hh
      have hlast : lastIs c.ds k = false := by simp at ho; exact ho.2
      rcases List.mem_cons.mp hm with rfl | hm
      · refine ⟨cutL_wl gT hc.wl ha.1 hh, fun d hd => ?_, ?_⟩
        · rcases List.mem_append.mp hd with hd | hd
          · exact hc.dc d hd
          · rw [List.mem_singleton.mp hd]; exact ⟨hk, hg, ha.2⟩
        · have := hc.len
          rw [hlast] at this
          show (c.ds ++ [(k, gd, r.2)]).length ≤ k + if lastIs (c.ds ++ [(k, gd, r.2)]) k = true then 1 else 0
          rw [lastIs_app, List.length_append]
          simp at this ⊢
          exact this
      · obtain ⟨row, hrow, rfl⟩ := List.mem_map.mp hm
        exact ⟨restL_wl gT hc.wl ha.1 row hrow, hc.dc, hc.len⟩
end
structure St where
  cs : List Cs
  dead : List (Nat × Nat)
  fst : List (Nat × Nat × Option (List Rg))
def passA (T : Ty) (ns : List String) (k : Nat) (g : Option String) (r : List Rg × List B1) (cs : List Cs) : List Cs := cs.flatMap (stepC T ns k g r.1 r.2)
def hitA (k : Nat) (s : List Rg) (cs : List Cs) : Bool := cs.any fun c => (hereC k s c).isSome
def firstA (k : Nat) (s : List Rg) (cs : List Cs) : Option (List Rg) := cs.findSome? (hereC k s)
def stepS (T : Ty) (ns : List String) (k : Nat) (g : Option String) (j : Nat) (r : List Rg × List B1) (st : St) : Option St :=
  if 150 < (passA T ns k g r st.cs).length then none
  else some ⟨passA T ns k g r st.cs, if hitA k r.1 st.cs then st.dead else st.dead ++ [(k, j)], st.fst ++ [(k, j, firstA k r.1 st.cs)]⟩
def StOk (T : Ty) (ns : List String) (k : Nat) (st : St) : Prop := (∀ c ∈ st.cs, CsOk T ns k c) ∧ st.cs.length ≤ 150
theorem StOk.step {T : Ty} (gT : GoodT T) {ns : List String} {k j : Nat} {gd : Option String} {r : List Rg × List B1} {st st' : St} (hk : k ≤ 100) (hg : gd = none ∨ gd = some "g" ∨ gd = some "odd") (ha : AltOk T ns r) (h : StOk T ns k st) (e : stepS T ns k gd j r st = some st') : StOk T ns k st' := by
  unfold stepS at e
  split at e
  · cases e
  · rename_i hl
    cases e
    refine ⟨fun c hc => ?_, by show (passA T ns k gd r st.cs).length ≤ 150; omega⟩
    obtain ⟨c0, h0, h1⟩ := List.mem_flatMap.mp hc
    exact stepC_ok gT hk hg ha (h.1 c0 h0) c h1
theorem StOk.up {T : Ty} {ns : List String} {k : Nat} {st : St} (h : StOk T ns k st) : StOk T ns (k + 1) st := ⟨fun c hc => ⟨(h.1 c hc).wl, (h.1 c hc).dc, by
  have := (h.1 c hc).len
  have : (if lastIs c.ds k then 1 else 0) ≤ 1 := by split <;> omega
  omega⟩, h.2⟩
end K20
end

section
set_option maxHeartbeats 0
set_option linter.all false
set_option maxRecDepth 100000
namespace K20
open Ev
end K20
end

section
set_option maxHeartbeats 0
set_option linter.all false
set_option maxRecDepth 100000
namespace K20
open Ev
def start (ns : List String) : List Cs := [⟨ns.map fun _ => .any, .tup [], [], true⟩]
end K20
end

section
set_option maxHeartbeats 0
set_option linter.all false
set_option maxRecDepth 100000
namespace K20
open Ev
end K20
end

section
set_option maxHeartbeats 0
set_option linter.all false
set_option maxRecDepth 100000
namespace K20
open Ev
end K20
end

section
set_option maxHeartbeats 0
set_option linter.all false
set_option maxRecDepth 100000
namespace K20
open Ev
def inC (vs : List Vl) (c : Cs) : Bool := hdL c.rs vs
section
variable {T : Ty} (gT : GoodT T) {ns : List String} {vs : List Vl} {d3 : Nat} (hv : WV T d3 ns vs)
include gT hv
end
end K20
end

section
set_option maxHeartbeats 0
set_option linter.all false
set_option maxRecDepth 100000
namespace K20
open Ev
def Holds (T : Ty) (ns : List String) (st : St) (O : List Vl → List Dc × Bool) : Prop := ∀ (d3 : Nat) (vs : List Vl), WV T d3 ns vs → ∃ c, st.cs.filter (inC vs) = [c] ∧ (c.ds, c.op) = O vs
section
variable {T : Ty} (gT : GoodT T) {ns : List String}
include gT
end
end K20
end

section
set_option maxHeartbeats 0
set_option linter.all false
set_option maxRecDepth 100000
namespace K20
open Ev
def valAt (vs : List Vl) : List Int → Vl
  | [] => .int 0
  | i :: r => ((vs[i.toNat]?).bind fun v => vAt v (r.map Int.toNat)).getD (.int 0)
def PathOk (T : Ty) (d3 : Nat) (vs : List Vl) (path : List Int) : Prop := ∃ (i : Nat) (rr : List Nat) (v w : Vl) (f : String), path = (i : Int) :: rr.map (fun (n : Nat) => (n : Int)) ∧ vs[i]? = some v ∧ vAt v rr = some w ∧ Wv T d3 f w
theorem valAt_ok {vs : List Vl} {i : Nat} {rr : List Nat} {v w : Vl} (h1 : vs[i]? = some v) (h2 : vAt v rr = some w) : valAt vs ((i : Int) :: rr.map fun (n : Nat) => (n : Int)) = w := by
  have : (rr.map fun (n : Nat) => (n : Int)).map Int.toNat = rr := by
    rw [List.map_map]
    have : (Int.toNat ∘ fun (n : Nat) => (n : Int)) = id := by funext n; simp
    rw [this, List.map_id]
  show (((vs[(i : Int).toNat]?).bind fun v => vAt v ((rr.map fun (n : Nat) => (n : Int)).map Int.toNat)).getD (.int 0)) = w
  rw [this, Int.toNat_natCast, h1, Option.bind_some, h2]
  rfl
theorem law_at_spec (n : Nat) {T : Ty} {d3 : Nat} {vs : List Vl} {path : List Int} (h : PathOk T d3 vs path) (μ : Mem) : callN P (n + 1) "_law_at" [.d (.tup (encVs vs)), .d (encPath path)] μ = .ok (.d (encV (valAt vs path))) μ := by
  rw [callN_run (d := f_law_at_2) rfl rfl]
  generalize callN P n = C
  obtain ⟨i, r, v, w, f, rfl, h1, h2, _⟩ := h
  rw [valAt_ok h1 h2]
  refine runB_rt (μ' := μ) ?_ rfl
  simp only [f_law_at_2, List.map_cons, List.map_nil, List.length_cons, List.length_nil, Nat.reduceAdd, Nat.reduceSub, List.replicate_succ, List.replicate_zero, List.cons_append, List.nil_append]
  have e0 : eIdx (eV 0) (eIdx (eV 1) (eC (.int 0))) [.v (.d (.tup (encVs vs))), .v (.d (encPath ((i : Int) :: r.map fun (n : Nat) => (n : Int)))), .un, .un] μ = .ok (.d (encV v)) μ :=
    ix_ok (eV_at rfl) (ixc_ok (ds := (i : Int) :: r.map (fun (n : Nat) => (n : Int)) |>.map D.int) (eV_at (by simp [encPath])) (x := .int (i : Int)) (by simp)) (encVs_get h1)
  rw [sq_as e0]
  simp only [List.set_cons_succ, List.set_cons_zero]
  obtain ⟨x3', hl⟩ := at_loop (x0 := .v (.d (.tup (encVs vs)))) (x1 := .v (.d (encPath ((i : Int) :: r.map fun (n : Nat) => (n : Int))))) (μ := μ) r v w .un h2
  have e1 : eSlc (eV 1) (oE (eC (.int 1))) oN [.v (.d (.tup (encVs vs))), .v (.d (encPath ((i : Int) :: r.map fun (n : Nat) => (n : Int)))), .v (.d (encV v)), .un] μ = .ok (.d (.tup ((r.map fun (n : Nat) => (n : Int)).map .int))) μ := by
    unfold eSlc
    rw [eV_at rfl, bind_ok]
    have : oE (eC (.int 1)) [.v (.d (.tup (encVs vs))), .v (.d (encPath ((i : Int) :: r.map fun (n : Nat) => (n : Int)))), .v (.d (encV v)), .un] μ = .ok (some ((1 : Nat) : Int)) μ := by unfold oE; rw [eC_ok]; rfl
    rw [this, bind_ok]
    have : oN [.v (.d (.tup (encVs vs))), .v (.d (encPath ((i : Int) :: r.map fun (n : Nat) => (n : Int)))), .v (.d (encV v)), .un] μ = .ok none μ := by unfold oN; rfl
    rw [this, bind_ok, vw_d, encPath, slcR_tup, cut_drop]
    simp
  rw [sq_nx (sFor_rt (iE_tup e1) (by rw [List.map_map, List.map_map]; exact hl))]
  exact sRet_ok (eV_at rfl)
def encBd (vs : List Vl) (l : List B1) : D := .tup ((srt l).map fun b => .tup [.str b.1, encV (valAt vs b.2)])
theorem law_bound_spec (n : Nat) {T : Ty} {d3 : Nat} {vs : List Vl} {l : List B1} (hl : l.length ≤ 1000) (h : ∀ b ∈ l, PathOk T d3 vs b.2) (μ : Mem) : callN P (n + 2) "_law_bound" [.d (encLB l), .d (.tup (encVs vs))] μ = .ok (.d (encBd vs l)) μ := by
  rw [callN_run (d := f_law_bound) rfl rfl]
  have hat := fun (path : List Int) (h : PathOk T d3 vs path) => law_at_spec n h μ
  generalize callN P (n + 1) = C at hat ⊢
  refine runB_rt (μ' := μ) ?_ rfl
  simp only [f_law_bound, List.map_cons, List.map_nil, List.length_cons, List.length_nil, Nat.reduceAdd, Nat.reduceSub, List.replicate_succ, List.replicate_zero, List.cons_append, List.nil_append]
  have hc := compL_each (t := tgT [(tgN 2), (tgN 3)]) (e := eTup [(eV 2), (eCall C "_law_at" [(eV 1), (eV 3)])]) (ρ := [.v (.d (encLB l)), .v (.d (.tup (encVs vs))), .un, .un]) (μ := μ) (fun b : B1 => R.d (encB1 b)) (fun b => R.d (.tup [.str b.1, encV (valAt vs b.2)])) (xs := srt l) fun b hb =>
    ⟨[.v (.d (encLB l)), .v (.d (.tup (encVs vs))), .v (.d (.str b.1)), .v (.d (encPath b.2))], by simp only [encB1, encPath, tgT, tgs, tgN, List.map_cons, List.map_nil, Option.bind_some, List.set_cons_succ, List.set_cons_zero], eTup2 (eV_at rfl) (call2' (eV_at rfl) (eV_at rfl) (hat b.2 (h b (srt_mem.mp hb))))⟩
  refine sRet_ok (eBi1_ok (x := .d (.lst ((srt l).map fun b => .tup [.str b.1, encV (valAt vs b.2)]))) (μ1 := μ) ?_ (by rw [vw_d, tupleR_lst]; rfl))
  rw [eComp_ok (iE_lst (ds := (srt l).map encB1) (eBi1_ok (x := .d (encLB l)) (eV_at rfl) (by rw [vw_d]; exact sort_ok (by omega)))) (by simp only [wipeE, List.set_cons_succ, List.set_cons_zero]; rw [List.map_map]; exact hc) (by rw [List.length_map, srt_len]; omega), mkL_map (fun b : B1 => D.tup [.str b.1, encV (valAt vs b.2)])]
abbrev Qn := Nat × List B1
def encQ (vs : List Vl) (q : Qn) : D := .tup [.int (q.1 : Int), encBd vs q.2]
def encTk (vs : List Vl) : Option Qn → D
  | none => .non
  | some q => encQ vs q
def encTr (vs : List Vl) (o : Option Qn × List Qn) : D := .tup [encTk vs o.1, .tup (o.2.map (encQ vs))]
section
variable {T : Ty} (gT : GoodT T) {ns : List String} {vs : List Vl} {d3 : Nat} (hv : WV T d3 ns vs)
include gT hv
end
end K20
end

section
set_option maxHeartbeats 0
set_option linter.all false
set_option maxRecDepth 100000
namespace K20
open Ev
def F5 (T : Ty) : Hf := fun x => if x = "Int" then some 0 else if x ∈ T.map (·.1) then some 1 else none
section
variable {T : Ty} (gT : GoodT T) (M : Mins T (F5 T))
include gT M
end
theorem range0 (n : Nat) : rangeF 0 n = (List.range n).map fun (i : Nat) => R.d (.int (i : Int)) := by rw [rng_map]; simp
end K20
end

section
set_option maxHeartbeats 0
set_option linter.all false
set_option maxRecDepth 100000
namespace K20
open Ev
section
variable {T : Ty} (gT : GoodT T) (M : Mins T (F5 T))
include gT M
end
section
variable {T : Ty} (gT : GoodT T) {ns : List String} (h3 : ns.length ≤ 100) {d3 : Nat} {vs : List Vl} (hv : WV T d3 ns vs)
include gT h3 hv
end
end K20
end

section
set_option maxHeartbeats 0
set_option linter.all false
set_option maxRecDepth 100000
namespace K20
open Ev
def aIns (vs : List Vl) (ans : List Bool) (m : Nat) : Cell := .ins "Asking" [("given", .d (.tup (encVs vs))), ("answers", .d (.tup (ans.map .bl))), ("questions", .p m)]
def Aq (μ0 : Mem) (vs : List Vl) (ans : List Bool) (qs : List Qn) : Mem := μ0 ++ [aIns vs ans (μ0.length + 1), .lst (qs.map (encQ vs))]
section
variable {μ0 : Mem} {vs : List Vl} {ans : List Bool} {qs : List Qn}
theorem Aq_len : (Aq μ0 vs ans qs).length = μ0.length + 2 := by simp [Aq]
theorem Aq_ins : (Aq μ0 vs ans qs)[μ0.length]? = some (aIns vs ans (μ0.length + 1)) := by
  unfold Aq
  rw [List.getElem?_append_right (Nat.le_refl _), Nat.sub_self]
  rfl
theorem Aq_lst : (Aq μ0 vs ans qs)[μ0.length + 1]? = some (.lst (qs.map (encQ vs))) := by
  unfold Aq
  rw [List.getElem?_append_right (by omega), show μ0.length + 1 - μ0.length = 1 by omega]
  rfl
theorem Aq_set (q : Qn) : (Aq μ0 vs ans qs).set (μ0.length + 1) (.lst (qs.map (encQ vs) ++ [encQ vs q])) = Aq μ0 vs ans (qs ++ [q]) := by
  unfold Aq
  rw [List.set_append_right _ _ (by omega), show μ0.length + 1 - μ0.length = 1 by omega, List.map_append]
  rfl
theorem fld_given {ρ : Env} (h : ρ[0]? = some (.v (.p μ0.length))) : eFld "Asking" (eV 0) "given" ρ (Aq μ0 vs ans qs) = .ok (.d (.tup (encVs vs))) (Aq μ0 vs ans qs) := eFld_ok (eV_at h) Aq_ins rfl
theorem fld_answers {ρ : Env} (h : ρ[0]? = some (.v (.p μ0.length))) : eFld "Asking" (eV 0) "answers" ρ (Aq μ0 vs ans qs) = .ok (.d (.tup (ans.map .bl))) (Aq μ0 vs ans qs) := eFld_ok (eV_at h) Aq_ins rfl
theorem fld_questions {ρ : Env} (h : ρ[0]? = some (.v (.p μ0.length))) : eFld "Asking" (eV 0) "questions" ρ (Aq μ0 vs ans qs) = .ok (.p (μ0.length + 1)) (Aq μ0 vs ans qs) := eFld_ok (eV_at h) Aq_ins rfl
theorem tup_questions {ρ : Env} (h : ρ[0]? = some (.v (.p μ0.length))) : eBi tupleR [(eFld "Asking" (eV 0) "questions")] ρ (Aq μ0 vs ans qs) = .ok (.d (.tup (qs.map (encQ vs)))) (Aq μ0 vs ans qs) :=
  eBi1_ok (fld_questions h) (by rw [vw_lst Aq_lst, tupleR_lst])
end
theorem bound_spec (n : Nat) {T : Ty} {d3 : Nat} {μ0 : Mem} {vs : List Vl} {ans : List Bool} {qs : List Qn} {l : List B1} (hl : l.length ≤ 1000) (h : ∀ b ∈ l, PathOk T d3 vs b.2) :
    callN P (n + 2) "Asking.bound" [.p μ0.length, .d (encBs (srt l))] (Aq μ0 vs ans qs) = .ok (.d (encBd vs l)) (Aq μ0 vs ans qs) := by
  rw [callN_run (d := f_Asking_bound) rfl rfl]
  have hat : ∀ path, PathOk T d3 vs path → callN P (n + 1) "value_at" [.d (.tup (encVs vs)), .d (encPath path)] (Aq μ0 vs ans qs) = .ok (.d (encV (valAt vs path))) (Aq μ0 vs ans qs) := fun path hp => by
    obtain ⟨i, r, v, w, f, rfl, h1, h2, _⟩ := hp
    rw [valAt_ok h1 h2]
    exact value_at_spec n vs i r v w _ h1 h2
  generalize callN P (n + 1) = C at hat ⊢
  refine runB_rt ?_ rfl
  simp only [f_Asking_bound, List.map_cons, List.map_nil, List.length_cons, List.length_nil, Nat.reduceAdd, Nat.reduceSub, List.replicate_succ, List.replicate_zero, List.cons_append, List.nil_append]
  have hc := compL_each (t := tgT [(tgN 2), (tgN 3)]) (e := eTup [(eV 2), (eCall C "value_at" [(eFld "Asking" (eV 0) "given"), (eV 3)])]) (ρ := [.v (.p μ0.length), .v (.d (encBs (srt l))), .un, .un]) (μ := Aq μ0 vs ans qs) (fun b : B1 => R.d (encB1 b)) (fun b => R.d (.tup [.str b.1, encV (valAt vs b.2)])) (xs := srt l) fun b hb =>
    ⟨[.v (.p μ0.length), .v (.d (encBs (srt l))), .v (.d (.str b.1)), .v (.d (encPath b.2))], by simp only [encB1, encPath, tgT, tgs, tgN, List.map_cons, List.map_nil, Option.bind_some, List.set_cons_succ, List.set_cons_zero], eTup2 (eV_at rfl) (call2' (fld_given rfl) (eV_at rfl) (hat b.2 (h b (srt_mem.mp hb))))⟩
  refine sRet_ok (eBi1_ok (x := .d (.lst ((srt l).map fun b => .tup [.str b.1, encV (valAt vs b.2)]))) (μ1 := Aq μ0 vs ans qs) ?_ (by rw [vw_d, tupleR_lst]; rfl))
  rw [eComp_ok (iE_tup (ds := (srt l).map encB1) (eV_at rfl)) (by simp only [wipeE, List.set_cons_succ, List.set_cons_zero]; rw [List.map_map]; exact hc) (by rw [List.length_map, srt_len]; omega), mkL_map (fun b : B1 => D.tup [.str b.1, encV (valAt vs b.2)])]
theorem taken_spec (n : Nat) {T : Ty} {d3 : Nat} {μ0 : Mem} {vs : List Vl} {ans : List Bool} {qs : List Qn} {l : List B1} {k : Nat} (hl : l.length ≤ 1000) (h : ∀ b ∈ l, PathOk T d3 vs b.2) :
    callN P (n + 3) "Asking.taken" [.p μ0.length, .d (.int (k : Int)), .d (encBs (srt l))] (Aq μ0 vs ans qs) = .ok (.d (encTr vs (some (k, l), qs))) (Aq μ0 vs ans qs) := by
  rw [callN_run (d := f_Asking_taken) rfl rfl]
  have hb := bound_spec n (μ0 := μ0) (ans := ans) (qs := qs) hl h
  generalize callN P (n + 2) = C at hb ⊢
  refine runB_rt ?_ rfl
  simp only [f_Asking_taken, List.map_cons, List.map_nil, List.length_cons, List.length_nil, Nat.reduceAdd, Nat.reduceSub, List.replicate_succ, List.replicate_zero, List.cons_append, List.nil_append]
  exact sRet_ok (eTup2 (eTup2 (eV_at rfl) (eMeth_ok (eV_at rfl) Aq_ins rfl (by rw [evs_cons, eV_at (r := .d (encBs (srt l))) rfl, bind_ok, evs_nil, bind_ok]) hb)) (tup_questions rfl))
theorem failed_spec (n : Nat) {μ0 : Mem} {vs : List Vl} {ans : List Bool} {qs : List Qn} : callN P (n + 1) "Asking.failed" [.p μ0.length] (Aq μ0 vs ans qs) = .ok (.d (encTr vs (none, qs))) (Aq μ0 vs ans qs) := by
  rw [callN_run (d := f_Asking_failed) rfl rfl]
  generalize callN P n = C
  refine runB_rt ?_ rfl
  simp only [f_Asking_failed, List.map_cons, List.map_nil, List.length_cons, List.length_nil, Nat.reduceAdd, Nat.reduceSub, List.replicate_succ, List.replicate_zero, List.cons_append, List.nil_append]
  exact sRet_ok (eTup2 eC_ok (tup_questions rfl))
theorem ask_spec (n : Nat) {T : Ty} {d3 : Nat} {μ0 : Mem} {vs : List Vl} {ans : List Bool} {qs : List Qn} {l : List B1} {k : Nat} (hl : l.length ≤ 1000) (hq : qs.length ≤ 1000) (h : ∀ b ∈ l, PathOk T d3 vs b.2) :
    callN P (n + 3) "Asking.ask" [.p μ0.length, .d (.int (k : Int)), .d (encBs (srt l))] (Aq μ0 vs ans qs) = .ok (.d (.bl (decide (ans[qs.length]? = some true)))) (Aq μ0 vs ans (qs ++ [(k, l)])) := by
  rw [callN_run (d := f_Asking_ask) rfl rfl]
  have hb := bound_spec n (μ0 := μ0) (ans := ans) (qs := qs) hl h
  generalize callN P (n + 2) = C at hb ⊢
  refine runB_rt ?_ (by rw [Aq_len, Aq_len])
  simp only [f_Asking_ask, List.map_cons, List.map_nil, List.length_cons, List.length_nil, Nat.reduceAdd, Nat.reduceSub, List.replicate_succ, List.replicate_zero, List.cons_append, List.nil_append]
  rw [sq_as (eBi1_ok (fld_questions rfl) (z := .d (.int (qs.length : Int))) (by rw [vw_lst Aq_lst, lenR_lst, List.length_map]))]
  simp only [List.set_cons_succ, List.set_cons_zero]
  have hst : sAppC (eFld "Asking" (eV 0) "questions") (eTup [(eV 1), (eMeth C "Asking" "bound" "Asking.bound" (eV 0) [(eV 2)])]) [.v (.p μ0.length), .v (.d (.int (k : Int))), .v (.d (encBs (srt l))), .v (.d (.int (qs.length : Int)))] (Aq μ0 vs ans qs) = .ok (.nx [.v (.p μ0.length), .v (.d (.int (k : Int))), .v (.d (encBs (srt l))), .v (.d (.int (qs.length : Int)))]) (Aq μ0 vs ans (qs ++ [(k, l)])) := by
    unfold sAppC
    rw [fld_questions rfl, bind_ok]
    simp only [Aq_lst]
    rw [eTup2 (eV_at rfl) (eMeth_ok (eV_at rfl) Aq_ins rfl (by rw [evs_cons, eV_at (r := .d (encBs (srt l))) rfl, bind_ok, evs_nil, bind_ok]) hb), bind_ok]
    simp only [Aq_lst]
    rw [if_pos (by rw [List.length_map]; exact Nat.lt_of_le_of_lt hq (by decide))]
    exact congrArg (fun μ => Out.ok (Fl.nx _) μ) (Aq_set (k, l))
  rw [sq_nx hst]
  have hlt := lt_c' (a := eV 3) (b := eBi lenR [(eFld "Asking" (eV 0) "answers")]) (ρ := [.v (.p μ0.length), .v (.d (.int (k : Int))), .v (.d (encBs (srt l))), .v (.d (.int (qs.length : Int)))]) (μ := Aq μ0 vs ans (qs ++ [(k, l)])) (x := qs.length) (y := ans.length) (eV_at rfl) (eBi1_ok (fld_answers rfl) (by rw [vw_d, lenR_tup, List.length_map]))
  by_cases hle : qs.length < ans.length
  · rw [decide_eq_true hle] at hlt
    have ha : ans[qs.length]? = some (ans[qs.length]'(by omega)) := List.getElem?_eq_getElem _
    have := eAnd_b (b := eIdx (eFld "Asking" (eV 0) "answers") (eV 3)) (y := ans[qs.length]'(by omega)) (eT_ok hlt) fun _ => ix_ok (ds := ans.map .bl) (k := qs.length) (x := .bl (ans[qs.length]'(by omega))) (fld_answers rfl) (eV_at rfl) (by rw [List.getElem?_map, ha]; rfl)
    rw [Bool.true_and] at this
    rw [sRet_ok this, ha]
    cases ans[qs.length]'(by omega) <;> rfl
  · rw [decide_eq_false hle] at hlt
    have := eAnd_b (b := eIdx (eFld "Asking" (eV 0) "answers") (eV 3)) (y := false) (eT_ok hlt) fun h => by cases h
    rw [sRet_ok this, List.getElem?_eq_none (by omega)]
    rfl
theorem asking_init (n : Nat) (vs : List Vl) (ans : List Bool) (μ : Mem) : callN P (n + 1) "Asking.__init__" [.p μ.length, .d (.tup (encVs vs)), .d (.tup (ans.map .bl))] (μ ++ [.ins "Asking" []]) = .ok (.d .non) (Aq μ vs ans []) := by
  rw [callN_run (d := f_Asking_init) rfl rfl]
  generalize callN P n = C
  have hb : f_Asking_init.body C [.v (.p μ.length), .v (.d (.tup (encVs vs))), .v (.d (.tup (ans.map .bl)))] (μ ++ [.ins "Asking" []]) = .ok (.nx [.v (.p μ.length), .v (.d (.tup (encVs vs))), .v (.d (.tup (ans.map .bl)))]) (Aq μ vs ans []) := by
    simp only [f_Asking_init]
    rw [sq_nx (sFld_ok (eV_at rfl) (eV_at rfl) get_last (by simp)), set_last, sq_nx (sFld_ok (eV_at rfl) (eV_at rfl) get_last (by simp [putA])), set_last]
    have hmk : eMk (eLst []) [.v (.p μ.length), .v (.d (.tup (encVs vs))), .v (.d (.tup (ans.map .bl)))] (μ ++ [.ins "Asking" [("given", .d (.tup (encVs vs))), ("answers", .d (.tup (ans.map .bl)))]]) = .ok (.p (μ.length + 1)) (μ ++ [.ins "Asking" [("given", .d (.tup (encVs vs))), ("answers", .d (.tup (ans.map .bl)))], .lst []]) := by
      unfold eMk
      rw [eLst0, bind_ok]
      simp
    have hput : putA "answers" (R.d (.tup (ans.map .bl))) (putA "given" (R.d (.tup (encVs vs))) []) = [("given", .d (.tup (encVs vs))), ("answers", .d (.tup (ans.map .bl)))] := rfl
    rw [hput]
    unfold sFld
    rw [hmk, bind_ok, eV_at (r := .p μ.length) rfl, bind_ok]
    have hget : (μ ++ [Cell.ins "Asking" [("given", R.d (.tup (encVs vs))), ("answers", .d (.tup (ans.map .bl)))], .lst []])[μ.length]? = some (.ins "Asking" [("given", .d (.tup (encVs vs))), ("answers", .d (.tup (ans.map .bl)))]) := by
      rw [List.getElem?_append_right (Nat.le_refl _), Nat.sub_self]; rfl
    simp only [putI, hget]
    rw [if_pos ⟨trivial, by simp⟩]
    congr 1
    rw [List.set_append_right _ _ (Nat.le_refl _), Nat.sub_self]
    rfl
  unfold runB
  rw [show [R.p μ.length, .d (.tup (encVs vs)), .d (.tup (ans.map .bl))].map Sl.v ++ List.replicate (f_Asking_init.nl - [R.p μ.length, .d (.tup (encVs vs)), .d (.tup (ans.map .bl))].length) Sl.un = [.v (.p μ.length), .v (.d (.tup (encVs vs))), .v (.d (.tup (ans.map .bl)))] from rfl, hb, bind_ok]
  show fin (μ ++ [Cell.ins "Asking" []]).length (.d .non) (Aq μ vs ans []) = _
  unfold fin
  rw [Aq_len, List.length_append, List.length_singleton, if_neg (by omega), if_neg ?_]
  intro h
  rw [Bool.and_eq_true] at h
  have h2 := h.2
  rw [List.all_eq_true] at h2
  have hmem : aIns vs ans (μ.length + 1) ∈ (Aq μ vs ans []).take (μ.length + 1) := by
    refine List.mem_of_getElem? (i := μ.length) ?_
    rw [List.getElem?_take, if_pos (by omega)]
    exact Aq_ins
  have := h2 _ hmem
  simp [aIns, okCell, okFs, okR] at this
def Qok (vs : List Vl) (q : Qn) : Prop := q.1 ≤ 100 ∧ (encBd vs q.2).cost ≤ 160000 ∧ (encBd vs q.2).dep ≤ 14
theorem q_cost {vs : List Vl} {q : Qn} (h : Qok vs q) : (encQ vs q).cost ≤ 160100 ∧ (encQ vs q).dep ≤ 15 := by
  obtain ⟨h1, h2, h3⟩ := h
  simp only [encQ]
  generalize encBd vs q.2 = B at h2 h3
  simp only [D.cost, D.costL, D.dep, D.depL]
  rw [if_pos (by omega)]
  omega
theorem answers_spec (n : Nat) (digs : List Int) (k : Nat) : ∃ (ans : List Bool) (k' : Nat), callN P (n + 2) "_law_answers" [.p 0] (Bx [] digs k) = .ok (.d (.tup (ans.map .bl))) (Bx [] digs k') := by
  rw [callN_run (d := f_law_answers) rfl rfl]
  have hC := draws n
  generalize callN P (n + 1) = C at hC ⊢
  obtain ⟨v, hv, h1⟩ := hC.at 0 [] digs k 7 (mi := 7) rfl (by omega)
  obtain ⟨bs, μ', e1, _, ⟨k', rfl⟩, e4⟩ := comp_draw (t := tgN 1) (elt := eT (tCmp eqR (eCall C "_law_draw" [(eV 0), (eC (.int 2))]) (eC (.int 1)))) (ρw := [.v (.p 0), .un]) (fun i : Nat => R.d (.int (i : Int))) D.bl (fun _ _ => True) (List.range v) (fun _ μ => ∃ k', μ = Bx [] digs k') (Bx [] digs (k + 1)) (by
    rintro i y μ hy ⟨k2, rfl⟩
    obtain ⟨w, hw, h2⟩ := hC.at 0 [] digs k2 2 (mi := 2) rfl (by omega)
    exact ⟨[.v (.p 0), .v (.d (.int (y : Int)))], by simp only [tgN, List.set_cons_succ, List.set_cons_zero], decide (w = 1), Bx [] digs (k2 + 1), trivial, ⟨_, rfl⟩, eT_ok (eq_c 1 (yi := 1) rfl (h2 _ rfl))⟩) ⟨_, rfl⟩
  have el : bs.length = v := by rw [e1, List.length_range]
  refine ⟨bs, k', runB_rt ?_ rfl⟩
  simp only [f_law_answers, List.map_cons, List.map_nil, List.length_cons, List.length_nil, Nat.reduceAdd, Nat.reduceSub, List.replicate_succ, List.replicate_zero, List.cons_append, List.nil_append]
  refine sRet_ok (eBi1_ok (x := .d (.lst (bs.map .bl))) ?_ (by rw [vw_d, tupleR_lst]))
  rw [eComp_ok (iRange1_nat (h1 _ rfl) (by omega)) (by simp only [wipeE, List.set_cons_succ, List.set_cons_zero]; rw [range0]; exact e4) (by rw [List.length_map]; omega), mkL_map]
end K20
end

section
set_option maxHeartbeats 0
set_option linter.all false
set_option maxRecDepth 100000
namespace K20
open Ev
local macro_rules | `(tactic| array_get_dec) => `(tactic| first | (guard_target =~ wp _ _ _; first | refine w_sq ?_ | refine w_sAs ?_ | refine w_sIf ?_ | refine w_sRet ?_ | refine w_eV rfl ?_ | refine w_eC ?_ | refine w_ok ?_ | refine w_call ?_ | refine w_cons ?_ | refine w_nil ?_ | refine w_opMul ?_ | refine w_opMulL ?_ | refine w_op ?_ | refine w_idx ?_ | refine w_cmp ?_ | refine w_tup ?_ | refine w_bi ?_ | refine w_sNil ?_ | refine w_sAsT ?_ | refine w_sFor ?_ | refine w_iE ?_ | refine w_iEnum ?_ | refine w_iRange1 ?_ | refine w_iRange2 ?_ | refine w_iZip ?_ | refine w_comp ?_ | refine w_comp2 ?_ | refine w_yes ?_ | refine w_all ?_ | refine w_eB rfl ?_ | refine w_eBd rfl ?_ | refine w_lst ?_ | refine w_neg ?_ | refine w_ch ?_ | refine w_isN ?_ | refine w_notN ?_ | refine w_eT ?_ | refine w_tE ?_ | refine w_and' ?_ | refine w_or' ?_ | refine w_not ?_ | refine w_eNot ?_ | refine w_eIf ?_ | refine w_eAnd ?_ | refine w_eOr ?_ | refine w_oN ?_ | refine w_oE ?_ | refine w_slc ?_ | refine w_fld ?_ | refine w_meth ?_ | refine w_new ?_ | refine w_mk ?_ | refine w_sX ?_ | refine w_sAug rfl ?_ | refine w_sPar ?_ | refine w_sOwn ?_ | refine w_sCell ?_ | refine w_sFrz rfl ?_ | refine w_sFrzD rfl ?_ | refine w_sApp rfl ?_ | refine w_sExt rfl ?_ | refine w_sRev rfl ?_ | refine w_sSetI rfl ?_ | refine w_sSetD rfl ?_ | refine w_sAugI rfl ?_ | refine w_sRetN ?_ | refine w_sBrk ?_ | refine w_sCnt ?_ | refine w_raise ?_ | refine w_sFld ?_ | refine w_sFldAug ?_ | refine w_sAppC ?_ | refine w_exn ?_ | refine w_inN ?_ | refine w_getN ?_ | refine w_putN ?_ | refine w_dn ?_ | refine w_iRev1 ?_) | (guard_target = wo (valsR _) _; first | refine wo_i vals1 ?_ | refine wo_i vals2 ?_ | refine wo_i vals3 ?_ | refine wo_i vals4 ?_ | refine wo_i vals5 ?_ | refine wo_i vals0 ?_) | (guard_target = wo (subR _ _) _; first | refine wo_i (show subR _ _ = some _ from subR_int) ?_) | (guard_target = wo (addR _ _) _; first | refine wo_i (show addR _ _ = some _ from addR_int) ?_) | (guard_target = wo (ltR _ _) _; first | refine wo_i ltR_int ?_) | (guard_target = wo (leR _ _) _; first | refine wo_i leR_int ?_) | (guard_target = wo (gtR _ _) _; first | refine wo_i gtR_int ?_) | (guard_target = wo (geR _ _) _; first | refine wo_i geR_int ?_) | (guard_target = wo (eqR _ _) _; first | refine wo_i eqi_ok ?_ | refine wo_i eqs_ok ?_) | (guard_target = wo (neR _ _) _; first | refine wo_i nei_ok ?_ | refine wo_i nes_ok ?_) | (guard_target = wo (iaddR _ _) _; first | refine wo_i iadd_int ?_) | (guard_target = wo (lenR _) _; first | refine wo_i lenR_tup ?_ | refine wo_i lenR_lst ?_) | (guard_target = wo (intR _) _; first | refine wo_i intR_int ?_ | refine wo_i intR_bl ?_) | (guard_target = wo (tupleR _) _; first | refine wo_i tupleR_tup ?_ | refine wo_i tupleR_lst ?_) | (guard_target = wo (listR _) _; first | refine wo_i listR_tup ?_ | refine wo_i listR_lst ?_) | (guard_target = wo (maxR _) _; first | refine wo_i maxR_two ?_) | (guard_target = wo (minR _) _; first | refine wo_i minR_two ?_) | (guard_target = wo (truthR _) _; first | refine wo_i truthR_bl ?_ | refine wo_i truthR_int ?_) | (guard_target = wo (itemsR _) _; first | refine wo_i itemsR_tup ?_ | refine wo_i itemsR_lst ?_ | refine wo_i itemsR_ls ?_) | (guard_target = wo (ownR _) _; first | refine wo_i own_ds ?_ | refine wo_i (show ownR _ = some _ from rfl) ?_) | (guard_target = wo (idxR _ _) _; first | refine wo_i (show idxR _ _ = some _ from rfl) ?_) | (guard_target = wo (extR _) _; first | refine wo_i (show extR _ = some _ from rfl) ?_) | (guard_target = wo (enumR _) _; first | refine wo_i (show enumR _ = some _ from rfl) ?_) | (guard_target = wo (slcR _ _ _) _; first | refine wo_i (show slcR _ _ _ = some _ from rfl) ?_) | (guard_target = wo (insOf _ _ _) _; first | refine wo_i (show insOf _ _ _ = some _ from rfl) ?_) | (guard_target =~ wo _ _; first | refine wo_i tg1 ?_ | refine wo_i tg2 ?_ | refine wo_i tg3 ?_ | refine wo_i tg4 ?_ | refine wo_i tg12 ?_ | refine wo_i tg2l ?_ | refine wo_i tg3l ?_ | refine wo_i tg4l ?_) | (guard_target =~ gd _ _; first | refine gd_i ll1 ?_ | refine gd_i ll2 ?_ | refine gd_i ll3 ?_ | refine gd_i ll4 ?_ | refine gd_i ll5 ?_ | refine gd_i ll0 ?_ | refine gd_i (rfl : (_ : Bool) = true) ?_) | refine seq_nx ?_ | refine seq_rt ?_ | refine loop_nx ?_ | refine loop_rt ?_ | refine run_rt rfl ?_ | refine loop_ct ?_ | refine loop_bk ?_ | refine seq_bk ?_ | refine seq_ct ?_ | refine run_nx rfl ?_ | refine ⟨_, rfl, ?_⟩ | refine ⟨rfl, ?_⟩ | exact rfl)
inductive In where
  | arg (i : Nat) | fld (i : Nat) | is (c : String) (n : Nat) | upto (j : Int) (n : Nat) | jump (n : Nat) | take (c : Nat) (bs : List B1) | ask (c : Nat) (bs : List B1) (n : Nat) | fail
  deriving DecidableEq
def encIn : In → D
  | .arg i => .tup [.str "argument", .int i]
  | .fld i => .tup [.str "field", .int i]
  | .is c n => .tup [.str "is", .str c, .int n]
  | .upto j n => .tup [.str "upto", .int j, .int n]
  | .jump n => .tup [.str "jump", .int n]
  | .take c bs => .tup [.str "take", .int c, encBs bs]
  | .ask c bs n => .tup [.str "ask", .int c, encBs bs, .int n]
  | .fail => .tup [.str "fail"]
abbrev MRes := Option Qn × List Qn
abbrev MSt := Nat × Option Vl × List Qn
def stpM (vs : List Vl) (ans : List Bool) : In → MSt → Option (MRes ⊕ MSt)
  | .arg i, (p, _, qs) => (vs[i]?).map fun v => .inr (p + 1, some v, qs)
  | .fld i, (p, some (.mk _ us), qs) => (us[i]?).map fun v => .inr (p + 1, some v, qs)
  | .fld _, _ => none
  | .is c n, (p, some (.mk c' us), qs) => some (.inr (if c' = c then n else p + 1, some (.mk c' us), qs))
  | .is _ _, _ => none
  | .upto j n, (p, some (.int i), qs) => some (.inr (if i ≤ j then n else p + 1, some (.int i), qs))
  | .upto _ _, _ => none
  | .jump n, (_, h, qs) => some (.inr (n, h, qs))
  | .take c bs, (_, _, qs) => some (.inl (some (c, bs), qs))
  | .ask c bs n, (_, h, qs) => if ans[qs.length]? = some true then some (.inl (some (c, bs), qs ++ [(c, bs)])) else some (.inr (n, h, qs ++ [(c, bs)]))
  | .fail, (_, _, qs) => some (.inl (none, qs))
def runM (code : List In) (vs : List Vl) (ans : List Bool) : Nat → MSt → Option MRes
  | 0, _ => none
  | f + 1, s => (code[s.1]?).bind fun i => (stpM vs ans i s).bind fun t => match t with
    | .inl r => some r
    | .inr s => runM code vs ans f s
def QgM (T : Ty) (d3 : Nat) (vs : List Vl) (q : Qn) : Prop := srt q.2 = q.2 ∧ q.2.length ≤ 12 ∧ ∀ b ∈ q.2, PathOk T d3 vs b.2
theorem stp_sub {vs : List Vl} {ans : List Bool} {i : In} {s : MSt} {t : MRes ⊕ MSt} (h : stpM vs ans i s = some t) : match t with
    | .inl r => s.2.2 <+: r.2
    | .inr s' => s.2.2 <+: s'.2.2 := by
  obtain ⟨p, hd, qs⟩ := s
  cases i with
  | arg i => obtain ⟨v, _, rfl⟩ := Option.map_eq_some_iff.mp h; exact List.prefix_rfl
  | fld i =>
    cases hd with
    | none => cases h
    | some v => cases v with
      | int j => cases h
      | mk c us => obtain ⟨v, _, rfl⟩ := Option.map_eq_some_iff.mp h; exact List.prefix_rfl
  | is c n =>
    cases hd with
    | none => cases h
    | some v => cases v with
      | int j => cases h
      | mk c us => cases h; exact List.prefix_rfl
  | upto c n =>
    cases hd with
    | none => cases h
    | some v => cases v with
      | mk c us => cases h
      | int j => cases h; exact List.prefix_rfl
  | jump n => cases h; exact List.prefix_rfl
  | take c bs => cases h; exact List.prefix_rfl
  | ask c bs n =>
    simp only [stpM] at h
    split at h
    · cases h; exact List.prefix_append _ _
    · cases h; exact List.prefix_append _ _
  | fail => cases h; exact List.prefix_rfl
theorem run_sub {code : List In} {vs : List Vl} {ans : List Bool} : ∀ {f : Nat} {s : MSt} {r : MRes}, runM code vs ans f s = some r → s.2.2 <+: r.2
  | 0, _, _, e => by cases e
  | f + 1, s, r, e => by
    obtain ⟨i, h1, e⟩ := Option.bind_eq_some_iff.mp e
    obtain ⟨t, h2, e⟩ := Option.bind_eq_some_iff.mp e
    have h3 := stp_sub h2
    cases t with
    | inl r' => cases e; exact h3
    | inr s' => exact List.IsPrefix.trans h3 (run_sub e)
def heldD : Option Vl → D
  | none => .non
  | some v => encV v
def mIns (m : Nat) (p : Nat) (h : Option Vl) : Cell := .ins "Machine" [("asking", .p (m + 1)), ("place", .d (.int p)), ("held", .d (heldD h))]
def Mq (μ0 : Mem) (vs : List Vl) (ans : List Bool) (s : MSt) : Mem := Aq (μ0 ++ [mIns μ0.length s.1 s.2.1]) vs ans s.2.2
section
variable {μ0 : Mem} {vs : List Vl} {ans : List Bool} {p : Nat} {h : Option Vl} {qs : List Qn}
theorem Mq_len {s : MSt} : (Mq μ0 vs ans s).length = μ0.length + 3 := by unfold Mq; rw [Aq_len, List.length_append, List.length_singleton]
theorem Mq_ins : (Mq μ0 vs ans (p, h, qs))[μ0.length]? = some (mIns μ0.length p h) := by
  unfold Mq Aq
  rw [List.getElem?_append_left (by simp), List.getElem?_append_right (Nat.le_refl _), Nat.sub_self]; rfl
theorem Mq_set (p' : Nat) (h' : Option Vl) : (Mq μ0 vs ans (p, h, qs)).set μ0.length (mIns μ0.length p' h') = Mq μ0 vs ans (p', h', qs) := by
  unfold Mq Aq
  rw [List.set_append_left _ _ (by simp), List.set_append_right _ _ (Nat.le_refl _), Nat.sub_self]
  simp
theorem Mq_io : insOf (Mq μ0 vs ans (p, h, qs)) "Machine" (.p μ0.length) = some [("asking", .p (μ0.length + 1)), ("place", .d (.int p)), ("held", .d (heldD h))] := by
  unfold insOf; simp only [Mq_ins, mIns, if_true]
theorem Mq_ia {s : MSt} : insOf (Mq μ0 vs ans s) "Asking" (.p (μ0.length + 1)) = some [("given", .d (.tup (encVs vs))), ("answers", .d (.tup (ans.map .bl))), ("questions", .p (μ0.length + 2))] := by
  have := Aq_ins (μ0 := μ0 ++ [mIns μ0.length s.1 s.2.1]) (vs := vs) (ans := ans) (qs := s.2.2)
  rw [List.length_append, List.length_singleton] at this
  unfold insOf Mq; simp only [this, aIns, if_true]
theorem put_held {x : D} {h' : Option Vl} {Q : Fl → Mem → Prop} {ρ : Env} (hx : x = heldD h') (k : Q (.nx ρ) (Mq μ0 vs ans (p, h', qs))) : ∃ n fs, R.p μ0.length = .p n ∧ (Mq μ0 vs ans (p, h, qs))[n]? = some (.ins "Machine" fs) ∧ gd (fs.length < 1000) (Q (.nx ρ) ((Mq μ0 vs ans (p, h, qs)).set n (.ins "Machine" (putA "held" (.d x) fs)))) := by
  refine ⟨_, _, rfl, Mq_ins, gd_i (by simp) ?_⟩
  rw [show Cell.ins "Machine" (putA "held" (R.d x) [("asking", .p (μ0.length + 1)), ("place", .d (.int p)), ("held", .d (heldD h))]) = mIns μ0.length p h' by rw [hx]; rfl, Mq_set]
  exact k
theorem put_place {n : Nat} {Q : Fl → Mem → Prop} {ρ : Env} (k : Q (.nx ρ) (Mq μ0 vs ans (n, h, qs))) : ∃ m fs, R.p μ0.length = .p m ∧ (Mq μ0 vs ans (p, h, qs))[m]? = some (.ins "Machine" fs) ∧ gd (fs.length < 1000) (Q (.nx ρ) ((Mq μ0 vs ans (p, h, qs)).set m (.ins "Machine" (putA "place" (.d (.int (n : Int))) fs)))) := by
  refine ⟨_, _, rfl, Mq_ins, gd_i (by simp) ?_⟩
  rw [show Cell.ins "Machine" (putA "place" (R.d (.int (n : Int))) [("asking", .p (μ0.length + 1)), ("place", .d (.int p)), ("held", .d (heldD h))]) = mIns μ0.length n h from rfl, Mq_set]
  exact k
theorem aug_place {Q : Fl → Mem → Prop} {X : Exn → Mem → Prop} {ρ : Env} (k : Q (.nx ρ) (Mq μ0 vs ans (p + 1, h, qs))) : ∃ m fs v, R.p μ0.length = .p m ∧ (Mq μ0 vs ans (p, h, qs))[m]? = some (.ins "Machine" fs) ∧ fs.lookup "place" = some v ∧ wp (eC (.int 1) ρ (Mq μ0 vs ans (p, h, qs))) (fun y ν => ν = Mq μ0 vs ans (p, h, qs) ∧ wo (addI v y) fun z => gd (fs.length < 1000) (Q (.nx ρ) ((Mq μ0 vs ans (p, h, qs)).set m (.ins "Machine" (putA "place" z fs))))) X := by
  refine ⟨_, _, _, rfl, Mq_ins, rfl, w_eC ⟨rfl, wo_i (a := .d (.int ((p + 1 : Nat) : Int))) rfl (gd_i (by simp) ?_)⟩⟩
  rw [show Cell.ins "Machine" (putA "place" (R.d (.int ((p + 1 : Nat) : Int))) [("asking", .p (μ0.length + 1)), ("place", .d (.int p)), ("held", .d (heldD h))]) = mIns μ0.length (p + 1) h from rfl, Mq_set]
  exact k
end
theorem Ax_get {μ : Mem} {x : Cell} {vs : List Vl} {ans : List Bool} {qs : List Qn} : (Aq (μ ++ [x]) vs ans qs)[μ.length]? = some x := by
  unfold Aq
  rw [List.getElem?_append_left (by simp), List.getElem?_append_right (Nat.le_refl _), Nat.sub_self]; rfl
theorem Ax_set {μ : Mem} {x y : Cell} {vs : List Vl} {ans : List Bool} {qs : List Qn} : (Aq (μ ++ [x]) vs ans qs).set μ.length y = Aq (μ ++ [y]) vs ans qs := by
  unfold Aq
  rw [List.set_append_left _ _ (by simp), List.set_append_right _ _ (Nat.le_refl _), Nat.sub_self]
  simp
theorem machine_init (n : Nat) (vs : List Vl) (ans : List Bool) (μ : Mem) : callN P (n + 2) "Machine.__init__" [.p μ.length, .d (.tup (encVs vs)), .d (.tup (ans.map .bl))] (μ ++ [.ins "Machine" []]) = .ok (.d .non) (Mq μ vs ans (0, none, [])) := by
  refine wp.ok (wp_call (d := f_Machine_init) rfl rfl ?_)
  have hai := asking_init n vs ans (μ ++ [.ins "Machine" []])
  generalize callN P (n + 1) = C at hai ⊢
  simp only [f_Machine_init, List.map_cons, List.map_nil, List.length_cons, List.length_nil, Nat.reduceAdd, Nat.reduceSub, List.replicate_succ, List.replicate_zero, List.cons_append, List.nil_append]
  repeat (first | (guard_target =~ wp _ _ _; first | refine wp_eq (hai) ?_) | array_get_dec)
  refine ⟨_, _, rfl, Ax_get, gd_i (by simp) ?_⟩
  rw [Ax_set]
  repeat array_get_dec
  refine ⟨_, _, rfl, Ax_get, gd_i (by simp [putA]) ?_⟩
  rw [Ax_set]
  repeat array_get_dec
  refine ⟨_, _, rfl, Ax_get, gd_i (by simp [putA]) ?_⟩
  rw [Ax_set]
  have e : Aq (μ ++ [.ins "Machine" (putA "held" (R.d .non) (putA "place" (.d (.int 0)) (putA "asking" (.p (μ ++ [Cell.ins "Machine" []]).length) [])))]) vs ans [] = Mq μ vs ans (0, none, []) := by
    rw [List.length_append, List.length_singleton]; rfl
  rw [e]
  refine run_nxk ?_ ⟨rfl, rfl⟩
  refine List.all_eq_false.mpr ⟨_, List.mem_of_getElem? (i := μ.length) (by rw [List.getElem?_take_of_lt (by simp), Mq_ins]), ?_⟩
  simp [mIns, okCell, okFs, okR]
theorem Mq_held {μ0 : Mem} {vs : List Vl} {ans : List Bool} {p : Nat} {h : Option Vl} {qs : List Qn} : ((insOf (Mq μ0 vs ans (p, h, qs)) "Machine" (.p μ0.length)).bind fun fs => fs.lookup "held") = some (.d (heldD h)) := by rw [Mq_io]; rfl
theorem Mq_place {μ0 : Mem} {vs : List Vl} {ans : List Bool} {p : Nat} {h : Option Vl} {qs : List Qn} : ((insOf (Mq μ0 vs ans (p, h, qs)) "Machine" (.p μ0.length)).bind fun fs => fs.lookup "place") = some (.d (.int (p : Int))) := by rw [Mq_io]; rfl
theorem Mq_ask {μ0 : Mem} {vs : List Vl} {ans : List Bool} {p : Nat} {h : Option Vl} {qs : List Qn} : ((insOf (Mq μ0 vs ans (p, h, qs)) "Machine" (.p μ0.length)).bind fun fs => fs.lookup "asking") = some (.p (μ0.length + 1)) := by rw [Mq_io]; rfl
theorem Mq_given {μ0 : Mem} {vs : List Vl} {ans : List Bool} {s : MSt} : ((insOf (Mq μ0 vs ans s) "Asking" (.p (μ0.length + 1))).bind fun fs => fs.lookup "given") = some (.d (.tup (encVs vs))) := by rw [Mq_ia]; rfl
theorem Mq_any {μ0 : Mem} {vs : List Vl} {ans : List Bool} {s : MSt} {Q : R → Mem → Prop} {X : Exn → Mem → Prop} {r : R} (k : Q r (Mq μ0 vs ans s)) {s0 : MSt} : runQ (Mq μ0 vs ans s0).length Q X (.rt r) (Mq μ0 vs ans s) := run_rt (by rw [Mq_len, Mq_len]) k
theorem in_isup (k : String) (μ : Mem) : inR (vw μ (.d (.str k))) (vw μ (.d (.tup [.str "is", .str "upto"]))) = some ("is" == k || "upto" == k) := by
  rw [vw_d, vw_d, inR_tup, if_pos (by simp [D.dep, D.depL])]
  simp [eqv_str]
theorem step_spec (n : Nat) {T : Ty} {d3 : Nat} {μ0 : Mem} {vs : List Vl} {ans : List Bool} {i : In} {s : MSt} {t : MRes ⊕ MSt} (h : stpM vs ans i s = some t) (hq : s.2.2.length ≤ 1000) (hr : match t with
    | .inl r => (∀ x ∈ r.1, QgM T d3 vs x) ∧ ∀ x ∈ r.2, QgM T d3 vs x
    | .inr s' => ∀ x ∈ s'.2.2, QgM T d3 vs x) :
    wp (callN P (n + 4) "Machine.step" [.p μ0.length, .d (encIn i)] (Mq μ0 vs ans s)) (fun r ν => match t with
      | .inl q => r = .d (encTr vs q) ∧ ∃ s', ν = Mq μ0 vs ans s'
      | .inr s' => r = .d .non ∧ ν = Mq μ0 vs ans s') fun _ _ => False := by
  obtain ⟨p, hd, qs⟩ := s
  refine wp_call (d := f_Machine_step) rfl rfl ?_
  have hta := fun (c : Nat) (l : List B1) (qs : List Qn) hl h => taken_spec n (T := T) (d3 := d3) (μ0 := μ0 ++ [mIns μ0.length (p + 1) hd]) (vs := vs) (ans := ans) (qs := qs) (l := l) (k := c) hl h
  have hfa := fun (qs : List Qn) => failed_spec (n + 2) (μ0 := μ0 ++ [mIns μ0.length (p + 1) hd]) (vs := vs) (ans := ans) (qs := qs)
  have has := fun (c : Nat) (l : List B1) (qs : List Qn) hl hq h => ask_spec n (T := T) (d3 := d3) (μ0 := μ0 ++ [mIns μ0.length (p + 1) hd]) (vs := vs) (ans := ans) (qs := qs) (l := l) (k := c) hl hq h
  have hho : ∀ (i : In) (v : Vl) (s' : MSt), hd = some v → stpM vs ans i (p, hd, qs) = some (.inr s') → (match i with | .is _ _ => True | .upto _ _ => True | _ => False) → callN P (n + 3) "Machine.holds" [.p μ0.length, .d (encIn i)] (Mq μ0 vs ans (p + 1, hd, qs)) = .ok (.d (.bl (match i, v with
      | .is c _, .mk c' _ => decide (c' = c)
      | .upto j _, .int k => decide (k ≤ j)
      | _, _ => false))) (Mq μ0 vs ans (p + 1, hd, qs)) := fun i v s' e1 e2 e3 => by
    subst e1
    refine wp.ok (wp_call (d := f_Machine_holds) rfl rfl ?_)
    generalize callN P (n + 2) = C
    simp only [f_Machine_holds, List.map_cons, List.map_nil, List.length_cons, List.length_nil, Nat.reduceAdd, Nat.reduceSub, List.replicate_succ, List.replicate_zero, List.cons_append, List.nil_append]
    cases i with
    | is c m =>
      cases v with
      | int j => cases e2
      | mk c' us =>
        simp only [encIn]
        repeat array_get_dec
        refine ifQ_t rfl ?_
        repeat (first | (guard_target =~ wo _ _; first | refine wo_i Mq_held ?_) | array_get_dec)
    | upto j m =>
      cases v with
      | mk c' us => cases e2
      | int k =>
        simp only [encIn]
        repeat array_get_dec
        refine ifQ_f rfl ?_
        repeat (first | (guard_target =~ wo _ _; first | refine wo_i Mq_held ?_) | array_get_dec)
    | arg _ => cases e3
    | fld _ => cases e3
    | jump _ => cases e3
    | take _ _ => cases e3
    | ask _ _ _ => cases e3
    | fail => cases e3
  generalize callN P (n + 3) = C at hta hfa has hho ⊢
  simp only [f_Machine_step, List.map_cons, List.map_nil, List.length_cons, List.length_nil, Nat.reduceAdd, Nat.reduceSub, List.replicate_succ, List.replicate_zero, List.cons_append, List.nil_append]
  rw [List.length_append, List.length_singleton] at hta hfa has
  have e4 : ∀ p h qs, Aq (μ0 ++ [mIns μ0.length p h]) vs ans qs = Mq μ0 vs ans (p, h, qs) := fun _ _ _ => rfl
  simp only [e4] at hta hfa has
  repeat array_get_dec
  cases i with
  | arg i =>
    obtain ⟨v, hv, rfl⟩ := Option.map_eq_some_iff.mp h
    have hix : ∀ μ, idxR (vw μ (.d (.tup (encVs vs)))) (vw μ (.d (.int (i : Int)))) = some (.d (encV v)) := fun μ => by rw [vw_d, vw_d]; exact idx_nat (encVs_get hv)
    simp only [encIn]
    repeat (first | refine aug_place ?_ | array_get_dec)
    refine ifQ_t rfl ?_
    repeat (first | (guard_target = wo (idxR _ _) _; first | refine wo_i (show idxR _ _ = some _ from hix _) ?_) | (guard_target =~ wo _ _; first | refine wo_i Mq_ask ?_ | refine wo_i Mq_given ?_) | array_get_dec)
    refine put_held (h' := some v) rfl ?_
    repeat (first | refine Mq_any ?_ | array_get_dec)
  | fld i =>
    cases hd with
    | none => cases h
    | some v => cases v with
      | int j => cases h
      | mk c us =>
        obtain ⟨v, hv, rfl⟩ := Option.map_eq_some_iff.mp h
        have hix : ∀ μ, idxR (vw μ (.d (.tup (encVs us)))) (vw μ (.d (.int (i : Int)))) = some (.d (encV v)) := fun μ => by rw [vw_d, vw_d]; exact idx_nat (encVs_get hv)
        have hi2 : ∀ μ, idxR (vw μ (.d (heldD (some (.mk c us))))) (vw μ (.d (.int 2))) = some (.d (.tup (encVs us))) := fun μ => by simp only [heldD, encV]; rfl
        simp only [encIn]
        repeat (first | refine aug_place ?_ | array_get_dec)
        refine ifQ_f rfl ?_
        repeat array_get_dec
        refine ifQ_t rfl ?_
        repeat (first | (guard_target = wo (idxR _ _) _; first | refine wo_i (show idxR _ _ = some _ from hi2 _) ?_ | refine wo_i (show idxR _ _ = some _ from hix _) ?_) | (guard_target =~ wo _ _; first | refine wo_i Mq_held ?_) | array_get_dec)
        refine put_held (h' := some v) rfl ?_
        repeat (first | refine Mq_any ?_ | array_get_dec)
  | jump m =>
    cases h
    simp only [encIn]
    repeat (first | refine aug_place ?_ | array_get_dec)
    refine ifQ_f rfl ?_
    repeat array_get_dec
    refine ifQ_f rfl ?_
    repeat array_get_dec
    refine ifQ_t rfl ?_
    repeat array_get_dec
    refine put_place ?_
    repeat (first | refine Mq_any ?_ | array_get_dec)
  | is c m =>
    cases hd with
    | none => cases h
    | some v => cases v with
      | int j => cases h
      | mk c' us =>
        cases h
        have hh := hho (.is c m) _ _ rfl rfl trivial
        simp only [encIn] at hh ⊢
        repeat (first | refine aug_place ?_ | array_get_dec)
        refine ifQ_f rfl ?_
        repeat array_get_dec
        refine ifQ_f rfl ?_
        repeat array_get_dec
        refine ifQ_f rfl ?_
        repeat (first | (guard_target = wo (inR _ _) _; first | refine wo_i (show inR _ _ = some _ from in_isup _ _) ?_) | array_get_dec)
        refine ifQ_t (by decide) ?_
        repeat (first | (guard_target =~ wp _ _ _; first | refine wp_eq (hh) ?_) | (guard_target =~ wo _ _; first | refine wo_i Mq_io ?_) | array_get_dec)
        by_cases hc : c' = c
        · refine ifQ_t (decide_eq_true hc) ?_
          repeat array_get_dec
          refine put_place ?_
          rw [if_pos hc]
          repeat (first | refine Mq_any ?_ | array_get_dec)
        · refine ifQ_f (decide_eq_false hc) ?_
          rw [if_neg hc]
          repeat (first | refine Mq_any ?_ | array_get_dec)
  | upto j m =>
    cases hd with
    | none => cases h
    | some v => cases v with
      | mk c' us => cases h
      | int k =>
        cases h
        have hh := hho (.upto j m) _ _ rfl rfl trivial
        simp only [encIn] at hh ⊢
        repeat (first | refine aug_place ?_ | array_get_dec)
        refine ifQ_f rfl ?_
        repeat array_get_dec
        refine ifQ_f rfl ?_
        repeat array_get_dec
        refine ifQ_f rfl ?_
        repeat (first | (guard_target = wo (inR _ _) _; first | refine wo_i (show inR _ _ = some _ from in_isup _ _) ?_) | array_get_dec)
        refine ifQ_t (by decide) ?_
        repeat (first | (guard_target =~ wp _ _ _; first | refine wp_eq (hh) ?_) | (guard_target =~ wo _ _; first | refine wo_i Mq_io ?_) | array_get_dec)
        by_cases hc : k ≤ j
        · refine ifQ_t (decide_eq_true hc) ?_
          repeat array_get_dec
          refine put_place ?_
          rw [if_pos hc]
          repeat (first | refine Mq_any ?_ | array_get_dec)
        · refine ifQ_f (decide_eq_false hc) ?_
          rw [if_neg hc]
          repeat (first | refine Mq_any ?_ | array_get_dec)
  | take c bs =>
    cases h
    obtain ⟨b1, b2, b3⟩ := hr.1 (c, bs) rfl
    have b2 : bs.length ≤ 12 := b2
    have hb := hta c bs qs (by omega) b3
    rw [b1] at hb
    simp only [encIn]
    repeat (first | refine aug_place ?_ | array_get_dec)
    refine ifQ_f rfl ?_
    repeat array_get_dec
    refine ifQ_f rfl ?_
    repeat array_get_dec
    refine ifQ_f rfl ?_
    repeat (first | (guard_target = wo (inR _ _) _; first | refine wo_i (show inR _ _ = some _ from in_isup _ _) ?_) | array_get_dec)
    refine ifQ_f (by decide) ?_
    repeat array_get_dec
    refine ifQ_t rfl ?_
    repeat (first | (guard_target =~ wp _ _ _; first | refine wp_eq (hb) ?_) | (guard_target =~ wo _ _; first | refine wo_i Mq_ask ?_ | refine wo_i Mq_ia ?_) | refine Mq_any ?_ | array_get_dec)
    exact ⟨_, rfl⟩
  | ask c bs m =>
    simp only [stpM] at h
    have hmem : QgM T d3 vs (c, bs) := by
      by_cases ha : ans[qs.length]? = some true
      · rw [if_pos ha] at h; cases h; exact hr.2 _ (by simp)
      · rw [if_neg ha] at h; cases h; exact hr _ (by simp)
    obtain ⟨b1, b2, b3⟩ := hmem
    have b2 : bs.length ≤ 12 := b2
    have hb := fun qs => hta c bs qs (by omega) b3
    have ha := has c bs qs (by omega) hq b3
    rw [b1] at ha hb
    simp only [encIn]
    repeat (first | refine aug_place ?_ | array_get_dec)
    refine ifQ_f rfl ?_
    repeat array_get_dec
    refine ifQ_f rfl ?_
    repeat array_get_dec
    refine ifQ_f rfl ?_
    repeat (first | (guard_target = wo (inR _ _) _; first | refine wo_i (show inR _ _ = some _ from in_isup _ _) ?_) | array_get_dec)
    refine ifQ_f (by decide) ?_
    repeat array_get_dec
    refine ifQ_f rfl ?_
    repeat array_get_dec
    refine ifQ_t rfl ?_
    repeat (first | (guard_target =~ wp _ _ _; first | refine wp_eq (ha) ?_) | (guard_target =~ wo _ _; first | refine wo_i Mq_ask ?_ | refine wo_i Mq_ia ?_) | array_get_dec)
    by_cases han : ans[qs.length]? = some true
    · rw [if_pos han] at h
      cases h
      refine ifQ_t (decide_eq_true han) ?_
      repeat (first | (guard_target =~ wp _ _ _; first | refine wp_eq (hb _) ?_) | (guard_target =~ wo _ _; first | refine wo_i Mq_ask ?_ | refine wo_i Mq_ia ?_) | refine Mq_any ?_ | array_get_dec)
      exact ⟨_, rfl⟩
    · rw [if_neg han] at h
      cases h
      refine ifQ_f (decide_eq_false han) ?_
      repeat array_get_dec
      refine put_place ?_
      repeat (first | refine Mq_any ?_ | array_get_dec)
  | fail =>
    cases h
    simp only [encIn]
    repeat (first | refine aug_place ?_ | array_get_dec)
    refine ifQ_f rfl ?_
    repeat array_get_dec
    refine ifQ_f rfl ?_
    repeat array_get_dec
    refine ifQ_f rfl ?_
    repeat (first | (guard_target = wo (inR _ _) _; first | refine wo_i (show inR _ _ = some _ from in_isup _ _) ?_) | array_get_dec)
    refine ifQ_f (by decide) ?_
    repeat array_get_dec
    refine ifQ_f rfl ?_
    repeat array_get_dec
    refine ifQ_f rfl ?_
    repeat (first | (guard_target =~ wp _ _ _; first | refine wp_eq (hfa _) ?_) | (guard_target =~ wo _ _; first | refine wo_i Mq_ask ?_ | refine wo_i Mq_ia ?_) | refine Mq_any ?_ | array_get_dec)
    exact ⟨_, rfl⟩
theorem run_spec (n : Nat) {T : Ty} {d3 : Nat} {code : List In} {vs : List Vl} {ans : List Bool} {f : Nat} {res : MRes} (hf : f ≤ 999999) (hw : runM code vs ans f (0, none, []) = some res) (h1 : ∀ x ∈ res.1, QgM T d3 vs x) (h2 : ∀ x ∈ res.2, QgM T d3 vs x) (hl : res.2.length ≤ 1000) {μ : Mem} (hμ : ∀ c ∈ μ, ∀ m, okCell m c = true) :
    callN P (n + 5) "run_code" [.d (.tup (code.map encIn)), .d (.tup (encVs vs)), .d (.tup (ans.map .bl))] μ = .ok (.d (encTr vs res)) μ := by
  refine wp.ok (wp_call (d := f_run_code) rfl rfl ?_)
  have hmi := machine_init (n + 2) vs ans μ
  have hst := fun (i : In) (s : MSt) (t : MRes ⊕ MSt) h hq hr => step_spec n (T := T) (d3 := d3) (μ0 := μ) (vs := vs) (ans := ans) (i := i) (s := s) (t := t) h hq hr
  generalize callN P (n + 4) = C at hmi hst ⊢
  simp only [f_run_code, List.map_cons, List.map_nil, List.length_cons, List.length_nil, Nat.reduceAdd, Nat.reduceSub, List.replicate_succ, List.replicate_zero, List.cons_append, List.nil_append]
  repeat (first | (guard_target =~ wp _ _ _; first | refine wp_eq (hmi) ?_) | array_get_dec)
  refine w_while (fun f ρ μ' => (∃ (s : MSt), μ' = Mq μ vs ans s ∧ ρ = [.v (.d (.tup (code.map encIn))), .v (.d (.tup (encVs vs))), .v (.d (.tup (ans.map .bl))), .v (.p μ.length), .v (.d .non)] ∧ runM code vs ans f s = some res) ∨
      ∃ (s : MSt), μ' = Mq μ vs ans s ∧ ρ = [.v (.d (.tup (code.map encIn))), .v (.d (.tup (encVs vs))), .v (.d (.tup (ans.map .bl))), .v (.p μ.length), .v (.d (encTr vs res))])
    f (by omega) (.inl ⟨(0, none, []), rfl, rfl, hw⟩) ?_
  rintro f ρ _ (⟨s, rfl, rfl, hwk⟩ | ⟨s, rfl, rfl⟩)
  · repeat array_get_dec
    refine (if_pos rfl).mpr ?_
    cases f with
    | zero => cases hwk
    | succ f =>
      refine ⟨Nat.succ_pos f, ?_⟩
      have hsub := run_sub hwk
      obtain ⟨i, hi, hwk⟩ := Option.bind_eq_some_iff.mp hwk
      obtain ⟨t, ht, hwk⟩ := Option.bind_eq_some_iff.mp hwk
      obtain ⟨p, hd, qs⟩ := s
      have hix : ∀ μ, idxR (vw μ (.d (.tup (code.map encIn)))) (vw μ (.d (.int (p : Int)))) = some (.d (encIn i)) := fun μ => by
        rw [vw_d, vw_d]; exact idx_nat (by rw [List.getElem?_map, hi]; rfl)
      have hs := hst i (p, hd, qs) t ht (Nat.le_trans hsub.length_le hl) (by
        cases t with
        | inl r => cases hwk; exact ⟨h1, h2⟩
        | inr s' => exact fun x hx => h2 x ((run_sub hwk).subset hx))
      repeat (first | (guard_target = wo (idxR _ _) _; first | refine wo_i (show idxR _ _ = some _ from hix _) ?_) | (guard_target =~ wo _ _; first | refine wo_i Mq_io ?_ | refine wo_i Mq_place ?_) | array_get_dec)
      refine hs.mono (fun r ν h => ?_) fun _ _ h => h.elim
      cases t with
      | inl r' =>
        cases hwk
        obtain ⟨rfl, s', rfl⟩ := h
        repeat array_get_dec
        exact ⟨f, Nat.lt_succ_self f, .inr ⟨s', rfl, rfl⟩⟩
      | inr s' =>
        obtain ⟨rfl, rfl⟩ := h
        repeat array_get_dec
        exact ⟨f, Nat.lt_succ_self f, .inl ⟨s', rfl, rfl, hwk⟩⟩
  · repeat array_get_dec
    unfold Mq Aq
    rw [List.append_assoc]
    exact run_cut rfl rfl (List.all_eq_true.mpr fun c hc => hμ c hc _) ⟨rfl, rfl⟩
end K20
end

section
set_option maxHeartbeats 0
set_option linter.all false
set_option maxRecDepth 100000
set_option maxHeartbeats 0
namespace K20
open Ev
local macro_rules | `(tactic| array_get_dec) => `(tactic| first | (guard_target =~ wp _ _ _; first | refine w_sq ?_ | refine w_sAs ?_ | refine w_sIf ?_ | refine w_sRet ?_ | refine w_eV rfl ?_ | refine w_eC ?_ | refine w_ok ?_ | refine w_call ?_ | refine w_cons ?_ | refine w_nil ?_ | refine w_opMul ?_ | refine w_opMulL ?_ | refine w_op ?_ | refine w_idx ?_ | refine w_cmp ?_ | refine w_tup ?_ | refine w_bi ?_ | refine w_sNil ?_ | refine w_sAsT ?_ | refine w_sFor ?_ | refine w_iE ?_ | refine w_iEnum ?_ | refine w_iRange1 ?_ | refine w_iRange2 ?_ | refine w_iZip ?_ | refine w_comp ?_ | refine w_comp2 ?_ | refine w_yes ?_ | refine w_all ?_ | refine w_eB rfl ?_ | refine w_eBd rfl ?_ | refine w_lst ?_ | refine w_neg ?_ | refine w_ch ?_ | refine w_isN ?_ | refine w_notN ?_ | refine w_eT ?_ | refine w_tE ?_ | refine w_and' ?_ | refine w_or' ?_ | refine w_not ?_ | refine w_eNot ?_ | refine w_eIf ?_ | refine w_eAnd ?_ | refine w_eOr ?_ | refine w_oN ?_ | refine w_oE ?_ | refine w_slc ?_ | refine w_fld ?_ | refine w_meth ?_ | refine w_new ?_ | refine w_mk ?_ | refine w_sX ?_ | refine w_sAug rfl ?_ | refine w_sPar ?_ | refine w_sOwn ?_ | refine w_sCell ?_ | refine w_sFrz rfl ?_ | refine w_sFrzD rfl ?_ | refine w_sApp rfl ?_ | refine w_sExt rfl ?_ | refine w_sRev rfl ?_ | refine w_sSetI rfl ?_ | refine w_sSetD rfl ?_ | refine w_sAugI rfl ?_ | refine w_sRetN ?_ | refine w_sBrk ?_ | refine w_sCnt ?_ | refine w_raise ?_ | refine w_sFld ?_ | refine w_sFldAug ?_ | refine w_sAppC ?_ | refine w_exn ?_ | refine w_inN ?_ | refine w_getN ?_ | refine w_putN ?_ | refine w_dn ?_ | refine w_iRev1 ?_) | (guard_target = wo (valsR _) _; first | refine wo_i vals1 ?_ | refine wo_i vals2 ?_ | refine wo_i vals3 ?_ | refine wo_i vals4 ?_ | refine wo_i vals5 ?_ | refine wo_i vals0 ?_) | (guard_target = wo (subR _ _) _; first | refine wo_i (show subR _ _ = some _ from subR_int) ?_) | (guard_target = wo (addR _ _) _; first | refine wo_i (show addR _ _ = some _ from addR_int) ?_) | (guard_target = wo (ltR _ _) _; first | refine wo_i ltR_int ?_) | (guard_target = wo (leR _ _) _; first | refine wo_i leR_int ?_) | (guard_target = wo (gtR _ _) _; first | refine wo_i gtR_int ?_) | (guard_target = wo (geR _ _) _; first | refine wo_i geR_int ?_) | (guard_target = wo (eqR _ _) _; first | refine wo_i eqi_ok ?_ | refine wo_i eqs_ok ?_) | (guard_target = wo (neR _ _) _; first | refine wo_i nei_ok ?_ | refine wo_i nes_ok ?_) | (guard_target = wo (iaddR _ _) _; first | refine wo_i iadd_int ?_) | (guard_target = wo (lenR _) _; first | refine wo_i lenR_tup ?_ | refine wo_i lenR_lst ?_) | (guard_target = wo (intR _) _; first | refine wo_i intR_int ?_ | refine wo_i intR_bl ?_) | (guard_target = wo (tupleR _) _; first | refine wo_i tupleR_tup ?_ | refine wo_i tupleR_lst ?_) | (guard_target = wo (listR _) _; first | refine wo_i listR_tup ?_ | refine wo_i listR_lst ?_) | (guard_target = wo (maxR _) _; first | refine wo_i maxR_two ?_) | (guard_target = wo (minR _) _; first | refine wo_i minR_two ?_) | (guard_target = wo (truthR _) _; first | refine wo_i truthR_bl ?_ | refine wo_i truthR_int ?_) | (guard_target = wo (itemsR _) _; first | refine wo_i itemsR_tup ?_ | refine wo_i itemsR_lst ?_ | refine wo_i itemsR_ls ?_) | (guard_target = wo (ownR _) _; first | refine wo_i own_ds ?_ | refine wo_i (show ownR _ = some _ from rfl) ?_) | (guard_target = wo (idxR _ _) _; first | refine wo_i (show idxR _ _ = some _ from rfl) ?_) | (guard_target = wo (extR _) _; first | refine wo_i (show extR _ = some _ from rfl) ?_) | (guard_target = wo (enumR _) _; first | refine wo_i (show enumR _ = some _ from rfl) ?_) | (guard_target = wo (slcR _ _ _) _; first | refine wo_i (show slcR _ _ _ = some _ from rfl) ?_) | (guard_target = wo (insOf _ _ _) _; first | refine wo_i (show insOf _ _ _ = some _ from rfl) ?_) | (guard_target =~ wo _ _; first | refine wo_i tg1 ?_ | refine wo_i tg2 ?_ | refine wo_i tg3 ?_ | refine wo_i tg4 ?_ | refine wo_i tg12 ?_ | refine wo_i tg2l ?_ | refine wo_i tg3l ?_ | refine wo_i tg4l ?_) | (guard_target =~ gd _ _; first | refine gd_i ll1 ?_ | refine gd_i ll2 ?_ | refine gd_i ll3 ?_ | refine gd_i ll4 ?_ | refine gd_i ll5 ?_ | refine gd_i ll0 ?_ | refine gd_i (rfl : (_ : Bool) = true) ?_) | refine seq_nx ?_ | refine seq_rt ?_ | refine loop_nx ?_ | refine loop_rt ?_ | refine run_rt rfl ?_ | refine loop_ct ?_ | refine loop_bk ?_ | refine seq_bk ?_ | refine seq_ct ?_ | refine run_nx rfl ?_ | refine ⟨_, rfl, ?_⟩ | refine ⟨rfl, ?_⟩ | exact rfl)
def heldL : Option Vl → D
  | none => .tup []
  | some v => encV v
theorem lrun_spec (n : Nat) {T : Ty} {d3 : Nat} {code : List In} {vs : List Vl} {ans : List Bool} {f : Nat} {res : MRes} (hf : f ≤ 200) (hw : runM code vs ans f (0, none, []) = some res) (h1 : ∀ x ∈ res.1, QgM T d3 vs x) (h2 : ∀ x ∈ res.2, QgM T d3 vs x) (hl : res.2.length ≤ 1000) (μ : Mem) :
    callN P (n + 3) "_law_run" [.d (.tup (code.map encIn)), .d (.tup (encVs vs)), .d (.tup (ans.map .bl))] μ = .ok (.d (encTr vs res)) μ := by
  refine wp.ok (wp_call (d := f_law_run) rfl rfl ?_)
  have hbd := fun (l : List B1) hl h μ => law_bound_spec n (T := T) (d3 := d3) (vs := vs) (l := l) hl h μ
  generalize callN P (n + 2) = C at hbd ⊢
  have hms : ∀ (qs : List Qn), mkL (qs.map fun q => R.d (encQ vs q)) = .d (.lst (qs.map (encQ vs))) := fun qs => mkL_map _ _
  have htu : ∀ (qs : List Qn) μ, tupleR ([mkL (qs.map fun q => R.d (encQ vs q))].map (vw μ)) = some (.d (.tup (qs.map (encQ vs)))) := fun qs μ => by rw [hms]; rfl
  have hle : ∀ (qs : List Qn) (q : Qn) μ, lenR ([mkL ((qs ++ [q]).map fun q => R.d (encQ vs q))].map (vw μ)) = some (.d (.int ((qs.length + 1 : Nat) : Int))) := fun qs q μ => by rw [hms, List.map_cons, List.map_nil, vw_d, lenR_lst, List.length_map, List.length_append]; rfl
  have hla : ∀ μ, lenR ([.d (.tup (ans.map .bl))].map (vw μ)) = some (.d (.int (ans.length : Nat))) := fun μ => by rw [List.map_cons, List.map_nil, vw_d, lenR_tup, List.length_map]
  have hi1 : ∀ (qs : List Qn) (q : Qn) μ, idxR (vw μ (mkL ((qs ++ [q]).map fun q => R.d (encQ vs q)))) (vw μ (.d (.int (((qs.length + 1 : Nat) : Int) - 1)))) = some (.d (encQ vs q)) := fun qs q μ => by
    rw [hms, vw_d, vw_d, show ((qs.length + 1 : Nat) : Int) - 1 = ((qs.length : Nat) : Int) by omega]
    exact idxl_nat (by simp)
  simp only [f_law_run, List.map_cons, List.map_nil, List.length_cons, List.length_nil, Nat.reduceAdd, Nat.reduceSub, List.replicate_succ, List.replicate_zero, List.cons_append, List.nil_append]
  repeat array_get_dec
  refine gd_i (by decide) ?_
  refine w_forK (List.range 200) (fun k _ => .d (.int (k : Int))) (fun k _ ρ μ' => ∃ (p : Nat) (h : Option Vl) (qs : List Qn) (x6 x7 : Sl), μ' = μ ∧ ρ = [.v (.d (.tup (code.map encIn))), .v (.d (.tup (encVs vs))), .v (.d (.tup (ans.map .bl))), .own (qs.map fun q => R.d (encQ vs q)), .v (.d (heldL h)), .v (.d (.int (p : Int))), x6, x7] ∧ runM code vs ans (f - k) (p, h, qs) = some res)
    (fun k => ?_) ⟨0, none, [], _, _, rfl, rfl, hw⟩ ?_ ?_
  · exact (hx_range k).trans (by
      by_cases hk : k < 200
      · rw [List.getElem?_range hk]; rfl
      · rw [List.getElem?_eq_none (by simp; omega)]; rfl)
  · rintro k x rest _ _ hk hd ⟨p, h, qs, x6, x7, rfl, rfl, hwk⟩
    obtain ⟨g, hg⟩ : ∃ g, f - k = g := ⟨_, rfl⟩
    rw [hg] at hwk
    cases g with
    | zero => cases hwk
    | succ g =>
      have hg2 : f - (k + 1) = g := by omega
      have hsub := run_sub hwk
      obtain ⟨i, hi, hwk⟩ := Option.bind_eq_some_iff.mp hwk
      obtain ⟨t, ht, hwk⟩ := Option.bind_eq_some_iff.mp hwk
      have hix : ∀ μ, idxR (vw μ (.d (.tup (code.map encIn)))) (vw μ (.d (.int (p : Int)))) = some (.d (encIn i)) := fun μ => by
        rw [vw_d, vw_d]; exact idx_nat (by rw [List.getElem?_map, hi]; rfl)
      refine wo_i tg1 ?_
      rw [hg2]
      cases i with
      | arg j =>
        obtain ⟨v, hv, rfl⟩ := Option.map_eq_some_iff.mp ht
        have hiv : ∀ μ, idxR (vw μ (.d (.tup (encVs vs)))) (vw μ (.d (.int (j : Int)))) = some (.d (encV v)) := fun μ => by rw [vw_d, vw_d]; exact idx_nat (encVs_get hv)
        repeat (first | (guard_target = wo (idxR _ _) _; first | refine wo_i (show idxR _ _ = some _ from hix _) ?_) | array_get_dec)
        simp only [encIn]
        repeat array_get_dec
        refine ifQ_t rfl ?_
        repeat (first | (guard_target = wo (idxR _ _) _; first | refine wo_i (show idxR _ _ = some _ from hiv _) ?_) | array_get_dec)
        exact ⟨p + 1, some v, qs, _, _, rfl, rfl, hwk⟩
      | fld j =>
        cases h with
        | none => cases ht
        | some v => cases v with
          | int j => cases ht
          | mk c us =>
            obtain ⟨v, hv, rfl⟩ := Option.map_eq_some_iff.mp ht
            have hiv : ∀ μ, idxR (vw μ (.d (.tup (encVs us)))) (vw μ (.d (.int (j : Int)))) = some (.d (encV v)) := fun μ => by rw [vw_d, vw_d]; exact idx_nat (encVs_get hv)
            have hi2 : ∀ μ, idxR (vw μ (.d (heldL (some (.mk c us))))) (vw μ (.d (.int 2))) = some (.d (.tup (encVs us))) := fun μ => by simp only [heldL, encV]; rfl
            repeat (first | (guard_target = wo (idxR _ _) _; first | refine wo_i (show idxR _ _ = some _ from hix _) ?_) | array_get_dec)
            simp only [encIn]
            repeat array_get_dec
            refine ifQ_f rfl ?_
            repeat array_get_dec
            refine ifQ_t rfl ?_
            repeat (first | (guard_target = wo (idxR _ _) _; first | refine wo_i (show idxR _ _ = some _ from hi2 _) ?_ | refine wo_i (show idxR _ _ = some _ from hiv _) ?_) | array_get_dec)
            exact ⟨p + 1, some v, qs, _, _, rfl, rfl, hwk⟩
      | jump m =>
        cases ht
        repeat (first | (guard_target = wo (idxR _ _) _; first | refine wo_i (show idxR _ _ = some _ from hix _) ?_) | array_get_dec)
        simp only [encIn]
        repeat array_get_dec
        refine ifQ_f rfl ?_
        repeat array_get_dec
        refine ifQ_f rfl ?_
        repeat array_get_dec
        refine orQ_t rfl ?_
        refine ifQ_t rfl ?_
        repeat array_get_dec
        exact ⟨m, h, qs, _, _, rfl, rfl, hwk⟩
      | is c m =>
        cases h with
        | none => cases ht
        | some v => cases v with
          | int j => cases ht
          | mk c' us =>
            cases ht
            have hi2 : ∀ μ, idxR (vw μ (.d (heldL (some (.mk c' us))))) (vw μ (.d (.int 1))) = some (.d (.str c')) := fun μ => by simp only [heldL, encV]; rfl
            repeat (first | (guard_target = wo (idxR _ _) _; first | refine wo_i (show idxR _ _ = some _ from hix _) ?_) | array_get_dec)
            simp only [encIn]
            repeat array_get_dec
            refine ifQ_f rfl ?_
            repeat array_get_dec
            refine ifQ_f rfl ?_
            repeat array_get_dec
            refine orQ_f rfl ?_
            repeat array_get_dec
            refine andQ_t rfl ?_
            repeat (first | (guard_target = wo (idxR _ _) _; first | refine wo_i (show idxR _ _ = some _ from hi2 _) ?_) | array_get_dec)
            by_cases hc : c' = c
            · rw [if_pos hc] at hwk
              refine orQ_t (decide_eq_true hc) ?_
              refine ifQ_t rfl ?_
              repeat array_get_dec
              exact ⟨m, some (.mk c' us), qs, _, _, rfl, rfl, hwk⟩
            · rw [if_neg hc] at hwk
              refine orQ_f (decide_eq_false hc) ?_
              repeat array_get_dec
              refine andQ_f rfl ?_
              refine ifQ_f rfl ?_
              repeat array_get_dec
              refine ifQ_f rfl ?_
              repeat array_get_dec
              refine ifQ_f rfl ?_
              repeat array_get_dec
              refine ifQ_f rfl ?_
              repeat array_get_dec
              exact ⟨p + 1, some (.mk c' us), qs, _, _, rfl, rfl, hwk⟩
      | upto c m =>
        cases h with
        | none => cases ht
        | some v => cases v with
          | mk c' us => cases ht
          | int j =>
            cases ht
            have hi2 : ∀ μ, idxR (vw μ (.d (heldL (some (.int j))))) (vw μ (.d (.int 1))) = some (.d (.int j)) := fun μ => by simp only [heldL, encV]; rfl
            repeat (first | (guard_target = wo (idxR _ _) _; first | refine wo_i (show idxR _ _ = some _ from hix _) ?_) | array_get_dec)
            simp only [encIn]
            repeat array_get_dec
            refine ifQ_f rfl ?_
            repeat array_get_dec
            refine ifQ_f rfl ?_
            repeat array_get_dec
            refine orQ_f rfl ?_
            repeat array_get_dec
            refine andQ_f rfl ?_
            refine orQ_f rfl ?_
            repeat array_get_dec
            refine andQ_t rfl ?_
            repeat (first | (guard_target = wo (idxR _ _) _; first | refine wo_i (show idxR _ _ = some _ from hi2 _) ?_) | array_get_dec)
            by_cases hc : j ≤ c
            · rw [if_pos hc] at hwk
              refine ifQ_t (decide_eq_true hc) ?_
              repeat array_get_dec
              exact ⟨m, some (.int j), qs, _, _, rfl, rfl, hwk⟩
            · rw [if_neg hc] at hwk
              refine ifQ_f (decide_eq_false hc) ?_
              repeat array_get_dec
              refine ifQ_f rfl ?_
              repeat array_get_dec
              refine ifQ_f rfl ?_
              repeat array_get_dec
              refine ifQ_f rfl ?_
              repeat array_get_dec
              exact ⟨p + 1, some (.int j), qs, _, _, rfl, rfl, hwk⟩
      | take c bs =>
        cases ht
        cases hwk
        obtain ⟨b1, b2, b3⟩ := h1 (c, bs) rfl
        have b2 : bs.length ≤ 12 := b2
        have hb := fun μ => hbd bs (by omega) b3 μ
        have hls : ∀ μ, listR ([.d (encBs bs)].map (vw μ)) = some (.d (encLB bs)) := fun μ => rfl
        repeat (first | (guard_target = wo (idxR _ _) _; first | refine wo_i (show idxR _ _ = some _ from hix _) ?_) | array_get_dec)
        simp only [encIn]
        repeat array_get_dec
        refine ifQ_f rfl ?_
        repeat array_get_dec
        refine ifQ_f rfl ?_
        repeat array_get_dec
        refine orQ_f rfl ?_
        repeat array_get_dec
        refine andQ_f rfl ?_
        refine orQ_f rfl ?_
        repeat array_get_dec
        refine andQ_f rfl ?_
        refine ifQ_f rfl ?_
        repeat array_get_dec
        refine ifQ_t rfl ?_
        repeat (first | (guard_target =~ wp _ _ _; first | refine wp_eq (hb _) ?_) | (guard_target =~ wo _ _; first | refine wo_i (hls _) ?_ | refine wo_i (htu _ _) ?_) | array_get_dec)
      | ask c bs m =>
        simp only [stpM] at ht
        have hmem : QgM T d3 vs (c, bs) := h2 _ (by
          by_cases ha : ans[qs.length]? = some true
          · rw [if_pos ha] at ht; cases ht; cases hwk; simp
          · rw [if_neg ha] at ht; cases ht; exact (run_sub hwk).subset (by simp))
        obtain ⟨b1, b2, b3⟩ := hmem
        have b2 : bs.length ≤ 12 := b2
        have hb := fun μ => hbd bs (by omega) b3 μ
        have hls : ∀ μ, listR ([.d (encBs bs)].map (vw μ)) = some (.d (encLB bs)) := fun μ => rfl
        have hql : qs.length ≤ 1000 := Nat.le_trans hsub.length_le hl
        repeat (first | (guard_target = wo (idxR _ _) _; first | refine wo_i (show idxR _ _ = some _ from hix _) ?_) | array_get_dec)
        simp only [encIn]
        repeat array_get_dec
        refine ifQ_f rfl ?_
        repeat array_get_dec
        refine ifQ_f rfl ?_
        repeat array_get_dec
        refine orQ_f rfl ?_
        repeat array_get_dec
        refine andQ_f rfl ?_
        refine orQ_f rfl ?_
        repeat array_get_dec
        refine andQ_f rfl ?_
        refine ifQ_f rfl ?_
        repeat array_get_dec
        refine ifQ_f rfl ?_
        repeat array_get_dec
        refine ifQ_t rfl ?_
        repeat (first | (guard_target =~ wp _ _ _; first | refine wp_eq (hb _) ?_) | (guard_target =~ wo _ _; first | refine wo_i (hls _) ?_) | array_get_dec)
        refine gd_i (by rw [List.length_map]; unfold SL; omega) ?_
        rw [show (qs.map fun q => R.d (encQ vs q)) ++ [R.d (.tup [.int (c : Int), encBd vs bs])] = (qs ++ [(c, bs)]).map fun q => R.d (encQ vs q) by rw [List.map_append]; rfl]
        repeat (first | (guard_target =~ wo _ _; first | refine wo_i (hle _ _ _) ?_ | refine wo_i (hla _) ?_) | array_get_dec)
        by_cases hlt : qs.length < ans.length
        · refine andQ_t (decide_eq_true (by omega)) ?_
          have hidx2 : ∀ μ, idxR (vw μ (.d (.tup (ans.map .bl)))) (vw μ (.d (.int (((qs.length + 1 : Nat) : Int) - 1)))) = some (.d (.bl ans[qs.length])) := fun μ => by
            rw [vw_d, vw_d, show ((qs.length + 1 : Nat) : Int) - 1 = ((qs.length : Nat) : Int) by omega]
            exact idx_nat (by rw [List.getElem?_map, List.getElem?_eq_getElem hlt]; rfl)
          repeat (first | (guard_target = wo (idxR _ _) _; first | refine wo_i (show idxR _ _ = some _ from hidx2 _) ?_) | (guard_target =~ wo _ _; first | refine wo_i (hle _ _ _) ?_) | array_get_dec)
          cases hb : ans[qs.length] with
          | true =>
            rw [if_pos (by rw [List.getElem?_eq_getElem hlt, hb])] at ht
            cases ht
            cases hwk
            refine ifQ_t rfl ?_
            repeat (first | (guard_target = wo (idxR _ _) _; first | refine wo_i (show idxR _ _ = some _ from hi1 _ _ _) ?_) | (guard_target =~ wo _ _; first | refine wo_i (hle _ _ _) ?_ | refine wo_i (htu _ _) ?_) | array_get_dec)
          | false =>
            rw [if_neg (by rw [List.getElem?_eq_getElem hlt, hb]; simp)] at ht
            cases ht
            refine ifQ_f rfl ?_
            repeat array_get_dec
            exact ⟨m, h, qs ++ [(c, bs)], _, _, rfl, rfl, hwk⟩
        · refine andQ_f (decide_eq_false (by omega)) ?_
          refine ifQ_f rfl ?_
          rw [if_neg (by rw [List.getElem?_eq_none (by omega)]; simp)] at ht
          cases ht
          repeat array_get_dec
          exact ⟨m, h, qs ++ [(c, bs)], _, _, rfl, rfl, hwk⟩
      | fail =>
        cases ht
        cases hwk
        repeat (first | (guard_target = wo (idxR _ _) _; first | refine wo_i (show idxR _ _ = some _ from hix _) ?_) | array_get_dec)
        simp only [encIn]
        repeat array_get_dec
        refine ifQ_f rfl ?_
        repeat array_get_dec
        refine ifQ_f rfl ?_
        repeat array_get_dec
        refine orQ_f rfl ?_
        repeat array_get_dec
        refine andQ_f rfl ?_
        refine orQ_f rfl ?_
        repeat array_get_dec
        refine andQ_f rfl ?_
        refine ifQ_f rfl ?_
        repeat array_get_dec
        refine ifQ_f rfl ?_
        repeat array_get_dec
        refine ifQ_f rfl ?_
        repeat array_get_dec
        refine ifQ_t rfl ?_
        repeat (first | (guard_target =~ wo _ _; first | refine wo_i (htu _ _) ?_) | array_get_dec)
  · rintro _ _ ⟨p, h, qs, x6, x7, rfl, rfl, hwk⟩
    rw [List.length_range, show f - 200 = 0 by omega] at hwk
    cases hwk
end K20
end

section
set_option maxHeartbeats 0
set_option linter.all false
set_option maxRecDepth 100000
set_option maxHeartbeats 0
namespace K20
open Ev
local macro_rules | `(tactic| array_get_dec) => `(tactic| first | (guard_target =~ wp _ _ _; first | refine w_sq ?_ | refine w_sAs ?_ | refine w_sIf ?_ | refine w_sRet ?_ | refine w_eV rfl ?_ | refine w_eC ?_ | refine w_ok ?_ | refine w_call ?_ | refine w_cons ?_ | refine w_nil ?_ | refine w_opMul ?_ | refine w_opMulL ?_ | refine w_op ?_ | refine w_idx ?_ | refine w_cmp ?_ | refine w_tup ?_ | refine w_bi ?_ | refine w_sNil ?_ | refine w_sAsT ?_ | refine w_sFor ?_ | refine w_iE ?_ | refine w_iEnum ?_ | refine w_iRange1 ?_ | refine w_iRange2 ?_ | refine w_iZip ?_ | refine w_comp ?_ | refine w_comp2 ?_ | refine w_yes ?_ | refine w_all ?_ | refine w_eB rfl ?_ | refine w_eBd rfl ?_ | refine w_lst ?_ | refine w_neg ?_ | refine w_ch ?_ | refine w_isN ?_ | refine w_notN ?_ | refine w_eT ?_ | refine w_tE ?_ | refine w_and' ?_ | refine w_or' ?_ | refine w_not ?_ | refine w_eNot ?_ | refine w_eIf ?_ | refine w_eAnd ?_ | refine w_eOr ?_ | refine w_oN ?_ | refine w_oE ?_ | refine w_slc ?_ | refine w_fld ?_ | refine w_meth ?_ | refine w_new ?_ | refine w_mk ?_ | refine w_sX ?_ | refine w_sAug rfl ?_ | refine w_sPar ?_ | refine w_sOwn ?_ | refine w_sCell ?_ | refine w_sFrz rfl ?_ | refine w_sFrzD rfl ?_ | refine w_sApp rfl ?_ | refine w_sExt rfl ?_ | refine w_sRev rfl ?_ | refine w_sSetI rfl ?_ | refine w_sSetD rfl ?_ | refine w_sAugI rfl ?_ | refine w_sRetN ?_ | refine w_sBrk ?_ | refine w_sCnt ?_ | refine w_raise ?_ | refine w_sFld ?_ | refine w_sFldAug ?_ | refine w_sAppC ?_ | refine w_exn ?_ | refine w_inN ?_ | refine w_getN ?_ | refine w_putN ?_ | refine w_dn ?_ | refine w_iRev1 ?_) | (guard_target = wo (valsR _) _; first | refine wo_i vals1 ?_ | refine wo_i vals2 ?_ | refine wo_i vals3 ?_ | refine wo_i vals4 ?_ | refine wo_i vals5 ?_ | refine wo_i vals0 ?_) | (guard_target = wo (subR _ _) _; first | refine wo_i (show subR _ _ = some _ from subR_int) ?_) | (guard_target = wo (addR _ _) _; first | refine wo_i (show addR _ _ = some _ from addR_int) ?_) | (guard_target = wo (ltR _ _) _; first | refine wo_i ltR_int ?_) | (guard_target = wo (leR _ _) _; first | refine wo_i leR_int ?_) | (guard_target = wo (gtR _ _) _; first | refine wo_i gtR_int ?_) | (guard_target = wo (geR _ _) _; first | refine wo_i geR_int ?_) | (guard_target = wo (eqR _ _) _; first | refine wo_i eqi_ok ?_ | refine wo_i eqs_ok ?_) | (guard_target = wo (neR _ _) _; first | refine wo_i nei_ok ?_ | refine wo_i nes_ok ?_) | (guard_target = wo (iaddR _ _) _; first | refine wo_i iadd_int ?_) | (guard_target = wo (lenR _) _; first | refine wo_i lenR_tup ?_ | refine wo_i lenR_lst ?_) | (guard_target = wo (intR _) _; first | refine wo_i intR_int ?_ | refine wo_i intR_bl ?_) | (guard_target = wo (tupleR _) _; first | refine wo_i tupleR_tup ?_ | refine wo_i tupleR_lst ?_) | (guard_target = wo (listR _) _; first | refine wo_i listR_tup ?_ | refine wo_i listR_lst ?_) | (guard_target = wo (maxR _) _; first | refine wo_i maxR_two ?_) | (guard_target = wo (minR _) _; first | refine wo_i minR_two ?_) | (guard_target = wo (truthR _) _; first | refine wo_i truthR_bl ?_ | refine wo_i truthR_int ?_) | (guard_target = wo (itemsR _) _; first | refine wo_i itemsR_tup ?_ | refine wo_i itemsR_lst ?_ | refine wo_i itemsR_ls ?_) | (guard_target = wo (ownR _) _; first | refine wo_i own_ds ?_ | refine wo_i (show ownR _ = some _ from rfl) ?_) | (guard_target = wo (idxR _ _) _; first | refine wo_i (show idxR _ _ = some _ from rfl) ?_) | (guard_target = wo (extR _) _; first | refine wo_i (show extR _ = some _ from rfl) ?_) | (guard_target = wo (enumR _) _; first | refine wo_i (show enumR _ = some _ from rfl) ?_) | (guard_target = wo (slcR _ _ _) _; first | refine wo_i (show slcR _ _ _ = some _ from rfl) ?_) | (guard_target = wo (insOf _ _ _) _; first | refine wo_i (show insOf _ _ _ = some _ from rfl) ?_) | (guard_target =~ wo _ _; first | refine wo_i tg1 ?_ | refine wo_i tg2 ?_ | refine wo_i tg3 ?_ | refine wo_i tg4 ?_ | refine wo_i tg12 ?_ | refine wo_i tg2l ?_ | refine wo_i tg3l ?_ | refine wo_i tg4l ?_) | (guard_target =~ gd _ _; first | refine gd_i ll1 ?_ | refine gd_i ll2 ?_ | refine gd_i ll3 ?_ | refine gd_i ll4 ?_ | refine gd_i ll5 ?_ | refine gd_i ll0 ?_ | refine gd_i (rfl : (_ : Bool) = true) ?_) | refine seq_nx ?_ | refine seq_rt ?_ | refine loop_nx ?_ | refine loop_rt ?_ | refine run_rt rfl ?_ | refine loop_ct ?_ | refine loop_bk ?_ | refine seq_bk ?_ | refine seq_ct ?_ | refine run_nx rfl ?_ | refine ⟨_, rfl, ?_⟩ | refine ⟨rfl, ?_⟩ | exact rfl)
theorem vAt_snoc {c : String} {ws : List Vl} {i : Nat} {x : Vl} (hx : ws[i]? = some x) : ∀ {r : List Nat} {v : Vl}, vAt v r = some (.mk c ws) → vAt v (r ++ [i]) = some x
  | [], v, h => by
    cases h
    simp only [List.nil_append, vAt, hx]
  | a :: r, .int _, h => by simp [vAt] at h
  | a :: r, .mk _ us, h => by
    simp only [List.cons_append, vAt] at h ⊢
    cases hu : us[a]? with
    | none => rw [hu] at h; cases h
    | some u => rw [hu] at h; exact vAt_snoc hx h
def Wk (T : Ty) (vs : List Vl) (i : Nat) (rr : List Nat) (w : Vl) : Prop := ∃ (v : Vl) (f : String) (d : Nat), vs[i]? = some v ∧ vAt v rr = some w ∧ d + rr.length ≤ 4 ∧ Wv T d f w
def pth (i : Nat) (rr : List Nat) : List Int := (i : Int) :: rr.map fun (n : Nat) => (n : Int)
theorem Wk.path {T : Ty} {vs : List Vl} {i : Nat} {rr : List Nat} {w : Vl} (h : Wk T vs i rr w) : PathOk T 4 vs (pth i rr) := by
  obtain ⟨v, f, d, h1, h2, h3, h4⟩ := h
  exact ⟨i, rr, v, w, f, rfl, h1, h2, h4.up (by omega)⟩
theorem walked_spec {T : Ty} (g : GoodT T) (digs : List Int) {ns : List String} {vs : List Vl} (hv : WV T 4 ns vs) (h1 : 1 ≤ vs.length) (h3 : vs.length ≤ 3) (n k : Nat) : ∃ (i : Nat) (rr : List Nat) (w : Vl) (k' : Nat), Wk T vs i rr w ∧
    callN P (n + 2) "_law_walked" [.p 0, .d (.tup (encVs vs))] (Bx [] digs k) = .ok (.d (.lst [encPath (pth i rr), encV w])) (Bx [] digs k') := by
  suffices hh : wp (callN P (n + 2) "_law_walked" [.p 0, .d (.tup (encVs vs))] (Bx [] digs k)) (fun r ν => ∃ (i : Nat) (rr : List Nat) (w : Vl) (k' : Nat), Wk T vs i rr w ∧ r = .d (.lst [encPath (pth i rr), encV w]) ∧ ν = Bx [] digs k') fun _ _ => False by
    obtain ⟨r, ν, e, i, rr, w, k', q1, rfl, rfl⟩ := wp_ex hh
    exact ⟨i, rr, w, k', q1, e⟩
  refine wp_call (d := f_law_walked) rfl rfl ?_
  have hd := fun (m : Int) (k : Nat) (h : 0 < m) => draw_spec n [] digs k m h
  generalize callN P (n + 1) = C at hd ⊢
  obtain ⟨v1, a1, b1, d1⟩ := hd 90 k (by omega)
  obtain ⟨v2, a2, b2, d2⟩ := hd 4 (k + 1) (by omega)
  have hcl : ∀ (us : List Vl) μ, lenR ([.d (.tup (encVs us))].map (vw μ)) = some (.d (.int (us.length : Nat))) := fun us μ => by rw [List.map_cons, List.map_nil, vw_d, lenR_tup, encVs_map, List.length_map]
  obtain ⟨i, hi⟩ : ∃ i : Nat, v1 % (vs.length : Int) = (i : Int) := ⟨(v1 % (vs.length : Int)).toNat, by have := Int.emod_nonneg v1 (show (vs.length : Int) ≠ 0 by omega); omega⟩
  have hil : i < vs.length := by have := Int.emod_lt_of_pos v1 (show 0 < (vs.length : Int) by omega); omega
  have hmod : ∀ μ, modR (vw μ (.d (.int v1))) (vw μ (.d (.int (vs.length : Int)))) = some (.d (.int (i : Int))) := fun μ => by rw [← hi]; exact modR_ok (by omega)
  obtain ⟨v, hv0⟩ : ∃ v, vs[i]? = some v := ⟨_, List.getElem?_eq_getElem hil⟩
  have hix : ∀ μ, idxR (vw μ (.d (.tup (encVs vs)))) (vw μ (.d (.int (i : Int)))) = some (.d (encV v)) := fun μ => by rw [vw_d, vw_d]; exact idx_nat (encVs_get hv0)
  obtain ⟨f0, hf0⟩ : ∃ f, ns[i]? = some f := ⟨_, List.getElem?_eq_getElem (by have := hv.1; omega)⟩
  simp only [f_law_walked, List.map_cons, List.map_nil, List.length_cons, List.length_nil, Nat.reduceAdd, Nat.reduceSub, List.replicate_succ, List.replicate_zero, List.cons_append, List.nil_append]
  repeat (first | (guard_target =~ wp _ _ _; first | refine wp_eq (d1) ?_ | refine wp_eq (d2) ?_) | (guard_target = wo (modR _ _) _; first | refine wo_i (show modR _ _ = some _ from hmod _) ?_) | (guard_target = wo (idxR _ _) _; first | refine wo_i (show idxR _ _ = some _ from hix _) ?_) | (guard_target =~ wo _ _; first | refine wo_i (hcl _ _) ?_) | array_get_dec)
  obtain ⟨m, rfl⟩ : ∃ m : Nat, v2 = (m : Int) := ⟨v2.toNat, by omega⟩
  refine ⟨_, rfl, gd_i (by omega) ?_⟩
  refine w_forK (List.range m) (fun _ (i : Nat) => R.d (.int (i : Int))) (fun j _ ρ μ' => ∃ (rr : List Nat) (w : Vl) (k' d : Nat) (f : String) (x4 x5 : Sl), μ' = Bx [] digs k' ∧ ρ = [.v (.p 0), .v (.d (.tup (encVs vs))), .v (.d (encPath (pth i rr))), .v (.d (encV w)), x4, x5] ∧ vAt v rr = some w ∧ d + rr.length = 4 ∧ rr.length ≤ j ∧ Wv T d f w)
    (fun k => (hx_range k)) ⟨[], v, k + 2, 4, f0, _, _, rfl, rfl, rfl, rfl, Nat.le_refl _, hv.2 i f0 v hf0 hv0⟩ ?_ ?_
  · rintro j x rest _ _ hj hr ⟨rr, w, k', d, f, x4, x5, rfl, rfl, e1, e2, e3, e4⟩
    refine wo_i tg1 ?_
    cases w with
    | int a =>
      have hk0 : ∀ μ, idxR (vw μ (.d (encV (.int a)))) (vw μ (.d (.int 0))) = some (.d (.str "int")) := fun μ => rfl
      repeat (first | (guard_target = wo (idxR _ _) _; first | refine wo_i (show idxR _ _ = some _ from hk0 _) ?_) | array_get_dec)
      refine andQ_f rfl ?_
      refine ifQ_f rfl ?_
      repeat array_get_dec
      exact ⟨rr, .int a, k', d, f, _, _, rfl, rfl, e1, e2, by omega, e4⟩
    | mk c us =>
      have hk0 : ∀ μ, idxR (vw μ (.d (encV (.mk c us)))) (vw μ (.d (.int 0))) = some (.d (.str "make")) := fun μ => by simp only [encV]; rfl
      have hk2 : ∀ μ, idxR (vw μ (.d (encV (.mk c us)))) (vw μ (.d (.int 2))) = some (.d (.tup (encVs us))) := fun μ => by simp only [encV]; rfl
      repeat (first | (guard_target = wo (idxR _ _) _; first | refine wo_i (show idxR _ _ = some _ from hk0 _) ?_) | array_get_dec)
      refine andQ_t rfl ?_
      repeat (first | (guard_target = wo (idxR _ _) _; first | refine wo_i (show idxR _ _ = some _ from hk2 _) ?_) | (guard_target =~ wo _ _; first | refine wo_i (hcl _ _) ?_) | array_get_dec)
      by_cases h0 : us.length = 0
      · refine ifQ_f (decide_eq_false (by omega)) ?_
        repeat array_get_dec
        exact ⟨rr, .mk c us, k', d, f, _, _, rfl, rfl, e1, e2, by omega, e4⟩
      · refine ifQ_t (decide_eq_true (by omega)) ?_
        obtain ⟨u, u1, u2, hu⟩ := hd 90 k' (by omega)
        obtain ⟨a, ha⟩ : ∃ a : Nat, u % (us.length : Int) = (a : Int) := ⟨(u % (us.length : Int)).toNat, by have := Int.emod_nonneg u (show (us.length : Int) ≠ 0 by omega); omega⟩
        have hal : a < us.length := by have := Int.emod_lt_of_pos u (show 0 < (us.length : Int) by omega); omega
        have hmo : ∀ μ, modR (vw μ (.d (.int u))) (vw μ (.d (.int (us.length : Int)))) = some (.d (.int (a : Int))) := fun μ => by rw [← ha]; exact modR_ok (by omega)
        obtain ⟨x, hx⟩ : ∃ x, us[a]? = some x := ⟨_, List.getElem?_eq_getElem hal⟩
        have hix2 : ∀ μ, idxR (vw μ (.d (.tup (encVs us)))) (vw μ (.d (.int (a : Int)))) = some (.d (encV x)) := fun μ => by rw [vw_d, vw_d]; exact idx_nat (encVs_get hx)
        obtain ⟨_, d', hd', hpp⟩ := e4.parts g
        obtain ⟨f', _, hw'⟩ := hpp x (List.mem_of_getElem? hx)
        have hrr : rr.length ≤ 4 := by omega
        have hadd : ∀ μ, addR (vw μ (.d (encPath (pth i rr)))) (vw μ (.d (.tup [.int (a : Int)]))) = some (.d (encPath (pth i (rr ++ [a])))) := fun μ => by
          rw [vw_d, vw_d]
          unfold encPath pth
          rw [addR, if_pos (by simp [SL]; omega)]
          simp
        repeat (first | (guard_target =~ wp _ _ _; first | refine wp_eq (hu) ?_) | (guard_target = wo (idxR _ _) _; first | refine wo_i (show idxR _ _ = some _ from hk2 _) ?_ | refine wo_i (show idxR _ _ = some _ from hix2 _) ?_) | (guard_target = wo (modR _ _) _; first | refine wo_i (show modR _ _ = some _ from hmo _) ?_) | (guard_target = wo (addR _ _) _; first | refine wo_i (show addR _ _ = some _ from hadd _) ?_) | (guard_target =~ wo _ _; first | refine wo_i (hcl _ _) ?_) | array_get_dec)
        exact ⟨rr ++ [a], x, _, d', f', _, _, rfl, rfl, vAt_snoc hx e1, by rw [List.length_append, List.length_singleton]; omega, by rw [List.length_append, List.length_singleton]; omega, hw'⟩
  · rintro _ _ ⟨rr, w, k', d, f, x4, x5, rfl, rfl, e1, e2, e3, e4⟩
    repeat array_get_dec
    exact ⟨i, rr, w, k', ⟨v, f, d, hv0, e1, by omega, e4⟩, rfl, rfl⟩
end K20
end

section
set_option maxHeartbeats 0
set_option linter.all false
set_option maxRecDepth 100000
set_option maxHeartbeats 0
namespace K20
open Ev
local macro_rules | `(tactic| array_get_dec) => `(tactic| first | (guard_target =~ wp _ _ _; first | refine w_sq ?_ | refine w_sAs ?_ | refine w_sIf ?_ | refine w_sRet ?_ | refine w_eV rfl ?_ | refine w_eC ?_ | refine w_ok ?_ | refine w_call ?_ | refine w_cons ?_ | refine w_nil ?_ | refine w_opMul ?_ | refine w_opMulL ?_ | refine w_op ?_ | refine w_idx ?_ | refine w_cmp ?_ | refine w_tup ?_ | refine w_bi ?_ | refine w_sNil ?_ | refine w_sAsT ?_ | refine w_sFor ?_ | refine w_iE ?_ | refine w_iEnum ?_ | refine w_iRange1 ?_ | refine w_iRange2 ?_ | refine w_iZip ?_ | refine w_comp ?_ | refine w_comp2 ?_ | refine w_yes ?_ | refine w_all ?_ | refine w_eB rfl ?_ | refine w_eBd rfl ?_ | refine w_lst ?_ | refine w_neg ?_ | refine w_ch ?_ | refine w_isN ?_ | refine w_notN ?_ | refine w_eT ?_ | refine w_tE ?_ | refine w_and' ?_ | refine w_or' ?_ | refine w_not ?_ | refine w_eNot ?_ | refine w_eIf ?_ | refine w_eAnd ?_ | refine w_eOr ?_ | refine w_oN ?_ | refine w_oE ?_ | refine w_slc ?_ | refine w_fld ?_ | refine w_meth ?_ | refine w_new ?_ | refine w_mk ?_ | refine w_sX ?_ | refine w_sAug rfl ?_ | refine w_sPar ?_ | refine w_sOwn ?_ | refine w_sCell ?_ | refine w_sFrz rfl ?_ | refine w_sFrzD rfl ?_ | refine w_sApp rfl ?_ | refine w_sExt rfl ?_ | refine w_sRev rfl ?_ | refine w_sSetI rfl ?_ | refine w_sSetD rfl ?_ | refine w_sAugI rfl ?_ | refine w_sRetN ?_ | refine w_sBrk ?_ | refine w_sCnt ?_ | refine w_raise ?_ | refine w_sFld ?_ | refine w_sFldAug ?_ | refine w_sAppC ?_ | refine w_exn ?_ | refine w_inN ?_ | refine w_getN ?_ | refine w_putN ?_ | refine w_dn ?_ | refine w_iRev1 ?_) | (guard_target = wo (valsR _) _; first | refine wo_i vals1 ?_ | refine wo_i vals2 ?_ | refine wo_i vals3 ?_ | refine wo_i vals4 ?_ | refine wo_i vals5 ?_ | refine wo_i vals0 ?_) | (guard_target = wo (subR _ _) _; first | refine wo_i (show subR _ _ = some _ from subR_int) ?_) | (guard_target = wo (addR _ _) _; first | refine wo_i (show addR _ _ = some _ from addR_int) ?_) | (guard_target = wo (ltR _ _) _; first | refine wo_i ltR_int ?_) | (guard_target = wo (leR _ _) _; first | refine wo_i leR_int ?_) | (guard_target = wo (gtR _ _) _; first | refine wo_i gtR_int ?_) | (guard_target = wo (geR _ _) _; first | refine wo_i geR_int ?_) | (guard_target = wo (eqR _ _) _; first | refine wo_i eqi_ok ?_ | refine wo_i eqs_ok ?_ | refine wo_i (show eqR _ _ = some _ from rfl) ?_) | (guard_target = wo (neR _ _) _; first | refine wo_i nei_ok ?_ | refine wo_i nes_ok ?_ | refine wo_i (show neR _ _ = some _ from rfl) ?_) | (guard_target = wo (iaddR _ _) _; first | refine wo_i iadd_int ?_) | (guard_target = wo (lenR _) _; first | refine wo_i lenR_tup ?_ | refine wo_i lenR_lst ?_) | (guard_target = wo (intR _) _; first | refine wo_i intR_int ?_ | refine wo_i intR_bl ?_) | (guard_target = wo (tupleR _) _; first | refine wo_i tupleR_tup ?_ | refine wo_i tupleR_lst ?_) | (guard_target = wo (listR _) _; first | refine wo_i listR_tup ?_ | refine wo_i listR_lst ?_) | (guard_target = wo (maxR _) _; first | refine wo_i maxR_two ?_) | (guard_target = wo (minR _) _; first | refine wo_i minR_two ?_) | (guard_target = wo (truthR _) _; first | refine wo_i truthR_bl ?_ | refine wo_i truthR_int ?_ | refine wo_i (show truthR _ = some _ from rfl) ?_) | (guard_target = wo (itemsR _) _; first | refine wo_i itemsR_tup ?_ | refine wo_i itemsR_lst ?_ | refine wo_i itemsR_ls ?_) | (guard_target = wo (ownR _) _; first | refine wo_i own_ds ?_ | refine wo_i (show ownR _ = some _ from rfl) ?_) | (guard_target = wo (idxR _ _) _; first | refine wo_i (show idxR _ _ = some _ from rfl) ?_) | (guard_target = wo (addI _ _) _; first | refine wo_i (show addI _ _ = some _ from rfl) ?_) | (guard_target = wo (extR _) _; first | refine wo_i (show extR _ = some _ from rfl) ?_) | (guard_target = wo (enumR _) _; first | refine wo_i (show enumR _ = some _ from rfl) ?_) | (guard_target = wo (slcR _ _ _) _; first | refine wo_i (show slcR _ _ _ = some _ from rfl) ?_) | (guard_target = wo (insOf _ _ _) _; first | refine wo_i (show insOf _ _ _ = some _ from rfl) ?_) | (guard_target =~ wo _ _; first | refine wo_i tg1 ?_ | refine wo_i tg2 ?_ | refine wo_i tg3 ?_ | refine wo_i tg4 ?_ | refine wo_i tg12 ?_ | refine wo_i tg2l ?_ | refine wo_i tg3l ?_ | refine wo_i tg4l ?_) | (guard_target =~ gd _ _; first | refine gd_i ll1 ?_ | refine gd_i ll2 ?_ | refine gd_i ll3 ?_ | refine gd_i ll4 ?_ | refine gd_i ll5 ?_ | refine gd_i ll0 ?_ | refine gd_i (rfl : (_ : Bool) = true) ?_) | refine seq_nx ?_ | refine seq_rt ?_ | refine loop_nx ?_ | refine loop_rt ?_ | refine run_rt rfl ?_ | refine loop_ct ?_ | refine loop_bk ?_ | refine seq_bk ?_ | refine seq_ct ?_ | refine run_nx rfl ?_ | refine ⟨_, rfl, ?_⟩ | refine ⟨rfl, ?_⟩ | exact rfl)
inductive LRow where
  | ins (i : In) | mark (l : Nat)
def encR : LRow → D
  | .ins i => encIn i
  | .mark l => .tup [.str "mark", .int l]
structure Bk where
  i : Nat
  rr : List Nat
  w : Vl
  tst : In
  knd : Option In
def BdOk (T : Ty) (vs : List Vl) (bs : List B1) : Prop := bs.length ≤ 2 ∧ srt bs = bs ∧ ∀ b ∈ bs, b.1.length ≤ 1 ∧ PathOk T 4 vs b.2
def TstOk (w : Vl) (l : Nat) (i : In) : Prop := match w with
  | .int _ => ∃ j, i = .upto j l
  | .mk _ _ => ∃ c, i = .is c l
def KndOk (T : Ty) (vs : List Vl) (t : Nat) : Option In → Prop
  | none => True
  | some (.jump l) => l = 900 + t
  | some (.ask c bs l) => c = t ∧ l = 900 + t ∧ BdOk T vs bs
  | some (.take c bs) => c = t ∧ BdOk T vs bs
  | _ => False
def BkOk (T : Ty) (vs : List Vl) (t : Nat) (b : Bk) : Prop := Wk T vs b.i b.rr b.w ∧ TstOk b.w (900 + t) b.tst ∧ KndOk T vs t b.knd
def blkR (t : Nat) (b : Bk) : List LRow := .ins (.arg b.i) :: (b.rr.map fun j => .ins (.fld j)) ++ [.ins b.tst] ++ (b.knd.toList.map .ins) ++ [.mark (900 + t)]
def rowsB : Nat → List Bk → List LRow
  | _, [] => []
  | t, b :: bs => blkR t b ++ rowsB (t + 1) bs
theorem rowsB_snoc (b : Bk) : ∀ (bs : List Bk) (t : Nat), rowsB t (bs ++ [b]) = rowsB t bs ++ blkR (t + bs.length) b
  | [], t => by simp [rowsB]
  | c :: bs, t => by rw [List.cons_append, rowsB, rowsB, rowsB_snoc b bs, List.append_assoc, List.length_cons, Nat.add_right_comm, Nat.add_assoc]
theorem blkR_len {T : Ty} {vs : List Vl} {t : Nat} {b : Bk} (h : BkOk T vs t b) : (blkR t b).length ≤ 8 := by
  obtain ⟨⟨_, _, d, _, _, h1, _⟩, _, _⟩ := h
  unfold blkR
  simp only [List.length_append, List.length_cons, List.length_map, List.length_nil]
  have : b.knd.toList.length ≤ 1 := by cases b.knd <;> simp
  omega
theorem rowsB_len {T : Ty} {vs : List Vl} : ∀ (bs : List Bk) (t : Nat), (∀ (i : Nat) (b : Bk), bs[i]? = some b → BkOk T vs (t + i) b) → (rowsB t bs).length ≤ 8 * bs.length
  | [], t, _ => by simp [rowsB]
  | b :: bs, t, h => by
    have h1 : (blkR t b).length ≤ 8 := blkR_len (h 0 b rfl)
    have h2 := rowsB_len bs (t + 1) fun i b hb => by rw [show t + 1 + i = t + (i + 1) by omega]; exact h (i + 1) b hb
    rw [rowsB, List.length_append, List.length_cons]; omega
abbrev rL (rows : List LRow) : List R := rows.map fun r => R.d (encR r)
abbrev cdE (T : Ty) (vs : List Vl) (rows : List LRow) (x4 x5 x6 x7 x8 x9 : Sl) : Env := [.v (.p 0), .v (.d (encT T)), .v (.d (.tup (encVs vs))), .own (rL rows), x4, x5, x6, x7, x8, x9]
theorem rL_snoc {rows : List LRow} (r : LRow) {x : D} (h : encR r = x) : rL rows ++ [R.d x] = rL (rows ++ [r]) := by
  unfold rL; rw [List.map_append, ← h]; rfl
theorem path0 (i : Nat) (rr : List Nat) (μ : Mem) : idxR (vw μ (.d (encPath (pth i rr)))) (vw μ (.d (.int 0))) = some (.d (.int (i : Int))) := by
  rw [vw_d, vw_d]; exact idx_nat (j := 0) rfl
theorem path1 (i : Nat) (rr : List Nat) (μ : Mem) : slcR (vw μ (.d (encPath (pth i rr)))) (some 1) none = some (.d (.tup (rr.map fun (n : Nat) => .int (n : Int)))) := by
  rw [vw_d]; unfold encPath; rw [slcR_tup, show (1 : Int) = ((1 : Nat) : Int) from rfl, cut_drop]; unfold pth
  rw [List.map_cons, List.drop_one, List.tail_cons, List.map_map]; rfl
def tstB (C : Fn) : S := sIf (tCmp eqR (eIdx (eV 6) (eC (.int 0))) (eC (.str "int"))) (sApp 3 (eTup [(eC (.str "upto")), (eOp subR (eOp addR (eIdx (eV 6) (eC (.int 1))) (eCall C "_law_draw" [(eV 0), (eC (.int 3))])) (eC (.int 1))), (eOp addR (eC (.int 900)) (eV 4))])) (sApp 3 (eTup [(eC (.str "is")), (eIdx (eLst [(eC (.str "Nil")), (eC (.str "Zero")), (eIdx (eV 6) (eC (.int 1))), (eIdx (eV 6) (eC (.int 1)))]) (eCall C "_law_draw" [(eV 0), (eC (.int 4))])), (eOp addR (eC (.int 900)) (eV 4))]))
def DrawsX (C : Fn) (digs : List Int) : Prop := ∀ (m : Int) (k : Nat), 0 < m → ∃ v, 0 ≤ v ∧ v < m ∧ C "_law_draw" [.p 0, .d (.int m)] (Bx [] digs k) = .ok (.d (.int v)) (Bx [] digs (k + 1))
theorem tst_spec {C : Fn} {digs : List Int} (hd : DrawsX C digs) {T : Ty} {vs : List Vl} {rows : List LRow} (hr : rows.length ≤ 1000) (t k : Nat) (w : Vl) (x5 x7 x8 x9 : Sl) : ∃ (i : In) (k' : Nat), TstOk w (900 + t) i ∧
    tstB C (cdE T vs rows (.v (.d (.int (t : Int)))) x5 (.v (.d (encV w))) x7 x8 x9) (Bx [] digs k) = .ok (.nx (cdE T vs (rows ++ [.ins i]) (.v (.d (.int (t : Int)))) x5 (.v (.d (encV w))) x7 x8 x9)) (Bx [] digs k') := by
  unfold tstB
  cases w with
  | int a =>
    obtain ⟨v, v1, v2, hv⟩ := hd 3 k (by omega)
    have hk0 : ∀ μ, idxR (vw μ (.d (encV (.int a)))) (vw μ (.d (.int 0))) = some (.d (.str "int")) := fun μ => rfl
    have hk1 : ∀ μ, idxR (vw μ (.d (encV (.int a)))) (vw μ (.d (.int 1))) = some (.d (.int a)) := fun μ => rfl
    refine ⟨.upto (a + v - 1) (900 + t), k + 1, ⟨_, rfl⟩, wp.ok ?_⟩
    repeat (first | (guard_target = wo (idxR _ _) _; first | refine wo_i (show idxR _ _ = some _ from hk0 _) ?_ | refine wo_i (show idxR _ _ = some _ from hk1 _) ?_) | array_get_dec)
    refine ifQ_t rfl ?_
    repeat (first | (guard_target =~ wp _ _ _; first | refine wp_eq (hv) ?_) | (guard_target = wo (idxR _ _) _; first | refine wo_i (show idxR _ _ = some _ from hk0 _) ?_ | refine wo_i (show idxR _ _ = some _ from hk1 _) ?_) | array_get_dec)
    refine gd_i (by rw [List.length_map]; unfold SL; omega) ⟨?_, rfl⟩
    rw [rL_snoc (.ins (.upto (a + v - 1) (900 + t))) (by simp [encR, encIn])]
    rfl
  | mk c us =>
    obtain ⟨v, v1, v2, hv⟩ := hd 4 k (by omega)
    have hk0 : ∀ μ, idxR (vw μ (.d (encV (.mk c us)))) (vw μ (.d (.int 0))) = some (.d (.str "make")) := fun μ => by simp only [encV]; rfl
    have hk1 : ∀ μ, idxR (vw μ (.d (encV (.mk c us)))) (vw μ (.d (.int 1))) = some (.d (.str c)) := fun μ => by simp only [encV]; rfl
    obtain ⟨c', hc'⟩ : ∃ c' : String, ∀ μ, idxR (vw μ (.d (.lst [.str "Nil", .str "Zero", .str c, .str c]))) (vw μ (.d (.int v))) = some (.d (.str c')) := by
      rcases (by omega : v = 0 ∨ v = 1 ∨ v = 2 ∨ v = 3) with rfl | rfl | rfl | rfl
      · exact ⟨"Nil", fun μ => rfl⟩
      · exact ⟨"Zero", fun μ => rfl⟩
      · exact ⟨c, fun μ => rfl⟩
      · exact ⟨c, fun μ => rfl⟩
    refine ⟨.is c' (900 + t), k + 1, ⟨_, rfl⟩, wp.ok ?_⟩
    repeat (first | (guard_target = wo (idxR _ _) _; first | refine wo_i (show idxR _ _ = some _ from hk0 _) ?_ | refine wo_i (show idxR _ _ = some _ from hk1 _) ?_) | array_get_dec)
    refine ifQ_f rfl ?_
    repeat (first | (guard_target =~ wp _ _ _; first | refine wp_eq (hv) ?_) | (guard_target = wo (idxR _ _) _; first | refine wo_i (show idxR _ _ = some _ from hk0 _) ?_ | refine wo_i (show idxR _ _ = some _ from hk1 _) ?_ | refine wo_i (show idxR _ _ = some _ from hc' _) ?_) | array_get_dec)
    refine gd_i (by rw [List.length_map]; unfold SL; omega) ⟨?_, rfl⟩
    rw [rL_snoc (.ins (.is c' (900 + t))) (by simp [encR, encIn])]
    rfl
def kndB (C : Fn) : S := sIf (tCmp eqR (eV 9) (eC (.int 0))) (sApp 3 (eTup [(eC (.str "jump")), (eOp addR (eC (.int 900)) (eV 4))])) (sIf (tCmp eqR (eV 9) (eC (.int 1))) (sApp 3 (eTup [(eC (.str "ask")), (eV 4), (eTup [(eTup [(eC (.str "x")), (eV 8)])]), (eOp addR (eC (.int 900)) (eV 4))])) (sIf (tCmp eqR (eV 9) (eC (.int 2))) (sApp 3 (eTup [(eC (.str "take")), (eV 4), (eSlc (eTup [(eTup [(eC (.str "x")), (eV 5)]), (eTup [(eC (.str "y")), (eV 8)])]) oN (oE (eCall C "_law_draw" [(eV 0), (eC (.int 3))])))])) sNil))
theorem srt1 (b : B1) : srt [b] = [b] := by simp [srt]
theorem srt_xy (p q : List Int) : srt [("x", p), ("y", q)] = [("x", p), ("y", q)] := by
  have h : leB ("x", p) ("y", q) = true := by
    have h1 : ([121] : List Nat) < [120] ↔ False := by decide
    have h2 : ([120] : List Nat) < [121] ↔ True := by decide
    simp only [leB, D.leK, encB1, D.toks, D.toksL, tksLt, tkLt, List.cons_append, List.nil_append]
    simp [h1, h2]
  exact perm_sorted (srt_perm _) (srt_sorted _) (by simp [h])
theorem knd_spec {C : Fn} {digs : List Int} (hd : DrawsX C digs) {T : Ty} {vs : List Vl} {rows : List LRow} (hr : rows.length ≤ 1000) (t k : Nat) {u : Int} (hu : 0 ≤ u ∧ u < 4) {p q : List Int} (hp : PathOk T 4 vs p) (hq : PathOk T 4 vs q) (x6 x7 : Sl) : ∃ (o : Option In) (k' : Nat), KndOk T vs t o ∧
    kndB C (cdE T vs rows (.v (.d (.int (t : Int)))) (.v (.d (encPath p))) x6 x7 (.v (.d (encPath q))) (.v (.d (.int u)))) (Bx [] digs k) = .ok (.nx (cdE T vs (rows ++ o.toList.map .ins) (.v (.d (.int (t : Int)))) (.v (.d (encPath p))) x6 x7 (.v (.d (encPath q))) (.v (.d (.int u))))) (Bx [] digs k') := by
  unfold kndB
  rcases (by omega : u = 0 ∨ u = 1 ∨ u = 2 ∨ u = 3) with rfl | rfl | rfl | rfl
  · refine ⟨some (.jump (900 + t)), k, rfl, wp.ok ?_⟩
    repeat array_get_dec
    refine ifQ_t rfl ?_
    repeat array_get_dec
    refine gd_i (by rw [List.length_map]; unfold SL; omega) ⟨?_, rfl⟩
    rw [rL_snoc (.ins (.jump (900 + t))) (by simp [encR, encIn])]
    rfl
  · refine ⟨some (.ask t [("x", q)] (900 + t)), k, ⟨rfl, rfl, by simp, srt1 _, fun b hb => ?_⟩, wp.ok ?_⟩
    · rw [List.mem_singleton.mp hb]; exact ⟨(by decide : "x".length ≤ 1), hq⟩
    repeat array_get_dec
    refine ifQ_f rfl ?_
    repeat array_get_dec
    refine ifQ_t rfl ?_
    repeat array_get_dec
    refine gd_i (by rw [List.length_map]; unfold SL; omega) ⟨?_, rfl⟩
    rw [rL_snoc (.ins (.ask t [("x", q)] (900 + t))) (by simp [encR, encIn, encBs, encB1, encPath])]
    rfl
  · obtain ⟨v, v1, v2, hv⟩ := hd 3 k (by omega)
    obtain ⟨bs, hb, hs⟩ : ∃ bs, BdOk T vs bs ∧ ∀ μ, slcR (vw μ (.d (.tup [.tup [.str "x", encPath p], .tup [.str "y", encPath q]]))) none (some v) = some (.d (encBs bs)) := by
      rcases (by omega : v = 0 ∨ v = 1 ∨ v = 2) with rfl | rfl | rfl
      · exact ⟨[], ⟨by decide, srt_nil, fun b h => by cases h⟩, fun μ => rfl⟩
      · exact ⟨[("x", p)], ⟨by simp, srt1 _, fun b h => by rw [List.mem_singleton.mp h]; exact ⟨(by decide : "x".length ≤ 1), hp⟩⟩, fun μ => rfl⟩
      · refine ⟨[("x", p), ("y", q)], ⟨by simp, srt_xy p q, fun b h => ?_⟩, fun μ => rfl⟩
        rcases List.mem_cons.mp h with rfl | h
        · exact ⟨(by decide : "x".length ≤ 1), hp⟩
        · rw [List.mem_singleton.mp h]; exact ⟨(by decide : "y".length ≤ 1), hq⟩
    refine ⟨some (.take t bs), k + 1, ⟨rfl, hb⟩, wp.ok ?_⟩
    repeat array_get_dec
    refine ifQ_f rfl ?_
    repeat array_get_dec
    refine ifQ_f rfl ?_
    repeat array_get_dec
    refine ifQ_t rfl ?_
    repeat (first | (guard_target =~ wp _ _ _; first | refine wp_eq (hv) ?_) | (guard_target = wo (slcR _ _ _) _; first | refine wo_i (show slcR _ _ _ = some _ from hs _) ?_) | array_get_dec)
    refine gd_i (by rw [List.length_map]; unfold SL; omega) ⟨?_, rfl⟩
    rw [rL_snoc (.ins (.take t bs)) (by simp [encR, encIn])]
    rfl
  · refine ⟨none, k, trivial, wp.ok ?_⟩
    repeat array_get_dec
    refine ifQ_f rfl ?_
    repeat array_get_dec
    refine ifQ_f rfl ?_
    repeat array_get_dec
    refine ifQ_f rfl ?_
    repeat array_get_dec
    rw [Option.toList_none, List.map_nil, List.append_nil]
    exact ⟨rfl, rfl⟩
theorem code_spec {T : Ty} (g : GoodT T) (digs : List Int) {ns : List String} {vs : List Vl} (hv : WV T 4 ns vs) (h1 : 1 ≤ vs.length) (h3 : vs.length ≤ 3) (n k : Nat) : ∃ (bs : List Bk) (e : In) (k' : Nat), bs.length ≤ 5 ∧ (∀ (t : Nat) (b : Bk), bs[t]? = some b → BkOk T vs t b) ∧ (e = .fail ∨ e = .take 9 []) ∧
    callN P (n + 3) "_law_code" [.p 0, .d (encT T), .d (.tup (encVs vs))] (Bx [] digs k) = .ok (.d (.lst ((rowsB 0 bs ++ [LRow.ins e]).map encR))) (Bx [] digs k') := by
  suffices hh : wp (callN P (n + 3) "_law_code" [.p 0, .d (encT T), .d (.tup (encVs vs))] (Bx [] digs k)) (fun r ν => ∃ (bs : List Bk) (e : In) (k' : Nat), bs.length ≤ 5 ∧ (∀ (t : Nat) (b : Bk), bs[t]? = some b → BkOk T vs t b) ∧ (e = .fail ∨ e = .take 9 []) ∧ r = .d (.lst ((rowsB 0 bs ++ [LRow.ins e]).map encR)) ∧ ν = Bx [] digs k') fun _ _ => False by
    obtain ⟨r, ν, e1, bs, e, k', q1, q2, q3, rfl, rfl⟩ := wp_ex hh
    exact ⟨bs, e, k', q1, q2, q3, e1⟩
  refine wp_call (d := f_law_code_2) rfl rfl ?_
  have hd : DrawsX (callN P (n + 2)) digs := fun (m : Int) (k : Nat) (h : 0 < m) => draw_spec (n + 1) [] digs k m h
  have hw := fun (k : Nat) => walked_spec g digs hv h1 h3 n k
  generalize callN P (n + 2) = C at hd hw ⊢
  obtain ⟨v1, a1, b1, d1⟩ := hd 5 k (by omega)
  obtain ⟨m, rfl⟩ : ∃ m : Nat, v1 = (m : Int) := ⟨v1.toNat, by omega⟩
  simp only [f_law_code_2, List.map_cons, List.map_nil, List.length_cons, List.length_nil, Nat.reduceAdd, Nat.reduceSub, List.replicate_succ, List.replicate_zero, List.cons_append, List.nil_append]
  repeat (first | (guard_target =~ wp _ _ _; first | refine wp_eq (d1) ?_) | array_get_dec)
  refine gd_i (by show 1 + m ≤ 1000000; omega) ?_
  refine w_forK (List.range (1 + m)) (fun _ (i : Nat) => R.d (.int (i : Int))) (fun j _ ρ μ' => ∃ (bs : List Bk) (k' : Nat) (x4 x5 x6 x7 x8 x9 : Sl), μ' = Bx [] digs k' ∧ ρ = cdE T vs (rowsB 0 bs) x4 x5 x6 x7 x8 x9 ∧ bs.length = j ∧ ∀ (t : Nat) (b : Bk), bs[t]? = some b → BkOk T vs t b)
    (fun k => hx_range k) ⟨[], k + 1, _, _, _, _, _, _, rfl, rfl, rfl, fun t b h => by simp at h⟩ ?_ ?_
  · rintro j x rest _ _ hj hr ⟨bs, k', x4, x5, x6, x7, x8, x9, rfl, rfl, e1, e2⟩
    obtain ⟨i, rr, w, k2, hwk, hwe⟩ := hw k'
    obtain rfl : j = x := by
      have := List.getElem?_eq_some_iff.mp hj; obtain ⟨p1, p2⟩ := this; rw [List.getElem_range] at p2; exact p2
    have hlen := rowsB_len bs 0 fun i b h => by rw [Nat.zero_add]; exact e2 i b h
    have hj5 : j < 1 + m := by have := (List.getElem?_eq_some_iff.mp hj).1; rwa [List.length_range] at this
    refine wo_i tg1 ?_
    unfold cdE
    repeat (first | (guard_target =~ wp _ _ _; first | refine wp_eq (hwe) ?_) | (guard_target = wo (idxR _ _) _; first | refine wo_i (show idxR _ _ = some _ from path0 _ _ _) ?_) | (guard_target = wo (slcR _ _ _) _; first | refine wo_i (show slcR _ _ _ = some _ from path1 _ _ _) ?_) | array_get_dec)
    refine gd_i (by rw [List.length_map]; unfold SL; omega) ?_
    rw [rL_snoc (.ins (.arg i)) (x := .tup [.str "argument", .int (i : Int)]) rfl]
    generalize hrows1 : rowsB 0 bs ++ [LRow.ins (.arg i)] = rows1
    have hrr4 : rr.length ≤ 4 := by obtain ⟨_, _, _, _, _, h, _⟩ := hwk; omega
    have hl1 : rows1.length ≤ 41 := by rw [← hrows1, List.length_append, List.length_singleton]; omega
    have hal : ∀ μ, addL (vw μ (mkL (rL rows1))) (vw μ (.d (.lst (rr.map fun (n : Nat) => .tup [.str "field", .int (n : Int)])))) = some (.d (.lst ((rows1 ++ rr.map fun n => LRow.ins (.fld n)).map encR))) := fun μ => by
      rw [show mkL (rL rows1) = .d (.lst (rows1.map encR)) from mkL_map encR rows1, vw_d, vw_d]
      rw [List.map_append, List.map_map]
      exact if_pos (by rw [List.length_map, List.length_map]; unfold SL; omega)
    repeat (first | (guard_target = wo (slcR _ _ _) _; first | refine wo_i (show slcR _ _ _ = some _ from path1 _ _ _) ?_) | array_get_dec)
    refine w_compMap rr (fun n : Nat => R.d (.int (n : Int))) (fun n : Nat => R.d (.tup [.str "field", .int (n : Int)])) (by rw [List.map_map]; rfl) ?_ ?_
    · intro n _
      refine wo_i tg1 ?_
      repeat array_get_dec
    refine gd_i (by rw [List.length_map]; unfold SL; omega) ?_
    rw [mkL_map (fun n : Nat => D.tup [.str "field", .int (n : Int)])]
    generalize hrows2 : (rows1 ++ rr.map fun n => LRow.ins (.fld n)) = rows2 at hal
    have hl2 : rows2.length ≤ 45 := by rw [← hrows2, List.length_append, List.length_map]; omega
    have hown : ownR (.d (.lst (rows2.map encR))) = some (.own (rL rows2)) := by rw [own_ds, List.map_map]; rfl
    obtain ⟨ti, k3, ht1, ht2⟩ := tst_spec hd (T := T) (vs := vs) (rows := rows2) (by omega) j k2 w (.v (.d (encPath (pth i rr)))) x7 x8 x9
    obtain ⟨i2, rr2, w2, k4, hwk2, hwe2⟩ := hw k3
    obtain ⟨u, u1, u2, hu⟩ := hd 4 k4 (by omega)
    have ht2 := ht2
    unfold tstB at ht2
    obtain ⟨o, k5, ho1, ho2⟩ := knd_spec hd (T := T) (vs := vs) (rows := rows2 ++ [.ins ti]) (by rw [List.length_append, List.length_singleton]; omega) j (k4 + 1) ⟨u1, u2⟩ hwk.path hwk2.path (.v (.d (encV w))) x7
    have ho2 := ho2
    unfold kndB at ho2
    repeat (first | (guard_target =~ wp _ _ _; first | refine wp_eq (ht2) ?_ | refine wp_eq (hwe2) ?_ | refine wp_eq (hu) ?_ | refine wp_eq (ho2) ?_) | (guard_target = wo (addL _ _) _; first | refine wo_i (show addL _ _ = some _ from hal _) ?_) | (guard_target =~ wo _ _; first | refine wo_i hown ?_) | array_get_dec)
    refine gd_i (by rw [List.length_map, List.length_append, List.length_append, List.length_map, List.length_singleton]; have : o.toList.length ≤ 1 := by { cases o <;> simp }; unfold SL; omega) ?_
    rw [rL_snoc (.mark (900 + j)) (x := .tup [.str "mark", .int (900 + (j : Int))]) (by simp [encR])]
    refine loop_nx ⟨bs ++ [⟨i, rr, w, ti, o⟩], k5, .v (.d (.int (j : Int))), .v (.d (encPath (pth i rr))), .v (.d (encV w)), x7, .v (.d (encPath (pth i2 rr2))), .v (.d (.int u)), rfl, ?_, by rw [List.length_append, e1]; rfl, fun t b ht => ?_⟩
    · rw [rowsB_snoc, e1, Nat.zero_add, ← hrows2, ← hrows1]
      unfold blkR
      simp only [List.append_assoc, List.cons_append, List.nil_append]
      rfl
    · by_cases htl : t < bs.length
      · rw [List.getElem?_append_left htl] at ht; exact e2 t b ht
      · have ht2 : t = bs.length := by
          have := (List.getElem?_eq_some_iff.mp ht).1
          rw [List.length_append, List.length_singleton] at this; omega
        subst ht2
        rw [List.getElem?_append_right (Nat.le_refl _), Nat.sub_self] at ht
        cases ht
        rw [e1]
        exact ⟨hwk, ht1, ho1⟩
  · rintro _ _ ⟨bs, k', x4, x5, x6, x7, x8, x9, rfl, rfl, e1, e2⟩
    rw [List.length_range] at e1
    obtain ⟨u, u1, u2, hu⟩ := hd 2 k' (by omega)
    have hlen := rowsB_len bs 0 fun i b h => by rw [Nat.zero_add]; exact e2 i b h
    obtain ⟨e, he, hee⟩ : ∃ e : In, (e = .fail ∨ e = .take 9 []) ∧ ∀ μ, idxR (vw μ (.d (.lst [.tup [.str "fail"], .tup [.str "take", .int 9, .tup []]]))) (vw μ (.d (.int u))) = some (.d (encIn e)) := by
      rcases (by omega : u = 0 ∨ u = 1) with rfl | rfl
      · exact ⟨.fail, .inl rfl, fun μ => rfl⟩
      · exact ⟨.take 9 [], .inr rfl, fun μ => rfl⟩
    unfold cdE
    repeat (first | (guard_target =~ wp _ _ _; first | refine wp_eq (hu) ?_) | (guard_target = wo (idxR _ _) _; first | refine wo_i (show idxR _ _ = some _ from hee _) ?_) | array_get_dec)
    refine gd_i (by rw [List.length_map]; unfold SL; omega) ?_
    rw [rL_snoc (.ins e) (x := encIn e) rfl]
    repeat array_get_dec
    rw [show mkL (rL (rowsB 0 bs ++ [LRow.ins e])) = .d (.lst ((rowsB 0 bs ++ [LRow.ins e]).map encR)) from mkL_map encR _]
    repeat array_get_dec
    exact ⟨bs, e, _, by omega, e2, he, rfl, rfl⟩
end K20
end

section
set_option maxHeartbeats 0
set_option linter.all false
set_option maxRecDepth 100000
set_option maxHeartbeats 0
namespace K20
open Ev
local macro_rules | `(tactic| array_get_dec) => `(tactic| first | (guard_target =~ wp _ _ _; first | refine w_sq ?_ | refine w_sAs ?_ | refine w_sIf ?_ | refine w_sRet ?_ | refine w_eV rfl ?_ | refine w_eC ?_ | refine w_ok ?_ | refine w_call ?_ | refine w_cons ?_ | refine w_nil ?_ | refine w_opMul ?_ | refine w_opMulL ?_ | refine w_op ?_ | refine w_idx ?_ | refine w_cmp ?_ | refine w_tup ?_ | refine w_bi ?_ | refine w_sNil ?_ | refine w_sAsT ?_ | refine w_sFor ?_ | refine w_iE ?_ | refine w_iEnum ?_ | refine w_iRange1 ?_ | refine w_iRange2 ?_ | refine w_iZip ?_ | refine w_comp ?_ | refine w_comp2 ?_ | refine w_yes ?_ | refine w_all ?_ | refine w_eB rfl ?_ | refine w_eBd rfl ?_ | refine w_lst ?_ | refine w_neg ?_ | refine w_ch ?_ | refine w_isN ?_ | refine w_notN ?_ | refine w_eT ?_ | refine w_tE ?_ | refine w_and' ?_ | refine w_or' ?_ | refine w_not ?_ | refine w_eNot ?_ | refine w_eIf ?_ | refine w_eAnd ?_ | refine w_eOr ?_ | refine w_oN ?_ | refine w_oE ?_ | refine w_slc ?_ | refine w_fld ?_ | refine w_meth ?_ | refine w_new ?_ | refine w_mk ?_ | refine w_sX ?_ | refine w_sAug rfl ?_ | refine w_sPar ?_ | refine w_sOwn ?_ | refine w_sCell ?_ | refine w_sFrz rfl ?_ | refine w_sFrzD rfl ?_ | refine w_sApp rfl ?_ | refine w_sExt rfl ?_ | refine w_sRev rfl ?_ | refine w_sSetI rfl ?_ | refine w_sSetD rfl ?_ | refine w_sAugI rfl ?_ | refine w_sRetN ?_ | refine w_sBrk ?_ | refine w_sCnt ?_ | refine w_raise ?_ | refine w_sFld ?_ | refine w_sFldAug ?_ | refine w_sAppC ?_ | refine w_exn ?_ | refine w_inN ?_ | refine w_getN ?_ | refine w_putN ?_ | refine w_dn ?_ | refine w_iRev1 ?_ | refine w_dic ?_) | (guard_target = wo (valsR _) _; first | refine wo_i vals1 ?_ | refine wo_i vals2 ?_ | refine wo_i vals3 ?_ | refine wo_i vals4 ?_ | refine wo_i vals5 ?_ | refine wo_i vals0 ?_) | (guard_target = wo (subR _ _) _; first | refine wo_i (show subR _ _ = some _ from subR_int) ?_) | (guard_target = wo (addR _ _) _; first | refine wo_i (show addR _ _ = some _ from addR_int) ?_) | (guard_target = wo (ltR _ _) _; first | refine wo_i ltR_int ?_) | (guard_target = wo (leR _ _) _; first | refine wo_i leR_int ?_) | (guard_target = wo (gtR _ _) _; first | refine wo_i gtR_int ?_) | (guard_target = wo (geR _ _) _; first | refine wo_i geR_int ?_) | (guard_target = wo (eqR _ _) _; first | refine wo_i eqi_ok ?_ | refine wo_i eqs_ok ?_ | refine wo_i (show eqR _ _ = some _ from rfl) ?_) | (guard_target = wo (neR _ _) _; first | refine wo_i nei_ok ?_ | refine wo_i nes_ok ?_ | refine wo_i (show neR _ _ = some _ from rfl) ?_) | (guard_target = wo (iaddR _ _) _; first | refine wo_i iadd_int ?_) | (guard_target = wo (lenR _) _; first | refine wo_i lenR_tup ?_ | refine wo_i lenR_lst ?_) | (guard_target = wo (intR _) _; first | refine wo_i intR_int ?_ | refine wo_i intR_bl ?_) | (guard_target = wo (tupleR _) _; first | refine wo_i tupleR_tup ?_ | refine wo_i tupleR_lst ?_) | (guard_target = wo (listR _) _; first | refine wo_i listR_tup ?_ | refine wo_i listR_lst ?_) | (guard_target = wo (maxR _) _; first | refine wo_i maxR_two ?_) | (guard_target = wo (minR _) _; first | refine wo_i minR_two ?_) | (guard_target = wo (truthR _) _; first | refine wo_i truthR_bl ?_ | refine wo_i truthR_int ?_ | refine wo_i (show truthR _ = some _ from rfl) ?_) | (guard_target = wo (itemsR _) _; first | refine wo_i itemsR_tup ?_ | refine wo_i itemsR_lst ?_ | refine wo_i itemsR_ls ?_) | (guard_target = wo (ownR _) _; first | refine wo_i own_ds ?_ | refine wo_i (show ownR _ = some _ from rfl) ?_) | (guard_target = wo (idxR _ _) _; first | refine wo_i (show idxR _ _ = some _ from rfl) ?_) | (guard_target = wo (addI _ _) _; first | refine wo_i (show addI _ _ = some _ from rfl) ?_) | (guard_target = wo (pairsR _) _; first | refine wo_i (show pairsR _ = some _ from rfl) ?_) | (guard_target = wo (extR _) _; first | refine wo_i (show extR _ = some _ from rfl) ?_) | (guard_target = wo (enumR _) _; first | refine wo_i (show enumR _ = some _ from rfl) ?_) | (guard_target = wo (slcR _ _ _) _; first | refine wo_i (show slcR _ _ _ = some _ from rfl) ?_) | (guard_target = wo (insOf _ _ _) _; first | refine wo_i (show insOf _ _ _ = some _ from rfl) ?_) | (guard_target =~ wo _ _; first | refine wo_i tg1 ?_ | refine wo_i tg2 ?_ | refine wo_i tg3 ?_ | refine wo_i tg4 ?_ | refine wo_i tg12 ?_ | refine wo_i tg2l ?_ | refine wo_i tg3l ?_ | refine wo_i tg4l ?_) | (guard_target =~ gd _ _; first | refine gd_i ll1 ?_ | refine gd_i ll2 ?_ | refine gd_i ll3 ?_ | refine gd_i ll4 ?_ | refine gd_i ll5 ?_ | refine gd_i ll0 ?_ | refine gd_i (rfl : (_ : Bool) = true) ?_) | refine seq_nx ?_ | refine seq_rt ?_ | refine loop_nx ?_ | refine loop_rt ?_ | refine run_rt rfl ?_ | refine loop_ct ?_ | refine loop_bk ?_ | refine seq_bk ?_ | refine seq_ct ?_ | refine run_nx rfl ?_ | refine ⟨_, rfl, ?_⟩ | refine ⟨rfl, ?_⟩ | exact rfl)
def insL : List LRow → List In
  | [] => []
  | .ins i :: r => i :: insL r
  | .mark _ :: r => insL r
def posOf : List LRow → Nat → Option Nat
  | [], _ => none
  | .ins _ :: r, l => (posOf r l).map (· + 1)
  | .mark m :: r, l => if m = l then some 0 else posOf r l
def marksL : List LRow → List Nat
  | [] => []
  | .ins _ :: r => marksL r
  | .mark m :: r => m :: marksL r
theorem insL_app : ∀ a b : List LRow, insL (a ++ b) = insL a ++ insL b
  | [], b => rfl
  | .ins i :: a, b => by rw [List.cons_append, insL, insL, insL_app a b]; rfl
  | .mark m :: a, b => by rw [List.cons_append, insL, insL, insL_app a b]
theorem marksL_app : ∀ a b : List LRow, marksL (a ++ b) = marksL a ++ marksL b
  | [], b => rfl
  | .mark i :: a, b => by rw [List.cons_append, marksL, marksL, marksL_app a b]; rfl
  | .ins m :: a, b => by rw [List.cons_append, marksL, marksL, marksL_app a b]
theorem posOf_app (l : Nat) (b : List LRow) : ∀ a : List LRow, posOf (a ++ b) l = match posOf a l with
    | some p => some p
    | none => (posOf b l).map (· + (insL a).length)
  | [] => by simp [posOf, insL]
  | .ins i :: a => by
    rw [List.cons_append, posOf, posOf, posOf_app l b a, insL]
    cases posOf a l with
    | some p => rfl
    | none =>
      cases posOf b l with
      | none => rfl
      | some q => simp only [Option.map_some, Option.map_none, List.length_cons]; congr 1
  | .mark m :: a => by
    rw [List.cons_append, posOf, posOf, posOf_app l b a, insL]
    by_cases h : m = l
    · rw [if_pos h, if_pos h]
    · rw [if_neg h, if_neg h]
theorem posOf_none {l : Nat} : ∀ {a : List LRow}, l ∉ marksL a → posOf a l = none
  | [], _ => rfl
  | .ins i :: a, h => by rw [posOf, posOf_none (a := a) h]; rfl
  | .mark m :: a, h => by
    rw [marksL, List.mem_cons] at h
    rw [posOf, if_neg (fun e => h (.inl e.symm)), posOf_none (a := a) fun e => h (.inr e)]
theorem insL_len : ∀ a : List LRow, (insL a).length ≤ a.length
  | [] => Nat.le_refl _
  | .ins i :: a => by rw [insL, List.length_cons, List.length_cons]; have := insL_len a; omega
  | .mark m :: a => by rw [insL, List.length_cons]; have := insL_len a; omega
def labI : In → Option Nat
  | .jump l => some l
  | .is _ l => some l
  | .upto _ l => some l
  | .ask _ _ l => some l
  | _ => none
def relab (f : Nat → Nat) : In → In
  | .jump l => .jump (f l)
  | .is c l => .is c (f l)
  | .upto j l => .upto j (f l)
  | .ask c bs l => .ask c bs (f l)
  | i => i
theorem relab_none (f : Nat → Nat) {i : In} (h : labI i = none) : relab f i = i := by cases i <;> first | rfl | cases h
def kindI : In → String
  | .arg _ => "argument"
  | .fld _ => "field"
  | .is _ _ => "is"
  | .upto _ _ => "upto"
  | .jump _ => "jump"
  | .take _ _ => "take"
  | .ask _ _ _ => "ask"
  | .fail => "fail"
theorem kind_idx (i : In) (μ : Mem) : idxR (vw μ (.d (encIn i))) (vw μ (.d (.int 0))) = some (.d (.str (kindI i))) := by cases i <;> rfl
theorem kind_nm (i : In) : ¬ kindI i = "mark" := by cases i <;> simp [kindI]
theorem kind_in (i : In) (μ : Mem) : inR (vw μ (.d (.str (kindI i)))) (vw μ (.d (.lst [.str "jump", .str "is", .str "upto", .str "ask"]))) = some (labI i).isSome := by
  rw [vw_d, vw_d, inR_lst, if_pos (by simp [D.dep, D.depL])]
  cases i <;> simp [eqv_str, kindI, labI]
theorem lab_enc (f : Nat → Nat) {i : In} {l : Nat} (h : labI i = some l) : ∃ hd : List D, encIn i = .tup (hd ++ [.int (l : Int)]) ∧ encIn (relab f i) = .tup (hd ++ [.int (f l : Int)]) ∧ hd.length ≤ 5 := by
  cases i with
  | jump m => cases h; exact ⟨[.str "jump"], rfl, rfl, by simp⟩
  | is c m => cases h; exact ⟨[.str "is", .str c], rfl, rfl, by simp⟩
  | upto j m => cases h; exact ⟨[.str "upto", .int j], rfl, rfl, by simp⟩
  | ask c bs m => cases h; exact ⟨[.str "ask", .int c, encBs bs], rfl, rfl, by simp⟩
  | arg _ => cases h
  | fld _ => cases h
  | take _ _ => cases h
  | fail => cases h
theorem placed_spec (n : Nat) {rows : List LRow} (hl : rows.length ≤ 100) (nd : (marksL rows).Nodup) (hlab : ∀ i ∈ insL rows, ∀ l, labI i = some l → ∃ p, posOf rows l = some p) (μ : Mem) :
    callN P (n + 1) "_law_placed" [.d (.lst (rows.map encR))] μ = .ok (.d (.tup ((insL rows).map fun i => encIn (relab (fun l => (posOf rows l).getD 0) i)))) μ := by
  refine wp.ok (wp_call (d := f_law_placed) rfl rfl ?_)
  generalize callN P n = C
  simp only [f_law_placed, List.map_cons, List.map_nil, List.length_cons, List.length_nil, Nat.reduceAdd, Nat.reduceSub, List.replicate_succ, List.replicate_zero, List.cons_append, List.nil_append]
  repeat array_get_dec
  refine gd_i (by decide) ?_
  repeat array_get_dec
  refine w_forL rows (fun r => R.d (encR r)) (fun k rest ρ μ' => ∃ (done : List LRow) (kvs : List (Ky × R)) (x3 : Sl), μ' = μ ∧ rows = done ++ rest ∧ ρ = [.v (.d (.lst (rows.map encR))), .odic kvs, .own ((insL done).map fun i => R.d (encIn i)), x3, .un] ∧ kvs.length ≤ done.length ∧
    ∀ l : Nat, valK kvs (.i (l : Int)) = (posOf done l).map fun p => R.d (.int (p : Int))) (by rw [List.map_map]; rfl) ⟨[], [], _, rfl, rfl, rfl, Nat.le_refl _, fun l => rfl⟩ ?_ ?_
  · rintro k r rest _ _ hk hr ⟨done, kvs, x3, rfl, e1, rfl, e2, e3⟩
    have hdl : done.length ≤ 100 := by have := congrArg List.length e1; rw [List.length_append] at this; omega
    have hil := insL_len done
    refine wo_i tg1 ?_
    cases r with
    | mark m =>
      have hm : m ∉ marksL done := fun h => by
        rw [e1, marksL_app] at nd
        exact (List.nodup_append.mp nd).2.2 m h m (by simp [marksL]) rfl
      have hln : ∀ μ, lenR ([mkL ((insL done).map fun i => R.d (encIn i))].map (vw μ)) = some (.d (.int ((insL done).length : Nat))) := fun μ => by
        rw [mkL_map, List.map_cons, List.map_nil, vw_d, lenR_lst, List.length_map]
      simp only [encR]
      repeat array_get_dec
      refine ifQ_t rfl ?_
      repeat (first | (guard_target =~ wo _ _; first | refine wo_i (hln _) ?_) | array_get_dec)
      refine wo_i (a := .i (m : Int)) rfl (gd_i (by unfold SL; omega) ?_)
      refine loop_nx ⟨done ++ [.mark m], _, _, rfl, by rw [e1, List.append_assoc]; rfl, by rw [insL_app]; simp only [insL, List.append_nil]; rfl, ?_, fun l => ?_⟩
      · have := putK_len kvs (.i (m : Int)) (.d (.int ((insL done).length : Nat)))
        rw [List.length_append, List.length_singleton]; omega
      · rw [valK_put, posOf_app, e3]
        by_cases hlm : l = m
        · subst hlm
          rw [if_pos rfl, posOf_none hm]
          simp [posOf]
        · rw [if_neg (fun h => hlm (by injection h with h; exact Int.ofNat_inj.mp h))]
          cases posOf done l with
          | some p => rfl
          | none => simp only [posOf, if_neg (fun h : m = l => hlm h.symm)]; rfl
    | ins i =>
      simp only [encR]
      repeat (first | (guard_target = wo (idxR _ _) _; first | refine wo_i (show idxR _ _ = some _ from kind_idx _ _) ?_) | array_get_dec)
      refine ifQ_f (decide_eq_false (kind_nm i)) ?_
      repeat array_get_dec
      refine gd_i (by rw [List.length_map]; unfold SL; omega) ?_
      refine loop_nx ⟨done ++ [.ins i], kvs, _, rfl, by rw [e1, List.append_assoc]; rfl, by rw [insL_app]; simp only [insL]; rw [List.map_append]; rfl, by rw [List.length_append]; omega, fun l => ?_⟩
      rw [posOf_app, e3]
      cases posOf done l with
      | some p => rfl
      | none => rfl
  · rintro _ μ0 ⟨done, kvs, x3, rfl, e1, rfl, e2, e3⟩
    rw [List.append_nil] at e1
    subst e1
    repeat array_get_dec
    rw [mkL_map]
    repeat array_get_dec
    generalize hlook : (fun l => (posOf rows l).getD 0) = look
    have hil := insL_len rows
    refine w_forL (insL rows) (fun i => R.d (encIn i)) (fun k rest ρ μ' => ∃ (done : List In) (x3 : Sl), μ' = μ0 ∧ insL rows = done ++ rest ∧ ρ = [.v (.d (.lst (rows.map encR))), .odic kvs, .v (.d (.lst ((insL rows).map encIn))), x3, .own (done.map fun i => R.d (encIn (relab look i)))]) (by rw [List.map_map]; rfl) ⟨[], _, rfl, rfl, rfl⟩ ?_ ?_
    · rintro k i rest _ _ hk hr ⟨done, x3', rfl, e4, rfl⟩
      have hdl : done.length ≤ 100 := by have := congrArg List.length e4; rw [List.length_append] at this; omega
      refine wo_i tg1 ?_
      repeat (first | (guard_target = wo (idxR _ _) _; first | refine wo_i (show idxR _ _ = some _ from kind_idx _ _) ?_) | (guard_target = wo (inR _ _) _; first | refine wo_i (show inR _ _ = some _ from kind_in _ _) ?_) | array_get_dec)
      cases hlb : labI i with
      | none =>
        refine ifQ_f rfl ?_
        repeat array_get_dec
        refine gd_i (by rw [List.length_map]; unfold SL; omega) ?_
        refine loop_nx ⟨done ++ [i], .v (.d (encIn i)), rfl, by rw [e4, List.append_assoc]; rfl, ?_⟩
        rw [List.map_append, List.map_cons, List.map_nil, relab_none _ hlb]
        rfl
      | some l =>
        refine ifQ_t rfl ?_
        obtain ⟨hd, q1, q2, q3⟩ := lab_enc look hlb
        obtain ⟨p, hp⟩ := hlab i (by rw [e4]; simp) l hlb
        have hlk : look l = p := by rw [← hlook]; show (posOf rows l).getD 0 = p; rw [hp]; rfl
        have hlenr : ∀ μ, lenR ([.d (.tup (hd ++ [.int (l : Int)]))].map (vw μ)) = some (.d (.int ((hd.length + 1 : Nat) : Int))) := fun μ => by
          rw [List.map_cons, List.map_nil, vw_d, lenR_tup, List.length_append, List.length_singleton]
        have hslc : ∀ μ, slcR (vw μ (.d (.tup (hd ++ [.int (l : Int)])))) none (some (((hd.length + 1 : Nat) : Int) - 1)) = some (.d (.tup hd)) := fun μ => by
          rw [vw_d, slcR_tup, show ((hd.length + 1 : Nat) : Int) - 1 = ((hd.length : Nat) : Int) by omega, cut_take, List.take_left]
        have hixl : ∀ μ, idxR (vw μ (.d (.tup (hd ++ [.int (l : Int)])))) (vw μ (.d (.int (((hd.length + 1 : Nat) : Int) - 1)))) = some (.d (.int (l : Int))) := fun μ => by
          rw [vw_d, vw_d, show ((hd.length + 1 : Nat) : Int) - 1 = ((hd.length : Nat) : Int) by omega]
          exact idx_nat (by simp)
        have hdic : ∀ μ, idxR (vw μ (.dic kvs)) (vw μ (.d (.int (l : Int)))) = some (.d (.int (p : Int))) := fun μ => by
          rw [vw_dic, vw_d, idxR_dic]
          show valK kvs (.i (l : Int)) = _
          rw [e3 l, hp]; rfl
        have hadd : ∀ μ, addR (vw μ (.d (.tup hd))) (vw μ (.d (.tup [.int (p : Int)]))) = some (.d (.tup (hd ++ [.int (p : Int)]))) := fun μ => by
          rw [vw_d, vw_d]; exact if_pos (by rw [List.length_singleton]; unfold SL; omega)
        rw [q1]
        repeat (first | (guard_target = wo (slcR _ _ _) _; first | refine wo_i (show slcR _ _ _ = some _ from hslc _) ?_) | (guard_target = wo (idxR _ _) _; first | refine wo_i (show idxR _ _ = some _ from hixl _) ?_ | refine wo_i (show idxR _ _ = some _ from hdic _) ?_) | (guard_target = wo (addR _ _) _; first | refine wo_i (show addR _ _ = some _ from hadd _) ?_) | (guard_target =~ wo _ _; first | refine wo_i (hlenr _) ?_) | array_get_dec)
        refine gd_i (by rw [List.length_map]; unfold SL; omega) ?_
        refine loop_nx ⟨done ++ [i], .v (.d (.tup (hd ++ [.int (p : Int)]))), rfl, by rw [e4, List.append_assoc]; rfl, ?_⟩
        rw [List.map_append, List.map_cons, List.map_nil, q2, hlk]
        rfl
    · rintro _ _ ⟨done, x3', rfl, e4, rfl⟩
      rw [List.append_nil] at e4
      subst e4
      repeat array_get_dec
      rw [mkL_map]
      repeat array_get_dec
end K20
end

section
set_option maxHeartbeats 0
set_option linter.all false
set_option maxRecDepth 100000
set_option maxHeartbeats 0
namespace K20
open Ev
def lenB (b : Bk) : Nat := (insL (blkR 0 b)).length
theorem insL_ins (l : List In) : insL (l.map .ins) = l := by
  induction l with
  | nil => rfl
  | cons i l ih => rw [List.map_cons, insL, ih]
theorem insL_fld (rr : List Nat) : insL (rr.map fun j => LRow.ins (.fld j)) = rr.map .fld := by
  induction rr with
  | nil => rfl
  | cons i l ih => rw [List.map_cons, insL, ih]; rfl
theorem insL_blk (t : Nat) (b : Bk) : insL (blkR t b) = .arg b.i :: b.rr.map .fld ++ (b.tst :: b.knd.toList) := by
  unfold blkR
  rw [insL_app, insL_app, insL_app]
  simp only [insL, insL_fld, insL_ins, List.cons_append, List.append_nil, List.append_assoc, List.nil_append]
theorem lenB_eq (b : Bk) : lenB b = b.rr.length + 2 + b.knd.toList.length := by
  unfold lenB; rw [insL_blk]; simp only [List.length_append, List.length_cons, List.length_map]; omega
theorem insL_len_blk (t : Nat) (b : Bk) : (insL (blkR t b)).length = lenB b := by unfold lenB; rw [insL_blk, insL_blk]
theorem marks_ins (l : List In) : marksL (l.map .ins) = [] := by
  induction l with
  | nil => rfl
  | cons i l ih => rw [List.map_cons, marksL, ih]
theorem marks_fld (rr : List Nat) : marksL (rr.map fun j => LRow.ins (.fld j)) = [] := by
  induction rr with
  | nil => rfl
  | cons i l ih => rw [List.map_cons, marksL, ih]
theorem marks_blk (t : Nat) (b : Bk) : marksL (blkR t b) = [900 + t] := by
  unfold blkR
  rw [marksL_app, marksL_app, marksL_app]
  simp only [List.cons_append, marksL, marks_fld, marks_ins, List.nil_append, List.append_nil]
theorem marks_rows : ∀ (bs : List Bk) (t : Nat), marksL (rowsB t bs) = (List.range' (900 + t) bs.length)
  | [], t => rfl
  | b :: bs, t => by rw [rowsB, marksL_app, marks_blk, marks_rows bs (t + 1), List.length_cons, List.range'_succ]; all_goals rfl
def offB (bs : List Bk) (k : Nat) : Nat := ((bs.take k).map lenB).sum
theorem pos_blk (t : Nat) (b : Bk) : posOf (blkR t b) (900 + t) = some (lenB b) := by
  unfold blkR
  rw [posOf_app, posOf_none (by rw [marksL_app, marksL_app]; simp [marksL, marks_fld, marks_ins])]
  simp only [posOf, if_true, Option.map_some, Nat.zero_add]
  rw [lenB_eq, insL_app, insL_app]
  simp only [List.cons_append, insL, insL_fld, insL_ins, List.length_append, List.length_cons, List.length_map, List.length_nil, List.append_assoc, List.nil_append]
  congr 1; omega
theorem pos_rows (X : List LRow) : ∀ (bs : List Bk) (t k : Nat), k < bs.length → posOf (rowsB t bs ++ X) (900 + t + k) = some (offB bs (k + 1))
  | [], t, k, h => absurd h (Nat.not_lt_zero _)
  | b :: bs, t, 0, _ => by
    rw [rowsB, List.append_assoc, posOf_app, Nat.add_zero, pos_blk]
    simp [offB]
  | b :: bs, t, k + 1, h => by
    rw [rowsB, List.append_assoc, posOf_app, posOf_none (by rw [marks_blk]; simp), show 900 + t + (k + 1) = 900 + (t + 1) + k by omega, pos_rows X bs (t + 1) k (by simpa using h), insL_len_blk]
    simp only [Option.map_some, offB, List.take_succ_cons, List.map_cons, List.sum_cons]
    congr 1; omega
theorem insL_rows : ∀ (bs : List Bk) (t : Nat), insL (rowsB t bs) = bs.flatMap fun b => .arg b.i :: b.rr.map .fld ++ (b.tst :: b.knd.toList)
  | [], t => rfl
  | b :: bs, t => by rw [rowsB, insL_app, insL_blk, insL_rows bs (t + 1)]; rfl
def blkC (f : Nat → Nat) (b : Bk) : List In := .arg b.i :: b.rr.map .fld ++ (relab f b.tst :: b.knd.toList.map (relab f))
def codeB (f : Nat → Nat) (bs : List Bk) (e : In) : List In := bs.flatMap (blkC f) ++ [e]
theorem blkC_len (f : Nat → Nat) (b : Bk) : (blkC f b).length = lenB b := by rw [lenB_eq]; unfold blkC; simp only [List.length_append, List.length_cons, List.length_map]; omega
theorem code_eq (f : Nat → Nat) (bs : List Bk) {e : In} (he : e = .fail ∨ e = .take 9 []) : (insL (rowsB 0 bs ++ [LRow.ins e])).map (relab f) = codeB f bs e := by
  rw [insL_app, insL_rows, List.map_append, List.map_flatMap]
  unfold codeB
  congr 1
  · congr 1; funext b; unfold blkC
    simp only [List.map_append, List.map_cons, List.map_map]
    congr 2
  · rcases he with rfl | rfl <;> rfl
theorem code_split {f : Nat → Nat} {bs : List Bk} {e : In} {k : Nat} {b : Bk} (h : bs[k]? = some b) : ∃ pre post, codeB f bs e = pre ++ blkC f b ++ post ∧ pre.length = offB bs k := by
  obtain ⟨hk, rfl⟩ := List.getElem?_eq_some_iff.mp h
  refine ⟨(bs.take k).flatMap (blkC f), (bs.drop (k + 1)).flatMap (blkC f) ++ [e], ?_, ?_⟩
  · unfold codeB
    have e1 : bs = bs.take k ++ (bs[k] :: bs.drop (k + 1)) := by rw [List.getElem_cons_drop, List.take_append_drop]
    conv => lhs; rw [e1]
    rw [List.flatMap_append, List.flatMap_cons]
    simp only [List.append_assoc]
  · unfold offB
    rw [List.length_flatMap]
    congr 1
    exact List.map_congr_left fun b _ => blkC_len f b
theorem offB_succ {bs : List Bk} {k : Nat} {b : Bk} (h : bs[k]? = some b) : offB bs (k + 1) = offB bs k + lenB b := by
  unfold offB
  rw [List.take_succ, h]; simp
theorem offB_le (bs : List Bk) (k : Nat) : offB bs k ≤ offB bs bs.length := by
  unfold offB
  rw [List.take_length]
  conv => rhs; rw [← List.take_append_drop k bs, List.map_append, List.sum_append]
  omega
theorem code_len (f : Nat → Nat) (bs : List Bk) (e : In) : (codeB f bs e).length = offB bs bs.length + 1 := by
  unfold codeB offB
  rw [List.take_length, List.length_append, List.length_flatMap, List.length_singleton]
  congr 2
  exact List.map_congr_left fun b _ => blkC_len f b
theorem run_step {code : List In} {vs : List Vl} {ans : List Bool} {F : Nat} {s s' : MSt} {i : In} (h1 : code[s.1]? = some i) (h2 : stpM vs ans i s = some (.inr s')) : runM code vs ans (F + 1) s = runM code vs ans F s' := by
  rw [runM, h1, Option.bind_some, h2, Option.bind_some]
theorem run_end {code : List In} {vs : List Vl} {ans : List Bool} {F : Nat} {s : MSt} {r : MRes} {i : In} (h1 : code[s.1]? = some i) (h2 : stpM vs ans i s = some (.inl r)) : runM code vs ans (F + 1) s = some r := by
  rw [runM, h1, Option.bind_some, h2, Option.bind_some]
theorem run_flds {code : List In} {vs : List Vl} {ans : List Bool} {F : Nat} {qs : List Qn} : ∀ {rr : List Nat} {p : Nat} {v w : Vl}, (∀ (j r : Nat), rr[j]? = some r → code[p + j]? = some (.fld r)) → vAt v rr = some w → runM code vs ans (F + rr.length) (p, some v, qs) = runM code vs ans F (p + rr.length, some w, qs)
  | [], p, v, w, _, h => by cases h; rfl
  | r :: rr, p, .int _, w, _, h => by simp [vAt] at h
  | r :: rr, p, .mk c us, w, hc, h => by
    rw [vAt] at h
    cases hu : us[r]? with
    | none => rw [hu] at h; cases h
    | some u =>
      rw [hu] at h
      rw [List.length_cons, ← Nat.add_assoc, run_step (s' := (p + 1, some u, qs)) (hc 0 r rfl) (by simp only [stpM, hu, Option.map_some])]
      rw [run_flds (fun j r hj => by rw [show p + 1 + j = p + (j + 1) by omega]; exact hc (j + 1) r hj) h, show p + 1 + rr.length = p + (rr.length + 1) by omega]
def Gq (T : Ty) (vs : List Vl) (x : Qn) : Prop := x.1 ≤ 9 ∧ BdOk T vs x.2
theorem runB {T : Ty} {vs : List Vl} (ans : List Bool) {bs : List Bk} (hbs : ∀ (t : Nat) (b : Bk), bs[t]? = some b → BkOk T vs t b) (h5 : bs.length ≤ 5) {f : Nat → Nat} (hf : ∀ k < bs.length, f (900 + k) = offB bs (k + 1)) {e : In} (he : e = .fail ∨ e = .take 9 []) : ∀ (m k : Nat), k + m = bs.length → ∀ (h : Option Vl) (qs : List Qn),
    ∃ res : MRes, (∀ x ∈ res.1, Gq T vs x) ∧ (∀ x ∈ res.2, x ∈ qs ∨ Gq T vs x) ∧ res.2.length ≤ qs.length + m ∧ ∀ F, offB bs bs.length + 1 < F + offB bs k → runM (codeB f bs e) vs ans F (offB bs k, h, qs) = some res
  | 0, k, hk, h, qs => by
    obtain rfl : k = bs.length := by omega
    have hce : (codeB f bs e)[offB bs bs.length]? = some e := by
      have h1 := code_len f bs e
      unfold codeB at h1 ⊢
      rw [List.length_append, List.length_singleton] at h1
      rw [List.getElem?_append_right (by omega), show offB bs bs.length - (bs.flatMap (blkC f)).length = 0 by omega]; rfl
    rcases he with rfl | rfl
    · refine ⟨(none, qs), fun x hx => (by cases hx), fun x hx => .inl hx, Nat.le_refl _, fun F hF => ?_⟩
      obtain ⟨F, rfl⟩ : ∃ G, F = G + 1 := ⟨F - 1, by omega⟩
      exact run_end hce rfl
    · refine ⟨(some (9, []), qs), fun x hx => ?_, fun x hx => .inl hx, Nat.le_refl _, fun F hF => ?_⟩
      · cases hx; exact ⟨Nat.le_refl _, by simp, srt_nil, fun b hb => by cases hb⟩
      obtain ⟨F, rfl⟩ : ∃ G, F = G + 1 := ⟨F - 1, by omega⟩
      exact run_end hce rfl
  | m + 1, k, hk, h, qs => by
    have hkl : k < bs.length := by omega
    obtain ⟨b, hb⟩ : ∃ b, bs[k]? = some b := ⟨_, List.getElem?_eq_getElem hkl⟩
    obtain ⟨⟨v, fn, d, w1, w2, w3, w4⟩, ht, hkd⟩ := hbs k b hb
    obtain ⟨pre, post, hc, hpre⟩ := code_split (f := f) (e := e) hb
    have hoff := offB_succ hb
    have hle := offB_le bs (k + 1)
    rw [hoff, lenB_eq] at hle
    have ih := runB ans hbs h5 hf he m (k + 1) (by omega)
    have hget : ∀ j, (codeB f bs e)[offB bs k + j]? = if j < (blkC f b).length then (blkC f b)[j]? else (codeB f bs e)[offB bs k + j]? := fun j => by
      split
      · rename_i hj
        rw [hc, List.append_assoc, List.getElem?_append_right (by omega), hpre, Nat.add_sub_cancel_left, List.getElem?_append_left hj]
      · rfl
    have hbl : (blkC f b).length = b.rr.length + 2 + b.knd.toList.length := by rw [blkC_len, lenB_eq]
    have g0 : (codeB f bs e)[offB bs k]? = some (.arg b.i) := by
      have := hget 0
      rw [if_pos (by omega)] at this; exact this
    have g1 : ∀ (j r : Nat), b.rr[j]? = some r → (codeB f bs e)[offB bs k + 1 + j]? = some (.fld r) := fun j r hj => by
      have hjl := (List.getElem?_eq_some_iff.mp hj).1
      have := hget (1 + j)
      rw [if_pos (by omega), ← Nat.add_assoc] at this
      rw [this]; unfold blkC
      rw [Nat.add_comm 1 j, List.cons_append, List.getElem?_cons_succ, List.getElem?_append_left (by rw [List.length_map]; exact hjl), List.getElem?_map, hj]; rfl
    have g2 : ∀ j, (codeB f bs e)[offB bs k + 1 + b.rr.length + j]? = if j < 1 + b.knd.toList.length then (relab f b.tst :: b.knd.toList.map (relab f))[j]? else (codeB f bs e)[offB bs k + 1 + b.rr.length + j]? := fun j => by
      split
      · have := hget (1 + b.rr.length + j)
        rw [if_pos (by omega), ← Nat.add_assoc, ← Nat.add_assoc] at this
        rw [this]; unfold blkC
        rw [show 1 + b.rr.length + j = (b.rr.length + j) + 1 by omega, List.cons_append, List.getElem?_cons_succ, List.getElem?_append_right (by rw [List.length_map]; omega), List.length_map, Nat.add_sub_cancel_left]
      · rfl
    have hfk := hf k hkl
    rw [hoff, lenB_eq] at ih
    rw [hoff, lenB_eq] at hfk
    have start : ∀ F, runM (codeB f bs e) vs ans (F + b.rr.length + 1) (offB bs k, h, qs) = runM (codeB f bs e) vs ans F (offB bs k + 1 + b.rr.length, some b.w, qs) := fun F => by
      rw [run_step (s' := (offB bs k + 1, some v, qs)) g0 (by simp only [stpM, w1, Option.map_some]), run_flds g1 w2]
    have gt : (codeB f bs e)[offB bs k + 1 + b.rr.length]? = some (relab f b.tst) := by have := g2 0; rw [if_pos (by omega)] at this; exact this
    obtain ⟨q', hq', htst⟩ : ∃ q', (q' = offB bs k + (b.rr.length + 2 + b.knd.toList.length) ∨ q' = offB bs k + 1 + b.rr.length + 1) ∧ stpM vs ans (relab f b.tst) (offB bs k + 1 + b.rr.length, some b.w, qs) = some (.inr (q', some b.w, qs)) := by
      cases hbw : b.w with
      | int a =>
        rw [hbw] at ht
        obtain ⟨j, hj⟩ := ht
        rw [hj]
        refine ⟨_, ?_, rfl⟩
        split
        · exact .inl hfk
        · exact .inr rfl
      | mk c us =>
        rw [hbw] at ht
        obtain ⟨j, hj⟩ := ht
        rw [hj]
        refine ⟨_, ?_, rfl⟩
        split
        · exact .inl hfk
        · exact .inr rfl
    have start2 : ∀ F, runM (codeB f bs e) vs ans (F + 1 + b.rr.length + 1) (offB bs k, h, qs) = runM (codeB f bs e) vs ans F (q', some b.w, qs) := fun F => by
      rw [start, run_step gt htst]
    have next : ∀ (c : Nat) (h' : Option Vl) (qs' : List Qn), (∀ x ∈ qs', x ∈ qs ∨ Gq T vs x) → qs'.length ≤ qs.length + 1 → c ≤ b.knd.toList.length → (∀ F, runM (codeB f bs e) vs ans (F + c + 1 + b.rr.length + 1) (offB bs k, h, qs) = runM (codeB f bs e) vs ans F (offB bs k + (b.rr.length + 2 + b.knd.toList.length), h', qs')) →
        ∃ res : MRes, (∀ x ∈ res.1, Gq T vs x) ∧ (∀ x ∈ res.2, x ∈ qs ∨ Gq T vs x) ∧ res.2.length ≤ qs.length + (m + 1) ∧ ∀ F, offB bs bs.length + 1 < F + offB bs k → runM (codeB f bs e) vs ans F (offB bs k, h, qs) = some res := fun c h' qs' n1 n2 n3 n4 => by
      obtain ⟨res, r1, r2, r3, r4⟩ := ih h' qs'
      refine ⟨res, r1, fun x hx => (r2 x hx).elim (n1 x) .inr, by omega, fun F hF => ?_⟩
      obtain ⟨G, rfl⟩ : ∃ G, F = G + c + 1 + b.rr.length + 1 := ⟨F - (c + 1 + b.rr.length + 1), by omega⟩
      rw [n4, r4 G (by omega)]
    rcases hq' with hq' | hq'
    · subst hq'
      exact next 0 _ qs (fun x hx => .inl hx) (by omega) (Nat.zero_le _) fun F => start2 F
    · subst hq'
      cases hkn : b.knd with
      | none =>
        refine next 0 (some b.w) qs (fun x hx => .inl hx) (by omega) (Nat.zero_le _) fun F => ?_
        rw [show F + 0 + 1 + b.rr.length + 1 = F + 1 + b.rr.length + 1 by omega, start2, hkn]
        congr 2
        show _ = offB bs k + (b.rr.length + 2 + 0)
        omega
      | some i =>
        have gk : (codeB f bs e)[offB bs k + 1 + b.rr.length + 1]? = some (relab f i) := by
          have := g2 1
          rw [hkn] at this
          rw [if_pos (by simp)] at this; exact this
        rw [hkn] at hkd
        cases i with
        | jump l =>
          have hl : l = 900 + k := hkd
          refine next 1 (some b.w) qs (fun x hx => .inl hx) (by omega) (by rw [hkn]; simp) fun F => ?_
          rw [start2, run_step (s' := (f l, some b.w, qs)) gk rfl, hl, hfk]
        | ask c bs' l =>
          obtain ⟨e1, e2, e3⟩ := hkd
          have hg : Gq T vs (c, bs') := ⟨by show c ≤ 9; omega, e3⟩
          by_cases ha : ans[qs.length]? = some true
          · refine ⟨(some (c, bs'), qs ++ [(c, bs')]), fun x hx => by cases hx; exact hg, fun x hx => ?_, by simp, fun F hF => ?_⟩
            · rcases List.mem_append.mp hx with hx | hx
              · exact .inl hx
              · rw [List.mem_singleton.mp hx]; exact .inr hg
            · obtain ⟨G, rfl⟩ : ∃ G, F = G + 1 + 1 + b.rr.length + 1 := ⟨F - (1 + 1 + b.rr.length + 1), by omega⟩
              rw [start2]
              exact run_end gk (by simp only [relab, stpM, if_pos ha])
          · refine next 1 (some b.w) (qs ++ [(c, bs')]) (fun x hx => ?_) (by simp) (by rw [hkn]; simp) fun F => ?_
            · rcases List.mem_append.mp hx with hx | hx
              · exact .inl hx
              · rw [List.mem_singleton.mp hx]; exact .inr hg
            · rw [start2, run_step (s' := (f l, some b.w, qs ++ [(c, bs')])) gk (by simp only [relab, stpM, if_neg ha]), e2, hfk]
        | take c bs' =>
          obtain ⟨e1, e3⟩ := hkd
          have hg : Gq T vs (c, bs') := ⟨by show c ≤ 9; omega, e3⟩
          refine ⟨(some (c, bs'), qs), fun x hx => by cases hx; exact hg, fun x hx => .inl hx, by simp, fun F hF => ?_⟩
          obtain ⟨G, rfl⟩ : ∃ G, F = G + 1 + 1 + b.rr.length + 1 := ⟨F - (1 + 1 + b.rr.length + 1), by omega⟩
          rw [start2]
          exact run_end gk rfl
        | arg _ => exact hkd.elim
        | fld _ => exact hkd.elim
        | is _ _ => exact hkd.elim
        | upto _ _ => exact hkd.elim
        | fail => exact hkd.elim
end K20
end

section
set_option maxHeartbeats 0
set_option linter.all false
set_option maxRecDepth 100000
set_option maxHeartbeats 0
namespace K20
open Ev
local macro_rules | `(tactic| array_get_dec) => `(tactic| first | (guard_target =~ wp _ _ _; first | refine w_sq ?_ | refine w_sAs ?_ | refine w_sIf ?_ | refine w_sRet ?_ | refine w_eV rfl ?_ | refine w_eC ?_ | refine w_ok ?_ | refine w_call ?_ | refine w_cons ?_ | refine w_nil ?_ | refine w_opMul ?_ | refine w_opMulL ?_ | refine w_op ?_ | refine w_idx ?_ | refine w_cmp ?_ | refine w_tup ?_ | refine w_bi ?_ | refine w_sNil ?_ | refine w_sAsT ?_ | refine w_sFor ?_ | refine w_iE ?_ | refine w_iEnum ?_ | refine w_iRange1 ?_ | refine w_iRange2 ?_ | refine w_iZip ?_ | refine w_comp ?_ | refine w_comp2 ?_ | refine w_yes ?_ | refine w_all ?_ | refine w_eB rfl ?_ | refine w_eBd rfl ?_ | refine w_lst ?_ | refine w_neg ?_ | refine w_ch ?_ | refine w_isN ?_ | refine w_notN ?_ | refine w_eT ?_ | refine w_tE ?_ | refine w_and' ?_ | refine w_or' ?_ | refine w_not ?_ | refine w_eNot ?_ | refine w_eIf ?_ | refine w_eAnd ?_ | refine w_eOr ?_ | refine w_oN ?_ | refine w_oE ?_ | refine w_slc ?_ | refine w_fld ?_ | refine w_meth ?_ | refine w_new ?_ | refine w_mk ?_ | refine w_sX ?_ | refine w_sAug rfl ?_ | refine w_sPar ?_ | refine w_sOwn ?_ | refine w_sCell ?_ | refine w_sFrz rfl ?_ | refine w_sFrzD rfl ?_ | refine w_sApp rfl ?_ | refine w_sExt rfl ?_ | refine w_sRev rfl ?_ | refine w_sSetI rfl ?_ | refine w_sSetD rfl ?_ | refine w_sAugI rfl ?_ | refine w_sRetN ?_ | refine w_sBrk ?_ | refine w_sCnt ?_ | refine w_raise ?_ | refine w_sFld ?_ | refine w_sFldAug ?_ | refine w_sAppC ?_ | refine w_exn ?_ | refine w_inN ?_ | refine w_getN ?_ | refine w_putN ?_ | refine w_dn ?_ | refine w_iRev1 ?_ | refine w_dic ?_) | (guard_target = wo (valsR _) _; first | refine wo_i vals1 ?_ | refine wo_i vals2 ?_ | refine wo_i vals3 ?_ | refine wo_i vals4 ?_ | refine wo_i vals5 ?_ | refine wo_i vals0 ?_) | (guard_target = wo (subR _ _) _; first | refine wo_i (show subR _ _ = some _ from subR_int) ?_) | (guard_target = wo (addR _ _) _; first | refine wo_i (show addR _ _ = some _ from addR_int) ?_) | (guard_target = wo (ltR _ _) _; first | refine wo_i ltR_int ?_) | (guard_target = wo (leR _ _) _; first | refine wo_i leR_int ?_) | (guard_target = wo (gtR _ _) _; first | refine wo_i gtR_int ?_) | (guard_target = wo (geR _ _) _; first | refine wo_i geR_int ?_) | (guard_target = wo (eqR _ _) _; first | refine wo_i eqi_ok ?_ | refine wo_i eqs_ok ?_ | refine wo_i (show eqR _ _ = some _ from rfl) ?_) | (guard_target = wo (neR _ _) _; first | refine wo_i nei_ok ?_ | refine wo_i nes_ok ?_ | refine wo_i (show neR _ _ = some _ from rfl) ?_) | (guard_target = wo (iaddR _ _) _; first | refine wo_i iadd_int ?_) | (guard_target = wo (lenR _) _; first | refine wo_i lenR_tup ?_ | refine wo_i lenR_lst ?_) | (guard_target = wo (intR _) _; first | refine wo_i intR_int ?_ | refine wo_i intR_bl ?_) | (guard_target = wo (tupleR _) _; first | refine wo_i tupleR_tup ?_ | refine wo_i tupleR_lst ?_) | (guard_target = wo (listR _) _; first | refine wo_i listR_tup ?_ | refine wo_i listR_lst ?_) | (guard_target = wo (maxR _) _; first | refine wo_i maxR_two ?_) | (guard_target = wo (minR _) _; first | refine wo_i minR_two ?_) | (guard_target = wo (truthR _) _; first | refine wo_i truthR_bl ?_ | refine wo_i truthR_int ?_ | refine wo_i (show truthR _ = some _ from rfl) ?_) | (guard_target = wo (itemsR _) _; first | refine wo_i itemsR_tup ?_ | refine wo_i itemsR_lst ?_ | refine wo_i itemsR_ls ?_) | (guard_target = wo (ownR _) _; first | refine wo_i own_ds ?_ | refine wo_i (show ownR _ = some _ from rfl) ?_) | (guard_target = wo (idxR _ _) _; first | refine wo_i (show idxR _ _ = some _ from rfl) ?_) | (guard_target = wo (addI _ _) _; first | refine wo_i (show addI _ _ = some _ from rfl) ?_) | (guard_target = wo (pairsR _) _; first | refine wo_i (show pairsR _ = some _ from rfl) ?_) | (guard_target = wo (extR _) _; first | refine wo_i (show extR _ = some _ from rfl) ?_) | (guard_target = wo (enumR _) _; first | refine wo_i (show enumR _ = some _ from rfl) ?_) | (guard_target = wo (slcR _ _ _) _; first | refine wo_i (show slcR _ _ _ = some _ from rfl) ?_) | (guard_target = wo (insOf _ _ _) _; first | refine wo_i (show insOf _ _ _ = some _ from rfl) ?_) | (guard_target =~ wo _ _; first | refine wo_i tg1 ?_ | refine wo_i tg2 ?_ | refine wo_i tg3 ?_ | refine wo_i tg4 ?_ | refine wo_i tg12 ?_ | refine wo_i tg2l ?_ | refine wo_i tg3l ?_ | refine wo_i tg4l ?_) | (guard_target =~ gd _ _; first | refine gd_i ll1 ?_ | refine gd_i ll2 ?_ | refine gd_i ll3 ?_ | refine gd_i ll4 ?_ | refine gd_i ll5 ?_ | refine gd_i ll0 ?_ | refine gd_i (rfl : (_ : Bool) = true) ?_) | refine seq_nx ?_ | refine seq_rt ?_ | refine loop_nx ?_ | refine loop_rt ?_ | refine run_rt rfl ?_ | refine loop_ct ?_ | refine loop_bk ?_ | refine seq_bk ?_ | refine seq_ct ?_ | refine run_nx rfl ?_ | refine ⟨_, rfl, ?_⟩ | refine ⟨rfl, ?_⟩ | exact rfl)
theorem bd_okP {T : Ty} (g : GoodT T) {vs : List Vl} {bs : List B1} (h : BdOk T vs bs) : (encBd vs bs).cost ≤ 160000 ∧ (encBd vs bs).dep ≤ 14 := by
  obtain ⟨h1, h2, h3⟩ := h
  have hall : ∀ x ∈ (srt bs).map (fun b : B1 => D.tup [.str b.1, encV (valAt vs b.2)]), x.cost ≤ 12600 ∧ x.dep ≤ 11 := fun x hx => by
    obtain ⟨b, hb, rfl⟩ := List.mem_map.mp hx
    obtain ⟨hn, i, rr, v, w, f, e1, e2, e3, e4⟩ := h3 b (srt_mem.mp hb)
    rw [e1, valAt_ok e2 e3]
    obtain ⟨c1, c2⟩ := e4.cost g
    have ek : Kc 4 = 12460 := by decide
    rw [ek] at c1
    simp only [D.cost, D.costL, D.dep, D.depL]
    omega
  have a := costL_le (K := 12600) fun x hx => (hall x hx).1
  have b := depL_le (K := 11) fun x hx => (hall x hx).2
  rw [List.length_map, srt_len] at a
  have : bs.length * (12600 + 2) ≤ 2 * (12600 + 2) := Nat.mul_le_mul_right _ h1
  unfold encBd
  simp only [D.cost, D.dep]
  omega
theorem res_ok {T : Ty} (g : GoodT T) {vs : List Vl} {res : MRes} (h1 : ∀ x ∈ res.1, Gq T vs x) (h2 : ∀ x ∈ res.2, Gq T vs x) (hl : res.2.length ≤ 5) : (encTr vs res).dep ≤ EqDep ∧ (encTr vs res).cost ≤ SL := by
  have hq : ∀ x, Gq T vs x → (encQ vs x).cost ≤ 160100 ∧ (encQ vs x).dep ≤ 15 := fun x hx => q_cost ⟨by have := hx.1; omega, (bd_okP g hx.2).1, (bd_okP g hx.2).2⟩
  have e1 := costL_le (K := 160100) (ds := res.2.map (encQ vs)) fun x hx => by obtain ⟨q, hm, rfl⟩ := List.mem_map.mp hx; exact (hq q (h2 q hm)).1
  have e2 := depL_le (K := 15) (ds := res.2.map (encQ vs)) fun x hx => by obtain ⟨q, hm, rfl⟩ := List.mem_map.mp hx; exact (hq q (h2 q hm)).2
  rw [List.length_map] at e1
  have e3 : res.2.length * (160100 + 2) ≤ 5 * (160100 + 2) := Nat.mul_le_mul_right _ hl
  have e4 : (encTk vs res.1).cost ≤ 160100 ∧ (encTk vs res.1).dep ≤ 15 := by
    cases hr : res.1 with
    | none => simp [encTk, D.cost, D.dep]
    | some q => exact hq q (h1 q (by rw [hr]; rfl))
  unfold encTr EqDep SL
  simp only [D.cost, D.costL, D.dep, D.depL]
  omega
theorem Bx_any (digs : List Int) (k : Nat) : ∀ c ∈ Bx [] digs k, ∀ m, okCell m c = true := fun c hc m => by
  rw [show c = _ from List.mem_singleton.mp hc]; rfl
theorem plain0 (sc : List Int) : callN P 200 "law" [.scr sc] [] = .ok (.d (.bl true)) [] := by
  refine wp.ok (wp_call (d := f_law_21) rfl rfl ?_)
  obtain ⟨digs, hd⟩ := digits_spec 197 sc 40 (by omega) []
  have hty := fun (k : Nat) => types_spec 197 [] digs k
  have hpa := fun {T : Ty} (gT : GoodT T) (k : Nat) => params_spec 197 gT [] digs k
  have hval := fun {T : Ty} (gT : GoodT T) (hS : SmT T) {ps : List String} (hp2 : ps.length ≤ 3) (hp3 : ∀ x ∈ ps, TyNm T x) (k : Nat) => values_spec gT hS [] digs (ns := ps) (by omega) hp3 190 k
  have hcode := fun {T : Ty} (gT : GoodT T) {ps : List String} {vs : List Vl} (hv : WV T 4 ps vs) (h1 : 1 ≤ vs.length) (h3 : vs.length ≤ 3) (k : Nat) => code_spec gT digs hv h1 h3 196 k
  have hpl := fun {rows : List LRow} (hl : rows.length ≤ 100) nd hlab μ => placed_spec 198 hl nd hlab μ
  have hans := fun (k : Nat) => answers_spec 197 digs k
  have hrun := fun {T : Ty} {code : List In} {vs : List Vl} {ans : List Bool} {f : Nat} {res : MRes} (hf : f ≤ 999999) (hw : runM code vs ans f (0, none, []) = some res) (h1 : ∀ x ∈ res.1, QgM T 4 vs x) (h2 : ∀ x ∈ res.2, QgM T 4 vs x) (hl : res.2.length ≤ 1000) (k : Nat) => run_spec 194 hf hw h1 h2 hl (Bx_any digs k)
  have hlrun := fun {T : Ty} {code : List In} {vs : List Vl} {ans : List Bool} {f : Nat} {res : MRes} (hf : f ≤ 200) (hw : runM code vs ans f (0, none, []) = some res) (h1 : ∀ x ∈ res.1, QgM T 4 vs x) (h2 : ∀ x ∈ res.2, QgM T 4 vs x) (hl : res.2.length ≤ 1000) (μ : Mem) => lrun_spec 196 hf hw h1 h2 hl μ
  have hsame := fun (x : D) (μ : Mem) (h1 : x.dep ≤ EqDep) (h2 : x.cost ≤ SL) => same_spec 198 x μ h1 h2
  generalize callN P 199 = C at hd hty hpa hval hcode hpl hans hrun hlrun hsame ⊢
  simp only [f_law_21, List.map_cons, List.map_nil, List.length_cons, List.length_nil, Nat.reduceAdd, Nat.reduceSub, List.replicate_succ, List.replicate_zero, List.cons_append, List.nil_append]
  repeat (first | (guard_target =~ wp _ _ _; first | refine wp_eq (hd) ?_) | array_get_dec)
  have e0 : ([] : Mem) ++ [.lst [.lst (digs.map .int), .int 0]] = Bx [] digs 0 := rfl
  rw [e0]
  simp only [List.length_nil]
  repeat array_get_dec
  refine gd_i (by decide) ?_
  refine w_forK (List.range 4) (fun k _ => .d (.int (k : Int))) (fun _ _ ρ μ' => ∃ (k' : Nat) (y2 y3 y4 y5 y6 : Sl), μ' = Bx [] digs k' ∧ ρ = [.v (.scr sc), .v (.p 0), y2, y3, y4, y5, y6])
    (fun k => ?_) ⟨0, _, _, _, _, _, rfl, rfl⟩ ?_ ?_
  · exact (hx_range k).trans (by
      by_cases hk : k < 4
      · rw [List.getElem?_range hk]; rfl
      · rw [List.getElem?_eq_none (by simp; omega)]; rfl)
  · rintro k x rest _ _ hk _ ⟨k', y2, y3, y4, y5, y6, rfl, rfl⟩
    obtain ⟨T, hT, ht⟩ := hty k'
    have gT := good5 T hT
    have hS := sm5 T hT
    obtain ⟨ps, k2, hp1, hp2, hp3, hp⟩ := hpa gT (k' + 1)
    obtain ⟨vs, k3, hwv, hvl⟩ := hval gT hS hp2 hp3 k2
    obtain ⟨bs, e, k4, c1, c2, c3, hc⟩ := hcode gT hwv (by have := hwv.1; omega) (by have := hwv.1; omega) k3
    have hlen := rowsB_len bs 0 fun i b h => by rw [Nat.zero_add]; exact c2 i b h
    have hmk : marksL (rowsB 0 bs ++ [LRow.ins e]) = List.range' 900 bs.length := by rw [marksL_app, marks_rows]; simp [marksL]
    have hpos := fun k (h : k < bs.length) => pos_rows [LRow.ins e] bs 0 k h
    generalize hlook : (fun l => (posOf (rowsB 0 bs ++ [LRow.ins e]) l).getD 0) = look
    have hlk : ∀ k < bs.length, look (900 + k) = offB bs (k + 1) := fun k h => by
      have := hpos k h
      rw [Nat.add_zero] at this
      rw [← hlook]; show (posOf _ _).getD 0 = _; rw [this]; rfl
    have hpc := hpl (rows := rowsB 0 bs ++ [LRow.ins e]) (by rw [List.length_append, List.length_singleton]; omega) (by rw [hmk]; exact List.nodup_range') (fun i hi l hl => by
      rw [insL_app, insL_rows] at hi
      rcases List.mem_append.mp hi with hi | hi
      · obtain ⟨b, hb, hi⟩ := List.mem_flatMap.mp hi
        obtain ⟨t, ht⟩ := List.getElem?_of_mem hb
        have htl := (List.getElem?_eq_some_iff.mp ht).1
        obtain ⟨_, q2, q3⟩ := c2 t b ht
        have hl9 : l = 900 + t := by
          rcases List.mem_append.mp hi with hi | hi
          · rcases List.mem_cons.mp hi with rfl | hi
            · cases hl
            · obtain ⟨j, _, rfl⟩ := List.mem_map.mp hi; cases hl
          · rcases List.mem_cons.mp hi with rfl | hi
            · cases hw : b.w with
              | int a => rw [hw] at q2; obtain ⟨j, hj⟩ := q2; rw [hj] at hl; cases hl; rfl
              | mk c us => rw [hw] at q2; obtain ⟨j, hj⟩ := q2; rw [hj] at hl; cases hl; rfl
            · cases hkn : b.knd with
              | none => rw [hkn] at hi; simp at hi
              | some i' =>
                rw [hkn] at hi q3
                have : i = i' := by simpa using hi
                subst this
                cases i with
                | jump m => cases hl; exact q3
                | ask c b' m => cases hl; exact q3.2.1
                | take _ _ => cases hl
                | arg _ => cases hl
                | fld _ => cases hl
                | is _ _ => exact q3.elim
                | upto _ _ => exact q3.elim
                | fail => cases hl
        exact ⟨_, by rw [hl9]; have := hpos t htl; rw [Nat.add_zero] at this; exact this⟩
      · rcases c3 with rfl | rfl <;> (rw [show i = _ from List.mem_singleton.mp hi] at hl; cases hl))
    rw [hlook] at hpc
    have hpc2 : ∀ μ, C "_law_placed" [.d (.lst ((rowsB 0 bs ++ [LRow.ins e]).map encR))] μ = .ok (.d (.tup ((codeB look bs e).map encIn))) μ := fun μ => by
      rw [hpc μ, ← code_eq look bs c3, List.map_map]; rfl
    obtain ⟨ans, k5, hav⟩ := hans k4
    obtain ⟨res, r1, r2, r3, r4⟩ := runB (T := T) (vs := vs) ans c2 c1 hlk c3 bs.length 0 (by omega) none []
    have r2' : ∀ x ∈ res.2, Gq T vs x := fun x hx => (r2 x hx).elim (fun h => by cases h) id
    have hQ : ∀ x, Gq T vs x → QgM T 4 vs x := fun x hx => ⟨hx.2.2.1, by have := hx.2.1; omega, fun b hb => (hx.2.2.2 b hb).2⟩
    have hoff : offB bs bs.length ≤ 198 := by
      have h1 := code_len look bs e
      have h2 := congrArg List.length (code_eq look bs c3)
      have h3 := insL_len (rowsB 0 bs ++ [LRow.ins e])
      rw [List.length_map] at h2
      rw [List.length_append, List.length_singleton] at h3
      omega
    have hr0 : runM (codeB look bs e) vs ans 200 (0, none, []) = some res := r4 200 (by show _ < 200 + 0; omega)
    have hw1 := hrun (by omega) hr0 (fun x hx => hQ x (r1 x hx)) (fun x hx => hQ x (r2' x hx)) (by have : res.2.length ≤ 0 + bs.length := r3; omega) k5
    have hw2 := hlrun (Nat.le_refl _) hr0 (fun x hx => hQ x (r1 x hx)) (fun x hx => hQ x (r2' x hx)) (by have : res.2.length ≤ 0 + bs.length := r3; omega) (Bx [] digs k5)
    obtain ⟨s1, s2⟩ := res_ok gT r1 r2' (by have : res.2.length ≤ 0 + bs.length := r3; omega)
    have hs := hsame _ (Bx [] digs k5) s1 s2
    refine wo_i tg1 ?_
    repeat (first | (guard_target =~ wp _ _ _; first | refine wp_eq (ht) ?_ | refine wp_eq (hp) ?_ | refine wp_eq (hvl) ?_ | refine wp_eq (hc) ?_ | refine wp_eq (hpc2 _) ?_ | refine wp_eq (hav) ?_ | refine wp_eq (hw1) ?_ | refine wp_eq (hw2) ?_ | refine wp_eq (hs) ?_) | array_get_dec)
    refine ifQ_f rfl ?_
    repeat array_get_dec
    exact ⟨k5, _, _, _, _, _, rfl, rfl⟩
  · rintro _ _ ⟨k', y2, y3, y4, y5, y6, rfl, rfl⟩
    repeat array_get_dec
    exact run_cut (μ := []) (ν := Bx [] digs k') rfl rfl rfl ⟨rfl, rfl⟩
end K20
end

section
set_option maxHeartbeats 0
namespace K20
theorem plain (ns : List Int) (h1 : ns.length ≤ 63) (h2 : ∀ k ∈ ns, PySem.Builtin.Int.intBits k ≤ 1048576) : Ev.callN P 200 "law" [.scr ns] [] = .ok (.d (.bl true)) [] := plain0 ns
end K20
end

section
set_option maxHeartbeats 0
set_option Elab.async false
set_option linter.all false
set_option maxRecDepth 100000
set_option maxHeartbeats 0
open PySem PySem.W PySem.Calls PyProof.Rows
theorem PySem.Challenge.cw_matchgraph_k20_machine_runs_holds : PySem.Challenge.rw_matchgraph_k20_machine_runs.Holds := by
  w_on; o_law
  refine HandSHeadRun.head_any (r := OpenLaw.row PySem.Challenge.rw_matchgraph_k20_machine_runs) (q := view (OpenLaw.row PySem.Challenge.rw_matchgraph_k20_machine_runs).prog [25]) (H := K20.Wk.hk) (ob := K20.Wk.ob) (M := 20000) (loose := K20.Wk.loose) (d := HandSHeadRun.topDef (OpenLaw.row PySem.Challenge.rw_matchgraph_k20_machine_runs).prog 25) (kwd := []) K20.Wk.ob_eq
    (by kernel_rfl) (fun s => by kernel_rfl) K20.Wk.run (by kernel_rfl) (by kernel_rfl) (by kernel_rfl) (by rfl) (by first | assumption | decide +kernel) (by decide +kernel) ⟨rfl, rfl, rfl, rfl, rfl, by decide +kernel⟩ ?hw ?hc
  case hw => w_witness2
  case hc =>
    refine EvS.walk_ev (l := PySem.Challenge.rw_matchgraph_k20_machine_runs) (n := 63) (k := 200) (P := K20.P) (dl := K20.f_law_21) rfl (by decide) (by kernel_rfl) ⟨rfl, by decide, by decide⟩ (by kernel_rfl) rfl rfl rfl ?F K20.plain
    intro w mg h Y G
    obtain ⟨K, KX, c⟩ := Y
    have cd : He.SaysD K20.Wk.fa K20.Wk.fn K := congrArg (fun z : He.AlT => z.1) c.t
    exact ⟨K, EvS.caK K K20.Wk.tf, KX, EvS.caK_all c.empty, EvS.caK_all c.out, EvS.caK_all fun p hp => PySem.W.codeHd_of_K KX (c.hd p hp), K20.Wk.dns KX G cd (K20.Wk.gx KX G cd c.more)⟩
end

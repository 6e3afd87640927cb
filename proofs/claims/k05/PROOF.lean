import PyProof.Rows.All
import Wide.All
import OpenK.AllK
import Wide.FinOn
import HandS.ForMost
import HandS.Wide
import HandS.TupAny
import HandS.TupMul
import HandS.Deep
import HandS.IsInst
import HandS.Style
import HandS.Conv
import HandS.Zip
import HandS.Flow
import PySem.Challenge.RW_powerlift_k05_whole_fractions_come_back
set_option Elab.async false
set_option linter.all false
/-! PLCore: data, a small syntax, its reckoning (no heap in sight). -/
namespace PL
open PySem

inductive D where
  | non | bl (b : Bool) | int (i : Int) | str (s : Str)
  | tup (l : List D) | lst (l : List D) | scr (l : List Int)
  | dic (ks : List Int) (vs : List D)
  | ins (c : Nat) (fs : List Nat) (vs : List D)
  deriving Inhabited

abbrev Sl := Option (D × Bool)
abbrev Fm := List Sl
structure Exn where
  cls : Nat
  val : D
inductive Res (α : Type) where
  | ok (a : α) (e : Fm) | exc (x : Exn) (e : Fm) | err
inductive Fl where
  | nx (e : Fm) | rt (r : D × Bool) (e : Fm) | exc (x : Exn) (e : Fm) | err
inductive CRes where
  | ret (r : D × Bool) (p : Option D) | exc (x : Exn) (p : Option D) | err

def Res.bind {α β : Type} (r : Res α) (f : α → Fm → Res β) : Res β :=
  match r with
  | .ok a e => f a e
  | .exc x e => .exc x e
  | .err => .err
@[simp] theorem Res.bind_ok {α β : Type} (a : α) (e : Fm) (f : α → Fm → Res β) : (Res.ok a e).bind f = f a e := rfl
@[simp] theorem Res.bind_exc {α β : Type} (x : Exn) (e : Fm) (f : α → Fm → Res β) : (Res.exc x e : Res α).bind f = .exc x e := rfl
@[simp] theorem Res.bind_err {α β : Type} (f : α → Fm → Res β) : (Res.err : Res α).bind f = .err := rfl
def Res.lift {α : Type} (o : Option α) (e : Fm) : Res α :=
  match o with
  | some a => .ok a e
  | none => .err
@[simp] theorem Res.lift_some {α : Type} (a : α) (e : Fm) : Res.lift (some a) e = .ok a e := rfl
@[simp] theorem Res.lift_none {α : Type} (e : Fm) : (Res.lift none e : Res α) = .err := rfl

inductive BOp where | add | sub | mul | div | mod | pow
  deriving DecidableEq
inductive COp where | eq | ne | lt | le | gt | ge | isN | notN | inn | nin
  deriving DecidableEq
inductive Ty where | int | bool | str | tuple | list
  deriving DecidableEq
/-- built-in functions by values -/
inductive Bi where
  | len | abs | max2 | min2 | max1 | min1 | int1 | str1 | sum | sorted | list | tuple | any | all | listR | tupR | dictL | dictZ
  deriving DecidableEq
/-- methods of built-in types that change nothing -/
inductive Bm where
  | count | index | join | split | starts | get
  deriving DecidableEq
/-- what is stored to -/
inductive Tg where
  | one (i : Nat) | many (is : List Nat)

mutual
inductive E where
  | var (i : Nat)
  | cst (d : D)
  | glb (g : Nat)
  | bin (op : BOp) (a b : E)
  | neg (a : E)
  | cmp (op : COp) (a b : E)
  | cmpv (op : COp) (x : Nat) (b : E)
  | chn (o p : COp) (a b c : E)
  | din (neg : Bool) (a b : E)
  | and (a b : E) | or (a b : E) | not (a : E)
  | ifx (c a b : E)
  | tup (es : Es) | lst (es : Es)
  | idx (a i : E)
  | idxv (x : Nat) (i : E)
  | slc (a : E) (lo hi : O)
  | atr (p : E) (f : Nat)
  | isI (a : E) (ts : List Ty)
  | bi (b : Bi) (es : Es)
  | lenp (p : E)
  | bm (m : Bm) (o : E) (es : Es)
  | fn (f : Nat) (es : Es)
  | fnv (f : Nat) (x : Nat) (es : Es)
  | fnk (f : Nat) (es : Es) (k : E)
  | mth (o : E) (m : Nat) (es : Es)
  | mthp (p : E) (m : Nat) (es : Es)
  | new (c : Nat) (es : Es)
  | pop (x : Nat) (i : E)
  | lc (it : Src) (tg : Tg) (c : O) (body : E)
  | lc2 (it : Src) (tg : Tg) (it2 : Src) (tg2 : Tg) (body : E)
  | dc (it : Src) (tg : Tg) (k v : E)
inductive Es where
  | nil | cons (e : E) (es : Es)
inductive O where
  | none | some (e : E)
inductive Src where
  | seq (e : E) | pek (p : E) | rng1 (e : E) | rng2 (a b : E) | enm (e : E) | zip (a b : E) | vals (e : E)
end

mutual
inductive S where
  | asg (tg : Tg) (e : E)
  | par (is : List Nat) (es : Es)
  | aug (i : Nat) (sb : Bool) (e : E)
  | sub (x : Nat) (i e : E)
  | swp (x : Nat) (i j a b : E)
  | fld (f : Nat) (e : E)
  | fld2 (f g : Nat) (e : E)
  | app (p : E) (e : E)
  | exp (e : E)
  | ret (e : E) | retN
  | ifs (c : E) (a b : Ss)
  | whl (c : E) (b : Ss)
  | for (it : Src) (tg : Tg) (b : Ss)
  | rse (c : Nat) (e : O)
  | pas
inductive Ss where
  | nil | cons (s : S) (r : Ss)
end

structure FnE where
  np : Nat
  ns : Nat
  io : Bool
  body : Ss
structure Ctx where
  glb : Nat → Option D
  om : Nat → Nat → Bool
  fn : Nat → Option FnE
  meth : Nat → Nat → Option Nat
  init : Nat → Option Nat
  dfl : Nat → List D
  kwd : Nat → Nat

def LIM : Nat := 1000000

/-! ### data -/
/-- of nested depth at most n, without dicts and instances -/
def Dpk : Nat → D → Prop
  | _, .non => True
  | _, .bl _ => True
  | _, .int _ => True
  | _, .str s => s.cps.all (· < 0x110000) = true
  | n + 1, .tup l => ∀ x ∈ l, Dpk n x
  | n + 1, .lst l => ∀ x ∈ l, Dpk n x
  | _, _ => False
mutual
def eqb : D → D → Bool
  | .non, .non => true
  | .bl a, .bl b => a == b
  | .bl a, .int j => (if a then 1 else 0) == j
  | .int i, .bl b => i == (if b then 1 else 0)
  | .int i, .int j => i == j
  | .str x, .str y => x == y
  | .lst xs, .lst ys => eqbs xs ys
  | .tup xs, .tup ys => eqbs xs ys
  | _, _ => false
def eqbs : List D → List D → Bool
  | [], [] => true
  | x :: xs, y :: ys => eqb x y && eqbs xs ys
  | _, _ => false
end
@[simp] def flat : D → Bool
  | .non => true | .bl _ => true | .int _ => true | .str _ => true | _ => false

def MulOk (i j : Int) : Prop := (-(2 ^ 64) < i ∧ i < 2 ^ 64) ∨ (-(2 ^ 64) < j ∧ j < 2 ^ 64) ∨ i.natAbs.log2 + j.natAbs.log2 < 1000000
instance (i j : Int) : Decidable (MulOk i j) := by unfold MulOk; exact inferInstance

@[simp] def biD : BOp → D → D → Option (D × Bool)
  | .add, .int i, .int j => some (.int (i + j), false)
  | .add, .tup a, .tup b => if a.length + b.length ≤ LIM then some (.tup (a ++ b), false) else none
  | .add, .lst a, .lst b => if a.length + b.length ≤ LIM then some (.lst (a ++ b), true) else none
  | .sub, .int i, .int j => some (.int (i - j), false)
  | .mul, .int i, .int j => if MulOk i j then some (.int (i * j), false) else none
  | .mul, .lst a, .int k => if 0 ≤ k ∧ k ≤ 1000 ∧ a.length ≤ 1000 then some (.lst (List.replicate k.toNat a).flatten, true) else none
  | .mul, .tup a, .int k => if 1 ≤ k ∧ k ≤ 1000 ∧ a.length ≤ 1000 ∧ a ≠ [] then some (.tup (List.replicate k.toNat a).flatten, false) else none
  | .div, .int i, .int j => if 0 < j ∧ j.natAbs.log2 < 9000 then some (.int (i / j), false) else none
  | .mod, .int i, .int j => if 0 < j then some (.int (i % j), false) else none
  | .pow, .int i, .int j => if 0 ≤ j ∧ j ≤ 1000000 ∧ i.natAbs < 2 ^ 64 then some (.int (i ^ j.toNat), false) else none
  | _, _, _ => none

@[simp] def isNon : D → Bool
  | .non => true
  | _ => false
open Classical in
@[simp] noncomputable def cmD : COp → D → D → Option Bool
  | .eq, a, b => if Dpk 16 a ∧ Dpk 16 b then some (eqb a b) else none
  | .ne, a, b => if Dpk 16 a ∧ Dpk 16 b then some (!eqb a b) else none
  | .lt, .int i, .int j => some (decide (i < j))
  | .le, .int i, .int j => some (decide (i ≤ j))
  | .gt, .int i, .int j => some (decide (j < i))
  | .ge, .int i, .int j => some (decide (j ≤ i))
  | .isN, a, .non => some (isNon a)
  | .notN, a, .non => some (!isNon a)
  | .inn, a, .lst l => if Dpk 16 a ∧ Dpk 16 (.lst l) then some (l.any fun z => eqb z a) else none
  | .nin, a, .lst l => if Dpk 16 a ∧ Dpk 16 (.lst l) then some (!l.any fun z => eqb z a) else none
  | .inn, a, .tup l => if flat a = true ∧ l.all flat = true then some (l.any fun z => eqb z a) else none
  | .nin, a, .tup l => if flat a = true ∧ l.all flat = true then some (!l.any fun z => eqb z a) else none
  | _, _, _ => none

/-- the place that a whole number names in a row of n -/
def ixn (n : Nat) (i : Int) : Option Nat := if 0 ≤ i then (if i < n then some i.toNat else none) else if -(n : Int) ≤ i then some (i + n).toNat else none
@[simp] def ixD : D → D → Option D
  | .lst l, .int i => (ixn l.length i).bind fun j => l[j]?
  | .tup l, .int i => (ixn l.length i).bind fun j => l[j]?
  | .scr l, .int i => ((ixn l.length i).bind fun j => l[j]?).map .int
  | _, _ => none
def clp (n d : Nat) : Option Int → Nat
  | none => d
  | some v => if v < 0 then (v + (n : Int)).toNat else min v.toNat n
def cut {α : Type} (l : List α) (lo hi : Option Int) : List α := (l.drop (clp l.length 0 lo)).take (clp l.length l.length hi - clp l.length 0 lo)
@[simp] def slD : D → Option Int → Option Int → Option (D × Bool)
  | .lst l, lo, hi => some (.lst (cut l lo hi), true)
  | .tup l, lo, hi => some (.tup (cut l lo hi), false)
  | _, _, _ => none

@[simp] def tyD : D → Option (List Ty)
  | .non => some []
  | .bl _ => some [.bool, .int]
  | .int _ => some [.int]
  | .str _ => some [.str]
  | .tup _ => some [.tuple]
  | .lst _ => some [.list]
  | _ => none

@[simp] def intsOf : List D → Option (List Int)
  | [] => some []
  | .int i :: r => (intsOf r).map (i :: ·)
  | _ => none
@[simp] def blsOf : List D → Option (List Bool)
  | [] => some []
  | .bl b :: r => (blsOf r).map (b :: ·)
  | _ => none
def maxL : List Int → Int
  | [] => 0
  | [a] => a
  | a :: r => max a (maxL r)
def minL : List Int → Int
  | [] => 0
  | [a] => a
  | a :: r => min a (minL r)
def insI (a : Int) : List Int → List Int
  | [] => [a]
  | b :: r => if a ≤ b then a :: b :: r else b :: insI a r
def srtI : List Int → List Int
  | [] => []
  | a :: r => insI a (srtI r)
def rgD (a b : Int) : List D := (List.range (b - a).toNat).map fun (i : Nat) => D.int (a + (i : Int))
def dput (ks : List Int) (vs : List D) (k : Int) (v : D) : List Int × List D :=
  match ks, vs with
  | [], _ => ([k], [v])
  | x :: xs, y :: ys => if x = k then (x :: xs, v :: ys) else ((x :: (dput xs ys k v).1), (y :: (dput xs ys k v).2))
  | x :: xs, [] => (x :: xs, [])
def dget (ks : List Int) (vs : List D) (k : Int) : Option D :=
  match ks, vs with
  | x :: xs, y :: ys => if x = k then some y else dget xs ys k
  | _, _ => none
def dicOf : List Int → List D → List Int → List D → List Int × List D
  | ks, vs, k :: r, v :: s => dicOf (dput ks vs k v).1 (dput ks vs k v).2 r s
  | ks, vs, _, _ => (ks, vs)

@[simp] def biF : Bi → List D → Option (D × Bool)
  | .len, [.lst l] => some (.int l.length, false)
  | .len, [.tup l] => some (.int l.length, false)
  | .len, [.scr l] => some (.int l.length, false)
  | .abs, [.int i] => some (.int (if i < 0 then -i else i), false)
  | .max2, [.int i, .int j] => some (.int (if j > i then j else i), false)
  | .min2, [.int i, .int j] => some (.int (if j < i then j else i), false)
  | .max1, [.lst l] => (intsOf l).bind fun ns => if ns = [] then none else some (.int (maxL ns), false)
  | .min1, [.lst l] => (intsOf l).bind fun ns => if ns = [] then none else some (.int (minL ns), false)
  | .int1, [.int i] => some (.int i, false)
  | .int1, [.bl b] => some (.int (if b then 1 else 0), false)
  | .sum, [.lst l] => (intsOf l).map fun ns => (.int ns.sum, false)
  | .sorted, [.lst l] => (intsOf l).bind fun ns => if ns.length < 64 then some (.lst ((srtI ns).map .int), true) else none
  | .list, [.lst l] => some (.lst l, true)
  | .list, [.tup l] => some (.lst l, true)
  | .tuple, [.lst l] => some (.tup l, false)
  | .tuple, [.tup l] => some (.tup l, false)
  | .any, [.lst l] => (blsOf l).map fun bs => (.bl (bs.any id), false)
  | .all, [.lst l] => (blsOf l).map fun bs => (.bl (bs.all id), false)
  | .listR, [.int n] => if 0 ≤ n ∧ n ≤ 100000 then some (.lst (rgD 0 n), true) else none
  | .tupR, [.int n] => if 0 ≤ n ∧ n ≤ 100000 then some (.tup (rgD 0 n), false) else none
  | .dictZ, [.lst ks, .lst vs] => (intsOf ks).map fun ns => (.dic (dicOf [] [] ns vs).1 (dicOf [] [] ns vs).2, false)
  | _, _ => none
@[simp] def bmF : Bm → D → List D → Option (D × Bool)
  | .get, .dic ks vs, [.int k, d] => some ((dget ks vs k).getD d, false)
  | _, _, _ => none

/-! ### places -/
def fget : List Nat → List D → Nat → Option D
  | g :: gs, v :: vs, f => if g = f then some v else fget gs vs f
  | _, _, _ => none
def fput (f : Nat) (d : D) : List Nat → List D → List Nat × List D
  | g :: gs, v :: vs => if g = f then (g :: gs, d :: vs) else (g :: (fput f d gs vs).1, v :: (fput f d gs vs).2)
  | _, _ => ([f], [d])
@[simp] def rdv (x : Nat) (env : Fm) : Option D :=
  match env[x]? with
  | some (some (.ins _ _ _, _)) => none
  | some (some (d, _)) => some d
  | _ => none
@[simp] def setI (l : List D) (i : Int) (d : D) : Option (List D) := (ixn l.length i).map fun j => l.set j d

/-! ### loops -/
def iter (step : Fm → Fm ⊕ Fl) : Nat → Fm → Option Fl
  | 0, _ => none
  | n + 1, env =>
    match step env with
    | .inl env' => iter step n env'
    | .inr r => some r
open Classical in
noncomputable def whileF (step : Fm → Fm ⊕ Fl) (env : Fm) : Fl := if h : ∃ r, ∃ n, iter step n env = some r then Classical.choose h else .err
theorem iter_mono {step : Fm → Fm ⊕ Fl} : ∀ {n m : Nat} {env : Fm} {r : Fl}, iter step n env = some r → n ≤ m → iter step m env = some r
  | 0, _, _, _, h, _ => by simp [iter] at h
  | n + 1, 0, _, _, _, hm => by omega
  | n + 1, m + 1, env, r, h, hm => by
    unfold iter at h ⊢
    cases e : step env with
    | inl env' =>
      rw [e] at h
      exact iter_mono h (by omega)
    | inr r' =>
      rw [e] at h
      exact h
theorem iter_inj {step : Fm → Fm ⊕ Fl} {n m : Nat} {env : Fm} {r r' : Fl} (h : iter step n env = some r) (h' : iter step m env = some r') : r = r' := by
  have a := iter_mono h (Nat.le_max_left n m)
  have b := iter_mono h' (Nat.le_max_right n m)
  rw [a] at b
  exact Option.some.inj b
theorem whileF_of {step : Fm → Fm ⊕ Fl} {n : Nat} {env : Fm} {r : Fl} (h : iter step n env = some r) : whileF step env = r := by
  have z : ∃ r, ∃ n, iter step n env = some r := ⟨r, n, h⟩
  unfold whileF
  rw [dif_pos z]
  obtain ⟨m, hm⟩ := Classical.choose_spec z
  exact iter_inj hm h
theorem whileF_or {step : Fm → Fm ⊕ Fl} {env : Fm} : (∃ n, iter step n env = some (whileF step env)) ∨ whileF step env = .err := by
  by_cases z : ∃ r, ∃ n, iter step n env = some r
  · obtain ⟨r, n, h⟩ := z
    left
    rw [whileF_of h]
    exact ⟨n, h⟩
  · right
    unfold whileF
    rw [dif_neg z]
theorem whileF_eq (step : Fm → Fm ⊕ Fl) (env : Fm) : whileF step env = match step env with
    | .inl env' => whileF step env'
    | .inr r => r := by
  cases e : step env with
  | inr r =>
    have h : iter step 1 env = some r := by
      unfold iter
      rw [e]
    exact whileF_of h
  | inl env' =>
    show whileF step env = whileF step env'
    have hs : ∀ n, iter step (n + 1) env = iter step n env' := fun n => by
      show (match step env with | .inl env' => iter step n env' | .inr r => some r) = _
      rw [e]
    by_cases z : ∃ r, ∃ n, iter step n env' = some r
    · obtain ⟨r, n, h⟩ := z
      rw [whileF_of h, whileF_of (n := n + 1) (by rw [hs, h])]
    · have z' : ¬ ∃ r, ∃ n, iter step n env = some r := by
        rintro ⟨r, n, h⟩
        cases n with
        | zero => simp [iter] at h
        | succ n => exact z ⟨r, n, by rw [← hs]; exact h⟩
      unfold whileF
      rw [dif_neg z, dif_neg z']

/-- while, by its test and its body -/
noncomputable def whlG (c : Fm → Res (D × Bool)) (b : Fm → Fl) (env : Fm) : Fl := whileF (fun env =>
  match c env with
  | .ok (.bl true, _) env =>
    match b env with
    | .nx env => .inl env
    | r => .inr r
  | .ok (.bl false, _) env => .inr (.nx env)
  | .exc x env => .inr (.exc x env)
  | _ => .inr .err) env
theorem whlG_more {c : Fm → Res (D × Bool)} {b : Fm → Fl} {env e1 e2 : Fm} {o : Bool} (h1 : c env = .ok (.bl true, o) e1) (h2 : b e1 = .nx e2) : whlG c b env = whlG c b e2 := by
  unfold whlG
  rw [whileF_eq]
  simp only [h1, h2]
theorem whlG_done {c : Fm → Res (D × Bool)} {b : Fm → Fl} {env e1 : Fm} {o : Bool} (h1 : c env = .ok (.bl false, o) e1) : whlG c b env = .nx e1 := by
  unfold whlG
  rw [whileF_eq]
  simp only [h1]
theorem whlG_leave {c : Fm → Res (D × Bool)} {b : Fm → Fl} {env e1 e2 : Fm} {o : Bool} {r : D × Bool} (h1 : c env = .ok (.bl true, o) e1) (h2 : b e1 = .rt r e2) : whlG c b env = .rt r e2 := by
  unfold whlG
  rw [whileF_eq]
  simp only [h1, h2]
/-- a store -/
@[simp] def bnd (io : Bool) (tg : Tg) (r : D × Bool) (env : Fm) : Option Fm :=
  match tg with
  | .one i => if io = true ∧ i = 0 then none else some (env.set i (some r))
  | .many is =>
    match r with
    | (.tup l, _) => if l.length = is.length ∧ (io = true → 0 ∉ is) then some ((is.zip l).foldl (fun e p => e.set p.1 (some (p.2, false))) env) else none
    | _ => none
@[simp] def Tg.ixs : Tg → List Nat
  | .one i => [i]
  | .many is => is
@[simp] def wip (env : Fm) : List Nat → Fm
  | [] => env
  | v :: vs => (wip env vs).set v none
@[simp] def rst (env old : Fm) : List Nat → Fm
  | [] => env
  | v :: vs => (rst env old vs).set v (old[v]?.getD none)

/-- a loop over items -/
def forF (bd : D → Fm → Option Fm) (body : Fm → Fl) : List D → Fm → Fl
  | [], env => .nx env
  | d :: ds, env =>
    match bd d env with
    | some env1 =>
      match body env1 with
      | .nx env2 => forF bd body ds env2
      | r => r
    | none => .err
/-- a comprehension -/
def lcF (bd : D → Fm → Option Fm) (wp : Fm → Fm) (cond : Fm → Res Bool) (body : Fm → Res D) : List D → Fm → List D → Res (List D)
  | [], env, acc => .ok acc env
  | d :: ds, env, acc =>
    match bd d env with
    | some env1 => (cond env1).bind fun b env2 =>
      if b = true then (body env2).bind fun x env3 => if acc.length < LIM then lcF bd wp cond body ds (wp env3) (acc ++ [x]) else .err
      else lcF bd wp cond body ds (wp env2) acc
    | none => .err

section
variable (Γ : Ctx) (call : Nat → List (D × Bool) → CRes)

/-- what stands at a path: the thing, and whether it is ours alone -/
@[simp] def pth : E → Fm → Option (D × Bool)
  | .var i, env =>
    match env[i]? with
    | some (some s) => some s
    | _ => none
  | .atr p f, env =>
    match pth p env with
    | some (.ins c fs vs, o) => (fget fs vs f).map fun d => (d, o && Γ.om c f)
    | _ => none
  | _, _ => none
@[simp] def setP : E → D → Fm → Fm
  | .var i, d, env => env.set i (some (d, true))
  | .atr p f, d, env =>
    match pth Γ p env with
    | some (.ins c fs vs, _) => setP p (.ins c fs (fput f d fs vs).2) env
    | _ => env
  | _, _, env => env
@[simp] def Es.simple : Es → Bool
  | .nil => true
  | .cons (.var _) r => r.simple
  | .cons (.cst _) r => r.simple
  | .cons (.glb _) r => r.simple
  | _ => false

mutual
noncomputable def ev : E → Fm → Res (D × Bool)
  | .var i, env =>
    match env[i]? with
    | some (some (d, o)) => .ok (d, false) (if o = true then env.set i (some (d, false)) else env)
    | _ => .err
  | .cst d, env => .ok (d, false) env
  | .glb g, env => Res.lift ((Γ.glb g).map fun d => (d, false)) env
  | .bin op a b, env => (ev a env).bind fun x env => (ev b env).bind fun y env => Res.lift (biD op x.1 y.1) env
  | .neg a, env => (ev a env).bind fun x env => match x.1 with | .int i => .ok (.int (-i), false) env | _ => .err
  | .cmp op a b, env => (ev a env).bind fun x env => (ev b env).bind fun y env => Res.lift ((cmD op x.1 y.1).map fun b => (.bl b, false)) env
  | .cmpv op x b, env => (Res.lift (rdv x env) env).bind fun _ env => (ev b env).bind fun y env => Res.lift ((rdv x env).bind fun d => (cmD op d y.1).map fun b => (.bl b, false)) env
  | .chn o p a b c, env => (ev a env).bind fun x env => (ev b env).bind fun y env =>
      match cmD o x.1 y.1 with
      | some true => (ev c env).bind fun z env => Res.lift ((cmD p y.1 z.1).map fun b => (.bl b, false)) env
      | some false => .ok (.bl false, false) env
      | none => .err
  | .din neg a b, env => (ev a env).bind fun x env => (ev b env).bind fun y env =>
      match x.1, y.1 with
      | .int k, .dic ks _ => .ok (.bl (if neg = true then !decide (k ∈ ks) else decide (k ∈ ks)), false) env
      | _, _ => .err
  | .and a b, env => (ev a env).bind fun x env => match x.1 with | .bl true => ev b env | .bl false => .ok (.bl false, false) env | _ => .err
  | .or a b, env => (ev a env).bind fun x env => match x.1 with | .bl true => .ok (.bl true, false) env | .bl false => ev b env | _ => .err
  | .not a, env => (ev a env).bind fun x env => match x.1 with | .bl b => .ok (.bl (!b), false) env | _ => .err
  | .ifx c a b, env => (ev c env).bind fun x env => match x.1 with | .bl true => ev a env | .bl false => ev b env | _ => .err
  | .tup es, env => (evs es env).bind fun ds env => if ds.length ≤ LIM then .ok (.tup ds, false) env else .err
  | .lst es, env => (evs es env).bind fun ds env => if ds.length ≤ LIM then .ok (.lst ds, true) env else .err
  | .idx a i, env => (ev a env).bind fun x env => (ev i env).bind fun y env => Res.lift ((ixD x.1 y.1).map fun d => (d, false)) env
  | .idxv x i, env => (Res.lift (rdv x env) env).bind fun _ env => (ev i env).bind fun y env => Res.lift ((rdv x env).bind fun d => (ixD d y.1).map fun d => (d, false)) env
  | .slc a lo hi, env => (ev a env).bind fun x env => (evo lo env).bind fun l env => (evo hi env).bind fun h env => Res.lift (slD x.1 l h) env
  | .atr p f, env =>
    match pth Γ (.atr p f) env with
    | some (d, false) => .ok (d, false) env
    | _ => .err
  | .isI a ts, env => (ev a env).bind fun x env => Res.lift ((tyD x.1).map fun l => (.bl (ts.any fun t => l.contains t), false)) env
  | .bi b es, env => (evs es env).bind fun ds env => Res.lift (biF b ds) env
  | .lenp p, env => Res.lift ((pth Γ p env).bind fun x => biF .len [x.1]) env
  | .bm m o es, env => (ev o env).bind fun x env => (evs es env).bind fun ds env => Res.lift (bmF m x.1 ds) env
  | .fn f es, env => (evs es env).bind fun ds env =>
      match call f ((ds ++ Γ.dfl f).map fun d => (d, false)) with
      | .ret r none => .ok r env
      | .exc x none => .exc x env
      | _ => .err
  | .fnv f x es, env => (Res.lift (rdv x env) env).bind fun _ env => (evs es env).bind fun ds env =>
      match env[x]? with
      | some (some (d, true)) =>
        match call f ((d, true) :: (ds ++ Γ.dfl f).map fun d => (d, false)) with
        | .ret r (some d') => .ok r (env.set x (some (d', true)))
        | .exc z (some d') => .exc z (env.set x (some (d', true)))
        | _ => .err
      | _ => .err
  | .fnk f es k, env => (evs es env).bind fun ds env => (ev k env).bind fun y env =>
      match call f ((ds ++ [y.1]).map fun d => (d, false)) with
      | .ret r none => .ok r env
      | .exc x none => .exc x env
      | _ => .err
  | .mth o m es, env => (ev o env).bind fun x env => (evs es env).bind fun ds env =>
      match x.1 with
      | .ins c fs vs =>
        match Γ.meth c m with
        | some f =>
          match call f ((.ins c fs vs, false) :: ds.map fun d => (d, false)) with
          | .ret r none => .ok r env
          | .exc x none => .exc x env
          | _ => .err
        | none => .err
      | _ => .err
  | .mthp p m es, env => if es.simple = true then (evs es env).bind fun ds env =>
      match pth Γ p env with
      | some (.ins c fs vs, true) =>
        match Γ.meth c m with
        | some f =>
          match call f ((.ins c fs vs, true) :: ds.map fun d => (d, false)) with
          | .ret r (some d') => .ok r (setP Γ p d' env)
          | .exc x (some d') => .exc x (setP Γ p d' env)
          | _ => .err
        | none => .err
      | _ => .err else .err
  | .new c es, env => (evs es env).bind fun ds env =>
      match Γ.init c with
      | some f =>
        match call f ((.ins c [] [], true) :: ds.map fun d => (d, false)) with
        | .ret (.non, _) (some d') => .ok (d', true) env
        | .exc x (some _) => .exc x env
        | _ => .err
      | none => .err
  | .pop x i, env => (ev i env).bind fun y env =>
      match env[x]?, y.1 with
      | some (some (.lst l, true)), .int i =>
        match ixn l.length i with
        | some j =>
          match l[j]? with
          | some d => .ok (d, false) (env.set x (some (.lst (l.eraseIdx j), true)))
          | none => .err
        | none => .err
      | _, _ => .err
  | .lc it tg c body, env => (evi it env).bind fun items env =>
      (lcF (fun d e => bnd false tg (d, false) e) (fun e => wip e tg.ixs)
        (fun e => match c with
          | .none => .ok true e
          | .some c => (ev c e).bind fun x e => match x.1 with | .bl b => .ok b e | _ => .err)
        (fun e => (ev body e).bind fun x e => .ok x.1 e) items (wip env tg.ixs) []).bind fun ds e => .ok (.lst ds, true) (rst e env tg.ixs)
  | .lc2 it tg it2 tg2 body, env => .err
  | .dc it tg k v, env => .err
noncomputable def evs : Es → Fm → Res (List D)
  | .nil, env => .ok [] env
  | .cons e es, env => (ev e env).bind fun x env => (evs es env).bind fun ds env => .ok (x.1 :: ds) env
noncomputable def evo : O → Fm → Res (Option Int)
  | .none, env => .ok none env
  | .some e, env => (ev e env).bind fun x env => match x.1 with | .int i => .ok (some i) env | _ => .err
noncomputable def evi : Src → Fm → Res (List D)
  | .seq e, env => (ev e env).bind fun x env => match x.1 with | .lst l => .ok l env | .tup l => .ok l env | _ => .err
  | .pek p, env => .err
  | .rng1 e, env => (ev e env).bind fun x env => match x.1 with | .int n => if -100000000 ≤ n ∧ n ≤ 100000000 then .ok (rgD 0 n) env else .err | _ => .err
  | .rng2 a b, env => (ev a env).bind fun x env => (ev b env).bind fun y env => match x.1, y.1 with
      | .int i, .int j => if -100000000 ≤ i ∧ i ≤ 100000000 ∧ -100000000 ≤ j ∧ j ≤ 100000000 then .ok (rgD i j) env else .err
      | _, _ => .err
  | .enm e, env => (ev e env).bind fun x env =>
      match x.1 with
      | .lst l => .ok ((rgD 0 l.length).zipWith (fun a b => .tup [a, b]) l) env
      | .tup l => .ok ((rgD 0 l.length).zipWith (fun a b => .tup [a, b]) l) env
      | _ => .err
  | .zip a b, env => (ev a env).bind fun x env => (ev b env).bind fun y env =>
      match x.1, y.1 with
      | .lst l, .lst m => .ok (l.zipWith (fun a b => .tup [a, b]) m) env
      | .tup l, .tup m => .ok (l.zipWith (fun a b => .tup [a, b]) m) env
      | .lst l, .tup m => .ok (l.zipWith (fun a b => .tup [a, b]) m) env
      | .tup l, .lst m => .ok (l.zipWith (fun a b => .tup [a, b]) m) env
      | _, _ => .err
  | .vals e, env => .err
end

/-- results that are kept as they come (a, b = x, y) -/
noncomputable def evp : Es → Fm → Res (List (D × Bool))
  | .nil, env => .ok [] env
  | .cons e es, env => (ev Γ call e env).bind fun x env => (evp es env).bind fun ds env => .ok (x :: ds) env

def Fl.bind (r : Fl) (f : Fm → Fl) : Fl :=
  match r with
  | .nx e => f e
  | r => r
def Res.fl {α : Type} (r : Res α) (f : α → Fm → Fl) : Fl :=
  match r with
  | .ok a e => f a e
  | .exc x e => .exc x e
  | .err => .err

@[simp] theorem Fl.bind_nx (e : Fm) (f : Fm → Fl) : (Fl.nx e).bind f = f e := rfl
@[simp] theorem Fl.bind_rt (r : D × Bool) (e : Fm) (f : Fm → Fl) : (Fl.rt r e).bind f = .rt r e := rfl
@[simp] theorem Fl.bind_exc (x : Exn) (e : Fm) (f : Fm → Fl) : (Fl.exc x e).bind f = .exc x e := rfl
@[simp] theorem Fl.bind_err (f : Fm → Fl) : (Fl.err).bind f = .err := rfl
@[simp] theorem Res.fl_ok {α : Type} (a : α) (e : Fm) (f : α → Fm → Fl) : (Res.ok a e).fl f = f a e := rfl
@[simp] theorem Res.fl_exc {α : Type} (x : Exn) (e : Fm) (f : α → Fm → Fl) : (Res.exc x e : Res α).fl f = .exc x e := rfl
@[simp] theorem Res.fl_err {α : Type} (f : α → Fm → Fl) : (Res.err : Res α).fl f = .err := rfl

mutual
noncomputable def ex (io : Bool) : S → Fm → Fl
  | .asg tg e, env => (ev Γ call e env).fl fun r env =>
      match bnd io tg r env with
      | some env => .nx env
      | none => .err
  | .par is es, env => (evp Γ call es env).fl fun rs env =>
      if rs.length = is.length ∧ (io = true → 0 ∉ is) then .nx ((is.zip rs).foldl (fun e p => e.set p.1 (some p.2)) env) else .err
  | .aug i sb e, env =>
    match rdv i env with
    | some (.int a) => (ev Γ call e env).fl fun r env =>
        match r.1 with
        | .int b => if io = true ∧ i = 0 then .err else .nx (env.set i (some (.int (if sb = true then a - b else a + b), false)))
        | _ => .err
    | _ => .err
  | .sub x i e, env => (ev Γ call e env).fl fun r env =>
      match rdv x env with
      | some _ => (ev Γ call i env).fl fun y env =>
        match env[x]?, y.1 with
        | some (some (.lst l, true)), .int i =>
          match setI l i r.1 with
          | some l' => .nx (env.set x (some (.lst l', true)))
          | none => .err
        | _, _ => .err
      | none => .err
  | .swp x i j a b, env => .err
  | .fld f e, env => (ev Γ call e env).fl fun r (env : Fm) =>
      match env[(0 : Nat)]? with
      | some (some (.ins c fs vs, true)) =>
        if fs.length < 100 ∧ (Γ.om c f = true → r.2 = true) then .nx (env.set 0 (some (.ins c (fput f r.1 fs vs).1 (fput f r.1 fs vs).2, true))) else .err
      | _ => .err
  | .fld2 f g e, env => .err
  | .app p e, env =>
    match pth Γ p env with
    | some (.lst _, true) => (ev Γ call e env).fl fun r env =>
      match pth Γ p env with
      | some (.lst l, true) => if l.length < LIM then .nx (setP Γ p (.lst (l ++ [r.1])) env) else .err
      | _ => .err
    | _ => .err
  | .exp e, env => (ev Γ call e env).fl fun _ env => .nx env
  | .ret e, env => (ev Γ call e env).fl fun r env => .rt r env
  | .retN, env => .rt (.non, false) env
  | .ifs c a b, env => (ev Γ call c env).fl fun r env => match r.1 with | .bl true => exs io a env | .bl false => exs io b env | _ => .err
  | .whl c b, env => whlG (fun e => ev Γ call c e) (fun e => exs io b e) env
  | .for it tg b, env => (evi Γ call it env).fl fun items env => forF (fun d e => bnd io tg (d, false) e) (fun e => exs io b e) items env
  | .rse c e, env =>
    match e with
    | .none => .exc ⟨c, .non⟩ env
    | .some e => (ev Γ call e env).fl fun r env => .exc ⟨c, r.1⟩ env
  | .pas, env => .nx env
noncomputable def exs (io : Bool) : Ss → Fm → Fl
  | .nil, env => .nx env
  | .cons s r, env => (ex io s env).bind fun env => exs io r env
end
end

/-- a def's body at its arguments -/
noncomputable def body (Γ : Ctx) (call : Nat → List (D × Bool) → CRes) (F : FnE) (args : List (D × Bool)) : CRes :=
  if args.length = F.np then
    let p0 := fun (env : Fm) => if F.io = true then (match env[(0 : Nat)]? with | some (some (d, true)) => some (some d) | _ => none) else some none
    match exs Γ call F.io F.body (args.map some ++ List.replicate (F.ns - F.np) none) with
    | .nx env => (match p0 env with | some p => .ret (.non, false) p | none => .err)
    | .rt r env => (match p0 env with | some p => .ret r p | none => .err)
    | .exc x env => (match p0 env with | some p => .exc x p | none => .err)
    | .err => .err
  else .err
noncomputable def callN (Γ : Ctx) : Nat → Nat → List (D × Bool) → CRes
  | 0, _, _ => .err
  | n + 1, f, args =>
    match Γ.fn f with
    | some F => body Γ (callN Γ n) F args
    | none => .err
end PL
/-! PLRep: how data stand in the abstract heap; what a frame's slots hold. -/
namespace PL
open PySem L2

/-- what the text's names stand for -/
structure Nm where
  cl : Nat → Addr
  fl : Nat → Str
  om : Nat → Nat → Bool

section
variable (K : PySem.W.Frag) (M : Nm)
mutual
inductive Rep (F : Hp) : D → V → Prop where
  | non : Rep F .non .non
  | bl (b : Bool) : Rep F (.bl b) (.bl b)
  | int (i : Int) : Rep F (.int i) (.int i)
  | str (s : Str) : Rep F (.str s) (.str s)
  | tup {a : Addr} {l : List D} {vs : List V} (h : SqT K F a vs) (z : vs.length ≤ LIM) (r : Reps F l vs) : Rep F (.tup l) (.ref a)
  | lst {a : Addr} {l : List D} {vs : List V} (h : F a = some (.lst vs)) (z : vs.length ≤ LIM) (r : Reps F l vs) : Rep F (.lst l) (.ref a)
  | scr {a : Addr} {l : List Int} (h : SqL K F a (l.map V.int)) (z : l.length ≤ LIM) : Rep F (.scr l) (.ref a)
  | dic {a : Addr} {ks : List Int} {ds : List D} {kvs : List (Key × V)} (h : F a = some (.dK kvs)) (e : kvs.map (·.1) = ks.map Sum.inl) (r : Reps F ds (kvs.map (·.2))) : Rep F (.dic ks ds) (.ref a)
  | ins {a dx : Addr} {c : Nat} {fs : List Nat} {ds : List D} {kvs : List (Str × V)} (h : F a = some (.ins (M.cl c) dx kvs)) (e : kvs.map (·.1) = fs.map M.fl) (r : Reps F ds (kvs.map (·.2))) : Rep F (.ins c fs ds) (.ref a)
inductive Reps (F : Hp) : List D → List V → Prop where
  | nil : Reps F [] []
  | cons {d : D} {v : V} {ds : List D} {vs : List V} (h : Rep F d v) (r : Reps F ds vs) : Reps F (d :: ds) (v :: vs)
end
mutual
/-- ours alone: the thing's objects (fp) are in H, not among what is settled (F) -/
inductive RepO (F H : Hp) : D → Bool → V → List Addr → Prop where
  | fz {d : D} {v : V} (h : Rep K M F d v) : RepO F H d false v []
  | lst {a : Addr} {l : List D} {vs : List V} (h : H a = some (.lst vs)) (z : vs.length ≤ LIM) (r : Reps K M F l vs) : RepO F H (.lst l) true (.ref a) [a]
  | ins {a dx : Addr} {c : Nat} {fs : List Nat} {ds : List D} {kvs : List (Str × V)} {fp : List Addr} (h : H a = some (.ins (M.cl c) dx kvs)) (e : kvs.map (·.1) = fs.map M.fl) (r : RepOs F H (fs.map (M.om c)) ds (kvs.map (·.2)) fp) :
      RepO F H (.ins c fs ds) true (.ref a) (a :: fp)
inductive RepOs (F H : Hp) : List Bool → List D → List V → List Addr → Prop where
  | nil : RepOs F H [] [] [] []
  | cons {o : Bool} {d : D} {v : V} {os : List Bool} {ds : List D} {vs : List V} {fp fq : List Addr} (h : RepO F H d o v fp) (r : RepOs F H os ds vs fq) : RepOs F H (o :: os) (d :: ds) (v :: vs) (fp ++ fq)
end
inductive RepE (F H : Hp) : List Sl → List (Option V) → List Addr → Prop where
  | nil : RepE F H [] [] []
  | skip {v : Option V} {es : List Sl} {vs : List (Option V)} {fq : List Addr} (r : RepE F H es vs fq) : RepE F H (none :: es) (v :: vs) fq
  | slot {d : D} {o : Bool} {v : V} {es : List Sl} {vs : List (Option V)} {fp fq : List Addr} (h : RepO K M F H d o v fp) (r : RepE F H es vs fq) : RepE F H (some (d, o) :: es) (some v :: vs) (fp ++ fq)
/-- the slots, at a state of the heap -/
def Sta (F H : Hp) (es : List Sl) (vs : List (Option V)) : Prop := ∃ fp, RepE K M F H es vs fp ∧ fp.Nodup ∧ (∀ a ∈ fp, F a = none) ∧ Same F H
end

section
variable {K : PySem.W.Frag} {M : Nm} {F F' H H' : Hp}

theorem same_sqT {a : Addr} {vs : List V} (e : Same F F') (h : SqT K F a vs) : SqT K F' a vs := by
  rcases h with (h | ⟨o, h⟩) | h
  · exact .inl (.inl (e _ _ h))
  · exact .inl (.inr ⟨o, e _ _ h⟩)
  · exact .inr h
theorem same_new {p : Addr} {o : HO} (h : F p = none) : Same F (upd F p o) := fun a u e => by
  rw [upd_ne (ne_of_none e h)]
  exact e
theorem same_upd {p : Addr} {o : HO} (e : Same F F') : Same (upd F p o) (upd F' p o) := fun a u h => by
  by_cases q : a = p
  · subst q
    rw [upd_same] at h ⊢
    exact h
  · rw [upd_ne q] at h ⊢
    exact e a u h

mutual
theorem Rep.mono (e : Same F F') : ∀ {d : D} {v : V}, Rep K M F d v → Rep K M F' d v
  | _, _, .non => .non
  | _, _, .bl b => .bl b
  | _, _, .int i => .int i
  | _, _, .str s => .str s
  | _, _, .tup h z r => .tup (same_sqT e h) z (Reps.mono e r)
  | _, _, .lst h z r => .lst (e _ _ h) z (Reps.mono e r)
  | _, _, .scr h z => .scr (e.seq h) z
  | _, _, .dic h q r => .dic (e _ _ h) q (Reps.mono e r)
  | _, _, .ins h q r => .ins (e _ _ h) q (Reps.mono e r)
theorem Reps.mono (e : Same F F') : ∀ {ds : List D} {vs : List V}, Reps K M F ds vs → Reps K M F' ds vs
  | _, _, .nil => .nil
  | _, _, .cons h r => .cons (Rep.mono e h) (Reps.mono e r)
end
theorem Reps.len : ∀ {ds : List D} {vs : List V}, Reps K M F ds vs → ds.length = vs.length
  | _, _, .nil => rfl
  | _, _, .cons _ r => by rw [List.length_cons, List.length_cons, Reps.len r]
theorem Reps.get : ∀ {ds : List D} {vs : List V} {i : Nat} {d : D}, Reps K M F ds vs → ds[i]? = some d → ∃ v, vs[i]? = some v ∧ Rep K M F d v
  | _, _, _, _, .nil, h => by simp at h
  | _, _, 0, _, .cons h r, e => by
    simp at e
    subst e
    exact ⟨_, rfl, h⟩
  | _, _, i + 1, d, .cons h r, e => by
    obtain ⟨v, a, b⟩ := Reps.get (i := i) (d := d) r (by simpa using e)
    exact ⟨v, by simpa using a, b⟩
theorem Reps.set {d : D} {v : V} (h : Rep K M F d v) : ∀ {ds : List D} {vs : List V} (i : Nat), Reps K M F ds vs → Reps K M F (ds.set i d) (vs.set i v)
  | _, _, _, .nil => .nil
  | _, _, 0, .cons _ r => .cons h r
  | _, _, i + 1, .cons q r => .cons q (Reps.set h i r)
theorem Reps.app : ∀ {ds es : List D} {vs us : List V}, Reps K M F ds vs → Reps K M F es us → Reps K M F (ds ++ es) (vs ++ us)
  | _, _, _, _, .nil, s => s
  | _, _, _, _, .cons h r, s => .cons h (Reps.app r s)
theorem Reps.snoc {ds : List D} {vs : List V} {d : D} {v : V} (r : Reps K M F ds vs) (h : Rep K M F d v) : Reps K M F (ds ++ [d]) (vs ++ [v]) := r.app (.cons h .nil)
theorem Reps.take : ∀ {ds : List D} {vs : List V} (n : Nat), Reps K M F ds vs → Reps K M F (ds.take n) (vs.take n)
  | _, _, 0, _ => .nil
  | _, _, _ + 1, .nil => .nil
  | _, _, n + 1, .cons h r => .cons h (Reps.take n r)
theorem Reps.drop : ∀ {ds : List D} {vs : List V} (n : Nat), Reps K M F ds vs → Reps K M F (ds.drop n) (vs.drop n)
  | _, _, 0, r => r
  | _, _, _ + 1, .nil => .nil
  | _, _, n + 1, .cons _ r => Reps.drop n r
theorem Reps.erase : ∀ {ds : List D} {vs : List V} (n : Nat), Reps K M F ds vs → Reps K M F (ds.eraseIdx n) (vs.eraseIdx n)
  | _, _, _, .nil => .nil
  | _, _, 0, .cons _ r => r
  | _, _, n + 1, .cons h r => .cons h (Reps.erase n r)

mutual
theorem RepO.mono (e : Same F F') : ∀ {d : D} {o : Bool} {v : V} {fp : List Addr}, RepO K M F H d o v fp → (∀ a ∈ fp, ∀ u, H a = some u → H' a = some u) → RepO K M F' H' d o v fp
  | _, _, _, _, .fz h, _ => .fz (h.mono e)
  | _, _, _, _, .lst h z r, k => .lst (k _ (by simp) _ h) z (r.mono e)
  | _, _, _, _, .ins h q r, k => .ins (k _ (by simp) _ h) q (RepOs.mono e r fun a ha => k a (by simp [ha]))
theorem RepOs.mono (e : Same F F') : ∀ {os : List Bool} {ds : List D} {vs : List V} {fp : List Addr}, RepOs K M F H os ds vs fp → (∀ a ∈ fp, ∀ u, H a = some u → H' a = some u) → RepOs K M F' H' os ds vs fp
  | _, _, _, _, .nil, _ => .nil
  | _, _, _, _, .cons h r, k => .cons (RepO.mono e h fun a ha => k a (by simp [ha])) (RepOs.mono e r fun a ha => k a (by simp [ha]))
end
theorem RepE.mono (e : Same F F') : ∀ {es : List Sl} {vs : List (Option V)} {fp : List Addr}, RepE K M F H es vs fp → (∀ a ∈ fp, ∀ u, H a = some u → H' a = some u) → RepE K M F' H' es vs fp
  | _, _, _, .nil, _ => .nil
  | _, _, _, .skip r, k => .skip (RepE.mono e r k)
  | _, _, _, .slot h r, k => .slot (h.mono e fun a ha => k a (by simp [ha])) (RepE.mono e r fun a ha => k a (by simp [ha]))
mutual
theorem RepO.there : ∀ {d : D} {o : Bool} {v : V} {fp : List Addr}, RepO K M F H d o v fp → ∀ a ∈ fp, ∃ u, H a = some u
  | _, _, _, _, .fz _, a, h => by simp at h
  | _, _, _, _, .lst h _ _, a, ha => by
    simp at ha
    subst ha
    exact ⟨_, h⟩
  | _, _, _, _, .ins h _ r, a, ha => by
    simp at ha
    rcases ha with rfl | ha
    · exact ⟨_, h⟩
    · exact RepOs.there r a ha
theorem RepOs.there : ∀ {os : List Bool} {ds : List D} {vs : List V} {fp : List Addr}, RepOs K M F H os ds vs fp → ∀ a ∈ fp, ∃ u, H a = some u
  | _, _, _, _, .nil, a, h => by simp at h
  | _, _, _, _, .cons h r, a, ha => by
    rcases List.mem_append.mp ha with ha | ha
    · exact RepO.there h a ha
    · exact RepOs.there r a ha
end
theorem RepE.there : ∀ {es : List Sl} {vs : List (Option V)} {fp : List Addr}, RepE K M F H es vs fp → ∀ a ∈ fp, ∃ u, H a = some u
  | _, _, _, .nil, a, h => by simp at h
  | _, _, _, .skip r, a, h => RepE.there r a h
  | _, _, _, .slot h r, a, ha => by
    rcases List.mem_append.mp ha with ha | ha
    · exact RepO.there h a ha
    · exact RepE.there r a ha
theorem RepE.len : ∀ {es : List Sl} {vs : List (Option V)} {fp : List Addr}, RepE K M F H es vs fp → es.length = vs.length
  | _, _, _, .nil => rfl
  | _, _, _, .skip r => by rw [List.length_cons, List.length_cons, RepE.len r]
  | _, _, _, .slot _ r => by rw [List.length_cons, List.length_cons, RepE.len r]

/-- settled from now on -/
def frz (F H : Hp) (fp : List Addr) : Hp := fun a => if a ∈ fp then H a else F a
theorem frz_same {fp : List Addr} (h : ∀ a ∈ fp, F a = none) : Same F (frz F H fp) := fun a u e => by
  unfold frz
  by_cases q : a ∈ fp
  · rw [h a q] at e
    cases e
  · rw [if_neg q]
    exact e
theorem frz_le {fp : List Addr} (h : Same F H) : Same (frz F H fp) H := fun a u e => by
  unfold frz at e
  split at e
  · exact e
  · exact h a u e
theorem frz_in {fp : List Addr} {a : Addr} (h : a ∈ fp) : frz F H fp a = H a := if_pos h
theorem frz_out {fp : List Addr} {a : Addr} (h : a ∉ fp) : frz F H fp a = F a := if_neg h
mutual
theorem RepO.settle (e : Same F F') : ∀ {d : D} {o : Bool} {v : V} {fp : List Addr}, RepO K M F H d o v fp → (∀ a ∈ fp, F' a = H a) → Rep K M F' d v
  | _, _, _, _, .fz h, _ => h.mono e
  | _, _, _, _, .lst h z r, k => .lst (by rw [k _ (by simp)]; exact h) z (r.mono e)
  | _, _, _, _, .ins h q r, k => .ins (by rw [k _ (by simp)]; exact h) q (RepOs.settle e r fun a ha => k a (by simp [ha]))
theorem RepOs.settle (e : Same F F') : ∀ {os : List Bool} {ds : List D} {vs : List V} {fp : List Addr}, RepOs K M F H os ds vs fp → (∀ a ∈ fp, F' a = H a) → Reps K M F' ds vs
  | _, _, _, _, .nil, _ => .nil
  | _, _, _, _, .cons h r, k => .cons (RepO.settle e h fun a ha => k a (by simp [ha])) (RepOs.settle e r fun a ha => k a (by simp [ha]))
end

/-! ### the slots -/
variable {es : List Sl} {vs : List (Option V)} {d : D} {o : Bool} {v : V}
theorem Sta.same (h : Sta K M F H es vs) : Same F H := let ⟨_, _, _, _, e⟩ := h; e
theorem Sta.len (h : Sta K M F H es vs) : es.length = vs.length := let ⟨_, r, _⟩ := h; r.len
theorem Sta.drop {s : Sl} {w : Option V} (h : Sta K M F H (s :: es) (w :: vs)) : Sta K M F H es vs := by
  obtain ⟨fp, r, n, f, e⟩ := h
  cases r with
  | skip r => exact ⟨_, r, n, f, e⟩
  | slot a r => exact ⟨_, r, (List.nodup_append.mp n).2.1, fun x hx => f x (List.mem_append_right _ hx), e⟩
theorem Sta.push (h : Sta K M F H es vs) (r : Rep K M F d v) : Sta K M F H (some (d, false) :: es) (some v :: vs) := by
  obtain ⟨fp, q, n, f, e⟩ := h
  exact ⟨[] ++ fp, .slot (.fz r) q, n, f, e⟩
theorem Sta.pushN {w : Option V} (h : Sta K M F H es vs) : Sta K M F H (none :: es) (w :: vs) := by
  obtain ⟨fp, q, n, f, e⟩ := h
  exact ⟨fp, .skip q, n, f, e⟩
theorem Sta.head (h : Sta K M F H (some (d, o) :: es) (some v :: vs)) : ∃ fp, RepO K M F H d o v fp := by
  obtain ⟨fp, r, _⟩ := h
  cases r with
  | slot a _ => exact ⟨_, a⟩
theorem Sta.headF (h : Sta K M F H (some (d, false) :: es) (some v :: vs)) : Rep K M F d v := by
  obtain ⟨fp, r⟩ := h.head
  cases r with
  | fz q => exact q
/-- what comes first is settled -/
theorem Sta.settle (h : Sta K M F H (some (d, o) :: es) (some v :: vs)) : ∃ F', Same F F' ∧ Rep K M F' d v ∧ Sta K M F' H es vs := by
  obtain ⟨fp, r, n, f, e⟩ := h
  cases r with
  | slot a r =>
    rename_i fp fq
    have fa : ∀ x ∈ fp, F x = none := fun x hx => f x (List.mem_append_left _ hx)
    have s := frz_same (H := H) fa
    obtain ⟨n1, n2, n3⟩ := List.nodup_append.mp n
    refine ⟨frz F H fp, s, a.settle s fun x hx => frz_in hx, fq, r.mono s fun _ _ _ q => q, n2, fun x hx => ?_, frz_le e⟩
    rw [frz_out fun z => n3 x z x hx rfl]
    exact f x (List.mem_append_right _ hx)
/-- more is settled, all that is tracked stands -/
theorem Sta.mono (h : Sta K M F H es vs) (s : Same F F') (k : Same H H') (e : Same F' H') (new : ∀ a u, H a = some u → F a = none → F' a = none) : Sta K M F' H' es vs := by
  obtain ⟨fp, r, n, f, _⟩ := h
  refine ⟨fp, r.mono s fun a _ u q => k a u q, n, fun a ha => ?_, e⟩
  obtain ⟨u, q⟩ := r.there a ha
  exact new a u q (f a ha)
/-- a new object, settled at once -/
theorem Sta.new {p : Addr} {ob : HO} (h : Sta K M F H es vs) (hp : H p = none) : Sta K M (upd F p ob) (upd H p ob) es vs := by
  have fp : F p = none := by
    cases q : F p with
    | none => rfl
    | some u =>
      rw [h.same p u q] at hp
      cases hp
  refine h.mono (same_new fp) (same_new hp) (same_upd h.same) fun a u q z => ?_
  rw [upd_ne (ne_of_none q hp)]
  exact z
theorem Sta.free {p : Addr} (h : Sta K M F H es vs) (hp : H p = none) : F p = none := by
  cases q : F p with
  | none => rfl
  | some u =>
    rw [h.same p u q] at hp
    cases hp
/-- a new list, ours -/
theorem Sta.newL {p : Addr} {l : List D} {ws : List V} (h : Sta K M F H es vs) (hp : H p = none) (r : Reps K M F l ws) (z : ws.length ≤ LIM) :
    Sta K M F (upd H p (.lst ws)) (some (.lst l, true) :: es) (some (.ref p) :: vs) := by
  obtain ⟨fp, q, n, f, e⟩ := h
  have np : ∀ a ∈ fp, a ≠ p := fun a ha z => by
    obtain ⟨u, w⟩ := q.there a ha
    rw [z, hp] at w
    cases w
  have hF : F p = none := by
    cases w : F p with
    | none => rfl
    | some u =>
      rw [e p u w] at hp
      cases hp
  refine ⟨[p] ++ fp, .slot (.lst upd_same z r) (q.mono (Same.refl F) fun a ha u w => ?_), ?_, fun a ha => ?_, fun a u w => ?_⟩
  · rw [upd_ne (np a ha)]
    exact w
  · refine List.nodup_append.mpr ⟨(by simp), n, fun a ha b hb => ?_⟩
    simp at ha
    subst ha
    exact (np b hb).symm
  · rcases List.mem_append.mp ha with z | z
    · simp at z
      rw [z]
      exact hF
    · exact f a z
  · rw [upd_ne (ne_of_none w hF)]
    exact e a u w
/-- what comes first is a list of ours: it is changed -/
theorem Sta.mut {a : Addr} {l l' : List D} {ws : List V} (h : Sta K M F H (some (.lst l, true) :: es) (some (.ref a) :: vs)) (r : Reps K M F l' ws) (z : ws.length ≤ LIM) :
    Sta K M F (upd H a (.lst ws)) (some (.lst l', true) :: es) (some (.ref a) :: vs) := by
  obtain ⟨fp, q, n, f, e⟩ := h
  cases q with
  | slot b q =>
    cases b with
    | lst hb zb rb =>
      rename_i fq _
      obtain ⟨n1, n2, n3⟩ := List.nodup_append.mp n
      have na : ∀ x ∈ fq, x ≠ a := fun x hx w => n3 a (by simp) x hx w.symm
      refine ⟨[a] ++ fq, .slot (.lst upd_same z r) (q.mono (Same.refl F) fun x hx u w => ?_), n, f, fun x u w => ?_⟩
      · rw [upd_ne (na x hx)]
        exact w
      · have hF : F a = none := f a (by simp)
        rw [upd_ne (ne_of_none w hF)]
        exact e x u w
theorem Sta.headL {l : List D} (h : Sta K M F H (some (.lst l, true) :: es) (some v :: vs)) : ∃ a ws, v = .ref a ∧ H a = some (.lst ws) ∧ ws.length ≤ LIM ∧ Reps K M F l ws := by
  obtain ⟨fp, r⟩ := h.head
  cases r with
  | lst hb zb rb => exact ⟨_, _, rfl, hb, zb, rb⟩

theorem RepE.take : ∀ {es : List Sl} {vs : List (Option V)} {fp : List Addr} {i : Nat} {d : D} {o : Bool}, RepE K M F H es vs fp → es[i]? = some (some (d, o)) →
    ∃ v fpR fq, vs[i]? = some (some v) ∧ RepO K M F H d o v fpR ∧ RepE K M F H (es.set i none) vs fq ∧ (fpR ++ fq).Perm fp
  | _, _, _, _, _, _, .nil, h => by simp at h
  | _, _, _, 0, _, _, .skip r, h => by simp at h
  | _, _, _, i + 1, d, o, .skip r, h => by
    obtain ⟨v, fpR, fq, e, a, b, c⟩ := RepE.take (i := i) (d := d) (o := o) r (by simpa using h)
    exact ⟨v, fpR, fq, by simpa using e, a, .skip b, c⟩
  | _, _, _, 0, _, _, .slot h r, e => by
    simp at e
    obtain ⟨rfl, rfl⟩ := e
    exact ⟨_, _, _, rfl, h, .skip r, .refl _⟩
  | _, _, _, i + 1, d, o, .slot h r, e => by
    obtain ⟨v, fpR, fq, e, a, b, c⟩ := RepE.take (i := i) (d := d) (o := o) r (by simpa using e)
    rename_i fp fq' _
    refine ⟨v, fpR, fp ++ fq, by simpa using e, a, .slot h b, ?_⟩
    refine (List.perm_append_comm_assoc fpR fp fq).trans ?_
    exact c.append_left fp
theorem RepE.put {d : D} {o : Bool} {v : V} {fpR : List Addr} (h : RepO K M F H d o v fpR) : ∀ {es : List Sl} {vs : List (Option V)} {fp : List Addr} {i : Nat}, RepE K M F H es vs fp → i < es.length →
    ∃ fq, RepE K M F H (es.set i (some (d, o))) (vs.set i (some v)) fq ∧ ∃ fx, (fq ++ fx).Perm (fpR ++ fp)
  | _, _, _, _, .nil, hi => by simp at hi
  | _, _, _, 0, .skip r, hi => ⟨_, .slot h r, [], by simp⟩
  | _, _, _, 0, .slot q r, hi => by
    rename_i fp fq
    refine ⟨_, .slot h r, fp, ?_⟩
    rw [List.append_assoc]
    exact (List.perm_append_comm (l₁ := fq) (l₂ := fp)).append_left fpR
  | _, _, _, i + 1, .skip r, hi => by
    obtain ⟨fq, a, fx, b⟩ := RepE.put h (i := i) r (by simpa using hi)
    exact ⟨fq, .skip a, fx, b⟩
  | _, _, _, i + 1, .slot q r, hi => by
    obtain ⟨fq, a, fx, b⟩ := RepE.put h (i := i) r (by simpa using hi)
    rename_i fp fq'
    refine ⟨fp ++ fq, .slot q a, fx, ?_⟩
    rw [List.append_assoc]
    exact (b.append_left fp).trans (List.perm_append_comm_assoc fp fpR fq')
theorem Sta.take {i : Nat} (h : Sta K M F H es vs) (e : es[i]? = some (some (d, o))) : ∃ v, vs[i]? = some (some v) ∧ Sta K M F H (some (d, o) :: es.set i none) (some v :: vs) := by
  obtain ⟨fp, r, n, f, q⟩ := h
  obtain ⟨v, fpR, fq, a, b, c, p⟩ := r.take e
  exact ⟨v, a, _, .slot b c, p.nodup_iff.mpr n, fun x hx => f x (p.mem_iff.mp hx), q⟩
theorem Sta.put {i : Nat} (h : Sta K M F H (some (d, o) :: es) (some v :: vs)) (hi : i < es.length) : Sta K M F H (es.set i (some (d, o))) (vs.set i (some v)) := by
  obtain ⟨fp, r, n, f, q⟩ := h
  cases r with
  | slot a r =>
    obtain ⟨fq, b, fx, p⟩ := RepE.put a r hi
    refine ⟨fq, b, ?_, fun x hx => f x (p.mem_iff.mp (List.mem_append_left _ hx)), q⟩
    exact (List.nodup_append.mp (p.nodup_iff.mpr n)).1
theorem Sta.wipe {i : Nat} (h : Sta K M F H es vs) : Sta K M F H (es.set i none) vs := by
  cases e : es[i]? with
  | none =>
    have : es.length ≤ i := List.getElem?_eq_none_iff.mp e
    rw [List.set_eq_of_length_le this]
    exact h
  | some s =>
    cases s with
    | none =>
      obtain ⟨hi, q⟩ := List.getElem?_eq_some_iff.mp e
      have : es.set i none = es := by rw [← q]; exact List.set_getElem_self hi
      rw [this]
      exact h
    | some p =>
      obtain ⟨d, o⟩ := p
      obtain ⟨v, _, z⟩ := h.take e
      exact z.drop
theorem Sta.at {i : Nat} (h : Sta K M F H es vs) (e : es[i]? = some (some (d, o))) : ∃ v fp, vs[i]? = some (some v) ∧ RepO K M F H d o v fp := by
  obtain ⟨v, a, z⟩ := h.take e
  obtain ⟨fp, r⟩ := z.head
  exact ⟨v, fp, a, r⟩
theorem set_same_of {α : Type} {l : List α} {i : Nat} {x : α} (h : l[i]? = some x) : l.set i x = l := by
  obtain ⟨hi, q⟩ := List.getElem?_eq_some_iff.mp h
  rw [← q]
  exact List.set_getElem_self hi
theorem RepE.app {es fs : List Sl} {vs ws : List (Option V)} {fp fq : List Addr} (h : RepE K M F H es vs fp) (r : RepE K M F H fs ws fq) : RepE K M F H (es ++ fs) (vs ++ ws) (fp ++ fq) := by
  induction h with
  | nil => exact r
  | skip _ ih => exact .skip ih
  | slot a _ ih =>
    rw [List.append_assoc]
    exact .slot a ih
theorem RepE.cut : ∀ {es fs : List Sl} {vs ws : List (Option V)} {fp : List Addr}, RepE K M F H (es ++ fs) (vs ++ ws) fp → es.length = vs.length → ∃ f1 f2, fp = f1 ++ f2 ∧ RepE K M F H es vs f1 ∧ RepE K M F H fs ws f2
  | [], _, [], _, fp, h, _ => ⟨[], fp, rfl, .nil, h⟩
  | _ :: _, _, [], _, _, _, h => by simp at h
  | [], _, _ :: _, _, _, _, h => by simp at h
  | e :: es, fs, v :: vs, ws, fp, h, hl => by
    cases h with
    | skip h =>
      obtain ⟨f1, f2, e, a, b⟩ := RepE.cut (es := es) (fs := fs) (vs := vs) (ws := ws) h (by simpa using hl)
      exact ⟨f1, f2, e, .skip a, b⟩
    | slot q h =>
      obtain ⟨f1, f2, e, a, b⟩ := RepE.cut (es := es) (fs := fs) (vs := vs) (ws := ws) h (by simpa using hl)
      exact ⟨_, f2, by rw [e, List.append_assoc], .slot q a, b⟩
theorem Sta.cut {es fs : List Sl} {vs ws : List (Option V)} (h : Sta K M F H (es ++ fs) (vs ++ ws)) (hl : es.length = vs.length) : Sta K M F H es vs := by
  obtain ⟨fp, r, n, f, e⟩ := h
  obtain ⟨f1, f2, rfl, a, b⟩ := r.cut hl
  exact ⟨f1, a, (List.nodup_append.mp n).1, fun x hx => f x (List.mem_append_left _ hx), e⟩
theorem Reps.slots : ∀ {ds : List D} {vs : List V}, Reps K M F ds vs → RepE K M F H ((ds.map fun d => (d, false)).map Option.some) (vs.map Option.some) []
  | _, _, .nil => .nil
  | _, _, .cons h r => .slot (.fz h) (Reps.slots r)
theorem Sta.args {es : List Sl} {vs : List (Option V)} {ds : List D} {ws : List V} (h : Sta K M F H es vs) (r : Reps K M F ds ws) : Sta K M F H (es ++ (ds.map fun d => (d, false)).map Option.some) (vs ++ ws.map Option.some) := by
  obtain ⟨fp, q, n, f, e⟩ := h
  exact ⟨fp ++ [], q.app r.slots, by simpa using n, by simpa using f, e⟩
theorem RepE.nones : ∀ n : Nat, RepE K M F H (List.replicate n Option.none) (List.replicate n Option.none) []
  | 0 => .nil
  | n + 1 => .skip (RepE.nones n)
theorem Sta.nones {es : List Sl} {vs : List (Option V)} (n : Nat) (h : Sta K M F H es vs) : Sta K M F H (es ++ List.replicate n Option.none) (vs ++ List.replicate n Option.none) := by
  obtain ⟨fp, q, k, f, e⟩ := h
  exact ⟨fp ++ [], q.app (.nones n), by simpa using k, by simpa using f, e⟩
theorem Sta.swap {d' : D} {o' : Bool} {v' : V} (h : Sta K M F H (some (d, o) :: some (d', o') :: es) (some v :: some v' :: vs)) : Sta K M F H (some (d', o') :: some (d, o) :: es) (some v' :: some v :: vs) := by
  obtain ⟨fp, r, n, f, e⟩ := h
  cases r with
  | slot a r =>
    cases r with
    | slot b r =>
      rename_i f1 f2 f3
      have p : (f2 ++ (f1 ++ f3)).Perm (f1 ++ (f2 ++ f3)) := List.perm_append_comm_assoc f2 f1 f3
      exact ⟨_, .slot b (.slot a r), p.nodup_iff.mpr n, fun x hx => f x (p.mem_iff.mp hx), e⟩
theorem Sta.last (h : Sta K M F H (some (d, o) :: es) (some v :: vs)) : Sta K M F H (es ++ [some (d, o)]) (vs ++ [some v]) := by
  obtain ⟨fp, r, n, f, e⟩ := h
  cases r with
  | slot a r =>
    rename_i f1 f2
    have p : (f2 ++ (f1 ++ [])).Perm (f1 ++ f2) := by
      rw [List.append_nil]
      exact List.perm_append_comm
    exact ⟨_, r.app (.slot a .nil), p.nodup_iff.mpr n, fun x hx => f x (p.mem_iff.mp hx), e⟩
theorem Sta.mid {as bs : List Sl} {us ws : List (Option V)} (h : Sta K M F H (as ++ Option.some (d, o) :: bs) (us ++ Option.some v :: ws)) (hl : as.length = us.length) : Sta K M F H (Option.some (d, o) :: (as ++ bs)) (Option.some v :: (us ++ ws)) := by
  obtain ⟨fp, r, n, f, e⟩ := h
  obtain ⟨f1, f2, rfl, a, b⟩ := r.cut hl
  cases b with
  | slot q b =>
    rename_i f3 f4
    have p : (f3 ++ (f1 ++ f4)).Perm (f1 ++ (f3 ++ f4)) := List.perm_append_comm_assoc f3 f1 f4
    exact ⟨_, .slot q (a.app b), p.nodup_iff.mpr n, fun x hx => f x (p.mem_iff.mp hx), e⟩
/-- a slot's thing is settled -/
theorem Sta.settleAt {i : Nat} (h : Sta K M F H es vs) (e : es[i]? = some (some (d, o))) : ∃ F' v, Same F F' ∧ vs[i]? = some (some v) ∧ Rep K M F' d v ∧ Sta K M F' H (es.set i (some (d, false))) vs := by
  obtain ⟨v, a, z⟩ := h.take e
  obtain ⟨F', s, r, z'⟩ := z.settle
  have hi : i < es.length := (List.getElem?_eq_some_iff.mp e).1
  have q := (z'.push r).put (i := i) (by simpa using hi)
  rw [List.set_set, set_same_of a] at q
  exact ⟨F', v, s, a, r, q⟩
end
end PL
/-! PLExp: what an expression's reckoning promises of the machine: words, and the operators by values. -/
namespace PL
open PySem PySem.Spec PyProof.Rows L2

theorem lim_line : LIM ≤ sizeLine := by decide
theorem lim_le {n : Nat} (h : n ≤ LIM) : n ≤ sizeLine := Nat.le_trans h lim_line
theorem lim_lt {n : Nat} (h : n < LIM) : n < sizeLine := Nat.lt_of_lt_of_le h lim_line

theorem _root_.L2.PE.imp {X : Cx} {e : Expr} {t t' : TE} (h : PE X e t) (k : ∀ σ H Q, t' σ H Q → t σ H Q) : PE X e t' := ⟨fun pins s σ H Q I q => h.run pins s σ H Q I (k _ _ _ q)⟩
theorem _root_.L2.PT.imp {X : Cx} {e : Expr} {t t' : TT} (h : PT X e t) (k : ∀ σ H Q, t' σ H Q → t σ H Q) : PT X e t' := ⟨fun pins s σ H Q I q => h.run pins s σ H Q I (k _ _ _ q)⟩
theorem _root_.L2.PW.imp {X : Cx} {e : Expr} {t t' : TT} (h : PW X e t) (k : ∀ σ H Q, t' σ H Q → t σ H Q) : PW X e t' := ⟨fun w pins s σ H Q I q => h.run w pins s σ H Q I (k _ _ _ q)⟩
theorem _root_.L2.PA.imp {X : Cx} {e : List Expr} {t t' : TA} (h : PA X e t) (k : ∀ σ H Q, t' σ H Q → t σ H Q) : PA X e t' := ⟨fun p pins s σ H Q I q => h.run p pins s σ H Q I (k _ _ _ q)⟩
theorem _root_.L2.PS.imp {X : Cx} {e : Stmt} {t t' : TS} (h : PS X e t) (k : ∀ D σ H, t' D σ H → t D σ H) : PS X e t' := ⟨fun pins s σ H D I q => h.run pins s σ H D I (k _ _ _ q)⟩
theorem _root_.L2.PSs.imp {X : Cx} {e : List Stmt} {t t' : TS} (h : PSs X e t) (k : ∀ D σ H, t' D σ H → t D σ H) : PSs X e t' := ⟨fun pins s σ H D I q => h.run pins s σ H D I (k _ _ _ q)⟩
theorem _root_.L2.PI.imp {X : Cx} {tg e : Expr} {t t' : TI} (h : PI X tg e t) (k : ∀ σ H Q, t' σ H Q → t σ H Q) : PI X tg e t' := ⟨fun pins s σ H Q I q => h.run pins s σ H Q I (k _ _ _ q)⟩
theorem _root_.L2.PO.imp {X : Cx} {e : Option Expr} {t t' : TO} (h : PO X e t) (k : ∀ σ H Q, t' σ H Q → t σ H Q) : PO X e t' := ⟨fun pins s σ H Q I q => h.run pins s σ H Q I (k _ _ _ q)⟩

section
variable (K : PySem.W.Frag) (M : Nm) (Γ : Ctx) (call : Nat → List (D × Bool) → CRes)

/-- from a reckoning's result: what is then to hold -/
def PostE (F : Hp) (ext : List Sl) (xv : List (Option V)) (σ : L2.St) (r : Res (D × Bool)) (Q : VK) : Prop :=
  match r with
  | .ok r env' => ∀ v F' H', Same F F' → Sta K M F' H' (some r :: (ext ++ env')) (some v :: (xv ++ σ)) → Q v H'
  | _ => False
/-- the same, the result settled -/
def SetE {α : Type} (F : Hp) (ext : List Sl) (xv : List (Option V)) (σ : L2.St) (r : Res α) (g : α → D) (Q : VK) : Prop :=
  match r with
  | .ok r env' => ∀ v F' H', Same F F' → Rep K M F' (g r) v → Sta K M F' H' (ext ++ env') (xv ++ σ) → Q v H'
  | _ => False
def PostA (F : Hp) (ext : List Sl) (xv : List (Option V)) (σ : L2.St) (r : Res (List D)) (Q : List V → Hp → Prop) : Prop :=
  match r with
  | .ok ds env' => ∀ vs F' H', Same F F' → Reps K M F' ds vs → Sta K M F' H' (ext ++ env') (xv ++ σ) → Q vs H'
  | _ => False
def PostT (F : Hp) (ext : List Sl) (xv : List (Option V)) (σ : L2.St) (r : Res (D × Bool)) (Q : Bool → Hp → Prop) : Prop :=
  match r with
  | .ok (.bl b, _) env' => ∀ F' H', Same F F' → Sta K M F' H' (ext ++ env') (xv ++ σ) → Q b H'
  | _ => False
def PostO (F : Hp) (ext : List Sl) (xv : List (Option V)) (σ : L2.St) (r : Res (Option Int)) (Q : Option Int → Hp → Prop) : Prop :=
  match r with
  | .ok o env' => ∀ F' H', Same F F' → Sta K M F' H' (ext ++ env') (xv ++ σ) → Q o H'
  | _ => False

def TEv (e : E) : TE := fun σ H Q => ∃ F ext xv env, Sta K M F H (ext ++ env) (xv ++ σ) ∧ ext.length = xv.length ∧ PostE K M F ext xv σ (ev Γ call e env) Q
def TEs (es : Es) : TA := fun σ H Q => ∃ F ext xv env, Sta K M F H (ext ++ env) (xv ++ σ) ∧ ext.length = xv.length ∧ PostA K M F ext xv σ (evs Γ call es env) Q
def TTt (e : E) : TT := fun σ H Q => ∃ F ext xv env, Sta K M F H (ext ++ env) (xv ++ σ) ∧ ext.length = xv.length ∧ PostT K M F ext xv σ (ev Γ call e env) Q
def TOo (o : O) : TO := fun σ H Q => ∃ F ext xv env, Sta K M F H (ext ++ env) (xv ++ σ) ∧ ext.length = xv.length ∧ PostO K M F ext xv σ (evo Γ call o env) Q
end

section
variable {K : PySem.W.Frag} {M : Nm} {Γ : Ctx} {call : Nat → List (D × Bool) → CRes} {F H : Hp} {ext : List Sl} {xv : List (Option V)} {σ : L2.St} {env : Fm}

theorem post_bind {α : Type} {r : Res α} {f : α → Fm → Res (D × Bool)} {Q : VK} (h : PostE K M F ext xv σ (r.bind f) Q) : ∃ a e, r = .ok a e ∧ PostE K M F ext xv σ (f a e) Q := by
  cases r with
  | ok a e => exact ⟨a, e, rfl, h⟩
  | exc x e => exact h.elim
  | err => exact h.elim
theorem postA_bind {α : Type} {r : Res α} {f : α → Fm → Res (List D)} {Q : List V → Hp → Prop} (h : PostA K M F ext xv σ (r.bind f) Q) : ∃ a e, r = .ok a e ∧ PostA K M F ext xv σ (f a e) Q := by
  cases r with
  | ok a e => exact ⟨a, e, rfl, h⟩
  | exc x e => exact h.elim
  | err => exact h.elim
theorem postT_bind {α : Type} {r : Res α} {f : α → Fm → Res (D × Bool)} {Q : Bool → Hp → Prop} (h : PostT K M F ext xv σ (r.bind f) Q) : ∃ a e, r = .ok a e ∧ PostT K M F ext xv σ (f a e) Q := by
  cases r with
  | ok a e => exact ⟨a, e, rfl, h⟩
  | exc x e => exact h.elim
  | err => exact h.elim
theorem postO_bind {α : Type} {r : Res α} {f : α → Fm → Res (Option Int)} {Q : Option Int → Hp → Prop} (h : PostO K M F ext xv σ (r.bind f) Q) : ∃ a e, r = .ok a e ∧ PostO K M F ext xv σ (f a e) Q := by
  cases r with
  | ok a e => exact ⟨a, e, rfl, h⟩
  | exc x e => exact h.elim
  | err => exact h.elim
theorem post_lift {o : Option (D × Bool)} {e : Fm} {Q : VK} (h : PostE K M F ext xv σ (Res.lift o e) Q) : ∃ a, o = some a ∧ PostE K M F ext xv σ (.ok a e) Q := by
  cases o with
  | some a => exact ⟨a, rfl, h⟩
  | none => exact h.elim

/-- a part is reckoned, its result settled -/
theorem T_sub {e : E} {R : VK} (st : Sta K M F H (ext ++ env) (xv ++ σ)) (hl : ext.length = xv.length) {x : D × Bool} {e1 : Fm} (h1 : ev Γ call e env = .ok x e1)
    (k : ∀ v F' H', Same F F' → Rep K M F' x.1 v → Sta K M F' H' (ext ++ e1) (xv ++ σ) → R v H') : TEv K M Γ call e σ H R := by
  refine ⟨F, ext, xv, env, st, hl, ?_⟩
  rw [h1]
  intro v F' H' s st'
  obtain ⟨d, o⟩ := x
  obtain ⟨F'', s2, r, st2⟩ := st'.settle
  exact k v F'' H' (s.trans s2) r st2
theorem T_keep {e : E} {R : VK} (st : Sta K M F H (ext ++ env) (xv ++ σ)) (hl : ext.length = xv.length) {x : D × Bool} {e1 : Fm} (h1 : ev Γ call e env = .ok x e1)
    (k : ∀ v F' H', Same F F' → Sta K M F' H' (some x :: (ext ++ e1)) (some v :: (xv ++ σ)) → R v H') : TEv K M Γ call e σ H R := by
  refine ⟨F, ext, xv, env, st, hl, ?_⟩
  rw [h1]
  exact k
theorem Ts_sub {es : Es} {R : List V → Hp → Prop} (st : Sta K M F H (ext ++ env) (xv ++ σ)) (hl : ext.length = xv.length) {x : List D} {e1 : Fm} (h1 : evs Γ call es env = .ok x e1)
    (k : ∀ vs F' H', Same F F' → Reps K M F' x vs → Sta K M F' H' (ext ++ e1) (xv ++ σ) → R vs H') : TEs K M Γ call es σ H R := by
  refine ⟨F, ext, xv, env, st, hl, ?_⟩
  rw [h1]
  exact k
theorem Tt_sub {e : E} {R : Bool → Hp → Prop} (st : Sta K M F H (ext ++ env) (xv ++ σ)) (hl : ext.length = xv.length) {b o : Bool} {e1 : Fm} (h1 : ev Γ call e env = .ok (.bl b, o) e1)
    (k : ∀ F' H', Same F F' → Sta K M F' H' (ext ++ e1) (xv ++ σ) → R b H') : TTt K M Γ call e σ H R := by
  refine ⟨F, ext, xv, env, st, hl, ?_⟩
  rw [h1]
  exact k
theorem To_sub {e : O} {R : Option Int → Hp → Prop} (st : Sta K M F H (ext ++ env) (xv ++ σ)) (hl : ext.length = xv.length) {b : Option Int} {e1 : Fm} (h1 : evo Γ call e env = .ok b e1)
    (k : ∀ F' H', Same F F' → Sta K M F' H' (ext ++ e1) (xv ++ σ) → R b H') : TOo K M Γ call e σ H R := by
  refine ⟨F, ext, xv, env, st, hl, ?_⟩
  rw [h1]
  exact k
end

/-! ### operators by values -/
section
variable {K : PySem.W.Frag} {M : Nm} {F H : Hp} {es : List Sl} {vs : List (Option V)}

theorem rep_int {i : Int} {v : V} (h : Rep K M F (.int i) v) : v = .int i := by
  cases h
  rfl
theorem rep_bl {i : Bool} {v : V} (h : Rep K M F (.bl i) v) : v = .bl i := by
  cases h
  rfl
theorem rep_non {v : V} (h : Rep K M F .non v) : v = .non := by
  cases h
  rfl
theorem rep_str {i : Str} {v : V} (h : Rep K M F (.str i) v) : v = .str i := by
  cases h
  rfl
theorem rep_tup {l : List D} {v : V} (h : Rep K M F (.tup l) v) : ∃ a ws, v = .ref a ∧ SqT K F a ws ∧ ws.length ≤ LIM ∧ Reps K M F l ws := by
  cases h with
  | tup a b c => exact ⟨_, _, rfl, a, b, c⟩
theorem rep_lst {l : List D} {v : V} (h : Rep K M F (.lst l) v) : ∃ a ws, v = .ref a ∧ F a = some (.lst ws) ∧ ws.length ≤ LIM ∧ Reps K M F l ws := by
  cases h with
  | lst a b c => exact ⟨_, _, rfl, a, b, c⟩

/-- what is wanted behind an operation -/
abbrev Aft (K : PySem.W.Frag) (M : Nm) (F : Hp) (es : List Sl) (vs : List (Option V)) (z : D × Bool) (Q : VK) : Prop := ∀ u F' H', Same F F' → Sta K M F' H' (some z :: es) (some u :: vs) → Q u H'
theorem aft_at {z : D} {u : V} {Q : VK} (st : Sta K M F H es vs) (r : Rep K M F z u) (k : Aft K M F es vs (z, false) Q) : Q u H := k u F H (Same.refl F) (st.push r)
theorem aft_tup {l : List D} {ws : List V} {Q : VK} (st : Sta K M F H es vs) (r : Reps K M F l ws) (z : ws.length ≤ LIM) (k : Aft K M F es vs (.tup l, false) Q) : ∀ p, H p = none → Q (.ref p) (upd H p (.tup ws)) := fun p hp => by
  have s := st.new (ob := .tup ws) hp
  have sf : Same F (upd F p (.tup ws)) := same_new (st.free hp)
  exact k _ _ _ sf (s.push (.tup (.inl (.inl upd_same)) z (r.mono sf)))
theorem aft_lst {l : List D} {ws : List V} {Q : VK} (st : Sta K M F H es vs) (r : Reps K M F l ws) (z : ws.length ≤ LIM) (k : Aft K M F es vs (.lst l, true) Q) : ∀ p, H p = none → Q (.ref p) (upd H p (.lst ws)) := fun p hp =>
  k _ _ _ (Same.refl F) (st.newL hp r z)

def bop : BOp → Operator
  | .add => .Add | .sub => .Sub | .mul => .Mult | .div => .FloorDiv | .mod => .Mod | .pow => .Pow
/-- a row, a text, a tuple one time is itself -/
def rB (K : PySem.W.Frag) : BOp → R2
  | .add => fun x y H Q => rI0 (fun i j => .int (i + j)) x y H Q ∨ rCatA K x y H Q ∨ rCat x y H Q
  | .sub => rI0 fun i j => .int (i - j)
  | .mul => fun x y H Q => rI CMul (fun i j => .int (i * j)) x y H Q ∨ rI CMulW (fun i j => .int (i * j)) x y H Q ∨ rRep x y H Q ∨ rRepT K x y H Q
  | .div => rI CDivW fun i j => .int (i / j)
  | .mod => rI (fun _ j => 0 < j) fun i j => .int (i % j)
  | .pow => rI CPow fun i j => .int (i ^ j.toNat)
theorem op_bin {X : Cx} : ∀ op, OpR X (binaryOp (bop op)) (rB X.K op)
  | .add => op_add.or (op_catA.or op_cat)
  | .sub => op_sub
  | .mul => op_mul.or (op_mulW.or (op_rep.or op_repT))
  | .div => op_fdivW
  | .mod => op_mod
  | .pow => op_pow

theorem Reps.rep {l : List D} {ws : List V} (h : Reps K M F l ws) : ∀ k : Nat, Reps K M F (List.replicate k l).flatten (List.replicate k ws).flatten
  | 0 => .nil
  | k + 1 => by
    rw [List.replicate_succ, List.replicate_succ, List.flatten_cons, List.flatten_cons]
    exact h.app (Reps.rep h k)
theorem Reps.nil_iff {l : List D} {ws : List V} (h : Reps K M F l ws) : l = [] ↔ ws = [] := by
  cases h with
  | nil => simp
  | cons _ _ => simp
theorem len_rep_flat {α : Type} (l : List α) : ∀ k : Nat, (List.replicate k l).flatten.length = k * l.length
  | 0 => by simp
  | k + 1 => by
    rw [List.replicate_succ, List.flatten_cons, List.length_append, len_rep_flat l k, Nat.succ_mul, Nat.add_comm]

theorem bin_ok {op : BOp} {x y : D} {z : D × Bool} {v w : V} {Q : VK} (st : Sta K M F H es vs) (rx : Rep K M F x v) (ry : Rep K M F y w) (h : biD op x y = some z) (k : Aft K M F es vs z Q) (k2 : op = .mul → ∀ l j, x = .tup l → y = .int j → 2 ≤ j) : rB K op v w H Q := by
  have sm := st.same
  cases op with
  | add =>
    cases x <;> cases y <;> simp only [biD, reduceCtorEq, Option.some.injEq] at h
    · subst h
      cases rep_int rx
      cases rep_int ry
      exact .inl ⟨_, _, rfl, rfl, aft_at st (.int _) k⟩
    · split at h
      · rename_i l m hl
        cases h
        obtain ⟨a, us, rfl, h1, z1, r1⟩ := rep_tup rx
        obtain ⟨b, ws, rfl, h2, z2, r2⟩ := rep_tup ry
        have e1 := r1.len
        have e2 := r2.len
        refine .inr (.inl ⟨a, b, us, ws, rfl, rfl, same_sqT sm h1, same_sqT sm h2, lim_le (by omega), fun e => ?_, fun e1 e2 => ?_, fun _ _ => ?_⟩)
        · have q := r1.nil_iff.mpr e
          subst q
          exact aft_at st ry k
        · have q := r2.nil_iff.mpr e2
          subst q
          rw [List.append_nil] at k
          exact aft_at st rx k
        · exact aft_tup st (r1.app r2) (by rw [List.length_append]; omega) k
      · cases h
    · split at h
      · rename_i l m hl
        cases h
        obtain ⟨a, us, rfl, h1, z1, r1⟩ := rep_lst rx
        obtain ⟨b, ws, rfl, h2, z2, r2⟩ := rep_lst ry
        have e1 := r1.len
        have e2 := r2.len
        exact .inr (.inr ⟨a, b, us, ws, rfl, rfl, sm _ _ h1, sm _ _ h2, lim_le (by omega), aft_lst st (r1.app r2) (by rw [List.length_append]; omega) k⟩)
      · cases h
  | sub =>
    cases x <;> cases y <;> simp only [biD, reduceCtorEq, Option.some.injEq] at h
    subst h
    cases rep_int rx
    cases rep_int ry
    exact ⟨_, _, rfl, rfl, aft_at st (.int _) k⟩
  | mul =>
    cases x <;> cases y <;> simp only [biD, reduceCtorEq, Option.some.injEq] at h
    · split at h
      · rename_i hm
        cases h
        cases rep_int rx
        cases rep_int ry
        have q := aft_at st (.int _) k
        rcases hm with hm | hm | hm
        · exact .inl ⟨_, _, rfl, rfl, .inl hm, q⟩
        · exact .inl ⟨_, _, rfl, rfl, .inr hm, q⟩
        · exact .inr (.inl ⟨_, _, rfl, rfl, hm, q⟩)
      · cases h
    · split at h
      · rename_i l m hl
        cases h
        obtain ⟨h0, h1, h2, h3⟩ := hl
        obtain ⟨a, us, rfl, h4, z1, r1⟩ := rep_tup rx
        cases rep_int ry
        have e1 := r1.len
        have hz : (List.replicate m.toNat us).flatten.length ≤ LIM := by
          rw [len_rep_flat]
          have : m.toNat * us.length ≤ 1000 * 1000 := Nat.mul_le_mul (by omega) (by omega)
          exact this
        exact .inr (.inr (.inr ⟨a, m, us, rfl, rfl, same_sqT sm h4, fun e => h3 (r1.nil_iff.mpr e), k2 rfl _ _ rfl rfl, h1, by omega, aft_tup st (r1.rep _) hz k⟩))
      · cases h
    · split at h
      · rename_i l m hl
        cases h
        obtain ⟨h0, h1, h2⟩ := hl
        obtain ⟨a, us, rfl, h4, z1, r1⟩ := rep_lst rx
        cases rep_int ry
        have e1 := r1.len
        have hz : (List.replicate m.toNat us).flatten.length ≤ LIM := by
          rw [len_rep_flat]
          have : m.toNat * us.length ≤ 1000 * 1000 := Nat.mul_le_mul (by omega) (by omega)
          exact this
        refine .inr (.inr (.inl ⟨a, m, us, rfl, rfl, sm _ _ h4, by omega, by omega, ?_, aft_lst st (r1.rep _) hz k⟩))
        rw [len_rep_flat, Nat.mul_comm] at hz
        exact lim_le hz
      · cases h
  | div =>
    cases x <;> cases y <;> simp only [biD, reduceCtorEq, Option.some.injEq] at h
    split at h
    · rename_i hm
      cases h
      cases rep_int rx
      cases rep_int ry
      exact ⟨_, _, rfl, rfl, hm, aft_at st (.int _) k⟩
    · cases h
  | mod =>
    cases x <;> cases y <;> simp only [biD, reduceCtorEq, Option.some.injEq] at h
    split at h
    · rename_i hm
      cases h
      cases rep_int rx
      cases rep_int ry
      exact ⟨_, _, rfl, rfl, hm, aft_at st (.int _) k⟩
    · cases h
  | pow =>
    cases x <;> cases y <;> simp only [biD, reduceCtorEq, Option.some.injEq] at h
    split at h
    · rename_i hm
      cases h
      cases rep_int rx
      cases rep_int ry
      exact ⟨_, _, rfl, rfl, hm, aft_at st (.int _) k⟩
    · cases h
end
end PL
/-! PLVal: comparisons, subscripts, slices, built-in functions, by values. -/
namespace PL
open PySem PySem.Spec PyProof.Rows L2

/-! ### data as the library's data -/
mutual
def toP : D → PyData
  | .non => .none
  | .bl b => .bool b
  | .int i => .int i
  | .str s => .str s
  | .tup l => .tuple (toPs l)
  | .lst l => .list (toPs l)
  | _ => .none
def toPs : List D → List PyData
  | [] => []
  | d :: r => toP d :: toPs r
end
section
variable {K : PySem.W.Frag} {M : Nm} {F H : Hp}
theorem Dpk.up : ∀ {n : Nat} {d : D}, Dpk n d → Dpk (n + 1) d
  | _, .non, _ => trivial
  | _, .bl _, _ => trivial
  | _, .int _, _ => trivial
  | n, .str s, h => by
    cases n <;> exact h
  | 0, .tup l, h => h.elim
  | 0, .lst l, h => h.elim
  | n + 1, .tup l, h => fun x hx => Dpk.up (h x hx)
  | n + 1, .lst l, h => fun x hx => Dpk.up (h x hx)
  | 0, .scr l, h => h.elim
  | n + 1, .scr l, h => h.elim
  | 0, .dic _ _, h => h.elim
  | n + 1, .dic _ _, h => h.elim
  | 0, .ins _ _ _, h => h.elim
  | n + 1, .ins _ _ _, h => h.elim
mutual
theorem dp_of (e : Same F H) : ∀ (n : Nat) {d : D} {v : V}, Dpk n d → Rep K M F d v → Dp K H v (toP d)
  | _, _, _, _, .non => .non
  | _, _, _, _, .bl b => .bl b
  | _, _, _, _, .int i => .int i
  | _, _, _, _, .str s => .str s
  | 0, _, _, h, .tup _ _ _ => h.elim
  | 0, _, _, h, .lst _ _ _ => h.elim
  | n + 1, _, _, h, .tup a _ r => .tup (same_sqT e a) (dps_of e n h r)
  | n + 1, _, _, h, .lst a _ r => .lst (.inl (.inl (e _ _ a))) (dps_of e n h r)
  | 0, _, _, h, .scr _ _ => h.elim
  | n + 1, _, _, h, .scr _ _ => h.elim
  | 0, _, _, h, .dic _ _ _ => h.elim
  | n + 1, _, _, h, .dic _ _ _ => h.elim
  | 0, _, _, h, .ins _ _ _ => h.elim
  | n + 1, _, _, h, .ins _ _ _ => h.elim
theorem dps_of (e : Same F H) : ∀ (n : Nat) {ds : List D} {vs : List V}, (∀ x ∈ ds, Dpk n x) → Reps K M F ds vs → DpAll K H vs (toPs ds)
  | _, _, _, _, .nil => .nil
  | n, _, _, h, .cons a r => .cons (dp_of e n (h _ (by simp)) a) (dps_of e n (fun x hx => h x (by simp [hx])) r)
end
mutual
theorem lay_of : ∀ (n : Nat) {d : D}, Dpk n d → (toP d).canLay0 = true ∧ (toP d).depth ≤ n
  | _, .non, _ => ⟨rfl, Nat.zero_le _⟩
  | _, .bl _, _ => ⟨rfl, Nat.zero_le _⟩
  | _, .int _, _ => ⟨rfl, Nat.zero_le _⟩
  | n, .str s, h => by
    refine ⟨?_, Nat.zero_le _⟩
    cases n <;> exact h
  | 0, .tup _, h => h.elim
  | 0, .lst _, h => h.elim
  | n + 1, .tup l, h => by
    obtain ⟨a, b⟩ := lays_of n (ds := l) h
    exact ⟨a, Nat.succ_le_succ b⟩
  | n + 1, .lst l, h => by
    obtain ⟨a, b⟩ := lays_of n (ds := l) h
    exact ⟨a, Nat.succ_le_succ b⟩
  | 0, .scr _, h => h.elim
  | n + 1, .scr _, h => h.elim
  | 0, .dic _ _, h => h.elim
  | n + 1, .dic _ _, h => h.elim
  | 0, .ins _ _ _, h => h.elim
  | n + 1, .ins _ _ _, h => h.elim
theorem lays_of : ∀ (n : Nat) {ds : List D}, (∀ x ∈ ds, Dpk n x) → PyData.canLayAll0 (toPs ds) = true ∧ PyData.depthAll (toPs ds) ≤ n
  | _, [], _ => ⟨rfl, Nat.zero_le _⟩
  | n, d :: r, h => by
    obtain ⟨a, b⟩ := lay_of n (h d (by simp))
    obtain ⟨a2, b2⟩ := lays_of n (ds := r) fun x hx => h x (by simp [hx])
    refine ⟨?_, ?_⟩
    · show ((toP d).canLay0 && PyData.canLayAll0 (toPs r)) = true
      rw [a, a2] <;> rfl
    · show max (toP d).depth (PyData.depthAll (toPs r)) ≤ n
      omega
end
theorem shaped_of {d : D} (h : Dpk 16 d) : SeqAt.shaped (toP d) = true := by
  obtain ⟨a, b⟩ := lay_of 16 h
  unfold SeqAt.shaped
  rw [a, decide_eq_true (Nat.le_trans b (by decide))] <;> rfl
mutual
theorem eqv_of : ∀ (n : Nat) {a b : D}, Dpk n a → Dpk n b → PyData.eqv (toP a) (toP b) = eqb a b
  | n, a, b, ha, hb => by
    cases n with
    | zero =>
      cases a <;> first | exact ha.elim | (cases b <;> first | exact hb.elim | rfl)
    | succ n =>
      cases a <;> first | exact ha.elim | (cases b <;> first | exact hb.elim | rfl | exact eqvs_of n ha hb)
theorem eqvs_of : ∀ (n : Nat) {a b : List D}, (∀ x ∈ a, Dpk n x) → (∀ x ∈ b, Dpk n x) → PyData.eqvAll (toPs a) (toPs b) = eqbs a b
  | _, [], [], _, _ => rfl
  | _, [], _ :: _, _, _ => rfl
  | _, _ :: _, [], _, _ => rfl
  | n, x :: xs, y :: ys, h, h' => by
    show (PyData.eqv (toP x) (toP y) && PyData.eqvAll (toPs xs) (toPs ys)) = (eqb x y && eqbs xs ys)
    rw [eqv_of n (h x (by simp)) (h' y (by simp)), eqvs_of n (fun z hz => h z (by simp [hz])) fun z hz => h' z (by simp [hz])]
end
theorem any_of {n : Nat} {a : D} (ha : Dpk n a) : ∀ {l : List D}, (∀ x ∈ l, Dpk n x) → ((toPs l).any fun z => PyData.eqv z (toP a)) = l.any fun z => eqb z a
  | [], _ => rfl
  | x :: r, h => by
    show (PyData.eqv (toP x) (toP a) || (toPs r).any _) = (eqb x a || r.any _)
    rw [eqv_of n (h x (by simp)) ha, any_of ha fun z hz => h z (by simp [hz])]

/-! ### comparisons -/
/-- a flat thing as a value -/
def flV : D → V
  | .non => .non
  | .bl b => .bl b
  | .int i => .int i
  | .str s => .str s
  | _ => .non
theorem rep_flat {d : D} {v : V} (h : Rep K M F d v) (f : flat d = true) : v = flV d ∧ flatV v = true := by
  cases h <;> first | exact ⟨rfl, rfl⟩ | cases f
theorem reps_flat : ∀ {ds : List D} {vs : List V}, Reps K M F ds vs → ds.all flat = true → vs.all flatV = true
  | _, _, .nil, _ => rfl
  | _, _, .cons h r, f => by
    simp only [List.all_cons, Bool.and_eq_true] at f ⊢
    exact ⟨(rep_flat h f.1).2, reps_flat r f.2⟩
theorem eqV_flat {a b : D} {v w : V} (ha : Rep K M F a v) (hb : Rep K M F b w) (fa : flat a = true) (fb : flat b = true) : eqV v w = eqb a b := by
  cases ha <;> first | (simp [flat] at fa; done) | (cases hb <;> first | (simp [flat] at fb; done) | rfl)
theorem inV_flat {a : D} {v : V} (ha : Rep K M F a v) (fa : flat a = true) : ∀ {ds : List D} {vs : List V}, Reps K M F ds vs → ds.all flat = true → inV v vs = ds.any fun z => eqb z a
  | _, _, .nil, _ => rfl
  | _, _, .cons h r, f => by
    simp only [List.all_cons, Bool.and_eq_true] at f
    have q := inV_flat ha fa r f.2
    unfold inV at q ⊢
    simp only [List.any_cons]
    rw [eqV_flat h ha f.1 fa, q]

def cop : COp → CmpOp
  | .eq => .Eq | .ne => .NotEq | .lt => .Lt | .le => .LtE | .gt => .Gt | .ge => .GtE | .isN => .Is | .notN => .IsNot | .inn => .In | .nin => .NotIn
def rC (K : PySem.W.Frag) : COp → R2
  | .eq => rEqD K
  | .ne => rNeD K
  | .lt => rI0 fun i j => .bl (decide (i < j))
  | .le => rI0 fun i j => .bl (decide (i ≤ j))
  | .gt => rI0 fun i j => .bl (decide (j < i))
  | .ge => rI0 fun i j => .bl (decide (j ≤ i))
  | .isN => fun x y H Q => y = .non ∧ Q (.bl (decide (x = .non))) H
  | .notN => fun x y H Q => y = .non ∧ Q (.bl (!decide (x = .non))) H
  | .inn => fun x y H Q => rInD K x y H Q ∨ rIn K false x y H Q
  | .nin => fun x y H Q => rNotInD K x y H Q ∨ rIn K true x y H Q
theorem op_cop {X : Cx} (hu : X.A.units + 65 < cLine) : ∀ op, OpR X (compareOp (cop op)) (rC X.K op)
  | .eq => op_eqD (by omega)
  | .ne => op_neD (by omega)
  | .lt => op_lt
  | .le => op_le
  | .gt => op_gt
  | .ge => op_ge
  | .isN => op_isN
  | .notN => op_notN
  | .inn => (op_inD hu).or op_in_seq
  | .nin => (op_notInD hu).or op_notIn_seq
def isDic : D → Bool
  | .dic _ _ => true
  | _ => false
theorem non_iff {x : D} {v : V} (h : Rep K M F x v) : decide (v = .non) = isNon x := by
  cases h <;> simp [isNon]

/-- the left thing is to be read now (ours, or settled) -/
inductive Pk (K : PySem.W.Frag) (M : Nm) (F H : Hp) : D → V → Prop where
  | rep {d : D} {v : V} (h : Rep K M F d v) : Pk K M F H d v
  | lst {a : Addr} {l : List D} {vs : List V} (h : H a = some (.lst vs)) (z : vs.length ≤ LIM) (r : Reps K M F l vs) : Pk K M F H (.lst l) (.ref a)
theorem pk_of {d : D} {o : Bool} {v : V} {fp : List Addr} (h : RepO K M F H d o v fp) (hi : ∀ c fs vs, d ≠ .ins c fs vs) : Pk K M F H d v := by
  cases h with
  | fz h => exact .rep h
  | lst h z r => exact .lst h z r
  | ins h e r => exact (hi _ _ _ rfl).elim
theorem pk_dp (e : Same F H) {d : D} {v : V} (h : Dpk 16 d) (p : Pk K M F H d v) : Dp K H v (toP d) := by
  cases p with
  | rep r => exact dp_of e 16 h r
  | lst a z r => exact .lst (.inl (.inl a)) (dps_of e 15 h r)
theorem cmp_ok {op : COp} {x y : D} {b : Bool} {v w : V} {Q : VK} (e : Same F H) (rx : Pk K M F H x v) (ry : Rep K M F y w) (h : cmD op x y = some b) (hd : isDic y = false) (k : Q (.bl b) H) : rC K op v w H Q := by
  cases op with
  | eq =>
    simp only [cmD] at h
    split at h
    · rename_i hh
      cases h
      refine ⟨toP x, toP y, pk_dp e hh.1 rx, dp_of e 16 hh.2 ry, shaped_of hh.1, shaped_of hh.2, ?_⟩
      rw [eqv_of 16 hh.1 hh.2]
      exact k
    · cases h
  | ne =>
    simp only [cmD] at h
    split at h
    · rename_i hh
      cases h
      refine ⟨toP x, toP y, pk_dp e hh.1 rx, dp_of e 16 hh.2 ry, shaped_of hh.1, shaped_of hh.2, ?_⟩
      rw [eqv_of 16 hh.1 hh.2]
      exact k
    · cases h
  | lt =>
    cases x <;> cases y <;> simp only [cmD, reduceCtorEq, Option.some.injEq] at h
    subst h
    cases rx with
    | rep rx =>
      cases rep_int rx
      cases rep_int ry
      exact ⟨_, _, rfl, rfl, k⟩
  | le =>
    cases x <;> cases y <;> simp only [cmD, reduceCtorEq, Option.some.injEq] at h
    subst h
    cases rx with
    | rep rx =>
      cases rep_int rx
      cases rep_int ry
      exact ⟨_, _, rfl, rfl, k⟩
  | gt =>
    cases x <;> cases y <;> simp only [cmD, reduceCtorEq, Option.some.injEq] at h
    subst h
    cases rx with
    | rep rx =>
      cases rep_int rx
      cases rep_int ry
      exact ⟨_, _, rfl, rfl, k⟩
  | ge =>
    cases x <;> cases y <;> simp only [cmD, reduceCtorEq, Option.some.injEq] at h
    subst h
    cases rx with
    | rep rx =>
      cases rep_int rx
      cases rep_int ry
      exact ⟨_, _, rfl, rfl, k⟩
  | isN =>
    cases y <;> simp only [cmD, reduceCtorEq, Option.some.injEq] at h
    refine ⟨rep_non ry, ?_⟩
    cases rx with
    | rep rx =>
      rw [non_iff rx, h]
      exact k
    | lst a z r =>
      subst h
      exact k
  | notN =>
    cases y <;> simp only [cmD, reduceCtorEq, Option.some.injEq] at h
    refine ⟨rep_non ry, ?_⟩
    cases rx with
    | rep rx =>
      rw [non_iff rx, h]
      exact k
    | lst a z r =>
      subst h
      exact k
  | inn =>
    cases y with
    | dic _ _ => cases hd
    | tup l =>
      simp only [cmD] at h
      split at h
      · rename_i hh
        cases h
        refine .inr ?_
        cases rx with
        | lst a z r => cases hh.1
        | rep rx =>
          obtain ⟨a, ws, rfl, h1, z1, r1⟩ := rep_tup ry
          refine ⟨a, ws, rfl, .inr (same_sqT e h1), (rep_flat rx hh.1).2, reps_flat r1 hh.2, ?_⟩
          rw [if_neg Bool.false_ne_true, inV_flat rx hh.1 r1 hh.2]
          exact k
      · cases h
    | lst l =>
      simp only [cmD] at h
      split at h
      · rename_i hh
        cases h
        refine .inl ⟨toP x, toPs l, pk_dp e hh.1 rx, dp_of e 16 hh.2 ry, shaped_of hh.1, shaped_of hh.2, ?_⟩
        rw [any_of (Dpk.up hh.1 : Dpk 17 x) (fun z hz => (show Dpk 15 z from hh.2 z hz).up.up)]
        exact k
      · cases h
    | _ => cases x <;> simp only [cmD, reduceCtorEq] at h
  | nin =>
    cases y with
    | dic _ _ => cases hd
    | tup l =>
      simp only [cmD] at h
      split at h
      · rename_i hh
        cases h
        refine .inr ?_
        cases rx with
        | lst a z r => cases hh.1
        | rep rx =>
          obtain ⟨a, ws, rfl, h1, z1, r1⟩ := rep_tup ry
          refine ⟨a, ws, rfl, .inr (same_sqT e h1), (rep_flat rx hh.1).2, reps_flat r1 hh.2, ?_⟩
          rw [if_pos rfl, inV_flat rx hh.1 r1 hh.2]
          exact k
      · cases h
    | lst l =>
      simp only [cmD] at h
      split at h
      · rename_i hh
        cases h
        refine .inl ⟨toP x, toPs l, pk_dp e hh.1 rx, dp_of e 16 hh.2 ry, shaped_of hh.1, shaped_of hh.2, ?_⟩
        rw [any_of (Dpk.up hh.1 : Dpk 17 x) (fun z hz => (show Dpk 15 z from hh.2 z hz).up.up)]
        exact k
      · cases h
    | _ => cases x <;> simp only [cmD, reduceCtorEq] at h

/-! ### subscripts, slices -/
theorem ixn_eq (n : Nat) (i : Int) : ixn n i = L2.ixN n i := rfl
theorem ix_ok {x y z : D} {v w : V} {Q : VK} (e : Same F H) (rx : Pk K M F H x v) (ry : Rep K M F y w) (h : ixD x y = some z) (k : ∀ u, Rep K M F z u → Q u H) : rIx K v w H Q := by
  cases x <;> cases y <;> simp only [ixD, reduceCtorEq] at h
  · cases rep_int ry
    cases rx with
    | rep rx =>
      obtain ⟨a, ws, rfl, h1, z1, r1⟩ := rep_tup rx
      cases e1 : ixn _ _ with
      | none =>
        rw [e1] at h
        cases h
      | some j =>
        rw [e1] at h
        obtain ⟨u, hu, ru⟩ := r1.get (show _ = some z from h)
        refine .inr (.inl ⟨a, ws, _, u, rfl, rfl, same_sqT e h1, ?_, k u ru⟩)
        unfold atI
        rw [← ixn_eq, ← r1.len, e1]
        exact hu
  · cases rep_int ry
    have go : ∀ a ws, H a = some (.lst ws) → Reps K M F _ ws → rIx K (.ref a) (.int _) H Q := fun a ws h1 r1 => by
      cases e1 : ixn _ _ with
      | none =>
        rw [e1] at h
        cases h
      | some j =>
        rw [e1] at h
        obtain ⟨u, hu, ru⟩ := r1.get (show _ = some z from h)
        refine .inl ⟨a, ws, _, u, rfl, rfl, .inl (.inl h1), ?_, k u ru⟩
        unfold atI
        rw [← ixn_eq, ← r1.len, e1]
        exact hu
    cases rx with
    | rep rx =>
      obtain ⟨a, ws, rfl, h1, z1, r1⟩ := rep_lst rx
      exact go a ws (e _ _ h1) r1
    | lst h1 z1 r1 => exact go _ _ h1 r1
  · cases rep_int ry
    cases rx with
    | rep rx =>
      cases rx with
      | scr h1 z1 =>
        rename_i l i a
        cases e1 : ixn l.length i with
        | none =>
          rw [e1] at h
          cases h
        | some j =>
          rw [e1] at h
          have h' : (l[j]?).map D.int = some z := h
          cases e2 : l[j]? with
          | none =>
            rw [e2] at h'
            cases h'
          | some m =>
            rw [e2] at h'
            cases h'
            refine .inl ⟨a, _, _, .int m, rfl, rfl, e.seq h1, ?_, k _ (.int m)⟩
            unfold atI
            rw [← ixn_eq, List.length_map, e1]
            show (l.map V.int)[j]? = _
            rw [List.getElem?_map, e2] <;> rfl
theorem clp_eq (n d : Nat) (o : Option Int) : clp n d o = HT.sIx n d o := by
  cases o <;> rfl
theorem Reps.cut {l : List D} {ws : List V} (h : Reps K M F l ws) (lo hi : Option Int) : Reps K M F (PL.cut l lo hi) (cutV ws lo hi) := by
  unfold PL.cut cutV
  rw [clp_eq, clp_eq, h.len]
  exact (h.drop _).take _
theorem sl_ok {es : List Sl} {vs : List (Option V)} {x : D} {z : D × Bool} {v : V} {lo hi : Option Int} {Q : VK} (st : Sta K M F H es vs) (rx : Rep K M F x v) (h : slD x lo hi = some z) (k : Aft K M F es vs z Q) : rSlL K v lo hi H Q ∨ rSlA K v lo hi H Q := by
  cases x <;> simp only [slD, reduceCtorEq, Option.some.injEq] at h
  · cases h
    obtain ⟨a, ws, rfl, h1, z1, r1⟩ := rep_tup rx
    refine .inr ⟨a, ws, rfl, same_sqT st.same h1, fun hw => ?_, fun _ => ?_⟩
    · have e : ∀ l : List D, l.length = ws.length → PL.cut l lo hi = l := fun l hl => by
        unfold PL.cut
        rw [clp_eq, clp_eq, hl, hw.1, hw.2, ← hl]
        simp
      rw [e _ r1.len] at k
      exact aft_at st rx k
    · exact aft_tup st (r1.cut lo hi) (Nat.le_trans (cutV_length ws lo hi) z1) k
  · cases h
    obtain ⟨a, ws, rfl, h1, z1, r1⟩ := rep_lst rx
    exact .inl ⟨a, ws, rfl, .inl (.inl (st.same _ _ h1)), aft_lst st (r1.cut lo hi) (Nat.le_trans (cutV_length ws lo hi) z1) k⟩
end
end PL
/-! PLBi: built-in functions, by values. -/
namespace PL
open PySem PySem.Spec PyProof.Rows L2
section
variable {K : PySem.W.Frag} {M : Nm} {F H : Hp}
theorem reps_ints : ∀ {l : List D} {ws : List V} {ns : List Int}, Reps K M F l ws → intsOf l = some ns → ws = ns.map V.int
  | _, _, ns, .nil, h => by
    cases h
    rfl
  | d :: r, _, ns, .cons a b, h => by
    cases d <;> simp only [intsOf, reduceCtorEq] at h
    cases e : intsOf r with
    | none =>
      rw [e] at h
      cases h
    | some ms =>
      rw [e] at h
      cases h
      rw [rep_int a, reps_ints b e]
      rfl
theorem reps_bls : ∀ {l : List D} {ws : List V} {ns : List Bool}, Reps K M F l ws → blsOf l = some ns → ws = ns.map V.bl
  | _, _, ns, .nil, h => by
    cases h
    rfl
  | d :: r, _, ns, .cons a b, h => by
    cases d <;> simp only [blsOf, reduceCtorEq] at h
    cases e : blsOf r with
    | none =>
      rw [e] at h
      cases h
    | some ms =>
      rw [e] at h
      cases h
      rw [rep_bl a, reps_bls b e]
      rfl
theorem reps_of_ints : ∀ ns : List Int, Reps K M F (ns.map D.int) (ns.map V.int)
  | [] => .nil
  | _ :: r => .cons (.int _) (reps_of_ints r)
theorem maxL_mem : ∀ {ns : List Int}, ns ≠ [] → maxL ns ∈ ns ∧ ∀ y ∈ ns, y ≤ maxL ns
  | [], h => (h rfl).elim
  | [a], _ => by simp [maxL]
  | a :: b :: r, _ => by
    obtain ⟨h1, h2⟩ := maxL_mem (ns := b :: r) (by simp)
    have e : maxL (a :: b :: r) = max a (maxL (b :: r)) := rfl
    rw [e]
    refine ⟨?_, fun y hy => ?_⟩
    · rcases Int.le_total a (maxL (b :: r)) with q | q
      · rw [Int.max_eq_right q]
        exact List.mem_cons_of_mem _ h1
      · rw [Int.max_eq_left q]
        exact List.mem_cons_self
    · rcases List.mem_cons.mp hy with z | z
      · omega
      · have := h2 y z
        omega
theorem minL_mem : ∀ {ns : List Int}, ns ≠ [] → minL ns ∈ ns ∧ ∀ y ∈ ns, minL ns ≤ y
  | [], h => (h rfl).elim
  | [a], _ => by simp [minL]
  | a :: b :: r, _ => by
    obtain ⟨h1, h2⟩ := minL_mem (ns := b :: r) (by simp)
    have e : minL (a :: b :: r) = min a (minL (b :: r)) := rfl
    rw [e]
    refine ⟨?_, fun y hy => ?_⟩
    · rcases Int.le_total a (minL (b :: r)) with q | q
      · rw [Int.min_eq_left q]
        exact List.mem_cons_self
      · rw [Int.min_eq_right q]
        exact List.mem_cons_of_mem _ h1
    · rcases List.mem_cons.mp hy with z | z
      · omega
      · have := h2 y z
        omega
theorem insI_perm (a : Int) : ∀ l : List Int, (insI a l).Perm (a :: l)
  | [] => .refl _
  | b :: r => by
    unfold insI
    split
    · exact .refl _
    · exact ((insI_perm a r).cons b).trans (List.Perm.swap a b r)
theorem insI_sorted (a : Int) : ∀ {l : List Int}, l.Pairwise (· ≤ ·) → (insI a l).Pairwise (· ≤ ·)
  | [], _ => by simp [insI]
  | b :: r, h => by
    unfold insI
    obtain ⟨h1, h2⟩ := List.pairwise_cons.mp h
    split
    · rename_i q
      refine List.pairwise_cons.mpr ⟨fun y hy => ?_, h⟩
      rcases List.mem_cons.mp hy with z | z
      · omega
      · have := h1 y z
        omega
    · rename_i q
      refine List.pairwise_cons.mpr ⟨fun y hy => ?_, insI_sorted a h2⟩
      rcases List.mem_cons.mp ((insI_perm a r).mem_iff.mp hy) with z | z
      · omega
      · exact h1 y z
theorem srtI_perm : ∀ l : List Int, (srtI l).Perm l
  | [] => .refl _
  | a :: r => (insI_perm a (srtI r)).trans ((srtI_perm r).cons a)
theorem srtI_sorted : ∀ l : List Int, (srtI l).Pairwise (· ≤ ·)
  | [] => .nil
  | a :: r => insI_sorted a (srtI_sorted r)
theorem sorted_one : ∀ {l m : List Int}, l.Perm m → l.Pairwise (· ≤ ·) → m.Pairwise (· ≤ ·) → l = m
  | [], m, p, _, _ => (List.nil_perm.mp p).symm
  | a :: r, [], p, _, _ => by
    have := p.length_eq
    simp at this
  | a :: r, b :: s, p, h, h' => by
    obtain ⟨h1, h2⟩ := List.pairwise_cons.mp h
    obtain ⟨h3, h4⟩ := List.pairwise_cons.mp h'
    have e : a = b := by
      have x : a ∈ b :: s := p.mem_iff.mp List.mem_cons_self
      have y : b ∈ a :: r := p.mem_iff.mpr List.mem_cons_self
      rcases List.mem_cons.mp x with z | z
      · exact z
      · rcases List.mem_cons.mp y with w | w
        · exact w.symm
        · have := h3 a z
          have := h1 b w
          omega
    subst e
    rw [sorted_one (List.perm_cons a |>.mp p) h2 h4]

def nmBi : Bi → Str
  | .len => "len" | .abs => "abs" | .max2 => "max" | .min2 => "min" | .max1 => "max" | .min1 => "min" | .int1 => "int" | .str1 => "str" | .sum => "sum" | .sorted => "sorted" | .list => "list" | .tuple => "tuple" | .any => "any" | .all => "all"
  | .listR => "" | .tupR => "" | .dictL => "" | .dictZ => ""
def fvBi : Bi → Value
  | .len => .builtin "len" | .abs => .builtin "abs" | .max2 => .builtin "max" | .min2 => .builtin "min" | .max1 => .builtin "max" | .min1 => .builtin "min" | .int1 => .type "int" | .str1 => .type "str" | .sum => .builtin "sum"
  | .sorted => .builtin "sorted" | .list => .type "list" | .tuple => .type "tuple" | .any => .builtin "any" | .all => .builtin "all"
  | .listR => .none | .tupR => .none | .dictL => .none | .dictZ => .none
def rBi (K : PySem.W.Frag) : Bi → List V → Hp → VK → Prop
  | .len => fun xs H Q => ∃ p ys, xs = [.ref p] ∧ (SqL K H p ys ∨ SqT K H p ys) ∧ Q (.int ys.length) H
  | .abs => fun xs H Q => ∃ i, xs = [.int i] ∧ Q (.int (if i < 0 then -i else i)) H
  | .max2 => fun xs H Q => ∃ i j, xs = [.int i, .int j] ∧ Q (.int (if j > i then j else i)) H
  | .min2 => fun xs H Q => ∃ i j, xs = [.int i, .int j] ∧ Q (.int (if j < i then j else i)) H
  | .max1 => rMax K
  | .min1 => rMin K
  | .int1 => fun xs H Q => (∃ i, xs = [.int i] ∧ Q (.int i) H) ∨ ∃ k, xs = [.bl k] ∧ Q (.int (if k then 1 else 0)) H
  | .str1 => fun xs H Q => ∃ i, xs = [.int i] ∧ i.natAbs.log2 < 1920 ∧ Q (.str (toString i)) H
  | .sum => rSum K
  | .sorted => rSorted K
  | .list => fun xs H Q => ∃ p ys, xs = [.ref p] ∧ (SqL K H p ys ∨ SqT K H p ys) ∧ ∀ l, H l = none → Q (.ref l) (upd H l (.lst ys))
  | .tuple => fun xs H Q => ∃ p ys, xs = [.ref p] ∧ ((SqL K H p ys ∧ ∀ l, H l = none → Q (.ref l) (upd H l (.tup ys))) ∨ (SqT K H p ys ∧ Q (.ref p) H))
  | .any => rAny K
  | .all => rAll K
  | .listR => fun _ _ _ => False
  | .tupR => fun _ _ _ => False
  | .dictL => fun _ _ _ => False
  | .dictZ => fun _ _ _ => False
def okBi : Bi → Bool
  | .listR => false | .tupR => false | .dictL => false | .dictZ => false
  | _ => true
theorem cr_bi {X : Cx} (hc : X.calm = true) : ∀ b, okBi b = true → CallR X (fvBi b) (rBi X.K b)
  | .len, _ => call_len_seq
  | .abs, _ => call_abs
  | .max2, _ => call_max2 hc
  | .min2, _ => call_min2 hc
  | .max1, _ => cr_max hc
  | .min1, _ => cr_min hc
  | .int1, _ => call_int1
  | .str1, _ => call_str_int
  | .sum, _ => cr_sum hc
  | .sorted, _ => cr_sorted
  | .list, _ => call_list_of
  | .tuple, _ => call_tuple_of
  | .any, _ => cr_any hc
  | .all, _ => cr_all hc
theorem boot_bi : ∀ b, okBi b = true → bootBuiltins (nmBi b) = some (fvBi b) := by
  intro b h
  cases b <;> first | (simp [okBi] at h; done) | decide +kernel
variable {es : List Sl} {vs : List (Option V)}
theorem reps_one {d : D} {ws : List V} (h : Reps K M F [d] ws) : ∃ v, ws = [v] ∧ Rep K M F d v := by
  cases h with
  | cons a r =>
    cases r
    exact ⟨_, rfl, a⟩
theorem reps_two {d e : D} {ws : List V} (h : Reps K M F [d, e] ws) : ∃ v w, ws = [v, w] ∧ Rep K M F d v ∧ Rep K M F e w := by
  cases h with
  | cons a r =>
    cases r with
    | cons b s =>
      cases s
      exact ⟨_, _, rfl, a, b⟩
theorem bi_ok {b : Bi} {ds : List D} {z : D × Bool} {ws : List V} {Q : VK} (st : Sta K M F H es vs) (r : Reps K M F ds ws) (h : biF b ds = some z) (hb : okBi b = true) (k : Aft K M F es vs z Q) : rBi K b ws H Q := by
  have e := st.same
  have toL : ∀ {a : Addr} {us : List V}, F a = some (.lst us) → SqL K H a us := fun q => .inl (.inl (e _ _ q))
  unfold biF at h
  split at h <;> first | (simp [okBi] at hb; done) | cases h | skip
  case h_1 l =>
    obtain ⟨v, rfl, q⟩ := reps_one r
    obtain ⟨a, us, rfl, h1, z1, r1⟩ := rep_lst q
    rw [r1.len] at k
    exact ⟨a, us, rfl, .inl (toL h1), aft_at st (.int _) k⟩
  case h_2 l =>
    obtain ⟨v, rfl, q⟩ := reps_one r
    obtain ⟨a, us, rfl, h1, z1, r1⟩ := rep_tup q
    rw [r1.len] at k
    exact ⟨a, us, rfl, .inr (same_sqT e h1), aft_at st (.int _) k⟩
  case h_3 l =>
    obtain ⟨v, rfl, q⟩ := reps_one r
    cases q with
    | scr h1 z1 => exact ⟨_, _, rfl, .inl (e.seq h1), by rw [List.length_map]; exact aft_at st (.int _) k⟩
  case h_4 i =>
    obtain ⟨v, rfl, q⟩ := reps_one r
    cases rep_int q
    exact ⟨_, rfl, aft_at st (.int _) k⟩
  case h_5 i j =>
    obtain ⟨v, w, rfl, q, q'⟩ := reps_two r
    cases rep_int q
    cases rep_int q'
    exact ⟨_, _, rfl, aft_at st (.int _) k⟩
  case h_6 i j =>
    obtain ⟨v, w, rfl, q, q'⟩ := reps_two r
    cases rep_int q
    cases rep_int q'
    exact ⟨_, _, rfl, aft_at st (.int _) k⟩
  case h_7 l =>
    obtain ⟨v, rfl, q⟩ := reps_one r
    obtain ⟨a, us, rfl, h1, z1, r1⟩ := rep_lst q
    cases en : intsOf l with
    | none =>
      rw [en] at h
      cases h
    | some ns =>
      rw [en] at h
      simp only [Option.bind_some] at h
      split at h
      · cases h
      · rename_i hne
        cases h
        rw [reps_ints r1 en] at h1
        refine ⟨a, ns, rfl, toL h1, List.length_pos_iff.mpr hne, fun m h2 h3 => ?_⟩
        obtain ⟨h4, h5⟩ := maxL_mem hne
        have e1 : m = maxL ns := by
          have := h3 _ h4
          have := h5 _ h2
          omega
        rw [e1]
        exact aft_at st (.int _) k
  case h_8 l =>
    obtain ⟨v, rfl, q⟩ := reps_one r
    obtain ⟨a, us, rfl, h1, z1, r1⟩ := rep_lst q
    cases en : intsOf l with
    | none =>
      rw [en] at h
      cases h
    | some ns =>
      rw [en] at h
      simp only [Option.bind_some] at h
      split at h
      · cases h
      · rename_i hne
        cases h
        rw [reps_ints r1 en] at h1
        refine ⟨a, ns, rfl, toL h1, List.length_pos_iff.mpr hne, fun m h2 h3 => ?_⟩
        obtain ⟨h4, h5⟩ := minL_mem hne
        have e1 : m = minL ns := by
          have := h3 _ h4
          have := h5 _ h2
          omega
        rw [e1]
        exact aft_at st (.int _) k
  case h_9 i =>
    obtain ⟨v, rfl, q⟩ := reps_one r
    cases rep_int q
    exact .inl ⟨_, rfl, aft_at st (.int _) k⟩
  case h_10 i =>
    obtain ⟨v, rfl, q⟩ := reps_one r
    cases rep_bl q
    exact .inr ⟨_, rfl, aft_at st (.int _) k⟩
  case h_11 l =>
    obtain ⟨v, rfl, q⟩ := reps_one r
    obtain ⟨a, us, rfl, h1, z1, r1⟩ := rep_lst q
    cases en : intsOf l with
    | none =>
      rw [en] at h
      cases h
    | some ns =>
      rw [en] at h
      cases h
      rw [reps_ints r1 en] at h1
      exact ⟨a, ns, rfl, toL h1, aft_at st (.int _) k⟩
  case h_12 l =>
    obtain ⟨v, rfl, q⟩ := reps_one r
    obtain ⟨a, us, rfl, h1, z1, r1⟩ := rep_lst q
    cases en : intsOf l with
    | none =>
      rw [en] at h
      cases h
    | some ns =>
      rw [en] at h
      simp only [Option.bind_some] at h
      split at h
      · rename_i h64
        cases h
        rw [reps_ints r1 en] at h1
        refine ⟨a, ns, rfl, toL h1, h64, fun ns' p h2 h3 => ?_⟩
        have e1 : ns' = srtI ns := sorted_one (h2.trans (srtI_perm ns).symm) h3 (srtI_sorted ns)
        subst e1
        refine aft_lst st (reps_of_ints _) ?_ k p
        rw [List.length_map, (srtI_perm ns).length_eq]
        unfold LIM
        omega
      · cases h
  case h_13 l =>
    obtain ⟨v, rfl, q⟩ := reps_one r
    obtain ⟨a, us, rfl, h1, z1, r1⟩ := rep_lst q
    exact ⟨a, us, rfl, .inl (toL h1), aft_lst st r1 z1 k⟩
  case h_14 l =>
    obtain ⟨v, rfl, q⟩ := reps_one r
    obtain ⟨a, us, rfl, h1, z1, r1⟩ := rep_tup q
    exact ⟨a, us, rfl, .inr (same_sqT e h1), aft_lst st r1 z1 k⟩
  case h_15 l =>
    obtain ⟨v, rfl, q⟩ := reps_one r
    obtain ⟨a, us, rfl, h1, z1, r1⟩ := rep_lst q
    exact ⟨a, us, rfl, .inl ⟨toL h1, aft_tup st r1 z1 k⟩⟩
  case h_16 l =>
    obtain ⟨v, rfl, q⟩ := reps_one r
    have q' := q
    obtain ⟨a, us, rfl, h1, z1, r1⟩ := rep_tup q
    exact ⟨a, us, rfl, .inr ⟨same_sqT e h1, aft_at st q' k⟩⟩
  case h_17 l =>
    obtain ⟨v, rfl, q⟩ := reps_one r
    obtain ⟨a, us, rfl, h1, z1, r1⟩ := rep_lst q
    cases en : blsOf l with
    | none =>
      rw [en] at h
      cases h
    | some ns =>
      rw [en] at h
      cases h
      rw [reps_bls r1 en] at h1
      exact ⟨a, ns, rfl, toL h1, aft_at st (.bl _) k⟩
  case h_18 l =>
    obtain ⟨v, rfl, q⟩ := reps_one r
    obtain ⟨a, us, rfl, h1, z1, r1⟩ := rep_lst q
    cases en : blsOf l with
    | none =>
      rw [en] at h
      cases h
    | some ns =>
      rw [en] at h
      cases h
      rw [reps_bls r1 en] at h1
      exact ⟨a, ns, rfl, toL h1, aft_at st (.bl _) k⟩
end
end PL
/-! PLTup1: a tuple one time is itself. -/
namespace PL
open PySem PySem.Spec PyProof.Rows L2
theorem tup_once (l : Addr) (its : Array Value) (n : Nat) (dd : Option Addr) (sl : Array (Option Value)) (u : Tok) :
    Meets (Builtin.«tuple.__mul__» ⟨[.ref l, .int 1 u], []⟩) (fun _ R s => s.heap.get? l = some { cls := .type "tuple", dict := dd, data := .seq its n, slots := sl } ∧ R (.ok (.ret (.ref l))) s) :=
  .of_wp fun prog w A R s h => by
    obtain ⟨hp, g, d, tk, os⟩ := s
    obtain ⟨hl, h⟩ := h
    have f1 := AutoSeq1.idx_int
    wp_walk using wpAny_loadPart' hl
    repeat (first
      | (refine wpAny_ite_false (decide_eq_false (by decide)) ?_; wp_walk using wpAny_loadPart' hl)
      | (refine wpAny_ite_true (decide_eq_true (by simp)) ?_; wp_walk using wpAny_loadPart' hl))
    exact ⟨_, rfl, h⟩
def rOnce (K : PySem.W.Frag) : R2 := fun x y H Q => ∃ l xs, x = .ref l ∧ y = .int 1 ∧ SqT K H l xs ∧ Q (.ref l) H
theorem op_once {X : Cx} : OpR X (binaryOp .Mult) (rOnce X.K) := by
  intro pins s σ H x y v u Q I rx ry h
  obtain ⟨l, xs, rfl, rfl, hT, q⟩ := h
  cases rx
  obtain ⟨t, rfl⟩ := ry
  obtain ⟨its, r, ⟨⟨cls, dd, data, sl⟩, ho, hc, n, hd⟩, hs⟩ := I.tuple hT
  simp only at hc hd
  subst hc hd
  exact wpAny_binaryOp_repeat_ref (T := "tuple") (U := "int") (by decide) ⟨_, ho, rfl⟩ (fun s' => typeIs_int s' 1 t) noFill_tuple_mul F.fills_int_mul F.slot_int_rmul repeat_tuple F.slot_int_index.lookup
    (call_meets F.slot_int_rmul (typeIs_int s 1 t) F.entry_int_rmul (F.args_int_rmul_2 _ _) (int_rmul_tuple 1 t l its.toArray n dd sl)
      ⟨ho, rfl, ⟨_, ho, rfl⟩, call_meets F.slot_tuple_mul ⟨_, ho, rfl⟩ F.entry_tuple_mul (F.args_tuple_mul_2 _ _) (tup_once l its.toArray n dd sl t) ⟨ho, ⟨.ref l, H, I, rfl, q⟩⟩⟩)
def rBX (K : PySem.W.Frag) (op : BOp) : R2 := fun x y H Q => rB K op x y H Q ∨ (op = .mul ∧ rOnce K x y H Q)
theorem op_binX {X : Cx} (op : BOp) : OpR X (binaryOp (bop op)) (rBX X.K op) := by
  intro pins s σ H x y v u Q I rx ry h
  rcases h with h | ⟨rfl, h⟩
  · exact op_bin op pins s σ H x y v u Q I rx ry h
  · exact op_once pins s σ H x y v u Q I rx ry h
section
variable {K : PySem.W.Frag} {M : Nm} {F H : Hp} {es : List Sl} {vs : List (Option V)}
theorem bin_okX {op : BOp} {x y : D} {z : D × Bool} {v w : V} {Q : VK} (st : Sta K M F H es vs) (rx : Rep K M F x v) (ry : Rep K M F y w) (h : biD op x y = some z) (k : Aft K M F es vs z Q) : rBX K op v w H Q := by
  by_cases hm : ∃ l, op = .mul ∧ x = .tup l ∧ y = .int 1
  · obtain ⟨l, rfl, rfl, rfl⟩ := hm
    simp only [biD] at h
    split at h
    · cases h
      have r2 := rx
      obtain ⟨a, us, rfl, h1, z1, r1⟩ := rep_tup rx
      cases rep_int ry
      refine .inr ⟨rfl, a, us, rfl, rfl, same_sqT st.same h1, ?_⟩
      have e : (List.replicate (1 : Int).toNat l).flatten = l := by
        show (List.replicate 1 l).flatten = l
        simp
      rw [e] at k
      exact aft_at st r2 k
    · cases h
  · refine .inl (bin_ok st rx ry h k fun e l j h1 h2 => ?_)
    subst e h1 h2
    simp only [biD] at h
    split at h
    · rename_i hh
      have : ¬ j = 1 := fun e => hm ⟨l, rfl, rfl, by rw [e]⟩
      omega
    · cases h
end
end PL
/-! PLSnd: the small syntax against the text's own; what an expression's reckoning says holds of the machine. -/
namespace PL
open PySem PySem.Spec PyProof.Rows L2

/-- the text's names by numbers -/
structure Ns where
  gN : Nat → Str
  fN : Nat → Str
  cN : Nat → Str
  mN : Nat → Str
  fl : Nat → Str
  fs : List Nat
  gs : List Nat
  cs : List Nat
/-- where the text's defs stand -/
structure Lk where
  fa : Nat → Addr
  fd : Nat → FuncData
  ps : Nat → List Str

def visB (sc : Scope) (x : Str) : Bool :=
  match sc.names.lookup x with
  | some .local => true
  | some .cell => true
  | some .free => true
  | _ => false
def stoB (sc : Scope) (x : Str) : Bool :=
  match sc.names.lookup x with
  | some .local => true
  | some .cell => true
  | _ => false
def glB (sc : Scope) (x : Str) : Bool :=
  match sc.names.lookup x with
  | some .globalImplicit => true
  | _ => false
def nmOk (x : Str) : Bool := !(x == ("__debug__" : Str)) && !(x == ("__classdict__" : Str)) && !(x == ("__name__" : Str))
theorem vis_of {sc : Scope} {x : Str} (h : visB sc x = true) : Vis sc x := by
  unfold visB at h
  unfold Vis
  split at h <;> first | (rename_i e; rw [e]; simp; done) | cases h
theorem loc_of {sc : Scope} {x : Str} (h : stoB sc x = true) : L2.Loc sc x := by
  unfold stoB at h
  unfold L2.Loc
  split at h <;> first | (rename_i e; rw [e]; simp; done) | cases h
theorem gl_of {X : Cx} {x : Str} (h : glB X.env.scope x = true) : Gl X x := by
  unfold glB at h
  unfold Gl PySem.Env.kindOf
  split at h
  · assumption
  · cases h
theorem nmOk_of {x : Str} (h : nmOk x = true) : (x == ("__debug__" : Str)) = false ∧ (x == ("__classdict__" : Str)) = false ∧ x ≠ "__name__" := by
  unfold nmOk at h
  simp only [Bool.and_eq_true, Bool.not_eq_true'] at h
  exact ⟨h.1.1, h.1.2, by simpa using h.2⟩

/-- no star, no set, no slice -/
def plain : Expr → Bool
  | .Starred _ _ => false
  | .Set _ _ _ => false
  | .Slice _ _ _ _ => false
  | .NamedExpr _ _ _ => false
  | .Lambda _ _ _ _ => false
  | .Await _ _ => false
  | .Yield _ _ => false
  | .YieldFrom _ _ => false
  | .GeneratorExp _ _ _ _ => false
  | .SetComp _ _ _ _ => false
  | _ => true
theorem plain_star {e : Expr} {es : List Expr} {env : PySem.Env} (h : plain e = true) : starEach (e :: es) env = (false, eval e env) :: starEach es env := by
  cases e <;> first | rfl | (simp [plain] at h; done)
theorem plain_marks {op : CmpOp} {e : Expr} (h : plain e = true) : behindInMarks op e = false := by
  cases e <;> first | rfl | (simp [plain] at h; done)
theorem plain_ix {e : Expr} (h : plain e = true) : PlainIx e := by
  intro o i
  cases e <;> first | rfl | (simp [plain] at h; done)
theorem stars_none {es : List Expr} {env : PySem.Env} {pos : Pos} (h : es.all plain = true) : (backTo pos (starEach es env)).any (·.1) = false := by
  induction es with
  | nil => rfl
  | cons e r ih =>
    simp only [List.all_cons, Bool.and_eq_true] at h
    rw [plain_star h.1]
    show (false || (backTo pos (starEach r env)).any (·.1)) = false
    rw [ih h.2] <;> rfl

def mC : D → Const → Bool
  | .non, .none => true
  | .bl b, .bool c => b == c
  | .int i, .int j => decide (i = j)
  | .str s, .str t => decide (s = t)
  | _, _ => false
def tyN : Ty → Str
  | .int => "int" | .bool => "bool" | .str => "str" | .tuple => "tuple" | .list => "list"
def mTy (sc : Scope) : List Ty → List Expr → Bool
  | [], [] => true
  | t :: ts, .Name x _ :: es => decide (x = tyN t) && glB sc x && mTy sc ts es
  | _, _ => false

def plainT : Expr → Bool
  | .Name _ _ => true
  | .Call _ _ _ _ => true
  | .Subscript _ _ _ => true
  | .Attribute _ _ _ => true
  | _ => false
def tOk (pe : Expr) : Bool := plainT pe || match pe with | .Compare _ _ _ _ => true | .BoolOp _ _ _ => true | .UnaryOp .Not _ _ => true | _ => false
section
variable (T : Ns) (N : List Str)
mutual
def mE (sc : Scope) : E → Expr → Bool
  | .var i, e => plain e && match e with | .Name x _ => decide (N[i]? = some x) && visB sc x && nmOk x | _ => false
  | .cst d, e => plain e && match e with | .Constant c _ _ => mC d c | _ => false
  | .glb g, e => plain e && match e with | .Name x _ => decide (T.gN g = x) && glB sc x && nmOk x && T.gs.contains g | _ => false
  | .bin op a b, e => plain e && match e with | .BinOp x o y _ => decide (o = bop op) && mE sc a x && mE sc b y | _ => false
  | .neg a, e => plain e && match e with | .UnaryOp .USub x _ => mE sc a x | _ => false
  | .cmp op a b, e => plain e && match e with | .Compare x [o] [y] _ => decide (o = cop op) && mE sc a x && mE sc b y | _ => false
  | .cmpv op v b, e => plain e && match e with | .Compare (.Name x _) [o] [y] _ => decide (o = cop op) && decide (N[v]? = some x) && visB sc x && nmOk x && mE sc b y | _ => false
  | .chn o p a b c, e => plain e && match e with | .Compare x [o', p'] [y, z] _ => decide (o' = cop o) && decide (p' = cop p) && mE sc a x && mE sc b y && mE sc c z | _ => false
  | .and a b, e => plain e && match e with
      | .BoolOp .And [x, y] _ => (mE sc a x && mE sc b y) && (tOk x && tOk y)
      | .BoolOp .And (x :: y :: z :: r) pos => (mE sc a x && (mE sc b (.BoolOp .And (y :: z :: r) pos))) && tOk x
      | _ => false
  | .or a b, e => plain e && match e with
      | .BoolOp .Or [x, y] _ => (mE sc a x && mE sc b y) && (tOk x && tOk y)
      | .BoolOp .Or (x :: y :: z :: r) pos => (mE sc a x && (mE sc b (.BoolOp .Or (y :: z :: r) pos))) && tOk x
      | _ => false
  | .not a, e => plain e && match e with | .UnaryOp .Not x _ => mE sc a x && tOk x | _ => false
  | .ifx c a b, e => plain e && match e with | .IfExp z x y _ => mE sc c z && mE sc a x && mE sc b y && tOk z | _ => false
  | .tup es, e => plain e && match e with | .Tuple xs _ _ => mEs sc es xs | _ => false
  | .lst es, e => plain e && match e with | .List xs _ => mEs sc es xs | _ => false
  | .idx a i, e => plain e && match e with | .Subscript x y _ => mE sc a x && mE sc i y | _ => false
  | .idxv v i, e => plain e && match e with | .Subscript (.Name x _) y _ => decide (N[v]? = some x) && visB sc x && nmOk x && mE sc i y | _ => false
  | .slc a lo hi, e => plain e && match e with | .Subscript x (.Slice l h none _) _ => mE sc a x && mO sc lo l && mO sc hi h | _ => false
  | .isI a ts, e => plain e && match e with
      | .Call (.Name f _) [x, .Tuple ys _ _] [] _ => decide (f = "isinstance") && glB sc f && mE sc a x && mTy sc ts ys && decide (ts.length ≤ 8)
      | .Call (.Name f _) [x, y] [] _ => decide (f = "isinstance") && glB sc f && mE sc a x && mTy sc ts [y]
      | _ => false
  | .bi b es, e => plain e && match e with | .Call (.Name f _) (x :: xs) [] _ => decide (f = nmBi b) && okBi b && glB sc f && mEs sc es (x :: xs) | _ => false
  | .fn f es, e => plain e && match e with | .Call (.Name g _) xs [] _ => decide (g = T.fN f) && glB sc g && nmOk g && T.fs.contains f && mEs sc es xs | _ => false
  | .fnv f v es, e => plain e && match e with | .Call (.Name g _) (.Name x _ :: xs) [] _ => decide (g = T.fN f) && glB sc g && nmOk g && T.fs.contains f && decide (N[v]? = some x) && visB sc x && nmOk x && mEs sc es xs | _ => false
  | _, _ => false
def mEs (sc : Scope) : Es → List Expr → Bool
  | .nil, l => match l with | [] => true | _ => false
  | .cons a r, l => match l with | x :: xs => mE sc a x && mEs sc r xs | _ => false
def mO (sc : Scope) : O → Option Expr → Bool
  | .none, l => match l with | none => true | _ => false
  | .some a, l => match l with | some x => mE sc a x | _ => false
end
theorem mE_plain {sc : Scope} {e : E} {pe : Expr} (h : mE T N sc e pe = true) : plain pe = true := by
  cases e <;> first | (simp only [mE, Bool.and_eq_true] at h; exact h.1) | (simp [mE] at h; done)
theorem mEs_plain {sc : Scope} : ∀ {e : Es} {pe : List Expr}, mEs T N sc e pe = true → pe.all plain = true
  | .nil, [], _ => rfl
  | .nil, _ :: _, h => by simp [mEs] at h
  | .cons a r, [], h => by simp [mEs] at h
  | .cons a r, x :: xs, h => by
    simp only [mEs, Bool.and_eq_true] at h
    simp only [List.all_cons, Bool.and_eq_true]
    exact ⟨mE_plain T N h.1, mEs_plain h.2⟩
end

/-! ### what holds of the text's top -/
structure Top (K : PySem.W.Frag) (mg : Str → Option Value) (M : Nm) (T : Ns) (L : Lk) (Γ : Ctx) : Prop where
  fl : M.fl = T.fl
  glb : ∀ g ∈ T.gs, ∀ d, Γ.glb g = some d → ∃ u v, mg (T.gN g) = some u ∧ RelV v u ∧ ∀ F, Rep K M F d v
  bi : ∀ b, okBi b = true → mg (nmBi b) = none
  ty : ∀ t, mg (tyN t) = none
  isi : mg "isinstance" = none
  rng : mg "range" = none
  fn : ∀ f ∈ T.fs, mg (T.fN f) = some (.ref (L.fa f)) ∧ PySem.W.keepIn K (.ref (L.fa f)) = true ∧ ∃ dvs ds, Binds K (L.fd f) (L.ps f) ds ∧ Vals dvs ds ∧ ∀ F, Reps K M F (Γ.dfl f) dvs
/-- a def's promise, by its reckoning -/
def spF (K : PySem.W.Frag) (M : Nm) (call : Nat → List (D × Bool) → CRes) (f np : Nat) : Sp := fun vs H Q _ => vs.length = np ∧ ∃ F ext xv args, ext.length = xv.length ∧ args.length = np ∧ Sta K M F H (ext ++ args.map some) (xv ++ vs.map some) ∧
  match call f args with
  | .ret r none => ∀ v F' H', Same F F' → Sta K M F' H' (some r :: ext) (some v :: xv) → Q v H'
  | .ret r (some d) => (∃ d0 rr, args = (d0, true) :: rr) ∧ ∀ v F' H', Same F F' → Sta K M F' H' (some r :: some (d, true) :: ext) (some v :: vs.head? :: xv) → Q v H'
  | _ => False
structure XC (X : Cx) (M : Nm) (T : Ns) (L : Lk) (Γ : Ctx) (call : Nat → List (D × Bool) → CRes) (N : List Str) (sc so : Scope) (k : Nat) : Prop where
  hN : X.N = N
  nd : N.Nodup
  scp : X.env.scope = sc
  kind : sc.kind = .function
  sto : ∀ x, stoB so x = true → L2.Loc X.env.scope x ∧ (X.fn x = true ∨ X.env.scope.names.lookup x = some .local)
  calm : X.calm = true
  nox : X.xe = fun _ _ => False
  room : Room (k + 1) X.A
  top : Top X.K X.mg M T L Γ
  ar : ∀ f ∈ T.fs, ∀ args, call f args ≠ .err → args.length = (L.ps f).length
  fns : ∀ f ∈ T.fs, FnOk X.prog X.w X.K X.mg X.base CX0 k (L.fa f) (L.fd f) (L.ps f) (spF X.K M call f (L.ps f).length)

section
variable {X : Cx} {M : Nm} {T : Ns} {L : Lk} {Γ : Ctx} {call : Nat → List (D × Bool) → CRes} {N : List Str} {sc so : Scope} {k : Nat}

theorem sta_ix {K : PySem.W.Frag} {F H : Hp} {ext : List Sl} {xv : List (Option V)} {σ : L2.St} {env : PL.Fm} {i : Nat} {d : D} {o : Bool} (st : Sta K M F H (ext ++ env) (xv ++ σ)) (hl : ext.length = xv.length) (e : env[i]? = some (some (d, o))) :
    ∃ v fp, σ[i]? = some (some v) ∧ RepO K M F H d o v fp := by
  have e2 : (ext ++ env)[ext.length + i]? = some (some (d, o)) := by
    rw [List.getElem?_append_right (Nat.le_add_right _ _), Nat.add_sub_cancel_left]
    exact e
  obtain ⟨v, fp, a, b⟩ := st.at e2
  rw [List.getElem?_append_right (by omega)] at a
  refine ⟨v, fp, ?_, b⟩
  rw [← a]
  congr 1
  omega
theorem sta_settle {K : PySem.W.Frag} {F H : Hp} {ext : List Sl} {xv : List (Option V)} {σ : L2.St} {env : PL.Fm} {i : Nat} {d : D} {o : Bool} (st : Sta K M F H (ext ++ env) (xv ++ σ)) (hl : ext.length = xv.length) (e : env[i]? = some (some (d, o))) :
    ∃ F' v, Same F F' ∧ σ[i]? = some (some v) ∧ Rep K M F' d v ∧ Sta K M F' H (ext ++ env.set i (some (d, false))) (xv ++ σ) := by
  have e2 : (ext ++ env)[ext.length + i]? = some (some (d, o)) := by
    rw [List.getElem?_append_right (Nat.le_add_right _ _), Nat.add_sub_cancel_left]
    exact e
  obtain ⟨F', v, s, a, b, c⟩ := st.settleAt e2
  rw [List.getElem?_append_right (by omega)] at a
  rw [List.set_append_right _ _ (Nat.le_add_right _ _), Nat.add_sub_cancel_left] at c
  refine ⟨F', v, s, ?_, b, c⟩
  rw [← a]
  congr 1
  omega

theorem s_var (C : XC X M T L Γ call N sc so k) {i : Nat} {x : Str} {pos : Pos} (h1 : N[i]? = some x) (h2 : visB sc x = true) (h3 : nmOk x = true) : PE X (.Name x pos) ((TEv X.K M Γ call) (.var i)) := by
  obtain ⟨n1, n2, _⟩ := nmOk_of h3
  refine (pe_var (X := X) (i := i) (by rw [C.hN]; exact h1) (by rw [C.scp]; exact vis_of h2) n1 n2).imp fun σ H Q h => ?_
  obtain ⟨F, ext, xv, env, st, hl, post⟩ := h
  simp only [ev] at post
  split at post
  · rename_i d o e
    cases o with
    | false =>
      obtain ⟨v, fp, a, b⟩ := sta_ix st hl e
      cases b with
      | fz b => exact ⟨v, a, post v F H (Same.refl F) (st.push b)⟩
    | true =>
      obtain ⟨F', v, s, a, b, c⟩ := sta_settle st hl e
      exact ⟨v, a, post v F' H s (c.push b)⟩
  · exact post.elim
theorem s_cst {d : D} {c : Const} {j : Nat} {pos : Pos} (h : mC d c = true) : PE X (.Constant c j pos) ((TEv X.K M Γ call) (.cst d)) := by
  have go : ∀ {v : V}, (∀ F, Rep X.K M F d v) → ∀ σ H Q, (TEv X.K M Γ call) (.cst d) σ H Q → tC v σ H Q := fun {v} r σ H Q h => by
    obtain ⟨F, ext, xv, env, st, hl, post⟩ := h
    simp only [ev] at post
    exact post v F H (Same.refl F) (st.push (r F))
  cases d <;> cases c <;> simp only [mC, reduceCtorEq, Bool.false_eq_true] at h
  · exact pe_non.imp (go fun F => .non)
  · rename_i a b
    have e : a = b := by simpa using h
    subst e
    exact pe_bl.imp (go fun F => .bl _)
  · have e := of_decide_eq_true h
    subst e
    exact pe_int.imp (go fun F => .int _)
  · have e := of_decide_eq_true h
    subst e
    exact pe_str.imp (go fun F => .str _)
theorem s_glb (C : XC X M T L Γ call N sc so k) {g : Nat} {pos : Pos} (h2 : glB sc (T.gN g) = true) (h3 : nmOk (T.gN g) = true) (h4 : g ∈ T.gs) : PE X (.Name (T.gN g) pos) ((TEv X.K M Γ call) (.glb g)) := by
  obtain ⟨n1, n2, _⟩ := nmOk_of h3
  cases e : Γ.glb g with
  | none =>
    refine ⟨fun pins s σ H Q I h => ?_⟩
    obtain ⟨F, ext, xv, env, st, hl, post⟩ := h
    simp only [ev, e] at post
    exact post.elim
  | some d =>
    obtain ⟨u, v, hu, r, hr⟩ := C.top.glb g h4 d e
    refine (pe_glob (gl_of (by rw [C.scp]; exact h2)) hu r n1).imp fun σ H Q h => ?_
    obtain ⟨F, ext, xv, env, st, hl, post⟩ := h
    simp only [ev, e] at post
    exact post v F H (Same.refl F) (st.push (hr F))
theorem s_bin (C : XC X M T L Γ call N sc so k) {op : BOp} {a b : E} {x y : Expr} {pos : Pos} (ha : PE X x ((TEv X.K M Γ call) a)) (hb : PE X y ((TEv X.K M Γ call) b)) : PE X (.BinOp x (bop op) y pos) ((TEv X.K M Γ call) (.bin op a b)) := by
  refine (pe_op (op_binX op) ha hb).imp fun σ H Q h => ?_
  obtain ⟨F, ext, xv, env, st, hl, post⟩ := h
  simp only [ev] at post
  obtain ⟨p, e1, h1, post⟩ := post_bind post
  obtain ⟨q, e2, h2, post⟩ := post_bind post
  obtain ⟨z, h3, post⟩ := post_lift post
  refine T_sub st hl h1 fun v F1 H1 s1 r1 st1 => T_sub st1 hl h2 fun w F2 H2 s2 r2 st2 => ?_
  exact bin_okX st2 (r1.mono s2) r2 h3 fun u F3 H3 s3 st3 => post u F3 H3 ((s1.trans s2).trans s3) st3
theorem s_neg (C : XC X M T L Γ call N sc so k) {a : E} {x : Expr} {pos : Pos} (ha : PE X x ((TEv X.K M Γ call) a)) : PE X (.UnaryOp .USub x pos) ((TEv X.K M Γ call) (.neg a)) := by
  refine (pe_un un_neg ha).imp fun σ H Q h => ?_
  obtain ⟨F, ext, xv, env, st, hl, post⟩ := h
  simp only [ev] at post
  obtain ⟨p, e1, h1, post⟩ := post_bind post
  refine T_sub st hl h1 fun v F1 H1 s1 r1 st1 => ?_
  obtain ⟨d, o⟩ := p
  cases d <;> simp only at post r1 <;> try exact post.elim
  cases rep_int r1
  exact ⟨_, rfl, post _ F1 H1 s1 (st1.push (.int _))⟩
theorem cline (C : XC X M T L Γ call N sc so k) : X.A.units + 65 < cLine := by
  have h := C.room.un
  omega
end
end PL
/-! PLSnd2: comparisons, tests, displays, subscripts. -/
namespace PL
open PySem PySem.Spec PyProof.Rows L2
theorem cmD_nodic {op : COp} {x y : D} {b : Bool} (h : cmD op x y = some b) : isDic y = false := by
  cases y <;> first | rfl | skip
  cases op <;> cases x <;> simp [cmD, Dpk] at h
theorem rdv_of {i : Nat} {env : PL.Fm} {d : D} (h : rdv i env = some d) : (∃ o, env[i]? = some (some (d, o))) ∧ ∀ c fs vs, d ≠ .ins c fs vs := by
  unfold rdv at h
  split at h
  · cases h
  · rename_i d' o hn e
    cases h
    exact ⟨⟨o, e⟩, fun c fs vs q => hn c fs vs q⟩
  · cases h
section
variable {K : PySem.W.Frag} {M : Nm} {F H : Hp} {ext : List Sl} {xv : List (Option V)} {σ : L2.St} {env : PL.Fm}
theorem rdv_at {i : Nat} {d : D} (st : Sta K M F H (ext ++ env) (xv ++ σ)) (hl : ext.length = xv.length) (h : rdv i env = some d) : ∃ v, σ[i]? = some (some v) ∧ Pk K M F H d v := by
  obtain ⟨⟨o, e⟩, hi⟩ := rdv_of h
  obtain ⟨v, fp, a, b⟩ := sta_ix st hl e
  exact ⟨v, a, pk_of b hi⟩
end
theorem lift_of {α β : Type} {o : Option α} {f : α → β} {z : β} {e e' : PL.Fm} (h : (Res.lift (o.map f) e) = .ok z e') : ∃ a, o = some a ∧ z = f a ∧ e' = e := by
  cases o with
  | none => cases h
  | some a =>
    cases h
    exact ⟨a, rfl, rfl, rfl⟩
theorem lift_ok {α : Type} {o : Option α} {a : α} {e e' : PL.Fm} (h : Res.lift o e = .ok a e') : o = some a ∧ e' = e := by
  cases o with
  | none => cases h
  | some a =>
    cases h
    exact ⟨rfl, rfl⟩
section
variable {X : Cx} {M : Nm} {T : Ns} {L : Lk} {Γ : Ctx} {call : Nat → List (D × Bool) → CRes} {N : List Str} {sc so : Scope} {k : Nat}

/-- what a comparison of two parts asks -/
theorem cmp_in {op : COp} {a b : E} {σ : L2.St} {H : Hp} {Q : VK} (h : (TEv X.K M Γ call) (.cmp op a b) σ H Q) : tOp (rC X.K op) ((TEv X.K M Γ call) a) ((TEv X.K M Γ call) b) σ H Q := by
  obtain ⟨F, ext, xv, env, st, hl, post⟩ := h
  simp only [ev] at post
  obtain ⟨p, e1, h1, post⟩ := post_bind post
  obtain ⟨q, e2, h2, post⟩ := post_bind post
  obtain ⟨z, h3, post⟩ := post_lift post
  cases h4 : cmD op p.1 q.1 with
  | none =>
    rw [h4] at h3
    cases h3
  | some c =>
    rw [h4] at h3
    cases h3
    refine T_sub st hl h1 fun v F1 H1 s1 r1 st1 => T_sub st1 hl h2 fun w F2 H2 s2 r2 st2 => ?_
    exact cmp_ok st2.same (.rep (r1.mono s2)) r2 h4 (cmD_nodic h4) (post _ F2 H2 (s1.trans s2) (st2.push (.bl _)))
theorem cmpv_in {op : COp} {i : Nat} {b : E} {σ : L2.St} {H : Hp} {Q : VK} (h : (TEv X.K M Γ call) (.cmpv op i b) σ H Q) : tOp (rC X.K op) (tVar i) ((TEv X.K M Γ call) b) σ H Q := by
  obtain ⟨F, ext, xv, env, st, hl, post⟩ := h
  simp only [ev] at post
  obtain ⟨d0, e1, h1, post1⟩ := post_bind post
  obtain ⟨h1, rfl⟩ := lift_ok h1
  obtain ⟨v, hv, _⟩ := rdv_at st hl h1
  obtain ⟨q, e2, h2, post⟩ := post_bind post1
  obtain ⟨z, h3, post⟩ := post_lift post
  cases h5 : rdv i e2 with
  | none =>
    rw [h5] at h3
    cases h3
  | some d =>
    rw [h5] at h3
    simp only [Option.bind_some] at h3
    cases h4 : cmD op d q.1 with
    | none =>
      rw [h4] at h3
      cases h3
    | some c =>
      rw [h4] at h3
      cases h3
      refine ⟨v, hv, T_sub st hl h2 fun w F2 H2 s2 r2 st2 => ?_⟩
      obtain ⟨v', hv', pk⟩ := rdv_at st2 hl h5
      rw [hv] at hv'
      cases hv'
      exact cmp_ok st2.same pk r2 h4 (cmD_nodic h4) (post _ F2 H2 s2 (st2.push (.bl _)))
theorem s_cmp (C : XC X M T L Γ call N sc so k) {op : COp} {a b : E} {x y : Expr} {pos : Pos} (ha : PE X x ((TEv X.K M Γ call) a)) (hb : PE X y ((TEv X.K M Γ call) b)) (hp : plain y = true) : PE X (.Compare x [cop op] [y] pos) ((TEv X.K M Γ call) (.cmp op a b)) :=
  (pe_cmpR (op_cop (cline C) op) ha hb (plain_marks hp)).imp fun _ _ _ h => cmp_in h
theorem s_pv (C : XC X M T L Γ call N sc so k) {i : Nat} {x : Str} {pos : Pos} (h1 : N[i]? = some x) (h2 : visB sc x = true) (h3 : nmOk x = true) : PE X (.Name x pos) (tVar i) := by
  obtain ⟨n1, n2, _⟩ := nmOk_of h3
  exact pe_var (X := X) (i := i) (by rw [C.hN]; exact h1) (by rw [C.scp]; exact vis_of h2) n1 n2
theorem s_cmpv (C : XC X M T L Γ call N sc so k) {op : COp} {i : Nat} {b : E} {x : Str} {y : Expr} {p pos : Pos} (h1 : N[i]? = some x) (h2 : visB sc x = true) (h3 : nmOk x = true) (hb : PE X y ((TEv X.K M Γ call) b)) (hp : plain y = true) :
    PE X (.Compare (.Name x p) [cop op] [y] pos) ((TEv X.K M Γ call) (.cmpv op i b)) :=
  (pe_cmpR (op_cop (cline C) op) (s_pv C h1 h2 h3) hb (plain_marks hp)).imp fun _ _ _ h => cmpv_in h
/-- as tests -/
theorem test_of {e : E} {σ : L2.St} {H : Hp} {Q : Bool → Hp → Prop} (h : (TTt X.K M Γ call) e σ H Q) : (TEv X.K M Γ call) e σ H fun x H' => ∃ k, x = .bl k ∧ Q k H' := by
  obtain ⟨F, ext, xv, env, st, hl, post⟩ := h
  refine ⟨F, ext, xv, env, st, hl, ?_⟩
  unfold PostT at post
  split at post
  · rename_i b o e' he
    rw [he]
    intro v F' H' s st'
    obtain ⟨fp, r⟩ := st'.head
    have : v = .bl b := by
      cases r with
      | fz r => exact rep_bl r
    subst this
    exact ⟨b, rfl, post F' H' s st'.drop⟩
  · exact post.elim
theorem t_cmp (C : XC X M T L Γ call N sc so k) {op : COp} {a b : E} {x y : Expr} {pos : Pos} (ha : PE X x ((TEv X.K M Γ call) a)) (hb : PE X y ((TEv X.K M Γ call) b)) (hp : plain y = true) : PT X (.Compare x [cop op] [y] pos) ((TTt X.K M Γ call) (.cmp op a b)) :=
  (pt_cmpR (op_cop (cline C) op) ha hb (plain_marks hp)).imp fun _ _ _ h => cmp_in (test_of h)
theorem t_cmpv (C : XC X M T L Γ call N sc so k) {op : COp} {i : Nat} {b : E} {x : Str} {y : Expr} {p pos : Pos} (h1 : N[i]? = some x) (h2 : visB sc x = true) (h3 : nmOk x = true) (hb : PE X y ((TEv X.K M Γ call) b)) (hp : plain y = true) :
    PT X (.Compare (.Name x p) [cop op] [y] pos) ((TTt X.K M Γ call) (.cmpv op i b)) :=
  (pt_cmpR (op_cop (cline C) op) (s_pv C h1 h2 h3) hb (plain_marks hp)).imp fun _ _ _ h => cmpv_in (test_of h)
theorem t_val {e : E} {x : Expr} (ha : PE X x ((TEv X.K M Γ call) e)) (he : ∀ whole, isTrue x X.env whole = (do let v ← whole; standAt x.pos; holding [v] (truthy v))) : PT X x ((TTt X.K M Γ call) e) :=
  (pt_val ha he).imp fun _ _ _ h => test_of h

theorem chn_in {o p : COp} {a b c : E} {σ : L2.St} {H : Hp} {Q : VK} (h : (TEv X.K M Γ call) (.chn o p a b c) σ H Q) : tChain (rC X.K o) (rC X.K p) ((TEv X.K M Γ call) a) ((TEv X.K M Γ call) b) ((TEv X.K M Γ call) c) σ H Q := by
  obtain ⟨F, ext, xv, env, st, hl, post⟩ := h
  simp only [ev] at post
  obtain ⟨x, e1, h1, post⟩ := post_bind post
  obtain ⟨y, e2, h2, post⟩ := post_bind post
  refine T_sub st hl h1 fun v F1 H1 s1 r1 st1 => T_sub st1 hl h2 fun w F2 H2 s2 r2 st2 => ?_
  cases h4 : cmD o x.1 y.1 with
  | none =>
    rw [h4] at post
    exact post.elim
  | some t =>
    rw [h4] at post
    refine cmp_ok st2.same (.rep (r1.mono s2)) r2 h4 (cmD_nodic h4) ⟨t, rfl, ?_⟩
    cases t with
    | false =>
      rw [if_neg Bool.false_ne_true]
      exact post _ F2 H2 (s1.trans s2) (st2.push (.bl _))
    | true =>
      rw [if_pos rfl]
      simp only at post
      obtain ⟨z, e3, h5, post⟩ := post_bind post
      obtain ⟨zz, h3, post⟩ := post_lift post
      cases h6 : cmD p y.1 z.1 with
      | none =>
        rw [h6] at h3
        cases h3
      | some t2 =>
        rw [h6] at h3
        cases h3
        refine T_sub st2 hl h5 fun u F3 H3 s3 r3 st3 => ?_
        exact cmp_ok st3.same (.rep (r2.mono s3)) r3 h6 (cmD_nodic h6) (post _ F3 H3 ((s1.trans s2).trans s3) (st3.push (.bl _)))
theorem s_chn (C : XC X M T L Γ call N sc so k) {o p : COp} {a b c : E} {x y z : Expr} {pos : Pos} (ha : PE X x ((TEv X.K M Γ call) a)) (hb : PE X y ((TEv X.K M Γ call) b)) (hc : PE X z ((TEv X.K M Γ call) c)) (hp : plain z = true) :
    PE X (.Compare x [cop o, cop p] [y, z] pos) ((TEv X.K M Γ call) (.chn o p a b c)) :=
  (pe_chain (op_cop (cline C) o) (op_cop (cline C) p) ha hb hc (plain_marks hp)).imp fun _ _ _ h => chn_in h
theorem t_chn (C : XC X M T L Γ call N sc so k) {o p : COp} {a b c : E} {x y z : Expr} {pos : Pos} (ha : PE X x ((TEv X.K M Γ call) a)) (hb : PE X y ((TEv X.K M Γ call) b)) (hc : PE X z ((TEv X.K M Γ call) c)) (hp : plain z = true) :
    PT X (.Compare x [cop o, cop p] [y, z] pos) ((TTt X.K M Γ call) (.chn o p a b c)) :=
  (pt_chain (op_cop (cline C) o) (op_cop (cline C) p) ha hb hc (plain_marks hp)).imp fun _ _ _ h => chn_in (test_of h)

/-- from a later state of what is settled -/
theorem postT_mono {K : PySem.W.Frag} {F F1 : Hp} {ext : List Sl} {xv : List (Option V)} {σ : L2.St} {r : Res (D × Bool)} {Q : Bool → Hp → Prop} (s : Same F F1) (h : PostT K M F ext xv σ r Q) : PostT K M F1 ext xv σ r Q := by
  unfold PostT at h ⊢
  split at h
  · exact fun F' H' s' st' => h F' H' (s.trans s') st'
  · exact h.elim
theorem postE_mono {K : PySem.W.Frag} {F F1 : Hp} {ext : List Sl} {xv : List (Option V)} {σ : L2.St} {r : Res (D × Bool)} {Q : VK} (s : Same F F1) (h : PostE K M F ext xv σ r Q) : PostE K M F1 ext xv σ r Q := by
  unfold PostE at h ⊢
  split at h
  · exact fun v F' H' s' st' => h v F' H' (s.trans s') st'
  · exact h.elim
/-! ### and, or, not, if .. else -/
theorem and_in {a b : E} {σ : L2.St} {H : Hp} {Q : VK} (h : (TEv X.K M Γ call) (.and a b) σ H Q) : tAndV ((TEv X.K M Γ call) a) ((TEv X.K M Γ call) b) σ H Q := by
  obtain ⟨F, ext, xv, env, st, hl, post⟩ := h
  simp only [ev] at post
  obtain ⟨x, e1, h1, post⟩ := post_bind post
  refine T_sub st hl h1 fun v F1 H1 s1 r1 st1 => ?_
  obtain ⟨d, o⟩ := x
  cases d <;> simp only at post r1 <;> try exact post.elim
  rename_i c
  cases rep_bl r1
  refine ⟨c, rfl, ?_⟩
  cases c with
  | false =>
    rw [if_neg Bool.false_ne_true]
    exact post _ F1 H1 s1 (st1.push (.bl _))
  | true =>
    rw [if_pos rfl]
    exact ⟨F1, ext, xv, e1, st1, hl, postE_mono s1 post⟩
theorem or_in {a b : E} {σ : L2.St} {H : Hp} {Q : VK} (h : (TEv X.K M Γ call) (.or a b) σ H Q) : tOrV ((TEv X.K M Γ call) a) ((TEv X.K M Γ call) b) σ H Q := by
  obtain ⟨F, ext, xv, env, st, hl, post⟩ := h
  simp only [ev] at post
  obtain ⟨x, e1, h1, post⟩ := post_bind post
  refine T_sub st hl h1 fun v F1 H1 s1 r1 st1 => ?_
  obtain ⟨d, o⟩ := x
  cases d <;> simp only at post r1 <;> try exact post.elim
  rename_i c
  cases rep_bl r1
  refine ⟨c, rfl, ?_⟩
  cases c with
  | true =>
    rw [if_pos rfl]
    exact post _ F1 H1 s1 (st1.push (.bl _))
  | false =>
    rw [if_neg Bool.false_ne_true]
    exact ⟨F1, ext, xv, e1, st1, hl, postE_mono s1 post⟩
theorem andT_in {a b : E} {σ : L2.St} {H : Hp} {Q : Bool → Hp → Prop} (h : (TTt X.K M Γ call) (.and a b) σ H Q) : tAnd ((TTt X.K M Γ call) a) ((TTt X.K M Γ call) b) σ H Q := by
  obtain ⟨F, ext, xv, env, st, hl, post⟩ := h
  simp only [ev] at post
  obtain ⟨x, e1, h1, post⟩ := postT_bind post
  obtain ⟨d, o⟩ := x
  cases d <;> simp only at post <;> try exact post.elim
  rename_i c
  refine Tt_sub st hl h1 fun F1 H1 s1 st1 => ?_
  cases c with
  | false =>
    rw [if_neg Bool.false_ne_true]
    exact post F1 H1 s1 st1
  | true =>
    rw [if_pos rfl]
    exact ⟨F1, ext, xv, e1, st1, hl, postT_mono s1 post⟩
theorem orT_in {a b : E} {σ : L2.St} {H : Hp} {Q : Bool → Hp → Prop} (h : (TTt X.K M Γ call) (.or a b) σ H Q) : tOr ((TTt X.K M Γ call) a) ((TTt X.K M Γ call) b) σ H Q := by
  obtain ⟨F, ext, xv, env, st, hl, post⟩ := h
  simp only [ev] at post
  obtain ⟨x, e1, h1, post⟩ := postT_bind post
  obtain ⟨d, o⟩ := x
  cases d <;> simp only at post <;> try exact post.elim
  rename_i c
  refine Tt_sub st hl h1 fun F1 H1 s1 st1 => ?_
  cases c with
  | true =>
    rw [if_pos rfl]
    exact post F1 H1 s1 st1
  | false =>
    rw [if_neg Bool.false_ne_true]
    exact ⟨F1, ext, xv, e1, st1, hl, postT_mono s1 post⟩
theorem not_in {a : E} {σ : L2.St} {H : Hp} {Q : VK} (h : (TEv X.K M Γ call) (.not a) σ H Q) : tNotV ((TEv X.K M Γ call) a) σ H Q := by
  obtain ⟨F, ext, xv, env, st, hl, post⟩ := h
  simp only [ev] at post
  obtain ⟨x, e1, h1, post⟩ := post_bind post
  refine T_sub st hl h1 fun v F1 H1 s1 r1 st1 => ?_
  obtain ⟨d, o⟩ := x
  cases d <;> simp only at post r1 <;> try exact post.elim
  cases rep_bl r1
  exact ⟨_, rfl, post _ F1 H1 s1 (st1.push (.bl _))⟩
theorem notT_in {a : E} {σ : L2.St} {H : Hp} {Q : Bool → Hp → Prop} (h : (TTt X.K M Γ call) (.not a) σ H Q) : tNot ((TTt X.K M Γ call) a) σ H Q := by
  obtain ⟨F, ext, xv, env, st, hl, post⟩ := h
  simp only [ev] at post
  obtain ⟨x, e1, h1, post⟩ := postT_bind post
  obtain ⟨d, o⟩ := x
  cases d <;> simp only at post <;> try exact post.elim
  exact Tt_sub st hl h1 fun F1 H1 s1 st1 => post F1 H1 s1 st1
theorem ifx_in {c a b : E} {σ : L2.St} {H : Hp} {Q : VK} (h : (TEv X.K M Γ call) (.ifx c a b) σ H Q) : tIf ((TTt X.K M Γ call) c) ((TEv X.K M Γ call) a) ((TEv X.K M Γ call) b) σ H Q := by
  obtain ⟨F, ext, xv, env, st, hl, post⟩ := h
  simp only [ev] at post
  obtain ⟨x, e1, h1, post⟩ := post_bind post
  obtain ⟨d, o⟩ := x
  cases d <;> simp only at post <;> try exact post.elim
  rename_i t
  refine Tt_sub st hl h1 fun F1 H1 s1 st1 => ?_
  cases t with
  | true =>
    rw [if_pos rfl]
    exact ⟨F1, ext, xv, e1, st1, hl, postE_mono s1 post⟩
  | false =>
    rw [if_neg Bool.false_ne_true]
    exact ⟨F1, ext, xv, e1, st1, hl, postE_mono s1 post⟩

/-! ### displays, subscripts -/
theorem s_nil : PA X [] ((TEs X.K M Γ call) .nil) := pa_nil.imp fun σ H Q h => by
  obtain ⟨F, ext, xv, env, st, hl, post⟩ := h
  simp only [evs] at post
  exact post [] F H (Same.refl F) .nil st
theorem s_cons {a : E} {r : Es} {x : Expr} {xs : List Expr} (ha : PE X x ((TEv X.K M Γ call) a)) (hr : PA X xs ((TEs X.K M Γ call) r)) (hp : plain x = true) : PA X (x :: xs) ((TEs X.K M Γ call) (.cons a r)) :=
  (pa_cons ha hr (plain_star hp)).imp fun σ H Q h => by
    obtain ⟨F, ext, xv, env, st, hl, post⟩ := h
    simp only [evs] at post
    obtain ⟨p, e1, h1, post⟩ := postA_bind post
    obtain ⟨ds, e2, h2, post⟩ := postA_bind post
    refine T_sub st hl h1 fun v F1 H1 s1 r1 st1 => Ts_sub st1 hl h2 fun vs F2 H2 s2 r2 st2 => ?_
    exact post _ F2 H2 (s1.trans s2) (.cons (r1.mono s2) r2) st2
theorem s_tup {es : Es} {xs : List Expr} {j : Nat} {pos : Pos} (h : PA X xs ((TEs X.K M Γ call) es)) : PE X (.Tuple xs j pos) ((TEv X.K M Γ call) (.tup es)) :=
  (pe_tup h).imp fun σ H Q h => by
    obtain ⟨F, ext, xv, env, st, hl, post⟩ := h
    simp only [ev] at post
    obtain ⟨ds, e1, h1, post⟩ := post_bind post
    split at post
    · rename_i hz
      refine Ts_sub st hl h1 fun vs F1 H1 s1 r1 st1 => ?_
      have e := r1.len
      exact ⟨lim_le (by omega), aft_tup st1 r1 (by omega) fun u F' H' s st' => post u F' H' (s1.trans s) st'⟩
    · exact post.elim
theorem s_lst {es : Es} {xs : List Expr} {pos : Pos} (h : PA X xs ((TEs X.K M Γ call) es)) : PE X (.List xs pos) ((TEv X.K M Γ call) (.lst es)) :=
  (pe_lst h).imp fun σ H Q h => by
    obtain ⟨F, ext, xv, env, st, hl, post⟩ := h
    simp only [ev] at post
    obtain ⟨ds, e1, h1, post⟩ := post_bind post
    split at post
    · rename_i hz
      refine Ts_sub st hl h1 fun vs F1 H1 s1 r1 st1 => ?_
      have e := r1.len
      exact ⟨lim_le (by omega), aft_lst st1 r1 (by omega) fun u F' H' s st' => post u F' H' (s1.trans s) st'⟩
    · exact post.elim
theorem s_idx {a i : E} {x y : Expr} {pos : Pos} (ha : PE X x ((TEv X.K M Γ call) a)) (hi : PE X y ((TEv X.K M Γ call) i)) (hp : plain y = true) : PE X (.Subscript x y pos) ((TEv X.K M Γ call) (.idx a i)) :=
  (pe_ix ix_seq ha hi (plain_ix hp)).imp fun σ H Q h => by
    obtain ⟨F, ext, xv, env, st, hl, post⟩ := h
    simp only [ev] at post
    obtain ⟨p, e1, h1, post⟩ := post_bind post
    obtain ⟨q, e2, h2, post⟩ := post_bind post
    obtain ⟨z, h3, post⟩ := post_lift post
    cases h4 : ixD p.1 q.1 with
    | none =>
      rw [h4] at h3
      cases h3
    | some c =>
      rw [h4] at h3
      cases h3
      refine T_sub st hl h1 fun v F1 H1 s1 r1 st1 => T_sub st1 hl h2 fun w F2 H2 s2 r2 st2 => ?_
      exact ix_ok st2.same (.rep (r1.mono s2)) r2 h4 fun u ru => post u F2 H2 (s1.trans s2) (st2.push ru)
theorem s_idxv (C : XC X M T L Γ call N sc so k) {i : E} {v : Nat} {x : Str} {y : Expr} {p pos : Pos} (h1 : N[v]? = some x) (h2 : visB sc x = true) (h3 : nmOk x = true) (hi : PE X y ((TEv X.K M Γ call) i)) (hp : plain y = true) : PE X (.Subscript (.Name x p) y pos) ((TEv X.K M Γ call) (.idxv v i)) :=
  (pe_ix ix_seq (s_pv C h1 h2 h3) hi (plain_ix hp)).imp fun σ H Q h => by
    obtain ⟨F, ext, xv, env, st, hl, post⟩ := h
    simp only [ev] at post
    obtain ⟨d0, e1, h1, post1⟩ := post_bind post
    obtain ⟨h1, rfl⟩ := lift_ok h1
    obtain ⟨w, hv, _⟩ := rdv_at st hl h1
    obtain ⟨q, e2, h2, post⟩ := post_bind post1
    obtain ⟨z, h3, post⟩ := post_lift post
    cases h5 : rdv v e2 with
    | none =>
      rw [h5] at h3
      cases h3
    | some d =>
      rw [h5] at h3
      simp only [Option.bind_some] at h3
      cases h4 : ixD d q.1 with
      | none =>
        rw [h4] at h3
        cases h3
      | some c =>
        rw [h4] at h3
        cases h3
        refine ⟨w, hv, T_sub st hl h2 fun w' F2 H2 s2 r2 st2 => ?_⟩
        obtain ⟨v', hv', pk⟩ := rdv_at st2 hl h5
        rw [hv] at hv'
        cases hv'
        exact ix_ok st2.same pk r2 h4 fun u ru => post u F2 H2 s2 (st2.push ru)
theorem s_onone : PO X none ((TOo X.K M Γ call) .none) := po_none.imp fun σ H Q h => by
  obtain ⟨F, ext, xv, env, st, hl, post⟩ := h
  simp only [evo] at post
  exact post F H (Same.refl F) st
theorem s_osome {a : E} {x : Expr} (h : PE X x ((TEv X.K M Γ call) a)) : PO X (some x) ((TOo X.K M Γ call) (.some a)) := (po_some h).imp fun σ H Q h => by
  obtain ⟨F, ext, xv, env, st, hl, post⟩ := h
  simp only [evo] at post
  obtain ⟨p, e1, h1, post⟩ := postO_bind post
  refine T_sub st hl h1 fun v F1 H1 s1 r1 st1 => ?_
  obtain ⟨d, o⟩ := p
  cases d <;> simp only at post r1 <;> try exact post.elim
  cases rep_int r1
  exact ⟨_, rfl, post F1 H1 s1 st1⟩
theorem s_slc {a : E} {lo hi : O} {x : Expr} {l h : Option Expr} {p2 pos : Pos} (ha : PE X x ((TEv X.K M Γ call) a)) (hl : PO X l ((TOo X.K M Γ call) lo)) (hh : PO X h ((TOo X.K M Γ call) hi)) : PE X (.Subscript x (.Slice l h none p2) pos) ((TEv X.K M Γ call) (.slc a lo hi)) :=
  (pe_slice (sl_list.or sl_tupA) ha hl hh).imp fun σ H Q h => by
    obtain ⟨F, ext, xv, env, st, hl, post⟩ := h
    simp only [ev] at post
    obtain ⟨p, e1, h1, post⟩ := post_bind post
    obtain ⟨l, e2, h2, post⟩ := post_bind post
    obtain ⟨u, e3, h3, post⟩ := post_bind post
    obtain ⟨z, h4, post⟩ := post_lift post
    refine T_sub st hl h1 fun v F1 H1 s1 r1 st1 => To_sub st1 hl h2 fun F2 H2 s2 st2 => To_sub st2 hl h3 fun F3 H3 s3 st3 => ?_
    exact sl_ok st3 (r1.mono (s2.trans s3)) h4 fun u F' H' s st' => post u F' H' (((s1.trans s2).trans s3).trans s) st'
end
end PL
/-! PLSnd3: calls. -/
namespace PL
open PySem PySem.Spec PyProof.Rows L2

def tyS : Ty → String
  | .int => "int" | .bool => "bool" | .str => "str" | .tuple => "tuple" | .list => "list"
def nmD : D → String
  | .non => "NoneType" | .bl _ => "bool" | .int _ => "int" | .str _ => "str" | .tup _ => "tuple" | .lst _ => "list" | _ => ""
theorem boot_ty : ∀ t, bootBuiltins (tyN t) = some (.type (tyS t)) := by
  intro t
  cases t <;> decide +kernel
theorem kit_D {d : D} {l : List Ty} (h : tyD d = some l) (t : Ty) : kitB (nmD d) (tyS t) = some (l.contains t) := by
  cases d <;> simp only [tyD, reduceCtorEq, Option.some.injEq] at h
  all_goals
    subst h
    cases t <;> simp only [nmD, tyS] <;> decide +kernel
section
variable {K : PySem.W.Frag} {M : Nm} {F H : Hp}
theorem tyX_of (e : Same F H) {d : D} {v : V} {l : List Ty} (h : tyD d = some l) (r : Rep K M F d v) : TyX K H v (.type (nmD d)) := by
  cases r <;> simp only [tyD, reduceCtorEq] at h
  · exact .base .non
  · exact .base (.bl _)
  · exact .base (.int _)
  · exact .base (.str _)
  · rename_i a l vs ht z r
    rcases ht with (ht | ⟨o, ht⟩) | ⟨o, its, n, hk, hc, _⟩
    · exact .base (.tup (e _ _ ht))
    · exact .fTuple (e _ _ ht)
    · exact .kTuple hk hc
  · exact .base (.lst (e _ _ (by assumption)))
theorem kit_any (K : PySem.W.Frag) {d : D} {l : List Ty} (h : tyD d = some l) : ∀ ts : List Ty, PySem.W.kitAny K (.type (nmD d)) (ts.map fun t => .type (tyS t)) = some (ts.any fun t => l.contains t)
  | [] => kitAny_nil
  | t :: ts => by
    refine kitAny_cons (kit_ty (kit_D h t)) (fun e => ?_) fun e => ?_
    · rw [List.any_cons, e, Bool.false_or]
      exact kit_any K h ts
    · rw [List.any_cons, e, Bool.true_or]
end
section
variable {X : Cx} {M : Nm} {T : Ns} {L : Lk} {Γ : Ctx} {call : Nat → List (D × Bool) → CRes} {N : List Str} {sc so : Scope} {k : Nat}

theorem s_ty (C : XC X M T L Γ call N sc so k) {t : Ty} {x : Str} {p : Pos} (h : x = tyN t) (hg : glB sc x = true) : PE X (.Name x p) (tC (.ty (tyS t))) := by
  subst h
  exact pe_bltn (gl_of (by rw [C.scp]; exact hg)) (C.top.ty t) (boot_ty t) rfl (by cases t <;> decide) (by cases t <;> decide)
theorem s_tys (C : XC X M T L Γ call N sc so k) : ∀ {ts : List Ty} {xs : List Expr}, mTy sc ts xs = true → PA X xs (fun σ H Q => Q (ts.map fun t => V.ty (tyS t)) H) ∧ xs.all plain = true
  | [], [], _ => ⟨pa_nil.imp fun σ H Q h => h, rfl⟩
  | t :: ts, x :: xs, h => by
    cases x with
    | Name x p =>
      simp only [mTy, Bool.and_eq_true] at h
      obtain ⟨a, b⟩ := s_tys C h.2
      refine ⟨(pa_cons (s_ty C (of_decide_eq_true h.1.1) h.1.2) a (plain_star rfl)).imp fun σ H Q q => q, ?_⟩
      simp only [List.all_cons, b, Bool.and_true]
      rfl
    | _ => simp [mTy] at h
  | [], _ :: _, h => by simp [mTy] at h
  | _ :: _, [], h => by simp [mTy] at h
theorem isi_in {a : E} {ts : List Ty} {σ : L2.St} {H : Hp} {Q : VK} {R : V → Hp → Prop} (h : (TEv X.K M Γ call) (.isI a ts) σ H Q)
    (q2 : ∀ v F H' d l (es : List Sl) (vs : List (Option V)), Sta X.K M F H' es vs → tyD d = some l → Rep X.K M F d v → (∀ F'' H'', Same F F'' → Sta X.K M F'' H'' es vs → Q (.bl (ts.any fun t => l.contains t)) H'') → R v H') : (TEv X.K M Γ call) a σ H R := by
  obtain ⟨F, ext, xv, env, st, hl, post⟩ := h
  simp only [ev] at post
  obtain ⟨p, e1, h1, post⟩ := post_bind post
  obtain ⟨z, h3, post⟩ := post_lift post
  refine T_sub st hl h1 fun v F1 H1 s1 r1 st1 => ?_
  cases h4 : tyD p.1 with
  | none =>
    rw [h4] at h3
    cases h3
  | some l =>
    rw [h4] at h3
    cases h3
    exact q2 v F1 H1 p.1 l _ _ st1 h4 r1 fun F2 H2 s2 st2 => post _ F2 H2 (s1.trans s2) (st2.push (.bl _))
theorem s_isi1 (C : XC X M T L Γ call N sc so k) {a : E} {t : Ty} {x : Expr} {y : Str} {p q pos : Pos} (hg : glB sc "isinstance" = true) (ha : PE X x ((TEv X.K M Γ call) a)) (hp : plain x = true) (hy : y = tyN t) (hgy : glB sc y = true) :
    PE X (.Call (.Name "isinstance" p) [x, .Name y q] [] pos) ((TEv X.K M Γ call) (.isI a [t])) := by
  refine (pe_callB call_isi (gl_of (by rw [C.scp]; exact hg)) C.top.isi (by decide +kernel) (pa_cons ha (pa_cons (s_ty C hy hgy) pa_nil (plain_star rfl)) (plain_star hp)) (by decide) (by decide) (plain_star hp) (stars_none rfl)).imp fun σ H Q h => ?_
  refine isi_in h fun v F' H' d l es vs st e r k => ?_
  refine ⟨v, .ty (tyS t), _, .type (tyS t), _, rfl, .ty _, tyX_of st.same e r, kit_ty (kit_D e t), ?_⟩
  simpa using k F' H' (Same.refl _) st
theorem cls_tys : ∀ ts : List Ty, Paired ClsV (ts.map fun t => V.ty (tyS t)) (ts.map fun t => Value.type (tyS t))
  | [] => .nil
  | _ :: ts => .cons (.ty _) (cls_tys ts)
theorem s_isiT (C : XC X M T L Γ call N sc so k) {a : E} {ts : List Ty} {x : Expr} {ys : List Expr} {j : Nat} {p q pos : Pos} (hg : glB sc "isinstance" = true) (ha : PE X x ((TEv X.K M Γ call) a)) (hp : plain x = true) (hy : mTy sc ts ys = true) (hz : ts.length ≤ 8) :
    PE X (.Call (.Name "isinstance" p) [x, .Tuple ys j q] [] pos) ((TEv X.K M Γ call) (.isI a ts)) := by
  obtain ⟨hys, hps⟩ := s_tys C hy
  refine (pe_callB call_isiT (gl_of (by rw [C.scp]; exact hg)) C.top.isi (by decide +kernel) (pa_cons ha (pa_cons (pe_tup hys) pa_nil (plain_star rfl)) (plain_star hp)) (by decide) (by decide) (plain_star hp) (stars_none rfl)).imp fun σ H Q h => ?_
  refine isi_in h fun v F' H' d l es vs st e r k => ?_
  · refine ⟨?_, fun tp htp => ?_⟩
    · rw [List.length_map]
      exact lim_le (Nat.le_trans hz (by decide))
    · have st' := st.new (ob := .tup (ts.map fun t => V.ty (tyS t))) htp
      have sf : Same F' (upd F' tp (.tup (ts.map fun t => V.ty (tyS t)))) := same_new (st.free htp)
      exact ⟨v, tp, _, _, _, _, rfl, upd_same, cls_tys ts, tyX_of st'.same e (r.mono sf), kit_any _ e ts, k _ _ sf st'⟩

/-! ### calls of built-in functions, of defs -/
theorem s_bi (C : XC X M T L Γ call N sc so k) {b : Bi} {es : Es} {x : Expr} {xs : List Expr} {p pos : Pos} (hb : okBi b = true) (hg : glB sc (nmBi b) = true) (ha : PA X (x :: xs) ((TEs X.K M Γ call) es)) (hp : (x :: xs).all plain = true) :
    PE X (.Call (.Name (nmBi b) p) (x :: xs) [] pos) ((TEv X.K M Γ call) (.bi b es)) := by
  have hp1 : plain x = true ∧ xs.all plain = true := by simpa using hp
  have hn : nmBi b ≠ "__name__" := by cases b <;> decide
  have hd : (nmBi b == ("__debug__" : Str)) = false := by cases b <;> decide
  have go : ∀ σ H Q, (TEv X.K M Γ call) (.bi b es) σ H Q → tCB (rBi X.K b) ((TEs X.K M Γ call) es) σ H Q := fun σ H Q h => by
    obtain ⟨F, ext, xv, env, st, hl, post⟩ := h
    simp only [ev] at post
    obtain ⟨ds, e1, h1, post⟩ := post_bind post
    obtain ⟨z, h2, post⟩ := post_lift post
    refine Ts_sub st hl h1 fun vs F1 H1 s1 r1 st1 => ?_
    exact bi_ok st1 r1 h2 hb fun u F' H' s st' => post u F' H' (s1.trans s) st'
  have hv := boot_bi b hb
  have hc := cr_bi C.calm b hb
  generalize hf : fvBi b = f at hv hc
  cases b <;> simp only [fvBi] at hf <;> subst hf <;> first
    | exact (pe_callB hc (gl_of (by rw [C.scp]; exact hg)) (C.top.bi _ hb) hv ha hn hd (plain_star hp1.1) (stars_none hp1.2)).imp go
    | exact (pe_callTy hc (gl_of (by rw [C.scp]; exact hg)) (C.top.bi _ hb) hv ha hn hd (plain_star hp1.1) (stars_none hp1.2)).imp go
    | (simp [okBi] at hb; done)
/-- what is behind a call of a def whose arguments are settled -/
theorem call_in {f n : Nat} {ds : List D} {vs : List V} {F H : Hp} {es : List Sl} {ws : List (Option V)} {Q : VK} {E : XK} (st : Sta X.K M F H es ws) (r : Reps X.K M F ds vs) (hn : ds.length = n)
    {rr : D × Bool} (h : call f (ds.map fun d => (d, false)) = .ret rr none) (post : ∀ v F' H', Same F F' → Sta X.K M F' H' (some rr :: es) (some v :: ws) → Q v H') : spF X.K M call f n vs H Q E := by
  refine ⟨by rw [← r.len]; exact hn, F, es, ws, ds.map fun d => (d, false), st.len, ?_, st.args r, ?_⟩
  · rw [List.length_map]
    exact hn
  · rw [h]
    exact post
theorem fn_in (C : XC X M T L Γ call N sc so k) {f : Nat} {es : Es} (hf : f ∈ T.fs) {dvs : List V} (hd : ∀ F, Reps X.K M F (Γ.dfl f) dvs) {σ : L2.St} {H : Hp} {Q : VK} {E : XK} (h : (TEv X.K M Γ call) (.fn f es) σ H Q) : tCall (spF X.K M call f (L.ps f).length) dvs E ((TEs X.K M Γ call) es) σ H Q := by
  obtain ⟨F, ext, xv, env, st, hl, post⟩ := h
  simp only [ev] at post
  obtain ⟨ds, e1, h1, post⟩ := post_bind post
  refine Ts_sub st hl h1 fun vs F1 H1 s1 r1 st1 => ?_
  split at post
  · rename_i r hr
    refine call_in st1 (r1.app (hd F1)) ?_ hr fun v F' H' s st' => post v F' H' (s1.trans s) st'
    have := C.ar f hf _ (by rw [hr]; exact fun z => nomatch z)
    rw [List.length_map] at this
    exact this
  · exact post.elim
  · exact post.elim
theorem nil_in {σ : L2.St} {H : Hp} {R : List V → Hp → Prop} (h : (TEs X.K M Γ call) .nil σ H R) : R [] H := by
  obtain ⟨F, ext, xv, env, st, hl, post⟩ := h
  simp only [evs] at post
  exact post [] F H (Same.refl F) .nil st
theorem s_fn (C : XC X M T L Γ call N sc so k) {f : Nat} {es : Es} {xs : List Expr} {p pos : Pos} (hg : glB sc (T.fN f) = true) (hn : nmOk (T.fN f) = true) (hf : f ∈ T.fs) (ha : PA X xs ((TEs X.K M Γ call) es)) (hp : xs.all plain = true) (hz : xs = [] → es = .nil) :
    PE X (.Call (.Name (T.fN f) p) xs [] pos) ((TEv X.K M Γ call) (.fn f es)) := by
  obtain ⟨h1, h2, dvs, ds, hb, hd, hr⟩ := C.top.fn f hf
  obtain ⟨n1, _, _⟩ := nmOk_of hn
  have hro : Room k X.A := C.room.mono (Nat.le_succ k)
  cases xs with
  | nil =>
    obtain rfl := hz rfl
    exact (pe_call0 (C.fns f hf) hro (gl_of (by rw [C.scp]; exact hg)) h1 h2 hb hd pass0 n1).imp fun σ H Q h => nil_in (fn_in (E := E0) C hf hr h)
  | cons x xs =>
    have hp1 : plain x = true ∧ xs.all plain = true := by simpa using hp
    exact (pe_call (C.fns f hf) hro (gl_of (by rw [C.scp]; exact hg)) h1 h2 hb hd pass0 ha n1 (plain_star hp1.1) (stars_none hp1.2)).imp fun σ H Q h => fn_in C hf hr h
theorem set_app {α : Type} {a b : List α} {i : Nat} {x : α} : (a ++ b).set (a.length + i) x = a ++ b.set i x := by
  rw [List.set_append_right _ _ (Nat.le_add_right _ _), Nat.add_sub_cancel_left]
/-- a frame's thing is taken out, and put back -/
theorem sta_out {K : PySem.W.Frag} {F H : Hp} {ext : List Sl} {xv : List (Option V)} {σ : L2.St} {env : PL.Fm} {i : Nat} {d : D} {o : Bool} (st : Sta K M F H (ext ++ env) (xv ++ σ)) (hl : ext.length = xv.length) (e : env[i]? = some (some (d, o))) :
    ∃ v, σ[i]? = some (some v) ∧ Sta K M F H (some (d, o) :: (ext ++ env.set i none)) (some v :: (xv ++ σ)) := by
  have e2 : (ext ++ env)[ext.length + i]? = some (some (d, o)) := by
    rw [List.getElem?_append_right (Nat.le_add_right _ _), Nat.add_sub_cancel_left]
    exact e
  obtain ⟨v, a, b⟩ := st.take e2
  rw [List.getElem?_append_right (by omega)] at a
  rw [set_app] at b
  refine ⟨v, ?_, b⟩
  rw [← a]
  congr 1
  omega
theorem sta_in {K : PySem.W.Frag} {F H : Hp} {ext : List Sl} {xv : List (Option V)} {σ : L2.St} {env : PL.Fm} {i : Nat} {d : D} {o : Bool} {v : V} (st : Sta K M F H (some (d, o) :: (ext ++ env)) (some v :: (xv ++ σ))) (hl : ext.length = xv.length) (hi : i < env.length) :
    Sta K M F H (ext ++ env.set i (some (d, o))) (xv ++ σ.set i (some v)) := by
  have q := st.put (i := ext.length + i) (by rw [List.length_append]; omega)
  rw [set_app, hl, set_app] at q
  exact q
theorem sta_in1 {K : PySem.W.Frag} {F H : Hp} {ext : List Sl} {xv : List (Option V)} {σ : L2.St} {env : PL.Fm} {i : Nat} {d : D} {o : Bool} {v : V} {r : D × Bool} {u : V} (st : Sta K M F H (some r :: some (d, o) :: (ext ++ env)) (some u :: some v :: (xv ++ σ))) (hl : ext.length = xv.length) (hi : i < env.length) :
    Sta K M F H (some r :: (ext ++ env.set i (some (d, o)))) (some u :: (xv ++ σ.set i (some v))) := by
  obtain ⟨r1, r2⟩ := r
  exact sta_in (ext := some (r1, r2) :: ext) (xv := some u :: xv) st.swap (by simp [hl]) hi
theorem s_fnv (C : XC X M T L Γ call N sc so k) {f v : Nat} {es : Es} {x : Str} {xs : List Expr} {p q pos : Pos} (hg : glB sc (T.fN f) = true) (hn : nmOk (T.fN f) = true) (hf : f ∈ T.fs) (h1 : N[v]? = some x) (h2 : visB sc x = true) (h3 : nmOk x = true)
    (ha : PA X xs ((TEs X.K M Γ call) es)) (hp : xs.all plain = true) : PE X (.Call (.Name (T.fN f) p) (.Name x q :: xs) [] pos) ((TEv X.K M Γ call) (.fnv f v es)) := by
  obtain ⟨g1, g2, dvs, ds, hb, hd, hr⟩ := C.top.fn f hf
  obtain ⟨n1, _, _⟩ := nmOk_of hn
  have hro : Room k X.A := C.room.mono (Nat.le_succ k)
  refine (pe_call (C.fns f hf) hro (gl_of (by rw [C.scp]; exact hg)) g1 g2 hb hd pass0 (pa_cons (s_pv C h1 h2 h3) ha (plain_star rfl)) n1 (plain_star rfl) (stars_none hp)).imp fun σ H Q h => ?_
  obtain ⟨F, ext, xv, env, st, hl, post⟩ := h
  simp only [ev] at post
  obtain ⟨d0, e0, hh, post1⟩ := post_bind post
  obtain ⟨hh, rfl⟩ := lift_ok hh
  obtain ⟨w, hw, _⟩ := rdv_at st hl hh
  obtain ⟨us, e1, hu, post2⟩ := post_bind post1
  refine ⟨w, hw, Ts_sub st hl hu fun vs F1 H1 s1 r1 st1 => ?_⟩
  split at post2
  · rename_i d hd1
    obtain ⟨w', hw', st2⟩ := sta_out st1 hl hd1
    rw [hw] at hw'
    cases hw'
    split at post2
    · rename_i rr d' hr'
      have len := C.ar f hf _ (by rw [hr']; exact fun z => nomatch z)
      rw [List.length_cons, List.length_map] at len
      have rv := r1.app (hr F1)
      refine ⟨?_, F1, ext ++ e1.set v none, xv ++ σ, (d, true) :: (us ++ Γ.dfl f).map fun d => (d, false), st2.drop.len, ?_, ?_, ?_⟩
      · rw [← len, rv.len]
        rfl
      · rw [List.length_cons, List.length_map]
        exact len
      · have q := st2.last.args rv
        rw [List.append_assoc (ext ++ e1.set v none), List.append_assoc (xv ++ σ)] at q
        exact q
      · rw [hr']
        refine ⟨⟨_, _, rfl⟩, fun u F' H' s st' => ?_⟩
        have hi : v < (e1.set v none).length := by
          rw [List.length_set]
          exact (List.getElem?_eq_some_iff.mp hd1).1
        have q := sta_in1 st' hl hi
        rw [List.set_set, set_same_of hw] at q
        exact post2 u F' H' (s1.trans s) q
    · exact post2.elim
    · exact post2.elim
  · exact post2.elim
end
end PL
/-! PLStm: statements. -/
namespace PL
open PySem PySem.Spec PyProof.Rows L2

/-- the def's first slot stays what it was handed, where that is changed in place -/
def Pin (io : Bool) (v0 : Option V) (σ : L2.St) : Prop := io = true → σ[0]? = some v0
theorem Pin.set {io : Bool} {v0 : Option V} {σ : L2.St} {i : Nat} {x : Option V} (h : Pin io v0 σ) (hi : io = true → i ≠ 0) : Pin io v0 (σ.set i x) := fun e => by
  rw [List.getElem?_set_ne (hi e)]
  exact h e
section
variable (K : PySem.W.Frag) (M : Nm) (Γ : Ctx) (call : Nat → List (D × Bool) → CRes) (io : Bool) (v0 : Option V)
def PostS (F : Hp) (ext : List Sl) (xv : List (Option V)) (D : Ends) (r : Fl) : Prop :=
  match r with
  | .nx e => ∀ F' H' σ', Same F F' → Sta K M F' H' (ext ++ e) (xv ++ σ') → Pin io v0 σ' → D.nx σ' H'
  | .rt r e => ∀ v F' H' σ', Same F F' → Sta K M F' H' (some r :: (ext ++ e)) (some v :: (xv ++ σ')) → Pin io v0 σ' → D.rt v H'
  | _ => False
def TSt (s : S) : TS := fun D σ H => ∃ F ext xv env, Sta K M F H (ext ++ env) (xv ++ σ) ∧ ext.length = xv.length ∧ Pin io v0 σ ∧ PostS K M io v0 F ext xv D (ex Γ call io s env)
def TSs (s : Ss) : TS := fun D σ H => ∃ F ext xv env, Sta K M F H (ext ++ env) (xv ++ σ) ∧ ext.length = xv.length ∧ Pin io v0 σ ∧ PostS K M io v0 F ext xv D (exs Γ call io s env)
def PostP (F : Hp) (ext : List Sl) (xv : List (Option V)) (σ : L2.St) (r : Res (List (D × Bool))) (Q : List V → Hp → Prop) : Prop :=
  match r with
  | .ok rs env' => ∀ vs F' H', Same F F' → rs.length = vs.length → Sta K M F' H' (rs.reverse.map some ++ (ext ++ env')) (vs.reverse.map some ++ (xv ++ σ)) → Q vs H'
  | _ => False
def TEp (es : Es) : TA := fun σ H Q => ∃ F ext xv env, Sta K M F H (ext ++ env) (xv ++ σ) ∧ ext.length = xv.length ∧ PostP K M F ext xv σ (evp Γ call es env) Q
def PostI (F : Hp) (ext : List Sl) (xv : List (Option V)) (σ : L2.St) (r : Res (List D)) (R : It → Hp → Prop) : Prop := False
end
section
variable {K : PySem.W.Frag} {M : Nm} {io : Bool} {v0 : Option V} {F F1 : Hp} {ext : List Sl} {xv : List (Option V)} {D : Ends}
theorem postS_mono {r : Fl} (s : Same F F1) (h : PostS K M io v0 F ext xv D r) : PostS K M io v0 F1 ext xv D r := by
  unfold PostS at h ⊢
  split at h
  · exact fun F' H' σ' s' st p => h F' H' σ' (s.trans s') st p
  · exact fun v F' H' σ' s' st p => h v F' H' σ' (s.trans s') st p
  · exact h.elim
theorem postS_fl {α : Type} {r : Res α} {f : α → PL.Fm → Fl} (h : PostS K M io v0 F ext xv D (r.fl f)) : ∃ a e, r = .ok a e ∧ PostS K M io v0 F ext xv D (f a e) := by
  cases r with
  | ok a e => exact ⟨a, e, rfl, h⟩
  | exc x e => exact h.elim
  | err => exact h.elim
theorem postS_bind {r : Fl} {f : PL.Fm → Fl} (h : PostS K M io v0 F ext xv D (r.bind f)) (k : ∀ e, PostS K M io v0 F ext xv D (f e) → ∀ F' H' σ', Same F F' → Sta K M F' H' (ext ++ e) (xv ++ σ') → Pin io v0 σ' → D.nx σ' H') : PostS K M io v0 F ext xv D r := by
  cases r with
  | nx e => exact k e h
  | rt r e => exact h
  | exc x e => exact h.elim
  | err => exact h.elim
end

/-- no comprehension -/
def noComp : Expr → Bool
  | .ListComp _ _ _ _ => false
  | .SetComp _ _ _ _ => false
  | .DictComp _ _ _ _ _ => false
  | _ => true
theorem swaps_no {e : Expr} {t : Option Expr} {l : Nat} {env : PySem.Env} (h : noComp e = true) : swapsWith e t l env = pure false := by
  cases e <;> first | rfl | (simp [noComp] at h; done)
theorem swapsSole_no {e t : Expr} {l : Nat} {env : PySem.Env} (h : noComp e = true) : swapsWithSole [t] e l env = pure false := swaps_no h
def noTup : Expr → Bool
  | .Tuple _ _ _ => false
  | _ => true
theorem stores_no {t e : Expr} {env : PySem.Env} (h : noTup e = true) : swappedStores [t] e env = pure none := by
  cases t <;> cases e <;> first | rfl | (simp [noTup] at h; done)
/-- a, b, .. stored as they are -/
def nmT (N : List Str) (so : Scope) : List Nat → List Expr → Bool
  | [], [] => true
  | i :: is, .Name x _ :: r => decide (N[i]? = some x) && stoB so x && nmT N so is r
  | _, _ => false
def mT (N : List Str) (so : Scope) : Tg → Expr → Bool
  | .one i, .Name x _ => decide (N[i]? = some x) && stoB so x
  | .many is, .Tuple ts _ _ => nmT N so is ts
  | _, _ => false
def gNs : List Nat → TGs
  | [] => gNil
  | i :: is => gCons (gName i) (gNs is)
def gOf (K : PySem.W.Frag) : Tg → TG
  | .one i => gName i
  | .many is => gTup K is.length (gNs is)
theorem names_each {N : List Str} {so : Scope} {env : PySem.Env} : ∀ {is : List Nat} {ts : List Expr}, nmT N so is ts = true → (assignEach ts env).length = is.length ∧ (assignEach ts env).findIdx? (·.1) = none
  | [], [], _ => ⟨rfl, rfl⟩
  | i :: is, t :: r, h => by
    cases t with
    | Name x p =>
      simp only [nmT, Bool.and_eq_true] at h
      obtain ⟨a, b⟩ := names_each (env := env) h.2
      refine ⟨by show (assignEach r env).length + 1 = _; rw [a] <;> rfl, ?_⟩
      show List.findIdx? _ ((false, assign (.Name x p) env) :: assignEach r env) = none
      rw [List.findIdx?_cons]
      simp [b]
    | _ => simp [nmT] at h
  | [], _ :: _, h => by simp [nmT] at h
  | _ :: _, [], h => by simp [nmT] at h

section
variable {X : Cx} {M : Nm} {T : Ns} {L : Lk} {Γ : Ctx} {call : Nat → List (D × Bool) → CRes} {N : List Str} {sc so : Scope} {k : Nat} {io : Bool} {v0 : Option V}

theorem g_name (C : XC X M T L Γ call N sc so k) {i : Nat} {x : Str} {p : Pos} (h : N[i]? = some x) (hs : stoB so x = true) : PG X (.Name x p) (gName i) := by
  obtain ⟨a, b⟩ := C.sto x hs
  exact pg_name (by rw [C.hN]; exact C.nd) (by rw [C.hN]; exact h) a b
theorem g_names (C : XC X M T L Γ call N sc so k) : ∀ {is : List Nat} {ts : List Expr}, nmT N so is ts = true → PGs X ts (gNs is)
  | [], [], _ => pgs_nil
  | i :: is, t :: r, h => by
    cases t with
    | Name x p =>
      simp only [nmT, Bool.and_eq_true] at h
      exact pgs_cons (g_name C (of_decide_eq_true h.1.1) h.1.2) (g_names C h.2) rfl
    | _ => simp [nmT] at h
  | [], _ :: _, h => by simp [nmT] at h
  | _ :: _, [], h => by simp [nmT] at h
theorem g_of (C : XC X M T L Γ call N sc so k) {tg : Tg} {t : Expr} (h : mT N so tg t = true) : PG X t (gOf X.K tg) := by
  cases tg with
  | one i =>
    cases t with
    | Name x p =>
      simp only [mT, Bool.and_eq_true] at h
      exact g_name C (of_decide_eq_true h.1) h.2
    | _ => simp [mT] at h
  | many is =>
    cases t with
    | Tuple ts j p =>
      obtain ⟨a, b⟩ := names_each (env := X.env) (show nmT N so is ts = true from h)
      exact pg_tup C.calm (g_names C h) a b
    | _ => simp [mT] at h

theorem sta_put {K : PySem.W.Frag} {F H : Hp} {ext : List Sl} {xv : List (Option V)} {σ : L2.St} {env : PL.Fm} {i : Nat} {r : D × Bool} {v : V} (st : Sta K M F H (some r :: (ext ++ env)) (some v :: (xv ++ σ))) (hl : ext.length = xv.length) :
    Sta K M F H (ext ++ env.set i (some r)) (xv ++ σ.set i (some v)) := by
  obtain ⟨d, o⟩ := r
  by_cases hi : i < env.length
  · exact sta_in st hl hi
  · have e := st.drop.len
    rw [List.length_append, List.length_append] at e
    rw [List.set_eq_of_length_le (by omega), List.set_eq_of_length_le (by omega)]
    exact st.drop
theorem gNs_ok {K : PySem.W.Frag} {F H : Hp} {ext : List Sl} {xv : List (Option V)} {R : L2.St → Hp → Prop} (hl : ext.length = xv.length) : ∀ {is : List Nat} {ds : List D} {vs : List V} {env : PL.Fm} {σ : L2.St}, Reps K M F ds vs → ds.length = is.length → Sta K M F H (ext ++ env) (xv ++ σ) → (io = true → 0 ∉ is) → Pin io v0 σ →
    (∀ σ2, Sta K M F H (ext ++ (is.zip ds).foldl (fun e p => e.set p.1 (some (p.2, false))) env) (xv ++ σ2) → Pin io v0 σ2 → R σ2 H) → gNs is vs σ H R
  | [], [], _, env, σ, .nil, _, st, _, pn, h => ⟨rfl, h σ st pn⟩
  | [], _ :: _, _, _, _, _, e, _, _, _, _ => by simp at e
  | _ :: _, [], _, _, _, _, e, _, _, _, _ => by simp at e
  | i :: is, d :: ds, _, env, σ, .cons a r, e, st, h0, pn, h => by
    refine ⟨_, _, rfl, gNs_ok hl (is := is) (env := env.set i (some (d, false))) r (by simpa using e) (sta_put (st.push a) hl) (fun z w => h0 z (by simp [w])) (pn.set fun z w => h0 z (by simp [w])) h⟩
theorem bnd_ok {K : PySem.W.Frag} {F H : Hp} {ext : List Sl} {xv : List (Option V)} {σ : L2.St} {env env1 : PL.Fm} {tg : Tg} {r : D × Bool} {v : V} {R : L2.St → Hp → Prop} (hl : ext.length = xv.length) (st : Sta K M F H (some r :: (ext ++ env)) (some v :: (xv ++ σ))) (pn : Pin io v0 σ)
    (h : bnd io tg r env = some env1) (q : ∀ F' σ2, Same F F' → Sta K M F' H (ext ++ env1) (xv ++ σ2) → Pin io v0 σ2 → R σ2 H) : gOf K tg v σ H R := by
  cases tg with
  | one i =>
    simp only [bnd] at h
    split at h
    · cases h
    · rename_i hh
      cases h
      exact q F _ (Same.refl F) (sta_put st hl) (pn.set fun a b => hh ⟨a, b⟩)
  | many is =>
    obtain ⟨d, o⟩ := r
    cases d <;> simp only [bnd, reduceCtorEq] at h
    rename_i l
    split at h
    · rename_i hh
      cases h
      obtain ⟨F', s, rd, st'⟩ := st.settle
      obtain ⟨a, ws, rfl, h1, z1, r1⟩ := rep_tup rd
      exact ⟨a, ws, rfl, same_sqT st'.same h1, by rw [← r1.len, hh.1], gNs_ok hl r1 hh.1 st' hh.2 pn fun σ2 st2 p2 => q F' σ2 s st2 p2⟩
    · cases h

theorem x_asg (C : XC X M T L Γ call N sc so k) {tg : Tg} {e : E} {t x : Expr} {pos : Pos} (ha : PE X x ((TEv X.K M Γ call) e)) (hg : mT N so tg t = true) (hc : noComp x = true) (ht : noTup x = true) : PS X (.Assign [t] x pos) ((TSt X.K M Γ call io v0) (.asg tg e)) := by
  refine (ps_asg ha (g_of C hg) (swapsSole_no hc) (stores_no ht) ?_).imp fun D σ H h => ?_
  · cases tg <;> cases t <;> first | rfl | (simp [mT] at hg; done)
  · obtain ⟨F, ext, xv, env, st, hl, pn, post⟩ := h
    simp only [ex] at post
    obtain ⟨r, e1, h1, post⟩ := postS_fl post
    split at post
    · rename_i env1 hb
      exact T_keep st hl h1 fun v F1 H1 s1 st1 => bnd_ok hl st1 pn hb fun F2 σ2 s2 st2 p2 => post F2 H1 σ2 (s1.trans s2) st2 p2
    · exact post.elim
theorem aug_in {f : Int → Int → Int} {e : E} {i : Nat} {sb : Bool} (hf : ∀ a b, f a b = if sb = true then a - b else a + b) {D : Ends} {σ : L2.St} {H : Hp} (h : (TSt X.K M Γ call io v0) (.aug i sb e) D σ H) : tAug i ((TEv X.K M Γ call) e) (ipI f) D σ H := by
  obtain ⟨F, ext, xv, env, st, hl, pn, post⟩ := h
  simp only [ex] at post
  split at post
  · rename_i a' hr
    obtain ⟨v, hv, pk⟩ := rdv_at st hl hr
    obtain ⟨r, e1, h1, post⟩ := postS_fl post
    have ev1 : v = .int a' := by
      cases pk with
      | rep r => exact rep_int r
    subst ev1
    refine ⟨_, hv, T_sub st hl h1 fun w F1 H1 s1 r1 st1 => ?_⟩
    obtain ⟨d, o⟩ := r
    cases d <;> simp only at post r1 <;> try exact post.elim
    rename_i b'
    cases rep_int r1
    refine ⟨a', b', rfl, rfl, ?_⟩
    split at post
    · exact post.elim
    · rename_i hh
      rw [hf]
      exact post F1 H1 _ s1 (sta_put (st1.push (.int _)) hl) (pn.set fun a b => hh ⟨a, b⟩)
  · exact post.elim
def aop (sb : Bool) : Operator := if sb = true then .Sub else .Add
theorem x_aug (C : XC X M T L Γ call N sc so k) {sb : Bool} {e : E} {i : Nat} {x : Str} {y : Expr} {p pos : Pos} (ha : PE X y ((TEv X.K M Γ call) e)) (h1 : N[i]? = some x) (h2 : stoB so x = true) : PS X (.AugAssign (.Name x p) (aop sb) y pos) ((TSt X.K M Γ call io v0) (.aug i sb e)) := by
  obtain ⟨a, b⟩ := C.sto x h2
  cases sb with
  | false => exact (ps_aug (by rw [C.hN]; exact C.nd) (by rw [C.hN]; exact h1) a ha ip_add b).imp fun D σ H h => aug_in (fun _ _ => rfl) h
  | true => exact (ps_aug (by rw [C.hN]; exact C.nd) (by rw [C.hN]; exact h1) a ha ip_sub b).imp fun D σ H h => aug_in (fun _ _ => rfl) h
theorem x_exp {e : E} {x : Expr} {pos : Pos} (ha : PE X x ((TEv X.K M Γ call) e)) (hc : noComp x = true) : PS X (.Expr x pos) ((TSt X.K M Γ call io v0) (.exp e)) :=
  (ps_expr ha (swaps_no hc)).imp fun D σ H h => by
    obtain ⟨F, ext, xv, env, st, hl, pn, post⟩ := h
    simp only [ex] at post
    obtain ⟨r, e1, h1, post⟩ := postS_fl post
    exact T_keep st hl h1 fun v F1 H1 s1 st1 => post F1 H1 σ s1 st1.drop pn
theorem x_ret {e : E} {x : Expr} {pos : Pos} (ha : PE X x ((TEv X.K M Γ call) e)) : PS X (.Return (some x) pos) ((TSt X.K M Γ call io v0) (.ret e)) :=
  (ps_ret ha).imp fun D σ H h => by
    obtain ⟨F, ext, xv, env, st, hl, pn, post⟩ := h
    simp only [ex] at post
    obtain ⟨r, e1, h1, post⟩ := postS_fl post
    exact T_keep st hl h1 fun v F1 H1 s1 st1 => post v F1 H1 σ s1 st1 pn
theorem x_retN {pos : Pos} : PS X (.Return none pos) ((TSt X.K M Γ call io v0) .retN) :=
  ps_retN.imp fun D σ H h => by
    obtain ⟨F, ext, xv, env, st, hl, pn, post⟩ := h
    simp only [ex] at post
    exact post .non F H σ (Same.refl F) (st.push .non) pn
theorem x_pas {pos : Pos} : PS X (.Pass pos) ((TSt X.K M Γ call io v0) .pas) :=
  ps_pass.imp fun D σ H h => by
    obtain ⟨F, ext, xv, env, st, hl, pn, post⟩ := h
    simp only [ex] at post
    exact post F H σ (Same.refl F) st pn
theorem x_rse {c : Nat} {o : O} {st : Stmt} : PS X st ((TSt X.K M Γ call io v0) (.rse c o)) :=
  ps_never.imp fun D σ H h => by
    obtain ⟨F, ext, xv, env, st, hl, pn, post⟩ := h
    cases o with
    | none => exact post
    | some e =>
      simp only [ex] at post
      obtain ⟨r, e1, h1, post⟩ := postS_fl post
      exact post
theorem x_nil : PSs X [] ((TSs X.K M Γ call io v0) .nil) :=
  pss_nil.imp fun D σ H h => by
    obtain ⟨F, ext, xv, env, st, hl, pn, post⟩ := h
    simp only [exs] at post
    exact post F H σ (Same.refl F) st pn
theorem x_cons {s : S} {r : Ss} {st : Stmt} {sts : List Stmt} (hs : PS X st ((TSt X.K M Γ call io v0) s)) (hr : PSs X sts ((TSs X.K M Γ call io v0) r)) : PSs X (st :: sts) ((TSs X.K M Γ call io v0) (.cons s r)) :=
  (pss_cons hs hr).imp fun D σ H h => by
    obtain ⟨F, ext, xv, env, st, hl, pn, post⟩ := h
    simp only [exs] at post
    refine ⟨F, ext, xv, env, st, hl, pn, ?_⟩
    revert post
    cases ex Γ call io s env with
    | nx e => exact fun post F' H' σ' s' st' p' => ⟨F', ext, xv, e, st', hl, p', postS_mono s' post⟩
    | rt r e => exact fun post => post
    | exc x e => exact fun post => post
    | err => exact fun post => post
theorem x_ifs {c : E} {a b : Ss} {x : Expr} {p q : List Stmt} {pos : Pos} (hc : PT X x ((TTt X.K M Γ call) c)) (ha : PSs X p ((TSs X.K M Γ call io v0) a)) (hb : PSs X q ((TSs X.K M Γ call io v0) b)) : PS X (.If x p q pos) ((TSt X.K M Γ call io v0) (.ifs c a b)) :=
  (ps_if hc ha hb).imp fun D σ H h => by
    obtain ⟨F, ext, xv, env, st, hl, pn, post⟩ := h
    simp only [ex] at post
    obtain ⟨r, e1, h1, post⟩ := postS_fl post
    obtain ⟨d, o⟩ := r
    cases d <;> simp only at post <;> try exact post.elim
    rename_i t
    refine Tt_sub st hl h1 fun F1 H1 s1 st1 => ?_
    cases t with
    | true =>
      rw [if_pos rfl]
      exact ⟨F1, ext, xv, e1, st1, hl, pn, postS_mono s1 post⟩
    | false =>
      rw [if_neg Bool.false_ne_true]
      exact ⟨F1, ext, xv, e1, st1, hl, pn, postS_mono s1 post⟩
theorem x_whl {c : E} {b : Ss} {x : Expr} {p : List Stmt} {pos : Pos} (hp : PassesOwn (model X.prog X.w) X.A X.env X.xe) (hc : PT X x ((TTt X.K M Γ call) c)) (hb : PSs X p ((TSs X.K M Γ call io v0) b)) : PS X (.While x p [] pos) ((TSt X.K M Γ call io v0) (.whl c b)) :=
  (ps_while hp hc hb).imp fun D σ H h => by
    obtain ⟨F, ext, xv, env, st, hl, pn, post⟩ := h
    simp only [ex] at post
    unfold whlG at post
    generalize hstep : (fun (env : PL.Fm) => (match ev Γ call c env with
      | .ok (.bl true, _) env =>
        match exs Γ call io b env with
        | .nx env => Sum.inl env
        | r => .inr r
      | .ok (.bl false, _) env => .inr (.nx env)
      | .exc x env => .inr (.exc x env)
      | _ => .inr .err : PL.Fm ⊕ Fl)) = step at post
    rcases whileF_or (step := step) (env := env) with ⟨n, hn⟩ | hn
    · refine ⟨fun m σ H => ∃ F' env' r, Same F F' ∧ Sta X.K M F' H (ext ++ env') (xv ++ σ) ∧ Pin io v0 σ ∧ iter step m env' = some r ∧ PostS X.K M io v0 F ext xv D r, ⟨n, F, env, _, Same.refl F, st, pn, hn, post⟩, ?_⟩
      rintro m σ H ⟨F', env', r, s', st', pn', hi, post'⟩
      cases m with
      | zero => simp [iter] at hi
      | succ m =>
        unfold iter at hi
        have hs := (congrFun hstep env').symm
        cases he : ev Γ call c env' with
        | ok d e1 =>
          obtain ⟨d, o⟩ := d
          cases d with
          | bl t =>
            refine Tt_sub st' hl he fun F1 H1 s1 st1 => ?_
            rw [he] at hs
            cases t with
            | true =>
              rw [if_pos rfl]
              simp only at hs
              refine ⟨fun σ2 H2 => ∃ F2 env2 r, Same F F2 ∧ Sta X.K M F2 H2 (ext ++ env2) (xv ++ σ2) ∧ Pin io v0 σ2 ∧ iter step m env2 = some r ∧ PostS X.K M io v0 F ext xv D r, fun σ2 H2 h => ⟨m, Nat.lt_succ_self m, h⟩, F1, ext, xv, e1, st1, hl, pn', ?_⟩
              cases hx : exs Γ call io b e1 with
              | nx e2 =>
                rw [hx] at hs
                simp only at hs
                rw [hs] at hi
                exact fun F2 H2 σ2 s2 st2 p2 => ⟨F2, e2, r, (s'.trans s1).trans s2, st2, p2, hi, post'⟩
              | rt r2 e2 =>
                rw [hx] at hs
                simp only at hs
                rw [hs] at hi
                cases hi
                exact fun v F2 H2 σ2 s2 st2 p2 => post' v F2 H2 σ2 ((s'.trans s1).trans s2) st2 p2
              | exc x2 e2 =>
                rw [hx] at hs
                simp only at hs
                rw [hs] at hi
                cases hi
                exact post'.elim
              | err =>
                rw [hx] at hs
                simp only at hs
                rw [hs] at hi
                cases hi
                exact post'.elim
            | false =>
              rw [if_neg Bool.false_ne_true]
              simp only at hs
              rw [hs] at hi
              cases hi
              exact post' F1 H1 σ (s'.trans s1) st1 pn'
          | _ =>
            rw [he] at hs
            simp only at hs
            rw [hs] at hi
            cases hi
            exact post'.elim
        | exc x2 e2 =>
          rw [he] at hs
          simp only at hs
          rw [hs] at hi
          cases hi
          exact post'.elim
        | err =>
          rw [he] at hs
          simp only at hs
          rw [hs] at hi
          cases hi
          exact post'.elim
    · rw [hn] at post
      exact post.elim
end
end PL
/-! PLStm2: stores of several at once, changed rows, for. -/
namespace PL
open PySem PySem.Spec PyProof.Rows L2

/-- how a, b = x, y is stored: the names at once, from the right (true), or by way of a pair (false) -/
def allLoc (sc : Scope) (l : Nat) : List Expr → Option (List Str)
  | [] => some []
  | .Name x p :: r => if sc.names.lookup x = some .local ∧ p.line = l then (allLoc sc l r).map (x :: ·) else none
  | _ => none
def noStars : List Expr → Bool
  | [] => true
  | .Starred _ _ :: _ => false
  | _ :: r => noStars r
section
variable {sc : Scope} {env : PySem.Env}
theorem noStars_of : ∀ {vs : List Expr}, vs.all plain = true → (vs.any fun | .Starred .. => true | _ => false) = false
  | [], _ => rfl
  | v :: r, h => by
    simp only [List.all_cons, Bool.and_eq_true] at h
    rw [List.any_cons, noStars_of h.2, Bool.or_false]
    cases v <;> first | rfl | (simp [plain] at h; done)
end

section
variable {X : Cx} {M : Nm} {T : Ns} {L : Lk} {Γ : Ctx} {call : Nat → List (D × Bool) → CRes} {N : List Str} {sc so : Scope} {k : Nat} {io : Bool} {v0 : Option V}

theorem p_nil : PA X [] ((TEp X.K M Γ call) .nil) := pa_nil.imp fun σ H Q h => by
  obtain ⟨F, ext, xv, env, st, hl, post⟩ := h
  simp only [evp] at post
  exact post [] F H (Same.refl F) rfl st
theorem postP_bind {K : PySem.W.Frag} {F : Hp} {ext : List Sl} {xv : List (Option V)} {σ : L2.St} {α : Type} {r : Res α} {f : α → PL.Fm → Res (List (D × Bool))} {Q : List V → Hp → Prop} (h : PostP K M F ext xv σ (r.bind f) Q) : ∃ a e, r = .ok a e ∧ PostP K M F ext xv σ (f a e) Q := by
  cases r with
  | ok a e => exact ⟨a, e, rfl, h⟩
  | exc x e => exact h.elim
  | err => exact h.elim
theorem p_cons {a : E} {r : Es} {x : Expr} {xs : List Expr} (ha : PE X x ((TEv X.K M Γ call) a)) (hr : PA X xs ((TEp X.K M Γ call) r)) (hp : plain x = true) : PA X (x :: xs) ((TEp X.K M Γ call) (.cons a r)) :=
  (pa_cons ha hr (plain_star hp)).imp fun σ H Q h => by
    obtain ⟨F, ext, xv, env, st, hl, post⟩ := h
    simp only [evp] at post
    obtain ⟨p, e1, h1, post⟩ := postP_bind post
    obtain ⟨ds, e2, h2, post⟩ := postP_bind post
    refine T_keep st hl h1 fun v F1 H1 s1 st1 => ⟨F1, some p :: ext, some v :: xv, e1, st1, by simp [hl], ?_⟩
    rw [h2]
    intro vs F2 H2 s2 hn st2
    refine post (v :: vs) F2 H2 (s1.trans s2) (by simp [hn]) ?_
    rw [List.reverse_cons, List.reverse_cons, List.map_append, List.map_append, List.append_assoc, List.append_assoc]
    exact st2
theorem sta_fold {K : PySem.W.Frag} {F H : Hp} {ext : List Sl} {xv : List (Option V)} (hl : ext.length = xv.length) : ∀ {is : List Nat} {rs : List (D × Bool)} {vs : List V} {env : PL.Fm} {σ : L2.St}, rs.length = is.length → rs.length = vs.length →
    Sta K M F H (rs.reverse.map some ++ (ext ++ env)) (vs.reverse.map some ++ (xv ++ σ)) → (io = true → 0 ∉ is) → Pin io v0 σ →
    Sta K M F H (ext ++ (is.zip rs).foldl (fun e p => e.set p.1 (some p.2)) env) (xv ++ (is.zip vs).foldl (fun s p => s.set p.1 (some p.2)) σ) ∧ Pin io v0 ((is.zip vs).foldl (fun s p => s.set p.1 (some p.2)) σ)
  | [], [], [], env, σ, _, _, st, _, pn => ⟨st, pn⟩
  | i :: is, r :: rs, v :: vs, env, σ, e1, e2, st, h0, pn => by
    rw [List.reverse_cons, List.reverse_cons, List.map_append, List.map_append, List.append_assoc, List.append_assoc] at st
    obtain ⟨d, o⟩ := r
    have st1 := st.mid (by simp at e2; simp [e2])
    have st1 : Sta K M F H (some (d, o) :: ((rs.reverse.map some ++ ext) ++ env)) (some v :: ((vs.reverse.map some ++ xv) ++ σ)) := by
      rw [List.append_assoc, List.append_assoc]
      exact st1
    have st2 := sta_put (i := i) st1 (by simp at e2; simp [e2, hl])
    rw [List.append_assoc, List.append_assoc] at st2
    exact sta_fold hl (is := is) (rs := rs) (vs := vs) (by simpa using e1) (by simpa using e2) st2 (fun z w => h0 z (by simp [w])) (pn.set fun z w => h0 z (by have w' : i = 0 := w; simp [w']))
  | [], _ :: _, _, _, _, e, _, _, _, _ => by simp at e
  | _ :: _, [], _, _, _, e, _, _, _, _ => by simp at e
  | [], [], _ :: _, _, _, _, e, _, _, _ => by simp at e
  | _ :: _, _ :: _, [], _, _, _, e, _, _, _ => by simp at e
/-- stored one after the other -/
theorem gNs_all {R : L2.St → Hp → Prop} {H : Hp} : ∀ {is : List Nat} {vs : List V} {σ : L2.St}, vs.length = is.length → R ((is.zip vs).foldl (fun s p => s.set p.1 (some p.2)) σ) H → gNs is vs σ H R
  | [], [], σ, _, h => ⟨rfl, h⟩
  | i :: is, v :: vs, σ, e, h => ⟨v, vs, rfl, gNs_all (is := is) (by simpa using e) h⟩
  | [], _ :: _, _, e, _ => by simp at e
  | _ :: _, [], _, e, _ => by simp at e
theorem par_in {es : Es} {is : List Nat} {D : Ends} {σ : L2.St} {H : Hp} (h : (TSt X.K M Γ call io v0) (.par is es) D σ H) : (TEp X.K M Γ call) es σ H fun vs H1 => vs.length = is.length ∧ ∀ H2, Same H1 H2 → (∀ a u, H1 a = some u → H2 a = some u) → D.nx ((is.zip vs).foldl (fun s p => s.set p.1 (some p.2)) σ) H2 := by
  obtain ⟨F, ext, xv, env, st, hl, pn, post⟩ := h
  simp only [ex] at post
  obtain ⟨rs, e1, h1, post⟩ := postS_fl post
  split at post
  · rename_i hh
    refine ⟨F, ext, xv, env, st, hl, ?_⟩
    rw [h1]
    intro vs F1 H1 s1 hn st1
    refine ⟨by rw [← hn, hh.1], fun H2 s2 _ => ?_⟩
    have st2 : Sta X.K M F1 H2 (rs.reverse.map some ++ (ext ++ e1)) (vs.reverse.map some ++ (xv ++ σ)) := st1.mono (Same.refl F1) s2 (st1.same.trans s2) fun _ _ _ z => z
    obtain ⟨a, b⟩ := sta_fold hl hh.1 hn st2 hh.2 pn
    exact post F1 H2 _ s1 a b
  · exact post.elim
theorem x_parT (C : XC X M T L Γ call N sc so k) {is : List Nat} {es : Es} {ts xs : List Expr} {j1 j2 : Nat} {p1 p2 pos : Pos} (ha : PA X xs ((TEp X.K M Γ call) es)) (hg : nmT N so is ts = true) (hz : is.length ≤ 100)
    (hw : swappedStores [.Tuple ts j1 p1] (.Tuple xs j2 p2) X.env = pure none) : PS X (.Assign [.Tuple ts j1 p1] (.Tuple xs j2 p2) pos) ((TSt X.K M Γ call io v0) (.par is es)) := by
  obtain ⟨a, b⟩ := names_each (env := X.env) hg
  refine (ps_asg (pe_tup ha) (pg_tup C.calm (g_names C hg) a b) (swapsSole_no rfl) hw rfl).imp fun D σ H h => ?_
  obtain ⟨F, ext, xv, env, st, hl, post⟩ := par_in h
  refine ⟨F, ext, xv, env, st, hl, ?_⟩
  unfold PostP at post ⊢
  split at post
  · intro vs F1 H1 s1 hn st1
    obtain ⟨q1, q2⟩ := post vs F1 H1 s1 hn st1
    have hv : vs.length ≤ sizeLine := lim_le (by unfold LIM; omega)
    refine ⟨hv, fun p hp => ⟨p, vs, rfl, .inl (.inl upd_same), q1, gNs_all q1 (q2 _ (same_new hp) (same_new hp))⟩⟩
  · exact post.elim
theorem x_par2 (C : XC X M T L Γ call N sc so k) {i j : Nat} {es : Es} {x y : Str} {a b : Expr} {j1 j2 : Nat} {px py p1 p2 pos : Pos} (ha : PA X [a, b] ((TEp X.K M Γ call) es)) (h1 : N[i]? = some x) (h2 : N[j]? = some y) (hij : i ≠ j)
    (hx : sc.names.lookup x = some .local) (hy : sc.names.lookup y = some .local) (hw : swappedStores [.Tuple [.Name x px, .Name y py] j1 p1] (.Tuple [a, b] j2 p2) X.env = pure (some [x, y])) :
    PS X (.Assign [.Tuple [.Name x px, .Name y py] j1 p1] (.Tuple [a, b] j2 p2) pos) ((TSt X.K M Γ call io v0) (.par [i, j] es)) := by
  refine (ps_par C.calm (by rw [C.hN]; exact C.nd) (by rw [C.hN]; exact h1) (by rw [C.hN]; exact h2) hij (by rw [C.scp]; exact hx) (by rw [C.scp]; exact hy) ha hw (swapsSole_no rfl)).imp fun D σ H h => ?_
  obtain ⟨F, ext, xv, env, st, hl, post⟩ := par_in h
  refine ⟨F, ext, xv, env, st, hl, ?_⟩
  unfold PostP at post ⊢
  split at post
  · intro vs F1 H1 s1 hn st1
    obtain ⟨q1, q2⟩ := post vs F1 H1 s1 hn st1
    match vs, q1 with
    | [v, w], _ => exact ⟨v, w, rfl, q2 H1 (Same.refl _) fun _ _ z => z⟩
  · exact post.elim
theorem x_par3 (C : XC X M T L Γ call N sc so k) {i j l : Nat} {es : Es} {x y z : Str} {a b c : Expr} {j1 j2 : Nat} {px py pz p1 p2 pos : Pos} (ha : PA X [a, b, c] ((TEp X.K M Γ call) es)) (h1 : N[i]? = some x) (h2 : N[j]? = some y) (h3 : N[l]? = some z) (hij : i ≠ j) (hil : i ≠ l) (hjl : j ≠ l)
    (hx : sc.names.lookup x = some .local) (hy : sc.names.lookup y = some .local) (hz : sc.names.lookup z = some .local) (hw : swappedStores [.Tuple [.Name x px, .Name y py, .Name z pz] j1 p1] (.Tuple [a, b, c] j2 p2) X.env = pure (some [x, y, z])) :
    PS X (.Assign [.Tuple [.Name x px, .Name y py, .Name z pz] j1 p1] (.Tuple [a, b, c] j2 p2) pos) ((TSt X.K M Γ call io v0) (.par [i, j, l] es)) := by
  refine (ps_par3 C.calm (by rw [C.hN]; exact C.nd) (by rw [C.hN]; exact h1) (by rw [C.hN]; exact h2) (by rw [C.hN]; exact h3) hij hil hjl (by rw [C.scp]; exact hx) (by rw [C.scp]; exact hy) (by rw [C.scp]; exact hz) ha hw (swapsSole_no rfl)).imp fun D σ H h => ?_
  obtain ⟨F, ext, xv, env, st, hl, post⟩ := par_in h
  refine ⟨F, ext, xv, env, st, hl, ?_⟩
  unfold PostP at post ⊢
  split at post
  · intro vs F1 H1 s1 hn st1
    obtain ⟨q1, q2⟩ := post vs F1 H1 s1 hn st1
    match vs, q1 with
    | [u, v, w], _ => exact ⟨u, v, w, rfl, q2 H1 (Same.refl _) fun _ _ z => z⟩
  · exact post.elim

/-! ### changed rows -/
theorem x_app (C : XC X M T L Γ call N sc so k) {i : Nat} {e : E} {x : Str} {y : Expr} {p ap cp pos : Pos} (h1 : N[i]? = some x) (h2 : visB sc x = true) (h3 : nmOk x = true) (ha : PE X y ((TEv X.K M Γ call) e)) (hp : plain y = true) (hln : (ap.endLine == cp.line) = true) :
    PS X (.Expr (.Call (.Attribute (.Name x p) "append" ap) [y] [] cp) pos) ((TSt X.K M Γ call io v0) (.app (.var i) e)) := by
  have few : ((backTo cp (starEach [y] X.env)).all (fun x => !x.1) && (backToKw cp (keywordEach [] X.env)).all (fun x => x.1.isSome) && decide ([y].length + ([] : List Keyword).length + (if ([] : List Keyword).isEmpty then 0 else 1) < 30)) = true := by
    rw [plain_star hp]
    rfl
  refine (ps_expr (pe_bm (T := "list") PySem.F.plainAttrs_list PySem.F.slot_list_append PySem.F.type_list_append (r := rAppend) mt_append (s_pv C h1 h2 h3) (pa_cons ha pa_nil (plain_star hp)) rfl few hln (plain_star hp) rfl) (by rfl)).imp fun D σ H h => ?_
  obtain ⟨F, ext, xv, env, st, hl, pn, post⟩ := h
  simp only [ex, pth] at post
  split at post
  · rename_i l0 hq
    have hi0 : env[i]? = some (some (.lst l0, true)) := by
      split at hq
      · rename_i s' e'
        rw [e', hq]
      · cases hq
    obtain ⟨v, fp, hv, ro⟩ := sta_ix st hl hi0
    cases ro with
    | lst hb zb rb =>
      refine ⟨_, hv, .inl ⟨rfl, _, .inl (.inl hb)⟩, ?_⟩
      obtain ⟨r, e1, h1, post⟩ := postS_fl post
      refine T_sub st hl h1 fun w F1 H1 s1 r1 st1 => ?_
      split at post
      · rename_i l hq1
        split at post
        · rename_i hz
          have hi1 : e1[i]? = some (some (.lst l, true)) := by
            split at hq1
            · rename_i s' e'
              rw [e', hq1]
            · cases hq1
          obtain ⟨v', hv', st2⟩ := sta_out st1 hl hi1
          rw [hv] at hv'
          cases hv'
          obtain ⟨a, ws, ea, ha2, z2, r2⟩ := st2.headL
          cases ea
          have hn := r2.len
          refine ⟨_, ws, w, rfl, rfl, ha2, lim_lt (by omega), ?_⟩
          have st3 := st2.mut (r2.snoc r1) (by rw [List.length_append, List.length_singleton]; omega)
          have hi2 : i < (e1.set i none).length := by
            rw [List.length_set]
            exact (List.getElem?_eq_some_iff.mp hi1).1
          have st4 := sta_in st3 hl hi2
          rw [List.set_set, set_same_of hv] at st4
          exact post F1 _ σ s1 st4 pn
        · exact post.elim
      · exact post.elim
  · exact post.elim
theorem x_sub (C : XC X M T L Γ call N sc so k) {v : Nat} {e i : E} {x : Str} {y z : Expr} {p tp pos : Pos} (h1 : N[v]? = some x) (h2 : visB sc x = true) (h3 : nmOk x = true) (ha : PE X y ((TEv X.K M Γ call) e)) (hi : PE X z ((TEv X.K M Γ call) i)) (hz : plain z = true) (hc : noComp y = true) (ht : noTup y = true) :
    PS X (.Assign [.Subscript (.Name x p) z tp] y pos) ((TSt X.K M Γ call io v0) (.sub v i e)) := by
  refine (ps_asg ha (pg_sub (s_pv C h1 h2 h3) hi set_list (by intro _; cases z <;> first | rfl | (simp [plain] at hz; done))) (swapsSole_no hc) (stores_no ht) rfl).imp fun D σ H h => ?_
  obtain ⟨F, ext, xv, env, st, hl, pn, post⟩ := h
  simp only [ex] at post
  obtain ⟨r, e1, g1, post⟩ := postS_fl post
  refine T_sub st hl g1 fun w F1 H1 s1 r1 st1 => ?_
  split at post
  · rename_i d0 hd0
    obtain ⟨u, hu, _⟩ := rdv_at st1 hl hd0
    refine ⟨u, hu, ?_⟩
    obtain ⟨q, e2, g2, post⟩ := postS_fl post
    refine T_sub st1 hl g2 fun w2 F2 H2 s2 r2 st2 => ?_
    split at post
    · rename_i l j hi2 hj
      split at post
      · rename_i l' hl'
        obtain ⟨u', hu', st3⟩ := sta_out st2 hl hi2
        rw [hu] at hu'
        cases hu'
        obtain ⟨a, ws, ea, ha2, z2, rl⟩ := st3.headL
        cases ea
        rw [hj] at r2
        cases rep_int r2
        unfold setI at hl'
        cases ej : ixn l.length j with
        | none =>
          rw [ej] at hl'
          cases hl'
        | some m =>
          rw [ej] at hl'
          cases hl'
          refine ⟨a, ws, j, m, rfl, rfl, ha2, by rw [← rl.len]; exact ej, ?_⟩
          have st4 := st3.mut (Reps.set (r1.mono s2) m rl) (by rw [List.length_set]; exact z2)
          have hi3 : v < (e2.set v none).length := by
            rw [List.length_set]
            exact (List.getElem?_eq_some_iff.mp hi2).1
          have st5 := sta_in st4 hl hi3
          rw [List.set_set, set_same_of hu] at st5
          exact post F2 _ σ (s1.trans s2) st5 pn
      · exact post.elim
    · exact post.elim
  · exact post.elim
end
end PL
/-! PLFor: what is walked; for. -/
namespace PL
open PySem PySem.Spec PyProof.Rows L2

/-- J walks the things ds -/
structure Wk (K : PySem.W.Frag) (M : Nm) (J : It) (ds : List D) (F : Hp) : Prop where
  go : ∀ i H, Same F H → i < ds.length → J.go i H
  stop : ∀ H, Same F H → J.stop ds.length H
  yld : ∀ i H x H', Same F H → i < ds.length → J.yld i H x H' → ∃ d, ds[i]? = some d ∧ ((H' = H ∧ Rep K M F d x) ∨ ∃ T v w a b, x = .ref T ∧ H T = none ∧ H' = upd H T (.tup [v, w]) ∧ d = .tup [a, b] ∧ Rep K M F a v ∧ Rep K M F b w)
section
variable {K : PySem.W.Frag} {M : Nm} {F : Hp}
theorem same_sqL {F H : Hp} {a : Addr} {vs : List V} (e : Same F H) (h : SqL K F a vs) : SqL K H a vs := e.seq h
theorem wk_list {a : Addr} {l : List D} {vs : List V} (h : SqL K F a vs) (r : Reps K M F l vs) : Wk K M (Itl K a) l F where
  go := fun i H e hi => ⟨vs, vs[i]'(by rw [← r.len]; exact hi), e.seq h, by simp⟩
  stop := fun H e => ⟨vs, e.seq h, by rw [r.len]; exact Nat.le_refl _⟩
  yld := fun i H x H' e hi y => by
    obtain ⟨rfl, y⟩ := y
    have hx := y vs (e.seq h)
    have hd : l[i]? = some l[i] := by simp [hi]
    obtain ⟨v, hv, rv⟩ := r.get hd
    rw [hx] at hv
    cases hv
    exact ⟨_, hd, .inl ⟨rfl, rv⟩⟩
theorem wk_tup {a : Addr} {l : List D} {vs : List V} (h : SqT K F a vs) (r : Reps K M F l vs) : Wk K M (Itt K a) l F where
  go := fun i H e hi => ⟨vs, vs[i]'(by rw [← r.len]; exact hi), same_sqT e h, by simp⟩
  stop := fun H e => ⟨vs, same_sqT e h, by rw [r.len]; exact Nat.le_refl _⟩
  yld := fun i H x H' e hi y => by
    obtain ⟨rfl, y⟩ := y
    have hx := y vs (same_sqT e h)
    have hd : l[i]? = some l[i] := by simp [hi]
    obtain ⟨v, hv, rv⟩ := r.get hd
    rw [hx] at hv
    cases hv
    exact ⟨_, hd, .inl ⟨rfl, rv⟩⟩
theorem wk_rng {lo hi : Int} : Wk K M (Itr lo (hi - lo).toNat) (rgD lo hi) F where
  go := fun i H e h => by
    unfold rgD at h
    rw [List.length_map, List.length_range] at h
    exact h
  stop := fun H e => by
    show (hi - lo).toNat ≤ _
    unfold rgD
    rw [List.length_map, List.length_range]
    exact Nat.le_refl _
  yld := fun i H x H' e h y => by
    obtain ⟨rfl, rfl⟩ := y
    have h' : i < (hi - lo).toNat := by
      unfold rgD at h
      rw [List.length_map, List.length_range] at h
      exact h
    refine ⟨.int (lo + i), ?_, .inl ⟨rfl, .int _⟩⟩
    unfold rgD
    rw [List.getElem?_map, List.getElem?_range h']
    rfl
end
section
variable (K : PySem.W.Frag) (M : Nm) (Γ : Ctx) (call : Nat → List (D × Bool) → CRes)
def TIt (it : PL.Src) : TI := fun σ H R => ∃ F ext xv env, Sta K M F H (ext ++ env) (xv ++ σ) ∧ ext.length = xv.length ∧
  match evi Γ call it env with
  | .ok ds env' => ∀ J F' H', Same F F' → Sta K M F' H' (ext ++ env') (xv ++ σ) → Wk K M J ds F' → R J H'
  | _ => False
end
section
variable {X : Cx} {M : Nm} {T : Ns} {L : Lk} {Γ : Ctx} {call : Nat → List (D × Bool) → CRes} {N : List Str} {sc so : Scope} {k : Nat} {io : Bool} {v0 : Option V}

theorem i_bind {α : Type} {r : Res α} {f : α → PL.Fm → Res (List D)} {P : List D → PL.Fm → Prop} (h : match r.bind f with | .ok ds e => P ds e | _ => False) : ∃ a e, r = .ok a e ∧ match f a e with | .ok ds e => P ds e | _ => False := by
  cases r with
  | ok a e => exact ⟨a, e, rfl, h⟩
  | exc x e => exact h.elim
  | err => exact h.elim
theorem i_seq {tg : Expr} {e : E} {x : Expr} (ha : PE X x ((TEv X.K M Γ call) e)) : PI X tg x ((TIt X.K M Γ call) (.seq e)) := by
  refine ⟨fun pins s σ H R I h => ?_⟩
  obtain ⟨F, ext, xv, env, st, hl, post⟩ := h
  simp only [evi] at post
  obtain ⟨r, e1, h1, post⟩ := i_bind post
  obtain ⟨d, o⟩ := r
  cases d <;> simp only at post <;> try exact post.elim
  · refine (pi_tup ha).run pins s σ H R I (T_sub st hl h1 fun v F1 H1 s1 r1 st1 => ?_)
    obtain ⟨a, ws, rfl, h2, z2, r2⟩ := rep_tup r1
    exact ⟨a, rfl, ⟨ws, same_sqT st1.same h2⟩, post _ F1 H1 s1 st1 (wk_tup h2 r2)⟩
  · refine (pi_list ha).run pins s σ H R I (T_sub st hl h1 fun v F1 H1 s1 r1 st1 => ?_)
    obtain ⟨a, ws, rfl, h2, z2, r2⟩ := rep_lst r1
    exact ⟨a, rfl, ⟨ws, .inl (.inl (st1.same _ _ h2))⟩, post _ F1 H1 s1 st1 (wk_list (.inl (.inl h2)) r2)⟩
theorem i_rng1 (C : XC X M T L Γ call N sc so k) {tg : Expr} {e : E} {x : Expr} {p pos : Pos} (hg : glB sc "range" = true) (hm : X.mg "range" = none) (ha : PE X x ((TEv X.K M Γ call) e)) (hp : plain x = true) : PI X tg (.Call (.Name "range" p) [x] [] pos) ((TIt X.K M Γ call) (.rng1 e)) := by
  refine (pi_range1 (gl_of (by rw [C.scp]; exact hg)) hm (pa_cons ha pa_nil (plain_star hp)) (plain_star hp)).imp fun σ H R h => ?_
  obtain ⟨F, ext, xv, env, st, hl, post⟩ := h
  simp only [evi] at post
  obtain ⟨r, e1, h1, post⟩ := i_bind post
  obtain ⟨d, o⟩ := r
  cases d <;> simp only at post <;> try exact post.elim
  rename_i n
  by_cases hn : -100000000 ≤ n ∧ n ≤ 100000000
  · rw [if_pos hn] at post
    refine T_sub st hl h1 fun v F1 H1 s1 r1 st1 => ?_
    cases rep_int r1
    refine ⟨n, rfl, by omega, by omega, ?_⟩
    have q := wk_rng (K := X.K) (M := M) (F := F1) (lo := 0) (hi := n)
    rw [Int.sub_zero] at q
    exact post _ F1 H1 s1 st1 q
  · rw [if_neg hn] at post
    exact post.elim
theorem i_rng2 (C : XC X M T L Γ call N sc so k) {tg : Expr} {a b : E} {x y : Expr} {p pos : Pos} (hg : glB sc "range" = true) (hm : X.mg "range" = none) (ha : PE X x ((TEv X.K M Γ call) a)) (hb : PE X y ((TEv X.K M Γ call) b)) (hp : plain x = true) (hq : plain y = true) :
    PI X tg (.Call (.Name "range" p) [x, y] [] pos) ((TIt X.K M Γ call) (.rng2 a b)) := by
  have e2 : starEach [y] X.env = [(false, eval y X.env)] := plain_star hq
  have e1 : starEach [x, y] X.env = [(false, eval x X.env), (false, eval y X.env)] := by
    rw [plain_star hp, e2]
  refine (pi_range2 (gl_of (by rw [C.scp]; exact hg)) hm (pa_cons ha (pa_cons hb pa_nil (plain_star hq)) (plain_star hp)) e1 e2).imp fun σ H R h => ?_
  obtain ⟨F, ext, xv, env, st, hl, post⟩ := h
  simp only [evi] at post
  obtain ⟨r, e1, h1, post⟩ := i_bind post
  obtain ⟨r', e2, h2, post⟩ := i_bind post
  obtain ⟨d, o⟩ := r
  obtain ⟨d', o'⟩ := r'
  cases d <;> cases d' <;> simp only at post <;> try exact post.elim
  rename_i n _ m
  by_cases hn : -100000000 ≤ n ∧ n ≤ 100000000 ∧ -100000000 ≤ m ∧ m ≤ 100000000
  · rw [if_pos hn] at post
    refine T_sub st hl h1 fun v F1 H1 s1 r1 st1 => T_sub st1 hl h2 fun w F2 H2 s2 r2 st2 => ?_
    cases rep_int r1
    cases rep_int r2
    exact ⟨n, m, rfl, ⟨by omega, by omega, by omega, by omega⟩, post _ F2 H2 (s1.trans s2) st2 wk_rng⟩
  · rw [if_neg hn] at post
    exact post.elim
/-- for .. in .. -/
theorem x_for (C : XC X M T L Γ call N sc so k) {it : PL.Src} {tg : Tg} {b : Ss} {t x : Expr} {p : List Stmt} {pos : Pos} (hp : PassesOwn (model X.prog X.w) X.A X.env X.xe) (hi : PI X t x ((TIt X.K M Γ call) it)) (hg : mT N so tg t = true) (hb : PSs X p ((TSs X.K M Γ call io v0) b)) (hs : plain x = true) :
    PS X (.For t x p [] pos) ((TSt X.K M Γ call io v0) (.for it tg b)) := by
  have fo : ∀ v, foldedSetIterable x X.env v = pure v := fun v => by
    cases x <;> first | rfl | (simp [plain] at hs; done)
  refine (ps_for hp C.calm hi (g_of C hg) hb fo).imp fun D σ H h => ?_
  obtain ⟨F, ext, xv, env, st, hl, pn, post⟩ := h
  simp only [ex] at post
  obtain ⟨ds, e1, h1, post⟩ := postS_fl post
  refine ⟨F, ext, xv, env, st, hl, ?_⟩
  rw [h1]
  intro J F1 H1 s1 st1 wk
  refine ⟨fun i m σ' H' => m = ds.length - i ∧ i ≤ ds.length ∧ ∃ F' env', Same F1 F' ∧ Sta X.K M F' H' (ext ++ env') (xv ++ σ') ∧ Pin io v0 σ' ∧ PostS X.K M io v0 F ext xv D (forF (fun d e => bnd io tg (d, false) e) (fun e => exs Γ call io b e) (ds.drop i) env'),
    ⟨_, rfl, Nat.zero_le _, F1, e1, Same.refl _, st1, pn, by rw [List.drop_zero]; exact post⟩, ?_⟩
  rintro i m σ' H' ⟨rfl, hi, F', env', s', st', pn', post'⟩
  have sFH : Same F1 H' := s'.trans st'.same
  by_cases hlt : i < ds.length
  · refine .inr ⟨wk.go i H' sFH hlt, fun σ2 H2 => i + 1 ≤ ds.length ∧ ∃ F2 env2, Same F1 F2 ∧ Sta X.K M F2 H2 (ext ++ env2) (xv ++ σ2) ∧ Pin io v0 σ2 ∧ PostS X.K M io v0 F ext xv D (forF (fun d e => bnd io tg (d, false) e) (fun e => exs Γ call io b e) (ds.drop (i + 1)) env2),
      fun σ2 H2 ⟨hn, q⟩ => ⟨ds.length - (i + 1), by omega, rfl, hn, q⟩, fun y H2 hy => ?_⟩
    obtain ⟨d, hd, hh⟩ := wk.yld i H' y H2 sFH hlt hy
    have hdr : ds.drop i = d :: ds.drop (i + 1) := by
      have e := List.getElem?_eq_some_iff.mp hd
      rw [List.drop_eq_getElem_cons hlt, e.2]
    rw [hdr] at post'
    -- the item stands
    have item : ∃ F2, Same F1 F2 ∧ Same F' F2 ∧ Sta X.K M F2 H2 (some (d, false) :: (ext ++ env')) (some y :: (xv ++ σ')) := by
      rcases hh with ⟨rfl, rd⟩ | ⟨Ta, v, w, a, c, rfl, hT, rfl, rfl, ra, rc⟩
      · exact ⟨F', s', Same.refl _, st'.push (rd.mono s')⟩
      · have sn := st'.new (ob := .tup [v, w]) hT
        have sf : Same F' (upd F' Ta (.tup [v, w])) := same_new (st'.free hT)
        exact ⟨_, s'.trans sf, sf, sn.push (.tup (.inl (.inl upd_same)) (by show 2 ≤ LIM; decide) (.cons ((ra.mono s').mono sf) (.cons ((rc.mono s').mono sf) .nil)))⟩
    obtain ⟨F2, s2, s2', st2⟩ := item
    simp only [forF] at post'
    split at post'
    · rename_i env1 hb1
      refine bnd_ok hl st2 pn' hb1 fun F3 σ3 s3 st3 p3 => ?_
      refine ⟨F3, ext, xv, env1, st3, hl, p3, ?_⟩
      cases hx : exs Γ call io b env1 with
      | nx e2 =>
        rw [hx] at post'
        exact fun F4 H4 σ4 s4 st4 p4 => ⟨hlt, F4, e2, (s2.trans s3).trans s4, st4, p4, post'⟩
      | rt r e2 =>
        rw [hx] at post'
        exact postS_mono (s1.trans (s2.trans s3)) post'
      | exc z e2 =>
        rw [hx] at post'
        exact post'.elim
      | err =>
        rw [hx] at post'
        exact post'.elim
    · exact post'.elim
  · have e : i = ds.length := by omega
    subst e
    rw [List.drop_length] at post'
    exact .inl ⟨wk.stop H' sFH, post' F' H' σ' (s1.trans s') st' pn'⟩
end
end PL
/-! PLMain: every matched text keeps its reckoning. -/
namespace PL
open PySem PySem.Spec PyProof.Rows L2

theorem plainT_of {e : Expr} {env : PySem.Env} (h : plainT e = true) : ∀ whole, isTrue e env whole = (do let v ← whole; standAt e.pos; holding [v] (truthy v)) := by
  intro w
  cases e <;> first | rfl | (simp [plainT] at h; done)
section
variable {X : Cx} {M : Nm} {T : Ns} {L : Lk} {Γ : Ctx} {call : Nat → List (D × Bool) → CRes} {N : List Str} {sc so : Scope} {k : Nat} {io : Bool} {v0 : Option V}

/-- what holds of a matched expression -/
structure Sx (X : Cx) (M : Nm) (Γ : Ctx) (call : Nat → List (D × Bool) → CRes) (e : E) (pe : Expr) : Prop where
  v : PE X pe (TEv X.K M Γ call e)
  t : plainT pe = true ∨ (∃ a b c d, pe = .Compare a b c d) ∨ (∃ a b c, pe = .BoolOp a b c) ∨ (∃ a b, pe = .UnaryOp .Not a b) → PT X pe (TTt X.K M Γ call e)
  w : (∃ a b c, pe = .BoolOp a b c) → PW X pe (TTt X.K M Γ call e)
theorem sx_plain {e : E} {pe : Expr} (h : PE X pe ((TEv X.K M Γ call) e)) (hp : plainT pe = true) : Sx X M Γ call e pe :=
  ⟨h, fun _ => t_val h (plainT_of hp), fun ⟨a, b, c, e⟩ => by rw [e] at hp; simp [plainT] at hp⟩
theorem sx_other {e : E} {pe : Expr} (h : PE X pe ((TEv X.K M Γ call) e)) (hp : plainT pe = false) (h1 : ∀ a b c d, pe ≠ .Compare a b c d) (h2 : ∀ a b c, pe ≠ .BoolOp a b c) (h3 : ∀ a b, pe ≠ .UnaryOp .Not a b) : Sx X M Γ call e pe :=
  ⟨h, fun z => by
    rcases z with z | ⟨a, b, c, d, z⟩ | ⟨a, b, c, z⟩ | ⟨a, b, z⟩
    · rw [hp] at z
      cases z
    · exact (h1 _ _ _ _ z).elim
    · exact (h2 _ _ _ z).elim
    · exact (h3 _ _ z).elim, fun ⟨a, b, c, z⟩ => (h2 _ _ _ z).elim⟩
theorem tOk_of {pe : Expr} (h : tOk pe = true) : plainT pe = true ∨ (∃ a b c d, pe = .Compare a b c d) ∨ (∃ a b c, pe = .BoolOp a b c) ∨ (∃ a b, pe = .UnaryOp .Not a b) := by
  unfold tOk at h
  rw [Bool.or_eq_true] at h
  rcases h with h | h
  · exact .inl h
  · split at h <;> first | cases h | skip
    · exact .inr (.inl ⟨_, _, _, _, rfl⟩)
    · exact .inr (.inr (.inl ⟨_, _, _, rfl⟩))
    · exact .inr (.inr (.inr ⟨_, _, rfl⟩))

theorem mTy_one {sc : Scope} : ∀ {ts : List Ty} {y : Expr}, mTy sc ts [y] = true → ∃ t x p, ts = [t] ∧ y = .Name x p ∧ x = tyN t ∧ glB sc x = true
  | [], y, h => by simp [mTy] at h
  | [t], y, h => by
    cases y with
    | Name x p =>
      simp only [mTy, Bool.and_eq_true] at h
      exact ⟨t, x, p, rfl, rfl, of_decide_eq_true h.1.1, h.1.2⟩
    | _ => simp [mTy] at h
  | _ :: _ :: _, y, h => by
    cases y with
    | Name x p => simp [mTy] at h
    | _ => simp [mTy] at h
mutual
theorem snd_E (C : XC X M T L Γ call N sc so k) : ∀ (e : E) (pe : Expr), mE T N sc e pe = true → Sx X M Γ call e pe
  | .var i, pe, h => by
    simp only [mE, Bool.and_eq_true] at h
    obtain ⟨_, h⟩ := h
    cases pe <;> simp only [Bool.false_eq_true] at h
    simp only [Bool.and_eq_true] at h
    exact sx_plain (s_var C (of_decide_eq_true h.1.1) h.1.2 h.2) rfl
  | .cst d, pe, h => by
    simp only [mE, Bool.and_eq_true] at h
    obtain ⟨_, h⟩ := h
    cases pe <;> simp only [Bool.false_eq_true] at h
    exact sx_other (s_cst h) rfl (fun _ _ _ _ z => nomatch z) (fun _ _ _ z => nomatch z) fun _ _ z => nomatch z
  | .glb g, pe, h => by
    simp only [mE, Bool.and_eq_true] at h
    obtain ⟨_, h⟩ := h
    cases pe <;> simp only [Bool.false_eq_true] at h
    simp only [Bool.and_eq_true] at h
    obtain ⟨⟨⟨h1, h2⟩, h3⟩, h4⟩ := h
    obtain rfl := of_decide_eq_true h1
    exact sx_plain (s_glb C h2 h3 (by simpa using h4)) rfl
  | .bin op a b, pe, h => by
    simp only [mE, Bool.and_eq_true] at h
    obtain ⟨_, h⟩ := h
    cases pe <;> simp only [Bool.false_eq_true] at h
    simp only [Bool.and_eq_true] at h
    obtain ⟨⟨h1, h2⟩, h3⟩ := h
    obtain rfl := of_decide_eq_true h1
    exact sx_other (s_bin C (snd_E C a _ h2).v (snd_E C b _ h3).v) rfl (fun _ _ _ _ z => nomatch z) (fun _ _ _ z => nomatch z) fun _ _ z => nomatch z
  | .neg a, pe, h => by
    simp only [mE, Bool.and_eq_true] at h
    obtain ⟨_, h⟩ := h
    split at h <;> first | cases h | skip
    exact sx_other (s_neg C (snd_E C a _ h).v) rfl (fun _ _ _ _ z => nomatch z) (fun _ _ _ z => nomatch z) fun _ _ z => nomatch z
  | .cmp op a b, pe, h => by
    simp only [mE, Bool.and_eq_true] at h
    obtain ⟨_, h⟩ := h
    split at h <;> first | cases h | skip
    simp only [Bool.and_eq_true] at h
    obtain ⟨⟨h1, h2⟩, h3⟩ := h
    obtain rfl := of_decide_eq_true h1
    have A := (snd_E C a _ h2).v
    have B := (snd_E C b _ h3).v
    exact ⟨s_cmp C A B (mE_plain T N h3), fun _ => t_cmp C A B (mE_plain T N h3), fun ⟨_, _, _, z⟩ => nomatch z⟩
  | .cmpv op v b, pe, h => by
    simp only [mE, Bool.and_eq_true] at h
    obtain ⟨_, h⟩ := h
    split at h <;> first | cases h | skip
    simp only [Bool.and_eq_true] at h
    obtain ⟨⟨⟨⟨h1, h2⟩, h3⟩, h4⟩, h5⟩ := h
    obtain rfl := of_decide_eq_true h1
    have B := (snd_E C b _ h5).v
    exact ⟨s_cmpv C (of_decide_eq_true h2) h3 h4 B (mE_plain T N h5), fun _ => t_cmpv C (of_decide_eq_true h2) h3 h4 B (mE_plain T N h5), fun ⟨_, _, _, z⟩ => nomatch z⟩
  | .chn o p a b c, pe, h => by
    simp only [mE, Bool.and_eq_true] at h
    obtain ⟨_, h⟩ := h
    split at h <;> first | cases h | skip
    simp only [Bool.and_eq_true] at h
    obtain ⟨⟨⟨⟨h1, h2⟩, h3⟩, h4⟩, h5⟩ := h
    obtain rfl := of_decide_eq_true h1
    obtain rfl := of_decide_eq_true h2
    have A := (snd_E C a _ h3).v
    have B := (snd_E C b _ h4).v
    have D := (snd_E C c _ h5).v
    exact ⟨s_chn C A B D (mE_plain T N h5), fun _ => t_chn C A B D (mE_plain T N h5), fun ⟨_, _, _, z⟩ => nomatch z⟩
  | .din neg a b, pe, h => by simp [mE] at h
  | .and a b, pe, h => by
    simp only [mE, Bool.and_eq_true] at h
    obtain ⟨_, h⟩ := h
    split at h <;> first | cases h | skip
    · simp only [Bool.and_eq_true] at h
      have A := snd_E C a _ h.1.1
      have B := snd_E C b _ h.1.2
      rename_i x y pos _
      have W : PW X (.BoolOp .And [x, y] pos) ((TTt X.K M Γ call) (.and a b)) := (pw_and (A.t (tOk_of h.2.1)) (pw_and1 (B.t (tOk_of h.2.2)))).imp fun σ H Q q => andT_in q
      exact ⟨(pe_and A.v (pe_one B.v)).imp fun σ H Q q => and_in q, fun _ => W.pt, fun _ => W⟩
    · simp only [Bool.and_eq_true] at h
      have A := snd_E C a _ h.1.1
      have B := snd_E C b _ h.1.2
      have W := (pw_and (A.t (tOk_of h.2)) (B.w ⟨_, _, _, rfl⟩)).imp fun σ H Q q => andT_in q
      exact ⟨(pe_and A.v B.v).imp fun σ H Q q => and_in q, fun _ => W.pt, fun _ => W⟩
  | .or a b, pe, h => by
    simp only [mE, Bool.and_eq_true] at h
    obtain ⟨_, h⟩ := h
    split at h <;> first | cases h | skip
    · simp only [Bool.and_eq_true] at h
      have A := snd_E C a _ h.1.1
      have B := snd_E C b _ h.1.2
      rename_i x y pos _
      have W : PW X (.BoolOp .Or [x, y] pos) ((TTt X.K M Γ call) (.or a b)) := (pw_or (A.t (tOk_of h.2.1)) (pw_or1 (B.t (tOk_of h.2.2)))).imp fun σ H Q q => orT_in q
      exact ⟨(pe_or A.v (pe_one B.v)).imp fun σ H Q q => or_in q, fun _ => W.pt, fun _ => W⟩
    · simp only [Bool.and_eq_true] at h
      have A := snd_E C a _ h.1.1
      have B := snd_E C b _ h.1.2
      have W := (pw_or (A.t (tOk_of h.2)) (B.w ⟨_, _, _, rfl⟩)).imp fun σ H Q q => orT_in q
      exact ⟨(pe_or A.v B.v).imp fun σ H Q q => or_in q, fun _ => W.pt, fun _ => W⟩
  | .not a, pe, h => by
    simp only [mE, Bool.and_eq_true] at h
    obtain ⟨_, h⟩ := h
    split at h <;> first | cases h | skip
    simp only [Bool.and_eq_true] at h
    have A := snd_E C a _ h.1
    exact ⟨(pe_not A.v).imp fun σ H Q q => not_in q, fun _ => (pt_not (A.t (tOk_of h.2))).imp fun σ H Q q => notT_in q, fun ⟨_, _, _, z⟩ => nomatch z⟩
  | .ifx c a b, pe, h => by
    simp only [mE, Bool.and_eq_true] at h
    obtain ⟨_, h⟩ := h
    split at h <;> first | cases h | skip
    simp only [Bool.and_eq_true] at h
    obtain ⟨⟨⟨h1, h2⟩, h3⟩, h4⟩ := h
    exact sx_other ((pe_ifExp ((snd_E C c _ h1).t (tOk_of h4)) (snd_E C a _ h2).v (snd_E C b _ h3).v).imp fun σ H Q q => ifx_in q) rfl (fun _ _ _ _ z => nomatch z) (fun _ _ _ z => nomatch z) fun _ _ z => nomatch z
  | .tup es, pe, h => by
    simp only [mE, Bool.and_eq_true] at h
    obtain ⟨_, h⟩ := h
    split at h <;> first | cases h | skip
    exact sx_other (s_tup (snd_Es C es _ h).1) rfl (fun _ _ _ _ z => nomatch z) (fun _ _ _ z => nomatch z) fun _ _ z => nomatch z
  | .lst es, pe, h => by
    simp only [mE, Bool.and_eq_true] at h
    obtain ⟨_, h⟩ := h
    split at h <;> first | cases h | skip
    exact sx_other (s_lst (snd_Es C es _ h).1) rfl (fun _ _ _ _ z => nomatch z) (fun _ _ _ z => nomatch z) fun _ _ z => nomatch z
  | .idx a i, pe, h => by
    simp only [mE, Bool.and_eq_true] at h
    obtain ⟨_, h⟩ := h
    split at h <;> first | cases h | skip
    simp only [Bool.and_eq_true] at h
    exact sx_plain (s_idx (snd_E C a _ h.1).v (snd_E C i _ h.2).v (mE_plain T N h.2)) rfl
  | .idxv v i, pe, h => by
    simp only [mE, Bool.and_eq_true] at h
    obtain ⟨_, h⟩ := h
    split at h <;> first | cases h | skip
    simp only [Bool.and_eq_true] at h
    obtain ⟨⟨⟨h2, h3⟩, h4⟩, h5⟩ := h
    exact sx_plain (s_idxv C (of_decide_eq_true h2) h3 h4 (snd_E C i _ h5).v (mE_plain T N h5)) rfl
  | .slc a lo hi, pe, h => by
    simp only [mE, Bool.and_eq_true] at h
    obtain ⟨_, h⟩ := h
    split at h <;> first | cases h | skip
    simp only [Bool.and_eq_true] at h
    exact sx_plain (s_slc (snd_E C a _ h.1.1).v (snd_O C lo _ h.1.2) (snd_O C hi _ h.2)) rfl
  | .atr p f, pe, h => by simp [mE] at h
  | .isI a ts, pe, h => by
    simp only [mE, Bool.and_eq_true] at h
    obtain ⟨_, h⟩ := h
    split at h <;> first | cases h | skip
    · simp only [Bool.and_eq_true] at h
      obtain ⟨⟨⟨⟨h1, h2⟩, h3⟩, h4⟩, h5⟩ := h
      obtain rfl := of_decide_eq_true h1
      exact sx_plain (s_isiT C h2 (snd_E C a _ h3).v (mE_plain T N h3) h4 (of_decide_eq_true h5)) rfl
    · simp only [Bool.and_eq_true] at h
      obtain ⟨⟨⟨h1, h2⟩, h3⟩, h4⟩ := h
      obtain rfl := of_decide_eq_true h1
      obtain ⟨t, z, p, rfl, rfl, h5, h6⟩ := mTy_one h4
      exact sx_plain (s_isi1 C h2 (snd_E C a _ h3).v (mE_plain T N h3) h5 h6) rfl
  | .bi b es, pe, h => by
    simp only [mE, Bool.and_eq_true] at h
    obtain ⟨_, h⟩ := h
    split at h <;> first | cases h | skip
    simp only [Bool.and_eq_true] at h
    obtain ⟨⟨⟨h1, h2⟩, h3⟩, h4⟩ := h
    obtain rfl := of_decide_eq_true h1
    obtain ⟨A, B⟩ := snd_Es C es _ h4
    exact sx_plain (s_bi C h2 h3 A B) rfl
  | .lenp p, pe, h => by simp [mE] at h
  | .bm m o es, pe, h => by simp [mE] at h
  | .fn f es, pe, h => by
    simp only [mE, Bool.and_eq_true] at h
    obtain ⟨_, h⟩ := h
    split at h <;> first | cases h | skip
    simp only [Bool.and_eq_true] at h
    obtain ⟨⟨⟨⟨h1, h2⟩, h3⟩, h4⟩, h5⟩ := h
    obtain rfl := of_decide_eq_true h1
    obtain ⟨A, B⟩ := snd_Es C es _ h5
    refine sx_plain (s_fn C h2 h3 (by simpa using h4) A B fun e => ?_) rfl
    subst e
    cases es with
    | nil => rfl
    | cons _ _ => simp [mEs] at h5
  | .fnv f v es, pe, h => by
    simp only [mE, Bool.and_eq_true] at h
    obtain ⟨_, h⟩ := h
    split at h <;> first | cases h | skip
    simp only [Bool.and_eq_true] at h
    obtain ⟨⟨⟨⟨⟨⟨⟨h1, h2⟩, h3⟩, h4⟩, h5⟩, h6⟩, h7⟩, h8⟩ := h
    obtain rfl := of_decide_eq_true h1
    obtain ⟨A, B⟩ := snd_Es C es _ h8
    exact sx_plain (s_fnv C h2 h3 (by simpa using h4) (of_decide_eq_true h5) h6 h7 A B) rfl
  | .fnk f es k, pe, h => by simp [mE] at h
  | .mth o m es, pe, h => by simp [mE] at h
  | .mthp p m es, pe, h => by simp [mE] at h
  | .new c es, pe, h => by simp [mE] at h
  | .pop x i, pe, h => by simp [mE] at h
  | .lc it tg c body, pe, h => by simp [mE] at h
  | .lc2 it tg it2 tg2 body, pe, h => by simp [mE] at h
  | .dc it tg k v, pe, h => by simp [mE] at h
theorem snd_Es (C : XC X M T L Γ call N sc so k) : ∀ (es : Es) (pe : List Expr), mEs T N sc es pe = true → PA X pe ((TEs X.K M Γ call) es) ∧ pe.all plain = true
  | .nil, pe, h => by
    simp only [mEs] at h
    split at h <;> first | cases h | skip
    exact ⟨s_nil, rfl⟩
  | .cons a r, pe, h => by
    have hp := mEs_plain T N h
    simp only [mEs] at h
    split at h <;> first | cases h | skip
    simp only [Bool.and_eq_true] at h
    exact ⟨s_cons (snd_E C a _ h.1).v (snd_Es C r _ h.2).1 (mE_plain T N h.1), hp⟩
theorem snd_O (C : XC X M T L Γ call N sc so k) : ∀ (o : O) (pe : Option Expr), mO T N sc o pe = true → PO X pe ((TOo X.K M Γ call) o)
  | .none, pe, h => by
    simp only [mO] at h
    split at h <;> first | cases h | skip
    exact s_onone
  | .some a, pe, h => by
    simp only [mO] at h
    split at h <;> first | cases h | skip
    exact s_osome (snd_E C a _ h).v
end
end
end PL
/-! PLSw: how several stores at once are made; the statements' matching; every matched block keeps its reckoning. -/
namespace PL
open PySem PySem.Spec PyProof.Rows L2
def swN (sc : Scope) (ts : List Expr) : List Str := ts.filterMap fun
    | .Name id pos => if sc.names.lookup id == some .local && pos.line == (ts.head?.map (·.pos.line)).getD 0 then some id else none
    | _ => none
/-- some true: the names at once; some false: by way of a pair; none: not carried -/
def swv (sc : Scope) (ts vs : List Expr) : Option Bool :=
  if (!(ts.length == 2 || ts.length == 3) || vs.length != ts.length) = true then some false
  else if vs.all plain = false then none
  else if ((swN sc ts).length != ts.length || (swN sc ts).eraseDups.length != (swN sc ts).length) = true then some false
  else if vs.all (foldedForSure 8) = true then some false
  else if vs.all (constantsAlone 8) = true then none
  else some true
theorem swN_env {env : PySem.Env} {ts : List Expr} : (ts.filterMap fun
    | .Name id pos => if env.kindOf id == some .local && pos.line == (ts.head?.map (·.pos.line)).getD 0 then some id else none
    | _ => none) = swN env.scope ts := rfl
theorem sw_none {ts vs : List Expr} {j j' : Nat} {p p' : Pos} {env : PySem.Env} (hk : env.scope.kind = .function) (h : swv env.scope ts vs = some false) : swappedStores [.Tuple ts j p] (.Tuple vs j' p') env = pure none := by
  have hb : (env.blockKind != .function) = false := by
    unfold Env.blockKind
    rw [hk]
    rfl
  unfold swv at h
  unfold swappedStores
  simp only [hb, Bool.or_false]
  split at h
  · rename_i h1
    rw [if_pos h1]
  · rename_i h1
    rw [if_neg h1]
    split at h
    · cases h
    · rename_i h2
      have h2' : vs.all plain = true := by simpa using h2
      refine (if_neg ?_).trans ?_
      · exact fun z => Bool.false_ne_true ((noStars_of h2').symm.trans z)
      split at h
      · rename_i h3
        exact if_pos h3
      · rename_i h3
        refine (if_neg h3).trans ?_
        split at h
        · rename_i h4
          exact if_pos h4
        · split at h
          · cases h
          · cases h
theorem sw_some {ts vs : List Expr} {j j' : Nat} {p p' : Pos} {env : PySem.Env} (hk : env.scope.kind = .function) (h : swv env.scope ts vs = some true) : swappedStores [.Tuple ts j p] (.Tuple vs j' p') env = pure (some (swN env.scope ts)) := by
  have hb : (env.blockKind != .function) = false := by
    unfold Env.blockKind
    rw [hk]
    rfl
  unfold swv at h
  unfold swappedStores
  simp only [hb, Bool.or_false]
  split at h
  · cases h
  · rename_i h1
    rw [if_neg h1]
    split at h
    · cases h
    · rename_i h2
      have h2' : vs.all plain = true := by simpa using h2
      refine (if_neg ?_).trans ?_
      · exact fun z => Bool.false_ne_true ((noStars_of h2').symm.trans z)
      split at h
      · cases h
      · rename_i h3
        refine (if_neg h3).trans ?_
        split at h
        · cases h
        · rename_i h4
          refine (if_neg h4).trans ?_
          split at h
          · cases h
          · rename_i h5
            exact if_neg h5

section
variable (T : Ns) (N : List Str)
def mEs2 (sc : Scope) (es : Es) (xs : List Expr) : Bool := mEs T N sc es xs
def locB (sc : Scope) (x : Str) : Bool := match sc.names.lookup x with | some .local => true | _ => false
def mI (sc : Scope) : Src → Expr → Bool
  | .rng1 e, x => (match x with | .Call (.Name f _) [a] [] _ => decide (f = "range") && glB sc f && mE T N sc e a | _ => false)
  | .rng2 e e', x => (match x with | .Call (.Name f _) [a, b] [] _ => decide (f = "range") && glB sc f && mE T N sc e a && mE T N sc e' b | _ => false)
  | .seq e, x => mE T N sc e x
  | _, _ => false
mutual
def mS (sc so : Scope) : S → Stmt → Bool
  | .asg tg e, st => match st with | .Assign [t] x _ => mT N so tg t && mE T N sc e x && noComp x && noTup x | _ => false
  | .par is es, st => match st with
      | .Assign [.Tuple ts _ _] (.Tuple xs _ _) _ => nmT N so is ts && mEs T N sc es xs && decide (is.length ≤ 100) &&
        (match swv sc ts xs with
         | some false => true
         | some true => (match is, ts, xs with
            | [i, j], [.Name x _, .Name y _], [_, _] => decide (i ≠ j) && decide (swN sc ts = [x, y]) && locB sc x && locB sc y
            | [i, j, l], [.Name x _, .Name y _, .Name z _], [_, _, _] => decide (i ≠ j) && decide (i ≠ l) && decide (j ≠ l) && decide (swN sc ts = [x, y, z]) && locB sc x && locB sc y && locB sc z
            | _, _, _ => false)
         | none => false)
      | _ => false
  | .aug i sb e, st => match st with | .AugAssign (.Name x _) o y _ => decide (N[i]? = some x) && stoB so x && decide (o = aop sb) && mE T N sc e y | _ => false
  | .sub v i e, st => match st with | .Assign [.Subscript (.Name x _) z _] y _ => decide (N[v]? = some x) && visB sc x && nmOk x && mE T N sc e y && mE T N sc i z && noComp y && noTup y | _ => false
  | .app (.var i) e, st => match st with | .Expr (.Call (.Attribute (.Name x _) m ap) [y] [] cp) _ => decide (N[i]? = some x) && visB sc x && nmOk x && decide (m = "append") && mE T N sc e y && (ap.endLine == cp.line) | _ => false
  | .exp e, st => match st with | .Expr x _ => mE T N sc e x && noComp x | _ => false
  | .ret e, st => match st with | .Return (some x) _ => mE T N sc e x | _ => false
  | .retN, st => match st with | .Return none _ => true | _ => false
  | .ifs c a b, st => match st with | .If x p q _ => mE T N sc c x && tOk x && mSs sc so a p && mSs sc so b q | _ => false
  | .whl c b, st => match st with | .While x p [] _ => mE T N sc c x && tOk x && mSs sc so b p | _ => false
  | .for it tg b, st => match st with | .For t x p [] _ => mI T N sc it x && mT N so tg t && mSs sc so b p && plain x | _ => false
  | .rse _ _, st => match st with | .Raise _ _ _ => true | _ => false
  | .pas, st => match st with | .Pass _ => true | _ => false
  | _, _ => false
def mSs (sc so : Scope) : Ss → List Stmt → Bool
  | .nil, l => match l with | [] => true | _ => false
  | .cons s r, l => match l with | st :: sts => mS sc so s st && mSs sc so r sts | _ => false
end
end

section
variable {X : Cx} {M : Nm} {T : Ns} {L : Lk} {Γ : Ctx} {call : Nat → List (D × Bool) → CRes} {N : List Str} {sc so : Scope} {k : Nat} {io : Bool} {v0 : Option V}

theorem snd_P (C : XC X M T L Γ call N sc so k) : ∀ (es : Es) (pe : List Expr), mEs T N sc es pe = true → PA X pe ((TEp X.K M Γ call) es)
  | .nil, pe, h => by
    simp only [mEs] at h
    split at h <;> first | cases h | skip
    exact p_nil
  | .cons a r, pe, h => by
    simp only [mEs] at h
    split at h <;> first | cases h | skip
    simp only [Bool.and_eq_true] at h
    exact p_cons (snd_E C a _ h.1).v (snd_P C r _ h.2) (mE_plain T N h.1)
theorem snd_I (C : XC X M T L Γ call N sc so k) {tg : Expr} : ∀ (it : Src) (x : Expr), mI T N sc it x = true → PI X tg x ((TIt X.K M Γ call) it)
  | .seq e, x, h => i_seq (snd_E C e x h).v
  | .rng1 e, x, h => by
    simp only [mI] at h
    split at h <;> first | cases h | skip
    simp only [Bool.and_eq_true] at h
    obtain ⟨⟨h1, h2⟩, h3⟩ := h
    obtain rfl := of_decide_eq_true h1
    exact i_rng1 C h2 C.top.rng (snd_E C e _ h3).v (mE_plain T N h3)
  | .rng2 a b, x, h => by
    simp only [mI] at h
    split at h <;> first | cases h | skip
    simp only [Bool.and_eq_true] at h
    obtain ⟨⟨⟨h1, h2⟩, h3⟩, h4⟩ := h
    obtain rfl := of_decide_eq_true h1
    exact i_rng2 C h2 C.top.rng (snd_E C a _ h3).v (snd_E C b _ h4).v (mE_plain T N h3) (mE_plain T N h4)
  | .pek p, x, h => by simp [mI] at h
  | .enm e, x, h => by simp [mI] at h
  | .zip a b, x, h => by simp [mI] at h
  | .vals e, x, h => by simp [mI] at h
theorem loc_sc {x : Str} (h : locB sc x = true) : sc.names.lookup x = some .local := by
  unfold locB at h
  split at h
  · assumption
  · cases h
mutual
theorem snd_S (C : XC X M T L Γ call N sc so k) : ∀ (s : S) (st : Stmt), mS T N sc so s st = true → PS X st ((TSt X.K M Γ call io v0) s)
  | .asg tg e, st, h => by
    simp only [mS] at h
    split at h <;> first | cases h | skip
    simp only [Bool.and_eq_true] at h
    obtain ⟨⟨⟨h1, h2⟩, h3⟩, h4⟩ := h
    exact x_asg C (snd_E C e _ h2).v h1 h3 h4
  | .par is es, st, h => by
    simp only [mS] at h
    split at h <;> first | cases h | skip
    simp only [Bool.and_eq_true] at h
    obtain ⟨⟨⟨h1, h2⟩, h3⟩, h4⟩ := h
    have hk : X.env.scope.kind = .function := by rw [C.scp]; exact C.kind
    split at h4
    · rename_i hs
      exact x_parT C (snd_P C es _ h2) h1 (of_decide_eq_true h3) (sw_none hk (by rw [C.scp]; exact hs))
    · rename_i hs
      have hw : ∀ j1 p1 j2 p2, _ := fun j1 p1 j2 p2 => sw_some (j := j1) (p := p1) (j' := j2) (p' := p2) hk (by rw [C.scp]; exact hs)
      split at h4
      · simp only [Bool.and_eq_true] at h4
        obtain ⟨⟨⟨a, b⟩, c⟩, d⟩ := h4
        simp only [nmT, Bool.and_eq_true] at h1
        refine x_par2 C (snd_P C es _ h2) (of_decide_eq_true h1.1.1) (of_decide_eq_true h1.2.1.1) (of_decide_eq_true a) (loc_sc c) (loc_sc d) ?_
        rw [hw, C.scp, of_decide_eq_true b]
      · simp only [Bool.and_eq_true] at h4
        obtain ⟨⟨⟨⟨⟨⟨a, a2⟩, a3⟩, b⟩, c⟩, d⟩, e⟩ := h4
        simp only [nmT, Bool.and_eq_true] at h1
        refine x_par3 C (snd_P C es _ h2) (of_decide_eq_true h1.1.1) (of_decide_eq_true h1.2.1.1) (of_decide_eq_true h1.2.2.1.1) (of_decide_eq_true a) (of_decide_eq_true a2) (of_decide_eq_true a3) (loc_sc c) (loc_sc d) (loc_sc e) ?_
        rw [hw, C.scp, of_decide_eq_true b]
      · cases h4
    · cases h4
  | .aug i sb e, st, h => by
    simp only [mS] at h
    split at h <;> first | cases h | skip
    simp only [Bool.and_eq_true] at h
    obtain ⟨⟨⟨h1, h2⟩, h3⟩, h4⟩ := h
    obtain rfl := of_decide_eq_true h3
    exact x_aug C (snd_E C e _ h4).v (of_decide_eq_true h1) h2
  | .sub v i e, st, h => by
    simp only [mS] at h
    split at h <;> first | cases h | skip
    simp only [Bool.and_eq_true] at h
    obtain ⟨⟨⟨⟨⟨⟨h1, h2⟩, h3⟩, h4⟩, h5⟩, h6⟩, h7⟩ := h
    exact x_sub C (of_decide_eq_true h1) h2 h3 (snd_E C e _ h4).v (snd_E C i _ h5).v (mE_plain T N h5) h6 h7
  | .swp x i j a b, st, h => by simp [mS] at h
  | .fld f e, st, h => by simp [mS] at h
  | .fld2 f g e, st, h => by simp [mS] at h
  | .app p e, st, h => by
    cases p <;> simp only [mS, Bool.false_eq_true] at h
    split at h <;> first | cases h | skip
    simp only [Bool.and_eq_true] at h
    obtain ⟨⟨⟨⟨⟨h1, h2⟩, h3⟩, h4⟩, h5⟩, h6⟩ := h
    obtain rfl := of_decide_eq_true h4
    exact x_app C (of_decide_eq_true h1) h2 h3 (snd_E C e _ h5).v (mE_plain T N h5) h6
  | .exp e, st, h => by
    simp only [mS] at h
    split at h <;> first | cases h | skip
    simp only [Bool.and_eq_true] at h
    exact x_exp (snd_E C e _ h.1).v h.2
  | .ret e, st, h => by
    simp only [mS] at h
    split at h <;> first | cases h | skip
    exact x_ret (snd_E C e _ h).v
  | .retN, st, h => by
    simp only [mS] at h
    split at h <;> first | cases h | skip
    exact x_retN
  | .ifs c a b, st, h => by
    simp only [mS] at h
    split at h <;> first | cases h | skip
    simp only [Bool.and_eq_true] at h
    obtain ⟨⟨⟨h1, h2⟩, h3⟩, h4⟩ := h
    exact x_ifs ((snd_E C c _ h1).t (tOk_of h2)) (snd_Ss C a _ h3) (snd_Ss C b _ h4)
  | .whl c b, st, h => by
    simp only [mS] at h
    split at h <;> first | cases h | skip
    simp only [Bool.and_eq_true] at h
    obtain ⟨⟨h1, h2⟩, h3⟩ := h
    exact x_whl (by rw [C.nox]; exact .never) ((snd_E C c _ h1).t (tOk_of h2)) (snd_Ss C b _ h3)
  | .for it tg b, st, h => by
    simp only [mS] at h
    split at h <;> first | cases h | skip
    simp only [Bool.and_eq_true] at h
    obtain ⟨⟨⟨h1, h2⟩, h3⟩, h4⟩ := h
    exact x_for C (by rw [C.nox]; exact .never) (snd_I C it _ h1) h2 (snd_Ss C b _ h3) h4
  | .rse c e, st, h => x_rse
  | .pas, st, h => by
    simp only [mS] at h
    split at h <;> first | cases h | skip
    exact x_pas
theorem snd_Ss (C : XC X M T L Γ call N sc so k) : ∀ (s : Ss) (st : List Stmt), mSs T N sc so s st = true → PSs X st ((TSs X.K M Γ call io v0) s)
  | .nil, st, h => by
    simp only [mSs] at h
    split at h <;> first | cases h | skip
    exact x_nil
  | .cons s r, st, h => by
    simp only [mSs] at h
    split at h <;> first | cases h | skip
    simp only [Bool.and_eq_true] at h
    exact x_cons (snd_S C s _ h.1) (snd_Ss C r _ h.2)
end
end
end PL
/-! PLFn: a def keeps the promise of its reckoning, at every depth; a law's end. -/
namespace PL
open PySem PySem.Spec PyProof.Rows L2

/-- what is known of a def of the text -/
structure FnI (K : PySem.W.Frag) (T : Ns) (L : Lk) (Γ : Ctx) (f : Nat) : Prop where
  ex : ∃ (Fe : FnE) (N : List Str) (st : Stmt) (name qual : Str), Γ.fn f = some Fe ∧ Fun K name qual st (L.fa f) (L.fd f) ∧ FnScope N (L.ps f) (defScope st) ∧ mSs T N (defScope st) (defScope st) Fe.body (defBody st) = true ∧ Fe.np = (L.ps f).length ∧ Fe.ns = N.length
section
variable {P : Program} {w : World} {K : PySem.W.Frag} {mg : Str → Option Value} {base : Heap} {M : Nm} {T : Ns} {L : Lk} {Γ : Ctx}
theorem callN_ar (h : ∀ f ∈ T.fs, FnI K T L Γ f) (n : Nat) : ∀ f ∈ T.fs, ∀ args, callN Γ n f args ≠ .err → args.length = (L.ps f).length := by
  intro f hf args hn
  obtain ⟨Fe, N, st, name, qual, h1, _, _, _, h5, _⟩ := (h f hf).ex
  cases n with
  | zero => exact (hn rfl).elim
  | succ n =>
    by_cases e : args.length = Fe.np
    · rw [← h5]
      exact e
    · refine (hn ?_).elim
      show (match Γ.fn f with | some F => body Γ (callN Γ n) F args | none => .err) = .err
      rw [h1]
      show (if args.length = Fe.np then _ else _) = _
      rw [if_neg e]
theorem fn_ok (top : Top K mg M T L Γ) (h : ∀ f ∈ T.fs, FnI K T L Γ f) {n k : Nat} (ih : ∀ f ∈ T.fs, FnOk P w K mg base CX0 k (L.fa f) (L.fd f) (L.ps f) (spF K M (callN Γ n) f (L.ps f).length)) {f : Nat} (hf : f ∈ T.fs) :
    FnOk P w K mg base CX0 (k + 2) (L.fa f) (L.fd f) (L.ps f) (spF K M (callN Γ (n + 1)) f (L.ps f).length) := by
  obtain ⟨Fe, N, st, name, qual, h1, h2, h3, h4, h5, h6⟩ := (h f hf).ex
  refine h2.ok h3 (fun vs H Q E q => q.1) fun cdv A outer s H vs Q E hr hsp => ?_
  obtain ⟨hn, F, ext, xv, args, hl, ha, sta, m⟩ := hsp
  have C : XC (cxOf CX0 P w K mg base N qual (defScope st) (L.fa f) cdv A outer s H E).nox M T L Γ (callN Γ n) N (defScope st) (defScope st) k :=
    ⟨rfl, h3.nd, rfl, h3.kind, fun x hx => ⟨loc_of hx, .inl rfl⟩, rfl, rfl, hr, top, callN_ar h n, ih⟩
  refine ⟨_, snd_Ss (io := Fe.io) (v0 := vs.head?) C Fe.body _ h4, ?_⟩
  have e0 : callN Γ (n + 1) f args = body Γ (callN Γ n) Fe args := by
    show (match Γ.fn f with | some F => body Γ (callN Γ n) F args | none => .err) = _
    rw [h1]
  rw [e0] at m
  unfold body at m
  rw [if_pos (by rw [ha, h5])] at m
  have hst : Sta K M F H (ext ++ (args.map some ++ List.replicate (Fe.ns - Fe.np) none)) (xv ++ L2.start N vs) := by
    unfold L2.start
    rw [h6, h5, hn, ← List.append_assoc, ← List.append_assoc]
    exact sta.nones _
  -- the first argument, where it is changed in place
  have hpin : ∀ {env : PL.Fm} {r : D × Bool}, (match (match (if Fe.io = true then (match env[(0 : Nat)]? with | some (some (d, true)) => some (some d) | _ => none) else some none : Option (Option D)) with | some p => CRes.ret r p | none => .err) with
      | .ret r none => ∀ v F' H', Same F F' → Sta K M F' H' (some r :: ext) (some v :: xv) → Q v H'
      | .ret r (some d) => (∃ d0 rr, args = (d0, true) :: rr) ∧ ∀ v F' H', Same F F' → Sta K M F' H' (some r :: some (d, true) :: ext) (some v :: vs.head? :: xv) → Q v H'
      | _ => False) → Pin Fe.io vs.head? (L2.start N vs) ∧ ∀ v F' H' σ', Same F F' → Sta K M F' H' (some r :: (ext ++ env)) (some v :: (xv ++ σ')) → Pin Fe.io vs.head? σ' → Q v H' := by
    intro env r hm
    cases hio : Fe.io with
    | false =>
      rw [hio, if_neg Bool.false_ne_true] at hm
      simp only at hm
      refine ⟨(fun z => nomatch z), fun v F' H' σ' s' st' _ => ?_⟩
      exact hm v F' H' s' (Sta.cut (es := some r :: ext) (vs := some v :: xv) st' (by simp [hl]))
    | true =>
      rw [hio, if_pos rfl] at hm
      split at hm
      · rename_i hq
        split at hq
        · rename_i p hp
          split at hp
          · cases hp
            cases hq
          · cases hp
        · cases hq
      · rename_i r' d hq
        split at hq
        · rename_i p hp
          split at hp
          · rename_i d' he
            cases hp
            cases hq
            obtain ⟨⟨d0, rr, ea⟩, hm⟩ := hm
            have hv : ∃ v r, vs = v :: r := by
              cases vs with
              | nil =>
                subst ea
                rw [List.length_cons] at ha
                simp at hn
                omega
              | cons v r => exact ⟨v, r, rfl⟩
            obtain ⟨v1, r1, rfl⟩ := hv
            refine ⟨fun _ => rfl, fun v F' H' σ' s' st' pn => ?_⟩
            obtain ⟨x, hx, st2⟩ := sta_out (ext := some r :: ext) (xv := some v :: xv) st' (by simp [hl]) he
            have := pn rfl
            rw [hx] at this
            cases this
            obtain ⟨ra, rb⟩ := r
            refine hm v F' H' s' (Sta.cut (es := some (ra, rb) :: some (d, true) :: ext) (vs := some v :: some v1 :: xv) st2.swap (by simp [hl]))
          · cases hp
        · cases hq
      · exact hm.elim
  have pin0 : Pin Fe.io vs.head? (L2.start N vs) := by
    revert m
    cases exs Γ (callN Γ n) Fe.io Fe.body (args.map some ++ List.replicate (Fe.ns - Fe.np) none) with
    | nx env => exact fun m => (hpin m).1
    | rt r env => exact fun m => (hpin m).1
    | exc x env =>
      intro m
      simp only at m
      split at m <;> first | exact m.elim | skip
      all_goals (rename_i hq; split at hq <;> cases hq)
    | err => exact fun m => m.elim
  refine ⟨F, ext, xv, _, hst, hl, pin0, ?_⟩
  revert m
  cases exs Γ (callN Γ n) Fe.io Fe.body (args.map some ++ List.replicate (Fe.ns - Fe.np) none) with
  | nx env => exact fun m F' H' σ' s' st' p' => (hpin m).2 .non F' H' σ' s' (st'.push .non) p'
  | rt r env => exact fun m v F' H' σ' s' st' p' => (hpin m).2 v F' H' σ' s' st' p'
  | exc x env =>
    intro m
    simp only at m
    split at m <;> first | exact m.elim | skip
    all_goals (rename_i hq; split at hq <;> cases hq)
  | err => exact fun m => m.elim
theorem all_ok (top : Top K mg M T L Γ) (h : ∀ f ∈ T.fs, FnI K T L Γ f) : ∀ n, ∀ f ∈ T.fs, FnOk P w K mg base CX0 (2 * n) (L.fa f) (L.fd f) (L.ps f) (spF K M (callN Γ n) f (L.ps f).length)
  | 0, f, hf => ⟨fun vs H Q E q => q.1, fun A outer s H args us vs Q E hr e0 hb r hsp => by
      obtain ⟨_, F, ext, xv, args, _, _, _, m⟩ := hsp
      exact m.elim⟩
  | n + 1, f, hf => fn_ok top h (all_ok top h n) hf
/-- a law: of the script's ints it tells True -/
def spLaw (K : PySem.W.Frag) : Sp := fun vs H Q _ => ∃ (a : Addr) (ns : List Int), vs = [.ref a] ∧ SqL K H a (ns.map V.int) ∧ ns.length ≤ 63 ∧ ∀ H', Q (.bl true) H'
theorem law_ok (top : Top K mg M T L Γ) (h : ∀ f ∈ T.fs, FnI K T L Γ f) {n f : Nat} (hf : f ∈ T.fs) {p : Str} (hp : L.ps f = [p]) (PT : List Int → Prop) (law : ∀ ns : List Int, ns.length ≤ 63 → PT ns → callN Γ n f [(.scr ns, false)] = .ret (.bl true, false) none) :
    FnOk P w K mg base CX0 (2 * n) (L.fa f) (L.fd f) [p] (fun vs H Q E => ∃ (a : Addr) (ns : List Int), vs = [.ref a] ∧ SqL K H a (ns.map V.int) ∧ ns.length ≤ 63 ∧ PT ns ∧ ∀ H', Q (.bl true) H') := by
  have F := all_ok (P := P) (w := w) (base := base) top h n f hf
  rw [hp] at F
  refine F.imp fun vs H Q E hsp => ?_
  obtain ⟨a, ns, rfl, hS, hl, pt, q⟩ := hsp
  refine ⟨rfl, H, [], [], [(.scr ns, false)], rfl, rfl, ⟨[] ++ [], .slot (.fz (.scr hS (by unfold LIM; omega))) .nil, by simp, by simp, Same.refl H⟩, ?_⟩
  rw [law ns hl pt]
  intro v F' H' s' st'
  have r := st'.headF
  rw [rep_bl r]
  exact q H'
end
end PL
/-! PLEq: the reckoning by equations (printed by wip/gen/eqs.py); loops stay folded. -/
namespace PL
open PySem
section

/-- while, folded -/
noncomputable def whl (Γ : Ctx) (call : Nat → List (D × Bool) → CRes) (io : Bool) (c : E) (b : Ss) (env : Fm) : Fl := whlG (fun e => ev Γ call c e) (fun e => exs Γ call io b e) env
/-- for, folded -/
noncomputable def frl (Γ : Ctx) (call : Nat → List (D × Bool) → CRes) (io : Bool) (tg : Tg) (b : Ss) (ds : List D) (env : Fm) : Fl := forF (fun d e => bnd io tg (d, false) e) (fun e => exs Γ call io b e) ds env
/-- a comprehension, folded -/
noncomputable def lcl (Γ : Ctx) (call : Nat → List (D × Bool) → CRes) (tg : Tg) (c : O) (body : E) (ds : List D) (env : Fm) (acc : List D) : Res (List D) := lcF (fun d e => bnd false tg (d, false) e) (fun e => wip e tg.ixs)
        (fun e => match c with
          | .none => .ok true e
          | .some c => (ev Γ call c e).bind fun x e => match x.1 with | .bl b => .ok b e | _ => .err)
        (fun e => (ev Γ call body e).bind fun x e => .ok x.1 e) ds env acc
@[simp] theorem ev_var (Γ : Ctx) (call : Nat → List (D × Bool) → CRes) (i : Nat) (env : Fm) : ev Γ call (.var i) env =
    match env[i]? with
    | some (some (d, o)) => .ok (d, false) (if o = true then env.set i (some (d, false)) else env)
    | _ => .err := by
  first | rfl | (simp only [ev]; done) | (simp only [ev]; rfl)
@[simp] theorem ev_cst (Γ : Ctx) (call : Nat → List (D × Bool) → CRes) (d : D) (env : Fm) : ev Γ call (.cst d) env = .ok (d, false) env := by
  first | rfl | (simp only [ev]; done) | (simp only [ev]; rfl)
@[simp] theorem ev_glb (Γ : Ctx) (call : Nat → List (D × Bool) → CRes) (g : Nat) (env : Fm) : ev Γ call (.glb g) env = Res.lift ((Γ.glb g).map fun d => (d, false)) env := by
  first | rfl | (simp only [ev]; done) | (simp only [ev]; rfl)
noncomputable def k_ev_bin2 (Γ : Ctx) (call : Nat → List (D × Bool) → CRes) (op : BOp) (x : D × Bool) (r_ : Res (D × Bool)) : Res (D × Bool) := r_.bind fun y (env : Fm) => Res.lift (biD op x.1 y.1) env
@[simp] theorem k_ev_bin2_k (Γ : Ctx) (call : Nat → List (D × Bool) → CRes) (op : BOp) (x : D × Bool) (y : D × Bool) (env : Fm) : k_ev_bin2 Γ call op x (.ok y env) = Res.lift (biD op x.1 y.1) env := rfl
@[simp] theorem k_ev_bin2_x (Γ : Ctx) (call : Nat → List (D × Bool) → CRes) (op : BOp) (x : D × Bool) (z_ : Exn) (env : Fm) : k_ev_bin2 Γ call op x (.exc z_ env) = .exc z_ env := rfl
@[simp] theorem k_ev_bin2_e (Γ : Ctx) (call : Nat → List (D × Bool) → CRes) (op : BOp) (x : D × Bool) : k_ev_bin2 Γ call op x .err = .err := rfl
noncomputable def k_ev_bin1 (Γ : Ctx) (call : Nat → List (D × Bool) → CRes) (op : BOp) (b : E) (r_ : Res (D × Bool)) : Res (D × Bool) := r_.bind fun x (env : Fm) =>  k_ev_bin2 Γ call op x (ev Γ call b env)
@[simp] theorem k_ev_bin1_k (Γ : Ctx) (call : Nat → List (D × Bool) → CRes) (op : BOp) (b : E) (x : D × Bool) (env : Fm) : k_ev_bin1 Γ call op b (.ok x env) =  k_ev_bin2 Γ call op x (ev Γ call b env) := rfl
@[simp] theorem k_ev_bin1_x (Γ : Ctx) (call : Nat → List (D × Bool) → CRes) (op : BOp) (b : E) (z_ : Exn) (env : Fm) : k_ev_bin1 Γ call op b (.exc z_ env) = .exc z_ env := rfl
@[simp] theorem k_ev_bin1_e (Γ : Ctx) (call : Nat → List (D × Bool) → CRes) (op : BOp) (b : E) : k_ev_bin1 Γ call op b .err = .err := rfl
@[simp] theorem ev_bin (Γ : Ctx) (call : Nat → List (D × Bool) → CRes) (op : BOp) (a : E) (b : E) (env : Fm) : ev Γ call (.bin op a b) env =  k_ev_bin1 Γ call op b (ev Γ call a env) := by
  first | rfl | (simp only [ev]; done) | (simp only [ev]; rfl)
noncomputable def k_ev_neg1 (Γ : Ctx) (call : Nat → List (D × Bool) → CRes) (r_ : Res (D × Bool)) : Res (D × Bool) := r_.bind fun x (env : Fm) => match x.1 with | .int i => .ok (.int (-i), false) env | _ => .err
@[simp] theorem k_ev_neg1_k (Γ : Ctx) (call : Nat → List (D × Bool) → CRes) (x : D × Bool) (env : Fm) : k_ev_neg1 Γ call (.ok x env) = match x.1 with | .int i => .ok (.int (-i), false) env | _ => .err := rfl
@[simp] theorem k_ev_neg1_x (Γ : Ctx) (call : Nat → List (D × Bool) → CRes) (z_ : Exn) (env : Fm) : k_ev_neg1 Γ call (.exc z_ env) = .exc z_ env := rfl
@[simp] theorem k_ev_neg1_e (Γ : Ctx) (call : Nat → List (D × Bool) → CRes) : k_ev_neg1 Γ call .err = .err := rfl
@[simp] theorem ev_neg (Γ : Ctx) (call : Nat → List (D × Bool) → CRes) (a : E) (env : Fm) : ev Γ call (.neg a) env =  k_ev_neg1 Γ call (ev Γ call a env) := by
  first | rfl | (simp only [ev]; done) | (simp only [ev]; rfl)
noncomputable def k_ev_cmp2 (Γ : Ctx) (call : Nat → List (D × Bool) → CRes) (op : COp) (b : E) (x : D × Bool) (r_ : Res (D × Bool)) : Res (D × Bool) := r_.bind fun y (env : Fm) => Res.lift ((cmD op x.1 y.1).map fun b => (.bl b, false)) env
@[simp] theorem k_ev_cmp2_k (Γ : Ctx) (call : Nat → List (D × Bool) → CRes) (op : COp) (b : E) (x : D × Bool) (y : D × Bool) (env : Fm) : k_ev_cmp2 Γ call op b x (.ok y env) = Res.lift ((cmD op x.1 y.1).map fun b => (.bl b, false)) env := rfl
@[simp] theorem k_ev_cmp2_x (Γ : Ctx) (call : Nat → List (D × Bool) → CRes) (op : COp) (b : E) (x : D × Bool) (z_ : Exn) (env : Fm) : k_ev_cmp2 Γ call op b x (.exc z_ env) = .exc z_ env := rfl
@[simp] theorem k_ev_cmp2_e (Γ : Ctx) (call : Nat → List (D × Bool) → CRes) (op : COp) (b : E) (x : D × Bool) : k_ev_cmp2 Γ call op b x .err = .err := rfl
noncomputable def k_ev_cmp1 (Γ : Ctx) (call : Nat → List (D × Bool) → CRes) (op : COp) (b : E) (r_ : Res (D × Bool)) : Res (D × Bool) := r_.bind fun x (env : Fm) =>  k_ev_cmp2 Γ call op b x (ev Γ call b env)
@[simp] theorem k_ev_cmp1_k (Γ : Ctx) (call : Nat → List (D × Bool) → CRes) (op : COp) (b : E) (x : D × Bool) (env : Fm) : k_ev_cmp1 Γ call op b (.ok x env) =  k_ev_cmp2 Γ call op b x (ev Γ call b env) := rfl
@[simp] theorem k_ev_cmp1_x (Γ : Ctx) (call : Nat → List (D × Bool) → CRes) (op : COp) (b : E) (z_ : Exn) (env : Fm) : k_ev_cmp1 Γ call op b (.exc z_ env) = .exc z_ env := rfl
@[simp] theorem k_ev_cmp1_e (Γ : Ctx) (call : Nat → List (D × Bool) → CRes) (op : COp) (b : E) : k_ev_cmp1 Γ call op b .err = .err := rfl
@[simp] theorem ev_cmp (Γ : Ctx) (call : Nat → List (D × Bool) → CRes) (op : COp) (a : E) (b : E) (env : Fm) : ev Γ call (.cmp op a b) env =  k_ev_cmp1 Γ call op b (ev Γ call a env) := by
  first | rfl | (simp only [ev]; done) | (simp only [ev]; rfl)
noncomputable def k_ev_cmpv2 (Γ : Ctx) (call : Nat → List (D × Bool) → CRes) (op : COp) (x : Nat) (b : E) (r_ : Res (D × Bool)) : Res (D × Bool) := r_.bind fun y (env : Fm) => Res.lift ((rdv x env).bind fun d => (cmD op d y.1).map fun b => (.bl b, false)) env
@[simp] theorem k_ev_cmpv2_k (Γ : Ctx) (call : Nat → List (D × Bool) → CRes) (op : COp) (x : Nat) (b : E) (y : D × Bool) (env : Fm) : k_ev_cmpv2 Γ call op x b (.ok y env) = Res.lift ((rdv x env).bind fun d => (cmD op d y.1).map fun b => (.bl b, false)) env := rfl
@[simp] theorem k_ev_cmpv2_x (Γ : Ctx) (call : Nat → List (D × Bool) → CRes) (op : COp) (x : Nat) (b : E) (z_ : Exn) (env : Fm) : k_ev_cmpv2 Γ call op x b (.exc z_ env) = .exc z_ env := rfl
@[simp] theorem k_ev_cmpv2_e (Γ : Ctx) (call : Nat → List (D × Bool) → CRes) (op : COp) (x : Nat) (b : E) : k_ev_cmpv2 Γ call op x b .err = .err := rfl
noncomputable def k_ev_cmpv1 (Γ : Ctx) (call : Nat → List (D × Bool) → CRes) (op : COp) (x : Nat) (b : E) (r_ : Res (D)) : Res (D × Bool) := r_.bind fun _ (env : Fm) =>  k_ev_cmpv2 Γ call op x b (ev Γ call b env)
@[simp] theorem k_ev_cmpv1_k (Γ : Ctx) (call : Nat → List (D × Bool) → CRes) (op : COp) (x : Nat) (b : E) (v_ : D) (env : Fm) : k_ev_cmpv1 Γ call op x b (.ok v_ env) =  k_ev_cmpv2 Γ call op x b (ev Γ call b env) := rfl
@[simp] theorem k_ev_cmpv1_x (Γ : Ctx) (call : Nat → List (D × Bool) → CRes) (op : COp) (x : Nat) (b : E) (z_ : Exn) (env : Fm) : k_ev_cmpv1 Γ call op x b (.exc z_ env) = .exc z_ env := rfl
@[simp] theorem k_ev_cmpv1_e (Γ : Ctx) (call : Nat → List (D × Bool) → CRes) (op : COp) (x : Nat) (b : E) : k_ev_cmpv1 Γ call op x b .err = .err := rfl
@[simp] theorem ev_cmpv (Γ : Ctx) (call : Nat → List (D × Bool) → CRes) (op : COp) (x : Nat) (b : E) (env : Fm) : ev Γ call (.cmpv op x b) env =  k_ev_cmpv1 Γ call op x b (Res.lift (rdv x env) env) := by
  first | rfl | (simp only [ev]; done) | (simp only [ev]; rfl)
noncomputable def k_ev_chn3 (Γ : Ctx) (call : Nat → List (D × Bool) → CRes) (p : COp) (b : E) (y : D × Bool) (r_ : Res (D × Bool)) : Res (D × Bool) := r_.bind fun z (env : Fm) => Res.lift ((cmD p y.1 z.1).map fun b => (.bl b, false)) env
@[simp] theorem k_ev_chn3_k (Γ : Ctx) (call : Nat → List (D × Bool) → CRes) (p : COp) (b : E) (y : D × Bool) (z : D × Bool) (env : Fm) : k_ev_chn3 Γ call p b y (.ok z env) = Res.lift ((cmD p y.1 z.1).map fun b => (.bl b, false)) env := rfl
@[simp] theorem k_ev_chn3_x (Γ : Ctx) (call : Nat → List (D × Bool) → CRes) (p : COp) (b : E) (y : D × Bool) (z_ : Exn) (env : Fm) : k_ev_chn3 Γ call p b y (.exc z_ env) = .exc z_ env := rfl
@[simp] theorem k_ev_chn3_e (Γ : Ctx) (call : Nat → List (D × Bool) → CRes) (p : COp) (b : E) (y : D × Bool) : k_ev_chn3 Γ call p b y .err = .err := rfl
noncomputable def k_ev_chn2 (Γ : Ctx) (call : Nat → List (D × Bool) → CRes) (o : COp) (p : COp) (b : E) (c : E) (x : D × Bool) (r_ : Res (D × Bool)) : Res (D × Bool) := r_.bind fun y (env : Fm) =>
      match cmD o x.1 y.1 with
      | some true =>  k_ev_chn3 Γ call p b y (ev Γ call c env)
      | some false => .ok (.bl false, false) env
      | none => .err
@[simp] theorem k_ev_chn2_k (Γ : Ctx) (call : Nat → List (D × Bool) → CRes) (o : COp) (p : COp) (b : E) (c : E) (x : D × Bool) (y : D × Bool) (env : Fm) : k_ev_chn2 Γ call o p b c x (.ok y env) =
      match cmD o x.1 y.1 with
      | some true =>  k_ev_chn3 Γ call p b y (ev Γ call c env)
      | some false => .ok (.bl false, false) env
      | none => .err := rfl
@[simp] theorem k_ev_chn2_x (Γ : Ctx) (call : Nat → List (D × Bool) → CRes) (o : COp) (p : COp) (b : E) (c : E) (x : D × Bool) (z_ : Exn) (env : Fm) : k_ev_chn2 Γ call o p b c x (.exc z_ env) = .exc z_ env := rfl
@[simp] theorem k_ev_chn2_e (Γ : Ctx) (call : Nat → List (D × Bool) → CRes) (o : COp) (p : COp) (b : E) (c : E) (x : D × Bool) : k_ev_chn2 Γ call o p b c x .err = .err := rfl
noncomputable def k_ev_chn1 (Γ : Ctx) (call : Nat → List (D × Bool) → CRes) (o : COp) (p : COp) (b : E) (c : E) (r_ : Res (D × Bool)) : Res (D × Bool) := r_.bind fun x (env : Fm) =>  k_ev_chn2 Γ call o p b c x (ev Γ call b env)
@[simp] theorem k_ev_chn1_k (Γ : Ctx) (call : Nat → List (D × Bool) → CRes) (o : COp) (p : COp) (b : E) (c : E) (x : D × Bool) (env : Fm) : k_ev_chn1 Γ call o p b c (.ok x env) =  k_ev_chn2 Γ call o p b c x (ev Γ call b env) := rfl
@[simp] theorem k_ev_chn1_x (Γ : Ctx) (call : Nat → List (D × Bool) → CRes) (o : COp) (p : COp) (b : E) (c : E) (z_ : Exn) (env : Fm) : k_ev_chn1 Γ call o p b c (.exc z_ env) = .exc z_ env := rfl
@[simp] theorem k_ev_chn1_e (Γ : Ctx) (call : Nat → List (D × Bool) → CRes) (o : COp) (p : COp) (b : E) (c : E) : k_ev_chn1 Γ call o p b c .err = .err := rfl
@[simp] theorem ev_chn (Γ : Ctx) (call : Nat → List (D × Bool) → CRes) (o : COp) (p : COp) (a : E) (b : E) (c : E) (env : Fm) : ev Γ call (.chn o p a b c) env =  k_ev_chn1 Γ call o p b c (ev Γ call a env) := by
  first | rfl | (simp only [ev]; done) | (simp only [ev]; rfl)
noncomputable def k_ev_din2 (Γ : Ctx) (call : Nat → List (D × Bool) → CRes) (neg : Bool) (x : D × Bool) (r_ : Res (D × Bool)) : Res (D × Bool) := r_.bind fun y (env : Fm) =>
      match x.1, y.1 with
      | .int k, .dic ks _ => .ok (.bl (if neg = true then !decide (k ∈ ks) else decide (k ∈ ks)), false) env
      | _, _ => .err
@[simp] theorem k_ev_din2_k (Γ : Ctx) (call : Nat → List (D × Bool) → CRes) (neg : Bool) (x : D × Bool) (y : D × Bool) (env : Fm) : k_ev_din2 Γ call neg x (.ok y env) =
      match x.1, y.1 with
      | .int k, .dic ks _ => .ok (.bl (if neg = true then !decide (k ∈ ks) else decide (k ∈ ks)), false) env
      | _, _ => .err := rfl
@[simp] theorem k_ev_din2_x (Γ : Ctx) (call : Nat → List (D × Bool) → CRes) (neg : Bool) (x : D × Bool) (z_ : Exn) (env : Fm) : k_ev_din2 Γ call neg x (.exc z_ env) = .exc z_ env := rfl
@[simp] theorem k_ev_din2_e (Γ : Ctx) (call : Nat → List (D × Bool) → CRes) (neg : Bool) (x : D × Bool) : k_ev_din2 Γ call neg x .err = .err := rfl
noncomputable def k_ev_din1 (Γ : Ctx) (call : Nat → List (D × Bool) → CRes) (neg : Bool) (b : E) (r_ : Res (D × Bool)) : Res (D × Bool) := r_.bind fun x (env : Fm) =>  k_ev_din2 Γ call neg x (ev Γ call b env)
@[simp] theorem k_ev_din1_k (Γ : Ctx) (call : Nat → List (D × Bool) → CRes) (neg : Bool) (b : E) (x : D × Bool) (env : Fm) : k_ev_din1 Γ call neg b (.ok x env) =  k_ev_din2 Γ call neg x (ev Γ call b env) := rfl
@[simp] theorem k_ev_din1_x (Γ : Ctx) (call : Nat → List (D × Bool) → CRes) (neg : Bool) (b : E) (z_ : Exn) (env : Fm) : k_ev_din1 Γ call neg b (.exc z_ env) = .exc z_ env := rfl
@[simp] theorem k_ev_din1_e (Γ : Ctx) (call : Nat → List (D × Bool) → CRes) (neg : Bool) (b : E) : k_ev_din1 Γ call neg b .err = .err := rfl
@[simp] theorem ev_din (Γ : Ctx) (call : Nat → List (D × Bool) → CRes) (neg : Bool) (a : E) (b : E) (env : Fm) : ev Γ call (.din neg a b) env =  k_ev_din1 Γ call neg b (ev Γ call a env) := by
  first | rfl | (simp only [ev]; done) | (simp only [ev]; rfl)
noncomputable def k_ev_and1 (Γ : Ctx) (call : Nat → List (D × Bool) → CRes) (b : E) (r_ : Res (D × Bool)) : Res (D × Bool) := r_.bind fun x (env : Fm) => match x.1 with | .bl true => ev Γ call b env | .bl false => .ok (.bl false, false) env | _ => .err
@[simp] theorem k_ev_and1_k (Γ : Ctx) (call : Nat → List (D × Bool) → CRes) (b : E) (x : D × Bool) (env : Fm) : k_ev_and1 Γ call b (.ok x env) = match x.1 with | .bl true => ev Γ call b env | .bl false => .ok (.bl false, false) env | _ => .err := rfl
@[simp] theorem k_ev_and1_x (Γ : Ctx) (call : Nat → List (D × Bool) → CRes) (b : E) (z_ : Exn) (env : Fm) : k_ev_and1 Γ call b (.exc z_ env) = .exc z_ env := rfl
@[simp] theorem k_ev_and1_e (Γ : Ctx) (call : Nat → List (D × Bool) → CRes) (b : E) : k_ev_and1 Γ call b .err = .err := rfl
@[simp] theorem ev_and (Γ : Ctx) (call : Nat → List (D × Bool) → CRes) (a : E) (b : E) (env : Fm) : ev Γ call (.and a b) env =  k_ev_and1 Γ call b (ev Γ call a env) := by
  first | rfl | (simp only [ev]; done) | (simp only [ev]; rfl)
noncomputable def k_ev_or1 (Γ : Ctx) (call : Nat → List (D × Bool) → CRes) (b : E) (r_ : Res (D × Bool)) : Res (D × Bool) := r_.bind fun x (env : Fm) => match x.1 with | .bl true => .ok (.bl true, false) env | .bl false => ev Γ call b env | _ => .err
@[simp] theorem k_ev_or1_k (Γ : Ctx) (call : Nat → List (D × Bool) → CRes) (b : E) (x : D × Bool) (env : Fm) : k_ev_or1 Γ call b (.ok x env) = match x.1 with | .bl true => .ok (.bl true, false) env | .bl false => ev Γ call b env | _ => .err := rfl
@[simp] theorem k_ev_or1_x (Γ : Ctx) (call : Nat → List (D × Bool) → CRes) (b : E) (z_ : Exn) (env : Fm) : k_ev_or1 Γ call b (.exc z_ env) = .exc z_ env := rfl
@[simp] theorem k_ev_or1_e (Γ : Ctx) (call : Nat → List (D × Bool) → CRes) (b : E) : k_ev_or1 Γ call b .err = .err := rfl
@[simp] theorem ev_or (Γ : Ctx) (call : Nat → List (D × Bool) → CRes) (a : E) (b : E) (env : Fm) : ev Γ call (.or a b) env =  k_ev_or1 Γ call b (ev Γ call a env) := by
  first | rfl | (simp only [ev]; done) | (simp only [ev]; rfl)
noncomputable def k_ev_not1 (Γ : Ctx) (call : Nat → List (D × Bool) → CRes) (r_ : Res (D × Bool)) : Res (D × Bool) := r_.bind fun x (env : Fm) => match x.1 with | .bl b => .ok (.bl (!b), false) env | _ => .err
@[simp] theorem k_ev_not1_k (Γ : Ctx) (call : Nat → List (D × Bool) → CRes) (x : D × Bool) (env : Fm) : k_ev_not1 Γ call (.ok x env) = match x.1 with | .bl b => .ok (.bl (!b), false) env | _ => .err := rfl
@[simp] theorem k_ev_not1_x (Γ : Ctx) (call : Nat → List (D × Bool) → CRes) (z_ : Exn) (env : Fm) : k_ev_not1 Γ call (.exc z_ env) = .exc z_ env := rfl
@[simp] theorem k_ev_not1_e (Γ : Ctx) (call : Nat → List (D × Bool) → CRes) : k_ev_not1 Γ call .err = .err := rfl
@[simp] theorem ev_not (Γ : Ctx) (call : Nat → List (D × Bool) → CRes) (a : E) (env : Fm) : ev Γ call (.not a) env =  k_ev_not1 Γ call (ev Γ call a env) := by
  first | rfl | (simp only [ev]; done) | (simp only [ev]; rfl)
noncomputable def k_ev_ifx1 (Γ : Ctx) (call : Nat → List (D × Bool) → CRes) (a : E) (b : E) (r_ : Res (D × Bool)) : Res (D × Bool) := r_.bind fun x (env : Fm) => match x.1 with | .bl true => ev Γ call a env | .bl false => ev Γ call b env | _ => .err
@[simp] theorem k_ev_ifx1_k (Γ : Ctx) (call : Nat → List (D × Bool) → CRes) (a : E) (b : E) (x : D × Bool) (env : Fm) : k_ev_ifx1 Γ call a b (.ok x env) = match x.1 with | .bl true => ev Γ call a env | .bl false => ev Γ call b env | _ => .err := rfl
@[simp] theorem k_ev_ifx1_x (Γ : Ctx) (call : Nat → List (D × Bool) → CRes) (a : E) (b : E) (z_ : Exn) (env : Fm) : k_ev_ifx1 Γ call a b (.exc z_ env) = .exc z_ env := rfl
@[simp] theorem k_ev_ifx1_e (Γ : Ctx) (call : Nat → List (D × Bool) → CRes) (a : E) (b : E) : k_ev_ifx1 Γ call a b .err = .err := rfl
@[simp] theorem ev_ifx (Γ : Ctx) (call : Nat → List (D × Bool) → CRes) (c : E) (a : E) (b : E) (env : Fm) : ev Γ call (.ifx c a b) env =  k_ev_ifx1 Γ call a b (ev Γ call c env) := by
  first | rfl | (simp only [ev]; done) | (simp only [ev]; rfl)
noncomputable def k_ev_tup1 (Γ : Ctx) (call : Nat → List (D × Bool) → CRes) (r_ : Res (List D)) : Res (D × Bool) := r_.bind fun ds (env : Fm) => if ds.length ≤ LIM then .ok (.tup ds, false) env else .err
@[simp] theorem k_ev_tup1_k (Γ : Ctx) (call : Nat → List (D × Bool) → CRes) (ds : List D) (env : Fm) : k_ev_tup1 Γ call (.ok ds env) = if ds.length ≤ LIM then .ok (.tup ds, false) env else .err := rfl
@[simp] theorem k_ev_tup1_x (Γ : Ctx) (call : Nat → List (D × Bool) → CRes) (z_ : Exn) (env : Fm) : k_ev_tup1 Γ call (.exc z_ env) = .exc z_ env := rfl
@[simp] theorem k_ev_tup1_e (Γ : Ctx) (call : Nat → List (D × Bool) → CRes) : k_ev_tup1 Γ call .err = .err := rfl
@[simp] theorem ev_tup (Γ : Ctx) (call : Nat → List (D × Bool) → CRes) (es : Es) (env : Fm) : ev Γ call (.tup es) env =  k_ev_tup1 Γ call (evs Γ call es env) := by
  first | rfl | (simp only [ev]; done) | (simp only [ev]; rfl)
noncomputable def k_ev_lst1 (Γ : Ctx) (call : Nat → List (D × Bool) → CRes) (r_ : Res (List D)) : Res (D × Bool) := r_.bind fun ds (env : Fm) => if ds.length ≤ LIM then .ok (.lst ds, true) env else .err
@[simp] theorem k_ev_lst1_k (Γ : Ctx) (call : Nat → List (D × Bool) → CRes) (ds : List D) (env : Fm) : k_ev_lst1 Γ call (.ok ds env) = if ds.length ≤ LIM then .ok (.lst ds, true) env else .err := rfl
@[simp] theorem k_ev_lst1_x (Γ : Ctx) (call : Nat → List (D × Bool) → CRes) (z_ : Exn) (env : Fm) : k_ev_lst1 Γ call (.exc z_ env) = .exc z_ env := rfl
@[simp] theorem k_ev_lst1_e (Γ : Ctx) (call : Nat → List (D × Bool) → CRes) : k_ev_lst1 Γ call .err = .err := rfl
@[simp] theorem ev_lst (Γ : Ctx) (call : Nat → List (D × Bool) → CRes) (es : Es) (env : Fm) : ev Γ call (.lst es) env =  k_ev_lst1 Γ call (evs Γ call es env) := by
  first | rfl | (simp only [ev]; done) | (simp only [ev]; rfl)
noncomputable def k_ev_idx2 (Γ : Ctx) (call : Nat → List (D × Bool) → CRes) (x : D × Bool) (r_ : Res (D × Bool)) : Res (D × Bool) := r_.bind fun y (env : Fm) => Res.lift ((ixD x.1 y.1).map fun d => (d, false)) env
@[simp] theorem k_ev_idx2_k (Γ : Ctx) (call : Nat → List (D × Bool) → CRes) (x : D × Bool) (y : D × Bool) (env : Fm) : k_ev_idx2 Γ call x (.ok y env) = Res.lift ((ixD x.1 y.1).map fun d => (d, false)) env := rfl
@[simp] theorem k_ev_idx2_x (Γ : Ctx) (call : Nat → List (D × Bool) → CRes) (x : D × Bool) (z_ : Exn) (env : Fm) : k_ev_idx2 Γ call x (.exc z_ env) = .exc z_ env := rfl
@[simp] theorem k_ev_idx2_e (Γ : Ctx) (call : Nat → List (D × Bool) → CRes) (x : D × Bool) : k_ev_idx2 Γ call x .err = .err := rfl
noncomputable def k_ev_idx1 (Γ : Ctx) (call : Nat → List (D × Bool) → CRes) (i : E) (r_ : Res (D × Bool)) : Res (D × Bool) := r_.bind fun x (env : Fm) =>  k_ev_idx2 Γ call x (ev Γ call i env)
@[simp] theorem k_ev_idx1_k (Γ : Ctx) (call : Nat → List (D × Bool) → CRes) (i : E) (x : D × Bool) (env : Fm) : k_ev_idx1 Γ call i (.ok x env) =  k_ev_idx2 Γ call x (ev Γ call i env) := rfl
@[simp] theorem k_ev_idx1_x (Γ : Ctx) (call : Nat → List (D × Bool) → CRes) (i : E) (z_ : Exn) (env : Fm) : k_ev_idx1 Γ call i (.exc z_ env) = .exc z_ env := rfl
@[simp] theorem k_ev_idx1_e (Γ : Ctx) (call : Nat → List (D × Bool) → CRes) (i : E) : k_ev_idx1 Γ call i .err = .err := rfl
@[simp] theorem ev_idx (Γ : Ctx) (call : Nat → List (D × Bool) → CRes) (a : E) (i : E) (env : Fm) : ev Γ call (.idx a i) env =  k_ev_idx1 Γ call i (ev Γ call a env) := by
  first | rfl | (simp only [ev]; done) | (simp only [ev]; rfl)
noncomputable def k_ev_idxv2 (Γ : Ctx) (call : Nat → List (D × Bool) → CRes) (x : Nat) (r_ : Res (D × Bool)) : Res (D × Bool) := r_.bind fun y (env : Fm) => Res.lift ((rdv x env).bind fun d => (ixD d y.1).map fun d => (d, false)) env
@[simp] theorem k_ev_idxv2_k (Γ : Ctx) (call : Nat → List (D × Bool) → CRes) (x : Nat) (y : D × Bool) (env : Fm) : k_ev_idxv2 Γ call x (.ok y env) = Res.lift ((rdv x env).bind fun d => (ixD d y.1).map fun d => (d, false)) env := rfl
@[simp] theorem k_ev_idxv2_x (Γ : Ctx) (call : Nat → List (D × Bool) → CRes) (x : Nat) (z_ : Exn) (env : Fm) : k_ev_idxv2 Γ call x (.exc z_ env) = .exc z_ env := rfl
@[simp] theorem k_ev_idxv2_e (Γ : Ctx) (call : Nat → List (D × Bool) → CRes) (x : Nat) : k_ev_idxv2 Γ call x .err = .err := rfl
noncomputable def k_ev_idxv1 (Γ : Ctx) (call : Nat → List (D × Bool) → CRes) (x : Nat) (i : E) (r_ : Res (D)) : Res (D × Bool) := r_.bind fun _ (env : Fm) =>  k_ev_idxv2 Γ call x (ev Γ call i env)
@[simp] theorem k_ev_idxv1_k (Γ : Ctx) (call : Nat → List (D × Bool) → CRes) (x : Nat) (i : E) (v_ : D) (env : Fm) : k_ev_idxv1 Γ call x i (.ok v_ env) =  k_ev_idxv2 Γ call x (ev Γ call i env) := rfl
@[simp] theorem k_ev_idxv1_x (Γ : Ctx) (call : Nat → List (D × Bool) → CRes) (x : Nat) (i : E) (z_ : Exn) (env : Fm) : k_ev_idxv1 Γ call x i (.exc z_ env) = .exc z_ env := rfl
@[simp] theorem k_ev_idxv1_e (Γ : Ctx) (call : Nat → List (D × Bool) → CRes) (x : Nat) (i : E) : k_ev_idxv1 Γ call x i .err = .err := rfl
@[simp] theorem ev_idxv (Γ : Ctx) (call : Nat → List (D × Bool) → CRes) (x : Nat) (i : E) (env : Fm) : ev Γ call (.idxv x i) env =  k_ev_idxv1 Γ call x i (Res.lift (rdv x env) env) := by
  first | rfl | (simp only [ev]; done) | (simp only [ev]; rfl)
noncomputable def k_ev_slc3 (Γ : Ctx) (call : Nat → List (D × Bool) → CRes) (x : D × Bool) (l : Option Int) (r_ : Res (Option Int)) : Res (D × Bool) := r_.bind fun h (env : Fm) => Res.lift (slD x.1 l h) env
@[simp] theorem k_ev_slc3_k (Γ : Ctx) (call : Nat → List (D × Bool) → CRes) (x : D × Bool) (l : Option Int) (h : Option Int) (env : Fm) : k_ev_slc3 Γ call x l (.ok h env) = Res.lift (slD x.1 l h) env := rfl
@[simp] theorem k_ev_slc3_x (Γ : Ctx) (call : Nat → List (D × Bool) → CRes) (x : D × Bool) (l : Option Int) (z_ : Exn) (env : Fm) : k_ev_slc3 Γ call x l (.exc z_ env) = .exc z_ env := rfl
@[simp] theorem k_ev_slc3_e (Γ : Ctx) (call : Nat → List (D × Bool) → CRes) (x : D × Bool) (l : Option Int) : k_ev_slc3 Γ call x l .err = .err := rfl
noncomputable def k_ev_slc2 (Γ : Ctx) (call : Nat → List (D × Bool) → CRes) (hi : O) (x : D × Bool) (r_ : Res (Option Int)) : Res (D × Bool) := r_.bind fun l (env : Fm) =>  k_ev_slc3 Γ call x l (evo Γ call hi env)
@[simp] theorem k_ev_slc2_k (Γ : Ctx) (call : Nat → List (D × Bool) → CRes) (hi : O) (x : D × Bool) (l : Option Int) (env : Fm) : k_ev_slc2 Γ call hi x (.ok l env) =  k_ev_slc3 Γ call x l (evo Γ call hi env) := rfl
@[simp] theorem k_ev_slc2_x (Γ : Ctx) (call : Nat → List (D × Bool) → CRes) (hi : O) (x : D × Bool) (z_ : Exn) (env : Fm) : k_ev_slc2 Γ call hi x (.exc z_ env) = .exc z_ env := rfl
@[simp] theorem k_ev_slc2_e (Γ : Ctx) (call : Nat → List (D × Bool) → CRes) (hi : O) (x : D × Bool) : k_ev_slc2 Γ call hi x .err = .err := rfl
noncomputable def k_ev_slc1 (Γ : Ctx) (call : Nat → List (D × Bool) → CRes) (lo : O) (hi : O) (r_ : Res (D × Bool)) : Res (D × Bool) := r_.bind fun x (env : Fm) =>  k_ev_slc2 Γ call hi x (evo Γ call lo env)
@[simp] theorem k_ev_slc1_k (Γ : Ctx) (call : Nat → List (D × Bool) → CRes) (lo : O) (hi : O) (x : D × Bool) (env : Fm) : k_ev_slc1 Γ call lo hi (.ok x env) =  k_ev_slc2 Γ call hi x (evo Γ call lo env) := rfl
@[simp] theorem k_ev_slc1_x (Γ : Ctx) (call : Nat → List (D × Bool) → CRes) (lo : O) (hi : O) (z_ : Exn) (env : Fm) : k_ev_slc1 Γ call lo hi (.exc z_ env) = .exc z_ env := rfl
@[simp] theorem k_ev_slc1_e (Γ : Ctx) (call : Nat → List (D × Bool) → CRes) (lo : O) (hi : O) : k_ev_slc1 Γ call lo hi .err = .err := rfl
@[simp] theorem ev_slc (Γ : Ctx) (call : Nat → List (D × Bool) → CRes) (a : E) (lo : O) (hi : O) (env : Fm) : ev Γ call (.slc a lo hi) env =  k_ev_slc1 Γ call lo hi (ev Γ call a env) := by
  first | rfl | (simp only [ev]; done) | (simp only [ev]; rfl)
@[simp] theorem ev_atr (Γ : Ctx) (call : Nat → List (D × Bool) → CRes) (p : E) (f : Nat) (env : Fm) : ev Γ call (.atr p f) env =
    match pth Γ (.atr p f) env with
    | some (d, false) => .ok (d, false) env
    | _ => .err := by
  first | rfl | (simp only [ev]; done) | (simp only [ev]; rfl)
noncomputable def k_ev_isI1 (Γ : Ctx) (call : Nat → List (D × Bool) → CRes) (ts : List Ty) (r_ : Res (D × Bool)) : Res (D × Bool) := r_.bind fun x (env : Fm) => Res.lift ((tyD x.1).map fun l => (.bl (ts.any fun t => l.contains t), false)) env
@[simp] theorem k_ev_isI1_k (Γ : Ctx) (call : Nat → List (D × Bool) → CRes) (ts : List Ty) (x : D × Bool) (env : Fm) : k_ev_isI1 Γ call ts (.ok x env) = Res.lift ((tyD x.1).map fun l => (.bl (ts.any fun t => l.contains t), false)) env := rfl
@[simp] theorem k_ev_isI1_x (Γ : Ctx) (call : Nat → List (D × Bool) → CRes) (ts : List Ty) (z_ : Exn) (env : Fm) : k_ev_isI1 Γ call ts (.exc z_ env) = .exc z_ env := rfl
@[simp] theorem k_ev_isI1_e (Γ : Ctx) (call : Nat → List (D × Bool) → CRes) (ts : List Ty) : k_ev_isI1 Γ call ts .err = .err := rfl
@[simp] theorem ev_isI (Γ : Ctx) (call : Nat → List (D × Bool) → CRes) (a : E) (ts : List Ty) (env : Fm) : ev Γ call (.isI a ts) env =  k_ev_isI1 Γ call ts (ev Γ call a env) := by
  first | rfl | (simp only [ev]; done) | (simp only [ev]; rfl)
noncomputable def k_ev_bi1 (Γ : Ctx) (call : Nat → List (D × Bool) → CRes) (b : Bi) (r_ : Res (List D)) : Res (D × Bool) := r_.bind fun ds (env : Fm) => Res.lift (biF b ds) env
@[simp] theorem k_ev_bi1_k (Γ : Ctx) (call : Nat → List (D × Bool) → CRes) (b : Bi) (ds : List D) (env : Fm) : k_ev_bi1 Γ call b (.ok ds env) = Res.lift (biF b ds) env := rfl
@[simp] theorem k_ev_bi1_x (Γ : Ctx) (call : Nat → List (D × Bool) → CRes) (b : Bi) (z_ : Exn) (env : Fm) : k_ev_bi1 Γ call b (.exc z_ env) = .exc z_ env := rfl
@[simp] theorem k_ev_bi1_e (Γ : Ctx) (call : Nat → List (D × Bool) → CRes) (b : Bi) : k_ev_bi1 Γ call b .err = .err := rfl
@[simp] theorem ev_bi (Γ : Ctx) (call : Nat → List (D × Bool) → CRes) (b : Bi) (es : Es) (env : Fm) : ev Γ call (.bi b es) env =  k_ev_bi1 Γ call b (evs Γ call es env) := by
  first | rfl | (simp only [ev]; done) | (simp only [ev]; rfl)
@[simp] theorem ev_lenp (Γ : Ctx) (call : Nat → List (D × Bool) → CRes) (p : E) (env : Fm) : ev Γ call (.lenp p) env = Res.lift ((pth Γ p env).bind fun x => biF .len [x.1]) env := by
  first | rfl | (simp only [ev]; done) | (simp only [ev]; rfl)
noncomputable def k_ev_bm2 (Γ : Ctx) (call : Nat → List (D × Bool) → CRes) (m : Bm) (x : D × Bool) (r_ : Res (List D)) : Res (D × Bool) := r_.bind fun ds (env : Fm) => Res.lift (bmF m x.1 ds) env
@[simp] theorem k_ev_bm2_k (Γ : Ctx) (call : Nat → List (D × Bool) → CRes) (m : Bm) (x : D × Bool) (ds : List D) (env : Fm) : k_ev_bm2 Γ call m x (.ok ds env) = Res.lift (bmF m x.1 ds) env := rfl
@[simp] theorem k_ev_bm2_x (Γ : Ctx) (call : Nat → List (D × Bool) → CRes) (m : Bm) (x : D × Bool) (z_ : Exn) (env : Fm) : k_ev_bm2 Γ call m x (.exc z_ env) = .exc z_ env := rfl
@[simp] theorem k_ev_bm2_e (Γ : Ctx) (call : Nat → List (D × Bool) → CRes) (m : Bm) (x : D × Bool) : k_ev_bm2 Γ call m x .err = .err := rfl
noncomputable def k_ev_bm1 (Γ : Ctx) (call : Nat → List (D × Bool) → CRes) (m : Bm) (es : Es) (r_ : Res (D × Bool)) : Res (D × Bool) := r_.bind fun x (env : Fm) =>  k_ev_bm2 Γ call m x (evs Γ call es env)
@[simp] theorem k_ev_bm1_k (Γ : Ctx) (call : Nat → List (D × Bool) → CRes) (m : Bm) (es : Es) (x : D × Bool) (env : Fm) : k_ev_bm1 Γ call m es (.ok x env) =  k_ev_bm2 Γ call m x (evs Γ call es env) := rfl
@[simp] theorem k_ev_bm1_x (Γ : Ctx) (call : Nat → List (D × Bool) → CRes) (m : Bm) (es : Es) (z_ : Exn) (env : Fm) : k_ev_bm1 Γ call m es (.exc z_ env) = .exc z_ env := rfl
@[simp] theorem k_ev_bm1_e (Γ : Ctx) (call : Nat → List (D × Bool) → CRes) (m : Bm) (es : Es) : k_ev_bm1 Γ call m es .err = .err := rfl
@[simp] theorem ev_bm (Γ : Ctx) (call : Nat → List (D × Bool) → CRes) (m : Bm) (o : E) (es : Es) (env : Fm) : ev Γ call (.bm m o es) env =  k_ev_bm1 Γ call m es (ev Γ call o env) := by
  first | rfl | (simp only [ev]; done) | (simp only [ev]; rfl)
noncomputable def k_ev_fn1 (Γ : Ctx) (call : Nat → List (D × Bool) → CRes) (f : Nat) (r_ : Res (List D)) : Res (D × Bool) := r_.bind fun ds (env : Fm) =>
      match call f ((ds ++ Γ.dfl f).map fun d => (d, false)) with
      | .ret r none => .ok r env
      | .exc x none => .exc x env
      | _ => .err
@[simp] theorem k_ev_fn1_k (Γ : Ctx) (call : Nat → List (D × Bool) → CRes) (f : Nat) (ds : List D) (env : Fm) : k_ev_fn1 Γ call f (.ok ds env) =
      match call f ((ds ++ Γ.dfl f).map fun d => (d, false)) with
      | .ret r none => .ok r env
      | .exc x none => .exc x env
      | _ => .err := rfl
@[simp] theorem k_ev_fn1_x (Γ : Ctx) (call : Nat → List (D × Bool) → CRes) (f : Nat) (z_ : Exn) (env : Fm) : k_ev_fn1 Γ call f (.exc z_ env) = .exc z_ env := rfl
@[simp] theorem k_ev_fn1_e (Γ : Ctx) (call : Nat → List (D × Bool) → CRes) (f : Nat) : k_ev_fn1 Γ call f .err = .err := rfl
@[simp] theorem ev_fn (Γ : Ctx) (call : Nat → List (D × Bool) → CRes) (f : Nat) (es : Es) (env : Fm) : ev Γ call (.fn f es) env =  k_ev_fn1 Γ call f (evs Γ call es env) := by
  first | rfl | (simp only [ev]; done) | (simp only [ev]; rfl)
noncomputable def k_ev_fnv2 (Γ : Ctx) (call : Nat → List (D × Bool) → CRes) (f : Nat) (x : Nat) (r_ : Res (List D)) : Res (D × Bool) := r_.bind fun ds (env : Fm) =>
      match env[x]? with
      | some (some (d, true)) =>
        match call f ((d, true) :: (ds ++ Γ.dfl f).map fun d => (d, false)) with
        | .ret r (some d') => .ok r (env.set x (some (d', true)))
        | .exc z (some d') => .exc z (env.set x (some (d', true)))
        | _ => .err
      | _ => .err
@[simp] theorem k_ev_fnv2_k (Γ : Ctx) (call : Nat → List (D × Bool) → CRes) (f : Nat) (x : Nat) (ds : List D) (env : Fm) : k_ev_fnv2 Γ call f x (.ok ds env) =
      match env[x]? with
      | some (some (d, true)) =>
        match call f ((d, true) :: (ds ++ Γ.dfl f).map fun d => (d, false)) with
        | .ret r (some d') => .ok r (env.set x (some (d', true)))
        | .exc z (some d') => .exc z (env.set x (some (d', true)))
        | _ => .err
      | _ => .err := rfl
@[simp] theorem k_ev_fnv2_x (Γ : Ctx) (call : Nat → List (D × Bool) → CRes) (f : Nat) (x : Nat) (z_ : Exn) (env : Fm) : k_ev_fnv2 Γ call f x (.exc z_ env) = .exc z_ env := rfl
@[simp] theorem k_ev_fnv2_e (Γ : Ctx) (call : Nat → List (D × Bool) → CRes) (f : Nat) (x : Nat) : k_ev_fnv2 Γ call f x .err = .err := rfl
noncomputable def k_ev_fnv1 (Γ : Ctx) (call : Nat → List (D × Bool) → CRes) (f : Nat) (x : Nat) (es : Es) (r_ : Res (D)) : Res (D × Bool) := r_.bind fun _ (env : Fm) =>  k_ev_fnv2 Γ call f x (evs Γ call es env)
@[simp] theorem k_ev_fnv1_k (Γ : Ctx) (call : Nat → List (D × Bool) → CRes) (f : Nat) (x : Nat) (es : Es) (v_ : D) (env : Fm) : k_ev_fnv1 Γ call f x es (.ok v_ env) =  k_ev_fnv2 Γ call f x (evs Γ call es env) := rfl
@[simp] theorem k_ev_fnv1_x (Γ : Ctx) (call : Nat → List (D × Bool) → CRes) (f : Nat) (x : Nat) (es : Es) (z_ : Exn) (env : Fm) : k_ev_fnv1 Γ call f x es (.exc z_ env) = .exc z_ env := rfl
@[simp] theorem k_ev_fnv1_e (Γ : Ctx) (call : Nat → List (D × Bool) → CRes) (f : Nat) (x : Nat) (es : Es) : k_ev_fnv1 Γ call f x es .err = .err := rfl
@[simp] theorem ev_fnv (Γ : Ctx) (call : Nat → List (D × Bool) → CRes) (f : Nat) (x : Nat) (es : Es) (env : Fm) : ev Γ call (.fnv f x es) env =  k_ev_fnv1 Γ call f x es (Res.lift (rdv x env) env) := by
  first | rfl | (simp only [ev]; done) | (simp only [ev]; rfl)
noncomputable def k_ev_fnk2 (Γ : Ctx) (call : Nat → List (D × Bool) → CRes) (f : Nat) (ds : List D) (r_ : Res (D × Bool)) : Res (D × Bool) := r_.bind fun y (env : Fm) =>
      match call f ((ds ++ [y.1]).map fun d => (d, false)) with
      | .ret r none => .ok r env
      | .exc x none => .exc x env
      | _ => .err
@[simp] theorem k_ev_fnk2_k (Γ : Ctx) (call : Nat → List (D × Bool) → CRes) (f : Nat) (ds : List D) (y : D × Bool) (env : Fm) : k_ev_fnk2 Γ call f ds (.ok y env) =
      match call f ((ds ++ [y.1]).map fun d => (d, false)) with
      | .ret r none => .ok r env
      | .exc x none => .exc x env
      | _ => .err := rfl
@[simp] theorem k_ev_fnk2_x (Γ : Ctx) (call : Nat → List (D × Bool) → CRes) (f : Nat) (ds : List D) (z_ : Exn) (env : Fm) : k_ev_fnk2 Γ call f ds (.exc z_ env) = .exc z_ env := rfl
@[simp] theorem k_ev_fnk2_e (Γ : Ctx) (call : Nat → List (D × Bool) → CRes) (f : Nat) (ds : List D) : k_ev_fnk2 Γ call f ds .err = .err := rfl
noncomputable def k_ev_fnk1 (Γ : Ctx) (call : Nat → List (D × Bool) → CRes) (f : Nat) (k : E) (r_ : Res (List D)) : Res (D × Bool) := r_.bind fun ds (env : Fm) =>  k_ev_fnk2 Γ call f ds (ev Γ call k env)
@[simp] theorem k_ev_fnk1_k (Γ : Ctx) (call : Nat → List (D × Bool) → CRes) (f : Nat) (k : E) (ds : List D) (env : Fm) : k_ev_fnk1 Γ call f k (.ok ds env) =  k_ev_fnk2 Γ call f ds (ev Γ call k env) := rfl
@[simp] theorem k_ev_fnk1_x (Γ : Ctx) (call : Nat → List (D × Bool) → CRes) (f : Nat) (k : E) (z_ : Exn) (env : Fm) : k_ev_fnk1 Γ call f k (.exc z_ env) = .exc z_ env := rfl
@[simp] theorem k_ev_fnk1_e (Γ : Ctx) (call : Nat → List (D × Bool) → CRes) (f : Nat) (k : E) : k_ev_fnk1 Γ call f k .err = .err := rfl
@[simp] theorem ev_fnk (Γ : Ctx) (call : Nat → List (D × Bool) → CRes) (f : Nat) (es : Es) (k : E) (env : Fm) : ev Γ call (.fnk f es k) env =  k_ev_fnk1 Γ call f k (evs Γ call es env) := by
  first | rfl | (simp only [ev]; done) | (simp only [ev]; rfl)
noncomputable def k_ev_mth2 (Γ : Ctx) (call : Nat → List (D × Bool) → CRes) (m : Nat) (x : D × Bool) (r_ : Res (List D)) : Res (D × Bool) := r_.bind fun ds (env : Fm) =>
      match x.1 with
      | .ins c fs vs =>
        match Γ.meth c m with
        | some f =>
          match call f ((.ins c fs vs, false) :: ds.map fun d => (d, false)) with
          | .ret r none => .ok r env
          | .exc x none => .exc x env
          | _ => .err
        | none => .err
      | _ => .err
@[simp] theorem k_ev_mth2_k (Γ : Ctx) (call : Nat → List (D × Bool) → CRes) (m : Nat) (x : D × Bool) (ds : List D) (env : Fm) : k_ev_mth2 Γ call m x (.ok ds env) =
      match x.1 with
      | .ins c fs vs =>
        match Γ.meth c m with
        | some f =>
          match call f ((.ins c fs vs, false) :: ds.map fun d => (d, false)) with
          | .ret r none => .ok r env
          | .exc x none => .exc x env
          | _ => .err
        | none => .err
      | _ => .err := rfl
@[simp] theorem k_ev_mth2_x (Γ : Ctx) (call : Nat → List (D × Bool) → CRes) (m : Nat) (x : D × Bool) (z_ : Exn) (env : Fm) : k_ev_mth2 Γ call m x (.exc z_ env) = .exc z_ env := rfl
@[simp] theorem k_ev_mth2_e (Γ : Ctx) (call : Nat → List (D × Bool) → CRes) (m : Nat) (x : D × Bool) : k_ev_mth2 Γ call m x .err = .err := rfl
noncomputable def k_ev_mth1 (Γ : Ctx) (call : Nat → List (D × Bool) → CRes) (m : Nat) (es : Es) (r_ : Res (D × Bool)) : Res (D × Bool) := r_.bind fun x (env : Fm) =>  k_ev_mth2 Γ call m x (evs Γ call es env)
@[simp] theorem k_ev_mth1_k (Γ : Ctx) (call : Nat → List (D × Bool) → CRes) (m : Nat) (es : Es) (x : D × Bool) (env : Fm) : k_ev_mth1 Γ call m es (.ok x env) =  k_ev_mth2 Γ call m x (evs Γ call es env) := rfl
@[simp] theorem k_ev_mth1_x (Γ : Ctx) (call : Nat → List (D × Bool) → CRes) (m : Nat) (es : Es) (z_ : Exn) (env : Fm) : k_ev_mth1 Γ call m es (.exc z_ env) = .exc z_ env := rfl
@[simp] theorem k_ev_mth1_e (Γ : Ctx) (call : Nat → List (D × Bool) → CRes) (m : Nat) (es : Es) : k_ev_mth1 Γ call m es .err = .err := rfl
@[simp] theorem ev_mth (Γ : Ctx) (call : Nat → List (D × Bool) → CRes) (o : E) (m : Nat) (es : Es) (env : Fm) : ev Γ call (.mth o m es) env =  k_ev_mth1 Γ call m es (ev Γ call o env) := by
  first | rfl | (simp only [ev]; done) | (simp only [ev]; rfl)
noncomputable def k_ev_mthp1 (Γ : Ctx) (call : Nat → List (D × Bool) → CRes) (p : E) (m : Nat) (r_ : Res (List D)) : Res (D × Bool) := r_.bind fun ds (env : Fm) =>
      match pth Γ p env with
      | some (.ins c fs vs, true) =>
        match Γ.meth c m with
        | some f =>
          match call f ((.ins c fs vs, true) :: ds.map fun d => (d, false)) with
          | .ret r (some d') => .ok r (setP Γ p d' env)
          | .exc x (some d') => .exc x (setP Γ p d' env)
          | _ => .err
        | none => .err
      | _ => .err
@[simp] theorem k_ev_mthp1_k (Γ : Ctx) (call : Nat → List (D × Bool) → CRes) (p : E) (m : Nat) (ds : List D) (env : Fm) : k_ev_mthp1 Γ call p m (.ok ds env) =
      match pth Γ p env with
      | some (.ins c fs vs, true) =>
        match Γ.meth c m with
        | some f =>
          match call f ((.ins c fs vs, true) :: ds.map fun d => (d, false)) with
          | .ret r (some d') => .ok r (setP Γ p d' env)
          | .exc x (some d') => .exc x (setP Γ p d' env)
          | _ => .err
        | none => .err
      | _ => .err := rfl
@[simp] theorem k_ev_mthp1_x (Γ : Ctx) (call : Nat → List (D × Bool) → CRes) (p : E) (m : Nat) (z_ : Exn) (env : Fm) : k_ev_mthp1 Γ call p m (.exc z_ env) = .exc z_ env := rfl
@[simp] theorem k_ev_mthp1_e (Γ : Ctx) (call : Nat → List (D × Bool) → CRes) (p : E) (m : Nat) : k_ev_mthp1 Γ call p m .err = .err := rfl
@[simp] theorem ev_mthp (Γ : Ctx) (call : Nat → List (D × Bool) → CRes) (p : E) (m : Nat) (es : Es) (env : Fm) : ev Γ call (.mthp p m es) env = if es.simple = true then  k_ev_mthp1 Γ call p m (evs Γ call es env) else .err := by
  first | rfl | (simp only [ev]; done) | (simp only [ev]; rfl)
noncomputable def k_ev_new1 (Γ : Ctx) (call : Nat → List (D × Bool) → CRes) (c : Nat) (r_ : Res (List D)) : Res (D × Bool) := r_.bind fun ds (env : Fm) =>
      match Γ.init c with
      | some f =>
        match call f ((.ins c [] [], true) :: ds.map fun d => (d, false)) with
        | .ret (.non, _) (some d') => .ok (d', true) env
        | .exc x (some _) => .exc x env
        | _ => .err
      | none => .err
@[simp] theorem k_ev_new1_k (Γ : Ctx) (call : Nat → List (D × Bool) → CRes) (c : Nat) (ds : List D) (env : Fm) : k_ev_new1 Γ call c (.ok ds env) =
      match Γ.init c with
      | some f =>
        match call f ((.ins c [] [], true) :: ds.map fun d => (d, false)) with
        | .ret (.non, _) (some d') => .ok (d', true) env
        | .exc x (some _) => .exc x env
        | _ => .err
      | none => .err := rfl
@[simp] theorem k_ev_new1_x (Γ : Ctx) (call : Nat → List (D × Bool) → CRes) (c : Nat) (z_ : Exn) (env : Fm) : k_ev_new1 Γ call c (.exc z_ env) = .exc z_ env := rfl
@[simp] theorem k_ev_new1_e (Γ : Ctx) (call : Nat → List (D × Bool) → CRes) (c : Nat) : k_ev_new1 Γ call c .err = .err := rfl
@[simp] theorem ev_new (Γ : Ctx) (call : Nat → List (D × Bool) → CRes) (c : Nat) (es : Es) (env : Fm) : ev Γ call (.new c es) env =  k_ev_new1 Γ call c (evs Γ call es env) := by
  first | rfl | (simp only [ev]; done) | (simp only [ev]; rfl)
noncomputable def k_ev_pop1 (Γ : Ctx) (call : Nat → List (D × Bool) → CRes) (x : Nat) (i : E) (r_ : Res (D × Bool)) : Res (D × Bool) := r_.bind fun y (env : Fm) =>
      match env[x]?, y.1 with
      | some (some (.lst l, true)), .int i =>
        match ixn l.length i with
        | some j =>
          match l[j]? with
          | some d => .ok (d, false) (env.set x (some (.lst (l.eraseIdx j), true)))
          | none => .err
        | none => .err
      | _, _ => .err
@[simp] theorem k_ev_pop1_k (Γ : Ctx) (call : Nat → List (D × Bool) → CRes) (x : Nat) (i : E) (y : D × Bool) (env : Fm) : k_ev_pop1 Γ call x i (.ok y env) =
      match env[x]?, y.1 with
      | some (some (.lst l, true)), .int i =>
        match ixn l.length i with
        | some j =>
          match l[j]? with
          | some d => .ok (d, false) (env.set x (some (.lst (l.eraseIdx j), true)))
          | none => .err
        | none => .err
      | _, _ => .err := rfl
@[simp] theorem k_ev_pop1_x (Γ : Ctx) (call : Nat → List (D × Bool) → CRes) (x : Nat) (i : E) (z_ : Exn) (env : Fm) : k_ev_pop1 Γ call x i (.exc z_ env) = .exc z_ env := rfl
@[simp] theorem k_ev_pop1_e (Γ : Ctx) (call : Nat → List (D × Bool) → CRes) (x : Nat) (i : E) : k_ev_pop1 Γ call x i .err = .err := rfl
@[simp] theorem ev_pop (Γ : Ctx) (call : Nat → List (D × Bool) → CRes) (x : Nat) (i : E) (env : Fm) : ev Γ call (.pop x i) env =  k_ev_pop1 Γ call x i (ev Γ call i env) := by
  first | rfl | (simp only [ev]; done) | (simp only [ev]; rfl)
noncomputable def k_ev_lc2 (Γ : Ctx) (call : Nat → List (D × Bool) → CRes) (tg : Tg) (env : Fm) (r_ : Res (List D)) : Res (D × Bool) := r_.bind fun ds (e : Fm) => .ok (.lst ds, true) (rst e env tg.ixs)
@[simp] theorem k_ev_lc2_k (Γ : Ctx) (call : Nat → List (D × Bool) → CRes) (tg : Tg) (env : Fm) (ds : List D) (e : Fm) : k_ev_lc2 Γ call tg env (.ok ds e) = .ok (.lst ds, true) (rst e env tg.ixs) := rfl
@[simp] theorem k_ev_lc2_x (Γ : Ctx) (call : Nat → List (D × Bool) → CRes) (tg : Tg) (env : Fm) (z_ : Exn) (e : Fm) : k_ev_lc2 Γ call tg env (.exc z_ e) = .exc z_ e := rfl
@[simp] theorem k_ev_lc2_e (Γ : Ctx) (call : Nat → List (D × Bool) → CRes) (tg : Tg) (env : Fm) : k_ev_lc2 Γ call tg env .err = .err := rfl
noncomputable def k_ev_lc1 (Γ : Ctx) (call : Nat → List (D × Bool) → CRes) (tg : Tg) (c : O) (body : E) (r_ : Res (List D)) : Res (D × Bool) := r_.bind fun items (env : Fm) =>  k_ev_lc2 Γ call tg env (lcl Γ call tg c body items (wip env tg.ixs) [])
@[simp] theorem k_ev_lc1_k (Γ : Ctx) (call : Nat → List (D × Bool) → CRes) (tg : Tg) (c : O) (body : E) (items : List D) (env : Fm) : k_ev_lc1 Γ call tg c body (.ok items env) =  k_ev_lc2 Γ call tg env (lcl Γ call tg c body items (wip env tg.ixs) []) := rfl
@[simp] theorem k_ev_lc1_x (Γ : Ctx) (call : Nat → List (D × Bool) → CRes) (tg : Tg) (c : O) (body : E) (z_ : Exn) (env : Fm) : k_ev_lc1 Γ call tg c body (.exc z_ env) = .exc z_ env := rfl
@[simp] theorem k_ev_lc1_e (Γ : Ctx) (call : Nat → List (D × Bool) → CRes) (tg : Tg) (c : O) (body : E) : k_ev_lc1 Γ call tg c body .err = .err := rfl
@[simp] theorem ev_lc (Γ : Ctx) (call : Nat → List (D × Bool) → CRes) (it : Src) (tg : Tg) (c : O) (body : E) (env : Fm) : ev Γ call (.lc it tg c body) env =  k_ev_lc1 Γ call tg c body (evi Γ call it env) := by
  first | rfl | (simp only [ev]; done) | (simp only [ev]; rfl)
@[simp] theorem ev_lc2 (Γ : Ctx) (call : Nat → List (D × Bool) → CRes) (it : Src) (tg : Tg) (it2 : Src) (tg2 : Tg) (body : E) (env : Fm) : ev Γ call (.lc2 it tg it2 tg2 body) env = .err := by
  first | rfl | (simp only [ev]; done) | (simp only [ev]; rfl)
@[simp] theorem ev_dc (Γ : Ctx) (call : Nat → List (D × Bool) → CRes) (it : Src) (tg : Tg) (k : E) (v : E) (env : Fm) : ev Γ call (.dc it tg k v) env = .err := by
  first | rfl | (simp only [ev]; done) | (simp only [ev]; rfl)
@[simp] theorem evs_nil (Γ : Ctx) (call : Nat → List (D × Bool) → CRes) (env : Fm) : evs Γ call .nil env = .ok [] env := by
  first | rfl | (simp only [evs]; done) | (simp only [evs]; rfl)
noncomputable def k_evs_cons2 (Γ : Ctx) (call : Nat → List (D × Bool) → CRes) (x : D × Bool) (r_ : Res (List D)) : Res (List D) := r_.bind fun ds (env : Fm) => .ok (x.1 :: ds) env
@[simp] theorem k_evs_cons2_k (Γ : Ctx) (call : Nat → List (D × Bool) → CRes) (x : D × Bool) (ds : List D) (env : Fm) : k_evs_cons2 Γ call x (.ok ds env) = .ok (x.1 :: ds) env := rfl
@[simp] theorem k_evs_cons2_x (Γ : Ctx) (call : Nat → List (D × Bool) → CRes) (x : D × Bool) (z_ : Exn) (env : Fm) : k_evs_cons2 Γ call x (.exc z_ env) = .exc z_ env := rfl
@[simp] theorem k_evs_cons2_e (Γ : Ctx) (call : Nat → List (D × Bool) → CRes) (x : D × Bool) : k_evs_cons2 Γ call x .err = .err := rfl
noncomputable def k_evs_cons1 (Γ : Ctx) (call : Nat → List (D × Bool) → CRes) (es : Es) (r_ : Res (D × Bool)) : Res (List D) := r_.bind fun x (env : Fm) =>  k_evs_cons2 Γ call x (evs Γ call es env)
@[simp] theorem k_evs_cons1_k (Γ : Ctx) (call : Nat → List (D × Bool) → CRes) (es : Es) (x : D × Bool) (env : Fm) : k_evs_cons1 Γ call es (.ok x env) =  k_evs_cons2 Γ call x (evs Γ call es env) := rfl
@[simp] theorem k_evs_cons1_x (Γ : Ctx) (call : Nat → List (D × Bool) → CRes) (es : Es) (z_ : Exn) (env : Fm) : k_evs_cons1 Γ call es (.exc z_ env) = .exc z_ env := rfl
@[simp] theorem k_evs_cons1_e (Γ : Ctx) (call : Nat → List (D × Bool) → CRes) (es : Es) : k_evs_cons1 Γ call es .err = .err := rfl
@[simp] theorem evs_cons (Γ : Ctx) (call : Nat → List (D × Bool) → CRes) (e : E) (es : Es) (env : Fm) : evs Γ call (.cons e es) env =  k_evs_cons1 Γ call es (ev Γ call e env) := by
  first | rfl | (simp only [evs]; done) | (simp only [evs]; rfl)
@[simp] theorem evo_none (Γ : Ctx) (call : Nat → List (D × Bool) → CRes) (env : Fm) : evo Γ call .none env = .ok none env := by
  first | rfl | (simp only [evo]; done) | (simp only [evo]; rfl)
noncomputable def k_evo_some1 (Γ : Ctx) (call : Nat → List (D × Bool) → CRes) (r_ : Res (D × Bool)) : Res (Option Int) := r_.bind fun x (env : Fm) => match x.1 with | .int i => .ok (some i) env | _ => .err
@[simp] theorem k_evo_some1_k (Γ : Ctx) (call : Nat → List (D × Bool) → CRes) (x : D × Bool) (env : Fm) : k_evo_some1 Γ call (.ok x env) = match x.1 with | .int i => .ok (some i) env | _ => .err := rfl
@[simp] theorem k_evo_some1_x (Γ : Ctx) (call : Nat → List (D × Bool) → CRes) (z_ : Exn) (env : Fm) : k_evo_some1 Γ call (.exc z_ env) = .exc z_ env := rfl
@[simp] theorem k_evo_some1_e (Γ : Ctx) (call : Nat → List (D × Bool) → CRes) : k_evo_some1 Γ call .err = .err := rfl
@[simp] theorem evo_some (Γ : Ctx) (call : Nat → List (D × Bool) → CRes) (e : E) (env : Fm) : evo Γ call (.some e) env =  k_evo_some1 Γ call (ev Γ call e env) := by
  first | rfl | (simp only [evo]; done) | (simp only [evo]; rfl)
noncomputable def k_evi_seq1 (Γ : Ctx) (call : Nat → List (D × Bool) → CRes) (r_ : Res (D × Bool)) : Res (List D) := r_.bind fun x (env : Fm) => match x.1 with | .lst l => .ok l env | .tup l => .ok l env | _ => .err
@[simp] theorem k_evi_seq1_k (Γ : Ctx) (call : Nat → List (D × Bool) → CRes) (x : D × Bool) (env : Fm) : k_evi_seq1 Γ call (.ok x env) = match x.1 with | .lst l => .ok l env | .tup l => .ok l env | _ => .err := rfl
@[simp] theorem k_evi_seq1_x (Γ : Ctx) (call : Nat → List (D × Bool) → CRes) (z_ : Exn) (env : Fm) : k_evi_seq1 Γ call (.exc z_ env) = .exc z_ env := rfl
@[simp] theorem k_evi_seq1_e (Γ : Ctx) (call : Nat → List (D × Bool) → CRes) : k_evi_seq1 Γ call .err = .err := rfl
@[simp] theorem evi_seq (Γ : Ctx) (call : Nat → List (D × Bool) → CRes) (e : E) (env : Fm) : evi Γ call (.seq e) env =  k_evi_seq1 Γ call (ev Γ call e env) := by
  first | rfl | (simp only [evi]; done) | (simp only [evi]; rfl)
@[simp] theorem evi_pek (Γ : Ctx) (call : Nat → List (D × Bool) → CRes) (p : E) (env : Fm) : evi Γ call (.pek p) env = .err := by
  first | rfl | (simp only [evi]; done) | (simp only [evi]; rfl)
noncomputable def k_evi_rng11 (Γ : Ctx) (call : Nat → List (D × Bool) → CRes) (r_ : Res (D × Bool)) : Res (List D) := r_.bind fun x (env : Fm) => match x.1 with | .int n => if -100000000 ≤ n ∧ n ≤ 100000000 then .ok (rgD 0 n) env else .err | _ => .err
@[simp] theorem k_evi_rng11_k (Γ : Ctx) (call : Nat → List (D × Bool) → CRes) (x : D × Bool) (env : Fm) : k_evi_rng11 Γ call (.ok x env) = match x.1 with | .int n => if -100000000 ≤ n ∧ n ≤ 100000000 then .ok (rgD 0 n) env else .err | _ => .err := rfl
@[simp] theorem k_evi_rng11_x (Γ : Ctx) (call : Nat → List (D × Bool) → CRes) (z_ : Exn) (env : Fm) : k_evi_rng11 Γ call (.exc z_ env) = .exc z_ env := rfl
@[simp] theorem k_evi_rng11_e (Γ : Ctx) (call : Nat → List (D × Bool) → CRes) : k_evi_rng11 Γ call .err = .err := rfl
@[simp] theorem evi_rng1 (Γ : Ctx) (call : Nat → List (D × Bool) → CRes) (e : E) (env : Fm) : evi Γ call (.rng1 e) env =  k_evi_rng11 Γ call (ev Γ call e env) := by
  first | rfl | (simp only [evi]; done) | (simp only [evi]; rfl)
noncomputable def k_evi_rng22 (Γ : Ctx) (call : Nat → List (D × Bool) → CRes) (x : D × Bool) (r_ : Res (D × Bool)) : Res (List D) := r_.bind fun y (env : Fm) => match x.1, y.1 with
      | .int i, .int j => if -100000000 ≤ i ∧ i ≤ 100000000 ∧ -100000000 ≤ j ∧ j ≤ 100000000 then .ok (rgD i j) env else .err
      | _, _ => .err
@[simp] theorem k_evi_rng22_k (Γ : Ctx) (call : Nat → List (D × Bool) → CRes) (x : D × Bool) (y : D × Bool) (env : Fm) : k_evi_rng22 Γ call x (.ok y env) = match x.1, y.1 with
      | .int i, .int j => if -100000000 ≤ i ∧ i ≤ 100000000 ∧ -100000000 ≤ j ∧ j ≤ 100000000 then .ok (rgD i j) env else .err
      | _, _ => .err := rfl
@[simp] theorem k_evi_rng22_x (Γ : Ctx) (call : Nat → List (D × Bool) → CRes) (x : D × Bool) (z_ : Exn) (env : Fm) : k_evi_rng22 Γ call x (.exc z_ env) = .exc z_ env := rfl
@[simp] theorem k_evi_rng22_e (Γ : Ctx) (call : Nat → List (D × Bool) → CRes) (x : D × Bool) : k_evi_rng22 Γ call x .err = .err := rfl
noncomputable def k_evi_rng21 (Γ : Ctx) (call : Nat → List (D × Bool) → CRes) (b : E) (r_ : Res (D × Bool)) : Res (List D) := r_.bind fun x (env : Fm) =>  k_evi_rng22 Γ call x (ev Γ call b env)
@[simp] theorem k_evi_rng21_k (Γ : Ctx) (call : Nat → List (D × Bool) → CRes) (b : E) (x : D × Bool) (env : Fm) : k_evi_rng21 Γ call b (.ok x env) =  k_evi_rng22 Γ call x (ev Γ call b env) := rfl
@[simp] theorem k_evi_rng21_x (Γ : Ctx) (call : Nat → List (D × Bool) → CRes) (b : E) (z_ : Exn) (env : Fm) : k_evi_rng21 Γ call b (.exc z_ env) = .exc z_ env := rfl
@[simp] theorem k_evi_rng21_e (Γ : Ctx) (call : Nat → List (D × Bool) → CRes) (b : E) : k_evi_rng21 Γ call b .err = .err := rfl
@[simp] theorem evi_rng2 (Γ : Ctx) (call : Nat → List (D × Bool) → CRes) (a : E) (b : E) (env : Fm) : evi Γ call (.rng2 a b) env =  k_evi_rng21 Γ call b (ev Γ call a env) := by
  first | rfl | (simp only [evi]; done) | (simp only [evi]; rfl)
noncomputable def k_evi_enm1 (Γ : Ctx) (call : Nat → List (D × Bool) → CRes) (r_ : Res (D × Bool)) : Res (List D) := r_.bind fun x (env : Fm) =>
      match x.1 with
      | .lst l => .ok ((rgD 0 l.length).zipWith (fun a b => .tup [a, b]) l) env
      | .tup l => .ok ((rgD 0 l.length).zipWith (fun a b => .tup [a, b]) l) env
      | _ => .err
@[simp] theorem k_evi_enm1_k (Γ : Ctx) (call : Nat → List (D × Bool) → CRes) (x : D × Bool) (env : Fm) : k_evi_enm1 Γ call (.ok x env) =
      match x.1 with
      | .lst l => .ok ((rgD 0 l.length).zipWith (fun a b => .tup [a, b]) l) env
      | .tup l => .ok ((rgD 0 l.length).zipWith (fun a b => .tup [a, b]) l) env
      | _ => .err := rfl
@[simp] theorem k_evi_enm1_x (Γ : Ctx) (call : Nat → List (D × Bool) → CRes) (z_ : Exn) (env : Fm) : k_evi_enm1 Γ call (.exc z_ env) = .exc z_ env := rfl
@[simp] theorem k_evi_enm1_e (Γ : Ctx) (call : Nat → List (D × Bool) → CRes) : k_evi_enm1 Γ call .err = .err := rfl
@[simp] theorem evi_enm (Γ : Ctx) (call : Nat → List (D × Bool) → CRes) (e : E) (env : Fm) : evi Γ call (.enm e) env =  k_evi_enm1 Γ call (ev Γ call e env) := by
  first | rfl | (simp only [evi]; done) | (simp only [evi]; rfl)
noncomputable def k_evi_zip2 (Γ : Ctx) (call : Nat → List (D × Bool) → CRes) (a : E) (b : E) (x : D × Bool) (r_ : Res (D × Bool)) : Res (List D) := r_.bind fun y (env : Fm) =>
      match x.1, y.1 with
      | .lst l, .lst m => .ok (l.zipWith (fun a b => .tup [a, b]) m) env
      | .tup l, .tup m => .ok (l.zipWith (fun a b => .tup [a, b]) m) env
      | .lst l, .tup m => .ok (l.zipWith (fun a b => .tup [a, b]) m) env
      | .tup l, .lst m => .ok (l.zipWith (fun a b => .tup [a, b]) m) env
      | _, _ => .err
@[simp] theorem k_evi_zip2_k (Γ : Ctx) (call : Nat → List (D × Bool) → CRes) (a : E) (b : E) (x : D × Bool) (y : D × Bool) (env : Fm) : k_evi_zip2 Γ call a b x (.ok y env) =
      match x.1, y.1 with
      | .lst l, .lst m => .ok (l.zipWith (fun a b => .tup [a, b]) m) env
      | .tup l, .tup m => .ok (l.zipWith (fun a b => .tup [a, b]) m) env
      | .lst l, .tup m => .ok (l.zipWith (fun a b => .tup [a, b]) m) env
      | .tup l, .lst m => .ok (l.zipWith (fun a b => .tup [a, b]) m) env
      | _, _ => .err := rfl
@[simp] theorem k_evi_zip2_x (Γ : Ctx) (call : Nat → List (D × Bool) → CRes) (a : E) (b : E) (x : D × Bool) (z_ : Exn) (env : Fm) : k_evi_zip2 Γ call a b x (.exc z_ env) = .exc z_ env := rfl
@[simp] theorem k_evi_zip2_e (Γ : Ctx) (call : Nat → List (D × Bool) → CRes) (a : E) (b : E) (x : D × Bool) : k_evi_zip2 Γ call a b x .err = .err := rfl
noncomputable def k_evi_zip1 (Γ : Ctx) (call : Nat → List (D × Bool) → CRes) (a : E) (b : E) (r_ : Res (D × Bool)) : Res (List D) := r_.bind fun x (env : Fm) =>  k_evi_zip2 Γ call a b x (ev Γ call b env)
@[simp] theorem k_evi_zip1_k (Γ : Ctx) (call : Nat → List (D × Bool) → CRes) (a : E) (b : E) (x : D × Bool) (env : Fm) : k_evi_zip1 Γ call a b (.ok x env) =  k_evi_zip2 Γ call a b x (ev Γ call b env) := rfl
@[simp] theorem k_evi_zip1_x (Γ : Ctx) (call : Nat → List (D × Bool) → CRes) (a : E) (b : E) (z_ : Exn) (env : Fm) : k_evi_zip1 Γ call a b (.exc z_ env) = .exc z_ env := rfl
@[simp] theorem k_evi_zip1_e (Γ : Ctx) (call : Nat → List (D × Bool) → CRes) (a : E) (b : E) : k_evi_zip1 Γ call a b .err = .err := rfl
@[simp] theorem evi_zip (Γ : Ctx) (call : Nat → List (D × Bool) → CRes) (a : E) (b : E) (env : Fm) : evi Γ call (.zip a b) env =  k_evi_zip1 Γ call a b (ev Γ call a env) := by
  first | rfl | (simp only [evi]; done) | (simp only [evi]; rfl)
@[simp] theorem evi_vals (Γ : Ctx) (call : Nat → List (D × Bool) → CRes) (e : E) (env : Fm) : evi Γ call (.vals e) env = .err := by
  first | rfl | (simp only [evi]; done) | (simp only [evi]; rfl)
@[simp] theorem evp_nil (Γ : Ctx) (call : Nat → List (D × Bool) → CRes) (env : Fm) : evp Γ call .nil env = .ok [] env := by
  first | rfl | (simp only [evp]; done) | (simp only [evp]; rfl)
noncomputable def k_evp_cons2 (Γ : Ctx) (call : Nat → List (D × Bool) → CRes) (x : D × Bool) (r_ : Res (List (D × Bool))) : Res (List (D × Bool)) := r_.bind fun ds (env : Fm) => .ok (x :: ds) env
@[simp] theorem k_evp_cons2_k (Γ : Ctx) (call : Nat → List (D × Bool) → CRes) (x : D × Bool) (ds : List (D × Bool)) (env : Fm) : k_evp_cons2 Γ call x (.ok ds env) = .ok (x :: ds) env := rfl
@[simp] theorem k_evp_cons2_x (Γ : Ctx) (call : Nat → List (D × Bool) → CRes) (x : D × Bool) (z_ : Exn) (env : Fm) : k_evp_cons2 Γ call x (.exc z_ env) = .exc z_ env := rfl
@[simp] theorem k_evp_cons2_e (Γ : Ctx) (call : Nat → List (D × Bool) → CRes) (x : D × Bool) : k_evp_cons2 Γ call x .err = .err := rfl
noncomputable def k_evp_cons1 (Γ : Ctx) (call : Nat → List (D × Bool) → CRes) (es : Es) (r_ : Res (D × Bool)) : Res (List (D × Bool)) := r_.bind fun x (env : Fm) =>  k_evp_cons2 Γ call x (evp Γ call es env)
@[simp] theorem k_evp_cons1_k (Γ : Ctx) (call : Nat → List (D × Bool) → CRes) (es : Es) (x : D × Bool) (env : Fm) : k_evp_cons1 Γ call es (.ok x env) =  k_evp_cons2 Γ call x (evp Γ call es env) := rfl
@[simp] theorem k_evp_cons1_x (Γ : Ctx) (call : Nat → List (D × Bool) → CRes) (es : Es) (z_ : Exn) (env : Fm) : k_evp_cons1 Γ call es (.exc z_ env) = .exc z_ env := rfl
@[simp] theorem k_evp_cons1_e (Γ : Ctx) (call : Nat → List (D × Bool) → CRes) (es : Es) : k_evp_cons1 Γ call es .err = .err := rfl
@[simp] theorem evp_cons (Γ : Ctx) (call : Nat → List (D × Bool) → CRes) (e : E) (es : Es) (env : Fm) : evp Γ call (.cons e es) env =  k_evp_cons1 Γ call es (ev Γ call e env) := by
  first | rfl | (simp only [evp]; done) | (simp only [evp]; rfl)
noncomputable def k_ex_asg1 (Γ : Ctx) (call : Nat → List (D × Bool) → CRes) (io : Bool) (tg : Tg) (r_ : Res (D × Bool)) : Fl := r_.fl fun r (env : Fm) =>
      match bnd io tg r env with
      | some env => .nx env
      | none => .err
@[simp] theorem k_ex_asg1_k (Γ : Ctx) (call : Nat → List (D × Bool) → CRes) (io : Bool) (tg : Tg) (r : D × Bool) (env : Fm) : k_ex_asg1 Γ call io tg (.ok r env) =
      match bnd io tg r env with
      | some env => .nx env
      | none => .err := rfl
@[simp] theorem k_ex_asg1_x (Γ : Ctx) (call : Nat → List (D × Bool) → CRes) (io : Bool) (tg : Tg) (z_ : Exn) (env : Fm) : k_ex_asg1 Γ call io tg (.exc z_ env) = .exc z_ env := rfl
@[simp] theorem k_ex_asg1_e (Γ : Ctx) (call : Nat → List (D × Bool) → CRes) (io : Bool) (tg : Tg) : k_ex_asg1 Γ call io tg .err = .err := rfl
@[simp] theorem ex_asg (Γ : Ctx) (call : Nat → List (D × Bool) → CRes) (io : Bool) (tg : Tg) (e : E) (env : Fm) : ex Γ call io (.asg tg e) env =  k_ex_asg1 Γ call io tg (ev Γ call e env) := by
  first | rfl | (simp only [ex]; done) | (simp only [ex]; rfl)
noncomputable def k_ex_par1 (Γ : Ctx) (call : Nat → List (D × Bool) → CRes) (io : Bool) (is : List Nat) (r_ : Res (List (D × Bool))) : Fl := r_.fl fun rs (env : Fm) =>
      if rs.length = is.length ∧ (io = true → 0 ∉ is) then .nx ((is.zip rs).foldl (fun e p => e.set p.1 (some p.2)) env) else .err
@[simp] theorem k_ex_par1_k (Γ : Ctx) (call : Nat → List (D × Bool) → CRes) (io : Bool) (is : List Nat) (rs : List (D × Bool)) (env : Fm) : k_ex_par1 Γ call io is (.ok rs env) =
      if rs.length = is.length ∧ (io = true → 0 ∉ is) then .nx ((is.zip rs).foldl (fun e p => e.set p.1 (some p.2)) env) else .err := rfl
@[simp] theorem k_ex_par1_x (Γ : Ctx) (call : Nat → List (D × Bool) → CRes) (io : Bool) (is : List Nat) (z_ : Exn) (env : Fm) : k_ex_par1 Γ call io is (.exc z_ env) = .exc z_ env := rfl
@[simp] theorem k_ex_par1_e (Γ : Ctx) (call : Nat → List (D × Bool) → CRes) (io : Bool) (is : List Nat) : k_ex_par1 Γ call io is .err = .err := rfl
@[simp] theorem ex_par (Γ : Ctx) (call : Nat → List (D × Bool) → CRes) (io : Bool) (is : List Nat) (es : Es) (env : Fm) : ex Γ call io (.par is es) env =  k_ex_par1 Γ call io is (evp Γ call es env) := by
  first | rfl | (simp only [ex]; done) | (simp only [ex]; rfl)
noncomputable def k_ex_aug1 (Γ : Ctx) (call : Nat → List (D × Bool) → CRes) (io : Bool) (i : Nat) (sb : Bool) (a : Int) (r_ : Res (D × Bool)) : Fl := r_.fl fun r (env : Fm) =>
        match r.1 with
        | .int b => if io = true ∧ i = 0 then .err else .nx (env.set i (some (.int (if sb = true then a - b else a + b), false)))
        | _ => .err
@[simp] theorem k_ex_aug1_k (Γ : Ctx) (call : Nat → List (D × Bool) → CRes) (io : Bool) (i : Nat) (sb : Bool) (a : Int) (r : D × Bool) (env : Fm) : k_ex_aug1 Γ call io i sb a (.ok r env) =
        match r.1 with
        | .int b => if io = true ∧ i = 0 then .err else .nx (env.set i (some (.int (if sb = true then a - b else a + b), false)))
        | _ => .err := rfl
@[simp] theorem k_ex_aug1_x (Γ : Ctx) (call : Nat → List (D × Bool) → CRes) (io : Bool) (i : Nat) (sb : Bool) (a : Int) (z_ : Exn) (env : Fm) : k_ex_aug1 Γ call io i sb a (.exc z_ env) = .exc z_ env := rfl
@[simp] theorem k_ex_aug1_e (Γ : Ctx) (call : Nat → List (D × Bool) → CRes) (io : Bool) (i : Nat) (sb : Bool) (a : Int) : k_ex_aug1 Γ call io i sb a .err = .err := rfl
@[simp] theorem ex_aug (Γ : Ctx) (call : Nat → List (D × Bool) → CRes) (io : Bool) (i : Nat) (sb : Bool) (e : E) (env : Fm) : ex Γ call io (.aug i sb e) env =
    match rdv i env with
    | some (.int a) =>  k_ex_aug1 Γ call io i sb a (ev Γ call e env)
    | _ => .err := by
  first | rfl | (simp only [ex]; done) | (simp only [ex]; rfl)
noncomputable def k_ex_sub2 (Γ : Ctx) (call : Nat → List (D × Bool) → CRes) (io : Bool) (x : Nat) (i : E) (r : D × Bool) (r_ : Res (D × Bool)) : Fl := r_.fl fun y (env : Fm) =>
        match env[x]?, y.1 with
        | some (some (.lst l, true)), .int i =>
          match setI l i r.1 with
          | some l' => .nx (env.set x (some (.lst l', true)))
          | none => .err
        | _, _ => .err
@[simp] theorem k_ex_sub2_k (Γ : Ctx) (call : Nat → List (D × Bool) → CRes) (io : Bool) (x : Nat) (i : E) (r : D × Bool) (y : D × Bool) (env : Fm) : k_ex_sub2 Γ call io x i r (.ok y env) =
        match env[x]?, y.1 with
        | some (some (.lst l, true)), .int i =>
          match setI l i r.1 with
          | some l' => .nx (env.set x (some (.lst l', true)))
          | none => .err
        | _, _ => .err := rfl
@[simp] theorem k_ex_sub2_x (Γ : Ctx) (call : Nat → List (D × Bool) → CRes) (io : Bool) (x : Nat) (i : E) (r : D × Bool) (z_ : Exn) (env : Fm) : k_ex_sub2 Γ call io x i r (.exc z_ env) = .exc z_ env := rfl
@[simp] theorem k_ex_sub2_e (Γ : Ctx) (call : Nat → List (D × Bool) → CRes) (io : Bool) (x : Nat) (i : E) (r : D × Bool) : k_ex_sub2 Γ call io x i r .err = .err := rfl
noncomputable def k_ex_sub1 (Γ : Ctx) (call : Nat → List (D × Bool) → CRes) (io : Bool) (x : Nat) (i : E) (r_ : Res (D × Bool)) : Fl := r_.fl fun r (env : Fm) =>
      match rdv x env with
      | some _ =>  k_ex_sub2 Γ call io x i r (ev Γ call i env)
      | none => .err
@[simp] theorem k_ex_sub1_k (Γ : Ctx) (call : Nat → List (D × Bool) → CRes) (io : Bool) (x : Nat) (i : E) (r : D × Bool) (env : Fm) : k_ex_sub1 Γ call io x i (.ok r env) =
      match rdv x env with
      | some _ =>  k_ex_sub2 Γ call io x i r (ev Γ call i env)
      | none => .err := rfl
@[simp] theorem k_ex_sub1_x (Γ : Ctx) (call : Nat → List (D × Bool) → CRes) (io : Bool) (x : Nat) (i : E) (z_ : Exn) (env : Fm) : k_ex_sub1 Γ call io x i (.exc z_ env) = .exc z_ env := rfl
@[simp] theorem k_ex_sub1_e (Γ : Ctx) (call : Nat → List (D × Bool) → CRes) (io : Bool) (x : Nat) (i : E) : k_ex_sub1 Γ call io x i .err = .err := rfl
@[simp] theorem ex_sub (Γ : Ctx) (call : Nat → List (D × Bool) → CRes) (io : Bool) (x : Nat) (i : E) (e : E) (env : Fm) : ex Γ call io (.sub x i e) env =  k_ex_sub1 Γ call io x i (ev Γ call e env) := by
  first | rfl | (simp only [ex]; done) | (simp only [ex]; rfl)
@[simp] theorem ex_swp (Γ : Ctx) (call : Nat → List (D × Bool) → CRes) (io : Bool) (x : Nat) (i : E) (j : E) (a : E) (b : E) (env : Fm) : ex Γ call io (.swp x i j a b) env = .err := by
  first | rfl | (simp only [ex]; done) | (simp only [ex]; rfl)
noncomputable def k_ex_fld1 (Γ : Ctx) (call : Nat → List (D × Bool) → CRes) (io : Bool) (f : Nat) (r_ : Res (D × Bool)) : Fl := r_.fl fun r (env : Fm) =>
      match env[(0 : Nat)]? with
      | some (some (.ins c fs vs, true)) =>
        if fs.length < 100 ∧ (Γ.om c f = true → r.2 = true) then .nx (env.set 0 (some (.ins c (fput f r.1 fs vs).1 (fput f r.1 fs vs).2, true))) else .err
      | _ => .err
@[simp] theorem k_ex_fld1_k (Γ : Ctx) (call : Nat → List (D × Bool) → CRes) (io : Bool) (f : Nat) (r : D × Bool) (env : Fm) : k_ex_fld1 Γ call io f (.ok r env) =
      match env[(0 : Nat)]? with
      | some (some (.ins c fs vs, true)) =>
        if fs.length < 100 ∧ (Γ.om c f = true → r.2 = true) then .nx (env.set 0 (some (.ins c (fput f r.1 fs vs).1 (fput f r.1 fs vs).2, true))) else .err
      | _ => .err := rfl
@[simp] theorem k_ex_fld1_x (Γ : Ctx) (call : Nat → List (D × Bool) → CRes) (io : Bool) (f : Nat) (z_ : Exn) (env : Fm) : k_ex_fld1 Γ call io f (.exc z_ env) = .exc z_ env := rfl
@[simp] theorem k_ex_fld1_e (Γ : Ctx) (call : Nat → List (D × Bool) → CRes) (io : Bool) (f : Nat) : k_ex_fld1 Γ call io f .err = .err := rfl
@[simp] theorem ex_fld (Γ : Ctx) (call : Nat → List (D × Bool) → CRes) (io : Bool) (f : Nat) (e : E) (env : Fm) : ex Γ call io (.fld f e) env =  k_ex_fld1 Γ call io f (ev Γ call e env) := by
  first | rfl | (simp only [ex]; done) | (simp only [ex]; rfl)
@[simp] theorem ex_fld2 (Γ : Ctx) (call : Nat → List (D × Bool) → CRes) (io : Bool) (f : Nat) (g : Nat) (e : E) (env : Fm) : ex Γ call io (.fld2 f g e) env = .err := by
  first | rfl | (simp only [ex]; done) | (simp only [ex]; rfl)
noncomputable def k_ex_app1 (Γ : Ctx) (call : Nat → List (D × Bool) → CRes) (io : Bool) (p : E) (r_ : Res (D × Bool)) : Fl := r_.fl fun r (env : Fm) =>
      match pth Γ p env with
      | some (.lst l, true) => if l.length < LIM then .nx (setP Γ p (.lst (l ++ [r.1])) env) else .err
      | _ => .err
@[simp] theorem k_ex_app1_k (Γ : Ctx) (call : Nat → List (D × Bool) → CRes) (io : Bool) (p : E) (r : D × Bool) (env : Fm) : k_ex_app1 Γ call io p (.ok r env) =
      match pth Γ p env with
      | some (.lst l, true) => if l.length < LIM then .nx (setP Γ p (.lst (l ++ [r.1])) env) else .err
      | _ => .err := rfl
@[simp] theorem k_ex_app1_x (Γ : Ctx) (call : Nat → List (D × Bool) → CRes) (io : Bool) (p : E) (z_ : Exn) (env : Fm) : k_ex_app1 Γ call io p (.exc z_ env) = .exc z_ env := rfl
@[simp] theorem k_ex_app1_e (Γ : Ctx) (call : Nat → List (D × Bool) → CRes) (io : Bool) (p : E) : k_ex_app1 Γ call io p .err = .err := rfl
@[simp] theorem ex_app (Γ : Ctx) (call : Nat → List (D × Bool) → CRes) (io : Bool) (p : E) (e : E) (env : Fm) : ex Γ call io (.app p e) env =
    match pth Γ p env with
    | some (.lst _, true) =>  k_ex_app1 Γ call io p (ev Γ call e env)
    | _ => .err := by
  first | rfl | (simp only [ex]; done) | (simp only [ex]; rfl)
noncomputable def k_ex_exp1 (Γ : Ctx) (call : Nat → List (D × Bool) → CRes) (io : Bool) (r_ : Res (D × Bool)) : Fl := r_.fl fun _ (env : Fm) => .nx env
@[simp] theorem k_ex_exp1_k (Γ : Ctx) (call : Nat → List (D × Bool) → CRes) (io : Bool) (v_ : D × Bool) (env : Fm) : k_ex_exp1 Γ call io (.ok v_ env) = .nx env := rfl
@[simp] theorem k_ex_exp1_x (Γ : Ctx) (call : Nat → List (D × Bool) → CRes) (io : Bool) (z_ : Exn) (env : Fm) : k_ex_exp1 Γ call io (.exc z_ env) = .exc z_ env := rfl
@[simp] theorem k_ex_exp1_e (Γ : Ctx) (call : Nat → List (D × Bool) → CRes) (io : Bool) : k_ex_exp1 Γ call io .err = .err := rfl
@[simp] theorem ex_exp (Γ : Ctx) (call : Nat → List (D × Bool) → CRes) (io : Bool) (e : E) (env : Fm) : ex Γ call io (.exp e) env =  k_ex_exp1 Γ call io (ev Γ call e env) := by
  first | rfl | (simp only [ex]; done) | (simp only [ex]; rfl)
noncomputable def k_ex_ret1 (Γ : Ctx) (call : Nat → List (D × Bool) → CRes) (io : Bool) (r_ : Res (D × Bool)) : Fl := r_.fl fun r (env : Fm) => .rt r env
@[simp] theorem k_ex_ret1_k (Γ : Ctx) (call : Nat → List (D × Bool) → CRes) (io : Bool) (r : D × Bool) (env : Fm) : k_ex_ret1 Γ call io (.ok r env) = .rt r env := rfl
@[simp] theorem k_ex_ret1_x (Γ : Ctx) (call : Nat → List (D × Bool) → CRes) (io : Bool) (z_ : Exn) (env : Fm) : k_ex_ret1 Γ call io (.exc z_ env) = .exc z_ env := rfl
@[simp] theorem k_ex_ret1_e (Γ : Ctx) (call : Nat → List (D × Bool) → CRes) (io : Bool) : k_ex_ret1 Γ call io .err = .err := rfl
@[simp] theorem ex_ret (Γ : Ctx) (call : Nat → List (D × Bool) → CRes) (io : Bool) (e : E) (env : Fm) : ex Γ call io (.ret e) env =  k_ex_ret1 Γ call io (ev Γ call e env) := by
  first | rfl | (simp only [ex]; done) | (simp only [ex]; rfl)
@[simp] theorem ex_retN (Γ : Ctx) (call : Nat → List (D × Bool) → CRes) (io : Bool) (env : Fm) : ex Γ call io .retN env = .rt (.non, false) env := by
  first | rfl | (simp only [ex]; done) | (simp only [ex]; rfl)
noncomputable def k_ex_ifs1 (Γ : Ctx) (call : Nat → List (D × Bool) → CRes) (io : Bool) (a : Ss) (b : Ss) (r_ : Res (D × Bool)) : Fl := r_.fl fun r (env : Fm) => match r.1 with | .bl true => exs Γ call io a env | .bl false => exs Γ call io b env | _ => .err
@[simp] theorem k_ex_ifs1_k (Γ : Ctx) (call : Nat → List (D × Bool) → CRes) (io : Bool) (a : Ss) (b : Ss) (r : D × Bool) (env : Fm) : k_ex_ifs1 Γ call io a b (.ok r env) = match r.1 with | .bl true => exs Γ call io a env | .bl false => exs Γ call io b env | _ => .err := rfl
@[simp] theorem k_ex_ifs1_x (Γ : Ctx) (call : Nat → List (D × Bool) → CRes) (io : Bool) (a : Ss) (b : Ss) (z_ : Exn) (env : Fm) : k_ex_ifs1 Γ call io a b (.exc z_ env) = .exc z_ env := rfl
@[simp] theorem k_ex_ifs1_e (Γ : Ctx) (call : Nat → List (D × Bool) → CRes) (io : Bool) (a : Ss) (b : Ss) : k_ex_ifs1 Γ call io a b .err = .err := rfl
@[simp] theorem ex_ifs (Γ : Ctx) (call : Nat → List (D × Bool) → CRes) (io : Bool) (c : E) (a : Ss) (b : Ss) (env : Fm) : ex Γ call io (.ifs c a b) env =  k_ex_ifs1 Γ call io a b (ev Γ call c env) := by
  first | rfl | (simp only [ex]; done) | (simp only [ex]; rfl)
@[simp] theorem ex_whl (Γ : Ctx) (call : Nat → List (D × Bool) → CRes) (io : Bool) (c : E) (b : Ss) (env : Fm) : ex Γ call io (.whl c b) env = whl Γ call io c b env := by
  first | rfl | (simp only [ex]; done) | (simp only [ex]; rfl)
noncomputable def k_ex_for1 (Γ : Ctx) (call : Nat → List (D × Bool) → CRes) (io : Bool) (tg : Tg) (b : Ss) (r_ : Res (List D)) : Fl := r_.fl fun items (env : Fm) => frl Γ call io tg b items env
@[simp] theorem k_ex_for1_k (Γ : Ctx) (call : Nat → List (D × Bool) → CRes) (io : Bool) (tg : Tg) (b : Ss) (items : List D) (env : Fm) : k_ex_for1 Γ call io tg b (.ok items env) = frl Γ call io tg b items env := rfl
@[simp] theorem k_ex_for1_x (Γ : Ctx) (call : Nat → List (D × Bool) → CRes) (io : Bool) (tg : Tg) (b : Ss) (z_ : Exn) (env : Fm) : k_ex_for1 Γ call io tg b (.exc z_ env) = .exc z_ env := rfl
@[simp] theorem k_ex_for1_e (Γ : Ctx) (call : Nat → List (D × Bool) → CRes) (io : Bool) (tg : Tg) (b : Ss) : k_ex_for1 Γ call io tg b .err = .err := rfl
@[simp] theorem ex_for (Γ : Ctx) (call : Nat → List (D × Bool) → CRes) (io : Bool) (it : Src) (tg : Tg) (b : Ss) (env : Fm) : ex Γ call io (.for it tg b) env =  k_ex_for1 Γ call io tg b (evi Γ call it env) := by
  first | rfl | (simp only [ex]; done) | (simp only [ex]; rfl)
noncomputable def k_ex_rse1 (Γ : Ctx) (call : Nat → List (D × Bool) → CRes) (io : Bool) (c : Nat) (r_ : Res (D × Bool)) : Fl := r_.fl fun r (env : Fm) => .exc ⟨c, r.1⟩ env
@[simp] theorem k_ex_rse1_k (Γ : Ctx) (call : Nat → List (D × Bool) → CRes) (io : Bool) (c : Nat) (r : D × Bool) (env : Fm) : k_ex_rse1 Γ call io c (.ok r env) = .exc ⟨c, r.1⟩ env := rfl
@[simp] theorem k_ex_rse1_x (Γ : Ctx) (call : Nat → List (D × Bool) → CRes) (io : Bool) (c : Nat) (z_ : Exn) (env : Fm) : k_ex_rse1 Γ call io c (.exc z_ env) = .exc z_ env := rfl
@[simp] theorem k_ex_rse1_e (Γ : Ctx) (call : Nat → List (D × Bool) → CRes) (io : Bool) (c : Nat) : k_ex_rse1 Γ call io c .err = .err := rfl
@[simp] theorem ex_rse (Γ : Ctx) (call : Nat → List (D × Bool) → CRes) (io : Bool) (c : Nat) (e : O) (env : Fm) : ex Γ call io (.rse c e) env =
    match e with
    | .none => .exc ⟨c, .non⟩ env
    | .some e =>  k_ex_rse1 Γ call io c (ev Γ call e env) := by
  first | rfl | (simp only [ex]; done) | (simp only [ex]; rfl)
@[simp] theorem ex_pas (Γ : Ctx) (call : Nat → List (D × Bool) → CRes) (io : Bool) (env : Fm) : ex Γ call io .pas env = .nx env := by
  first | rfl | (simp only [ex]; done) | (simp only [ex]; rfl)
@[simp] theorem exs_nil (Γ : Ctx) (call : Nat → List (D × Bool) → CRes) (io : Bool) (env : Fm) : exs Γ call io .nil env = .nx env := by
  first | rfl | (simp only [exs]; done) | (simp only [exs]; rfl)
noncomputable def k_exs_cons1 (Γ : Ctx) (call : Nat → List (D × Bool) → CRes) (io : Bool) (r : Ss) (r_ : Fl) : Fl := r_.bind fun (env : Fm) => exs Γ call io r env
@[simp] theorem k_exs_cons1_k (Γ : Ctx) (call : Nat → List (D × Bool) → CRes) (io : Bool) (r : Ss) (env : Fm) : k_exs_cons1 Γ call io r (.nx env) = exs Γ call io r env := rfl
@[simp] theorem k_exs_cons1_r (Γ : Ctx) (call : Nat → List (D × Bool) → CRes) (io : Bool) (r : Ss) (z_ : D × Bool) (env : Fm) : k_exs_cons1 Γ call io r (.rt z_ env) = .rt z_ env := rfl
@[simp] theorem k_exs_cons1_x (Γ : Ctx) (call : Nat → List (D × Bool) → CRes) (io : Bool) (r : Ss) (z_ : Exn) (env : Fm) : k_exs_cons1 Γ call io r (.exc z_ env) = .exc z_ env := rfl
@[simp] theorem k_exs_cons1_e (Γ : Ctx) (call : Nat → List (D × Bool) → CRes) (io : Bool) (r : Ss) : k_exs_cons1 Γ call io r .err = .err := rfl
@[simp] theorem exs_cons (Γ : Ctx) (call : Nat → List (D × Bool) → CRes) (io : Bool) (s : S) (r : Ss) (env : Fm) : exs Γ call io (.cons s r) env =  k_exs_cons1 Γ call io r (ex Γ call io s env) := by
  first | rfl | (simp only [exs]; done) | (simp only [exs]; rfl)
end
end PL
/-! PMath: plain laws of whole numbers: the greatest common divisor, fractions led back. No program in sight. -/
namespace PL
theorem gcd_step (x y : Int) : Int.gcd x y = Int.gcd y (x % y) := by
  have e : x % y = x - (x / y) * y := by rw [Int.emod_def, Int.mul_comm]
  rw [e, Int.gcd_sub_mul_right_right, Int.gcd_comm]
/-- the fraction a by b is within the bounds and has the rest -/
structure IsSol (rest m top bottom a b : Int) : Prop where
  b0 : 0 < b
  b1 : b ≤ bottom
  a0 : -top ≤ a
  a1 : a ≤ top
  dv : m ∣ b * rest - a
  co : Int.gcd a b = 1
structure RbI (m rest r0 t0 r1 t1 s : Int) : Prop where
  hs : s = 1 ∨ s = -1
  h1 : 0 ≤ r1
  h2 : r1 < r0
  ht1 : 0 < s * t1
  ht0 : s * t0 ≤ 0
  hle : -(s * t0) ≤ s * t1
  det : r0 * t1 - r1 * t0 = s * m
  c0 : m ∣ r0 - t0 * rest
  c1 : m ∣ r1 - t1 * rest
theorem RbI.start {m rest : Int} (hm : 0 < m) : RbI m rest m 0 (rest % m) 1 1 where
  hs := .inl rfl
  h1 := Int.emod_nonneg _ (by omega)
  h2 := Int.emod_lt_of_pos _ hm
  ht1 := by omega
  ht0 := by omega
  hle := by omega
  det := by simp
  c0 := by simp
  c1 := ⟨-(rest / m), by have := Int.emod_def rest m; grind⟩
theorem RbI.step {m rest r0 t0 r1 t1 s : Int} (h : RbI m rest r0 t0 r1 t1 s) (hr : 0 < r1) : RbI m rest r1 t1 (r0 - r0 / r1 * r1) (t0 - r0 / r1 * t1) (-s) := by
  have hq : 1 ≤ r0 / r1 := (Int.le_ediv_iff_mul_le hr).2 (by have := h.h2; omega)
  have e : r0 - r0 / r1 * r1 = r0 % r1 := by rw [Int.emod_def, Int.mul_comm]
  obtain ⟨hs, h1, h2, ht1, ht0, hle, det, ⟨k0, c0⟩, ⟨k1, c1⟩⟩ := h
  have hp : s * t1 ≤ r0 / r1 * (s * t1) := by
    have := Int.mul_le_mul_of_nonneg_right hq (show 0 ≤ s * t1 by omega)
    omega
  refine ⟨by rcases hs with h | h <;> simp [h], ?_, ?_, ?_, ?_, ?_, ?_, ⟨k1, c1⟩, ⟨k0 - r0 / r1 * k1, by grind⟩⟩
  · rw [e]
    exact Int.emod_nonneg _ (by omega)
  · rw [e]
    exact Int.emod_lt_of_pos _ hr
  · have : -s * (t0 - r0 / r1 * t1) = r0 / r1 * (s * t1) - s * t0 := by grind
    omega
  · have : -s * t1 = -(s * t1) := by grind
    omega
  · have : -s * t1 = -(s * t1) := by grind
    have : -s * (t0 - r0 / r1 * t1) = r0 / r1 * (s * t1) - s * t0 := by grind
    omega
  · grind
theorem RbI.size {m rest r0 t0 r1 t1 s : Int} (h : RbI m rest r0 t0 r1 t1 s) : -m ≤ t1 ∧ t1 ≤ m ∧ -m ≤ t0 ∧ t0 ≤ m ∧ r0 ≤ m := by
  obtain ⟨hs, h1, h2, ht1, ht0, hle, det, c0, c1⟩ := h
  have d : r0 * (s * t1) + r1 * (-(s * t0)) = m := by
    rcases hs with h | h <;> subst h <;> grind
  have a := Int.mul_nonneg h1 (show 0 ≤ -(s * t0) by omega)
  have b : s * t1 ≤ r0 * (s * t1) := by
    have := Int.mul_le_mul_of_nonneg_right (show 1 ≤ r0 by omega) (show 0 ≤ s * t1 by omega)
    omega
  have b' : r0 ≤ r0 * (s * t1) := by
    have := Int.mul_le_mul_of_nonneg_left (show 1 ≤ s * t1 by omega) (show 0 ≤ r0 by omega)
    omega
  rcases hs with h | h <;> subst h <;> omega
theorem rb_core {m r0 r1 T0 T1 top bottom x b u v : Int} (det : r0 * T1 + r1 * T0 = m) (h1 : 0 ≤ r1) (h2 : r1 ≤ top) (h3 : top < r0) (hT : 0 < T1) (hT0 : 0 ≤ T0) (b0 : 0 < b) (b1 : b ≤ bottom) (x0 : -top ≤ x) (x1 : x ≤ top) (hm : 2 * top * bottom < m) (hu : x * T1 - b * r1 = u * m) (hv : b * r0 + x * T0 = v * m) : x = v * r1 ∧ b = v * T1 := by
  have m0 : 0 < m := by
    have a := Int.mul_nonneg h1 hT0
    have b := Int.mul_pos (show 0 < r0 by omega) hT
    omega
  have ex : x = u * r0 + v * r1 := Int.eq_of_mul_eq_mul_right (show m ≠ 0 by omega) (by grind)
  have eb : b = v * T1 - u * T0 := Int.eq_of_mul_eq_mul_right (show m ≠ 0 by omega) (by grind)
  suffices hu0 : u = 0 by
    subst hu0
    simp at ex eb
    exact ⟨ex, eb⟩
  rcases Int.lt_trichotomy u 0 with hn | hz | hp
  · exfalso
    rcases Int.lt_or_le 0 v with hv0 | hv0
    · have i1 := Int.mul_nonneg (show 0 ≤ -u by omega) hT0
      have i2 : T1 ≤ v * T1 := by
        have := Int.mul_le_mul_of_nonneg_right (show 1 ≤ v by omega) (show 0 ≤ T1 by omega)
        omega
      have e1 : -u * T0 = -(u * T0) := by grind
      have hb : T1 ≤ bottom := by omega
      have j1 : b * r1 ≤ bottom * top := Int.mul_le_mul b1 h2 h1 (by omega)
      have j2 : -x * T1 ≤ top * bottom := by
        refine Int.le_trans (Int.mul_le_mul_of_nonneg_right (show -x ≤ top by omega) (by omega)) (Int.mul_le_mul_of_nonneg_left hb (by omega))
      have j3 : m ≤ -u * m := by
        have := Int.mul_le_mul_of_nonneg_right (show 1 ≤ -u by omega) (show 0 ≤ m by omega)
        omega
      grind
    · have i1 : r0 ≤ -u * r0 := by
        have := Int.mul_le_mul_of_nonneg_right (show 1 ≤ -u by omega) (show 0 ≤ r0 by omega)
        omega
      have i2 := Int.mul_nonneg (show 0 ≤ -v by omega) h1
      grind
  · exact hz
  · exfalso
    rcases Int.lt_or_le v 0 with hv0 | hv0
    · have i1 := Int.mul_nonneg (show 0 ≤ u by omega) hT0
      have i2 := Int.mul_pos (show 0 < -v by omega) hT
      grind
    · have i1 : r0 ≤ u * r0 := by
        have := Int.mul_le_mul_of_nonneg_right (show 1 ≤ u by omega) (show 0 ≤ r0 by omega)
        omega
      have i2 := Int.mul_nonneg hv0 h1
      grind
theorem rb_only {m rest r0 t0 r1 t1 s top bottom a b : Int} (h : RbI m rest r0 t0 r1 t1 s) (h2 : r1 ≤ top) (h3 : top < r0) (hm : 2 * top * bottom < m) (k : IsSol rest m top bottom a b) : a = s * r1 ∧ b = s * t1 := by
  obtain ⟨hs, h1, _, ht1, ht0, hle, det, ⟨k0, c0⟩, ⟨k1, c1⟩⟩ := h
  obtain ⟨b0, b1, a0, a1, ⟨kd, hd⟩, co⟩ := k
  have ss : s * s = 1 := by rcases hs with h | h <;> subst h <;> rfl
  obtain ⟨e1, e2⟩ := rb_core (m := m) (r0 := r0) (r1 := r1) (T0 := -(s * t0)) (T1 := s * t1) (top := top) (bottom := bottom) (x := s * a) (b := b) (u := -(kd * t1) - b * k1) (v := b * k0 + kd * t0)
    (by grind) h1 h2 h3 ht1 (by omega) b0 b1 (by rcases hs with h | h <;> subst h <;> omega) (by rcases hs with h | h <;> subst h <;> omega) hm (by grind) (by grind)
  have dv : b * k0 + kd * t0 ∣ 1 := by
    refine Int.gcd_eq_one_iff.1 co _ ?_ ⟨_, e2⟩
    exact ⟨s * r1, by grind⟩
  have dp : 0 < b * k0 + kd * t0 := by
    rcases Int.lt_or_le 0 (b * k0 + kd * t0) with h | h
    · exact h
    · have := Int.mul_nonneg (show 0 ≤ -(b * k0 + kd * t0) by omega) (show 0 ≤ s * t1 by omega)
      grind
  have d1 := Int.le_of_dvd (by omega) dv
  have d2 : b * k0 + kd * t0 = 1 := by omega
  rw [d2] at e1 e2
  exact ⟨by grind, by omega⟩
/-- what is told of the end of the row -/
theorem rb_is {m rest r0 t0 r1 t1 s top bottom : Int} (h : RbI m rest r0 t0 r1 t1 s) (h2 : r1 ≤ top) (hb : s * t1 ≤ bottom) (co : Int.gcd r1 t1 = 1) : IsSol rest m top bottom (s * r1) (s * t1) := by
  obtain ⟨hs, h1, _, ht1, ht0, hle, det, ⟨k0, c0⟩, ⟨k1, c1⟩⟩ := h
  refine ⟨ht1, hb, ?_, ?_, ⟨-s * k1, by grind⟩, ?_⟩
  · rcases hs with h | h <;> subst h <;> omega
  · rcases hs with h | h <;> subst h <;> omega
  · rcases hs with h | h <;> subst h <;> simpa using co
/-- what leading back tells -/
inductive LB (rest m top bottom : Int) : Option (Int × Int) → Prop
  | no : (∀ a b, ¬ IsSol rest m top bottom a b) → LB rest m top bottom none
  | one (a b : Int) : IsSol rest m top bottom a b → (∀ a' b', IsSol rest m top bottom a' b' → a' = a ∧ b' = b) → LB rest m top bottom (some (a, b))
end PL
/-! the defs of the text as small syntax, their tables (printed by wip/gen/gen.py) -/
namespace PL
open PySem PySem.Spec PyProof.Rows L2
def b_is_whole : Ss :=
  (.cons (.ret (.and (.isI (.var 0) [.int]) (.not (.isI (.var 0) [.bool]))))
  .nil)
def b_is_number : Ss :=
  (.cons (.ret (.and (.fn 0 (.cons (.var 0) .nil)) (.chn .le .le (.var 1) (.var 0) (.var 2))))
  .nil)
def b_shared_2 : Ss :=
  (.cons (.par [0, 1] (.cons (.var 1) (.cons (.bin .mod (.var 0) (.var 1)) .nil)))
  .nil)
def b_shared_1 : Ss :=
  (.cons (.ret (.var 0))
  .nil)
def b_shared : Ss :=
  (.cons (.par [0, 1] (.cons (.bi .abs (.cons (.var 0) .nil)) (.cons (.bi .abs (.cons (.var 1) .nil)) .nil)))
  (.cons (.whl (.cmpv .ne 1 (.cst (.int 0))) b_shared_2)
  b_shared_1))
def b_reckoned_back_4 : Ss :=
  (.cons (.ret (.tup (.cons (.var 7) (.cons (.var 8) .nil))))
  .nil)
def b_reckoned_back_3 : Ss :=
  (.cons (.ifs (.or (.cmpv .gt 8 (.var 3)) (.or (.cmpv .eq 8 (.cst (.int 0))) (.cmp .gt (.fn 1 (.cons (.var 7) (.cons (.var 8) .nil))) (.cst (.int 1)))))
    (.cons (.ret (.cst .non))
    .nil)
    .nil)
  b_reckoned_back_4)
def b_reckoned_back_2 : Ss :=
  (.cons (.asg (.one 6) (.bin .div (.idxv 4 (.cst (.int 0))) (.idxv 5 (.cst (.int 0)))))
  (.cons (.par [4, 5] (.cons (.var 5) (.cons (.tup (.cons (.bin .sub (.idxv 4 (.cst (.int 0))) (.bin .mul (.var 6) (.idxv 5 (.cst (.int 0))))) (.cons (.bin .sub (.idxv 4 (.cst (.int 1))) (.bin .mul (.var 6) (.idxv 5 (.cst (.int 1))))) .nil))) .nil)))
  .nil))
def b_reckoned_back_1 : Ss :=
  (.cons (.asg (.many [7, 8]) (.var 5))
  (.cons (.ifs (.cmpv .lt 8 (.cst (.int 0)))
    (.cons (.par [7, 8] (.cons (.bin .sub (.cst (.int 0)) (.var 7)) (.cons (.bin .sub (.cst (.int 0)) (.var 8)) .nil)))
    .nil)
    .nil)
  b_reckoned_back_3))
def b_reckoned_back : Ss :=
  (.cons (.par [4, 5] (.cons (.tup (.cons (.var 1) (.cons (.cst (.int 0)) .nil))) (.cons (.tup (.cons (.bin .mod (.var 0) (.var 1)) (.cons (.cst (.int 1)) .nil))) .nil)))
  (.cons (.whl (.cmp .gt (.idxv 5 (.cst (.int 0))) (.var 2)) b_reckoned_back_2)
  b_reckoned_back_1))
def b_led_back_2 : Ss :=
  (.cons (.ret (.fn 3 (.cons (.var 0) (.cons (.var 1) (.cons (.var 2) (.cons (.var 3) .nil))))))
  .nil)
def b_led_back_1 : Ss :=
  (.cons (.ifs (.or (.not (.fn 0 (.cons (.var 2) .nil))) (.or (.not (.fn 0 (.cons (.var 3) .nil))) (.or (.cmpv .lt 2 (.cst (.int 0))) (.or (.cmpv .lt 3 (.cst (.int 1))) (.cmp .ge (.bin .mul (.bin .mul (.cst (.int 2)) (.var 2)) (.var 3)) (.var 1))))))
    (.cons (.rse 0 .none)
    .nil)
    .nil)
  b_led_back_2)
def b_led_back : Ss :=
  (.cons (.ifs (.or (.not (.fn 2 (.cons (.var 1) (.cons (.cst (.int 2)) (.cons (.glb 0) .nil))))) (.not (.fn 2 (.cons (.var 0) (.cons (.cst (.int 0)) (.cons (.bin .sub (.var 1) (.cst (.int 1))) .nil))))))
    (.cons (.rse 0 .none)
    .nil)
    .nil)
  b_led_back_1)
def b__law_taken_3 : Ss :=
  (.cons (.ret (.bin .mod (.var 3) (.var 1)))
  .nil)
def b__law_taken_2 : Ss :=
  (.cons (.asg (.one 3) (.idx (.idxv 0 (.cst (.int 0))) (.bin .sub (.idxv 0 (.cst (.int 1))) (.cst (.int 1)))))
  (.cons (.sub 0 (.cst (.int 2)) (.bin .mod (.bin .add (.bin .add (.bin .mul (.idxv 0 (.cst (.int 2))) (.cst (.int 48271))) (.var 3)) (.cst (.int 11))) (.cst (.int 2147483647))))
  (.cons (.ifs (.cmpv .ge 3 (.bin .pow (.cst (.int 10)) (.cst (.int 18))))
    (.cons (.sub 0 (.cst (.int 3)) (.bin .div (.var 3) (.var 1)))
    .nil)
    .nil)
  b__law_taken_3)))
def b__law_taken_1 : Ss :=
  (.cons (.sub 0 (.cst (.int 1)) (.bin .add (.idxv 0 (.cst (.int 1))) (.cst (.int 1))))
  (.cons (.ifs (.cmp .gt (.idxv 0 (.cst (.int 1))) (.bi .len (.cons (.idxv 0 (.cst (.int 0))) .nil)))
    (.cons (.sub 0 (.cst (.int 2)) (.bin .mod (.bin .add (.bin .mul (.idxv 0 (.cst (.int 2))) (.cst (.int 48271))) (.cst (.int 11))) (.cst (.int 2147483647))))
    (.cons (.ret (.bin .mod (.bin .div (.idxv 0 (.cst (.int 2))) (.cst (.int 7))) (.var 1)))
    .nil))
    .nil)
  b__law_taken_2))
def b__law_taken : Ss :=
  (.cons (.ifs (.cmp .gt (.idxv 0 (.cst (.int 3))) (.cst (.int 0)))
    (.cons (.asg (.one 2) (.bin .mod (.idxv 0 (.cst (.int 3))) (.var 1)))
    (.cons (.sub 0 (.cst (.int 3)) (.bin .div (.idxv 0 (.cst (.int 3))) (.var 1)))
    (.cons (.ret (.var 2))
    .nil)))
    .nil)
  b__law_taken_1)
def b__law_shared_2 : Ss :=
  (.cons (.par [0, 1] (.cons (.var 1) (.cons (.bin .mod (.var 0) (.var 1)) .nil)))
  .nil)
def b__law_shared_1 : Ss :=
  (.cons (.ret (.var 0))
  .nil)
def b__law_shared : Ss :=
  (.cons (.par [0, 1] (.cons (.bi .abs (.cons (.var 0) .nil)) (.cons (.bi .abs (.cons (.var 1) .nil)) .nil)))
  (.cons (.whl (.cmpv .ne 1 (.cst (.int 0))) b__law_shared_2)
  b__law_shared_1))
def b__law_ratio : Ss :=
  (.cons (.asg (.one 2) (.bin .mul (.fn 4 (.cons (.var 0) (.cons (.var 1) .nil))) (.ifx (.cmpv .gt 1 (.cst (.int 0))) (.cst (.int 1)) (.bin .sub (.cst (.int 0)) (.cst (.int 1))))))
  (.cons (.ret (.tup (.cons (.bin .div (.var 0) (.var 2)) (.cons (.bin .div (.var 1) (.var 2)) .nil))))
  .nil))
def b__law_turned_2 : Ss :=
  (.cons (.asg (.one 4) (.bin .div (.idxv 2 (.cst (.int 0))) (.idxv 3 (.cst (.int 0)))))
  (.cons (.par [2, 3] (.cons (.var 3) (.cons (.tup (.cons (.bin .sub (.idxv 2 (.cst (.int 0))) (.bin .mul (.var 4) (.idxv 3 (.cst (.int 0))))) (.cons (.bin .sub (.idxv 2 (.cst (.int 1))) (.bin .mul (.var 4) (.idxv 3 (.cst (.int 1))))) .nil))) .nil)))
  .nil))
def b__law_turned_1 : Ss :=
  (.cons (.ret (.bin .mod (.idxv 2 (.cst (.int 1))) (.var 1)))
  .nil)
def b__law_turned : Ss :=
  (.cons (.par [2, 3] (.cons (.tup (.cons (.var 1) (.cons (.cst (.int 0)) .nil))) (.cons (.tup (.cons (.bin .mod (.var 0) (.var 1)) (.cons (.cst (.int 1)) .nil))) .nil)))
  (.cons (.whl (.cmp .ne (.idxv 3 (.cst (.int 0))) (.cst (.int 0))) b__law_turned_2)
  b__law_turned_1))
def b_law_7 : Ss :=
  (.cons (.ifs (.cmp .ne (.fn 4 (.cons (.idxv 12 (.cst (.int 0))) (.cons (.idxv 12 (.cst (.int 1))) .nil))) (.cst (.int 1)))
    (.cons (.ret (.cst (.bl false)))
    .nil)
    .nil)
  .nil)
def b_law_6 : Ss :=
  (.cons (.asg (.one 11) (.fnv 5 1 (.cons (.var 8) .nil)))
  (.cons (.asg (.one 12) (.fn 8 (.cons (.var 11) (.cons (.var 8) (.cons (.var 6) (.cons (.var 7) .nil))))))
  (.cons (.ifs (.cmpv .notN 12 (.cst .non))
    (.cons (.ifs (.or (.cmp .ne (.bin .mod (.bin .sub (.bin .mul (.idxv 12 (.cst (.int 1))) (.var 11)) (.idxv 12 (.cst (.int 0)))) (.var 8)) (.cst (.int 0))) (.or (.cmp .gt (.bi .abs (.cons (.idxv 12 (.cst (.int 0))) .nil)) (.var 6)) (.not (.chn .lt .le (.cst (.int 0)) (.idxv 12 (.cst (.int 1))) (.var 7)))))
      (.cons (.ret (.cst (.bl false)))
      .nil)
      .nil)
    b_law_7)
    .nil)
  .nil)))
def b_law_5 : Ss :=
  (.cons (.asg (.one 10) (.lst (.cons (.ifx (.cmpv .gt 5 (.cst (.int 1))) (.fn 8 (.cons (.var 9) (.cons (.var 8) (.cons (.var 6) (.cons (.bin .sub (.var 5) (.cst (.int 1))) .nil))))) (.cst .non)) .nil)))
  (.cons (.app (.var 10) (.ifx (.cmpv .ne 4 (.cst (.int 0))) (.fn 8 (.cons (.var 9) (.cons (.var 8) (.cons (.bin .sub (.bi .abs (.cons (.var 4) .nil)) (.cst (.int 1))) (.cons (.var 7) .nil))))) (.cst .non)))
  (.cons (.ifs (.cmp .inn (.tup (.cons (.var 4) (.cons (.var 5) .nil))) (.var 10))
    (.cons (.ret (.cst (.bl false)))
    .nil)
    .nil)
  b_law_6)))
def b_law_4 : Ss :=
  (.cons (.asg (.one 8) (.bin .add (.var 8) (.cst (.int 1))))
  .nil)
def b_law_3 : Ss :=
  (.cons (.asg (.one 9) (.bin .mod (.bin .mul (.var 4) (.fn 7 (.cons (.var 5) (.cons (.var 8) .nil)))) (.var 8)))
  (.cons (.ifs (.cmp .ne (.fn 8 (.cons (.var 9) (.cons (.var 8) (.cons (.var 6) (.cons (.var 7) .nil))))) (.tup (.cons (.var 4) (.cons (.var 5) .nil))))
    (.cons (.ret (.cst (.bl false)))
    .nil)
    .nil)
  b_law_5))
def b_law_2 : Ss :=
  (.cons (.asg (.one 3) (.idx (.lst (.cons (.cst (.int 10)) (.cons (.cst (.int 1000)) (.cons (.bin .pow (.cst (.int 10)) (.cst (.int 6))) (.cons (.bin .pow (.cst (.int 10)) (.cst (.int 10))) (.cons (.bin .pow (.cst (.int 10)) (.cst (.int 14))) .nil)))))) (.fnv 5 1 (.cons (.cst (.int 5)) .nil))))
  (.cons (.par [4, 5] (.cons (.bin .sub (.fnv 5 1 (.cons (.bin .mul (.cst (.int 2)) (.var 3)) .nil)) (.var 3)) (.cons (.bin .add (.cst (.int 1)) (.fnv 5 1 (.cons (.var 3) .nil))) .nil)))
  (.cons (.asg (.many [4, 5]) (.fn 6 (.cons (.var 4) (.cons (.var 5) .nil))))
  (.cons (.par [6, 7] (.cons (.bin .add (.bi .abs (.cons (.var 4) .nil)) (.fnv 5 1 (.cons (.var 3) .nil))) (.cons (.bin .add (.var 5) (.fnv 5 1 (.cons (.var 3) .nil))) .nil)))
  (.cons (.asg (.one 8) (.bin .add (.bin .add (.bin .add (.bin .add (.bin .mul (.bin .mul (.cst (.int 2)) (.var 6)) (.var 7)) (.var 6)) (.var 7)) (.cst (.int 1))) (.fnv 5 1 (.cons (.var 3) .nil))))
  (.cons (.whl (.cmp .ne (.fn 4 (.cons (.var 8) (.cons (.var 5) .nil))) (.cst (.int 1))) b_law_4)
  b_law_3))))))
def b_law_1 : Ss :=
  (.cons (.ret (.cst (.bl true)))
  .nil)
def b_law : Ss :=
  (.cons (.asg (.one 1) (.lst (.cons (.var 0) (.cons (.cst (.int 0)) (.cons (.cst (.int 0)) (.cons (.cst (.int 0)) .nil))))))
  (.cons (.for (.rng1 (.cst (.int 8))) (.one 2) b_law_2)
  b_law_1))
def Γ : Ctx where
  glb := fun g => match g with
    | 0 => some (.int 1000000000000000000000000000000000000000000000000000000000000)
    | _ => none
  om := fun _ _ => false
  fn := fun f => match f with
    | 0 => some ⟨1, 1, false, b_is_whole⟩
    | 2 => some ⟨3, 3, false, b_is_number⟩
    | 1 => some ⟨2, 2, false, b_shared⟩
    | 3 => some ⟨4, 9, false, b_reckoned_back⟩
    | 8 => some ⟨4, 4, false, b_led_back⟩
    | 5 => some ⟨2, 4, true, b__law_taken⟩
    | 4 => some ⟨2, 2, false, b__law_shared⟩
    | 6 => some ⟨2, 3, false, b__law_ratio⟩
    | 7 => some ⟨2, 5, false, b__law_turned⟩
    | 9 => some ⟨1, 13, false, b_law⟩
    | _ => none
  meth := fun _ _ => none
  init := fun _ => none
  dfl := fun _ => []
  kwd := fun _ => 0
end PL
set_option maxRecDepth 100000
/-! the ties of the small syntax to the text, the end (printed by wip/gen/gen.py) -/
namespace PL
open PySem PySem.Spec PyProof.Rows L2
def top (i : Nat) : Stmt := PySem.Challenge.pw_powerlift_k05_whole_fractions_come_back.main.body.getD i (.Pass ⟨0, 0, 0, 0⟩)
abbrev s_is_whole : Stmt := top 5
abbrev s_is_number : Stmt := top 6
abbrev s_shared : Stmt := top 7
abbrev s_reckoned_back : Stmt := top 8
abbrev s_led_back : Stmt := top 9
abbrev s__law_taken : Stmt := top 11
abbrev s__law_shared : Stmt := top 12
abbrev s__law_ratio : Stmt := top 13
abbrev s__law_turned : Stmt := top 14
abbrev s_law : Stmt := top 15
def TT : Ns where
  gN := fun i => match i with
    | 0 => "MOST_MODULUS"
    | _ => ""
  fN := fun i => match i with
    | 0 => "is_whole"
    | 1 => "shared"
    | 2 => "is_number"
    | 3 => "reckoned_back"
    | 4 => "_law_shared"
    | 5 => "_law_taken"
    | 6 => "_law_ratio"
    | 7 => "_law_turned"
    | 8 => "led_back"
    | 9 => "law"
    | _ => ""
  cN := fun i => match i with
    | 0 => "BadCount"
    | _ => ""
  mN := fun i => match i with
    | _ => ""
  fl := fun i => match i with
    | _ => ""
  fs := [0, 2, 1, 3, 8, 5, 4, 6, 7, 9]
  gs := [0]
  cs := []
theorem sc_is_whole : FnScope ["thing"] ["thing"] (defScope s_is_whole) := ⟨rfl, rfl, rfl, by decide +kernel, rfl, by decide +kernel, by decide +kernel⟩
theorem m_is_whole : mSs TT ["thing"] (defScope s_is_whole) (defScope s_is_whole) b_is_whole (defBody s_is_whole) = true := by decide +kernel
theorem sc_is_number : FnScope ["thing", "low", "high"] ["thing", "low", "high"] (defScope s_is_number) := ⟨rfl, rfl, rfl, by decide +kernel, rfl, by decide +kernel, by decide +kernel⟩
theorem m_is_number : mSs TT ["thing", "low", "high"] (defScope s_is_number) (defScope s_is_number) b_is_number (defBody s_is_number) = true := by decide +kernel
theorem sc_shared : FnScope ["one", "other"] ["one", "other"] (defScope s_shared) := ⟨rfl, rfl, rfl, by decide +kernel, rfl, by decide +kernel, by decide +kernel⟩
theorem m_shared : mSs TT ["one", "other"] (defScope s_shared) (defScope s_shared) b_shared (defBody s_shared) = true := by decide +kernel
theorem sc_reckoned_back : FnScope ["rest", "modulus", "top", "bottom", "one", "other", "many", "above", "below"] ["rest", "modulus", "top", "bottom"] (defScope s_reckoned_back) := ⟨rfl, rfl, rfl, by decide +kernel, rfl, by decide +kernel, by decide +kernel⟩
theorem m_reckoned_back : mSs TT ["rest", "modulus", "top", "bottom", "one", "other", "many", "above", "below"] (defScope s_reckoned_back) (defScope s_reckoned_back) b_reckoned_back (defBody s_reckoned_back) = true := by decide +kernel
theorem sc_led_back : FnScope ["rest", "modulus", "top", "bottom"] ["rest", "modulus", "top", "bottom"] (defScope s_led_back) := ⟨rfl, rfl, rfl, by decide +kernel, rfl, by decide +kernel, by decide +kernel⟩
theorem m_led_back : mSs TT ["rest", "modulus", "top", "bottom"] (defScope s_led_back) (defScope s_led_back) b_led_back (defBody s_led_back) = true := by decide +kernel
theorem sc__law_taken : FnScope ["_law_row", "_law_many", "_law_found", "_law_cell"] ["_law_row", "_law_many"] (defScope s__law_taken) := ⟨rfl, rfl, rfl, by decide +kernel, rfl, by decide +kernel, by decide +kernel⟩
theorem m__law_taken : mSs TT ["_law_row", "_law_many", "_law_found", "_law_cell"] (defScope s__law_taken) (defScope s__law_taken) b__law_taken (defBody s__law_taken) = true := by decide +kernel
theorem sc__law_shared : FnScope ["_law_one", "_law_two"] ["_law_one", "_law_two"] (defScope s__law_shared) := ⟨rfl, rfl, rfl, by decide +kernel, rfl, by decide +kernel, by decide +kernel⟩
theorem m__law_shared : mSs TT ["_law_one", "_law_two"] (defScope s__law_shared) (defScope s__law_shared) b__law_shared (defBody s__law_shared) = true := by decide +kernel
theorem sc__law_ratio : FnScope ["_law_above", "_law_below", "_law_most"] ["_law_above", "_law_below"] (defScope s__law_ratio) := ⟨rfl, rfl, rfl, by decide +kernel, rfl, by decide +kernel, by decide +kernel⟩
theorem m__law_ratio : mSs TT ["_law_above", "_law_below", "_law_most"] (defScope s__law_ratio) (defScope s__law_ratio) b__law_ratio (defBody s__law_ratio) = true := by decide +kernel
theorem sc__law_turned : FnScope ["_law_number", "_law_modulus", "_law_one", "_law_two", "_law_many"] ["_law_number", "_law_modulus"] (defScope s__law_turned) := ⟨rfl, rfl, rfl, by decide +kernel, rfl, by decide +kernel, by decide +kernel⟩
theorem m__law_turned : mSs TT ["_law_number", "_law_modulus", "_law_one", "_law_two", "_law_many"] (defScope s__law_turned) (defScope s__law_turned) b__law_turned (defBody s__law_turned) = true := by decide +kernel
theorem sc_law : FnScope ["_law_script", "_law_row", "_law_turn", "_law_far", "_law_above", "_law_below", "_law_top", "_law_bottom", "_law_modulus", "_law_rest", "_law_less", "_law_other", "_law_found"] ["_law_script"] (defScope s_law) := ⟨rfl, rfl, rfl, by decide +kernel, rfl, by decide +kernel, by decide +kernel⟩
theorem m_law : mSs TT ["_law_script", "_law_row", "_law_turn", "_law_far", "_law_above", "_law_below", "_law_top", "_law_bottom", "_law_modulus", "_law_rest", "_law_less", "_law_other", "_law_found"] (defScope s_law) (defScope s_law) b_law (defBody s_law) = true := by decide +kernel
section
variable {l : PySem.W.OpenLaw} {w : World} {K : PySem.W.Frag} {h : Heap} {mg : Str → Option Value}
theorem all_mk {fa : Addr} {f0 : Addr} {od0 an0 : Option Addr} {sl0 : Array (Option Value)} {oc0 kV0 dc0 pm0 cd0 ct0 : Value} {f1 : Addr} {od1 an1 : Option Addr} {sl1 : Array (Option Value)} {oc1 kV1 dc1 pm1 cd1 ct1 : Value} {f2 : Addr} {od2 an2 : Option Addr} {sl2 : Array (Option Value)} {oc2 kV2 dc2 pm2 cd2 ct2 : Value} {f3 : Addr} {od3 an3 : Option Addr} {sl3 : Array (Option Value)} {oc3 kV3 dc3 pm3 cd3 ct3 : Value} {f4 : Addr} {od4 an4 : Option Addr} {sl4 : Array (Option Value)} {oc4 kV4 dc4 pm4 cd4 ct4 : Value} {f5 : Addr} {od5 an5 : Option Addr} {sl5 : Array (Option Value)} {oc5 kV5 dc5 pm5 cd5 ct5 : Value} {f6 : Addr} {od6 an6 : Option Addr} {sl6 : Array (Option Value)} {oc6 kV6 dc6 pm6 cd6 ct6 : Value} {f7 : Addr} {od7 an7 : Option Addr} {sl7 : Array (Option Value)} {oc7 kV7 dc7 pm7 cd7 ct7 : Value} {f8 : Addr} {od8 an8 : Option Addr} {sl8 : Array (Option Value)} {oc8 kV8 dc8 pm8 cd8 ct8 : Value} {f9 : Addr} {od9 an9 : Option Addr} {sl9 : Array (Option Value)} {oc9 kV9 dc9 pm9 cd9 ct9 : Value} {tg0 : Tok} (X : K.In h) (G : h.Ns mainGlobals mg) (hfa : mg "law" = some (.ref fa))
    (a0 : PySem.W.nsIn K mainGlobals "is_whole" = some (some (.ref f0)))
    (l0 : K.lookup f0 = some ⟨oc0, od0, .func (PySem.W.fnOf "is_whole" "is_whole" (defArgs s_is_whole) (defBody s_is_whole) (defScope s_is_whole) .none kV0 dc0 pm0 an0 cd0 ct0), sl0⟩)
    (c0 : PySem.W.codeIn K cd0 "is_whole" = true)
    (k0 : PySem.W.keepIn K (.ref f0) = true)
    (a1 : PySem.W.nsIn K mainGlobals "is_number" = some (some (.ref f1)))
    (l1 : K.lookup f1 = some ⟨oc1, od1, .func (PySem.W.fnOf "is_number" "is_number" (defArgs s_is_number) (defBody s_is_number) (defScope s_is_number) .none kV1 dc1 pm1 an1 cd1 ct1), sl1⟩)
    (c1 : PySem.W.codeIn K cd1 "is_number" = true)
    (k1 : PySem.W.keepIn K (.ref f1) = true)
    (a2 : PySem.W.nsIn K mainGlobals "shared" = some (some (.ref f2)))
    (l2 : K.lookup f2 = some ⟨oc2, od2, .func (PySem.W.fnOf "shared" "shared" (defArgs s_shared) (defBody s_shared) (defScope s_shared) .none kV2 dc2 pm2 an2 cd2 ct2), sl2⟩)
    (c2 : PySem.W.codeIn K cd2 "shared" = true)
    (k2 : PySem.W.keepIn K (.ref f2) = true)
    (a3 : PySem.W.nsIn K mainGlobals "reckoned_back" = some (some (.ref f3)))
    (l3 : K.lookup f3 = some ⟨oc3, od3, .func (PySem.W.fnOf "reckoned_back" "reckoned_back" (defArgs s_reckoned_back) (defBody s_reckoned_back) (defScope s_reckoned_back) .none kV3 dc3 pm3 an3 cd3 ct3), sl3⟩)
    (c3 : PySem.W.codeIn K cd3 "reckoned_back" = true)
    (k3 : PySem.W.keepIn K (.ref f3) = true)
    (a4 : PySem.W.nsIn K mainGlobals "led_back" = some (some (.ref f4)))
    (l4 : K.lookup f4 = some ⟨oc4, od4, .func (PySem.W.fnOf "led_back" "led_back" (defArgs s_led_back) (defBody s_led_back) (defScope s_led_back) .none kV4 dc4 pm4 an4 cd4 ct4), sl4⟩)
    (c4 : PySem.W.codeIn K cd4 "led_back" = true)
    (k4 : PySem.W.keepIn K (.ref f4) = true)
    (a5 : PySem.W.nsIn K mainGlobals "_law_taken" = some (some (.ref f5)))
    (l5 : K.lookup f5 = some ⟨oc5, od5, .func (PySem.W.fnOf "_law_taken" "_law_taken" (defArgs s__law_taken) (defBody s__law_taken) (defScope s__law_taken) .none kV5 dc5 pm5 an5 cd5 ct5), sl5⟩)
    (c5 : PySem.W.codeIn K cd5 "_law_taken" = true)
    (k5 : PySem.W.keepIn K (.ref f5) = true)
    (a6 : PySem.W.nsIn K mainGlobals "_law_shared" = some (some (.ref f6)))
    (l6 : K.lookup f6 = some ⟨oc6, od6, .func (PySem.W.fnOf "_law_shared" "_law_shared" (defArgs s__law_shared) (defBody s__law_shared) (defScope s__law_shared) .none kV6 dc6 pm6 an6 cd6 ct6), sl6⟩)
    (c6 : PySem.W.codeIn K cd6 "_law_shared" = true)
    (k6 : PySem.W.keepIn K (.ref f6) = true)
    (a7 : PySem.W.nsIn K mainGlobals "_law_ratio" = some (some (.ref f7)))
    (l7 : K.lookup f7 = some ⟨oc7, od7, .func (PySem.W.fnOf "_law_ratio" "_law_ratio" (defArgs s__law_ratio) (defBody s__law_ratio) (defScope s__law_ratio) .none kV7 dc7 pm7 an7 cd7 ct7), sl7⟩)
    (c7 : PySem.W.codeIn K cd7 "_law_ratio" = true)
    (k7 : PySem.W.keepIn K (.ref f7) = true)
    (a8 : PySem.W.nsIn K mainGlobals "_law_turned" = some (some (.ref f8)))
    (l8 : K.lookup f8 = some ⟨oc8, od8, .func (PySem.W.fnOf "_law_turned" "_law_turned" (defArgs s__law_turned) (defBody s__law_turned) (defScope s__law_turned) .none kV8 dc8 pm8 an8 cd8 ct8), sl8⟩)
    (c8 : PySem.W.codeIn K cd8 "_law_turned" = true)
    (k8 : PySem.W.keepIn K (.ref f8) = true)
    (a9 : PySem.W.nsIn K mainGlobals "law" = some (some (.ref f9)))
    (l9 : K.lookup f9 = some ⟨oc9, od9, .func (PySem.W.fnOf "law" "law" (defArgs s_law) (defBody s_law) (defScope s_law) .none kV9 dc9 pm9 an9 cd9 ct9), sl9⟩)
    (c9 : PySem.W.codeIn K cd9 "law" = true)
    (k9 : PySem.W.keepIn K (.ref f9) = true)
    (u0 : PySem.W.nsIn K mainGlobals "MOST_MODULUS" = some (some (.int 1000000000000000000000000000000000000000000000000000000000000 tg0)))
    (z0 : PySem.W.nsIn K mainGlobals "len" = some none)
    (z1 : PySem.W.nsIn K mainGlobals "abs" = some none)
    (z2 : PySem.W.nsIn K mainGlobals "max" = some none)
    (z3 : PySem.W.nsIn K mainGlobals "min" = some none)
    (z4 : PySem.W.nsIn K mainGlobals "int" = some none)
    (z5 : PySem.W.nsIn K mainGlobals "str" = some none)
    (z6 : PySem.W.nsIn K mainGlobals "sum" = some none)
    (z7 : PySem.W.nsIn K mainGlobals "sorted" = some none)
    (z8 : PySem.W.nsIn K mainGlobals "list" = some none)
    (z9 : PySem.W.nsIn K mainGlobals "tuple" = some none)
    (z10 : PySem.W.nsIn K mainGlobals "any" = some none)
    (z11 : PySem.W.nsIn K mainGlobals "all" = some none)
    (z12 : PySem.W.nsIn K mainGlobals "bool" = some none)
    (z13 : PySem.W.nsIn K mainGlobals "isinstance" = some none)
    (z14 : PySem.W.nsIn K mainGlobals "range" = some none) :
    ∃ (M : Nm) (L : Lk), Top K mg M TT L Γ ∧ (∀ f ∈ TT.fs, FnI K TT L Γ f) ∧ L.fa 9 = fa ∧ L.ps 9 = (["_law_script"] : List Str) ∧ ∀ (s : Shared) (v : Value), BindsTo s (L.fd 9) ⟨[v], []⟩ [("_law_script", v)] := by
  have e := hfa.symm.trans (PySem.W.mg_of X G a9)
  cases e
  have F0 := fun_mk (st := s_is_whole) l0 c0 k0
  have b0 := F0.binds (ps := ["thing"]) fun _ _ _ _ _ _ us hl => match us, hl with | [_], _ => rfl
  have F1 := fun_mk (st := s_is_number) l1 c1 k1
  have b1 := F1.binds (ps := ["thing", "low", "high"]) fun _ _ _ _ _ _ us hl => match us, hl with | [_, _, _], _ => rfl
  have F2 := fun_mk (st := s_shared) l2 c2 k2
  have b2 := F2.binds (ps := ["one", "other"]) fun _ _ _ _ _ _ us hl => match us, hl with | [_, _], _ => rfl
  have F3 := fun_mk (st := s_reckoned_back) l3 c3 k3
  have b3 := F3.binds (ps := ["rest", "modulus", "top", "bottom"]) fun _ _ _ _ _ _ us hl => match us, hl with | [_, _, _, _], _ => rfl
  have F4 := fun_mk (st := s_led_back) l4 c4 k4
  have b4 := F4.binds (ps := ["rest", "modulus", "top", "bottom"]) fun _ _ _ _ _ _ us hl => match us, hl with | [_, _, _, _], _ => rfl
  have F5 := fun_mk (st := s__law_taken) l5 c5 k5
  have b5 := F5.binds (ps := ["_law_row", "_law_many"]) fun _ _ _ _ _ _ us hl => match us, hl with | [_, _], _ => rfl
  have F6 := fun_mk (st := s__law_shared) l6 c6 k6
  have b6 := F6.binds (ps := ["_law_one", "_law_two"]) fun _ _ _ _ _ _ us hl => match us, hl with | [_, _], _ => rfl
  have F7 := fun_mk (st := s__law_ratio) l7 c7 k7
  have b7 := F7.binds (ps := ["_law_above", "_law_below"]) fun _ _ _ _ _ _ us hl => match us, hl with | [_, _], _ => rfl
  have F8 := fun_mk (st := s__law_turned) l8 c8 k8
  have b8 := F8.binds (ps := ["_law_number", "_law_modulus"]) fun _ _ _ _ _ _ us hl => match us, hl with | [_, _], _ => rfl
  have F9 := fun_mk (st := s_law) l9 c9 k9
  have b9 := F9.binds (ps := ["_law_script"]) fun _ _ _ _ _ _ us hl => match us, hl with | [_], _ => rfl

  refine ⟨⟨fun _ => 0, TT.fl, Γ.om⟩, ⟨fun i => match i with
    | 0 => f0
    | 2 => f1
    | 1 => f2
    | 3 => f3
    | 8 => f4
    | 5 => f5
    | 4 => f6
    | 6 => f7
    | 7 => f8
    | 9 => fa
    | _ => 0, fun i => match i with
    | 0 => PySem.W.fnOf "is_whole" "is_whole" (defArgs s_is_whole) (defBody s_is_whole) (defScope s_is_whole) .none kV0 dc0 pm0 an0 cd0 ct0
    | 2 => PySem.W.fnOf "is_number" "is_number" (defArgs s_is_number) (defBody s_is_number) (defScope s_is_number) .none kV1 dc1 pm1 an1 cd1 ct1
    | 1 => PySem.W.fnOf "shared" "shared" (defArgs s_shared) (defBody s_shared) (defScope s_shared) .none kV2 dc2 pm2 an2 cd2 ct2
    | 3 => PySem.W.fnOf "reckoned_back" "reckoned_back" (defArgs s_reckoned_back) (defBody s_reckoned_back) (defScope s_reckoned_back) .none kV3 dc3 pm3 an3 cd3 ct3
    | 8 => PySem.W.fnOf "led_back" "led_back" (defArgs s_led_back) (defBody s_led_back) (defScope s_led_back) .none kV4 dc4 pm4 an4 cd4 ct4
    | 5 => PySem.W.fnOf "_law_taken" "_law_taken" (defArgs s__law_taken) (defBody s__law_taken) (defScope s__law_taken) .none kV5 dc5 pm5 an5 cd5 ct5
    | 4 => PySem.W.fnOf "_law_shared" "_law_shared" (defArgs s__law_shared) (defBody s__law_shared) (defScope s__law_shared) .none kV6 dc6 pm6 an6 cd6 ct6
    | 6 => PySem.W.fnOf "_law_ratio" "_law_ratio" (defArgs s__law_ratio) (defBody s__law_ratio) (defScope s__law_ratio) .none kV7 dc7 pm7 an7 cd7 ct7
    | 7 => PySem.W.fnOf "_law_turned" "_law_turned" (defArgs s__law_turned) (defBody s__law_turned) (defScope s__law_turned) .none kV8 dc8 pm8 an8 cd8 ct8
    | 9 => PySem.W.fnOf "law" "law" (defArgs s_law) (defBody s_law) (defScope s_law) .none kV9 dc9 pm9 an9 cd9 ct9
    | _ => PySem.W.fnOf "law" "law" (defArgs s_law) (defBody s_law) (defScope s_law) .none kV9 dc9 pm9 an9 cd9 ct9, fun i => match i with
    | 0 => ["thing"]
    | 2 => ["thing", "low", "high"]
    | 1 => ["one", "other"]
    | 3 => ["rest", "modulus", "top", "bottom"]
    | 8 => ["rest", "modulus", "top", "bottom"]
    | 5 => ["_law_row", "_law_many"]
    | 4 => ["_law_one", "_law_two"]
    | 6 => ["_law_above", "_law_below"]
    | 7 => ["_law_number", "_law_modulus"]
    | 9 => ["_law_script"]
    | _ => []⟩, ?_, ?_, rfl, rfl, fun s v => .of_eq rfl⟩
  · refine ⟨rfl, ?_, ?_, ?_, PySem.W.mg_none_of X G z13, PySem.W.mg_none_of X G z14, ?_⟩
    · intro g hg d hd
      simp only [TT, List.mem_cons, List.not_mem_nil, or_false] at hg
      rcases hg with rfl
      · cases hd
        exact ⟨_, .int 1000000000000000000000000000000000000000000000000000000000000, PySem.W.mg_of X G u0, ⟨_, rfl⟩, fun F => .int _⟩
    · intro b hb
      cases b <;> first | (simp [okBi] at hb; done) | skip
      · exact PySem.W.mg_none_of X G z0
      · exact PySem.W.mg_none_of X G z1
      · exact PySem.W.mg_none_of X G z2
      · exact PySem.W.mg_none_of X G z3
      · exact PySem.W.mg_none_of X G z2
      · exact PySem.W.mg_none_of X G z3
      · exact PySem.W.mg_none_of X G z4
      · exact PySem.W.mg_none_of X G z5
      · exact PySem.W.mg_none_of X G z6
      · exact PySem.W.mg_none_of X G z7
      · exact PySem.W.mg_none_of X G z8
      · exact PySem.W.mg_none_of X G z9
      · exact PySem.W.mg_none_of X G z10
      · exact PySem.W.mg_none_of X G z11
    · intro t
      cases t
      · exact PySem.W.mg_none_of X G z4
      · exact PySem.W.mg_none_of X G z12
      · exact PySem.W.mg_none_of X G z5
      · exact PySem.W.mg_none_of X G z9
      · exact PySem.W.mg_none_of X G z8
    · intro f hf
      simp only [TT, List.mem_cons, List.not_mem_nil, or_false] at hf
      rcases hf with rfl | rfl | rfl | rfl | rfl | rfl | rfl | rfl | rfl | rfl
      · exact ⟨PySem.W.mg_of X G a0, k0, [], [], b0, .nil, fun F => .nil⟩
      · exact ⟨PySem.W.mg_of X G a1, k1, [], [], b1, .nil, fun F => .nil⟩
      · exact ⟨PySem.W.mg_of X G a2, k2, [], [], b2, .nil, fun F => .nil⟩
      · exact ⟨PySem.W.mg_of X G a3, k3, [], [], b3, .nil, fun F => .nil⟩
      · exact ⟨PySem.W.mg_of X G a4, k4, [], [], b4, .nil, fun F => .nil⟩
      · exact ⟨PySem.W.mg_of X G a5, k5, [], [], b5, .nil, fun F => .nil⟩
      · exact ⟨PySem.W.mg_of X G a6, k6, [], [], b6, .nil, fun F => .nil⟩
      · exact ⟨PySem.W.mg_of X G a7, k7, [], [], b7, .nil, fun F => .nil⟩
      · exact ⟨PySem.W.mg_of X G a8, k8, [], [], b8, .nil, fun F => .nil⟩
      · exact ⟨PySem.W.mg_of X G a9, k9, [], [], b9, .nil, fun F => .nil⟩
  · intro f hf
    simp only [TT, List.mem_cons, List.not_mem_nil, or_false] at hf
    rcases hf with rfl | rfl | rfl | rfl | rfl | rfl | rfl | rfl | rfl | rfl
    · exact ⟨_, _, _, _, _, rfl, F0, sc_is_whole, m_is_whole, rfl, rfl⟩
    · exact ⟨_, _, _, _, _, rfl, F1, sc_is_number, m_is_number, rfl, rfl⟩
    · exact ⟨_, _, _, _, _, rfl, F2, sc_shared, m_shared, rfl, rfl⟩
    · exact ⟨_, _, _, _, _, rfl, F3, sc_reckoned_back, m_reckoned_back, rfl, rfl⟩
    · exact ⟨_, _, _, _, _, rfl, F4, sc_led_back, m_led_back, rfl, rfl⟩
    · exact ⟨_, _, _, _, _, rfl, F5, sc__law_taken, m__law_taken, rfl, rfl⟩
    · exact ⟨_, _, _, _, _, rfl, F6, sc__law_shared, m__law_shared, rfl, rfl⟩
    · exact ⟨_, _, _, _, _, rfl, F7, sc__law_ratio, m__law_ratio, rfl, rfl⟩
    · exact ⟨_, _, _, _, _, rfl, F8, sc__law_turned, m__law_turned, rfl, rfl⟩
    · exact ⟨_, _, _, _, _, rfl, F9, sc_law, m_law, rfl, rfl⟩
end
theorem walk_end {l : PySem.W.OpenLaw} {q : Program} {loose : List Str} {XP : (Str → Option Value) → Heap → Prop} {YP : World → Heap → Prop} {d : DefRec} {K : Params → PySem.W.Frag} {n : Nat} (law : ∀ ns : List Int, ns.length ≤ 63 → callN Γ n 9 [(.scr ns, false)] = .ret (.bl true, false) none)
    (hr : Room (2 * n) callerA) (hm : l.most = some 63) (hdf : d.params.defaults = [])
    (hY : ∀ (w : World) (h : Heap), YP w h → (K w.params).In h)
    (A : ∀ (w : World) (mg : Str → Option Value) (fa : Addr) (h : Heap), (K w.params).In h → h.Ns mainGlobals mg → mg d.name = some (.ref fa) →
      ∃ (M : Nm) (L : Lk), Top (K w.params) mg M TT L Γ ∧ (∀ f ∈ TT.fs, FnI (K w.params) TT L Γ f) ∧ L.fa 9 = fa ∧ L.ps 9 = (["_law_script"] : List Str) ∧ ∀ (s : Shared) (v : Value), BindsTo s (L.fd 9) ⟨[v], []⟩ [("_law_script", v)]) :
    PySem.W.WalkO q loose XP YP l.row.toRowW d [] (fun f vs => PySem.call f vs) := by
  refine L2.walk_of (n := 63) (k := 2 * n) (x := "_law_script") (CX := fun _ => CX0) (sp := fun w => spLaw (K w.params)) hm (by decide) hdf hr hY ?_ (fun _ _ a ns hl _ hS => ⟨a, ns, rfl, hS, hl, fun _ => rfl⟩) fun _ _ _ _ _ z => z
  intro w mg fa h KX G hmg
  obtain ⟨M, L, t, hf, e1, e2, hb⟩ := A w mg fa h KX G hmg
  subst e1
  refine ⟨L.fd 9, hb, fun base _ _ => ?_⟩
  refine (law_ok t hf (f := 9) (by decide) e2 (fun _ => True) fun ns hl _ => law ns hl).imp fun vs H Q E hs => ?_
  obtain ⟨a, ns, e, hS, hl, q⟩ := hs
  exact ⟨a, ns, e, hS, hl, trivial, q⟩
end PL
namespace PL
open PySem
theorem callN_eq {n f : Nat} {F : FnE} {args : List (D × Bool)} (h : Γ.fn f = some F) : callN Γ (n + 1) f args = body Γ (callN Γ n) F args := by
  show (match Γ.fn f with | some F => body Γ (callN Γ n) F args | none => .err) = _
  rw [h]
@[simp] theorem dfl_nil (f : Nat) : Γ.dfl f = [] := rfl
@[simp] theorem dpk_int (n : Nat) (i : Int) : Dpk n (.int i) := by
  cases n <;> trivial
@[simp] theorem dpk_non (n : Nat) : Dpk n .non := by
  cases n <;> trivial
theorem natAbs_log2_lt {a : Int} {k : Nat} (h : a.natAbs < 2 ^ k) (hk : 0 < k) : a.natAbs.log2 < k := by
  by_cases z : a.natAbs = 0
  · rw [z]
    simpa using hk
  · exact (Nat.log2_lt z).2 h
theorem log2_le_of {a b : Nat} (h : a ≤ b) : a.log2 ≤ b.log2 := by
  by_cases z : a = 0
  · subst z
    simp
  · exact (Nat.le_log2 (by omega)).2 (Nat.le_trans (Nat.log2_self_le z) h)
theorem mulOk_of {m a b : Int} (hm : m.natAbs.log2 < 9000) (ha : -m ≤ a ∧ a ≤ m) (hb : -m ≤ b ∧ b ≤ m) : MulOk a b := by
  right; right
  have h1 := log2_le_of (show a.natAbs ≤ m.natAbs by omega)
  have h2 := log2_le_of (show b.natAbs ≤ m.natAbs by omega)
  omega
theorem mulOk_l {a b : Int} (h : -(2 ^ 64) < a ∧ a < 2 ^ 64) : MulOk a b := .inl h
theorem mulOk_r {a b : Int} (h : -(2 ^ 64) < b ∧ b < 2 ^ 64) : MulOk a b := .inr (.inl h)
theorem abs_if (a : Int) : (if a < 0 then -a else a) = (a.natAbs : Int) := by
  split <;> omega
/-! ### is_whole, is_number -/
@[simp] theorem r_is_whole (n : Nat) (i : Int) : callN Γ (n + 1) 0 [(.int i, false)] = .ret (.bl true, false) none := by
  rw [callN_eq rfl]
  simp [body, b_is_whole]
@[simp] theorem r_is_number (n : Nat) (i a b : Int) : callN Γ (n + 2) 2 [(.int i, false), (.int a, false), (.int b, false)] = .ret (.bl (decide (a ≤ i) && decide (i ≤ b)), false) none := by
  rw [callN_eq rfl]
  by_cases h : a ≤ i <;> simp [body, b_is_number, h]
/-! ### the greatest number by which both go -/
theorem shared_loop {call : Nat → List (D × Bool) → CRes} : ∀ (k : Nat) (x y : Int), y.toNat ≤ k → 0 ≤ x → 0 ≤ y →
    whl Γ call false (.cmpv .ne 1 (.cst (.int 0))) b_shared_2 [some (.int x, false), some (.int y, false)] = .nx [some (.int (Int.gcd x y), false), some (.int 0, false)] := by
  intro k
  induction k with
  | zero =>
    intro x y hk hx hy
    have e : y = 0 := by omega
    subst e
    unfold whl
    rw [whlG_done (by simp [eqb]; exact ⟨rfl, rfl⟩)]
    simp
    omega
  | succ k ih =>
    intro x y hk hx hy
    by_cases e : y = 0
    · subst e
      unfold whl
      rw [whlG_done (by simp [eqb]; exact ⟨rfl, rfl⟩)]
      simp
      omega
    · have h1 := Int.emod_nonneg x e
      have h2 := Int.emod_lt_of_pos x (show 0 < y by omega)
      have z := ih y (x % y) (by omega) hy h1
      rw [← gcd_step] at z
      rw [← z]
      unfold whl
      rw [whlG_more (by simp [eqb, e]; exact ⟨rfl, rfl⟩) (by simp [b_shared_2, show 0 < y by omega]; rfl)]
theorem r_shared (n : Nat) (a b : Int) : callN Γ (n + 1) 1 [(.int a, false), (.int b, false)] = .ret (.int (Int.gcd a b), false) none := by
  rw [callN_eq rfl]
  simp [body, b_shared, abs_if]
  rw [shared_loop b.natAbs a.natAbs b.natAbs (by omega) (by omega) (by omega)]
  simp [Int.gcd, b_shared_1]
theorem r_law_shared (n : Nat) (a b : Int) : callN Γ (n + 1) 4 [(.int a, false), (.int b, false)] = .ret (.int (Int.gcd a b), false) none := by
  rw [callN_eq rfl]
  simp [body, b__law_shared, abs_if]
  rw [show b__law_shared_2 = b_shared_2 from rfl, shared_loop b.natAbs a.natAbs b.natAbs (by omega) (by omega) (by omega)]
  simp [Int.gcd, b__law_shared_1]
end PL
namespace PL
open PySem
@[simp] theorem glb0 : Γ.glb 0 = some (.int 1000000000000000000000000000000000000000000000000000000000000) := rfl
theorem rb_loop {n : Nat} {m rest top bottom : Int} (hm : m.natAbs.log2 < 9000) (ht : 0 ≤ top) : ∀ (k : Nat) (r0 t0 r1 t1 s : Int) (q x7 x8 : Sl), r1.toNat ≤ k → RbI m rest r0 t0 r1 t1 s → top < r0 →
    ∃ r0' t0' r1' t1' s' q', RbI m rest r0' t0' r1' t1' s' ∧ top < r0' ∧ r1' ≤ top ∧ whl Γ (callN Γ n) false (.cmp .gt (.idxv 5 (.cst (.int 0))) (.var 2)) b_reckoned_back_2
      [some (.int rest, false), some (.int m, false), some (.int top, false), some (.int bottom, false), some (.tup [.int r0, .int t0], false), some (.tup [.int r1, .int t1], false), q, x7, x8] =
     .nx [some (.int rest, false), some (.int m, false), some (.int top, false), some (.int bottom, false), some (.tup [.int r0', .int t0'], false), some (.tup [.int r1', .int t1'], false), q', x7, x8] := by
  intro k
  induction k with
  | zero =>
    intro r0 t0 r1 t1 s q x7 x8 hk h h3
    have := h.h1
    refine ⟨r0, t0, r1, t1, s, q, h, h3, by omega, ?_⟩
    unfold whl
    rw [whlG_done (by simp [ixn, show ¬ top < r1 by omega]; exact ⟨rfl, rfl⟩)]
  | succ k ih =>
    intro r0 t0 r1 t1 s q x7 x8 hk h h3
    have h1 := h.h1
    have h2 := h.h2
    by_cases hr : top < r1
    · have sz := h.size
      have st := h.step (by omega)
      have e2 := st.h2
      have e1 := st.h1
      have hq0 : 0 ≤ r0 / r1 := Int.ediv_nonneg (by omega) h1
      have hq1 : r0 / r1 ≤ r0 := Int.ediv_le_self _ (by omega)
      obtain ⟨r0', t0', r1', t1', s', q', z1, z2, z3, z4⟩ := ih r1 t1 (r0 - r0 / r1 * r1) (t0 - r0 / r1 * t1) (-s) (some (.int (r0 / r1), false)) x7 x8 (by omega) st hr
      refine ⟨r0', t0', r1', t1', s', q', z1, z2, z3, ?_⟩
      rw [← z4]
      unfold whl
      rw [whlG_more (by simp [ixn, hr]; exact ⟨rfl, rfl⟩) (by
        have l1 : r1.natAbs.log2 < 9000 := Nat.lt_of_le_of_lt (log2_le_of (show r1.natAbs ≤ m.natAbs by omega)) hm
        simp [b_reckoned_back_2, ixn, show 0 < r1 by omega, l1, mulOk_of hm (a := r0 / r1) (b := r1) (by omega) (by omega), mulOk_of hm (a := r0 / r1) (b := t1) (by omega) (by omega), LIM]
        rfl)]
    · refine ⟨r0, t0, r1, t1, s, q, h, h3, by omega, ?_⟩
      unfold whl
      rw [whlG_done (by simp [ixn, hr]; exact ⟨rfl, rfl⟩)]
def lbD : Option (Int × Int) → D
  | none => .non
  | some (a, b) => .tup [.int a, .int b]
theorem rb_tail {n : Nat} {bottom a b : Int} {x0 x1 x2 x4 x5 x6 : Sl} (hb : 0 < b) : ∃ env, exs Γ (callN Γ (n + 1)) false b_reckoned_back_3 [x0, x1, x2, some (.int bottom, false), x4, x5, x6, some (.int a, false), some (.int b, false)] = .rt (lbD (if b ≤ bottom ∧ Int.gcd a b = 1 then some (a, b) else none), false) env := by
  have hq : (b == 0) = false := by
    rw [beq_eq_false_iff_ne]
    omega
  by_cases h1 : bottom < b
  · rw [if_neg (by omega)]
    simp [b_reckoned_back_3, h1, lbD]
  · by_cases h2 : Int.gcd a b = 1
    · rw [if_pos (by omega)]
      simp [b_reckoned_back_3, b_reckoned_back_4, h1, hq, r_shared, h2, eqb, lbD, LIM]
    · have : Int.gcd a b ≠ 0 := by
        rw [Ne, Int.gcd_eq_zero_iff]
        omega
      rw [if_neg (by omega)]
      simp [b_reckoned_back_3, h1, hq, r_shared, show (1 : Int) < (Int.gcd a b : Int) by omega, eqb, lbD]
theorem r_reckoned_back (n : Nat) (rest m top bottom : Int) (hm : m.natAbs.log2 < 9000) (ht : 0 ≤ top) (hb : 1 ≤ bottom) (hs : 2 * top * bottom < m) : ∃ o, LB rest m top bottom o ∧ callN Γ (n + 2) 3 [(.int rest, false), (.int m, false), (.int top, false), (.int bottom, false)] = .ret (lbD o, false) none := by
  have htb : top ≤ top * bottom := by
    have := Int.mul_le_mul_of_nonneg_left hb ht
    omega
  have e2 : 2 * top * bottom = 2 * (top * bottom) := by grind
  have m0 : top < m := by omega
  obtain ⟨r0, t0, r1, t1, s, q, h, h3, h2, e⟩ := rb_loop (n := n + 1) (m := m) (rest := rest) (top := top) (bottom := bottom) hm ht (rest % m).toNat m 0 (rest % m) 1 1 none none none (by omega) (RbI.start (by omega)) m0
  have hall := @rb_only m rest r0 t0 r1 t1 s top bottom
  have hp := h.ht1
  have hg : Int.gcd (s * r1) (s * t1) = Int.gcd r1 t1 := by
    rcases h.hs with z | z <;> subst z <;> simp
  refine ⟨if s * t1 ≤ bottom ∧ Int.gcd (s * r1) (s * t1) = 1 then some (s * r1, s * t1) else none, ?_, ?_⟩
  · by_cases c : s * t1 ≤ bottom ∧ Int.gcd (s * r1) (s * t1) = 1
    · rw [if_pos c]
      rw [hg] at c
      exact .one _ _ (rb_is h h2 c.1 c.2) fun a b k => hall h h2 h3 hs k
    · rw [if_neg c]
      refine .no fun a b k => c ?_
      obtain ⟨z1, z2⟩ := hall h h2 h3 hs k
      rw [← z1, ← z2]
      exact ⟨k.b1, k.co⟩
  · obtain ⟨env, z⟩ := rb_tail (n := n) (bottom := bottom) (a := s * r1) (b := s * t1) (x0 := some (.int rest, false)) (x1 := some (.int m, false)) (x2 := some (.int top, false)) (x4 := some (D.tup [D.int r0, D.int t0], false)) (x5 := some (D.tup [D.int r1, D.int t1], false)) (x6 := q) hp
    rw [callN_eq rfl]
    rcases h.hs with w | w
    · subst w
      rw [Int.one_mul, Int.one_mul] at *
      simp [body, b_reckoned_back, b_reckoned_back_1, LIM, show 0 < m by omega, e, show ¬ t1 < 0 by omega, z]
    · subst w
      rw [show -1 * r1 = -r1 by omega, show -1 * t1 = -t1 by omega] at *
      simp [body, b_reckoned_back, b_reckoned_back_1, LIM, show 0 < m by omega, e, show t1 < 0 by omega, z]
theorem r_led_back (n : Nat) (rest m top bottom : Int) (hm : m ≤ 1000000000000000000000000000000000000000000000000000000000000) (hr : 0 ≤ rest ∧ rest < m) (ht : 0 ≤ top) (hb : 1 ≤ bottom) (hs : 2 * top * bottom < m) (hm2 : 2 ≤ m) (hM : MulOk (2 * top) bottom) : ∃ o, LB rest m top bottom o ∧ callN Γ (n + 3) 8 [(.int rest, false), (.int m, false), (.int top, false), (.int bottom, false)] = .ret (lbD o, false) none := by
  obtain ⟨o, h1, h2⟩ := r_reckoned_back n rest m top bottom (by
    have := natAbs_log2_lt (a := m) (k := 200) (by omega) (by omega)
    omega) ht hb hs
  refine ⟨o, h1, ?_⟩
  have h2' : MulOk 2 top := mulOk_l (by omega)
  rw [callN_eq rfl]
  simp [body, b_led_back, b_led_back_1, b_led_back_2, hm2, hm, hr.1, show rest ≤ m - 1 by omega, show ¬ top < 0 by omega, show ¬ bottom < 1 by omega, h2', hM, show ¬ m ≤ 2 * top * bottom by omega, h2]
end PL
namespace PL
open PySem
/-- the law's row: the script, how many are taken, two numbers -/
abbrev rwD (ns : List Int) (i x y : Int) : D := .lst [.scr ns, .int i, .int x, .int y]
theorem r_taken (n : Nat) (ns : List Int) (i x y m : Int) (hi : 0 ≤ i) (hm : 0 < m) (hl : m.natAbs.log2 < 9000) : ∃ v i' x' y', 0 ≤ i' ∧ 0 ≤ v ∧ v < m ∧ callN Γ (n + 1) 5 [(rwD ns i x y, true), (.int m, false)] = .ret (.int v, false) (some (rwD ns i' x' y')) := by
  rw [callN_eq rfl]
  have s1 : ∀ z : Int, MulOk z 48271 := fun z => mulOk_r (by omega)
  by_cases h1 : 0 < y
  · refine ⟨y % m, i, x, y / m, hi, Int.emod_nonneg _ (by omega), Int.emod_lt_of_pos _ hm, ?_⟩
    simp [body, b__law_taken, ixn, h1, hm, hl]
  · by_cases h2 : (ns.length : Int) < i + 1
    · refine ⟨(x * 48271 + 11) % 2147483647 / 7 % m, i + 1, (x * 48271 + 11) % 2147483647, y, by omega, Int.emod_nonneg _ (by omega), Int.emod_lt_of_pos _ hm, ?_⟩
      have l7 : (7 : Int).natAbs.log2 < 9000 := by decide
      have l8 : Nat.log2 7 < 9000 := by decide
      simp [body, b__law_taken, b__law_taken_1, ixn, h1, hm, hl, h2, s1, l7, l8]
    · have hj : i.toNat < ns.length := by omega
      have e1 : ns[i.toNat]? = some ns[i.toNat] := List.getElem?_eq_getElem hj
      by_cases h3 : 1000000000000000000 ≤ ns[i.toNat]
      · refine ⟨ns[i.toNat] % m, i + 1, (x * 48271 + ns[i.toNat] + 11) % 2147483647, ns[i.toNat] / m, by omega, Int.emod_nonneg _ (by omega), Int.emod_lt_of_pos _ hm, ?_⟩
        simp [body, b__law_taken, b__law_taken_1, b__law_taken_2, b__law_taken_3, ixn, h1, hm, hl, h2, s1, e1, hi, hj, show i < (ns.length : Int) by omega, h3, show i + 1 - 1 = i by omega]
      · refine ⟨ns[i.toNat] % m, i + 1, (x * 48271 + ns[i.toNat] + 11) % 2147483647, y, by omega, Int.emod_nonneg _ (by omega), Int.emod_lt_of_pos _ hm, ?_⟩
        simp [body, b__law_taken, b__law_taken_1, b__law_taken_2, b__law_taken_3, ixn, h1, hm, hl, h2, s1, e1, hi, hj, show i < (ns.length : Int) by omega, h3, show i + 1 - 1 = i by omega]
theorem ratio_run (n : Nat) (a b g : Int) (hb : 0 < b) (r : callN Γ (n + 1) 4 [(.int a, false), (.int b, false)] = .ret (.int g, false) none) (mo : MulOk g 1) (g0 : 0 < g) (lg : g.natAbs.log2 < 9000) : callN Γ (n + 2) 6 [(.int a, false), (.int b, false)] = .ret (.tup [.int (a / g), .int (b / g)], false) none := by
  rw [callN_eq rfl]
  simp [body, b__law_ratio, r, hb, mo, g0, lg, LIM]
theorem r_ratio (n : Nat) (a b : Int) (hb : 0 < b) (hl : b.natAbs.log2 < 9000) : ∃ a' b', Int.gcd a' b' = 1 ∧ 0 < b' ∧ b' ≤ b ∧ a'.natAbs ≤ a.natAbs ∧ a' * b = a * b' ∧ callN Γ (n + 2) 6 [(.int a, false), (.int b, false)] = .ret (.tup [.int a', .int b'], false) none := by
  have hg : 0 < Int.gcd a b := by
    rcases Nat.eq_zero_or_pos (Int.gcd a b) with z | z
    · rw [Int.gcd_eq_zero_iff] at z
      omega
    · exact z
  obtain ⟨ka, ha⟩ := Int.gcd_dvd_left a b
  obtain ⟨kb, hb'⟩ := Int.gcd_dvd_right a b
  have g0 : (0 : Int) < (Int.gcd a b : Int) := by omega
  have e1 : a / (Int.gcd a b : Int) = ka := Int.ediv_eq_of_eq_mul_right (by omega) ha
  have e2 : b / (Int.gcd a b : Int) = kb := Int.ediv_eq_of_eq_mul_right (by omega) hb'
  have hkb : 0 < kb := by
    rcases Int.lt_or_le 0 kb with z | z
    · exact z
    · have := Int.mul_nonneg (show 0 ≤ (Int.gcd a b : Int) by omega) (show 0 ≤ -kb by omega)
      grind
  refine ⟨a / (Int.gcd a b : Int), b / (Int.gcd a b : Int), Int.gcd_ediv_gcd_ediv_gcd hg, by omega, Int.ediv_le_self _ (by omega), ?_, ?_, ?_⟩
  · exact Int.natAbs_ediv_le_natAbs ..
  · rw [e1, e2]
    have : (Int.gcd a b : Int) * (ka * b) = (Int.gcd a b : Int) * (a * kb) := by grind
    exact Int.eq_of_mul_eq_mul_left (by omega) this
  · have lg : (Int.gcd a b : Int).natAbs.log2 < 9000 := by
      refine Nat.lt_of_le_of_lt (log2_le_of ?_) hl
      have := Int.le_of_dvd hb (Int.gcd_dvd_right a b)
      omega
    exact ratio_run n a b _ hb (r_law_shared n a b) (mulOk_r (by omega)) g0 lg
theorem turned_loop {n : Nat} {v m : Int} (hm : m.natAbs.log2 < 9000) : ∀ (k : Nat) (r0 t0 r1 t1 s : Int) (q : Sl), r1.toNat ≤ k → RbI m v r0 t0 r1 t1 s → Int.gcd r0 r1 = Int.gcd v m →
    ∃ r0' t0' t1' s' q', RbI m v r0' t0' 0 t1' s' ∧ r0' = Int.gcd v m ∧ whl Γ (callN Γ n) false (.cmp .ne (.idxv 3 (.cst (.int 0))) (.cst (.int 0))) b__law_turned_2
      [some (.int v, false), some (.int m, false), some (.tup [.int r0, .int t0], false), some (.tup [.int r1, .int t1], false), q] =
     .nx [some (.int v, false), some (.int m, false), some (.tup [.int r0', .int t0'], false), some (.tup [.int 0, .int t1'], false), q'] := by
  intro k
  induction k with
  | zero =>
    intro r0 t0 r1 t1 s q hk h hg
    have h1 := h.h1
    have h2 := h.h2
    have e : r1 = 0 := by omega
    subst e
    refine ⟨r0, t0, t1, s, q, h, ?_, ?_⟩
    · simp at hg
      omega
    · unfold whl
      rw [whlG_done (by simp [ixn, eqb]; exact ⟨rfl, rfl⟩)]
  | succ k ih =>
    intro r0 t0 r1 t1 s q hk h hg
    have h1 := h.h1
    have h2 := h.h2
    by_cases hr : r1 = 0
    · subst hr
      refine ⟨r0, t0, t1, s, q, h, ?_, ?_⟩
      · simp at hg
        omega
      · unfold whl
        rw [whlG_done (by simp [ixn, eqb]; exact ⟨rfl, rfl⟩)]
    · have sz := h.size
      have st := h.step (by omega)
      have e2 := st.h2
      have e1 := st.h1
      have hq0 : 0 ≤ r0 / r1 := Int.ediv_nonneg (by omega) h1
      have hq1 : r0 / r1 ≤ r0 := Int.ediv_le_self _ (by omega)
      obtain ⟨r0', t0', t1', s', q', z1, z2, z4⟩ := ih r1 t1 (r0 - r0 / r1 * r1) (t0 - r0 / r1 * t1) (-s) (some (.int (r0 / r1), false)) (by omega) st (by
        rw [Int.gcd_sub_mul_right_right, Int.gcd_comm, hg])
      refine ⟨r0', t0', t1', s', q', z1, z2, ?_⟩
      rw [← z4]
      unfold whl
      rw [whlG_more (by simp [ixn, hr, eqb]; exact ⟨rfl, rfl⟩) (by
        have l1 : r1.natAbs.log2 < 9000 := Nat.lt_of_le_of_lt (log2_le_of (show r1.natAbs ≤ m.natAbs by omega)) hm
        simp [b__law_turned_2, ixn, show 0 < r1 by omega, l1, mulOk_of hm (a := r0 / r1) (b := r1) (by omega) (by omega), mulOk_of hm (a := r0 / r1) (b := t1) (by omega) (by omega), LIM]
        rfl)]
theorem r_turned (n : Nat) (v m : Int) (h0 : 0 < m) (hm : m.natAbs.log2 < 9000) (hg : Int.gcd v m = 1) : ∃ t, 0 ≤ t ∧ t < m ∧ m ∣ t * v - 1 ∧ callN Γ (n + 1) 7 [(.int v, false), (.int m, false)] = .ret (.int t, false) none := by
  obtain ⟨r0, t0, t1, s, q, h, h3, e⟩ := turned_loop (n := n) (m := m) (v := v) hm (v % m).toNat m 0 (v % m) 1 1 none (by omega) (RbI.start (by omega)) (by rw [← gcd_step])
  rw [hg] at h3
  subst h3
  refine ⟨t0 % m, Int.emod_nonneg _ (by omega), Int.emod_lt_of_pos _ h0, ?_, ?_⟩
  · obtain ⟨c, hc⟩ := h.c0
    have := Int.emod_def t0 m
    refine ⟨-c - t0 / m * v, ?_⟩
    grind
  · rw [callN_eq rfl]
    simp [body, b__law_turned, b__law_turned_1, LIM, h0, e, ixn]
end PL
namespace PL
open PySem
/-- what the numbers of a turn keep to -/
structure K5 (A B top bottom m : Int) : Prop where
  a0 : -top ≤ A
  a1 : A ≤ top
  b0 : 1 ≤ B
  b1 : B ≤ bottom
  t1 : top ≤ 1000000000000000
  o1 : bottom ≤ 1000000000000000
  m1 : 2 * top * bottom < m
  m2 : 2 ≤ m
  m3 : m ≤ 100000000000000000000000000000000000000000000
  co : Int.gcd A B = 1
  cm : Int.gcd m B = 1
theorem K5.log {A B top bottom m : Int} (h : K5 A B top bottom m) : m.natAbs.log2 < 9000 := by
  have := h.m2
  have := h.m3
  have := natAbs_log2_lt (a := m) (k := 200) (by omega) (by omega)
  omega
theorem law_6 (n : Nat) (ns : List Int) (i x y A B top bottom m : Int) (s2 s3 s9 s10 s11 s12 : Sl) (hi : 0 ≤ i) (h : K5 A B top bottom m) :
    ∃ i' x' y' s11' s12', 0 ≤ i' ∧ exs Γ (callN Γ (n + 3)) false b_law_6 [some (.scr ns, false), some (rwD ns i x y, true), s2, s3, some (.int A, false), some (.int B, false), some (.int top, false), some (.int bottom, false), some (.int m, false), s9, s10, s11, s12] =
      .nx [some (.scr ns, false), some (rwD ns i' x' y', true), s2, s3, some (.int A, false), some (.int B, false), some (.int top, false), some (.int bottom, false), some (.int m, false), s9, s10, s11', s12'] := by
  obtain ⟨a0, a1, b0, b1, t1, o1, m1, m2, m3, co, cm⟩ := id h
  obtain ⟨d, i', x', y', hi', hd, hd', e1⟩ := r_taken (n + 2) ns i x y m hi (by omega) h.log
  obtain ⟨o, lb, e2⟩ := r_led_back n d m top bottom (by omega) ⟨hd, hd'⟩ (by omega) (by omega) m1 m2 (mulOk_l (by omega))
  cases lb with
  | no =>
    refine ⟨i', x', y', some (.int d, false), some (.non, false), hi', ?_⟩
    simp [b_law_6, e1, e2, lbD]
  | one a b k hk =>
    refine ⟨i', x', y', some (.int d, false), some (.tup [.int a, .int b], false), hi', ?_⟩
    obtain ⟨z1, z2, z3, z4, z5, z6⟩ := k
    have dv : (b * d - a) % m = 0 := Int.emod_eq_zero_of_dvd z5
    have mo : MulOk b d := mulOk_l (by omega)
    have hab : ¬ top < (a.natAbs : Int) := by omega
    simp [b_law_6, b_law_7, e1, e2, lbD, ixn, dv, mo, show 0 < m by omega, abs_if, hab, z1, z2, r_law_shared, z6, eqb]
end PL
namespace PL
open PySem
theorem dpk_lbD (n : Nat) (o : Option (Int × Int)) : Dpk (n + 1) (lbD o) := by
  cases o with
  | none => trivial
  | some p =>
    obtain ⟨a, b⟩ := p
    simp [lbD, Dpk]
theorem eqb_lbD (o : Option (Int × Int)) (A B : Int) : eqb (lbD o) (.tup [.int A, .int B]) = decide (o = some (A, B)) := by
  cases o with
  | none => simp [lbD, eqb]
  | some p =>
    obtain ⟨a, b⟩ := p
    simp [lbD, eqb, eqbs]
    by_cases h1 : a = A <;> by_cases h2 : b = B <;> simp [h1, h2]
theorem LB.ne1 {rest m top bottom A B : Int} {o : Option (Int × Int)} (h : LB rest m top bottom o) (hb : bottom < B) : o ≠ some (A, B) := by
  intro z
  subst z
  cases h with
  | one a b k _ =>
    have := k.b1
    omega
theorem LB.ne2 {rest m top bottom A B : Int} {o : Option (Int × Int)} (h : LB rest m top bottom o) (hb : A < -top ∨ top < A) : o ≠ some (A, B) := by
  intro z
  subst z
  cases h with
  | one a b k _ =>
    have := k.a0
    have := k.a1
    omega
theorem LB.eq {rest m top bottom A B : Int} {o : Option (Int × Int)} (h : LB rest m top bottom o) (k : IsSol rest m top bottom A B) : o = some (A, B) := by
  cases h with
  | no g => exact absurd k (g A B)
  | one a b _ g =>
    obtain ⟨z1, z2⟩ := g A B k
    rw [z1, z2]
theorem law_5 (n : Nat) (ns : List Int) (i x y A B top bottom m rest : Int) (s2 s3 s10 s11 s12 : Sl) (hi : 0 ≤ i) (h : K5 A B top bottom m) (hr : 0 ≤ rest ∧ rest < m) :
    ∃ i' x' y' s10' s11' s12', 0 ≤ i' ∧ exs Γ (callN Γ (n + 3)) false b_law_5 [some (.scr ns, false), some (rwD ns i x y, true), s2, s3, some (.int A, false), some (.int B, false), some (.int top, false), some (.int bottom, false), some (.int m, false), some (.int rest, false), s10, s11, s12] =
      .nx [some (.scr ns, false), some (rwD ns i' x' y', true), s2, s3, some (.int A, false), some (.int B, false), some (.int top, false), some (.int bottom, false), some (.int m, false), some (.int rest, false), s10', s11', s12'] := by
  obtain ⟨a0, a1, b0, b1, t1, o1, m1, m2, m3, co, cm⟩ := id h
  have g1 : 2 * top * (B - 1) < m := Int.lt_of_le_of_lt (Int.mul_le_mul_of_nonneg_left (by omega) (by omega)) m1
  have g2 : 2 * ((A.natAbs : Int) - 1) * bottom < m := Int.lt_of_le_of_lt (Int.mul_le_mul_of_nonneg_right (by omega) (by omega)) m1
  have E1 : ∃ o1 : Option (Int × Int), o1 ≠ some (A, B) ∧ (1 < B → callN Γ (n + 3) 8 [(.int rest, false), (.int m, false), (.int top, false), (.int (B - 1), false)] = .ret (lbD o1, false) none) ∧ (¬ 1 < B → o1 = none) := by
    by_cases hB : 1 < B
    · obtain ⟨o, lb, e⟩ := r_led_back n rest m top (B - 1) (by omega) hr (by omega) (by omega) g1 m2 (mulOk_l (by omega))
      exact ⟨o, lb.ne1 (by omega), fun _ => e, fun z => absurd hB z⟩
    · exact ⟨none, by simp, fun z => absurd z hB, fun _ => rfl⟩
  have E2 : ∃ o1 : Option (Int × Int), o1 ≠ some (A, B) ∧ (A ≠ 0 → callN Γ (n + 3) 8 [(.int rest, false), (.int m, false), (.int ((A.natAbs : Int) - 1), false), (.int bottom, false)] = .ret (lbD o1, false) none) ∧ (A = 0 → o1 = none) := by
    by_cases hA : A = 0
    · exact ⟨none, by simp, fun z => absurd hA z, fun _ => rfl⟩
    · obtain ⟨o, lb, e⟩ := r_led_back n rest m ((A.natAbs : Int) - 1) bottom (by omega) hr (by omega) (by omega) g2 m2 (mulOk_l (by omega))
      exact ⟨o, lb.ne2 (by omega), fun _ => e, fun z => absurd z hA⟩
  obtain ⟨p1, n1, c1, d1⟩ := E1
  obtain ⟨p2, n2, c2, d2⟩ := E2
  obtain ⟨i', x', y', s11', s12', hi', e⟩ := law_6 n ns i x y A B top bottom m s2 s3 (some (.int rest, false)) (some (.lst [lbD p1, lbD p2], false)) s11 s12 hi h
  refine ⟨i', x', y', some (.lst [lbD p1, lbD p2], false), s11', s12', hi', ?_⟩
  rw [← e]
  have hp : ∀ n : Nat, Dpk (n + 1) (.lst [lbD p1, lbD p2]) = (Dpk n (lbD p1) ∧ Dpk n (lbD p2)) := by
    intro n
    simp [Dpk]
  have hno : lbD none = .non := rfl
  have hq : A ≠ 0 → (A == 0) = false := fun z => by simpa using z
  by_cases hB : 1 < B
  · by_cases hA : A = 0
    · have := d2 hA
      subst this
      subst hA
      simp [b_law_5, hB, c1 hB, abs_if, LIM, Dpk, dpk_lbD, eqb_lbD, n1, eqb, hno]
    · simp [b_law_5, hB, c1 hB, abs_if, c2 hA, hq hA, LIM, Dpk, dpk_lbD, eqb_lbD, n1, n2, eqb, hno]
  · have := d1 hB
    subst this
    by_cases hA : A = 0
    · have := d2 hA
      subst this
      subst hA
      simp [b_law_5, hB, abs_if, LIM, Dpk, dpk_lbD, eqb_lbD, eqb, hno]
    · simp [b_law_5, hB, abs_if, c2 hA, hq hA, LIM, Dpk, dpk_lbD, eqb_lbD, n2, eqb, hno]
end PL
namespace PL
open PySem
theorem law_3 (n : Nat) (ns : List Int) (i x y A B top bottom m : Int) (s2 s3 s9 s10 s11 s12 : Sl) (hi : 0 ≤ i) (h : K5 A B top bottom m) :
    ∃ i' x' y' s9' s10' s11' s12', 0 ≤ i' ∧ exs Γ (callN Γ (n + 3)) false b_law_3 [some (.scr ns, false), some (rwD ns i x y, true), s2, s3, some (.int A, false), some (.int B, false), some (.int top, false), some (.int bottom, false), some (.int m, false), s9, s10, s11, s12] =
      .nx [some (.scr ns, false), some (rwD ns i' x' y', true), s2, s3, some (.int A, false), some (.int B, false), some (.int top, false), some (.int bottom, false), some (.int m, false), s9', s10', s11', s12'] := by
  obtain ⟨a0, a1, b0, b1, t1, o1, m1, m2, m3, co, cm⟩ := id h
  obtain ⟨t, ht0, ht1, dv, e1⟩ := r_turned (n + 2) B m (by omega) h.log (by rw [Int.gcd_comm]; exact cm)
  have r0 := Int.emod_nonneg (A * t) (show m ≠ 0 by omega)
  have r1 := Int.emod_lt_of_pos (A * t) (show 0 < m by omega)
  obtain ⟨o, lb, e2⟩ := r_led_back n (A * t % m) m top bottom (by omega) ⟨r0, r1⟩ (by omega) (by omega) m1 m2 (mulOk_l (by omega))
  have sol : IsSol (A * t % m) m top bottom A B := by
    refine ⟨by omega, b1, a0, a1, ?_, co⟩
    obtain ⟨c, hc⟩ := dv
    have := Int.emod_def (A * t) m
    exact ⟨A * c - B * (A * t / m), by grind⟩
  have eo := lb.eq sol
  subst eo
  obtain ⟨i', x', y', s10', s11', s12', hi', e⟩ := law_5 n ns i x y A B top bottom m (A * t % m) s2 s3 s10 s11 s12 hi h ⟨r0, r1⟩
  refine ⟨i', x', y', some (.int (A * t % m), false), s10', s11', s12', hi', ?_⟩
  rw [← e]
  have mo : MulOk A t := mulOk_l (by omega)
  simp [b_law_3, e1, mo, show 0 < m by omega, e2, lbD, LIM, Dpk, eqb, eqbs]
/-- the modulus goes on until it shares nothing with the lower number -/
theorem law_whl {n : Nat} {B : Int} {s0 s1 s2 s3 s4 s6 s7 s9 s10 s11 s12 : Sl} : ∀ (k : Nat) (m : Int), Int.gcd (m + k) B = 1 →
    ∃ m', m ≤ m' ∧ m' ≤ m + k ∧ Int.gcd m' B = 1 ∧ whl Γ (callN Γ (n + 1)) false (.cmp .ne (.fn 4 (.cons (.var 8) (.cons (.var 5) .nil))) (.cst (.int 1))) b_law_4 [s0, s1, s2, s3, s4, some (.int B, false), s6, s7, some (.int m, false), s9, s10, s11, s12] =
      .nx [s0, s1, s2, s3, s4, some (.int B, false), s6, s7, some (.int m', false), s9, s10, s11, s12] := by
  intro k
  induction k with
  | zero =>
    intro m hg
    simp at hg
    refine ⟨m, by omega, by omega, hg, ?_⟩
    unfold whl
    rw [whlG_done (by simp [r_law_shared, hg, eqb]; exact ⟨rfl, rfl⟩)]
  | succ k ih =>
    intro m hg
    by_cases hd : Int.gcd m B = 1
    · refine ⟨m, by omega, by omega, hd, ?_⟩
      unfold whl
      rw [whlG_done (by simp [r_law_shared, hd, eqb]; exact ⟨rfl, rfl⟩)]
    · obtain ⟨m', h1, h2, h3, h4⟩ := ih (m + 1) (by
        rw [show m + 1 + (k : Int) = m + ((k + 1 : Nat) : Int) by omega]
        exact hg)
      refine ⟨m', by omega, by omega, h3, ?_⟩
      rw [← h4]
      have hq : ((Int.gcd m B : Int) == 1) = false := by
        rw [beq_eq_false_iff_ne]
        omega
      unfold whl
      rw [whlG_more (by simp [r_law_shared, eqb, hq]; exact ⟨rfl, rfl⟩) (by simp [b_law_4]; rfl)]
theorem law_size (v : Int) (h0 : 0 ≤ v) (h1 : v < 5) : ∃ j s, 10 ≤ s ∧ s ≤ 100000000000000 ∧ ixn 5 v = some j ∧ [D.int 10, D.int 1000, D.int 1000000, D.int 10000000000, D.int 100000000000000][j]? = some (D.int s) := by
  have : v = 0 ∨ v = 1 ∨ v = 2 ∨ v = 3 ∨ v = 4 := by omega
  refine ⟨v.toNat, ?_⟩
  rcases this with z | z | z | z | z <;> subst z <;> simp [ixn]
theorem law_turn (n : Nat) (ns : List Int) (i x y : Int) (s2 s3 s4 s5 s6 s7 s8 s9 s10 s11 s12 : Sl) (hi : 0 ≤ i) :
    ∃ i' x' y' s3' s4' s5' s6' s7' s8' s9' s10' s11' s12', 0 ≤ i' ∧ exs Γ (callN Γ (n + 3)) false b_law_2 [some (.scr ns, false), some (rwD ns i x y, true), s2, s3, s4, s5, s6, s7, s8, s9, s10, s11, s12] =
      .nx [some (.scr ns, false), some (rwD ns i' x' y', true), s2, s3', s4', s5', s6', s7', s8', s9', s10', s11', s12'] := by
  have lg : ∀ z : Int, 0 < z → z ≤ 100000000000000000000 → z.natAbs.log2 < 9000 := by
    intro z h1 h2
    have := natAbs_log2_lt (a := z) (k := 200) (by omega) (by omega)
    omega
  obtain ⟨v1, i1, x1, y1, hi1, p1, q1, e1⟩ := r_taken (n + 2) ns i x y 5 hi (by omega) (lg 5 (by omega) (by omega))
  obtain ⟨j, sz, z0, z1, es1, es⟩ := law_size v1 p1 q1
  obtain ⟨v2, i2, x2, y2, hi2, p2, q2, e2⟩ := r_taken (n + 2) ns i1 x1 y1 (2 * sz) hi1 (by omega) (lg _ (by omega) (by omega))
  obtain ⟨v3, i3, x3, y3, hi3, p3, q3, e3⟩ := r_taken (n + 2) ns i2 x2 y2 sz hi2 (by omega) (lg _ (by omega) (by omega))
  obtain ⟨A, B, co, hB, hB1, hA, _, e4⟩ := r_ratio (n + 1) (v2 - sz) (1 + v3) (by omega) (lg _ (by omega) (by omega))
  obtain ⟨v5, i5, x5, y5, hi5, p5, q5, e5⟩ := r_taken (n + 2) ns i3 x3 y3 sz hi3 (by omega) (lg _ (by omega) (by omega))
  obtain ⟨v6, i6, x6, y6, hi6, p6, q6, e6⟩ := r_taken (n + 2) ns i5 x5 y5 sz hi5 (by omega) (lg _ (by omega) (by omega))
  obtain ⟨v7, i7, x7, y7, hi7, p7, q7, e7⟩ := r_taken (n + 2) ns i6 x6 y6 sz hi6 (by omega) (lg _ (by omega) (by omega))
  generalize ht : (A.natAbs : Int) + v5 = top
  generalize hb : B + v6 = bottom
  generalize hm : 2 * top * bottom + top + bottom + 1 + v7 = m
  have nn : 0 ≤ top * bottom := Int.mul_nonneg (by omega) (by omega)
  have up : top * bottom ≤ 1000000000000000 * 1000000000000000 := Int.mul_le_mul (by omega) (by omega) (by omega) (by omega)
  have e22 : 2 * top * bottom = 2 * (top * bottom) := Int.mul_assoc ..
  have hk : Int.gcd (m + ((B + 1 - m % B).toNat : Nat)) B = 1 := by
    have := Int.emod_lt_of_pos m hB
    have e : m + ((B + 1 - m % B).toNat : Nat) = 1 + (m / B + 1) * B := by
      have := Int.emod_def m B
      grind
    rw [e, Int.gcd_comm, Int.gcd_add_mul_right_right]
    simp
  obtain ⟨m', g1, g2, g3, e8⟩ := law_whl (n := n + 2) (B := B) (s0 := some (.scr ns, false)) (s1 := some (rwD ns i7 x7 y7, true)) (s2 := s2) (s3 := some (.int sz, false)) (s4 := some (.int A, false)) (s6 := some (.int top, false)) (s7 := some (.int bottom, false)) (s9 := s9) (s10 := s10) (s11 := s11) (s12 := s12) _ m hk
  have r0 := Int.emod_nonneg m (show B ≠ 0 by omega)
  have K : K5 A B top bottom m' := ⟨by omega, by omega, by omega, by omega, by omega, by omega, by omega, by omega, by omega, co, g3⟩
  obtain ⟨i', x', y', s9', s10', s11', s12', hi', e⟩ := law_3 n ns i7 x7 y7 A B top bottom m' s2 (some (.int sz, false)) s9 s10 s11 s12 hi7 K
  refine ⟨i', x', y', some (.int sz, false), some (.int A, false), some (.int B, false), some (.int top, false), some (.int bottom, false), some (.int m', false), s9', s10', s11', s12', hi', ?_⟩
  rw [← e]
  have k1 : MulOk 2 sz := mulOk_l (by omega)
  have k2 : MulOk 2 top := mulOk_l (by omega)
  have k3 : MulOk (2 * top) bottom := mulOk_l (by omega)
  simp [b_law_2, LIM, e1, es1, es, k1, e2, e3, e4, abs_if, e5, ht, e6, hb, k2, k3, e7, hm, e8]
theorem law_all (n : Nat) (ns : List Int) : ∀ (ds : List D) (i x y : Int) (s2 s3 s4 s5 s6 s7 s8 s9 s10 s11 s12 : Sl), 0 ≤ i →
    ∃ env, frl Γ (callN Γ (n + 3)) false (.one 2) b_law_2 ds [some (.scr ns, false), some (rwD ns i x y, true), s2, s3, s4, s5, s6, s7, s8, s9, s10, s11, s12] = .nx env := by
  intro ds
  induction ds with
  | nil =>
    intro i x y s2 s3 s4 s5 s6 s7 s8 s9 s10 s11 s12 hi
    exact ⟨_, rfl⟩
  | cons d ds ih =>
    intro i x y s2 s3 s4 s5 s6 s7 s8 s9 s10 s11 s12 hi
    obtain ⟨i', x', y', s3', s4', s5', s6', s7', s8', s9', s10', s11', s12', hi', e⟩ := law_turn n ns i x y (some (d, false)) s3 s4 s5 s6 s7 s8 s9 s10 s11 s12 hi
    obtain ⟨env, z⟩ := ih i' x' y' (some (d, false)) s3' s4' s5' s6' s7' s8' s9' s10' s11' s12' hi'
    refine ⟨env, ?_⟩
    rw [← z]
    simp only [frl, forF, bnd, List.set_cons_succ, List.set_cons_zero, Bool.false_eq_true, false_and, if_false]
    rw [e]
def depth : Nat := 12
theorem law_true : ∀ ns : List Int, ns.length ≤ 63 → callN Γ depth 9 [(.scr ns, false)] = .ret (.bl true, false) none := by
  intro ns _
  unfold depth
  rw [callN_eq rfl]
  obtain ⟨env, e⟩ := law_all 8 ns (rgD 0 8) 0 0 0 none none none none none none none none none none none (by omega)
  simp only [Nat.reduceAdd] at e
  simp [body, b_law, b_law_1, LIM, e]
end PL
open PySem PySem.W PyProof.Rows
set_option maxRecDepth 100000 in
set_option maxHeartbeats 0 in
theorem PySem.Challenge.cw_powerlift_k05_whole_fractions_come_back_holds : PySem.Challenge.rw_powerlift_k05_whole_fractions_come_back.Holds := by
  w_on; o_law; k_head; (case hw => w_witness2)
  k_fill
  refine PL.walk_end (l := PySem.Challenge.rw_powerlift_k05_whole_fractions_come_back) (n := PL.depth) PL.law_true ⟨rfl, by decide, by decide⟩ rfl rfl (fun w h Y => PySem.W.kIn_of Y) ?F
  case F =>
    intro w mg fa h KX G hmg
    refine' PL.all_mk KX G hmg ?a0 ?l0 ?c0 ?k0 ?a1 ?l1 ?c1 ?k1 ?a2 ?l2 ?c2 ?k2 ?a3 ?l3 ?c3 ?k3 ?a4 ?l4 ?c4 ?k4 ?a5 ?l5 ?c5 ?k5 ?a6 ?l6 ?c6 ?k6 ?a7 ?l7 ?c7 ?k7 ?a8 ?l8 ?c8 ?k8 ?a9 ?l9 ?c9 ?k9 ?u0 ?z0 ?z1 ?z2 ?z3 ?z4 ?z5 ?z6 ?z7 ?z8 ?z9 ?z10 ?z11 ?z12 ?z13 ?z14
    (case a0 => k_is); (case l0 => k_is); (case c0 => k_is); (case k0 => k_is); (case a1 => k_is); (case l1 => k_is); (case c1 => k_is); (case k1 => k_is); (case a2 => k_is); (case l2 => k_is); (case c2 => k_is); (case k2 => k_is); (case a3 => k_is); (case l3 => k_is); (case c3 => k_is); (case k3 => k_is); (case a4 => k_is); (case l4 => k_is); (case c4 => k_is); (case k4 => k_is); (case a5 => k_is); (case l5 => k_is); (case c5 => k_is); (case k5 => k_is); (case a6 => k_is); (case l6 => k_is); (case c6 => k_is); (case k6 => k_is); (case a7 => k_is); (case l7 => k_is); (case c7 => k_is); (case k7 => k_is); (case a8 => k_is); (case l8 => k_is); (case c8 => k_is); (case k8 => k_is); (case a9 => k_is); (case l9 => k_is); (case c9 => k_is); (case k9 => k_is); (case u0 => k_is); (case z0 => k_is); (case z1 => k_is); (case z2 => k_is); (case z3 => k_is); (case z4 => k_is); (case z5 => k_is); (case z6 => k_is); (case z7 => k_is); (case z8 => k_is); (case z9 => k_is); (case z10 => k_is); (case z11 => k_is); (case z12 => k_is); (case z13 => k_is); (case z14 => k_is)

import PyProof.Rows.All
import Wide.All
import OpenK.AllK
import Wide.FinOn
import HandS.ForMost
import HandS.Wide
import HandS.TupAny
import HandS.TupMul
import HandS.Deep
import HandS.IsInst
import HandS.Style
import HandS.Conv
import HandS.Zip
import HandS.Flow
import HandS.Comp
import KE.GoesNew
import PySem.Challenge.RW_powerlift_k18_written
set_option Elab.async false
set_option linter.all false
/-! PLCore: data, a small syntax, its reckoning (no heap in sight). -/
namespace PL
open PySem

inductive D where
  | non | bl (b : Bool) | int (i : Int) | str (s : Str)
  | tup (l : List D) | lst (l : List D) | scr (l : List Int)
  | dic (ks : List Int) (vs : List D)
  | ins (c : Nat) (fs : List Nat) (vs : List D)
  deriving Inhabited

abbrev Sl := Option (D × Bool)
abbrev Fm := List Sl
structure Exn where
  cls : Nat
  val : D
inductive Res (α : Type) where
  | ok (a : α) (e : Fm) | exc (x : Exn) (e : Fm) | err
inductive Fl where
  | nx (e : Fm) | rt (r : D × Bool) (e : Fm) | exc (x : Exn) (e : Fm) | err
inductive CRes where
  | ret (r : D × Bool) (p : Option D) | exc (x : Exn) (p : Option D) | err

def Res.bind {α β : Type} (r : Res α) (f : α → Fm → Res β) : Res β :=
  match r with
  | .ok a e => f a e
  | .exc x e => .exc x e
  | .err => .err
@[simp] theorem Res.bind_ok {α β : Type} (a : α) (e : Fm) (f : α → Fm → Res β) : (Res.ok a e).bind f = f a e := rfl
@[simp] theorem Res.bind_exc {α β : Type} (x : Exn) (e : Fm) (f : α → Fm → Res β) : (Res.exc x e : Res α).bind f = .exc x e := rfl
@[simp] theorem Res.bind_err {α β : Type} (f : α → Fm → Res β) : (Res.err : Res α).bind f = .err := rfl
def Res.lift {α : Type} (o : Option α) (e : Fm) : Res α :=
  match o with
  | some a => .ok a e
  | none => .err
@[simp] theorem Res.lift_some {α : Type} (a : α) (e : Fm) : Res.lift (some a) e = .ok a e := rfl
@[simp] theorem Res.lift_none {α : Type} (e : Fm) : (Res.lift none e : Res α) = .err := rfl

inductive BOp where | add | sub | mul | div | mod | pow
  deriving DecidableEq
inductive COp where | eq | ne | lt | le | gt | ge | isN | notN | inn | nin
  deriving DecidableEq
inductive Ty where | int | bool | str | tuple | list
  deriving DecidableEq
/-- built-in functions by values -/
inductive Bi where
  | len | abs | max2 | min2 | max1 | min1 | int1 | str1 | sum | sorted | list | tuple | any | all | listR | tupR | dictL | dictZ
  deriving DecidableEq
/-- methods of built-in types that change nothing -/
inductive Bm where
  | count | index | join | split | starts | get
  deriving DecidableEq
/-- what is stored to -/
inductive Tg where
  | one (i : Nat) | many (is : List Nat)

mutual
inductive E where
  | var (i : Nat)
  | cst (d : D)
  | glb (g : Nat)
  | bin (op : BOp) (a b : E)
  | neg (a : E)
  | cmp (op : COp) (a b : E)
  | cmpv (op : COp) (x : Nat) (b : E)
  | chn (o p : COp) (a b c : E)
  | din (neg : Bool) (a b : E)
  | and (a b : E) | or (a b : E) | not (a : E)
  | ifx (c a b : E)
  | tup (es : Es) | lst (es : Es)
  | idx (a i : E)
  | idxv (x : Nat) (i : E)
  | slc (a : E) (lo hi : O)
  | atr (p : E) (f : Nat)
  | isI (a : E) (ts : List Ty)
  | bi (b : Bi) (es : Es)
  | lenp (p : E)
  | bm (m : Bm) (o a : E)
  | fn (f : Nat) (es : Es)
  | fnv (f : Nat) (x : Nat) (es : Es)
  | fnk (f : Nat) (es : Es) (k : E)
  | mth (o : E) (m : Nat) (es : Es)
  | mthp (p : E) (m : Nat) (es : Es)
  | new (c : Nat) (es : Es)
  | pop (x : Nat) (i : E)
  | lc (it : Src) (tg : Tg) (c : O) (body : E)
  | lc2 (it : Src) (tg : Tg) (it2 : Src) (tg2 : Tg) (body : E)
  | dc (it : Src) (tg : Tg) (k v : E)
inductive Es where
  | nil | cons (e : E) (es : Es)
inductive O where
  | none | some (e : E)
inductive Src where
  | seq (e : E) | pek (p : E) | rng1 (e : E) | rng2 (a b : E) | enm (e : E) | zip (a b : E) | vals (e : E)
end

mutual
inductive S where
  | asg (tg : Tg) (e : E)
  | par (is : List Nat) (es : Es)
  | aug (i : Nat) (sb : Bool) (e : E)
  | sub (x : Nat) (i e : E)
  | swp (x : Nat) (i j a b : E)
  | fld (f : Nat) (e : E)
  | fld2 (f g : Nat) (e : E)
  | app (p : E) (e : E)
  | exp (e : E)
  | ret (e : E) | retN
  | ifs (c : E) (a b : Ss)
  | whl (c : E) (b : Ss)
  | for (it : Src) (tg : Tg) (b : Ss)
  | rse (c : Nat) (e : O)
  | pas
inductive Ss where
  | nil | cons (s : S) (r : Ss)
end

structure FnE where
  np : Nat
  ns : Nat
  io : Bool
  body : Ss
structure Ctx where
  glb : Nat → Option D
  om : Nat → Nat → Bool
  fn : Nat → Option FnE
  meth : Nat → Nat → Option Nat
  init : Nat → Option Nat
  dfl : Nat → List D
  kwd : Nat → Nat

def LIM : Nat := 1000000

/-! ### data -/
/-- of nested depth at most n, without dicts and instances -/
def Dpk : Nat → D → Prop
  | _, .non => True
  | _, .bl _ => True
  | _, .int _ => True
  | _, .str s => s.cps.all (· < 0x110000) = true
  | n + 1, .tup l => ∀ x ∈ l, Dpk n x
  | n + 1, .lst l => ∀ x ∈ l, Dpk n x
  | _, _ => False
mutual
def eqb : D → D → Bool
  | .non, .non => true
  | .bl a, .bl b => a == b
  | .bl a, .int j => (if a then 1 else 0) == j
  | .int i, .bl b => i == (if b then 1 else 0)
  | .int i, .int j => i == j
  | .str x, .str y => x == y
  | .lst xs, .lst ys => eqbs xs ys
  | .tup xs, .tup ys => eqbs xs ys
  | _, _ => false
def eqbs : List D → List D → Bool
  | [], [] => true
  | x :: xs, y :: ys => eqb x y && eqbs xs ys
  | _, _ => false
end
@[simp] def flat : D → Bool
  | .non => true | .bl _ => true | .int _ => true | .str _ => true | _ => false

def MulOk (i j : Int) : Prop := (-(2 ^ 64) < i ∧ i < 2 ^ 64) ∨ (-(2 ^ 64) < j ∧ j < 2 ^ 64) ∨ i.natAbs.log2 + j.natAbs.log2 < 1000000
instance (i j : Int) : Decidable (MulOk i j) := by unfold MulOk; exact inferInstance

@[simp] def biD : BOp → D → D → Option (D × Bool)
  | .add, .int i, .int j => some (.int (i + j), false)
  | .add, .tup a, .tup b => if a.length + b.length ≤ LIM then some (.tup (a ++ b), false) else none
  | .add, .lst a, .lst b => if a.length + b.length ≤ LIM then some (.lst (a ++ b), true) else none
  | .sub, .int i, .int j => some (.int (i - j), false)
  | .mul, .int i, .int j => if MulOk i j then some (.int (i * j), false) else none
  | .mul, .lst a, .int k => if 0 ≤ k ∧ k ≤ 1000 ∧ a.length ≤ 1000 then some (.lst (List.replicate k.toNat a).flatten, true) else none
  | .mul, .tup a, .int k => if 1 ≤ k ∧ k ≤ 1000 ∧ a.length ≤ 1000 ∧ a ≠ [] then some (.tup (List.replicate k.toNat a).flatten, false) else none
  | .div, .int i, .int j => if 0 < j ∧ j.natAbs.log2 < 9000 then some (.int (i / j), false) else none
  | .mod, .int i, .int j => if 0 < j then some (.int (i % j), false) else none
  | .pow, .int i, .int j => if 0 ≤ j ∧ j ≤ 1000000 ∧ i.natAbs < 2 ^ 64 then some (.int (i ^ j.toNat), false) else none
  | _, _, _ => none

@[simp] def isNon : D → Bool
  | .non => true
  | _ => false
open Classical in
@[simp] noncomputable def cmD : COp → D → D → Option Bool
  | .eq, a, b => if Dpk 16 a ∧ Dpk 16 b then some (eqb a b) else none
  | .ne, a, b => if Dpk 16 a ∧ Dpk 16 b then some (!eqb a b) else none
  | .lt, .int i, .int j => some (decide (i < j))
  | .le, .int i, .int j => some (decide (i ≤ j))
  | .gt, .int i, .int j => some (decide (j < i))
  | .ge, .int i, .int j => some (decide (j ≤ i))
  | .isN, a, .non => some (isNon a)
  | .notN, a, .non => some (!isNon a)
  | .inn, a, .lst l => if Dpk 16 a ∧ Dpk 16 (.lst l) then some (l.any fun z => eqb z a) else none
  | .nin, a, .lst l => if Dpk 16 a ∧ Dpk 16 (.lst l) then some (!l.any fun z => eqb z a) else none
  | .inn, a, .tup l => if flat a = true ∧ l.all flat = true then some (l.any fun z => eqb z a) else none
  | .nin, a, .tup l => if flat a = true ∧ l.all flat = true then some (!l.any fun z => eqb z a) else none
  | .inn, .str a, .str z => (match a.cps.toList with | [c] => some (decide (c ∈ z.cps.toList)) | _ => none)
  | .nin, .str a, .str z => (match a.cps.toList with | [c] => some (!decide (c ∈ z.cps.toList)) | _ => none)
  | _, _, _ => none

/-- the place that a whole number names in a row of n -/
def ixn (n : Nat) (i : Int) : Option Nat := if 0 ≤ i then (if i < n then some i.toNat else none) else if -(n : Int) ≤ i then some (i + n).toNat else none
@[simp] def ixD : D → D → Option D
  | .lst l, .int i => (ixn l.length i).bind fun j => l[j]?
  | .tup l, .int i => (ixn l.length i).bind fun j => l[j]?
  | .scr l, .int i => ((ixn l.length i).bind fun j => l[j]?).map .int
  | .str s, .int i => if s.length ≤ LIM then ((ixn s.cps.toList.length i).bind fun j => s.cps.toList[j]?).map fun c => .str ⟨#[c]⟩ else none
  | _, _ => none
def clp (n d : Nat) : Option Int → Nat
  | none => d
  | some v => if v < 0 then (v + (n : Int)).toNat else min v.toNat n
def cut {α : Type} (l : List α) (lo hi : Option Int) : List α := (l.drop (clp l.length 0 lo)).take (clp l.length l.length hi - clp l.length 0 lo)
@[simp] def slD : D → Option Int → Option Int → Option (D × Bool)
  | .lst l, lo, hi => some (.lst (cut l lo hi), true)
  | .tup l, lo, hi => some (.tup (cut l lo hi), false)
  | .str s, lo, hi => if s.length ≤ LIM then some (.str (L2.cutS s lo hi), false) else none
  | _, _, _ => none

@[simp] def tyD : D → Option (List Ty)
  | .non => some []
  | .bl _ => some [.bool, .int]
  | .int _ => some [.int]
  | .str _ => some [.str]
  | .tup _ => some [.tuple]
  | .lst _ => some [.list]
  | _ => none

@[simp] def intsOf : List D → Option (List Int)
  | [] => some []
  | .int i :: r => (intsOf r).map (i :: ·)
  | _ => none
@[simp] def blsOf : List D → Option (List Bool)
  | [] => some []
  | .bl b :: r => (blsOf r).map (b :: ·)
  | _ => none
def maxL : List Int → Int
  | [] => 0
  | [a] => a
  | a :: r => max a (maxL r)
def minL : List Int → Int
  | [] => 0
  | [a] => a
  | a :: r => min a (minL r)
def insI (a : Int) : List Int → List Int
  | [] => [a]
  | b :: r => if a ≤ b then a :: b :: r else b :: insI a r
def srtI : List Int → List Int
  | [] => []
  | a :: r => insI a (srtI r)
def rgD (a b : Int) : List D := (List.range (b - a).toNat).map fun (i : Nat) => D.int (a + (i : Int))
def dput (ks : List Int) (vs : List D) (k : Int) (v : D) : List Int × List D :=
  match ks, vs with
  | [], _ => ([k], [v])
  | x :: xs, y :: ys => if x = k then (x :: xs, v :: ys) else ((x :: (dput xs ys k v).1), (y :: (dput xs ys k v).2))
  | x :: xs, [] => (x :: xs, [])
def dget (ks : List Int) (vs : List D) (k : Int) : Option D :=
  match ks, vs with
  | x :: xs, y :: ys => if x = k then some y else dget xs ys k
  | _, _ => none
def dicOf : List Int → List D → List Int → List D → List Int × List D
  | ks, vs, k :: r, v :: s => dicOf (dput ks vs k v).1 (dput ks vs k v).2 r s
  | ks, vs, _, _ => (ks, vs)

/-- a number's text -/
def numI (i : Int) : Str := Str.ofString (toString i)
@[simp] def biF : Bi → List D → Option (D × Bool)
  | .len, [.lst l] => some (.int l.length, false)
  | .len, [.tup l] => some (.int l.length, false)
  | .len, [.scr l] => some (.int l.length, false)
  | .abs, [.int i] => some (.int (if i < 0 then -i else i), false)
  | .max2, [.int i, .int j] => some (.int (if j > i then j else i), false)
  | .min2, [.int i, .int j] => some (.int (if j < i then j else i), false)
  | .max1, [.lst l] => (intsOf l).bind fun ns => if ns = [] then none else some (.int (maxL ns), false)
  | .min1, [.lst l] => (intsOf l).bind fun ns => if ns = [] then none else some (.int (minL ns), false)
  | .int1, [.int i] => some (.int i, false)
  | .int1, [.bl b] => some (.int (if b then 1 else 0), false)
  | .sum, [.lst l] => (intsOf l).map fun ns => (.int ns.sum, false)
  | .sorted, [.lst l] => (intsOf l).bind fun ns => if ns.length < 64 then some (.lst ((srtI ns).map .int), true) else none
  | .list, [.lst l] => some (.lst l, true)
  | .list, [.tup l] => some (.lst l, true)
  | .tuple, [.lst l] => some (.tup l, false)
  | .tuple, [.tup l] => some (.tup l, false)
  | .any, [.lst l] => (blsOf l).map fun bs => (.bl (bs.any id), false)
  | .all, [.lst l] => (blsOf l).map fun bs => (.bl (bs.all id), false)
  | .listR, [.int n] => if 0 ≤ n ∧ n ≤ 100000 then some (.lst (rgD 0 n), true) else none
  | .tupR, [.int n] => if 0 ≤ n ∧ n ≤ 100000 then some (.tup (rgD 0 n), false) else none
  | .dictZ, [.lst ks, .lst vs] => (intsOf ks).map fun ns => (.dic (dicOf [] [] ns vs).1 (dicOf [] [] ns vs).2, false)
  | .len, [.str s] => if s.length ≤ LIM then some (.int s.length, false) else none
  | .str1, [.int i] => if i.natAbs.log2 < 1920 then some (.str (numI i), false) else none
  | .int1, [.str s] => if s.length ≤ 640 then (PySem.intText? s).map fun n => (.int n, false) else none
  | _, _ => none
@[simp] def strsOf : List D → Option (List Str)
  | [] => some []
  | .str s :: r => (strsOf r).map (s :: ·)
  | _ => none
@[simp] def bmF : Bm → D → List D → Option (D × Bool)
  | .get, .dic ks vs, [.int k, d] => some ((dget ks vs k).getD d, false)
  | .join, .str a, [.lst l] => (strsOf l).bind fun ys => if (ys.map (·.length)).sum + ys.length * a.length ≤ 1000000 then some (.str (Str.join a ys), false) else none
  | .split, .str a, [.str b] => if (b.length == 0) = false ∧ a.length + 2 ≤ LIM then some (.lst ((Txt.split a b).map .str), true) else none
  | .starts, .str a, [.str b] => some (.bl (Txt.startswith a b), false)
  | _, _, _ => none

/-! ### places -/
def fget : List Nat → List D → Nat → Option D
  | g :: gs, v :: vs, f => if g = f then some v else fget gs vs f
  | _, _, _ => none
def fput (f : Nat) (d : D) : List Nat → List D → List Nat × List D
  | g :: gs, v :: vs => if g = f then (g :: gs, d :: vs) else (g :: (fput f d gs vs).1, v :: (fput f d gs vs).2)
  | _, _ => ([f], [d])
@[simp] def rdv (x : Nat) (env : Fm) : Option D :=
  match env[x]? with
  | some (some (.ins _ _ _, _)) => none
  | some (some (d, _)) => some d
  | _ => none
@[simp] def setI (l : List D) (i : Int) (d : D) : Option (List D) := (ixn l.length i).map fun j => l.set j d

/-! ### loops -/
def iter (step : Fm → Fm ⊕ Fl) : Nat → Fm → Option Fl
  | 0, _ => none
  | n + 1, env =>
    match step env with
    | .inl env' => iter step n env'
    | .inr r => some r
open Classical in
noncomputable def whileF (step : Fm → Fm ⊕ Fl) (env : Fm) : Fl := if h : ∃ r, ∃ n, iter step n env = some r then Classical.choose h else .err
theorem iter_mono {step : Fm → Fm ⊕ Fl} : ∀ {n m : Nat} {env : Fm} {r : Fl}, iter step n env = some r → n ≤ m → iter step m env = some r
  | 0, _, _, _, h, _ => by simp [iter] at h
  | n + 1, 0, _, _, _, hm => by omega
  | n + 1, m + 1, env, r, h, hm => by
    unfold iter at h ⊢
    cases e : step env with
    | inl env' =>
      rw [e] at h
      exact iter_mono h (by omega)
    | inr r' =>
      rw [e] at h
      exact h
theorem iter_inj {step : Fm → Fm ⊕ Fl} {n m : Nat} {env : Fm} {r r' : Fl} (h : iter step n env = some r) (h' : iter step m env = some r') : r = r' := by
  have a := iter_mono h (Nat.le_max_left n m)
  have b := iter_mono h' (Nat.le_max_right n m)
  rw [a] at b
  exact Option.some.inj b
theorem whileF_of {step : Fm → Fm ⊕ Fl} {n : Nat} {env : Fm} {r : Fl} (h : iter step n env = some r) : whileF step env = r := by
  have z : ∃ r, ∃ n, iter step n env = some r := ⟨r, n, h⟩
  unfold whileF
  rw [dif_pos z]
  obtain ⟨m, hm⟩ := Classical.choose_spec z
  exact iter_inj hm h
theorem whileF_or {step : Fm → Fm ⊕ Fl} {env : Fm} : (∃ n, iter step n env = some (whileF step env)) ∨ whileF step env = .err := by
  by_cases z : ∃ r, ∃ n, iter step n env = some r
  · obtain ⟨r, n, h⟩ := z
    left
    rw [whileF_of h]
    exact ⟨n, h⟩
  · right
    unfold whileF
    rw [dif_neg z]
theorem whileF_eq (step : Fm → Fm ⊕ Fl) (env : Fm) : whileF step env = match step env with
    | .inl env' => whileF step env'
    | .inr r => r := by
  cases e : step env with
  | inr r =>
    have h : iter step 1 env = some r := by
      unfold iter
      rw [e]
    exact whileF_of h
  | inl env' =>
    show whileF step env = whileF step env'
    have hs : ∀ n, iter step (n + 1) env = iter step n env' := fun n => by
      show (match step env with | .inl env' => iter step n env' | .inr r => some r) = _
      rw [e]
    by_cases z : ∃ r, ∃ n, iter step n env' = some r
    · obtain ⟨r, n, h⟩ := z
      rw [whileF_of h, whileF_of (n := n + 1) (by rw [hs, h])]
    · have z' : ¬ ∃ r, ∃ n, iter step n env = some r := by
        rintro ⟨r, n, h⟩
        cases n with
        | zero => simp [iter] at h
        | succ n => exact z ⟨r, n, by rw [← hs]; exact h⟩
      unfold whileF
      rw [dif_neg z, dif_neg z']

/-- while, by its test and its body -/
noncomputable def whlG (c : Fm → Res (D × Bool)) (b : Fm → Fl) (env : Fm) : Fl := whileF (fun env =>
  match c env with
  | .ok (.bl true, _) env =>
    match b env with
    | .nx env => .inl env
    | r => .inr r
  | .ok (.bl false, _) env => .inr (.nx env)
  | .exc x env => .inr (.exc x env)
  | _ => .inr .err) env
theorem whlG_more {c : Fm → Res (D × Bool)} {b : Fm → Fl} {env e1 e2 : Fm} {o : Bool} (h1 : c env = .ok (.bl true, o) e1) (h2 : b e1 = .nx e2) : whlG c b env = whlG c b e2 := by
  unfold whlG
  rw [whileF_eq]
  simp only [h1, h2]
theorem whlG_done {c : Fm → Res (D × Bool)} {b : Fm → Fl} {env e1 : Fm} {o : Bool} (h1 : c env = .ok (.bl false, o) e1) : whlG c b env = .nx e1 := by
  unfold whlG
  rw [whileF_eq]
  simp only [h1]
theorem whlG_leave {c : Fm → Res (D × Bool)} {b : Fm → Fl} {env e1 e2 : Fm} {o : Bool} {r : D × Bool} (h1 : c env = .ok (.bl true, o) e1) (h2 : b e1 = .rt r e2) : whlG c b env = .rt r e2 := by
  unfold whlG
  rw [whileF_eq]
  simp only [h1, h2]
/-- a store -/
@[simp] def bnd (io : Bool) (tg : Tg) (r : D × Bool) (env : Fm) : Option Fm :=
  match tg with
  | .one i => if io = true ∧ i = 0 then none else some (env.set i (some r))
  | .many is =>
    match r with
    | (.tup l, _) => if l.length = is.length ∧ (io = true → 0 ∉ is) then some ((is.zip l).foldl (fun e p => e.set p.1 (some (p.2, false))) env) else none
    | _ => none
@[simp] def Tg.ixs : Tg → List Nat
  | .one i => [i]
  | .many is => is
@[simp] def wip (env : Fm) : List Nat → Fm
  | [] => env
  | v :: vs => (wip env vs).set v none
@[simp] def frs (env : Fm) : List Nat → Fm
  | [] => env
  | v :: vs =>
    match (frs env vs)[v]? with
    | some (some (d, _)) => (frs env vs).set v (some (d, false))
    | _ => frs env vs
@[simp] def rst (env old : Fm) : List Nat → Fm
  | [] => env
  | v :: vs => (rst env old vs).set v (old[v]?.getD none)

/-- a loop over items -/
def forF (bd : D → Fm → Option Fm) (body : Fm → Fl) : List D → Fm → Fl
  | [], env => .nx env
  | d :: ds, env =>
    match bd d env with
    | some env1 =>
      match body env1 with
      | .nx env2 => forF bd body ds env2
      | r => r
    | none => .err
/-- a comprehension -/
def lcF (bd : D → Fm → Option Fm) (wp : Fm → Fm) (cond : Fm → Res Bool) (body : Fm → Res D) : List D → Fm → List D → Res (List D)
  | [], env, acc => .ok acc env
  | d :: ds, env, acc =>
    match bd d env with
    | some env1 => (cond env1).bind fun b env2 =>
      if b = true then (body env2).bind fun x env3 => if acc.length < LIM then lcF bd wp cond body ds (wp env3) (acc ++ [x]) else .err
      else lcF bd wp cond body ds (wp env2) acc
    | none => .err

section
variable (Γ : Ctx) (call : Nat → List (D × Bool) → CRes)

/-- what stands at a path: the thing, and whether it is ours alone -/
@[simp] def pth : E → Fm → Option (D × Bool)
  | .var i, env =>
    match env[i]? with
    | some (some s) => some s
    | _ => none
  | .atr p f, env =>
    match pth p env with
    | some (.ins c fs vs, o) => (fget fs vs f).map fun d => (d, o && Γ.om c f)
    | _ => none
  | _, _ => none
@[simp] def setP : E → D → Fm → Fm
  | .var i, d, env => env.set i (some (d, true))
  | .atr p f, d, env =>
    match pth Γ p env with
    | some (.ins c fs vs, _) => setP p (.ins c fs (fput f d fs vs).2) env
    | _ => env
  | _, _, env => env
@[simp] def Es.simple : Es → Bool
  | .nil => true
  | .cons (.var _) r => r.simple
  | .cons (.cst _) r => r.simple
  | .cons (.glb _) r => r.simple
  | _ => false

mutual
noncomputable def ev : E → Fm → Res (D × Bool)
  | .var i, env =>
    match env[i]? with
    | some (some (d, o)) => .ok (d, false) (if o = true then env.set i (some (d, false)) else env)
    | _ => .err
  | .cst d, env => .ok (d, false) env
  | .glb g, env => Res.lift ((Γ.glb g).map fun d => (d, false)) env
  | .bin op a b, env => (ev a env).bind fun x env => (ev b env).bind fun y env => Res.lift (biD op x.1 y.1) env
  | .neg a, env => (ev a env).bind fun x env => match x.1 with | .int i => .ok (.int (-i), false) env | _ => .err
  | .cmp op a b, env => (ev a env).bind fun x env => (ev b env).bind fun y env => Res.lift ((cmD op x.1 y.1).map fun b => (.bl b, false)) env
  | .cmpv op x b, env => (Res.lift (rdv x env) env).bind fun _ env => (ev b env).bind fun y env => Res.lift ((rdv x env).bind fun d => (cmD op d y.1).map fun b => (.bl b, false)) env
  | .chn o p a b c, env => (ev a env).bind fun x env => (ev b env).bind fun y env =>
      match cmD o x.1 y.1 with
      | some true => (ev c env).bind fun z env => Res.lift ((cmD p y.1 z.1).map fun b => (.bl b, false)) env
      | some false => .ok (.bl false, false) env
      | none => .err
  | .din neg a b, env => (ev a env).bind fun x env => (ev b env).bind fun y env =>
      match x.1, y.1 with
      | .int k, .dic ks _ => .ok (.bl (if neg = true then !decide (k ∈ ks) else decide (k ∈ ks)), false) env
      | _, _ => .err
  | .and a b, env => (ev a env).bind fun x env => match x.1 with | .bl true => ev b env | .bl false => .ok (.bl false, false) env | _ => .err
  | .or a b, env => (ev a env).bind fun x env => match x.1 with | .bl true => .ok (.bl true, false) env | .bl false => ev b env | _ => .err
  | .not a, env => (ev a env).bind fun x env => match x.1 with | .bl b => .ok (.bl (!b), false) env | _ => .err
  | .ifx c a b, env => (ev c env).bind fun x env => match x.1 with | .bl true => ev a env | .bl false => ev b env | _ => .err
  | .tup es, env => (evs es env).bind fun ds env => if ds.length ≤ LIM then .ok (.tup ds, false) env else .err
  | .lst es, env => (evs es env).bind fun ds env => if ds.length ≤ LIM then .ok (.lst ds, true) env else .err
  | .idx a i, env => (ev a env).bind fun x env => (ev i env).bind fun y env => Res.lift ((ixD x.1 y.1).map fun d => (d, false)) env
  | .idxv x i, env => (Res.lift (rdv x env) env).bind fun _ env => (ev i env).bind fun y env => Res.lift ((rdv x env).bind fun d => (ixD d y.1).map fun d => (d, false)) env
  | .slc a lo hi, env => (ev a env).bind fun x env => (evo lo env).bind fun l env => (evo hi env).bind fun h env => Res.lift (slD x.1 l h) env
  | .atr p f, env =>
    match pth Γ (.atr p f) env with
    | some (d, false) => .ok (d, false) env
    | _ => .err
  | .isI a ts, env => (ev a env).bind fun x env => Res.lift ((tyD x.1).map fun l => (.bl (ts.any fun t => l.contains t), false)) env
  | .bi b es, env => (evs es env).bind fun ds env => Res.lift (biF b ds) env
  | .lenp p, env => Res.lift ((pth Γ p env).bind fun x => biF .len [x.1]) env
  | .bm m o a, env => (ev o env).bind fun x env => (ev a env).bind fun y env => Res.lift (bmF m x.1 [y.1]) env
  | .fn f es, env => (evs es env).bind fun ds env =>
      match call f ((ds ++ Γ.dfl f).map fun d => (d, false)) with
      | .ret r none => .ok r env
      | .exc x none => .exc x env
      | _ => .err
  | .fnv f x es, env => (Res.lift (rdv x env) env).bind fun _ env => (evs es env).bind fun ds env =>
      match env[x]? with
      | some (some (d, true)) =>
        match call f ((d, true) :: (ds ++ Γ.dfl f).map fun d => (d, false)) with
        | .ret r (some d') => .ok r (env.set x (some (d', true)))
        | .exc z (some d') => .exc z (env.set x (some (d', true)))
        | _ => .err
      | _ => .err
  | .fnk f es k, env => (evs es env).bind fun ds env => (ev k env).bind fun y env =>
      match call f ((ds ++ [y.1]).map fun d => (d, false)) with
      | .ret r none => .ok r env
      | .exc x none => .exc x env
      | _ => .err
  | .mth o m es, env => (ev o env).bind fun x env => (evs es env).bind fun ds env =>
      match x.1 with
      | .ins c fs vs =>
        match Γ.meth c m with
        | some f =>
          match call f ((.ins c fs vs, false) :: ds.map fun d => (d, false)) with
          | .ret r none => .ok r env
          | .exc x none => .exc x env
          | _ => .err
        | none => .err
      | _ => .err
  | .mthp p m es, env => if es.simple = true then (evs es env).bind fun ds env =>
      match pth Γ p env with
      | some (.ins c fs vs, true) =>
        match Γ.meth c m with
        | some f =>
          match call f ((.ins c fs vs, true) :: ds.map fun d => (d, false)) with
          | .ret r (some d') => .ok r (setP Γ p d' env)
          | .exc x (some d') => .exc x (setP Γ p d' env)
          | _ => .err
        | none => .err
      | _ => .err else .err
  | .new c es, env => (evs es env).bind fun ds env =>
      match Γ.init c with
      | some f =>
        match call f ((.ins c [] [], true) :: ds.map fun d => (d, false)) with
        | .ret (.non, _) (some d') => .ok (d', true) env
        | .exc x (some _) => .exc x env
        | _ => .err
      | none => .err
  | .pop x i, env => (ev i env).bind fun y env =>
      match env[x]?, y.1 with
      | some (some (.lst l, true)), .int i =>
        match ixn l.length i with
        | some j =>
          match l[j]? with
          | some d => .ok (d, false) (env.set x (some (.lst (l.eraseIdx j), true)))
          | none => .err
        | none => .err
      | _, _ => .err
  | .lc it tg c body, env => (evi it env).bind fun items env =>
      (lcF (fun d e => bnd false tg (d, false) e) (fun e => wip e tg.ixs)
        (fun e => match c with
          | .none => .ok true e
          | .some c => (ev c e).bind fun x e => match x.1 with | .bl b => .ok b e | _ => .err)
        (fun e => (ev body e).bind fun x e => .ok x.1 e) items (wip (frs env tg.ixs) tg.ixs) []).bind fun ds e => .ok (.lst ds, true) (rst e (frs env tg.ixs) tg.ixs)
  | .lc2 it tg it2 tg2 body, env => .err
  | .dc it tg k v, env => .err
noncomputable def evs : Es → Fm → Res (List D)
  | .nil, env => .ok [] env
  | .cons e es, env => (ev e env).bind fun x env => (evs es env).bind fun ds env => .ok (x.1 :: ds) env
noncomputable def evo : O → Fm → Res (Option Int)
  | .none, env => .ok none env
  | .some e, env => (ev e env).bind fun x env => match x.1 with | .int i => .ok (some i) env | _ => .err
noncomputable def evi : Src → Fm → Res (List D)
  | .seq e, env => (ev e env).bind fun x env => match x.1 with | .lst l => .ok l env | .tup l => .ok l env | .str s => .ok (s.cps.toList.map fun c => .str ⟨#[c]⟩) env | _ => .err
  | .pek p, env => .err
  | .rng1 e, env => (ev e env).bind fun x env => match x.1 with | .int n => if -100000000 ≤ n ∧ n ≤ 100000000 then .ok (rgD 0 n) env else .err | _ => .err
  | .rng2 a b, env => (ev a env).bind fun x env => (ev b env).bind fun y env => match x.1, y.1 with
      | .int i, .int j => if -100000000 ≤ i ∧ i ≤ 100000000 ∧ -100000000 ≤ j ∧ j ≤ 100000000 then .ok (rgD i j) env else .err
      | _, _ => .err
  | .enm e, env => (ev e env).bind fun x env =>
      match x.1 with
      | .lst l => .ok ((rgD 0 l.length).zipWith (fun a b => .tup [a, b]) l) env
      | .tup l => .ok ((rgD 0 l.length).zipWith (fun a b => .tup [a, b]) l) env
      | _ => .err
  | .zip a b, env => (ev a env).bind fun x env => (ev b env).bind fun y env =>
      match x.1, y.1 with
      | .lst l, .lst m => .ok (l.zipWith (fun a b => .tup [a, b]) m) env
      | .tup l, .tup m => .ok (l.zipWith (fun a b => .tup [a, b]) m) env
      | .lst l, .tup m => .ok (l.zipWith (fun a b => .tup [a, b]) m) env
      | .tup l, .lst m => .ok (l.zipWith (fun a b => .tup [a, b]) m) env
      | _, _ => .err
  | .vals e, env => .err
end

/-- results that are kept as they come (a, b = x, y) -/
noncomputable def evp : Es → Fm → Res (List (D × Bool))
  | .nil, env => .ok [] env
  | .cons e es, env => (ev Γ call e env).bind fun x env => (evp es env).bind fun ds env => .ok (x :: ds) env

def Fl.bind (r : Fl) (f : Fm → Fl) : Fl :=
  match r with
  | .nx e => f e
  | r => r
def Res.fl {α : Type} (r : Res α) (f : α → Fm → Fl) : Fl :=
  match r with
  | .ok a e => f a e
  | .exc x e => .exc x e
  | .err => .err

@[simp] theorem Fl.bind_nx (e : Fm) (f : Fm → Fl) : (Fl.nx e).bind f = f e := rfl
@[simp] theorem Fl.bind_rt (r : D × Bool) (e : Fm) (f : Fm → Fl) : (Fl.rt r e).bind f = .rt r e := rfl
@[simp] theorem Fl.bind_exc (x : Exn) (e : Fm) (f : Fm → Fl) : (Fl.exc x e).bind f = .exc x e := rfl
@[simp] theorem Fl.bind_err (f : Fm → Fl) : (Fl.err).bind f = .err := rfl
@[simp] theorem Res.fl_ok {α : Type} (a : α) (e : Fm) (f : α → Fm → Fl) : (Res.ok a e).fl f = f a e := rfl
@[simp] theorem Res.fl_exc {α : Type} (x : Exn) (e : Fm) (f : α → Fm → Fl) : (Res.exc x e : Res α).fl f = .exc x e := rfl
@[simp] theorem Res.fl_err {α : Type} (f : α → Fm → Fl) : (Res.err : Res α).fl f = .err := rfl

mutual
noncomputable def ex (io : Bool) : S → Fm → Fl
  | .asg tg e, env => (ev Γ call e env).fl fun r env =>
      match bnd io tg r env with
      | some env => .nx env
      | none => .err
  | .par is es, env => (evp Γ call es env).fl fun rs env =>
      if rs.length = is.length ∧ (io = true → 0 ∉ is) then .nx ((is.zip rs).foldl (fun e p => e.set p.1 (some p.2)) env) else .err
  | .aug i sb e, env =>
    match rdv i env with
    | some (.int a) => (ev Γ call e env).fl fun r env =>
        match r.1 with
        | .int b => if io = true ∧ i = 0 then .err else .nx (env.set i (some (.int (if sb = true then a - b else a + b), false)))
        | _ => .err
    | _ => .err
  | .sub x i e, env => (ev Γ call e env).fl fun r env =>
      match rdv x env with
      | some _ => (ev Γ call i env).fl fun y env =>
        match env[x]?, y.1 with
        | some (some (.lst l, true)), .int i =>
          match setI l i r.1 with
          | some l' => .nx (env.set x (some (.lst l', true)))
          | none => .err
        | _, _ => .err
      | none => .err
  | .swp x i j a b, env => .err
  | .fld f e, env => (ev Γ call e env).fl fun r (env : Fm) =>
      match env[(0 : Nat)]? with
      | some (some (.ins c fs vs, true)) =>
        if fs.length < 100 ∧ (Γ.om c f = true → r.2 = true) then .nx (env.set 0 (some (.ins c (fput f r.1 fs vs).1 (fput f r.1 fs vs).2, true))) else .err
      | _ => .err
  | .fld2 f g e, env => .err
  | .app p e, env =>
    match pth Γ p env with
    | some (.lst _, true) => (ev Γ call e env).fl fun r env =>
      match pth Γ p env with
      | some (.lst l, true) => if l.length < LIM then .nx (setP Γ p (.lst (l ++ [r.1])) env) else .err
      | _ => .err
    | _ => .err
  | .exp e, env => (ev Γ call e env).fl fun _ env => .nx env
  | .ret e, env => (ev Γ call e env).fl fun r env => .rt r env
  | .retN, env => .rt (.non, false) env
  | .ifs c a b, env => (ev Γ call c env).fl fun r env => match r.1 with | .bl true => exs io a env | .bl false => exs io b env | _ => .err
  | .whl c b, env => whlG (fun e => ev Γ call c e) (fun e => exs io b e) env
  | .for it tg b, env => (evi Γ call it env).fl fun items env => forF (fun d e => bnd io tg (d, false) e) (fun e => exs io b e) items env
  | .rse c e, env =>
    match e with
    | .none => .exc ⟨c, .non⟩ env
    | .some e => (ev Γ call e env).fl fun r env => .exc ⟨c, r.1⟩ env
  | .pas, env => .nx env
noncomputable def exs (io : Bool) : Ss → Fm → Fl
  | .nil, env => .nx env
  | .cons s r, env => (ex io s env).bind fun env => exs io r env
end
end

/-- a def's body at its arguments -/
noncomputable def body (Γ : Ctx) (call : Nat → List (D × Bool) → CRes) (F : FnE) (args : List (D × Bool)) : CRes :=
  if args.length = F.np then
    let p0 := fun (env : Fm) => if F.io = true then (match env[(0 : Nat)]? with | some (some (d, true)) => some (some d) | _ => none) else some none
    match exs Γ call F.io F.body (args.map some ++ List.replicate (F.ns - F.np) none) with
    | .nx env => (match p0 env with | some p => .ret (.non, false) p | none => .err)
    | .rt r env => (match p0 env with | some p => .ret r p | none => .err)
    | .exc x env => (match p0 env with | some p => .exc x p | none => .err)
    | .err => .err
  else .err
noncomputable def callN (Γ : Ctx) : Nat → Nat → List (D × Bool) → CRes
  | 0, _, _ => .err
  | n + 1, f, args =>
    match Γ.fn f with
    | some F => body Γ (callN Γ n) F args
    | none => .err
end PL
/-! PLRep: how data stand in the abstract heap; what a frame's slots hold. -/
namespace PL
open PySem L2

/-- what the text's names stand for -/
structure Nm where
  cl : Nat → Addr
  fl : Nat → Str
  om : Nat → Nat → Bool

section
variable (K : PySem.W.Frag) (M : Nm)
mutual
inductive Rep (F : Hp) : D → V → Prop where
  | non : Rep F .non .non
  | bl (b : Bool) : Rep F (.bl b) (.bl b)
  | int (i : Int) : Rep F (.int i) (.int i)
  | str (s : Str) : Rep F (.str s) (.str s)
  | tup {a : Addr} {l : List D} {vs : List V} (h : SqT K F a vs) (z : vs.length ≤ LIM) (r : Reps F l vs) : Rep F (.tup l) (.ref a)
  | lst {a : Addr} {l : List D} {vs : List V} (h : F a = some (.lst vs)) (z : vs.length ≤ LIM) (r : Reps F l vs) : Rep F (.lst l) (.ref a)
  | scr {a : Addr} {l : List Int} (h : SqL K F a (l.map V.int)) (z : l.length ≤ LIM) : Rep F (.scr l) (.ref a)
  | dic {a : Addr} {ks : List Int} {ds : List D} {kvs : List (Key × V)} (h : F a = some (.dK kvs)) (e : kvs.map (·.1) = ks.map Sum.inl) (r : Reps F ds (kvs.map (·.2))) : Rep F (.dic ks ds) (.ref a)
  | ins {a dx : Addr} {c : Nat} {fs : List Nat} {ds : List D} {kvs : List (Str × V)} (h : F a = some (.ins (M.cl c) dx kvs)) (e : kvs.map (·.1) = fs.map M.fl) (r : Reps F ds (kvs.map (·.2))) : Rep F (.ins c fs ds) (.ref a)
inductive Reps (F : Hp) : List D → List V → Prop where
  | nil : Reps F [] []
  | cons {d : D} {v : V} {ds : List D} {vs : List V} (h : Rep F d v) (r : Reps F ds vs) : Reps F (d :: ds) (v :: vs)
end
mutual
/-- ours alone: the thing's objects (fp) are in H, not among what is settled (F) -/
inductive RepO (F H : Hp) : D → Bool → V → List Addr → Prop where
  | fz {d : D} {v : V} (h : Rep K M F d v) : RepO F H d false v []
  | lst {a : Addr} {l : List D} {vs : List V} (h : H a = some (.lst vs)) (z : vs.length ≤ LIM) (r : Reps K M F l vs) : RepO F H (.lst l) true (.ref a) [a]
  | ins {a dx : Addr} {c : Nat} {fs : List Nat} {ds : List D} {kvs : List (Str × V)} {fp : List Addr} (h : H a = some (.ins (M.cl c) dx kvs)) (e : kvs.map (·.1) = fs.map M.fl) (r : RepOs F H (fs.map (M.om c)) ds (kvs.map (·.2)) fp) :
      RepO F H (.ins c fs ds) true (.ref a) (a :: fp)
inductive RepOs (F H : Hp) : List Bool → List D → List V → List Addr → Prop where
  | nil : RepOs F H [] [] [] []
  | cons {o : Bool} {d : D} {v : V} {os : List Bool} {ds : List D} {vs : List V} {fp fq : List Addr} (h : RepO F H d o v fp) (r : RepOs F H os ds vs fq) : RepOs F H (o :: os) (d :: ds) (v :: vs) (fp ++ fq)
end
inductive RepE (F H : Hp) : List Sl → List (Option V) → List Addr → Prop where
  | nil : RepE F H [] [] []
  | skip {v : Option V} {es : List Sl} {vs : List (Option V)} {fq : List Addr} (r : RepE F H es vs fq) : RepE F H (none :: es) (v :: vs) fq
  | slot {d : D} {o : Bool} {v : V} {es : List Sl} {vs : List (Option V)} {fp fq : List Addr} (h : RepO K M F H d o v fp) (r : RepE F H es vs fq) : RepE F H (some (d, o) :: es) (some v :: vs) (fp ++ fq)
/-- the slots, at a state of the heap -/
def Sta (F H : Hp) (es : List Sl) (vs : List (Option V)) : Prop := ∃ fp, RepE K M F H es vs fp ∧ fp.Nodup ∧ (∀ a ∈ fp, F a = none) ∧ Same F H
end

section
variable {K : PySem.W.Frag} {M : Nm} {F F' H H' : Hp}

theorem same_sqT {a : Addr} {vs : List V} (e : Same F F') (h : SqT K F a vs) : SqT K F' a vs := by
  rcases h with (h | ⟨o, h⟩) | h
  · exact .inl (.inl (e _ _ h))
  · exact .inl (.inr ⟨o, e _ _ h⟩)
  · exact .inr h
theorem same_new {p : Addr} {o : HO} (h : F p = none) : Same F (upd F p o) := fun a u e => by
  rw [upd_ne (ne_of_none e h)]
  exact e
theorem same_upd {p : Addr} {o : HO} (e : Same F F') : Same (upd F p o) (upd F' p o) := fun a u h => by
  by_cases q : a = p
  · subst q
    rw [upd_same] at h ⊢
    exact h
  · rw [upd_ne q] at h ⊢
    exact e a u h

mutual
theorem Rep.mono (e : Same F F') : ∀ {d : D} {v : V}, Rep K M F d v → Rep K M F' d v
  | _, _, .non => .non
  | _, _, .bl b => .bl b
  | _, _, .int i => .int i
  | _, _, .str s => .str s
  | _, _, .tup h z r => .tup (same_sqT e h) z (Reps.mono e r)
  | _, _, .lst h z r => .lst (e _ _ h) z (Reps.mono e r)
  | _, _, .scr h z => .scr (e.seq h) z
  | _, _, .dic h q r => .dic (e _ _ h) q (Reps.mono e r)
  | _, _, .ins h q r => .ins (e _ _ h) q (Reps.mono e r)
theorem Reps.mono (e : Same F F') : ∀ {ds : List D} {vs : List V}, Reps K M F ds vs → Reps K M F' ds vs
  | _, _, .nil => .nil
  | _, _, .cons h r => .cons (Rep.mono e h) (Reps.mono e r)
end
theorem Reps.len : ∀ {ds : List D} {vs : List V}, Reps K M F ds vs → ds.length = vs.length
  | _, _, .nil => rfl
  | _, _, .cons _ r => by rw [List.length_cons, List.length_cons, Reps.len r]
theorem Reps.get : ∀ {ds : List D} {vs : List V} {i : Nat} {d : D}, Reps K M F ds vs → ds[i]? = some d → ∃ v, vs[i]? = some v ∧ Rep K M F d v
  | _, _, _, _, .nil, h => by simp at h
  | _, _, 0, _, .cons h r, e => by
    simp at e
    subst e
    exact ⟨_, rfl, h⟩
  | _, _, i + 1, d, .cons h r, e => by
    obtain ⟨v, a, b⟩ := Reps.get (i := i) (d := d) r (by simpa using e)
    exact ⟨v, by simpa using a, b⟩
theorem Reps.set {d : D} {v : V} (h : Rep K M F d v) : ∀ {ds : List D} {vs : List V} (i : Nat), Reps K M F ds vs → Reps K M F (ds.set i d) (vs.set i v)
  | _, _, _, .nil => .nil
  | _, _, 0, .cons _ r => .cons h r
  | _, _, i + 1, .cons q r => .cons q (Reps.set h i r)
theorem Reps.app : ∀ {ds es : List D} {vs us : List V}, Reps K M F ds vs → Reps K M F es us → Reps K M F (ds ++ es) (vs ++ us)
  | _, _, _, _, .nil, s => s
  | _, _, _, _, .cons h r, s => .cons h (Reps.app r s)
theorem Reps.snoc {ds : List D} {vs : List V} {d : D} {v : V} (r : Reps K M F ds vs) (h : Rep K M F d v) : Reps K M F (ds ++ [d]) (vs ++ [v]) := r.app (.cons h .nil)
theorem Reps.take : ∀ {ds : List D} {vs : List V} (n : Nat), Reps K M F ds vs → Reps K M F (ds.take n) (vs.take n)
  | _, _, 0, _ => .nil
  | _, _, _ + 1, .nil => .nil
  | _, _, n + 1, .cons h r => .cons h (Reps.take n r)
theorem Reps.drop : ∀ {ds : List D} {vs : List V} (n : Nat), Reps K M F ds vs → Reps K M F (ds.drop n) (vs.drop n)
  | _, _, 0, r => r
  | _, _, _ + 1, .nil => .nil
  | _, _, n + 1, .cons _ r => Reps.drop n r
theorem Reps.erase : ∀ {ds : List D} {vs : List V} (n : Nat), Reps K M F ds vs → Reps K M F (ds.eraseIdx n) (vs.eraseIdx n)
  | _, _, _, .nil => .nil
  | _, _, 0, .cons _ r => r
  | _, _, n + 1, .cons h r => .cons h (Reps.erase n r)

mutual
theorem RepO.mono (e : Same F F') : ∀ {d : D} {o : Bool} {v : V} {fp : List Addr}, RepO K M F H d o v fp → (∀ a ∈ fp, ∀ u, H a = some u → H' a = some u) → RepO K M F' H' d o v fp
  | _, _, _, _, .fz h, _ => .fz (h.mono e)
  | _, _, _, _, .lst h z r, k => .lst (k _ (by simp) _ h) z (r.mono e)
  | _, _, _, _, .ins h q r, k => .ins (k _ (by simp) _ h) q (RepOs.mono e r fun a ha => k a (by simp [ha]))
theorem RepOs.mono (e : Same F F') : ∀ {os : List Bool} {ds : List D} {vs : List V} {fp : List Addr}, RepOs K M F H os ds vs fp → (∀ a ∈ fp, ∀ u, H a = some u → H' a = some u) → RepOs K M F' H' os ds vs fp
  | _, _, _, _, .nil, _ => .nil
  | _, _, _, _, .cons h r, k => .cons (RepO.mono e h fun a ha => k a (by simp [ha])) (RepOs.mono e r fun a ha => k a (by simp [ha]))
end
theorem RepE.mono (e : Same F F') : ∀ {es : List Sl} {vs : List (Option V)} {fp : List Addr}, RepE K M F H es vs fp → (∀ a ∈ fp, ∀ u, H a = some u → H' a = some u) → RepE K M F' H' es vs fp
  | _, _, _, .nil, _ => .nil
  | _, _, _, .skip r, k => .skip (RepE.mono e r k)
  | _, _, _, .slot h r, k => .slot (h.mono e fun a ha => k a (by simp [ha])) (RepE.mono e r fun a ha => k a (by simp [ha]))
mutual
theorem RepO.there : ∀ {d : D} {o : Bool} {v : V} {fp : List Addr}, RepO K M F H d o v fp → ∀ a ∈ fp, ∃ u, H a = some u
  | _, _, _, _, .fz _, a, h => by simp at h
  | _, _, _, _, .lst h _ _, a, ha => by
    simp at ha
    subst ha
    exact ⟨_, h⟩
  | _, _, _, _, .ins h _ r, a, ha => by
    simp at ha
    rcases ha with rfl | ha
    · exact ⟨_, h⟩
    · exact RepOs.there r a ha
theorem RepOs.there : ∀ {os : List Bool} {ds : List D} {vs : List V} {fp : List Addr}, RepOs K M F H os ds vs fp → ∀ a ∈ fp, ∃ u, H a = some u
  | _, _, _, _, .nil, a, h => by simp at h
  | _, _, _, _, .cons h r, a, ha => by
    rcases List.mem_append.mp ha with ha | ha
    · exact RepO.there h a ha
    · exact RepOs.there r a ha
end
theorem RepE.there : ∀ {es : List Sl} {vs : List (Option V)} {fp : List Addr}, RepE K M F H es vs fp → ∀ a ∈ fp, ∃ u, H a = some u
  | _, _, _, .nil, a, h => by simp at h
  | _, _, _, .skip r, a, h => RepE.there r a h
  | _, _, _, .slot h r, a, ha => by
    rcases List.mem_append.mp ha with ha | ha
    · exact RepO.there h a ha
    · exact RepE.there r a ha
theorem RepE.len : ∀ {es : List Sl} {vs : List (Option V)} {fp : List Addr}, RepE K M F H es vs fp → es.length = vs.length
  | _, _, _, .nil => rfl
  | _, _, _, .skip r => by rw [List.length_cons, List.length_cons, RepE.len r]
  | _, _, _, .slot _ r => by rw [List.length_cons, List.length_cons, RepE.len r]

/-- settled from now on -/
def frz (F H : Hp) (fp : List Addr) : Hp := fun a => if a ∈ fp then H a else F a
theorem frz_same {fp : List Addr} (h : ∀ a ∈ fp, F a = none) : Same F (frz F H fp) := fun a u e => by
  unfold frz
  by_cases q : a ∈ fp
  · rw [h a q] at e
    cases e
  · rw [if_neg q]
    exact e
theorem frz_le {fp : List Addr} (h : Same F H) : Same (frz F H fp) H := fun a u e => by
  unfold frz at e
  split at e
  · exact e
  · exact h a u e
theorem frz_in {fp : List Addr} {a : Addr} (h : a ∈ fp) : frz F H fp a = H a := if_pos h
theorem frz_out {fp : List Addr} {a : Addr} (h : a ∉ fp) : frz F H fp a = F a := if_neg h
mutual
theorem RepO.settle (e : Same F F') : ∀ {d : D} {o : Bool} {v : V} {fp : List Addr}, RepO K M F H d o v fp → (∀ a ∈ fp, F' a = H a) → Rep K M F' d v
  | _, _, _, _, .fz h, _ => h.mono e
  | _, _, _, _, .lst h z r, k => .lst (by rw [k _ (by simp)]; exact h) z (r.mono e)
  | _, _, _, _, .ins h q r, k => .ins (by rw [k _ (by simp)]; exact h) q (RepOs.settle e r fun a ha => k a (by simp [ha]))
theorem RepOs.settle (e : Same F F') : ∀ {os : List Bool} {ds : List D} {vs : List V} {fp : List Addr}, RepOs K M F H os ds vs fp → (∀ a ∈ fp, F' a = H a) → Reps K M F' ds vs
  | _, _, _, _, .nil, _ => .nil
  | _, _, _, _, .cons h r, k => .cons (RepO.settle e h fun a ha => k a (by simp [ha])) (RepOs.settle e r fun a ha => k a (by simp [ha]))
end

/-! ### the slots -/
variable {es : List Sl} {vs : List (Option V)} {d : D} {o : Bool} {v : V}
theorem Sta.same (h : Sta K M F H es vs) : Same F H := let ⟨_, _, _, _, e⟩ := h; e
theorem Sta.len (h : Sta K M F H es vs) : es.length = vs.length := let ⟨_, r, _⟩ := h; r.len
theorem Sta.drop {s : Sl} {w : Option V} (h : Sta K M F H (s :: es) (w :: vs)) : Sta K M F H es vs := by
  obtain ⟨fp, r, n, f, e⟩ := h
  cases r with
  | skip r => exact ⟨_, r, n, f, e⟩
  | slot a r => exact ⟨_, r, (List.nodup_append.mp n).2.1, fun x hx => f x (List.mem_append_right _ hx), e⟩
theorem Sta.push (h : Sta K M F H es vs) (r : Rep K M F d v) : Sta K M F H (some (d, false) :: es) (some v :: vs) := by
  obtain ⟨fp, q, n, f, e⟩ := h
  exact ⟨[] ++ fp, .slot (.fz r) q, n, f, e⟩
theorem Sta.pushN {w : Option V} (h : Sta K M F H es vs) : Sta K M F H (none :: es) (w :: vs) := by
  obtain ⟨fp, q, n, f, e⟩ := h
  exact ⟨fp, .skip q, n, f, e⟩
theorem Sta.head (h : Sta K M F H (some (d, o) :: es) (some v :: vs)) : ∃ fp, RepO K M F H d o v fp := by
  obtain ⟨fp, r, _⟩ := h
  cases r with
  | slot a _ => exact ⟨_, a⟩
theorem Sta.headF (h : Sta K M F H (some (d, false) :: es) (some v :: vs)) : Rep K M F d v := by
  obtain ⟨fp, r⟩ := h.head
  cases r with
  | fz q => exact q
/-- what comes first is settled -/
theorem Sta.settle (h : Sta K M F H (some (d, o) :: es) (some v :: vs)) : ∃ F', Same F F' ∧ Rep K M F' d v ∧ Sta K M F' H es vs := by
  obtain ⟨fp, r, n, f, e⟩ := h
  cases r with
  | slot a r =>
    rename_i fp fq
    have fa : ∀ x ∈ fp, F x = none := fun x hx => f x (List.mem_append_left _ hx)
    have s := frz_same (H := H) fa
    obtain ⟨n1, n2, n3⟩ := List.nodup_append.mp n
    refine ⟨frz F H fp, s, a.settle s fun x hx => frz_in hx, fq, r.mono s fun _ _ _ q => q, n2, fun x hx => ?_, frz_le e⟩
    rw [frz_out fun z => n3 x z x hx rfl]
    exact f x (List.mem_append_right _ hx)
/-- more is settled, all that is tracked stands -/
theorem Sta.mono (h : Sta K M F H es vs) (s : Same F F') (k : Same H H') (e : Same F' H') (new : ∀ a u, H a = some u → F a = none → F' a = none) : Sta K M F' H' es vs := by
  obtain ⟨fp, r, n, f, _⟩ := h
  refine ⟨fp, r.mono s fun a _ u q => k a u q, n, fun a ha => ?_, e⟩
  obtain ⟨u, q⟩ := r.there a ha
  exact new a u q (f a ha)
/-- a new object, settled at once -/
theorem Sta.new {p : Addr} {ob : HO} (h : Sta K M F H es vs) (hp : H p = none) : Sta K M (upd F p ob) (upd H p ob) es vs := by
  have fp : F p = none := by
    cases q : F p with
    | none => rfl
    | some u =>
      rw [h.same p u q] at hp
      cases hp
  refine h.mono (same_new fp) (same_new hp) (same_upd h.same) fun a u q z => ?_
  rw [upd_ne (ne_of_none q hp)]
  exact z
theorem Sta.free {p : Addr} (h : Sta K M F H es vs) (hp : H p = none) : F p = none := by
  cases q : F p with
  | none => rfl
  | some u =>
    rw [h.same p u q] at hp
    cases hp
/-- a new list, ours -/
theorem Sta.newL {p : Addr} {l : List D} {ws : List V} (h : Sta K M F H es vs) (hp : H p = none) (r : Reps K M F l ws) (z : ws.length ≤ LIM) :
    Sta K M F (upd H p (.lst ws)) (some (.lst l, true) :: es) (some (.ref p) :: vs) := by
  obtain ⟨fp, q, n, f, e⟩ := h
  have np : ∀ a ∈ fp, a ≠ p := fun a ha z => by
    obtain ⟨u, w⟩ := q.there a ha
    rw [z, hp] at w
    cases w
  have hF : F p = none := by
    cases w : F p with
    | none => rfl
    | some u =>
      rw [e p u w] at hp
      cases hp
  refine ⟨[p] ++ fp, .slot (.lst upd_same z r) (q.mono (Same.refl F) fun a ha u w => ?_), ?_, fun a ha => ?_, fun a u w => ?_⟩
  · rw [upd_ne (np a ha)]
    exact w
  · refine List.nodup_append.mpr ⟨(by simp), n, fun a ha b hb => ?_⟩
    simp at ha
    subst ha
    exact (np b hb).symm
  · rcases List.mem_append.mp ha with z | z
    · simp at z
      rw [z]
      exact hF
    · exact f a z
  · rw [upd_ne (ne_of_none w hF)]
    exact e a u w
/-- what comes first is a list of ours: it is changed -/
theorem Sta.mut {a : Addr} {l l' : List D} {ws : List V} (h : Sta K M F H (some (.lst l, true) :: es) (some (.ref a) :: vs)) (r : Reps K M F l' ws) (z : ws.length ≤ LIM) :
    Sta K M F (upd H a (.lst ws)) (some (.lst l', true) :: es) (some (.ref a) :: vs) := by
  obtain ⟨fp, q, n, f, e⟩ := h
  cases q with
  | slot b q =>
    cases b with
    | lst hb zb rb =>
      rename_i fq _
      obtain ⟨n1, n2, n3⟩ := List.nodup_append.mp n
      have na : ∀ x ∈ fq, x ≠ a := fun x hx w => n3 a (by simp) x hx w.symm
      refine ⟨[a] ++ fq, .slot (.lst upd_same z r) (q.mono (Same.refl F) fun x hx u w => ?_), n, f, fun x u w => ?_⟩
      · rw [upd_ne (na x hx)]
        exact w
      · have hF : F a = none := f a (by simp)
        rw [upd_ne (ne_of_none w hF)]
        exact e x u w
theorem Sta.headL {l : List D} (h : Sta K M F H (some (.lst l, true) :: es) (some v :: vs)) : ∃ a ws, v = .ref a ∧ H a = some (.lst ws) ∧ ws.length ≤ LIM ∧ Reps K M F l ws := by
  obtain ⟨fp, r⟩ := h.head
  cases r with
  | lst hb zb rb => exact ⟨_, _, rfl, hb, zb, rb⟩

theorem RepE.take : ∀ {es : List Sl} {vs : List (Option V)} {fp : List Addr} {i : Nat} {d : D} {o : Bool}, RepE K M F H es vs fp → es[i]? = some (some (d, o)) →
    ∃ v fpR fq, vs[i]? = some (some v) ∧ RepO K M F H d o v fpR ∧ RepE K M F H (es.set i none) vs fq ∧ (fpR ++ fq).Perm fp
  | _, _, _, _, _, _, .nil, h => by simp at h
  | _, _, _, 0, _, _, .skip r, h => by simp at h
  | _, _, _, i + 1, d, o, .skip r, h => by
    obtain ⟨v, fpR, fq, e, a, b, c⟩ := RepE.take (i := i) (d := d) (o := o) r (by simpa using h)
    exact ⟨v, fpR, fq, by simpa using e, a, .skip b, c⟩
  | _, _, _, 0, _, _, .slot h r, e => by
    simp at e
    obtain ⟨rfl, rfl⟩ := e
    exact ⟨_, _, _, rfl, h, .skip r, .refl _⟩
  | _, _, _, i + 1, d, o, .slot h r, e => by
    obtain ⟨v, fpR, fq, e, a, b, c⟩ := RepE.take (i := i) (d := d) (o := o) r (by simpa using e)
    rename_i fp fq' _
    refine ⟨v, fpR, fp ++ fq, by simpa using e, a, .slot h b, ?_⟩
    refine (List.perm_append_comm_assoc fpR fp fq).trans ?_
    exact c.append_left fp
theorem RepE.put {d : D} {o : Bool} {v : V} {fpR : List Addr} (h : RepO K M F H d o v fpR) : ∀ {es : List Sl} {vs : List (Option V)} {fp : List Addr} {i : Nat}, RepE K M F H es vs fp → i < es.length →
    ∃ fq, RepE K M F H (es.set i (some (d, o))) (vs.set i (some v)) fq ∧ ∃ fx, (fq ++ fx).Perm (fpR ++ fp)
  | _, _, _, _, .nil, hi => by simp at hi
  | _, _, _, 0, .skip r, hi => ⟨_, .slot h r, [], by simp⟩
  | _, _, _, 0, .slot q r, hi => by
    rename_i fp fq
    refine ⟨_, .slot h r, fp, ?_⟩
    rw [List.append_assoc]
    exact (List.perm_append_comm (l₁ := fq) (l₂ := fp)).append_left fpR
  | _, _, _, i + 1, .skip r, hi => by
    obtain ⟨fq, a, fx, b⟩ := RepE.put h (i := i) r (by simpa using hi)
    exact ⟨fq, .skip a, fx, b⟩
  | _, _, _, i + 1, .slot q r, hi => by
    obtain ⟨fq, a, fx, b⟩ := RepE.put h (i := i) r (by simpa using hi)
    rename_i fp fq'
    refine ⟨fp ++ fq, .slot q a, fx, ?_⟩
    rw [List.append_assoc]
    exact (b.append_left fp).trans (List.perm_append_comm_assoc fp fpR fq')
theorem Sta.take {i : Nat} (h : Sta K M F H es vs) (e : es[i]? = some (some (d, o))) : ∃ v, vs[i]? = some (some v) ∧ Sta K M F H (some (d, o) :: es.set i none) (some v :: vs) := by
  obtain ⟨fp, r, n, f, q⟩ := h
  obtain ⟨v, fpR, fq, a, b, c, p⟩ := r.take e
  exact ⟨v, a, _, .slot b c, p.nodup_iff.mpr n, fun x hx => f x (p.mem_iff.mp hx), q⟩
theorem Sta.put {i : Nat} (h : Sta K M F H (some (d, o) :: es) (some v :: vs)) (hi : i < es.length) : Sta K M F H (es.set i (some (d, o))) (vs.set i (some v)) := by
  obtain ⟨fp, r, n, f, q⟩ := h
  cases r with
  | slot a r =>
    obtain ⟨fq, b, fx, p⟩ := RepE.put a r hi
    refine ⟨fq, b, ?_, fun x hx => f x (p.mem_iff.mp (List.mem_append_left _ hx)), q⟩
    exact (List.nodup_append.mp (p.nodup_iff.mpr n)).1
theorem Sta.wipe {i : Nat} (h : Sta K M F H es vs) : Sta K M F H (es.set i none) vs := by
  cases e : es[i]? with
  | none =>
    have : es.length ≤ i := List.getElem?_eq_none_iff.mp e
    rw [List.set_eq_of_length_le this]
    exact h
  | some s =>
    cases s with
    | none =>
      obtain ⟨hi, q⟩ := List.getElem?_eq_some_iff.mp e
      have : es.set i none = es := by rw [← q]; exact List.set_getElem_self hi
      rw [this]
      exact h
    | some p =>
      obtain ⟨d, o⟩ := p
      obtain ⟨v, _, z⟩ := h.take e
      exact z.drop
theorem Sta.at {i : Nat} (h : Sta K M F H es vs) (e : es[i]? = some (some (d, o))) : ∃ v fp, vs[i]? = some (some v) ∧ RepO K M F H d o v fp := by
  obtain ⟨v, a, z⟩ := h.take e
  obtain ⟨fp, r⟩ := z.head
  exact ⟨v, fp, a, r⟩
theorem set_same_of {α : Type} {l : List α} {i : Nat} {x : α} (h : l[i]? = some x) : l.set i x = l := by
  obtain ⟨hi, q⟩ := List.getElem?_eq_some_iff.mp h
  rw [← q]
  exact List.set_getElem_self hi
theorem RepE.app {es fs : List Sl} {vs ws : List (Option V)} {fp fq : List Addr} (h : RepE K M F H es vs fp) (r : RepE K M F H fs ws fq) : RepE K M F H (es ++ fs) (vs ++ ws) (fp ++ fq) := by
  induction h with
  | nil => exact r
  | skip _ ih => exact .skip ih
  | slot a _ ih =>
    rw [List.append_assoc]
    exact .slot a ih
theorem RepE.cut : ∀ {es fs : List Sl} {vs ws : List (Option V)} {fp : List Addr}, RepE K M F H (es ++ fs) (vs ++ ws) fp → es.length = vs.length → ∃ f1 f2, fp = f1 ++ f2 ∧ RepE K M F H es vs f1 ∧ RepE K M F H fs ws f2
  | [], _, [], _, fp, h, _ => ⟨[], fp, rfl, .nil, h⟩
  | _ :: _, _, [], _, _, _, h => by simp at h
  | [], _, _ :: _, _, _, _, h => by simp at h
  | e :: es, fs, v :: vs, ws, fp, h, hl => by
    cases h with
    | skip h =>
      obtain ⟨f1, f2, e, a, b⟩ := RepE.cut (es := es) (fs := fs) (vs := vs) (ws := ws) h (by simpa using hl)
      exact ⟨f1, f2, e, .skip a, b⟩
    | slot q h =>
      obtain ⟨f1, f2, e, a, b⟩ := RepE.cut (es := es) (fs := fs) (vs := vs) (ws := ws) h (by simpa using hl)
      exact ⟨_, f2, by rw [e, List.append_assoc], .slot q a, b⟩
theorem Sta.cut {es fs : List Sl} {vs ws : List (Option V)} (h : Sta K M F H (es ++ fs) (vs ++ ws)) (hl : es.length = vs.length) : Sta K M F H es vs := by
  obtain ⟨fp, r, n, f, e⟩ := h
  obtain ⟨f1, f2, rfl, a, b⟩ := r.cut hl
  exact ⟨f1, a, (List.nodup_append.mp n).1, fun x hx => f x (List.mem_append_left _ hx), e⟩
theorem Reps.slots : ∀ {ds : List D} {vs : List V}, Reps K M F ds vs → RepE K M F H ((ds.map fun d => (d, false)).map Option.some) (vs.map Option.some) []
  | _, _, .nil => .nil
  | _, _, .cons h r => .slot (.fz h) (Reps.slots r)
theorem Sta.args {es : List Sl} {vs : List (Option V)} {ds : List D} {ws : List V} (h : Sta K M F H es vs) (r : Reps K M F ds ws) : Sta K M F H (es ++ (ds.map fun d => (d, false)).map Option.some) (vs ++ ws.map Option.some) := by
  obtain ⟨fp, q, n, f, e⟩ := h
  exact ⟨fp ++ [], q.app r.slots, by simpa using n, by simpa using f, e⟩
theorem RepE.nones : ∀ n : Nat, RepE K M F H (List.replicate n Option.none) (List.replicate n Option.none) []
  | 0 => .nil
  | n + 1 => .skip (RepE.nones n)
theorem Sta.nones {es : List Sl} {vs : List (Option V)} (n : Nat) (h : Sta K M F H es vs) : Sta K M F H (es ++ List.replicate n Option.none) (vs ++ List.replicate n Option.none) := by
  obtain ⟨fp, q, k, f, e⟩ := h
  exact ⟨fp ++ [], q.app (.nones n), by simpa using k, by simpa using f, e⟩
theorem Sta.swap {d' : D} {o' : Bool} {v' : V} (h : Sta K M F H (some (d, o) :: some (d', o') :: es) (some v :: some v' :: vs)) : Sta K M F H (some (d', o') :: some (d, o) :: es) (some v' :: some v :: vs) := by
  obtain ⟨fp, r, n, f, e⟩ := h
  cases r with
  | slot a r =>
    cases r with
    | slot b r =>
      rename_i f1 f2 f3
      have p : (f2 ++ (f1 ++ f3)).Perm (f1 ++ (f2 ++ f3)) := List.perm_append_comm_assoc f2 f1 f3
      exact ⟨_, .slot b (.slot a r), p.nodup_iff.mpr n, fun x hx => f x (p.mem_iff.mp hx), e⟩
theorem Sta.last (h : Sta K M F H (some (d, o) :: es) (some v :: vs)) : Sta K M F H (es ++ [some (d, o)]) (vs ++ [some v]) := by
  obtain ⟨fp, r, n, f, e⟩ := h
  cases r with
  | slot a r =>
    rename_i f1 f2
    have p : (f2 ++ (f1 ++ [])).Perm (f1 ++ f2) := by
      rw [List.append_nil]
      exact List.perm_append_comm
    exact ⟨_, r.app (.slot a .nil), p.nodup_iff.mpr n, fun x hx => f x (p.mem_iff.mp hx), e⟩
theorem Sta.mid {as bs : List Sl} {us ws : List (Option V)} (h : Sta K M F H (as ++ Option.some (d, o) :: bs) (us ++ Option.some v :: ws)) (hl : as.length = us.length) : Sta K M F H (Option.some (d, o) :: (as ++ bs)) (Option.some v :: (us ++ ws)) := by
  obtain ⟨fp, r, n, f, e⟩ := h
  obtain ⟨f1, f2, rfl, a, b⟩ := r.cut hl
  cases b with
  | slot q b =>
    rename_i f3 f4
    have p : (f3 ++ (f1 ++ f4)).Perm (f1 ++ (f3 ++ f4)) := List.perm_append_comm_assoc f3 f1 f4
    exact ⟨_, .slot q (a.app b), p.nodup_iff.mpr n, fun x hx => f x (p.mem_iff.mp hx), e⟩
/-- a slot's thing is settled -/
theorem Sta.settleAt {i : Nat} (h : Sta K M F H es vs) (e : es[i]? = some (some (d, o))) : ∃ F' v, Same F F' ∧ vs[i]? = some (some v) ∧ Rep K M F' d v ∧ Sta K M F' H (es.set i (some (d, false))) vs := by
  obtain ⟨v, a, z⟩ := h.take e
  obtain ⟨F', s, r, z'⟩ := z.settle
  have hi : i < es.length := (List.getElem?_eq_some_iff.mp e).1
  have q := (z'.push r).put (i := i) (by simpa using hi)
  rw [List.set_set, set_same_of a] at q
  exact ⟨F', v, s, a, r, q⟩
end
end PL
/-! PLExp: what an expression's reckoning promises of the machine: words, and the operators by values. -/
namespace PL
open PySem PySem.Spec PyProof.Rows L2

theorem lim_line : LIM ≤ sizeLine := by decide
theorem lim_le {n : Nat} (h : n ≤ LIM) : n ≤ sizeLine := Nat.le_trans h lim_line
theorem lim_lt {n : Nat} (h : n < LIM) : n < sizeLine := Nat.lt_of_lt_of_le h lim_line

theorem _root_.L2.PE.imp {X : Cx} {e : Expr} {t t' : TE} (h : PE X e t) (k : ∀ σ H Q, t' σ H Q → t σ H Q) : PE X e t' := ⟨fun pins s σ H Q I q => h.run pins s σ H Q I (k _ _ _ q)⟩
theorem _root_.L2.PT.imp {X : Cx} {e : Expr} {t t' : TT} (h : PT X e t) (k : ∀ σ H Q, t' σ H Q → t σ H Q) : PT X e t' := ⟨fun pins s σ H Q I q => h.run pins s σ H Q I (k _ _ _ q)⟩
theorem _root_.L2.PW.imp {X : Cx} {e : Expr} {t t' : TT} (h : PW X e t) (k : ∀ σ H Q, t' σ H Q → t σ H Q) : PW X e t' := ⟨fun w pins s σ H Q I q => h.run w pins s σ H Q I (k _ _ _ q)⟩
theorem _root_.L2.PA.imp {X : Cx} {e : List Expr} {t t' : TA} (h : PA X e t) (k : ∀ σ H Q, t' σ H Q → t σ H Q) : PA X e t' := ⟨fun p pins s σ H Q I q => h.run p pins s σ H Q I (k _ _ _ q)⟩
theorem _root_.L2.PS.imp {X : Cx} {e : Stmt} {t t' : TS} (h : PS X e t) (k : ∀ D σ H, t' D σ H → t D σ H) : PS X e t' := ⟨fun pins s σ H D I q => h.run pins s σ H D I (k _ _ _ q)⟩
theorem _root_.L2.PSs.imp {X : Cx} {e : List Stmt} {t t' : TS} (h : PSs X e t) (k : ∀ D σ H, t' D σ H → t D σ H) : PSs X e t' := ⟨fun pins s σ H D I q => h.run pins s σ H D I (k _ _ _ q)⟩
theorem _root_.L2.PI.imp {X : Cx} {tg e : Expr} {t t' : TI} (h : PI X tg e t) (k : ∀ σ H Q, t' σ H Q → t σ H Q) : PI X tg e t' := ⟨fun pins s σ H Q I q => h.run pins s σ H Q I (k _ _ _ q)⟩
theorem _root_.L2.PO.imp {X : Cx} {e : Option Expr} {t t' : TO} (h : PO X e t) (k : ∀ σ H Q, t' σ H Q → t σ H Q) : PO X e t' := ⟨fun pins s σ H Q I q => h.run pins s σ H Q I (k _ _ _ q)⟩

section
variable (K : PySem.W.Frag) (M : Nm) (Γ : Ctx) (call : Nat → List (D × Bool) → CRes)

/-- from a reckoning's result: what is then to hold -/
def PostE (F : Hp) (ext : List Sl) (xv : List (Option V)) (σ : L2.St) (r : Res (D × Bool)) (Q : VK) : Prop :=
  match r with
  | .ok r env' => ∀ v F' H', Same F F' → Sta K M F' H' (some r :: (ext ++ env')) (some v :: (xv ++ σ)) → Q v H'
  | _ => False
/-- the same, the result settled -/
def SetE {α : Type} (F : Hp) (ext : List Sl) (xv : List (Option V)) (σ : L2.St) (r : Res α) (g : α → D) (Q : VK) : Prop :=
  match r with
  | .ok r env' => ∀ v F' H', Same F F' → Rep K M F' (g r) v → Sta K M F' H' (ext ++ env') (xv ++ σ) → Q v H'
  | _ => False
def PostA (F : Hp) (ext : List Sl) (xv : List (Option V)) (σ : L2.St) (r : Res (List D)) (Q : List V → Hp → Prop) : Prop :=
  match r with
  | .ok ds env' => ∀ vs F' H', Same F F' → Reps K M F' ds vs → Sta K M F' H' (ext ++ env') (xv ++ σ) → Q vs H'
  | _ => False
def PostT (F : Hp) (ext : List Sl) (xv : List (Option V)) (σ : L2.St) (r : Res (D × Bool)) (Q : Bool → Hp → Prop) : Prop :=
  match r with
  | .ok (.bl b, _) env' => ∀ F' H', Same F F' → Sta K M F' H' (ext ++ env') (xv ++ σ) → Q b H'
  | _ => False
def PostO (F : Hp) (ext : List Sl) (xv : List (Option V)) (σ : L2.St) (r : Res (Option Int)) (Q : Option Int → Hp → Prop) : Prop :=
  match r with
  | .ok o env' => ∀ F' H', Same F F' → Sta K M F' H' (ext ++ env') (xv ++ σ) → Q o H'
  | _ => False

def TEv (e : E) : TE := fun σ H Q => ∃ F ext xv env, Sta K M F H (ext ++ env) (xv ++ σ) ∧ ext.length = xv.length ∧ PostE K M F ext xv σ (ev Γ call e env) Q
def TEs (es : Es) : TA := fun σ H Q => ∃ F ext xv env, Sta K M F H (ext ++ env) (xv ++ σ) ∧ ext.length = xv.length ∧ PostA K M F ext xv σ (evs Γ call es env) Q
def TTt (e : E) : TT := fun σ H Q => ∃ F ext xv env, Sta K M F H (ext ++ env) (xv ++ σ) ∧ ext.length = xv.length ∧ PostT K M F ext xv σ (ev Γ call e env) Q
def TOo (o : O) : TO := fun σ H Q => ∃ F ext xv env, Sta K M F H (ext ++ env) (xv ++ σ) ∧ ext.length = xv.length ∧ PostO K M F ext xv σ (evo Γ call o env) Q
end

section
variable {K : PySem.W.Frag} {M : Nm} {Γ : Ctx} {call : Nat → List (D × Bool) → CRes} {F H : Hp} {ext : List Sl} {xv : List (Option V)} {σ : L2.St} {env : Fm}

theorem post_bind {α : Type} {r : Res α} {f : α → Fm → Res (D × Bool)} {Q : VK} (h : PostE K M F ext xv σ (r.bind f) Q) : ∃ a e, r = .ok a e ∧ PostE K M F ext xv σ (f a e) Q := by
  cases r with
  | ok a e => exact ⟨a, e, rfl, h⟩
  | exc x e => exact h.elim
  | err => exact h.elim
theorem postA_bind {α : Type} {r : Res α} {f : α → Fm → Res (List D)} {Q : List V → Hp → Prop} (h : PostA K M F ext xv σ (r.bind f) Q) : ∃ a e, r = .ok a e ∧ PostA K M F ext xv σ (f a e) Q := by
  cases r with
  | ok a e => exact ⟨a, e, rfl, h⟩
  | exc x e => exact h.elim
  | err => exact h.elim
theorem postT_bind {α : Type} {r : Res α} {f : α → Fm → Res (D × Bool)} {Q : Bool → Hp → Prop} (h : PostT K M F ext xv σ (r.bind f) Q) : ∃ a e, r = .ok a e ∧ PostT K M F ext xv σ (f a e) Q := by
  cases r with
  | ok a e => exact ⟨a, e, rfl, h⟩
  | exc x e => exact h.elim
  | err => exact h.elim
theorem postO_bind {α : Type} {r : Res α} {f : α → Fm → Res (Option Int)} {Q : Option Int → Hp → Prop} (h : PostO K M F ext xv σ (r.bind f) Q) : ∃ a e, r = .ok a e ∧ PostO K M F ext xv σ (f a e) Q := by
  cases r with
  | ok a e => exact ⟨a, e, rfl, h⟩
  | exc x e => exact h.elim
  | err => exact h.elim
theorem post_lift {o : Option (D × Bool)} {e : Fm} {Q : VK} (h : PostE K M F ext xv σ (Res.lift o e) Q) : ∃ a, o = some a ∧ PostE K M F ext xv σ (.ok a e) Q := by
  cases o with
  | some a => exact ⟨a, rfl, h⟩
  | none => exact h.elim

/-- a part is reckoned, its result settled -/
theorem T_sub {e : E} {R : VK} (st : Sta K M F H (ext ++ env) (xv ++ σ)) (hl : ext.length = xv.length) {x : D × Bool} {e1 : Fm} (h1 : ev Γ call e env = .ok x e1)
    (k : ∀ v F' H', Same F F' → Rep K M F' x.1 v → Sta K M F' H' (ext ++ e1) (xv ++ σ) → R v H') : TEv K M Γ call e σ H R := by
  refine ⟨F, ext, xv, env, st, hl, ?_⟩
  rw [h1]
  intro v F' H' s st'
  obtain ⟨d, o⟩ := x
  obtain ⟨F'', s2, r, st2⟩ := st'.settle
  exact k v F'' H' (s.trans s2) r st2
theorem T_keep {e : E} {R : VK} (st : Sta K M F H (ext ++ env) (xv ++ σ)) (hl : ext.length = xv.length) {x : D × Bool} {e1 : Fm} (h1 : ev Γ call e env = .ok x e1)
    (k : ∀ v F' H', Same F F' → Sta K M F' H' (some x :: (ext ++ e1)) (some v :: (xv ++ σ)) → R v H') : TEv K M Γ call e σ H R := by
  refine ⟨F, ext, xv, env, st, hl, ?_⟩
  rw [h1]
  exact k
theorem Ts_sub {es : Es} {R : List V → Hp → Prop} (st : Sta K M F H (ext ++ env) (xv ++ σ)) (hl : ext.length = xv.length) {x : List D} {e1 : Fm} (h1 : evs Γ call es env = .ok x e1)
    (k : ∀ vs F' H', Same F F' → Reps K M F' x vs → Sta K M F' H' (ext ++ e1) (xv ++ σ) → R vs H') : TEs K M Γ call es σ H R := by
  refine ⟨F, ext, xv, env, st, hl, ?_⟩
  rw [h1]
  exact k
theorem Tt_sub {e : E} {R : Bool → Hp → Prop} (st : Sta K M F H (ext ++ env) (xv ++ σ)) (hl : ext.length = xv.length) {b o : Bool} {e1 : Fm} (h1 : ev Γ call e env = .ok (.bl b, o) e1)
    (k : ∀ F' H', Same F F' → Sta K M F' H' (ext ++ e1) (xv ++ σ) → R b H') : TTt K M Γ call e σ H R := by
  refine ⟨F, ext, xv, env, st, hl, ?_⟩
  rw [h1]
  exact k
theorem To_sub {e : O} {R : Option Int → Hp → Prop} (st : Sta K M F H (ext ++ env) (xv ++ σ)) (hl : ext.length = xv.length) {b : Option Int} {e1 : Fm} (h1 : evo Γ call e env = .ok b e1)
    (k : ∀ F' H', Same F F' → Sta K M F' H' (ext ++ e1) (xv ++ σ) → R b H') : TOo K M Γ call e σ H R := by
  refine ⟨F, ext, xv, env, st, hl, ?_⟩
  rw [h1]
  exact k
end

/-! ### operators by values -/
section
variable {K : PySem.W.Frag} {M : Nm} {F H : Hp} {es : List Sl} {vs : List (Option V)}

theorem rep_int {i : Int} {v : V} (h : Rep K M F (.int i) v) : v = .int i := by
  cases h
  rfl
theorem rep_bl {i : Bool} {v : V} (h : Rep K M F (.bl i) v) : v = .bl i := by
  cases h
  rfl
theorem rep_non {v : V} (h : Rep K M F .non v) : v = .non := by
  cases h
  rfl
theorem rep_str {i : Str} {v : V} (h : Rep K M F (.str i) v) : v = .str i := by
  cases h
  rfl
theorem rep_tup {l : List D} {v : V} (h : Rep K M F (.tup l) v) : ∃ a ws, v = .ref a ∧ SqT K F a ws ∧ ws.length ≤ LIM ∧ Reps K M F l ws := by
  cases h with
  | tup a b c => exact ⟨_, _, rfl, a, b, c⟩
theorem rep_lst {l : List D} {v : V} (h : Rep K M F (.lst l) v) : ∃ a ws, v = .ref a ∧ F a = some (.lst ws) ∧ ws.length ≤ LIM ∧ Reps K M F l ws := by
  cases h with
  | lst a b c => exact ⟨_, _, rfl, a, b, c⟩

/-- what is wanted behind an operation -/
abbrev Aft (K : PySem.W.Frag) (M : Nm) (F : Hp) (es : List Sl) (vs : List (Option V)) (z : D × Bool) (Q : VK) : Prop := ∀ u F' H', Same F F' → Sta K M F' H' (some z :: es) (some u :: vs) → Q u H'
theorem aft_at {z : D} {u : V} {Q : VK} (st : Sta K M F H es vs) (r : Rep K M F z u) (k : Aft K M F es vs (z, false) Q) : Q u H := k u F H (Same.refl F) (st.push r)
theorem aft_tup {l : List D} {ws : List V} {Q : VK} (st : Sta K M F H es vs) (r : Reps K M F l ws) (z : ws.length ≤ LIM) (k : Aft K M F es vs (.tup l, false) Q) : ∀ p, H p = none → Q (.ref p) (upd H p (.tup ws)) := fun p hp => by
  have s := st.new (ob := .tup ws) hp
  have sf : Same F (upd F p (.tup ws)) := same_new (st.free hp)
  exact k _ _ _ sf (s.push (.tup (.inl (.inl upd_same)) z (r.mono sf)))
theorem aft_lst {l : List D} {ws : List V} {Q : VK} (st : Sta K M F H es vs) (r : Reps K M F l ws) (z : ws.length ≤ LIM) (k : Aft K M F es vs (.lst l, true) Q) : ∀ p, H p = none → Q (.ref p) (upd H p (.lst ws)) := fun p hp =>
  k _ _ _ (Same.refl F) (st.newL hp r z)

def bop : BOp → Operator
  | .add => .Add | .sub => .Sub | .mul => .Mult | .div => .FloorDiv | .mod => .Mod | .pow => .Pow
/-- a row, a text, a tuple one time is itself -/
def rB (K : PySem.W.Frag) : BOp → R2
  | .add => fun x y H Q => rI0 (fun i j => .int (i + j)) x y H Q ∨ rCatA K x y H Q ∨ rCat x y H Q
  | .sub => rI0 fun i j => .int (i - j)
  | .mul => fun x y H Q => rI CMul (fun i j => .int (i * j)) x y H Q ∨ rI CMulW (fun i j => .int (i * j)) x y H Q ∨ rRep x y H Q ∨ rRepT K x y H Q
  | .div => rI CDivW fun i j => .int (i / j)
  | .mod => rI (fun _ j => 0 < j) fun i j => .int (i % j)
  | .pow => rI CPow fun i j => .int (i ^ j.toNat)
theorem op_bin {X : Cx} : ∀ op, OpR X (binaryOp (bop op)) (rB X.K op)
  | .add => op_add.or (op_catA.or op_cat)
  | .sub => op_sub
  | .mul => op_mul.or (op_mulW.or (op_rep.or op_repT))
  | .div => op_fdivW
  | .mod => op_mod
  | .pow => op_pow

theorem Reps.rep {l : List D} {ws : List V} (h : Reps K M F l ws) : ∀ k : Nat, Reps K M F (List.replicate k l).flatten (List.replicate k ws).flatten
  | 0 => .nil
  | k + 1 => by
    rw [List.replicate_succ, List.replicate_succ, List.flatten_cons, List.flatten_cons]
    exact h.app (Reps.rep h k)
theorem Reps.nil_iff {l : List D} {ws : List V} (h : Reps K M F l ws) : l = [] ↔ ws = [] := by
  cases h with
  | nil => simp
  | cons _ _ => simp
theorem len_rep_flat {α : Type} (l : List α) : ∀ k : Nat, (List.replicate k l).flatten.length = k * l.length
  | 0 => by simp
  | k + 1 => by
    rw [List.replicate_succ, List.flatten_cons, List.length_append, len_rep_flat l k, Nat.succ_mul, Nat.add_comm]

theorem bin_ok {op : BOp} {x y : D} {z : D × Bool} {v w : V} {Q : VK} (st : Sta K M F H es vs) (rx : Rep K M F x v) (ry : Rep K M F y w) (h : biD op x y = some z) (k : Aft K M F es vs z Q) (k2 : op = .mul → ∀ l j, x = .tup l → y = .int j → 2 ≤ j) : rB K op v w H Q := by
  have sm := st.same
  cases op with
  | add =>
    cases x <;> cases y <;> simp only [biD, reduceCtorEq, Option.some.injEq] at h
    · subst h
      cases rep_int rx
      cases rep_int ry
      exact .inl ⟨_, _, rfl, rfl, aft_at st (.int _) k⟩
    · split at h
      · rename_i l m hl
        cases h
        obtain ⟨a, us, rfl, h1, z1, r1⟩ := rep_tup rx
        obtain ⟨b, ws, rfl, h2, z2, r2⟩ := rep_tup ry
        have e1 := r1.len
        have e2 := r2.len
        refine .inr (.inl ⟨a, b, us, ws, rfl, rfl, same_sqT sm h1, same_sqT sm h2, lim_le (by omega), fun e => ?_, fun e1 e2 => ?_, fun _ _ => ?_⟩)
        · have q := r1.nil_iff.mpr e
          subst q
          exact aft_at st ry k
        · have q := r2.nil_iff.mpr e2
          subst q
          rw [List.append_nil] at k
          exact aft_at st rx k
        · exact aft_tup st (r1.app r2) (by rw [List.length_append]; omega) k
      · cases h
    · split at h
      · rename_i l m hl
        cases h
        obtain ⟨a, us, rfl, h1, z1, r1⟩ := rep_lst rx
        obtain ⟨b, ws, rfl, h2, z2, r2⟩ := rep_lst ry
        have e1 := r1.len
        have e2 := r2.len
        exact .inr (.inr ⟨a, b, us, ws, rfl, rfl, sm _ _ h1, sm _ _ h2, lim_le (by omega), aft_lst st (r1.app r2) (by rw [List.length_append]; omega) k⟩)
      · cases h
  | sub =>
    cases x <;> cases y <;> simp only [biD, reduceCtorEq, Option.some.injEq] at h
    subst h
    cases rep_int rx
    cases rep_int ry
    exact ⟨_, _, rfl, rfl, aft_at st (.int _) k⟩
  | mul =>
    cases x <;> cases y <;> simp only [biD, reduceCtorEq, Option.some.injEq] at h
    · split at h
      · rename_i hm
        cases h
        cases rep_int rx
        cases rep_int ry
        have q := aft_at st (.int _) k
        rcases hm with hm | hm | hm
        · exact .inl ⟨_, _, rfl, rfl, .inl hm, q⟩
        · exact .inl ⟨_, _, rfl, rfl, .inr hm, q⟩
        · exact .inr (.inl ⟨_, _, rfl, rfl, hm, q⟩)
      · cases h
    · split at h
      · rename_i l m hl
        cases h
        obtain ⟨h0, h1, h2, h3⟩ := hl
        obtain ⟨a, us, rfl, h4, z1, r1⟩ := rep_tup rx
        cases rep_int ry
        have e1 := r1.len
        have hz : (List.replicate m.toNat us).flatten.length ≤ LIM := by
          rw [len_rep_flat]
          have : m.toNat * us.length ≤ 1000 * 1000 := Nat.mul_le_mul (by omega) (by omega)
          exact this
        exact .inr (.inr (.inr ⟨a, m, us, rfl, rfl, same_sqT sm h4, fun e => h3 (r1.nil_iff.mpr e), k2 rfl _ _ rfl rfl, h1, by omega, aft_tup st (r1.rep _) hz k⟩))
      · cases h
    · split at h
      · rename_i l m hl
        cases h
        obtain ⟨h0, h1, h2⟩ := hl
        obtain ⟨a, us, rfl, h4, z1, r1⟩ := rep_lst rx
        cases rep_int ry
        have e1 := r1.len
        have hz : (List.replicate m.toNat us).flatten.length ≤ LIM := by
          rw [len_rep_flat]
          have : m.toNat * us.length ≤ 1000 * 1000 := Nat.mul_le_mul (by omega) (by omega)
          exact this
        refine .inr (.inr (.inl ⟨a, m, us, rfl, rfl, sm _ _ h4, by omega, by omega, ?_, aft_lst st (r1.rep _) hz k⟩))
        rw [len_rep_flat, Nat.mul_comm] at hz
        exact lim_le hz
      · cases h
  | div =>
    cases x <;> cases y <;> simp only [biD, reduceCtorEq, Option.some.injEq] at h
    split at h
    · rename_i hm
      cases h
      cases rep_int rx
      cases rep_int ry
      exact ⟨_, _, rfl, rfl, hm, aft_at st (.int _) k⟩
    · cases h
  | mod =>
    cases x <;> cases y <;> simp only [biD, reduceCtorEq, Option.some.injEq] at h
    split at h
    · rename_i hm
      cases h
      cases rep_int rx
      cases rep_int ry
      exact ⟨_, _, rfl, rfl, hm, aft_at st (.int _) k⟩
    · cases h
  | pow =>
    cases x <;> cases y <;> simp only [biD, reduceCtorEq, Option.some.injEq] at h
    split at h
    · rename_i hm
      cases h
      cases rep_int rx
      cases rep_int ry
      exact ⟨_, _, rfl, rfl, hm, aft_at st (.int _) k⟩
    · cases h
end
end PL
/-! PLVal: comparisons, subscripts, slices, built-in functions, by values. -/
namespace PL
open PySem PySem.Spec PyProof.Rows L2

/-! ### data as the library's data -/
mutual
def toP : D → PyData
  | .non => .none
  | .bl b => .bool b
  | .int i => .int i
  | .str s => .str s
  | .tup l => .tuple (toPs l)
  | .lst l => .list (toPs l)
  | _ => .none
def toPs : List D → List PyData
  | [] => []
  | d :: r => toP d :: toPs r
end
section
variable {K : PySem.W.Frag} {M : Nm} {F H : Hp}
theorem Dpk.up : ∀ {n : Nat} {d : D}, Dpk n d → Dpk (n + 1) d
  | _, .non, _ => trivial
  | _, .bl _, _ => trivial
  | _, .int _, _ => trivial
  | n, .str s, h => by
    cases n <;> exact h
  | 0, .tup l, h => h.elim
  | 0, .lst l, h => h.elim
  | n + 1, .tup l, h => fun x hx => Dpk.up (h x hx)
  | n + 1, .lst l, h => fun x hx => Dpk.up (h x hx)
  | 0, .scr l, h => h.elim
  | n + 1, .scr l, h => h.elim
  | 0, .dic _ _, h => h.elim
  | n + 1, .dic _ _, h => h.elim
  | 0, .ins _ _ _, h => h.elim
  | n + 1, .ins _ _ _, h => h.elim
mutual
theorem dp_of (e : Same F H) : ∀ (n : Nat) {d : D} {v : V}, Dpk n d → Rep K M F d v → Dp K H v (toP d)
  | _, _, _, _, .non => .non
  | _, _, _, _, .bl b => .bl b
  | _, _, _, _, .int i => .int i
  | _, _, _, _, .str s => .str s
  | 0, _, _, h, .tup _ _ _ => h.elim
  | 0, _, _, h, .lst _ _ _ => h.elim
  | n + 1, _, _, h, .tup a _ r => .tup (same_sqT e a) (dps_of e n h r)
  | n + 1, _, _, h, .lst a _ r => .lst (.inl (.inl (e _ _ a))) (dps_of e n h r)
  | 0, _, _, h, .scr _ _ => h.elim
  | n + 1, _, _, h, .scr _ _ => h.elim
  | 0, _, _, h, .dic _ _ _ => h.elim
  | n + 1, _, _, h, .dic _ _ _ => h.elim
  | 0, _, _, h, .ins _ _ _ => h.elim
  | n + 1, _, _, h, .ins _ _ _ => h.elim
theorem dps_of (e : Same F H) : ∀ (n : Nat) {ds : List D} {vs : List V}, (∀ x ∈ ds, Dpk n x) → Reps K M F ds vs → DpAll K H vs (toPs ds)
  | _, _, _, _, .nil => .nil
  | n, _, _, h, .cons a r => .cons (dp_of e n (h _ (by simp)) a) (dps_of e n (fun x hx => h x (by simp [hx])) r)
end
mutual
theorem lay_of : ∀ (n : Nat) {d : D}, Dpk n d → (toP d).canLay0 = true ∧ (toP d).depth ≤ n
  | _, .non, _ => ⟨rfl, Nat.zero_le _⟩
  | _, .bl _, _ => ⟨rfl, Nat.zero_le _⟩
  | _, .int _, _ => ⟨rfl, Nat.zero_le _⟩
  | n, .str s, h => by
    refine ⟨?_, Nat.zero_le _⟩
    cases n <;> exact h
  | 0, .tup _, h => h.elim
  | 0, .lst _, h => h.elim
  | n + 1, .tup l, h => by
    obtain ⟨a, b⟩ := lays_of n (ds := l) h
    exact ⟨a, Nat.succ_le_succ b⟩
  | n + 1, .lst l, h => by
    obtain ⟨a, b⟩ := lays_of n (ds := l) h
    exact ⟨a, Nat.succ_le_succ b⟩
  | 0, .scr _, h => h.elim
  | n + 1, .scr _, h => h.elim
  | 0, .dic _ _, h => h.elim
  | n + 1, .dic _ _, h => h.elim
  | 0, .ins _ _ _, h => h.elim
  | n + 1, .ins _ _ _, h => h.elim
theorem lays_of : ∀ (n : Nat) {ds : List D}, (∀ x ∈ ds, Dpk n x) → PyData.canLayAll0 (toPs ds) = true ∧ PyData.depthAll (toPs ds) ≤ n
  | _, [], _ => ⟨rfl, Nat.zero_le _⟩
  | n, d :: r, h => by
    obtain ⟨a, b⟩ := lay_of n (h d (by simp))
    obtain ⟨a2, b2⟩ := lays_of n (ds := r) fun x hx => h x (by simp [hx])
    refine ⟨?_, ?_⟩
    · show ((toP d).canLay0 && PyData.canLayAll0 (toPs r)) = true
      rw [a, a2] <;> rfl
    · show max (toP d).depth (PyData.depthAll (toPs r)) ≤ n
      omega
end
theorem shaped_of {d : D} (h : Dpk 16 d) : SeqAt.shaped (toP d) = true := by
  obtain ⟨a, b⟩ := lay_of 16 h
  unfold SeqAt.shaped
  rw [a, decide_eq_true (Nat.le_trans b (by decide))] <;> rfl
mutual
theorem eqv_of : ∀ (n : Nat) {a b : D}, Dpk n a → Dpk n b → PyData.eqv (toP a) (toP b) = eqb a b
  | n, a, b, ha, hb => by
    cases n with
    | zero =>
      cases a <;> first | exact ha.elim | (cases b <;> first | exact hb.elim | rfl)
    | succ n =>
      cases a <;> first | exact ha.elim | (cases b <;> first | exact hb.elim | rfl | exact eqvs_of n ha hb)
theorem eqvs_of : ∀ (n : Nat) {a b : List D}, (∀ x ∈ a, Dpk n x) → (∀ x ∈ b, Dpk n x) → PyData.eqvAll (toPs a) (toPs b) = eqbs a b
  | _, [], [], _, _ => rfl
  | _, [], _ :: _, _, _ => rfl
  | _, _ :: _, [], _, _ => rfl
  | n, x :: xs, y :: ys, h, h' => by
    show (PyData.eqv (toP x) (toP y) && PyData.eqvAll (toPs xs) (toPs ys)) = (eqb x y && eqbs xs ys)
    rw [eqv_of n (h x (by simp)) (h' y (by simp)), eqvs_of n (fun z hz => h z (by simp [hz])) fun z hz => h' z (by simp [hz])]
end
theorem any_of {n : Nat} {a : D} (ha : Dpk n a) : ∀ {l : List D}, (∀ x ∈ l, Dpk n x) → ((toPs l).any fun z => PyData.eqv z (toP a)) = l.any fun z => eqb z a
  | [], _ => rfl
  | x :: r, h => by
    show (PyData.eqv (toP x) (toP a) || (toPs r).any _) = (eqb x a || r.any _)
    rw [eqv_of n (h x (by simp)) ha, any_of ha fun z hz => h z (by simp [hz])]

/-! ### comparisons -/
/-- a flat thing as a value -/
def flV : D → V
  | .non => .non
  | .bl b => .bl b
  | .int i => .int i
  | .str s => .str s
  | _ => .non
theorem rep_flat {d : D} {v : V} (h : Rep K M F d v) (f : flat d = true) : v = flV d ∧ flatV v = true := by
  cases h <;> first | exact ⟨rfl, rfl⟩ | cases f
theorem reps_flat : ∀ {ds : List D} {vs : List V}, Reps K M F ds vs → ds.all flat = true → vs.all flatV = true
  | _, _, .nil, _ => rfl
  | _, _, .cons h r, f => by
    simp only [List.all_cons, Bool.and_eq_true] at f ⊢
    exact ⟨(rep_flat h f.1).2, reps_flat r f.2⟩
theorem eqV_flat {a b : D} {v w : V} (ha : Rep K M F a v) (hb : Rep K M F b w) (fa : flat a = true) (fb : flat b = true) : eqV v w = eqb a b := by
  cases ha <;> first | (simp [flat] at fa; done) | (cases hb <;> first | (simp [flat] at fb; done) | rfl)
theorem inV_flat {a : D} {v : V} (ha : Rep K M F a v) (fa : flat a = true) : ∀ {ds : List D} {vs : List V}, Reps K M F ds vs → ds.all flat = true → inV v vs = ds.any fun z => eqb z a
  | _, _, .nil, _ => rfl
  | _, _, .cons h r, f => by
    simp only [List.all_cons, Bool.and_eq_true] at f
    have q := inV_flat ha fa r f.2
    unfold inV at q ⊢
    simp only [List.any_cons]
    rw [eqV_flat h ha f.1 fa, q]

def cop : COp → CmpOp
  | .eq => .Eq | .ne => .NotEq | .lt => .Lt | .le => .LtE | .gt => .Gt | .ge => .GtE | .isN => .Is | .notN => .IsNot | .inn => .In | .nin => .NotIn
def rC (K : PySem.W.Frag) : COp → R2
  | .eq => rEqD K
  | .ne => rNeD K
  | .lt => rI0 fun i j => .bl (decide (i < j))
  | .le => rI0 fun i j => .bl (decide (i ≤ j))
  | .gt => rI0 fun i j => .bl (decide (j < i))
  | .ge => rI0 fun i j => .bl (decide (j ≤ i))
  | .isN => fun x y H Q => y = .non ∧ Q (.bl (decide (x = .non))) H
  | .notN => fun x y H Q => y = .non ∧ Q (.bl (!decide (x = .non))) H
  | .inn => fun x y H Q => rInD K x y H Q ∨ rIn K false x y H Q ∨ ∃ (c : Nat) (z : Str), x = .str ⟨#[c]⟩ ∧ y = .str z ∧ Q (.bl (decide (c ∈ z.cps.toList))) H
  | .nin => fun x y H Q => rNotInD K x y H Q ∨ rIn K true x y H Q ∨ ∃ (c : Nat) (z : Str), x = .str ⟨#[c]⟩ ∧ y = .str z ∧ Q (.bl (!decide (c ∈ z.cps.toList))) H
theorem op_cop {X : Cx} (hu : X.A.units + 65 < cLine) : ∀ op, OpR X (compareOp (cop op)) (rC X.K op)
  | .eq => op_eqD (by omega)
  | .ne => op_neD (by omega)
  | .lt => op_lt
  | .le => op_le
  | .gt => op_gt
  | .ge => op_ge
  | .isN => op_isN
  | .notN => op_notN
  | .inn => (op_inD hu).or (op_in_seq.or op_in_sign)
  | .nin => (op_notInD hu).or (op_notIn_seq.or op_notIn_sign)
def isDic : D → Bool
  | .dic _ _ => true
  | _ => false
theorem non_iff {x : D} {v : V} (h : Rep K M F x v) : decide (v = .non) = isNon x := by
  cases h <;> simp [isNon]

/-- the left thing is to be read now (ours, or settled) -/
inductive Pk (K : PySem.W.Frag) (M : Nm) (F H : Hp) : D → V → Prop where
  | rep {d : D} {v : V} (h : Rep K M F d v) : Pk K M F H d v
  | lst {a : Addr} {l : List D} {vs : List V} (h : H a = some (.lst vs)) (z : vs.length ≤ LIM) (r : Reps K M F l vs) : Pk K M F H (.lst l) (.ref a)
theorem pk_of {d : D} {o : Bool} {v : V} {fp : List Addr} (h : RepO K M F H d o v fp) (hi : ∀ c fs vs, d ≠ .ins c fs vs) : Pk K M F H d v := by
  cases h with
  | fz h => exact .rep h
  | lst h z r => exact .lst h z r
  | ins h e r => exact (hi _ _ _ rfl).elim
theorem pk_dp (e : Same F H) {d : D} {v : V} (h : Dpk 16 d) (p : Pk K M F H d v) : Dp K H v (toP d) := by
  cases p with
  | rep r => exact dp_of e 16 h r
  | lst a z r => exact .lst (.inl (.inl a)) (dps_of e 15 h r)
theorem str_one {a : Str} {c : Nat} (h : a.cps.toList = [c]) : a = ⟨#[c]⟩ := by
  cases a with
  | mk cps =>
    congr 1
    exact Array.toList_inj.mp h
theorem cmp_ok {op : COp} {x y : D} {b : Bool} {v w : V} {Q : VK} (e : Same F H) (rx : Pk K M F H x v) (ry : Rep K M F y w) (h : cmD op x y = some b) (hd : isDic y = false) (k : Q (.bl b) H) : rC K op v w H Q := by
  cases op with
  | eq =>
    simp only [cmD] at h
    split at h
    · rename_i hh
      cases h
      refine ⟨toP x, toP y, pk_dp e hh.1 rx, dp_of e 16 hh.2 ry, shaped_of hh.1, shaped_of hh.2, ?_⟩
      rw [eqv_of 16 hh.1 hh.2]
      exact k
    · cases h
  | ne =>
    simp only [cmD] at h
    split at h
    · rename_i hh
      cases h
      refine ⟨toP x, toP y, pk_dp e hh.1 rx, dp_of e 16 hh.2 ry, shaped_of hh.1, shaped_of hh.2, ?_⟩
      rw [eqv_of 16 hh.1 hh.2]
      exact k
    · cases h
  | lt =>
    cases x <;> cases y <;> simp only [cmD, reduceCtorEq, Option.some.injEq] at h
    subst h
    cases rx with
    | rep rx =>
      cases rep_int rx
      cases rep_int ry
      exact ⟨_, _, rfl, rfl, k⟩
  | le =>
    cases x <;> cases y <;> simp only [cmD, reduceCtorEq, Option.some.injEq] at h
    subst h
    cases rx with
    | rep rx =>
      cases rep_int rx
      cases rep_int ry
      exact ⟨_, _, rfl, rfl, k⟩
  | gt =>
    cases x <;> cases y <;> simp only [cmD, reduceCtorEq, Option.some.injEq] at h
    subst h
    cases rx with
    | rep rx =>
      cases rep_int rx
      cases rep_int ry
      exact ⟨_, _, rfl, rfl, k⟩
  | ge =>
    cases x <;> cases y <;> simp only [cmD, reduceCtorEq, Option.some.injEq] at h
    subst h
    cases rx with
    | rep rx =>
      cases rep_int rx
      cases rep_int ry
      exact ⟨_, _, rfl, rfl, k⟩
  | isN =>
    cases y <;> simp only [cmD, reduceCtorEq, Option.some.injEq] at h
    refine ⟨rep_non ry, ?_⟩
    cases rx with
    | rep rx =>
      rw [non_iff rx, h]
      exact k
    | lst a z r =>
      subst h
      exact k
  | notN =>
    cases y <;> simp only [cmD, reduceCtorEq, Option.some.injEq] at h
    refine ⟨rep_non ry, ?_⟩
    cases rx with
    | rep rx =>
      rw [non_iff rx, h]
      exact k
    | lst a z r =>
      subst h
      exact k
  | inn =>
    cases y with
    | dic _ _ => cases hd
    | tup l =>
      simp only [cmD] at h
      split at h
      · rename_i hh
        cases h
        refine .inr (.inl ?_)
        cases rx with
        | lst a z r => cases hh.1
        | rep rx =>
          obtain ⟨a, ws, rfl, h1, z1, r1⟩ := rep_tup ry
          refine ⟨a, ws, rfl, .inr (same_sqT e h1), (rep_flat rx hh.1).2, reps_flat r1 hh.2, ?_⟩
          rw [if_neg Bool.false_ne_true, inV_flat rx hh.1 r1 hh.2]
          exact k
      · cases h
    | lst l =>
      simp only [cmD] at h
      split at h
      · rename_i hh
        cases h
        refine .inl ⟨toP x, toPs l, pk_dp e hh.1 rx, dp_of e 16 hh.2 ry, shaped_of hh.1, shaped_of hh.2, ?_⟩
        rw [any_of (Dpk.up hh.1 : Dpk 17 x) (fun z hz => (show Dpk 15 z from hh.2 z hz).up.up)]
        exact k
      · cases h
    | str z =>
      cases x <;> simp only [cmD, reduceCtorEq] at h
      cases rx with
      | rep rx =>
      cases rep_str rx
      cases rep_str ry
      split at h
      · rename_i a c hc
        cases h
        obtain rfl := str_one hc
        exact .inr (.inr ⟨c, z, rfl, rfl, k⟩)
      · cases h
    | _ => cases x <;> simp only [cmD, reduceCtorEq] at h
  | nin =>
    cases y with
    | dic _ _ => cases hd
    | tup l =>
      simp only [cmD] at h
      split at h
      · rename_i hh
        cases h
        refine .inr (.inl ?_)
        cases rx with
        | lst a z r => cases hh.1
        | rep rx =>
          obtain ⟨a, ws, rfl, h1, z1, r1⟩ := rep_tup ry
          refine ⟨a, ws, rfl, .inr (same_sqT e h1), (rep_flat rx hh.1).2, reps_flat r1 hh.2, ?_⟩
          rw [if_pos rfl, inV_flat rx hh.1 r1 hh.2]
          exact k
      · cases h
    | lst l =>
      simp only [cmD] at h
      split at h
      · rename_i hh
        cases h
        refine .inl ⟨toP x, toPs l, pk_dp e hh.1 rx, dp_of e 16 hh.2 ry, shaped_of hh.1, shaped_of hh.2, ?_⟩
        rw [any_of (Dpk.up hh.1 : Dpk 17 x) (fun z hz => (show Dpk 15 z from hh.2 z hz).up.up)]
        exact k
      · cases h
    | str z =>
      cases x <;> simp only [cmD, reduceCtorEq] at h
      cases rx with
      | rep rx =>
      cases rep_str rx
      cases rep_str ry
      split at h
      · rename_i a c hc
        cases h
        obtain rfl := str_one hc
        exact .inr (.inr ⟨c, z, rfl, rfl, k⟩)
      · cases h
    | _ => cases x <;> simp only [cmD, reduceCtorEq] at h

/-! ### subscripts, slices -/
theorem ixn_eq (n : Nat) (i : Int) : ixn n i = L2.ixN n i := rfl
theorem ixS_ok {s : Str} {i : Int} {z : D} {v w : V} {Q : VK} (rx : Rep K M F (.str s) v) (ry : Rep K M F (.int i) w) (h : ixD (.str s) (.int i) = some z) (k : ∀ u, Rep K M F z u → Q u H) : rIx K v w H Q := by
  cases rep_str rx
  cases rep_int ry
  simp only [ixD] at h
  split at h
  · rename_i hl
    cases e1 : ixn s.cps.toList.length i with
    | none =>
      rw [e1] at h
      cases h
    | some j =>
      rw [e1] at h
      have h' : (s.cps.toList[j]?).map (fun c => D.str ⟨#[c]⟩) = some z := h
      cases e2 : s.cps.toList[j]? with
      | none =>
        rw [e2] at h'
        cases h'
      | some c =>
        rw [e2] at h'
        cases h'
        refine .inr (.inr ⟨s, i, c, rfl, rfl, lim_le hl, ?_, k _ (.str _)⟩)
        unfold atI
        rw [← ixn_eq, e1]
        exact e2
  · cases h
theorem ix_ok {x y z : D} {v w : V} {Q : VK} (e : Same F H) (rx : Pk K M F H x v) (ry : Rep K M F y w) (h : ixD x y = some z) (k : ∀ u, Rep K M F z u → Q u H) : rIx K v w H Q := by
  cases x <;> cases y <;> first | (simp only [ixD, reduceCtorEq] at h; done) | skip
  · cases rx with
    | rep rx => exact ixS_ok rx ry h k
  all_goals simp only [ixD] at h
  · cases rep_int ry
    cases rx with
    | rep rx =>
      obtain ⟨a, ws, rfl, h1, z1, r1⟩ := rep_tup rx
      cases e1 : ixn _ _ with
      | none =>
        rw [e1] at h
        cases h
      | some j =>
        rw [e1] at h
        obtain ⟨u, hu, ru⟩ := r1.get (show _ = some z from h)
        refine .inr (.inl ⟨a, ws, _, u, rfl, rfl, same_sqT e h1, ?_, k u ru⟩)
        unfold atI
        rw [← ixn_eq, ← r1.len, e1]
        exact hu
  · cases rep_int ry
    have go : ∀ a ws, H a = some (.lst ws) → Reps K M F _ ws → rIx K (.ref a) (.int _) H Q := fun a ws h1 r1 => by
      cases e1 : ixn _ _ with
      | none =>
        rw [e1] at h
        cases h
      | some j =>
        rw [e1] at h
        obtain ⟨u, hu, ru⟩ := r1.get (show _ = some z from h)
        refine .inl ⟨a, ws, _, u, rfl, rfl, .inl (.inl h1), ?_, k u ru⟩
        unfold atI
        rw [← ixn_eq, ← r1.len, e1]
        exact hu
    cases rx with
    | rep rx =>
      obtain ⟨a, ws, rfl, h1, z1, r1⟩ := rep_lst rx
      exact go a ws (e _ _ h1) r1
    | lst h1 z1 r1 => exact go _ _ h1 r1
  · cases rep_int ry
    cases rx with
    | rep rx =>
      cases rx with
      | scr h1 z1 =>
        rename_i l i a
        cases e1 : ixn l.length i with
        | none =>
          rw [e1] at h
          cases h
        | some j =>
          rw [e1] at h
          have h' : (l[j]?).map D.int = some z := h
          cases e2 : l[j]? with
          | none =>
            rw [e2] at h'
            cases h'
          | some m =>
            rw [e2] at h'
            cases h'
            refine .inl ⟨a, _, _, .int m, rfl, rfl, e.seq h1, ?_, k _ (.int m)⟩
            unfold atI
            rw [← ixn_eq, List.length_map, e1]
            show (l.map V.int)[j]? = _
            rw [List.getElem?_map, e2] <;> rfl
theorem clp_eq (n d : Nat) (o : Option Int) : clp n d o = HT.sIx n d o := by
  cases o <;> rfl
theorem Reps.cut {l : List D} {ws : List V} (h : Reps K M F l ws) (lo hi : Option Int) : Reps K M F (PL.cut l lo hi) (cutV ws lo hi) := by
  unfold PL.cut cutV
  rw [clp_eq, clp_eq, h.len]
  exact (h.drop _).take _
theorem sl_ok {es : List Sl} {vs : List (Option V)} {x : D} {z : D × Bool} {v : V} {lo hi : Option Int} {Q : VK} (st : Sta K M F H es vs) (rx : Rep K M F x v) (h : slD x lo hi = some z) (k : Aft K M F es vs z Q) : rSlL K v lo hi H Q ∨ rSlA K v lo hi H Q ∨ rSlS v lo hi H Q := by
  cases x <;> simp only [slD, reduceCtorEq, Option.some.injEq] at h
  · split at h
    · rename_i hl
      cases h
      cases rep_str rx
      exact .inr (.inr ⟨_, rfl, lim_le hl, aft_at st (.str _) k⟩)
    · cases h
  · cases h
    obtain ⟨a, ws, rfl, h1, z1, r1⟩ := rep_tup rx
    refine .inr (.inl ⟨a, ws, rfl, same_sqT st.same h1, fun hw => ?_, fun _ => ?_⟩)
    · have e : ∀ l : List D, l.length = ws.length → PL.cut l lo hi = l := fun l hl => by
        unfold PL.cut
        rw [clp_eq, clp_eq, hl, hw.1, hw.2, ← hl]
        simp
      rw [e _ r1.len] at k
      exact aft_at st rx k
    · exact aft_tup st (r1.cut lo hi) (Nat.le_trans (cutV_length ws lo hi) z1) k
  · cases h
    obtain ⟨a, ws, rfl, h1, z1, r1⟩ := rep_lst rx
    exact .inl ⟨a, ws, rfl, .inl (.inl (st.same _ _ h1)), aft_lst st (r1.cut lo hi) (Nat.le_trans (cutV_length ws lo hi) z1) k⟩
end
end PL
/-! PLBi: built-in functions, by values. -/
namespace PL
open PySem PySem.Spec PyProof.Rows L2
section
variable {K : PySem.W.Frag} {M : Nm} {F H : Hp}
theorem reps_ints : ∀ {l : List D} {ws : List V} {ns : List Int}, Reps K M F l ws → intsOf l = some ns → ws = ns.map V.int
  | _, _, ns, .nil, h => by
    cases h
    rfl
  | d :: r, _, ns, .cons a b, h => by
    cases d <;> simp only [intsOf, reduceCtorEq] at h
    cases e : intsOf r with
    | none =>
      rw [e] at h
      cases h
    | some ms =>
      rw [e] at h
      cases h
      rw [rep_int a, reps_ints b e]
      rfl
theorem reps_bls : ∀ {l : List D} {ws : List V} {ns : List Bool}, Reps K M F l ws → blsOf l = some ns → ws = ns.map V.bl
  | _, _, ns, .nil, h => by
    cases h
    rfl
  | d :: r, _, ns, .cons a b, h => by
    cases d <;> simp only [blsOf, reduceCtorEq] at h
    cases e : blsOf r with
    | none =>
      rw [e] at h
      cases h
    | some ms =>
      rw [e] at h
      cases h
      rw [rep_bl a, reps_bls b e]
      rfl
theorem reps_of_ints : ∀ ns : List Int, Reps K M F (ns.map D.int) (ns.map V.int)
  | [] => .nil
  | _ :: r => .cons (.int _) (reps_of_ints r)
theorem maxL_mem : ∀ {ns : List Int}, ns ≠ [] → maxL ns ∈ ns ∧ ∀ y ∈ ns, y ≤ maxL ns
  | [], h => (h rfl).elim
  | [a], _ => by simp [maxL]
  | a :: b :: r, _ => by
    obtain ⟨h1, h2⟩ := maxL_mem (ns := b :: r) (by simp)
    have e : maxL (a :: b :: r) = max a (maxL (b :: r)) := rfl
    rw [e]
    refine ⟨?_, fun y hy => ?_⟩
    · rcases Int.le_total a (maxL (b :: r)) with q | q
      · rw [Int.max_eq_right q]
        exact List.mem_cons_of_mem _ h1
      · rw [Int.max_eq_left q]
        exact List.mem_cons_self
    · rcases List.mem_cons.mp hy with z | z
      · omega
      · have := h2 y z
        omega
theorem minL_mem : ∀ {ns : List Int}, ns ≠ [] → minL ns ∈ ns ∧ ∀ y ∈ ns, minL ns ≤ y
  | [], h => (h rfl).elim
  | [a], _ => by simp [minL]
  | a :: b :: r, _ => by
    obtain ⟨h1, h2⟩ := minL_mem (ns := b :: r) (by simp)
    have e : minL (a :: b :: r) = min a (minL (b :: r)) := rfl
    rw [e]
    refine ⟨?_, fun y hy => ?_⟩
    · rcases Int.le_total a (minL (b :: r)) with q | q
      · rw [Int.min_eq_left q]
        exact List.mem_cons_self
      · rw [Int.min_eq_right q]
        exact List.mem_cons_of_mem _ h1
    · rcases List.mem_cons.mp hy with z | z
      · omega
      · have := h2 y z
        omega
theorem insI_perm (a : Int) : ∀ l : List Int, (insI a l).Perm (a :: l)
  | [] => .refl _
  | b :: r => by
    unfold insI
    split
    · exact .refl _
    · exact ((insI_perm a r).cons b).trans (List.Perm.swap a b r)
theorem insI_sorted (a : Int) : ∀ {l : List Int}, l.Pairwise (· ≤ ·) → (insI a l).Pairwise (· ≤ ·)
  | [], _ => by simp [insI]
  | b :: r, h => by
    unfold insI
    obtain ⟨h1, h2⟩ := List.pairwise_cons.mp h
    split
    · rename_i q
      refine List.pairwise_cons.mpr ⟨fun y hy => ?_, h⟩
      rcases List.mem_cons.mp hy with z | z
      · omega
      · have := h1 y z
        omega
    · rename_i q
      refine List.pairwise_cons.mpr ⟨fun y hy => ?_, insI_sorted a h2⟩
      rcases List.mem_cons.mp ((insI_perm a r).mem_iff.mp hy) with z | z
      · omega
      · exact h1 y z
theorem srtI_perm : ∀ l : List Int, (srtI l).Perm l
  | [] => .refl _
  | a :: r => (insI_perm a (srtI r)).trans ((srtI_perm r).cons a)
theorem srtI_sorted : ∀ l : List Int, (srtI l).Pairwise (· ≤ ·)
  | [] => .nil
  | a :: r => insI_sorted a (srtI_sorted r)
theorem sorted_one : ∀ {l m : List Int}, l.Perm m → l.Pairwise (· ≤ ·) → m.Pairwise (· ≤ ·) → l = m
  | [], m, p, _, _ => (List.nil_perm.mp p).symm
  | a :: r, [], p, _, _ => by
    have := p.length_eq
    simp at this
  | a :: r, b :: s, p, h, h' => by
    obtain ⟨h1, h2⟩ := List.pairwise_cons.mp h
    obtain ⟨h3, h4⟩ := List.pairwise_cons.mp h'
    have e : a = b := by
      have x : a ∈ b :: s := p.mem_iff.mp List.mem_cons_self
      have y : b ∈ a :: r := p.mem_iff.mpr List.mem_cons_self
      rcases List.mem_cons.mp x with z | z
      · exact z
      · rcases List.mem_cons.mp y with w | w
        · exact w.symm
        · have := h3 a z
          have := h1 b w
          omega
    subst e
    rw [sorted_one (List.perm_cons a |>.mp p) h2 h4]

def nmBi : Bi → Str
  | .len => "len" | .abs => "abs" | .max2 => "max" | .min2 => "min" | .max1 => "max" | .min1 => "min" | .int1 => "int" | .str1 => "str" | .sum => "sum" | .sorted => "sorted" | .list => "list" | .tuple => "tuple" | .any => "any" | .all => "all"
  | .listR => "" | .tupR => "" | .dictL => "" | .dictZ => ""
def fvBi : Bi → Value
  | .len => .builtin "len" | .abs => .builtin "abs" | .max2 => .builtin "max" | .min2 => .builtin "min" | .max1 => .builtin "max" | .min1 => .builtin "min" | .int1 => .type "int" | .str1 => .type "str" | .sum => .builtin "sum"
  | .sorted => .builtin "sorted" | .list => .type "list" | .tuple => .type "tuple" | .any => .builtin "any" | .all => .builtin "all"
  | .listR => .none | .tupR => .none | .dictL => .none | .dictZ => .none
def rBi (K : PySem.W.Frag) : Bi → List V → Hp → VK → Prop
  | .len => fun xs H Q => (∃ p ys, xs = [.ref p] ∧ (SqL K H p ys ∨ SqT K H p ys) ∧ Q (.int ys.length) H) ∨ ∃ z, xs = [.str z] ∧ z.length ≤ sizeLine ∧ Q (.int z.length) H
  | .abs => fun xs H Q => ∃ i, xs = [.int i] ∧ Q (.int (if i < 0 then -i else i)) H
  | .max2 => fun xs H Q => ∃ i j, xs = [.int i, .int j] ∧ Q (.int (if j > i then j else i)) H
  | .min2 => fun xs H Q => ∃ i j, xs = [.int i, .int j] ∧ Q (.int (if j < i then j else i)) H
  | .max1 => rMax K
  | .min1 => rMin K
  | .int1 => fun xs H Q => ((∃ i, xs = [.int i] ∧ Q (.int i) H) ∨ ∃ k, xs = [.bl k] ∧ Q (.int (if k then 1 else 0)) H) ∨ ∃ a n, xs = [.str a] ∧ PySem.intText? a = some n ∧ a.length ≤ 640 ∧ Q (.int n) H
  | .str1 => fun xs H Q => ∃ i, xs = [.int i] ∧ i.natAbs.log2 < 1920 ∧ Q (.str (toString i)) H
  | .sum => rSum K
  | .sorted => rSorted K
  | .list => fun xs H Q => ∃ p ys, xs = [.ref p] ∧ (SqL K H p ys ∨ SqT K H p ys) ∧ ∀ l, H l = none → Q (.ref l) (upd H l (.lst ys))
  | .tuple => fun xs H Q => ∃ p ys, xs = [.ref p] ∧ ((SqL K H p ys ∧ ∀ l, H l = none → Q (.ref l) (upd H l (.tup ys))) ∨ (SqT K H p ys ∧ Q (.ref p) H))
  | .any => rAny K
  | .all => rAll K
  | .listR => fun _ _ _ => False
  | .tupR => fun _ _ _ => False
  | .dictL => fun _ _ _ => False
  | .dictZ => fun _ _ _ => False
def okBi : Bi → Bool
  | .listR => false | .tupR => false | .dictL => false | .dictZ => false
  | _ => true
theorem cr_bi {X : Cx} (hc : X.calm = true) : ∀ b, okBi b = true → CallR X (fvBi b) (rBi X.K b)
  | .len, _ => CallR.or call_len_seq call_len_str
  | .abs, _ => call_abs
  | .max2, _ => call_max2 hc
  | .min2, _ => call_min2 hc
  | .max1, _ => cr_max hc
  | .min1, _ => cr_min hc
  | .int1, _ => CallR.or call_int1 call_int_str
  | .str1, _ => call_str_int
  | .sum, _ => cr_sum hc
  | .sorted, _ => cr_sorted
  | .list, _ => call_list_of
  | .tuple, _ => call_tuple_of
  | .any, _ => cr_any hc
  | .all, _ => cr_all hc
theorem boot_bi : ∀ b, okBi b = true → bootBuiltins (nmBi b) = some (fvBi b) := by
  intro b h
  cases b <;> first | (simp [okBi] at h; done) | decide +kernel
variable {es : List Sl} {vs : List (Option V)}
theorem reps_one {d : D} {ws : List V} (h : Reps K M F [d] ws) : ∃ v, ws = [v] ∧ Rep K M F d v := by
  cases h with
  | cons a r =>
    cases r
    exact ⟨_, rfl, a⟩
theorem reps_two {d e : D} {ws : List V} (h : Reps K M F [d, e] ws) : ∃ v w, ws = [v, w] ∧ Rep K M F d v ∧ Rep K M F e w := by
  cases h with
  | cons a r =>
    cases r with
    | cons b s =>
      cases s
      exact ⟨_, _, rfl, a, b⟩
theorem bi_ok {b : Bi} {ds : List D} {z : D × Bool} {ws : List V} {Q : VK} (st : Sta K M F H es vs) (r : Reps K M F ds ws) (h : biF b ds = some z) (hb : okBi b = true) (k : Aft K M F es vs z Q) : rBi K b ws H Q := by
  have e := st.same
  have toL : ∀ {a : Addr} {us : List V}, F a = some (.lst us) → SqL K H a us := fun q => .inl (.inl (e _ _ q))
  unfold biF at h
  split at h <;> first | (simp [okBi] at hb; done) | cases h | skip
  case h_1 l =>
    obtain ⟨v, rfl, q⟩ := reps_one r
    obtain ⟨a, us, rfl, h1, z1, r1⟩ := rep_lst q
    rw [r1.len] at k
    exact .inl ⟨a, us, rfl, .inl (toL h1), aft_at st (.int _) k⟩
  case h_2 l =>
    obtain ⟨v, rfl, q⟩ := reps_one r
    obtain ⟨a, us, rfl, h1, z1, r1⟩ := rep_tup q
    rw [r1.len] at k
    exact .inl ⟨a, us, rfl, .inr (same_sqT e h1), aft_at st (.int _) k⟩
  case h_3 l =>
    obtain ⟨v, rfl, q⟩ := reps_one r
    cases q with
    | scr h1 z1 => exact .inl ⟨_, _, rfl, .inl (e.seq h1), by rw [List.length_map]; exact aft_at st (.int _) k⟩
  case h_4 i =>
    obtain ⟨v, rfl, q⟩ := reps_one r
    cases rep_int q
    exact ⟨_, rfl, aft_at st (.int _) k⟩
  case h_5 i j =>
    obtain ⟨v, w, rfl, q, q'⟩ := reps_two r
    cases rep_int q
    cases rep_int q'
    exact ⟨_, _, rfl, aft_at st (.int _) k⟩
  case h_6 i j =>
    obtain ⟨v, w, rfl, q, q'⟩ := reps_two r
    cases rep_int q
    cases rep_int q'
    exact ⟨_, _, rfl, aft_at st (.int _) k⟩
  case h_7 l =>
    obtain ⟨v, rfl, q⟩ := reps_one r
    obtain ⟨a, us, rfl, h1, z1, r1⟩ := rep_lst q
    cases en : intsOf l with
    | none =>
      rw [en] at h
      cases h
    | some ns =>
      rw [en] at h
      simp only [Option.bind_some] at h
      split at h
      · cases h
      · rename_i hne
        cases h
        rw [reps_ints r1 en] at h1
        refine ⟨a, ns, rfl, toL h1, List.length_pos_iff.mpr hne, fun m h2 h3 => ?_⟩
        obtain ⟨h4, h5⟩ := maxL_mem hne
        have e1 : m = maxL ns := by
          have := h3 _ h4
          have := h5 _ h2
          omega
        rw [e1]
        exact aft_at st (.int _) k
  case h_8 l =>
    obtain ⟨v, rfl, q⟩ := reps_one r
    obtain ⟨a, us, rfl, h1, z1, r1⟩ := rep_lst q
    cases en : intsOf l with
    | none =>
      rw [en] at h
      cases h
    | some ns =>
      rw [en] at h
      simp only [Option.bind_some] at h
      split at h
      · cases h
      · rename_i hne
        cases h
        rw [reps_ints r1 en] at h1
        refine ⟨a, ns, rfl, toL h1, List.length_pos_iff.mpr hne, fun m h2 h3 => ?_⟩
        obtain ⟨h4, h5⟩ := minL_mem hne
        have e1 : m = minL ns := by
          have := h3 _ h4
          have := h5 _ h2
          omega
        rw [e1]
        exact aft_at st (.int _) k
  case h_9 i =>
    obtain ⟨v, rfl, q⟩ := reps_one r
    cases rep_int q
    exact .inl (.inl ⟨_, rfl, aft_at st (.int _) k⟩)
  case h_10 i =>
    obtain ⟨v, rfl, q⟩ := reps_one r
    cases rep_bl q
    exact .inl (.inr ⟨_, rfl, aft_at st (.int _) k⟩)
  case h_11 l =>
    obtain ⟨v, rfl, q⟩ := reps_one r
    obtain ⟨a, us, rfl, h1, z1, r1⟩ := rep_lst q
    cases en : intsOf l with
    | none =>
      rw [en] at h
      cases h
    | some ns =>
      rw [en] at h
      cases h
      rw [reps_ints r1 en] at h1
      exact ⟨a, ns, rfl, toL h1, aft_at st (.int _) k⟩
  case h_12 l =>
    obtain ⟨v, rfl, q⟩ := reps_one r
    obtain ⟨a, us, rfl, h1, z1, r1⟩ := rep_lst q
    cases en : intsOf l with
    | none =>
      rw [en] at h
      cases h
    | some ns =>
      rw [en] at h
      simp only [Option.bind_some] at h
      split at h
      · rename_i h64
        cases h
        rw [reps_ints r1 en] at h1
        refine ⟨a, ns, rfl, toL h1, h64, fun ns' p h2 h3 => ?_⟩
        have e1 : ns' = srtI ns := sorted_one (h2.trans (srtI_perm ns).symm) h3 (srtI_sorted ns)
        subst e1
        refine aft_lst st (reps_of_ints _) ?_ k p
        rw [List.length_map, (srtI_perm ns).length_eq]
        unfold LIM
        omega
      · cases h
  case h_13 l =>
    obtain ⟨v, rfl, q⟩ := reps_one r
    obtain ⟨a, us, rfl, h1, z1, r1⟩ := rep_lst q
    exact ⟨a, us, rfl, .inl (toL h1), aft_lst st r1 z1 k⟩
  case h_14 l =>
    obtain ⟨v, rfl, q⟩ := reps_one r
    obtain ⟨a, us, rfl, h1, z1, r1⟩ := rep_tup q
    exact ⟨a, us, rfl, .inr (same_sqT e h1), aft_lst st r1 z1 k⟩
  case h_15 l =>
    obtain ⟨v, rfl, q⟩ := reps_one r
    obtain ⟨a, us, rfl, h1, z1, r1⟩ := rep_lst q
    exact ⟨a, us, rfl, .inl ⟨toL h1, aft_tup st r1 z1 k⟩⟩
  case h_16 l =>
    obtain ⟨v, rfl, q⟩ := reps_one r
    have q' := q
    obtain ⟨a, us, rfl, h1, z1, r1⟩ := rep_tup q
    exact ⟨a, us, rfl, .inr ⟨same_sqT e h1, aft_at st q' k⟩⟩
  case h_17 l =>
    obtain ⟨v, rfl, q⟩ := reps_one r
    obtain ⟨a, us, rfl, h1, z1, r1⟩ := rep_lst q
    cases en : blsOf l with
    | none =>
      rw [en] at h
      cases h
    | some ns =>
      rw [en] at h
      cases h
      rw [reps_bls r1 en] at h1
      exact ⟨a, ns, rfl, toL h1, aft_at st (.bl _) k⟩
  case h_18 l =>
    obtain ⟨v, rfl, q⟩ := reps_one r
    obtain ⟨a, us, rfl, h1, z1, r1⟩ := rep_lst q
    cases en : blsOf l with
    | none =>
      rw [en] at h
      cases h
    | some ns =>
      rw [en] at h
      cases h
      rw [reps_bls r1 en] at h1
      exact ⟨a, ns, rfl, toL h1, aft_at st (.bl _) k⟩
  case h_22 t =>
    obtain ⟨v, rfl, q⟩ := reps_one r
    cases rep_str q
    split at h
    · rename_i hl
      cases h
      exact .inr ⟨_, rfl, lim_le hl, aft_at st (.int _) k⟩
    · cases h
  case h_23 i =>
    obtain ⟨v, rfl, q⟩ := reps_one r
    cases rep_int q
    split at h
    · rename_i hl
      cases h
      exact ⟨_, rfl, hl, aft_at st (.str _) k⟩
    · cases h
  case h_24 t =>
    obtain ⟨v, rfl, q⟩ := reps_one r
    cases rep_str q
    split at h
    · rename_i hl
      cases e2 : PySem.intText? t with
      | none =>
        rw [e2] at h
        cases h
      | some n =>
        rw [e2] at h
        cases h
        exact .inr ⟨_, _, rfl, e2, hl, aft_at st (.int _) k⟩
    · cases h

/-! ### methods of texts -/
theorem reps_strs : ∀ {l : List D} {ws : List V} {ns : List Str}, Reps K M F l ws → strsOf l = some ns → ws = ns.map V.str
  | _, _, ns, .nil, h => by
    cases h
    rfl
  | d :: r, _, ns, .cons a b, h => by
    cases d <;> simp only [strsOf, reduceCtorEq] at h
    cases e : strsOf r with
    | none =>
      rw [e] at h
      cases h
    | some ms =>
      rw [e] at h
      cases h
      rw [rep_str a, reps_strs b e]
      rfl
theorem reps_of_strs : ∀ ns : List Str, Reps K M F (ns.map D.str) (ns.map V.str)
  | [] => .nil
  | _ :: r => .cons (.str _) (reps_of_strs r)
def nmBm : Bm → Str
  | .join => "join" | .split => "split" | .starts => "startswith" | .count => "" | .index => "" | .get => ""
def okBm : Bm → Bool
  | .join => true | .split => true | .starts => true | _ => false
def rBm (K : PySem.W.Frag) : Bm → V → List V → Hp → VK → Prop
  | .join => fun x xs H Q => ∃ a p, ∃ ys : List Str, x = .str a ∧ xs = [.ref p] ∧ (SqL K H p (ys.map V.str) ∨ SqT K H p (ys.map V.str)) ∧ (ys.map (·.length)).sum + ys.length * a.length ≤ 16777216 ∧ Q (.str (Txt.join a ys)) H
  | .split => fun x xs H Q => ∃ a b, x = .str a ∧ xs = [.str b] ∧ (b.length == 0) = false ∧ a.length + 2 ≤ sizeLine ∧ rNewStrs (Txt.split a b) H Q
  | .starts => fun x xs H Q => ∃ a b, x = .str a ∧ xs = [.str b] ∧ Q (.bl (Txt.startswith a b)) H
  | _ => fun _ _ _ _ => False
theorem pe_tbm {X : Cx} {m : Bm} {o e : Expr} {to te : TE} {apos pos : Pos} (hb : okBm m = true) (ho : PE X o to) (he : PE X e te) (hs : starEach [e] X.env = [(false, eval e X.env)]) (hbase : ∀ nm, attributeBase o nm X.env (eval o X.env) = eval o X.env)
    (hline : (apos.endLine == pos.line) = true) : PE X (.Call (.Attribute o (nmBm m) apos) [e] [] pos) (tM1 (rBm X.K m) to te) := by
  cases m <;> first | (simp [okBm] at hb; done) | skip
  · exact pe_join ho he hs (hbase _) hline
  · exact pe_split ho he hs (hbase _) hline
  · exact pe_m1 F.slot_str_startswith F.type_str_startswith mt_startswith ho he hs (hbase _) hline
theorem bm_str {m : Bm} {x : D} {ds : List D} {z : D × Bool} (h : bmF m x ds = some z) (hb : okBm m = true) : ∃ a, x = .str a := by
  cases m <;> first | (simp [okBm] at hb; done) | (cases x <;> first | exact ⟨_, rfl⟩ | (simp [bmF] at h; done))
theorem bm_ok {m : Bm} {x : D} {ds : List D} {z : D × Bool} {v : V} {ws : List V} {Q : VK} (st : Sta K M F H es vs) (rx : Rep K M F x v) (r : Reps K M F ds ws) (h : bmF m x ds = some z) (hb : okBm m = true) (k : Aft K M F es vs z Q) : rBm K m v ws H Q := by
  have e := st.same
  unfold bmF at h
  split at h <;> first | (simp [okBm] at hb; done) | cases h | skip
  · rename_i a l
    obtain ⟨v, rfl, q⟩ := reps_one r
    cases rep_str rx
    obtain ⟨p, us, rfl, h1, z1, r1⟩ := rep_lst q
    cases en : strsOf l with
    | none =>
      rw [en] at h
      cases h
    | some ns =>
      rw [en] at h
      simp only [Option.bind_some] at h
      split at h
      · rename_i hl
        cases h
        rw [reps_strs r1 en] at h1
        refine ⟨a, p, ns, rfl, rfl, .inl (.inl (.inl (e _ _ h1))), Nat.le_trans hl (by decide), ?_⟩
        rw [TL.join_eq]
        exact aft_at st (.str _) k
      · cases h
  · rename_i a b
    obtain ⟨v, rfl, q⟩ := reps_one r
    cases rep_str rx
    cases rep_str q
    split at h
    · rename_i hl
      cases h
      refine ⟨a, b, rfl, rfl, hl.1, lim_le hl.2, fun p hp => ?_⟩
      refine aft_lst st (reps_of_strs _) ?_ k p hp
      rw [List.length_map]
      exact Nat.le_trans (PyProof.Rows.split_le a b) hl.2
    · cases h
  · rename_i a b
    obtain ⟨v, rfl, q⟩ := reps_one r
    cases rep_str rx
    cases rep_str q
    exact ⟨a, b, rfl, rfl, aft_at st (.bl _) k⟩
end
end PL
/-! PLTup1: a tuple one time is itself. -/
namespace PL
open PySem PySem.Spec PyProof.Rows L2
theorem tup_once (l : Addr) (its : Array Value) (n : Nat) (dd : Option Addr) (sl : Array (Option Value)) (u : Tok) :
    Meets (Builtin.«tuple.__mul__» ⟨[.ref l, .int 1 u], []⟩) (fun _ R s => s.heap.get? l = some { cls := .type "tuple", dict := dd, data := .seq its n, slots := sl } ∧ R (.ok (.ret (.ref l))) s) :=
  .of_wp fun prog w A R s h => by
    obtain ⟨hp, g, d, tk, os⟩ := s
    obtain ⟨hl, h⟩ := h
    have f1 := AutoSeq1.idx_int
    wp_walk using wpAny_loadPart' hl
    repeat (first
      | (refine wpAny_ite_false (decide_eq_false (by decide)) ?_; wp_walk using wpAny_loadPart' hl)
      | (refine wpAny_ite_true (decide_eq_true (by simp)) ?_; wp_walk using wpAny_loadPart' hl))
    exact ⟨_, rfl, h⟩
def rOnce (K : PySem.W.Frag) : R2 := fun x y H Q => ∃ l xs, x = .ref l ∧ y = .int 1 ∧ SqT K H l xs ∧ Q (.ref l) H
theorem op_once {X : Cx} : OpR X (binaryOp .Mult) (rOnce X.K) := by
  intro pins s σ H x y v u Q I rx ry h
  obtain ⟨l, xs, rfl, rfl, hT, q⟩ := h
  cases rx
  obtain ⟨t, rfl⟩ := ry
  obtain ⟨its, r, ⟨⟨cls, dd, data, sl⟩, ho, hc, n, hd⟩, hs⟩ := I.tuple hT
  simp only at hc hd
  subst hc hd
  exact wpAny_binaryOp_repeat_ref (T := "tuple") (U := "int") (by decide) ⟨_, ho, rfl⟩ (fun s' => typeIs_int s' 1 t) noFill_tuple_mul F.fills_int_mul F.slot_int_rmul repeat_tuple F.slot_int_index.lookup
    (call_meets F.slot_int_rmul (typeIs_int s 1 t) F.entry_int_rmul (F.args_int_rmul_2 _ _) (int_rmul_tuple 1 t l its.toArray n dd sl)
      ⟨ho, rfl, ⟨_, ho, rfl⟩, call_meets F.slot_tuple_mul ⟨_, ho, rfl⟩ F.entry_tuple_mul (F.args_tuple_mul_2 _ _) (tup_once l its.toArray n dd sl t) ⟨ho, ⟨.ref l, H, I, rfl, q⟩⟩⟩)
def rBX (K : PySem.W.Frag) (op : BOp) : R2 := fun x y H Q => rB K op x y H Q ∨ (op = .mul ∧ rOnce K x y H Q)
theorem op_binX {X : Cx} (op : BOp) : OpR X (binaryOp (bop op)) (rBX X.K op) := by
  intro pins s σ H x y v u Q I rx ry h
  rcases h with h | ⟨rfl, h⟩
  · exact op_bin op pins s σ H x y v u Q I rx ry h
  · exact op_once pins s σ H x y v u Q I rx ry h
section
variable {K : PySem.W.Frag} {M : Nm} {F H : Hp} {es : List Sl} {vs : List (Option V)}
theorem bin_okX {op : BOp} {x y : D} {z : D × Bool} {v w : V} {Q : VK} (st : Sta K M F H es vs) (rx : Rep K M F x v) (ry : Rep K M F y w) (h : biD op x y = some z) (k : Aft K M F es vs z Q) : rBX K op v w H Q := by
  by_cases hm : ∃ l, op = .mul ∧ x = .tup l ∧ y = .int 1
  · obtain ⟨l, rfl, rfl, rfl⟩ := hm
    simp only [biD] at h
    split at h
    · cases h
      have r2 := rx
      obtain ⟨a, us, rfl, h1, z1, r1⟩ := rep_tup rx
      cases rep_int ry
      refine .inr ⟨rfl, a, us, rfl, rfl, same_sqT st.same h1, ?_⟩
      have e : (List.replicate (1 : Int).toNat l).flatten = l := by
        show (List.replicate 1 l).flatten = l
        simp
      rw [e] at k
      exact aft_at st r2 k
    · cases h
  · refine .inl (bin_ok st rx ry h k fun e l j h1 h2 => ?_)
    subst e h1 h2
    simp only [biD] at h
    split at h
    · rename_i hh
      have : ¬ j = 1 := fun e => hm ⟨l, rfl, rfl, by rw [e]⟩
      omega
    · cases h
end
end PL
/-! PLIt: zip and enumerate over lists and tuples in any mix. -/
namespace PL
open PySem PySem.Spec PyProof.Rows L2

/-- the list (false) or the tuple (true) at a -/
def SqA (K : PySem.W.Frag) : Bool → Hp → Addr → List V → Prop
  | false, H, a, xs => SqL K H a xs
  | true, H, a, xs => SqT K H a xs
def ItA : Bool → Heap → Addr → Addr → Nat → Prop
  | false, h, it, a, i => h.IsListIter it a i
  | true, h, it, a, i => h.IsTupleIter it a i
def LiA : Bool → Heap → Addr → Array Value → Prop
  | false, h, a, its => h.IsList a its
  | true, h, a, its => h.IsTuple a its
def obA : Bool → Addr → Obj
  | false, a => { cls := .type "list_iterator", data := .fields #[.ref a, .int 0 0] }
  | true, a => { cls := .type "tuple_iterator", data := .fields #[.ref a, .int 0 0] }
theorem drawsA {prog : Program} {w : World} {A : Around} (hh : A.handled = none) (b : Bool) (it a : Addr) (hne : a ≠ it) (its : Array Value) : Draws prog w A it [it, a] its.size (fun i v => its[i]? = some v) (fun i h => ItA b h it a i ∧ LiA b h a its) := by
  cases b
  · exact Draws.list hh it a hne its
  · exact Draws.tuple hh it a hne its
theorem beginsA (b : Bool) (a : Addr) (its : Array Value) : Begins (.ref a) (obA b a) fun h => LiA b h a its := by
  cases b
  · exact begins_list a its
  · exact begins_tuple a its
theorem itA_new {b : Bool} {h : Heap} {it a : Addr} (e : h.get? it = some (obA b a)) : ItA b h it a 0 := by
  cases b
  · exact ⟨_, e, rfl, rfl⟩
  · exact ⟨_, e, rfl, rfl⟩
theorem itA_obj {b : Bool} {h : Heap} {it a : Addr} {i : Nat} (x : ItA b h it a i) : ∃ o, h.get? it = some o ∧ ∀ v, o.data ≠ .cell v := by
  cases b
  · obtain ⟨o, e, _, d⟩ := x
    exact ⟨o, e, fun v q => by rw [d] at q; cases q⟩
  · obtain ⟨o, e, _, d⟩ := x
    exact ⟨o, e, fun v q => by rw [d] at q; cases q⟩
theorem itA_keep {b : Bool} {h h' : Heap} {it a : Addr} {i : Nat} (x : ItA b h it a i) (k : ∀ o, h.get? it = some o → h'.get? it = some o) : ItA b h' it a i := by
  cases b
  · exact Heap.IsListIter.at x k
  · exact Heap.IsTupleIter.at x k
section
variable {X : Cx} {pins : List (Addr × Obj)} {σ : L2.St} {H : Hp} {s : Shared}
theorem seqA {b : Bool} {a : Addr} {xs : List V} (I : Inv X pins σ H s) (h : SqA X.K b H a xs) : ∃ its : List Value, Vals xs its ∧ LiA b s.heap a its.toArray := by
  cases b
  · obtain ⟨its, r, p, _⟩ := I.list h
    exact ⟨its, r, p.isList⟩
  · obtain ⟨its, r, p, _⟩ := I.tuple h
    exact ⟨its, r, p⟩
theorem seqA_inj {b : Bool} {a : Addr} {xs ys : List V} (I : Inv X pins σ H s) (h : SqA X.K b H a xs) (h' : SqA X.K b H a ys) : xs = ys := by
  cases b
  · exact I.list_inj h h'
  · exact I.tuple_inj h h'
theorem liA_lt {b : Bool} {h : Heap} {a : Addr} {its : Array Value} (x : LiA b h a its) : a < h.objs.size := by
  cases b
  · obtain ⟨o, e, _⟩ := x
    exact Heap.lt_size e
  · obtain ⟨o, e, _⟩ := x
    exact Heap.lt_size e
end

/-- what stands at a and b, pair by pair, each pair new -/
def JZ (K : PySem.W.Frag) (b1 b2 : Bool) (a1 a2 : Addr) : It where
  go := fun i H => ∃ xs ys, SqA K b1 H a1 xs ∧ SqA K b2 H a2 ys ∧ i < min xs.length ys.length
  yld := fun i H v H' => ∃ T x y, v = .ref T ∧ H T = none ∧ H' = upd H T (.tup [x, y]) ∧ (∀ xs, SqA K b1 H a1 xs → xs[i]? = some x) ∧ ∀ ys, SqA K b2 H a2 ys → ys[i]? = some y
  stop := fun i H => ∃ xs ys, SqA K b1 H a1 xs ∧ SqA K b2 H a2 ys ∧ i = min xs.length ys.length
theorem turn_JZ {P : Program} {w : World} {K : PySem.W.Frag} {elts : List Expr} {kk : Nat} {tpos : Pos} {b1 b2 : Bool} {a1 a2 z TI TO i1 i2 : Addr} (S : ZipSep2 z TI TO i1 i2 [i1, a1] [i2, a2]) (n1 : a1 ≠ i1) (n2 : a2 ≠ i2) :
    Turn P w K (.Tuple elts kk tpos) (JZ K b1 b2 a1 a2) [z, TI, TO, i1, i2] z (fun i h => IsZip h z TI TO .none ∧ IsTupOf2 h TI (.ref i1) (.ref i2) ∧ (∃ x y, IsTupOf2 h TO x y) ∧ ItA b1 h i1 a1 i ∧ ItA b2 h i2 a2 i) where
  mem := by simp
  obj := fun i h st c hc => by
    obtain ⟨q1, q2, ⟨x, y, q3⟩, q4, q5⟩ := st
    simp only [List.mem_cons, List.not_mem_nil, or_false] at hc
    rcases hc with rfl | rfl | rfl | rfl | rfl
    · exact ⟨_, q1, fun v q => nomatch q⟩
    · exact ⟨_, q2, fun v q => nomatch q⟩
    · exact ⟨_, q3, fun v q => nomatch q⟩
    · exact itA_obj q4
    · exact itA_obj q5
  keep := fun i h h' st k => by
    obtain ⟨q1, q2, ⟨x, y, q3⟩, q4, q5⟩ := st
    exact ⟨k _ (by simp) _ q1, k _ (by simp) _ q2, ⟨x, y, k _ (by simp) _ q3⟩, itA_keep q4 fun o => k _ (by simp) o, itA_keep q5 fun o => k _ (by simp) o⟩
  item := by
    intro X hP hw hK hc i pins s σ H E I hf st hg
    subst hP hw hK
    obtain ⟨xs, ys, s1, s2, hi⟩ := hg
    obtain ⟨us, r1, l1⟩ := seqA I s1
    obtain ⟨vs, r2, l2⟩ := seqA I s2
    have e1 := r1.length
    have e2 := r2.length
    have hh : X.A.in1.handled = none := I.ok.hd hc
    have G := GoesN.zip2 (prog := X.prog) (w := X.w) (A := X.A) (elts := elts) (x1 := kk) (pos := tpos) S (drawsA hh b1 i1 a1 n1 us.toArray) (drawsA hh b2 i2 a2 n2 vs.toArray)
    refine G.goes i s (fun v s2 => ∃ x H', Inv X pins σ H' s2 ∧ RelV x v ∧ (JZ X.K b1 b2 a1 a2).yld i H x H' ∧ (IsZip s2.heap z TI TO .none ∧ IsTupOf2 s2.heap TI (.ref i1) (.ref i2) ∧ (∃ x y, IsTupOf2 s2.heap TO x y) ∧ ItA b1 s2.heap i1 a1 (i + 1) ∧ ItA b2 s2.heap i2 a2 (i + 1)) ∧ ∀ b ∈ [z, TI, TO, i1, i2], H' b = none) E (by simp only [List.size_toArray]; omega) ⟨st.1, st.2.1, st.2.2.1, ⟨st.2.2.2.1, l1⟩, ⟨st.2.2.2.2, l2⟩⟩ fun v h' tk hY st' hk _ => ?_
    obtain ⟨T, x, y, rfl, hT, hx, hy, ht⟩ := hY
    obtain ⟨t1, t2, t3, ⟨t4, _⟩, ⟨t5, _⟩⟩ := st'
    have lx : i < xs.length := by omega
    have ly : i < ys.length := by omega
    obtain ⟨x', hx', rx⟩ := r1.get (List.getElem?_eq_getElem lx)
    obtain ⟨y', hy', ry⟩ := r2.get (List.getElem?_eq_getElem ly)
    have ex : x' = x := by
      have : us[i]? = some x := by simpa using hx
      rw [hx'] at this
      exact Option.some.inj this
    have ey : y' = y := by
      have : vs[i]? = some y := by simpa using hy
      rw [hy'] at this
      exact Option.some.inj this
    subst ex ey
    have new : ObjOk X.prog X.w (upd H T (.tup [xs[i], ys[i]])) h' T (.tup [xs[i], ys[i]]) := ⟨by show 2 ≤ sizeLine; decide, [x', y'], .cons rx (.cons ry .nil), ht⟩
    refine ⟨.ref T, upd H T (.tup [xs[i], ys[i]]), I.turnedNew (t' := tk) (ch := [z, TO, i1, i2]) hk (fun c hm => hf c (by simp only [List.mem_cons, List.not_mem_nil, or_false] at hm ⊢; rcases hm with q | q | q | q <;> simp [q])) hT new, rfl, ⟨T, _, _, rfl, I.hok.fresh hT, rfl, fun l hl => by rw [seqA_inj I hl s1]; exact List.getElem?_eq_getElem lx, fun l hl => by rw [seqA_inj I hl s2]; exact List.getElem?_eq_getElem ly⟩, ⟨t1, t2, t3, t4, t5⟩, fun c hm => ?_⟩
    have hn := (hf c hm).1
    have hlt : c < s.heap.objs.size := by
      obtain ⟨o, e, _⟩ : ∃ o, s.heap.get? c = some o ∧ ∀ v, o.data ≠ .cell v := by
        obtain ⟨q1, q2, ⟨x, y, q3⟩, q4, q5⟩ := st
        simp only [List.mem_cons, List.not_mem_nil, or_false] at hm
        rcases hm with rfl | rfl | rfl | rfl | rfl
        · exact ⟨_, q1, fun v q => nomatch q⟩
        · exact ⟨_, q2, fun v q => nomatch q⟩
        · exact ⟨_, q3, fun v q => nomatch q⟩
        · exact itA_obj q4
        · exact itA_obj q5
      exact Heap.lt_size e
    rw [upd_ne (Nat.ne_of_lt (Nat.lt_of_lt_of_le hlt hT))]
    exact hn
  done := by
    intro X hP hw hK hc i pins s σ H E I hf st hg
    subst hP hw hK
    obtain ⟨xs, ys, s1, s2, hi⟩ := hg
    obtain ⟨us, r1, l1⟩ := seqA I s1
    obtain ⟨vs, r2, l2⟩ := seqA I s2
    have e1 := r1.length
    have e2 := r2.length
    have hh : X.A.in1.handled = none := I.ok.hd hc
    have G := GoesN.zip2 (prog := X.prog) (w := X.w) (A := X.A) (elts := elts) (x1 := kk) (pos := tpos) S (drawsA hh b1 i1 a1 n1 us.toArray) (drawsA hh b2 i2 a2 n2 vs.toArray)
    have ei : i = min us.toArray.size vs.toArray.size := by simp only [List.size_toArray]; omega
    subst ei
    exact G.stops s (fun s1 => Inv X pins σ H s1) E ⟨st.1, st.2.1, st.2.2.1, ⟨st.2.2.2.1, l1⟩, ⟨st.2.2.2.2, l2⟩⟩ fun h' tk hk _ => I.turnedL (t' := tk) (ch := [z, TO, i1, i2]) hk fun c hm => hf c (by simp only [List.mem_cons, List.not_mem_nil, or_false] at hm ⊢; rcases hm with q | q | q | q <;> simp [q])
  self := fun A i s Q E st h => wpAny_pyIter_zip st.1 h
def iZ (K : PySem.W.Frag) (ta : TA) : TI := fun σ H R => ta σ H fun vs H1 => ∃ b1 b2 a1 a2 xs ys, vs = [.ref a1, .ref a2] ∧ SqA K b1 H1 a1 xs ∧ SqA K b2 H1 a2 ys ∧ R (JZ K b1 b2 a1 a2) H1
theorem pi_Z {X : Cx} {e e2 : Expr} {ta : TA} {p pos tpos : Pos} {elts : List Expr} {kk : Nat} (hg : Gl X "zip") (hm : X.mg "zip" = none) (ha : PA X [e, e2] ta)
    (hs : starEach [e, e2] X.env = (false, eval e X.env) :: starEach [e2] X.env) (hpl : (backTo pos (starEach [e2] X.env)).any (·.1) = false) : PI X (.Tuple elts kk tpos) (.Call (.Name "zip" p) [e, e2] [] pos) (iZ X.K ta) := by
  refine ⟨fun pins s σ H R I h => ?_⟩
  refine Call_ (ld_blt I hg hm PyProof.Rows.boot_zip (PyProof.Rows.callWith_type1 (thn (ha.run pos pins s σ H _ I h) fun us s1 ⟨vs, H1, I1, r1, q1⟩ => ?_) hs hpl))
  obtain ⟨b1, b2, a1, a2, xs, ys, rfl, g1, g2, q⟩ := q1
  cases r1 with
  | cons r rr =>
  cases rr with
  | cons r' rr =>
  cases rr
  cases r
  cases r'
  obtain ⟨us, v1, l1⟩ := seqA I1 g1
  obtain ⟨ws, v2, l2⟩ := seqA I1 g2
  refine zip_begins2 (beginsA b1 a1 us.toArray) (beginsA b2 a2 ws.toArray) l1 l2 fun h' z1 z2 z3 z4 z5 _ k => wpAny_pyIter_zip z1 ?_
  have c1 := liA_lt l1
  have c2 := liA_lt l2
  have S := zip_sep2 (N := s1.heap.objs.size) (fp1 := [a1]) (fp2 := [a2]) (by simpa using c1) (by simpa using c2)
  refine ⟨_, _, _, _, H1, rfl, I1.kept (t' := s1.toks) k, turn_JZ S (Nat.ne_of_lt c1) (Nat.ne_of_lt (Nat.lt_succ_of_lt c2)), ⟨z1, z2, ⟨_, _, z3⟩, itA_new z4, itA_new z5⟩, fun c hm => ?_, q⟩
  have hle : s1.heap.objs.size ≤ c := by
    simp only [List.mem_cons, List.not_mem_nil, or_false] at hm
    rcases hm with rfl | rfl | rfl | rfl | rfl <;> first | exact Nat.le_refl _ | exact Nat.le_add_right _ _
  exact Inv.fpOk I1 hle (I1.hok.fresh hle)

/-! ### enumerate -/
set_option maxHeartbeats 1000000 in
theorem enum_meets {x : Value} {ob : Obj} {St : Heap → Prop} (B : Begins x ob St) :
    Meets (Builtin.«enumerate.__new__» ⟨[.type "enumerate", x], []⟩) (fun _ R s => St s.heap ∧ R (.ok (.ret (.ref (s.heap.push ob).objs.size))) { s with heap := (s.heap.push ob).push { cls := .type "enumerate", data := .fields #[.none, .bool false, .ref s.heap.objs.size, rawInt 0, .none, .none] } }) :=
  .of_wp fun P W Ar R st hyp => by
    obtain ⟨hp, gn, dr, tk, os⟩ := st
    obtain ⟨i1, i2⟩ := hyp
    have isub := sub_enumerate
    have go : ∀ {Ar' : Around} {Er : Value → Shared → Prop} {G : Value → Shared → Prop}, G (.ref hp.objs.size) ⟨hp.push ob, gn, dr, tk, os⟩ → wpAny (model P W) Ar' (pyIter x) G Er ⟨hp, gn, dr, tk, os⟩ := fun g => B.iter P W _ _ ⟨hp, gn, dr, tk, os⟩ _ i1 g
    wp_walk using go
    refine wpAny_stack_any fun _ => wpAny_pure ?_
    split
    · rename_i cl _ _ _ _ _
      cases (cl == Value.type "enumerate") <;> (wp_walk using go; exact ⟨_, rfl, i2⟩)
    · wp_walk using go
      exact ⟨_, rfl, i2⟩
theorem enum_go {prog : Program} {w : World} {A : Around} {E : Value → Shared → Prop} {s : Shared} {x : Value} {ob : Obj} {St : Heap → Prop} {Q : Value → Shared → Prop} (B : Begins x ob St) (i1 : St s.heap)
    (h : ∀ h', IsEnum h' (s.heap.objs.size + 1) s.heap.objs.size 0 .none → h'.get? s.heap.objs.size = some ob → (∀ b o, s.heap.get? b = some o → h'.get? b = some o) → Q (.ref (s.heap.objs.size + 1)) { s with heap := h' }) : wpAny (model prog w) A (call (.type "enumerate") [x]) Q E s := by
  refine callType_new F.called_enumerate (by decide) (F.typeCall_enumerate_1 _) (F.newCall_enumerate_1 _) (fun obj => F.args_object_init_2 obj _) F.entry_enumerate_new (enum_meets B) ⟨i1, ?_⟩
  have z : (s.heap.push ob).objs.size = s.heap.objs.size + 1 := Heap.size_push ..
  generalize heq : (s.heap.push ob).push { cls := .type "enumerate", data := .fields #[.none, .bool false, .ref s.heap.objs.size, rawInt 0, .none, .none] } = g
  have he : IsEnum g (s.heap.objs.size + 1) s.heap.objs.size 0 .none := by
    rw [← heq, ← z]
    exact Heap.get?_push_size _ rfl
  have k : ∀ b o, s.heap.get? b = some o → g.get? b = some o := fun b o e => by
    rw [← heq]
    exact Heap.get?_push_of_some _ (Heap.get?_push_of_some _ e)
  show _ ∧ _
  rw [z]
  refine ⟨⟨_, he, rfl⟩, h g he ?_ k⟩
  rw [← heq]
  exact Heap.get?_push_of_some _ (Heap.get?_push_size _ B.free)
def JE (K : PySem.W.Frag) (b : Bool) (a : Addr) : It where
  go := fun i H => ∃ xs, SqA K b H a xs ∧ i < xs.length
  yld := fun i H v H' => ∃ T y, v = .ref T ∧ H T = none ∧ H' = upd H T (.tup [.int i, y]) ∧ ∀ xs, SqA K b H a xs → xs[i]? = some y
  stop := fun i H => ∃ xs, SqA K b H a xs ∧ i = xs.length
theorem turn_JE {P : Program} {w : World} {K : PySem.W.Frag} {elts : List Expr} {kk : Nat} {tpos : Pos} {b : Bool} {a e it : Addr} (n1 : a ≠ it) (n2 : e ≠ it) (n3 : e ≠ a) :
    Turn P w K (.Tuple elts kk tpos) (JE K b a) [e, it] e (fun i h => (∃ old, IsEnum h e it (0 + (i : Int)) old) ∧ ItA b h it a i) where
  mem := by simp
  obj := fun i h st c hc => by
    obtain ⟨⟨old, q1⟩, q2⟩ := st
    simp only [List.mem_cons, List.not_mem_nil, or_false] at hc
    rcases hc with rfl | rfl
    · exact ⟨_, q1, fun v q => nomatch q⟩
    · exact itA_obj q2
  keep := fun i h h' st k => by
    obtain ⟨⟨old, q1⟩, q2⟩ := st
    exact ⟨⟨old, k _ (by simp) _ q1⟩, itA_keep q2 fun o => k _ (by simp) o⟩
  item := by
    intro X hP hw hK hc i pins s σ H E I hf st hg
    subst hP hw hK
    obtain ⟨xs, s1, hi⟩ := hg
    obtain ⟨us, r1, l1⟩ := seqA I s1
    have e1 := r1.length
    have hh : X.A.in1.handled = none := I.ok.hd hc
    have G := GoesN.enumFrom (prog := X.prog) (w := X.w) (A := X.A) (elts := elts) (x1 := kk) (pos := tpos) 0 (drawsA hh b it a n1 us.toArray) e n2 (by simp [n2, n3]) (by simp)
    refine G.goes i s (fun v s2 => ∃ x H', Inv X pins σ H' s2 ∧ RelV x v ∧ (JE X.K b a).yld i H x H' ∧ ((∃ old, IsEnum s2.heap e it (0 + ((i + 1 : Nat) : Int)) old) ∧ ItA b s2.heap it a (i + 1)) ∧ ∀ c ∈ [e, it], H' c = none) E (by simp only [List.size_toArray]; omega) ⟨st.1, st.2, l1⟩ fun v h' tk hY st' hk _ => ?_
    obtain ⟨T, t, x, rfl, hT, hx, ht⟩ := hY
    obtain ⟨t1, t2, _⟩ := st'
    obtain ⟨x', hx', rx⟩ := r1.get (List.getElem?_eq_getElem hi)
    have ex : x' = x := by
      have : us[i]? = some x := by simpa using hx
      rw [hx'] at this
      exact Option.some.inj this
    subst ex
    rw [Int.zero_add] at ht
    have new : ObjOk X.prog X.w (upd H T (.tup [.int i, xs[i]])) h' T (.tup [.int i, xs[i]]) := ⟨by show 2 ≤ sizeLine; decide, [_, x'], .cons ⟨t, rfl⟩ (.cons rx .nil), ht⟩
    refine ⟨.ref T, upd H T (.tup [.int i, xs[i]]), I.turnedNew (t' := tk) (ch := [e, it]) hk hf hT new, rfl, ⟨T, _, rfl, I.hok.fresh hT, rfl, fun l hl => by rw [seqA_inj I hl s1]; exact List.getElem?_eq_getElem hi⟩, ⟨t1, t2⟩, fun c hm => ?_⟩
    have hn := (hf c hm).1
    have hlt : c < s.heap.objs.size := by
      obtain ⟨o, e, _⟩ : ∃ o, s.heap.get? c = some o ∧ ∀ v, o.data ≠ .cell v := by
        obtain ⟨⟨old, q1⟩, q2⟩ := st
        simp only [List.mem_cons, List.not_mem_nil, or_false] at hm
        rcases hm with rfl | rfl
        · exact ⟨_, q1, fun v q => nomatch q⟩
        · exact itA_obj q2
      exact Heap.lt_size e
    rw [upd_ne (Nat.ne_of_lt (Nat.lt_of_lt_of_le hlt hT))]
    exact hn
  done := by
    intro X hP hw hK hc i pins s σ H E I hf st hg
    subst hP hw hK
    obtain ⟨xs, s1, rfl⟩ := hg
    obtain ⟨us, r1, l1⟩ := seqA I s1
    have e1 := r1.length
    have hh : X.A.in1.handled = none := I.ok.hd hc
    have G := GoesN.enumFrom (prog := X.prog) (w := X.w) (A := X.A) (elts := elts) (x1 := kk) (pos := tpos) 0 (drawsA hh b it a n1 us.toArray) e n2 (by simp [n2, n3]) (by simp)
    have ei : xs.length = us.toArray.size := by simp only [List.size_toArray]; omega
    rw [ei] at st
    exact G.stops s (fun s1 => Inv X pins σ H s1) E ⟨st.1, st.2, l1⟩ fun h' tk hk _ => I.turnedL (t' := tk) (ch := [e, it]) hk hf
  self := fun A i s Q E st h => let ⟨⟨_, q⟩, _⟩ := st; wpAny_pyIter_enum q h
def iE (K : PySem.W.Frag) (ta : TA) : TI := fun σ H R => ta σ H fun vs H1 => ∃ b a xs, vs = [.ref a] ∧ SqA K b H1 a xs ∧ R (JE K b a) H1
theorem pi_E {X : Cx} {e : Expr} {ta : TA} {p pos tpos : Pos} {elts : List Expr} {kk : Nat} (hg : Gl X "enumerate") (hm : X.mg "enumerate" = none) (ha : PA X [e] ta) (hs : starEach [e] X.env = [(false, eval e X.env)]) :
    PI X (.Tuple elts kk tpos) (.Call (.Name "enumerate" p) [e] [] pos) (iE X.K ta) := by
  refine ⟨fun pins s σ H R I h => ?_⟩
  refine Call_ (ld_blt I hg hm boot_enumerate (PyProof.Rows.callWith_type1 (thn (ha.run pos pins s σ H _ I h) fun us s1 ⟨vs, H1, I1, r1, q1⟩ => ?_) hs rfl))
  obtain ⟨b, a, xs, rfl, g1, q⟩ := q1
  cases r1 with
  | cons r rr =>
  cases rr
  cases r
  obtain ⟨us, v1, l1⟩ := seqA I1 g1
  refine enum_go (beginsA b a us.toArray) l1 fun h' z1 z2 k => wpAny_pyIter_enum z1 ?_
  have c1 := liA_lt l1
  refine ⟨_, _, _, _, H1, rfl, I1.kept (t' := s1.toks) k, turn_JE (Nat.ne_of_lt c1) (Nat.succ_ne_self _) (Nat.ne_of_gt (Nat.lt_succ_of_lt c1)), ⟨⟨_, z1⟩, itA_new z2⟩, fun c hm => ?_, q⟩
  have hle : s1.heap.objs.size ≤ c := by
    simp only [List.mem_cons, List.not_mem_nil, or_false] at hm
    rcases hm with rfl | rfl <;> first | exact Nat.le_refl _ | exact Nat.le_add_right _ _
  exact Inv.fpOk I1 hle (I1.hok.fresh hle)
end PL
/-! PLSnd: the small syntax against the text's own; what an expression's reckoning says holds of the machine. -/
namespace PL
open PySem PySem.Spec PyProof.Rows L2

/-- the text's names by numbers -/
structure Ns where
  gN : Nat → Str
  fN : Nat → Str
  cN : Nat → Str
  mN : Nat → Str
  fl : Nat → Str
  fs : List Nat
  gs : List Nat
  cs : List Nat
/-- where the text's defs stand -/
structure Lk where
  fa : Nat → Addr
  fd : Nat → FuncData
  ps : Nat → List Str

def visB (sc : Scope) (x : Str) : Bool :=
  match sc.names.lookup x with
  | some .local => true
  | some .cell => true
  | some .free => true
  | _ => false
def stoB (sc : Scope) (x : Str) : Bool :=
  match sc.names.lookup x with
  | some .local => true
  | some .cell => true
  | _ => false
def glB (sc : Scope) (x : Str) : Bool :=
  match sc.names.lookup x with
  | some .globalImplicit => true
  | _ => false
def nmOk (x : Str) : Bool := !(x == ("__debug__" : Str)) && !(x == ("__classdict__" : Str)) && !(x == ("__name__" : Str))
theorem vis_of {sc : Scope} {x : Str} (h : visB sc x = true) : Vis sc x := by
  unfold visB at h
  unfold Vis
  split at h <;> first | (rename_i e; rw [e]; simp; done) | cases h
theorem loc_of {sc : Scope} {x : Str} (h : stoB sc x = true) : L2.Loc sc x := by
  unfold stoB at h
  unfold L2.Loc
  split at h <;> first | (rename_i e; rw [e]; simp; done) | cases h
theorem gl_of {X : Cx} {x : Str} (h : glB X.env.scope x = true) : Gl X x := by
  unfold glB at h
  unfold Gl PySem.Env.kindOf
  split at h
  · assumption
  · cases h
theorem nmOk_of {x : Str} (h : nmOk x = true) : (x == ("__debug__" : Str)) = false ∧ (x == ("__classdict__" : Str)) = false ∧ x ≠ "__name__" := by
  unfold nmOk at h
  simp only [Bool.and_eq_true, Bool.not_eq_true'] at h
  exact ⟨h.1.1, h.1.2, by simpa using h.2⟩

/-- no star, no set, no slice -/
def plain : Expr → Bool
  | .Starred _ _ => false
  | .Set _ _ _ => false
  | .Slice _ _ _ _ => false
  | .NamedExpr _ _ _ => false
  | .Lambda _ _ _ _ => false
  | .Await _ _ => false
  | .Yield _ _ => false
  | .YieldFrom _ _ => false
  | .GeneratorExp _ _ _ _ => false
  | .SetComp _ _ _ _ => false
  | _ => true
theorem plain_star {e : Expr} {es : List Expr} {env : PySem.Env} (h : plain e = true) : starEach (e :: es) env = (false, eval e env) :: starEach es env := by
  cases e <;> first | rfl | (simp [plain] at h; done)
theorem plain_marks {op : CmpOp} {e : Expr} (h : plain e = true) : behindInMarks op e = false := by
  cases e <;> first | rfl | (simp [plain] at h; done)
theorem plain_ix {e : Expr} (h : plain e = true) : PlainIx e := by
  intro o i
  cases e <;> first | rfl | (simp [plain] at h; done)
theorem stars_none {es : List Expr} {env : PySem.Env} {pos : Pos} (h : es.all plain = true) : (backTo pos (starEach es env)).any (·.1) = false := by
  induction es with
  | nil => rfl
  | cons e r ih =>
    simp only [List.all_cons, Bool.and_eq_true] at h
    rw [plain_star h.1]
    show (false || (backTo pos (starEach r env)).any (·.1)) = false
    rw [ih h.2] <;> rfl

def mC : D → Const → Bool
  | .non, .none => true
  | .bl b, .bool c => b == c
  | .int i, .int j => decide (i = j)
  | .str s, .str t => decide (s = t)
  | _, _ => false
def tyN : Ty → Str
  | .int => "int" | .bool => "bool" | .str => "str" | .tuple => "tuple" | .list => "list"
def mTy (sc : Scope) : List Ty → List Expr → Bool
  | [], [] => true
  | t :: ts, .Name x _ :: es => decide (x = tyN t) && glB sc x && mTy sc ts es
  | _, _ => false

/-- a, b, .. stored as they are -/
def nmT (N : List Str) (so : Scope) : List Nat → List Expr → Bool
  | [], [] => true
  | i :: is, .Name x _ :: r => decide (N[i]? = some x) && stoB so x && nmT N so is r
  | _, _ => false
def mT (N : List Str) (so : Scope) : Tg → Expr → Bool
  | .one i, .Name x _ => decide (N[i]? = some x) && stoB so x
  | .many is, .Tuple ts _ _ => nmT N so is ts
  | _, _ => false
/-- a comprehension's own names, by their places -/
def ownT (N : List Str) (is : List Nat) : List (Str × Nat) := is.map fun i => (N.getD i "", i)
def plainT : Expr → Bool
  | .Name _ _ => true
  | .Call _ _ _ _ => true
  | .Subscript _ _ _ => true
  | .Attribute _ _ _ => true
  | _ => false
def tOk (pe : Expr) : Bool := plainT pe || match pe with | .Compare _ _ _ _ => true | .BoolOp _ _ _ => true | .UnaryOp .Not _ _ => true | _ => false
/-- a receiver that is no super() -/
def bsOk : Expr → Bool
  | .Name _ _ => true
  | .Constant _ _ _ => true
  | _ => false
theorem bsOk_of {e : Expr} {env : PySem.Env} (h : bsOk e = true) (nm : Str) : attributeBase e nm env (eval e env) = eval e env := by
  cases e <;> first | rfl | (simp [bsOk] at h; done)
section
variable (T : Ns) (N : List Str)
mutual
def mE (sc : Scope) : E → Expr → Bool
  | .var i, e => plain e && match e with | .Name x _ => decide (N[i]? = some x) && visB sc x && nmOk x | _ => false
  | .cst d, e => plain e && match e with | .Constant c _ _ => mC d c | _ => false
  | .glb g, e => plain e && match e with | .Name x _ => decide (T.gN g = x) && glB sc x && nmOk x && T.gs.contains g | _ => false
  | .bin op a b, e => plain e && match e with | .BinOp x o y _ => decide (o = bop op) && mE sc a x && mE sc b y | _ => false
  | .neg a, e => plain e && match e with | .UnaryOp .USub x _ => mE sc a x | _ => false
  | .cmp op a b, e => plain e && match e with | .Compare x [o] [y] _ => decide (o = cop op) && mE sc a x && mE sc b y | _ => false
  | .cmpv op v b, e => plain e && match e with | .Compare (.Name x _) [o] [y] _ => decide (o = cop op) && decide (N[v]? = some x) && visB sc x && nmOk x && mE sc b y | _ => false
  | .chn o p a b c, e => plain e && match e with | .Compare x [o', p'] [y, z] _ => decide (o' = cop o) && decide (p' = cop p) && mE sc a x && mE sc b y && mE sc c z | _ => false
  | .and a b, e => plain e && match e with
      | .BoolOp .And [x, y] _ => (mE sc a x && mE sc b y) && (tOk x && tOk y)
      | .BoolOp .And (x :: y :: z :: r) pos => (mE sc a x && (mE sc b (.BoolOp .And (y :: z :: r) pos))) && tOk x
      | _ => false
  | .or a b, e => plain e && match e with
      | .BoolOp .Or [x, y] _ => (mE sc a x && mE sc b y) && (tOk x && tOk y)
      | .BoolOp .Or (x :: y :: z :: r) pos => (mE sc a x && (mE sc b (.BoolOp .Or (y :: z :: r) pos))) && tOk x
      | _ => false
  | .not a, e => plain e && match e with | .UnaryOp .Not x _ => mE sc a x && tOk x | _ => false
  | .ifx c a b, e => plain e && match e with | .IfExp z x y _ => mE sc c z && mE sc a x && mE sc b y && tOk z | _ => false
  | .tup es, e => plain e && match e with | .Tuple xs _ _ => mEs sc es xs | _ => false
  | .lst es, e => plain e && match e with | .List xs _ => mEs sc es xs | _ => false
  | .idx a i, e => plain e && match e with | .Subscript x y _ => mE sc a x && mE sc i y | _ => false
  | .idxv v i, e => plain e && match e with | .Subscript (.Name x _) y _ => decide (N[v]? = some x) && visB sc x && nmOk x && mE sc i y | _ => false
  | .slc a lo hi, e => plain e && match e with | .Subscript x (.Slice l h none _) _ => mE sc a x && mO sc lo l && mO sc hi h | _ => false
  | .isI a ts, e => plain e && match e with
      | .Call (.Name f _) [x, .Tuple ys _ _] [] _ => decide (f = "isinstance") && glB sc f && mE sc a x && mTy sc ts ys && decide (ts.length ≤ 8)
      | .Call (.Name f _) [x, y] [] _ => decide (f = "isinstance") && glB sc f && mE sc a x && mTy sc ts [y]
      | _ => false
  | .bi b es, e => plain e && match e with | .Call (.Name f _) (x :: xs) [] _ => decide (f = nmBi b) && okBi b && glB sc f && mEs sc es (x :: xs) | _ => false
  | .bm m o a, e => plain e && match e with | .Call (.Attribute x nm ap) [y] [] cp => decide (nm = nmBm m) && okBm m && (ap.endLine == cp.line) && bsOk x && mE sc o x && mE sc a y | _ => false
  | .fn f es, e => plain e && match e with | .Call (.Name g _) xs [] _ => decide (g = T.fN f) && glB sc g && nmOk g && T.fs.contains f && mEs sc es xs | _ => false
  | .lc it tg c body, e => plain e && match e with
      | .ListComp el [⟨t, x, ifs, ab⟩] scope _ => (decide (ab = 0) && mI sc it t x) && (blkC N sc scope (ownT N tg.ixs) && decide tg.ixs.Nodup) && mT N scope tg t && mIf (relS scope sc) c ifs && mE (relS scope sc) body el
      | _ => false
  | .fnv f v es, e => plain e && match e with | .Call (.Name g _) (.Name x _ :: xs) [] _ => decide (g = T.fN f) && glB sc g && nmOk g && T.fs.contains f && decide (N[v]? = some x) && visB sc x && nmOk x && mEs sc es xs | _ => false
  | _, _ => false
def mEs (sc : Scope) : Es → List Expr → Bool
  | .nil, l => match l with | [] => true | _ => false
  | .cons a r, l => match l with | x :: xs => mE sc a x && mEs sc r xs | _ => false
def mO (sc : Scope) : O → Option Expr → Bool
  | .none, l => match l with | none => true | _ => false
  | .some a, l => match l with | some x => mE sc a x | _ => false
def mIf (sc : Scope) : O → List Expr → Bool
  | .none, l => match l with | [] => true | _ => false
  | .some a, l => match l with | [x] => mE sc a x && tOk x | _ => false
def mI (sc : Scope) : Src → Expr → Expr → Bool
  | .rng1 e, _, x => (match x with | .Call (.Name f _) [a] [] _ => decide (f = "range") && glB sc f && mE sc e a | _ => false)
  | .rng2 e e', _, x => (match x with | .Call (.Name f _) [a, b] [] _ => decide (f = "range") && glB sc f && mE sc e a && mE sc e' b | _ => false)
  | .seq e, _, x => mE sc e x
  | .enm e, t, x => (match t, x with | .Tuple _ _ _, .Call (.Name f _) [a] [] _ => decide (f = "enumerate") && glB sc f && mE sc e a | _, _ => false)
  | .zip e e', t, x => (match t, x with | .Tuple _ _ _, .Call (.Name f _) [a, b] [] _ => decide (f = "zip") && glB sc f && mE sc e a && mE sc e' b | _, _ => false)
  | _, _, _ => false
end
theorem mE_plain {sc : Scope} {e : E} {pe : Expr} (h : mE T N sc e pe = true) : plain pe = true := by
  cases e <;> first | (simp only [mE, Bool.and_eq_true] at h; exact h.1) | (simp [mE] at h; done)
theorem mI_plain {sc : Scope} {e : PL.Src} {t pe : Expr} (h : mI T N sc e t pe = true) : plain pe = true := by
  cases e <;> simp only [mI] at h <;> first | exact mE_plain T N h | (split at h <;> first | rfl | cases h) | cases h
theorem mEs_plain {sc : Scope} : ∀ {e : Es} {pe : List Expr}, mEs T N sc e pe = true → pe.all plain = true
  | .nil, [], _ => rfl
  | .nil, _ :: _, h => by simp [mEs] at h
  | .cons a r, [], h => by simp [mEs] at h
  | .cons a r, x :: xs, h => by
    simp only [mEs, Bool.and_eq_true] at h
    simp only [List.all_cons, Bool.and_eq_true]
    exact ⟨mE_plain T N h.1, mEs_plain h.2⟩
end

/-! ### what holds of the text's top -/
structure Top (K : PySem.W.Frag) (mg : Str → Option Value) (M : Nm) (T : Ns) (L : Lk) (Γ : Ctx) : Prop where
  fl : M.fl = T.fl
  glb : ∀ g ∈ T.gs, ∀ d, Γ.glb g = some d → ∃ u v, mg (T.gN g) = some u ∧ RelV v u ∧ ∀ F, Rep K M F d v
  bi : ∀ b, okBi b = true → mg (nmBi b) = none
  ty : ∀ t, mg (tyN t) = none
  isi : mg "isinstance" = none
  rng : mg "range" = none
  enu : mg "enumerate" = none
  zip : mg "zip" = none
  fn : ∀ f ∈ T.fs, mg (T.fN f) = some (.ref (L.fa f)) ∧ PySem.W.keepIn K (.ref (L.fa f)) = true ∧ ∃ dvs ds, Binds K (L.fd f) (L.ps f) ds ∧ Vals dvs ds ∧ ∀ F, Reps K M F (Γ.dfl f) dvs
/-- a def's promise, by its reckoning -/
def spF (K : PySem.W.Frag) (M : Nm) (call : Nat → List (D × Bool) → CRes) (f np : Nat) : Sp := fun vs H Q _ => vs.length = np ∧ ∃ F ext xv args, ext.length = xv.length ∧ args.length = np ∧ Sta K M F H (ext ++ args.map some) (xv ++ vs.map some) ∧
  match call f args with
  | .ret r none => ∀ v F' H', Same F F' → Sta K M F' H' (some r :: ext) (some v :: xv) → Q v H'
  | .ret r (some d) => (∃ d0 rr, args = (d0, true) :: rr) ∧ ∀ v F' H', Same F F' → Sta K M F' H' (some r :: some (d, true) :: ext) (some v :: vs.head? :: xv) → Q v H'
  | _ => False
structure XC (X : Cx) (M : Nm) (T : Ns) (L : Lk) (Γ : Ctx) (call : Nat → List (D × Bool) → CRes) (N : List Str) (sc so : Scope) (k : Nat) : Prop where
  hN : X.N = N
  nd : N.Nodup
  scp : X.env.scope = sc
  kind : sc.kind = .function
  sto : ∀ x, stoB so x = true → L2.Loc X.env.scope x ∧ (X.fn x = true ∨ X.env.scope.names.lookup x = some .local)
  calm : X.calm = true
  nox : X.xe = fun _ _ => False
  room : Room (k + 1) X.A
  top : Top X.K X.mg M T L Γ
  ar : ∀ f ∈ T.fs, ∀ args, call f args ≠ .err → args.length = (L.ps f).length
  fns : ∀ f ∈ T.fs, FnOk X.prog X.w X.K X.mg X.base CX0 k (L.fa f) (L.fd f) (L.ps f) (spF X.K M call f (L.ps f).length)

section
variable {X : Cx} {M : Nm} {T : Ns} {L : Lk} {Γ : Ctx} {call : Nat → List (D × Bool) → CRes} {N : List Str} {sc so : Scope} {k : Nat}

theorem sta_ix {K : PySem.W.Frag} {F H : Hp} {ext : List Sl} {xv : List (Option V)} {σ : L2.St} {env : PL.Fm} {i : Nat} {d : D} {o : Bool} (st : Sta K M F H (ext ++ env) (xv ++ σ)) (hl : ext.length = xv.length) (e : env[i]? = some (some (d, o))) :
    ∃ v fp, σ[i]? = some (some v) ∧ RepO K M F H d o v fp := by
  have e2 : (ext ++ env)[ext.length + i]? = some (some (d, o)) := by
    rw [List.getElem?_append_right (Nat.le_add_right _ _), Nat.add_sub_cancel_left]
    exact e
  obtain ⟨v, fp, a, b⟩ := st.at e2
  rw [List.getElem?_append_right (by omega)] at a
  refine ⟨v, fp, ?_, b⟩
  rw [← a]
  congr 1
  omega
theorem sta_settle {K : PySem.W.Frag} {F H : Hp} {ext : List Sl} {xv : List (Option V)} {σ : L2.St} {env : PL.Fm} {i : Nat} {d : D} {o : Bool} (st : Sta K M F H (ext ++ env) (xv ++ σ)) (hl : ext.length = xv.length) (e : env[i]? = some (some (d, o))) :
    ∃ F' v, Same F F' ∧ σ[i]? = some (some v) ∧ Rep K M F' d v ∧ Sta K M F' H (ext ++ env.set i (some (d, false))) (xv ++ σ) := by
  have e2 : (ext ++ env)[ext.length + i]? = some (some (d, o)) := by
    rw [List.getElem?_append_right (Nat.le_add_right _ _), Nat.add_sub_cancel_left]
    exact e
  obtain ⟨F', v, s, a, b, c⟩ := st.settleAt e2
  rw [List.getElem?_append_right (by omega)] at a
  rw [List.set_append_right _ _ (Nat.le_add_right _ _), Nat.add_sub_cancel_left] at c
  refine ⟨F', v, s, ?_, b, c⟩
  rw [← a]
  congr 1
  omega

theorem s_var (C : XC X M T L Γ call N sc so k) {i : Nat} {x : Str} {pos : Pos} (h1 : N[i]? = some x) (h2 : visB sc x = true) (h3 : nmOk x = true) : PE X (.Name x pos) ((TEv X.K M Γ call) (.var i)) := by
  obtain ⟨n1, n2, _⟩ := nmOk_of h3
  refine (pe_var (X := X) (i := i) (by rw [C.hN]; exact h1) (by rw [C.scp]; exact vis_of h2) n1 n2).imp fun σ H Q h => ?_
  obtain ⟨F, ext, xv, env, st, hl, post⟩ := h
  simp only [ev] at post
  split at post
  · rename_i d o e
    cases o with
    | false =>
      obtain ⟨v, fp, a, b⟩ := sta_ix st hl e
      cases b with
      | fz b => exact ⟨v, a, post v F H (Same.refl F) (st.push b)⟩
    | true =>
      obtain ⟨F', v, s, a, b, c⟩ := sta_settle st hl e
      exact ⟨v, a, post v F' H s (c.push b)⟩
  · exact post.elim
theorem s_cst {d : D} {c : Const} {j : Nat} {pos : Pos} (h : mC d c = true) : PE X (.Constant c j pos) ((TEv X.K M Γ call) (.cst d)) := by
  have go : ∀ {v : V}, (∀ F, Rep X.K M F d v) → ∀ σ H Q, (TEv X.K M Γ call) (.cst d) σ H Q → tC v σ H Q := fun {v} r σ H Q h => by
    obtain ⟨F, ext, xv, env, st, hl, post⟩ := h
    simp only [ev] at post
    exact post v F H (Same.refl F) (st.push (r F))
  cases d <;> cases c <;> simp only [mC, reduceCtorEq, Bool.false_eq_true] at h
  · exact pe_non.imp (go fun F => .non)
  · rename_i a b
    have e : a = b := by simpa using h
    subst e
    exact pe_bl.imp (go fun F => .bl _)
  · have e := of_decide_eq_true h
    subst e
    exact pe_int.imp (go fun F => .int _)
  · have e := of_decide_eq_true h
    subst e
    exact pe_str.imp (go fun F => .str _)
theorem s_glb (C : XC X M T L Γ call N sc so k) {g : Nat} {pos : Pos} (h2 : glB sc (T.gN g) = true) (h3 : nmOk (T.gN g) = true) (h4 : g ∈ T.gs) : PE X (.Name (T.gN g) pos) ((TEv X.K M Γ call) (.glb g)) := by
  obtain ⟨n1, n2, _⟩ := nmOk_of h3
  cases e : Γ.glb g with
  | none =>
    refine ⟨fun pins s σ H Q I h => ?_⟩
    obtain ⟨F, ext, xv, env, st, hl, post⟩ := h
    simp only [ev, e] at post
    exact post.elim
  | some d =>
    obtain ⟨u, v, hu, r, hr⟩ := C.top.glb g h4 d e
    refine (pe_glob (gl_of (by rw [C.scp]; exact h2)) hu r n1).imp fun σ H Q h => ?_
    obtain ⟨F, ext, xv, env, st, hl, post⟩ := h
    simp only [ev, e] at post
    exact post v F H (Same.refl F) (st.push (hr F))
theorem s_bin (C : XC X M T L Γ call N sc so k) {op : BOp} {a b : E} {x y : Expr} {pos : Pos} (ha : PE X x ((TEv X.K M Γ call) a)) (hb : PE X y ((TEv X.K M Γ call) b)) : PE X (.BinOp x (bop op) y pos) ((TEv X.K M Γ call) (.bin op a b)) := by
  refine (pe_op (op_binX op) ha hb).imp fun σ H Q h => ?_
  obtain ⟨F, ext, xv, env, st, hl, post⟩ := h
  simp only [ev] at post
  obtain ⟨p, e1, h1, post⟩ := post_bind post
  obtain ⟨q, e2, h2, post⟩ := post_bind post
  obtain ⟨z, h3, post⟩ := post_lift post
  refine T_sub st hl h1 fun v F1 H1 s1 r1 st1 => T_sub st1 hl h2 fun w F2 H2 s2 r2 st2 => ?_
  exact bin_okX st2 (r1.mono s2) r2 h3 fun u F3 H3 s3 st3 => post u F3 H3 ((s1.trans s2).trans s3) st3
theorem s_neg (C : XC X M T L Γ call N sc so k) {a : E} {x : Expr} {pos : Pos} (ha : PE X x ((TEv X.K M Γ call) a)) : PE X (.UnaryOp .USub x pos) ((TEv X.K M Γ call) (.neg a)) := by
  refine (pe_un un_neg ha).imp fun σ H Q h => ?_
  obtain ⟨F, ext, xv, env, st, hl, post⟩ := h
  simp only [ev] at post
  obtain ⟨p, e1, h1, post⟩ := post_bind post
  refine T_sub st hl h1 fun v F1 H1 s1 r1 st1 => ?_
  obtain ⟨d, o⟩ := p
  cases d <;> simp only at post r1 <;> try exact post.elim
  cases rep_int r1
  exact ⟨_, rfl, post _ F1 H1 s1 (st1.push (.int _))⟩
theorem cline (C : XC X M T L Γ call N sc so k) : X.A.units + 65 < cLine := by
  have h := C.room.un
  omega
end
end PL
/-! PLSnd2: comparisons, tests, displays, subscripts. -/
namespace PL
open PySem PySem.Spec PyProof.Rows L2
theorem cmD_nodic {op : COp} {x y : D} {b : Bool} (h : cmD op x y = some b) : isDic y = false := by
  cases y <;> first | rfl | skip
  cases op <;> cases x <;> simp [cmD, Dpk] at h
theorem rdv_of {i : Nat} {env : PL.Fm} {d : D} (h : rdv i env = some d) : (∃ o, env[i]? = some (some (d, o))) ∧ ∀ c fs vs, d ≠ .ins c fs vs := by
  unfold rdv at h
  split at h
  · cases h
  · rename_i d' o hn e
    cases h
    exact ⟨⟨o, e⟩, fun c fs vs q => hn c fs vs q⟩
  · cases h
section
variable {K : PySem.W.Frag} {M : Nm} {F H : Hp} {ext : List Sl} {xv : List (Option V)} {σ : L2.St} {env : PL.Fm}
theorem rdv_at {i : Nat} {d : D} (st : Sta K M F H (ext ++ env) (xv ++ σ)) (hl : ext.length = xv.length) (h : rdv i env = some d) : ∃ v, σ[i]? = some (some v) ∧ Pk K M F H d v := by
  obtain ⟨⟨o, e⟩, hi⟩ := rdv_of h
  obtain ⟨v, fp, a, b⟩ := sta_ix st hl e
  exact ⟨v, a, pk_of b hi⟩
end
theorem lift_of {α β : Type} {o : Option α} {f : α → β} {z : β} {e e' : PL.Fm} (h : (Res.lift (o.map f) e) = .ok z e') : ∃ a, o = some a ∧ z = f a ∧ e' = e := by
  cases o with
  | none => cases h
  | some a =>
    cases h
    exact ⟨a, rfl, rfl, rfl⟩
theorem lift_ok {α : Type} {o : Option α} {a : α} {e e' : PL.Fm} (h : Res.lift o e = .ok a e') : o = some a ∧ e' = e := by
  cases o with
  | none => cases h
  | some a =>
    cases h
    exact ⟨rfl, rfl⟩
section
variable {X : Cx} {M : Nm} {T : Ns} {L : Lk} {Γ : Ctx} {call : Nat → List (D × Bool) → CRes} {N : List Str} {sc so : Scope} {k : Nat}

/-- what a comparison of two parts asks -/
theorem cmp_in {op : COp} {a b : E} {σ : L2.St} {H : Hp} {Q : VK} (h : (TEv X.K M Γ call) (.cmp op a b) σ H Q) : tOp (rC X.K op) ((TEv X.K M Γ call) a) ((TEv X.K M Γ call) b) σ H Q := by
  obtain ⟨F, ext, xv, env, st, hl, post⟩ := h
  simp only [ev] at post
  obtain ⟨p, e1, h1, post⟩ := post_bind post
  obtain ⟨q, e2, h2, post⟩ := post_bind post
  obtain ⟨z, h3, post⟩ := post_lift post
  cases h4 : cmD op p.1 q.1 with
  | none =>
    rw [h4] at h3
    cases h3
  | some c =>
    rw [h4] at h3
    cases h3
    refine T_sub st hl h1 fun v F1 H1 s1 r1 st1 => T_sub st1 hl h2 fun w F2 H2 s2 r2 st2 => ?_
    exact cmp_ok st2.same (.rep (r1.mono s2)) r2 h4 (cmD_nodic h4) (post _ F2 H2 (s1.trans s2) (st2.push (.bl _)))
theorem cmpv_in {op : COp} {i : Nat} {b : E} {σ : L2.St} {H : Hp} {Q : VK} (h : (TEv X.K M Γ call) (.cmpv op i b) σ H Q) : tOp (rC X.K op) (tVar i) ((TEv X.K M Γ call) b) σ H Q := by
  obtain ⟨F, ext, xv, env, st, hl, post⟩ := h
  simp only [ev] at post
  obtain ⟨d0, e1, h1, post1⟩ := post_bind post
  obtain ⟨h1, rfl⟩ := lift_ok h1
  obtain ⟨v, hv, _⟩ := rdv_at st hl h1
  obtain ⟨q, e2, h2, post⟩ := post_bind post1
  obtain ⟨z, h3, post⟩ := post_lift post
  cases h5 : rdv i e2 with
  | none =>
    rw [h5] at h3
    cases h3
  | some d =>
    rw [h5] at h3
    simp only [Option.bind_some] at h3
    cases h4 : cmD op d q.1 with
    | none =>
      rw [h4] at h3
      cases h3
    | some c =>
      rw [h4] at h3
      cases h3
      refine ⟨v, hv, T_sub st hl h2 fun w F2 H2 s2 r2 st2 => ?_⟩
      obtain ⟨v', hv', pk⟩ := rdv_at st2 hl h5
      rw [hv] at hv'
      cases hv'
      exact cmp_ok st2.same pk r2 h4 (cmD_nodic h4) (post _ F2 H2 s2 (st2.push (.bl _)))
theorem s_cmp (C : XC X M T L Γ call N sc so k) {op : COp} {a b : E} {x y : Expr} {pos : Pos} (ha : PE X x ((TEv X.K M Γ call) a)) (hb : PE X y ((TEv X.K M Γ call) b)) (hp : plain y = true) : PE X (.Compare x [cop op] [y] pos) ((TEv X.K M Γ call) (.cmp op a b)) :=
  (pe_cmpR (op_cop (cline C) op) ha hb (plain_marks hp)).imp fun _ _ _ h => cmp_in h
theorem s_pv (C : XC X M T L Γ call N sc so k) {i : Nat} {x : Str} {pos : Pos} (h1 : N[i]? = some x) (h2 : visB sc x = true) (h3 : nmOk x = true) : PE X (.Name x pos) (tVar i) := by
  obtain ⟨n1, n2, _⟩ := nmOk_of h3
  exact pe_var (X := X) (i := i) (by rw [C.hN]; exact h1) (by rw [C.scp]; exact vis_of h2) n1 n2
theorem s_cmpv (C : XC X M T L Γ call N sc so k) {op : COp} {i : Nat} {b : E} {x : Str} {y : Expr} {p pos : Pos} (h1 : N[i]? = some x) (h2 : visB sc x = true) (h3 : nmOk x = true) (hb : PE X y ((TEv X.K M Γ call) b)) (hp : plain y = true) :
    PE X (.Compare (.Name x p) [cop op] [y] pos) ((TEv X.K M Γ call) (.cmpv op i b)) :=
  (pe_cmpR (op_cop (cline C) op) (s_pv C h1 h2 h3) hb (plain_marks hp)).imp fun _ _ _ h => cmpv_in h
/-- as tests -/
theorem test_of {e : E} {σ : L2.St} {H : Hp} {Q : Bool → Hp → Prop} (h : (TTt X.K M Γ call) e σ H Q) : (TEv X.K M Γ call) e σ H fun x H' => ∃ k, x = .bl k ∧ Q k H' := by
  obtain ⟨F, ext, xv, env, st, hl, post⟩ := h
  refine ⟨F, ext, xv, env, st, hl, ?_⟩
  unfold PostT at post
  split at post
  · rename_i b o e' he
    rw [he]
    intro v F' H' s st'
    obtain ⟨fp, r⟩ := st'.head
    have : v = .bl b := by
      cases r with
      | fz r => exact rep_bl r
    subst this
    exact ⟨b, rfl, post F' H' s st'.drop⟩
  · exact post.elim
theorem t_cmp (C : XC X M T L Γ call N sc so k) {op : COp} {a b : E} {x y : Expr} {pos : Pos} (ha : PE X x ((TEv X.K M Γ call) a)) (hb : PE X y ((TEv X.K M Γ call) b)) (hp : plain y = true) : PT X (.Compare x [cop op] [y] pos) ((TTt X.K M Γ call) (.cmp op a b)) :=
  (pt_cmpR (op_cop (cline C) op) ha hb (plain_marks hp)).imp fun _ _ _ h => cmp_in (test_of h)
theorem t_cmpv (C : XC X M T L Γ call N sc so k) {op : COp} {i : Nat} {b : E} {x : Str} {y : Expr} {p pos : Pos} (h1 : N[i]? = some x) (h2 : visB sc x = true) (h3 : nmOk x = true) (hb : PE X y ((TEv X.K M Γ call) b)) (hp : plain y = true) :
    PT X (.Compare (.Name x p) [cop op] [y] pos) ((TTt X.K M Γ call) (.cmpv op i b)) :=
  (pt_cmpR (op_cop (cline C) op) (s_pv C h1 h2 h3) hb (plain_marks hp)).imp fun _ _ _ h => cmpv_in (test_of h)
theorem t_val {e : E} {x : Expr} (ha : PE X x ((TEv X.K M Γ call) e)) (he : ∀ whole, isTrue x X.env whole = (do let v ← whole; standAt x.pos; holding [v] (truthy v))) : PT X x ((TTt X.K M Γ call) e) :=
  (pt_val ha he).imp fun _ _ _ h => test_of h

theorem chn_in {o p : COp} {a b c : E} {σ : L2.St} {H : Hp} {Q : VK} (h : (TEv X.K M Γ call) (.chn o p a b c) σ H Q) : tChain (rC X.K o) (rC X.K p) ((TEv X.K M Γ call) a) ((TEv X.K M Γ call) b) ((TEv X.K M Γ call) c) σ H Q := by
  obtain ⟨F, ext, xv, env, st, hl, post⟩ := h
  simp only [ev] at post
  obtain ⟨x, e1, h1, post⟩ := post_bind post
  obtain ⟨y, e2, h2, post⟩ := post_bind post
  refine T_sub st hl h1 fun v F1 H1 s1 r1 st1 => T_sub st1 hl h2 fun w F2 H2 s2 r2 st2 => ?_
  cases h4 : cmD o x.1 y.1 with
  | none =>
    rw [h4] at post
    exact post.elim
  | some t =>
    rw [h4] at post
    refine cmp_ok st2.same (.rep (r1.mono s2)) r2 h4 (cmD_nodic h4) ⟨t, rfl, ?_⟩
    cases t with
    | false =>
      rw [if_neg Bool.false_ne_true]
      exact post _ F2 H2 (s1.trans s2) (st2.push (.bl _))
    | true =>
      rw [if_pos rfl]
      simp only at post
      obtain ⟨z, e3, h5, post⟩ := post_bind post
      obtain ⟨zz, h3, post⟩ := post_lift post
      cases h6 : cmD p y.1 z.1 with
      | none =>
        rw [h6] at h3
        cases h3
      | some t2 =>
        rw [h6] at h3
        cases h3
        refine T_sub st2 hl h5 fun u F3 H3 s3 r3 st3 => ?_
        exact cmp_ok st3.same (.rep (r2.mono s3)) r3 h6 (cmD_nodic h6) (post _ F3 H3 ((s1.trans s2).trans s3) (st3.push (.bl _)))
theorem s_chn (C : XC X M T L Γ call N sc so k) {o p : COp} {a b c : E} {x y z : Expr} {pos : Pos} (ha : PE X x ((TEv X.K M Γ call) a)) (hb : PE X y ((TEv X.K M Γ call) b)) (hc : PE X z ((TEv X.K M Γ call) c)) (hp : plain z = true) :
    PE X (.Compare x [cop o, cop p] [y, z] pos) ((TEv X.K M Γ call) (.chn o p a b c)) :=
  (pe_chain (op_cop (cline C) o) (op_cop (cline C) p) ha hb hc (plain_marks hp)).imp fun _ _ _ h => chn_in h
theorem t_chn (C : XC X M T L Γ call N sc so k) {o p : COp} {a b c : E} {x y z : Expr} {pos : Pos} (ha : PE X x ((TEv X.K M Γ call) a)) (hb : PE X y ((TEv X.K M Γ call) b)) (hc : PE X z ((TEv X.K M Γ call) c)) (hp : plain z = true) :
    PT X (.Compare x [cop o, cop p] [y, z] pos) ((TTt X.K M Γ call) (.chn o p a b c)) :=
  (pt_chain (op_cop (cline C) o) (op_cop (cline C) p) ha hb hc (plain_marks hp)).imp fun _ _ _ h => chn_in (test_of h)

/-- from a later state of what is settled -/
theorem postT_mono {K : PySem.W.Frag} {F F1 : Hp} {ext : List Sl} {xv : List (Option V)} {σ : L2.St} {r : Res (D × Bool)} {Q : Bool → Hp → Prop} (s : Same F F1) (h : PostT K M F ext xv σ r Q) : PostT K M F1 ext xv σ r Q := by
  unfold PostT at h ⊢
  split at h
  · exact fun F' H' s' st' => h F' H' (s.trans s') st'
  · exact h.elim
theorem postE_mono {K : PySem.W.Frag} {F F1 : Hp} {ext : List Sl} {xv : List (Option V)} {σ : L2.St} {r : Res (D × Bool)} {Q : VK} (s : Same F F1) (h : PostE K M F ext xv σ r Q) : PostE K M F1 ext xv σ r Q := by
  unfold PostE at h ⊢
  split at h
  · exact fun v F' H' s' st' => h v F' H' (s.trans s') st'
  · exact h.elim
/-! ### and, or, not, if .. else -/
theorem and_in {a b : E} {σ : L2.St} {H : Hp} {Q : VK} (h : (TEv X.K M Γ call) (.and a b) σ H Q) : tAndV ((TEv X.K M Γ call) a) ((TEv X.K M Γ call) b) σ H Q := by
  obtain ⟨F, ext, xv, env, st, hl, post⟩ := h
  simp only [ev] at post
  obtain ⟨x, e1, h1, post⟩ := post_bind post
  refine T_sub st hl h1 fun v F1 H1 s1 r1 st1 => ?_
  obtain ⟨d, o⟩ := x
  cases d <;> simp only at post r1 <;> try exact post.elim
  rename_i c
  cases rep_bl r1
  refine ⟨c, rfl, ?_⟩
  cases c with
  | false =>
    rw [if_neg Bool.false_ne_true]
    exact post _ F1 H1 s1 (st1.push (.bl _))
  | true =>
    rw [if_pos rfl]
    exact ⟨F1, ext, xv, e1, st1, hl, postE_mono s1 post⟩
theorem or_in {a b : E} {σ : L2.St} {H : Hp} {Q : VK} (h : (TEv X.K M Γ call) (.or a b) σ H Q) : tOrV ((TEv X.K M Γ call) a) ((TEv X.K M Γ call) b) σ H Q := by
  obtain ⟨F, ext, xv, env, st, hl, post⟩ := h
  simp only [ev] at post
  obtain ⟨x, e1, h1, post⟩ := post_bind post
  refine T_sub st hl h1 fun v F1 H1 s1 r1 st1 => ?_
  obtain ⟨d, o⟩ := x
  cases d <;> simp only at post r1 <;> try exact post.elim
  rename_i c
  cases rep_bl r1
  refine ⟨c, rfl, ?_⟩
  cases c with
  | true =>
    rw [if_pos rfl]
    exact post _ F1 H1 s1 (st1.push (.bl _))
  | false =>
    rw [if_neg Bool.false_ne_true]
    exact ⟨F1, ext, xv, e1, st1, hl, postE_mono s1 post⟩
theorem andT_in {a b : E} {σ : L2.St} {H : Hp} {Q : Bool → Hp → Prop} (h : (TTt X.K M Γ call) (.and a b) σ H Q) : tAnd ((TTt X.K M Γ call) a) ((TTt X.K M Γ call) b) σ H Q := by
  obtain ⟨F, ext, xv, env, st, hl, post⟩ := h
  simp only [ev] at post
  obtain ⟨x, e1, h1, post⟩ := postT_bind post
  obtain ⟨d, o⟩ := x
  cases d <;> simp only at post <;> try exact post.elim
  rename_i c
  refine Tt_sub st hl h1 fun F1 H1 s1 st1 => ?_
  cases c with
  | false =>
    rw [if_neg Bool.false_ne_true]
    exact post F1 H1 s1 st1
  | true =>
    rw [if_pos rfl]
    exact ⟨F1, ext, xv, e1, st1, hl, postT_mono s1 post⟩
theorem orT_in {a b : E} {σ : L2.St} {H : Hp} {Q : Bool → Hp → Prop} (h : (TTt X.K M Γ call) (.or a b) σ H Q) : tOr ((TTt X.K M Γ call) a) ((TTt X.K M Γ call) b) σ H Q := by
  obtain ⟨F, ext, xv, env, st, hl, post⟩ := h
  simp only [ev] at post
  obtain ⟨x, e1, h1, post⟩ := postT_bind post
  obtain ⟨d, o⟩ := x
  cases d <;> simp only at post <;> try exact post.elim
  rename_i c
  refine Tt_sub st hl h1 fun F1 H1 s1 st1 => ?_
  cases c with
  | true =>
    rw [if_pos rfl]
    exact post F1 H1 s1 st1
  | false =>
    rw [if_neg Bool.false_ne_true]
    exact ⟨F1, ext, xv, e1, st1, hl, postT_mono s1 post⟩
theorem not_in {a : E} {σ : L2.St} {H : Hp} {Q : VK} (h : (TEv X.K M Γ call) (.not a) σ H Q) : tNotV ((TEv X.K M Γ call) a) σ H Q := by
  obtain ⟨F, ext, xv, env, st, hl, post⟩ := h
  simp only [ev] at post
  obtain ⟨x, e1, h1, post⟩ := post_bind post
  refine T_sub st hl h1 fun v F1 H1 s1 r1 st1 => ?_
  obtain ⟨d, o⟩ := x
  cases d <;> simp only at post r1 <;> try exact post.elim
  cases rep_bl r1
  exact ⟨_, rfl, post _ F1 H1 s1 (st1.push (.bl _))⟩
theorem notT_in {a : E} {σ : L2.St} {H : Hp} {Q : Bool → Hp → Prop} (h : (TTt X.K M Γ call) (.not a) σ H Q) : tNot ((TTt X.K M Γ call) a) σ H Q := by
  obtain ⟨F, ext, xv, env, st, hl, post⟩ := h
  simp only [ev] at post
  obtain ⟨x, e1, h1, post⟩ := postT_bind post
  obtain ⟨d, o⟩ := x
  cases d <;> simp only at post <;> try exact post.elim
  exact Tt_sub st hl h1 fun F1 H1 s1 st1 => post F1 H1 s1 st1
theorem ifx_in {c a b : E} {σ : L2.St} {H : Hp} {Q : VK} (h : (TEv X.K M Γ call) (.ifx c a b) σ H Q) : tIf ((TTt X.K M Γ call) c) ((TEv X.K M Γ call) a) ((TEv X.K M Γ call) b) σ H Q := by
  obtain ⟨F, ext, xv, env, st, hl, post⟩ := h
  simp only [ev] at post
  obtain ⟨x, e1, h1, post⟩ := post_bind post
  obtain ⟨d, o⟩ := x
  cases d <;> simp only at post <;> try exact post.elim
  rename_i t
  refine Tt_sub st hl h1 fun F1 H1 s1 st1 => ?_
  cases t with
  | true =>
    rw [if_pos rfl]
    exact ⟨F1, ext, xv, e1, st1, hl, postE_mono s1 post⟩
  | false =>
    rw [if_neg Bool.false_ne_true]
    exact ⟨F1, ext, xv, e1, st1, hl, postE_mono s1 post⟩

/-! ### displays, subscripts -/
theorem s_nil : PA X [] ((TEs X.K M Γ call) .nil) := pa_nil.imp fun σ H Q h => by
  obtain ⟨F, ext, xv, env, st, hl, post⟩ := h
  simp only [evs] at post
  exact post [] F H (Same.refl F) .nil st
theorem s_cons {a : E} {r : Es} {x : Expr} {xs : List Expr} (ha : PE X x ((TEv X.K M Γ call) a)) (hr : PA X xs ((TEs X.K M Γ call) r)) (hp : plain x = true) : PA X (x :: xs) ((TEs X.K M Γ call) (.cons a r)) :=
  (pa_cons ha hr (plain_star hp)).imp fun σ H Q h => by
    obtain ⟨F, ext, xv, env, st, hl, post⟩ := h
    simp only [evs] at post
    obtain ⟨p, e1, h1, post⟩ := postA_bind post
    obtain ⟨ds, e2, h2, post⟩ := postA_bind post
    refine T_sub st hl h1 fun v F1 H1 s1 r1 st1 => Ts_sub st1 hl h2 fun vs F2 H2 s2 r2 st2 => ?_
    exact post _ F2 H2 (s1.trans s2) (.cons (r1.mono s2) r2) st2
theorem s_tup {es : Es} {xs : List Expr} {j : Nat} {pos : Pos} (h : PA X xs ((TEs X.K M Γ call) es)) : PE X (.Tuple xs j pos) ((TEv X.K M Γ call) (.tup es)) :=
  (pe_tup h).imp fun σ H Q h => by
    obtain ⟨F, ext, xv, env, st, hl, post⟩ := h
    simp only [ev] at post
    obtain ⟨ds, e1, h1, post⟩ := post_bind post
    split at post
    · rename_i hz
      refine Ts_sub st hl h1 fun vs F1 H1 s1 r1 st1 => ?_
      have e := r1.len
      exact ⟨lim_le (by omega), aft_tup st1 r1 (by omega) fun u F' H' s st' => post u F' H' (s1.trans s) st'⟩
    · exact post.elim
theorem s_lst {es : Es} {xs : List Expr} {pos : Pos} (h : PA X xs ((TEs X.K M Γ call) es)) : PE X (.List xs pos) ((TEv X.K M Γ call) (.lst es)) :=
  (pe_lst h).imp fun σ H Q h => by
    obtain ⟨F, ext, xv, env, st, hl, post⟩ := h
    simp only [ev] at post
    obtain ⟨ds, e1, h1, post⟩ := post_bind post
    split at post
    · rename_i hz
      refine Ts_sub st hl h1 fun vs F1 H1 s1 r1 st1 => ?_
      have e := r1.len
      exact ⟨lim_le (by omega), aft_lst st1 r1 (by omega) fun u F' H' s st' => post u F' H' (s1.trans s) st'⟩
    · exact post.elim
theorem s_idx {a i : E} {x y : Expr} {pos : Pos} (ha : PE X x ((TEv X.K M Γ call) a)) (hi : PE X y ((TEv X.K M Γ call) i)) (hp : plain y = true) : PE X (.Subscript x y pos) ((TEv X.K M Γ call) (.idx a i)) :=
  (pe_ix ix_seq ha hi (plain_ix hp)).imp fun σ H Q h => by
    obtain ⟨F, ext, xv, env, st, hl, post⟩ := h
    simp only [ev] at post
    obtain ⟨p, e1, h1, post⟩ := post_bind post
    obtain ⟨q, e2, h2, post⟩ := post_bind post
    obtain ⟨z, h3, post⟩ := post_lift post
    cases h4 : ixD p.1 q.1 with
    | none =>
      rw [h4] at h3
      cases h3
    | some c =>
      rw [h4] at h3
      cases h3
      refine T_sub st hl h1 fun v F1 H1 s1 r1 st1 => T_sub st1 hl h2 fun w F2 H2 s2 r2 st2 => ?_
      exact ix_ok st2.same (.rep (r1.mono s2)) r2 h4 fun u ru => post u F2 H2 (s1.trans s2) (st2.push ru)
theorem s_idxv (C : XC X M T L Γ call N sc so k) {i : E} {v : Nat} {x : Str} {y : Expr} {p pos : Pos} (h1 : N[v]? = some x) (h2 : visB sc x = true) (h3 : nmOk x = true) (hi : PE X y ((TEv X.K M Γ call) i)) (hp : plain y = true) : PE X (.Subscript (.Name x p) y pos) ((TEv X.K M Γ call) (.idxv v i)) :=
  (pe_ix ix_seq (s_pv C h1 h2 h3) hi (plain_ix hp)).imp fun σ H Q h => by
    obtain ⟨F, ext, xv, env, st, hl, post⟩ := h
    simp only [ev] at post
    obtain ⟨d0, e1, h1, post1⟩ := post_bind post
    obtain ⟨h1, rfl⟩ := lift_ok h1
    obtain ⟨w, hv, _⟩ := rdv_at st hl h1
    obtain ⟨q, e2, h2, post⟩ := post_bind post1
    obtain ⟨z, h3, post⟩ := post_lift post
    cases h5 : rdv v e2 with
    | none =>
      rw [h5] at h3
      cases h3
    | some d =>
      rw [h5] at h3
      simp only [Option.bind_some] at h3
      cases h4 : ixD d q.1 with
      | none =>
        rw [h4] at h3
        cases h3
      | some c =>
        rw [h4] at h3
        cases h3
        refine ⟨w, hv, T_sub st hl h2 fun w' F2 H2 s2 r2 st2 => ?_⟩
        obtain ⟨v', hv', pk⟩ := rdv_at st2 hl h5
        rw [hv] at hv'
        cases hv'
        exact ix_ok st2.same pk r2 h4 fun u ru => post u F2 H2 s2 (st2.push ru)
theorem s_onone : PO X none ((TOo X.K M Γ call) .none) := po_none.imp fun σ H Q h => by
  obtain ⟨F, ext, xv, env, st, hl, post⟩ := h
  simp only [evo] at post
  exact post F H (Same.refl F) st
theorem s_osome {a : E} {x : Expr} (h : PE X x ((TEv X.K M Γ call) a)) : PO X (some x) ((TOo X.K M Γ call) (.some a)) := (po_some h).imp fun σ H Q h => by
  obtain ⟨F, ext, xv, env, st, hl, post⟩ := h
  simp only [evo] at post
  obtain ⟨p, e1, h1, post⟩ := postO_bind post
  refine T_sub st hl h1 fun v F1 H1 s1 r1 st1 => ?_
  obtain ⟨d, o⟩ := p
  cases d <;> simp only at post r1 <;> try exact post.elim
  cases rep_int r1
  exact ⟨_, rfl, post F1 H1 s1 st1⟩
theorem s_slc {a : E} {lo hi : O} {x : Expr} {l h : Option Expr} {p2 pos : Pos} (ha : PE X x ((TEv X.K M Γ call) a)) (hl : PO X l ((TOo X.K M Γ call) lo)) (hh : PO X h ((TOo X.K M Γ call) hi)) : PE X (.Subscript x (.Slice l h none p2) pos) ((TEv X.K M Γ call) (.slc a lo hi)) :=
  (pe_slice (sl_list.or (sl_tupA.or sl_str)) ha hl hh).imp fun σ H Q h => by
    obtain ⟨F, ext, xv, env, st, hl, post⟩ := h
    simp only [ev] at post
    obtain ⟨p, e1, h1, post⟩ := post_bind post
    obtain ⟨l, e2, h2, post⟩ := post_bind post
    obtain ⟨u, e3, h3, post⟩ := post_bind post
    obtain ⟨z, h4, post⟩ := post_lift post
    refine T_sub st hl h1 fun v F1 H1 s1 r1 st1 => To_sub st1 hl h2 fun F2 H2 s2 st2 => To_sub st2 hl h3 fun F3 H3 s3 st3 => ?_
    exact sl_ok st3 (r1.mono (s2.trans s3)) h4 fun u F' H' s st' => post u F' H' (((s1.trans s2).trans s3).trans s) st'
end
end PL
/-! PLSnd3: calls. -/
namespace PL
open PySem PySem.Spec PyProof.Rows L2

def tyS : Ty → String
  | .int => "int" | .bool => "bool" | .str => "str" | .tuple => "tuple" | .list => "list"
def nmD : D → String
  | .non => "NoneType" | .bl _ => "bool" | .int _ => "int" | .str _ => "str" | .tup _ => "tuple" | .lst _ => "list" | _ => ""
theorem boot_ty : ∀ t, bootBuiltins (tyN t) = some (.type (tyS t)) := by
  intro t
  cases t <;> decide +kernel
theorem kit_D {d : D} {l : List Ty} (h : tyD d = some l) (t : Ty) : kitB (nmD d) (tyS t) = some (l.contains t) := by
  cases d <;> simp only [tyD, reduceCtorEq, Option.some.injEq] at h
  all_goals
    subst h
    cases t <;> simp only [nmD, tyS] <;> decide +kernel
section
variable {K : PySem.W.Frag} {M : Nm} {F H : Hp}
theorem tyX_of (e : Same F H) {d : D} {v : V} {l : List Ty} (h : tyD d = some l) (r : Rep K M F d v) : TyX K H v (.type (nmD d)) := by
  cases r <;> simp only [tyD, reduceCtorEq] at h
  · exact .base .non
  · exact .base (.bl _)
  · exact .base (.int _)
  · exact .base (.str _)
  · rename_i a l vs ht z r
    rcases ht with (ht | ⟨o, ht⟩) | ⟨o, its, n, hk, hc, _⟩
    · exact .base (.tup (e _ _ ht))
    · exact .fTuple (e _ _ ht)
    · exact .kTuple hk hc
  · exact .base (.lst (e _ _ (by assumption)))
theorem kit_any (K : PySem.W.Frag) {d : D} {l : List Ty} (h : tyD d = some l) : ∀ ts : List Ty, PySem.W.kitAny K (.type (nmD d)) (ts.map fun t => .type (tyS t)) = some (ts.any fun t => l.contains t)
  | [] => kitAny_nil
  | t :: ts => by
    refine kitAny_cons (kit_ty (kit_D h t)) (fun e => ?_) fun e => ?_
    · rw [List.any_cons, e, Bool.false_or]
      exact kit_any K h ts
    · rw [List.any_cons, e, Bool.true_or]
end
section
variable {X : Cx} {M : Nm} {T : Ns} {L : Lk} {Γ : Ctx} {call : Nat → List (D × Bool) → CRes} {N : List Str} {sc so : Scope} {k : Nat}

theorem s_ty (C : XC X M T L Γ call N sc so k) {t : Ty} {x : Str} {p : Pos} (h : x = tyN t) (hg : glB sc x = true) : PE X (.Name x p) (tC (.ty (tyS t))) := by
  subst h
  exact pe_bltn (gl_of (by rw [C.scp]; exact hg)) (C.top.ty t) (boot_ty t) rfl (by cases t <;> decide) (by cases t <;> decide)
theorem s_tys (C : XC X M T L Γ call N sc so k) : ∀ {ts : List Ty} {xs : List Expr}, mTy sc ts xs = true → PA X xs (fun σ H Q => Q (ts.map fun t => V.ty (tyS t)) H) ∧ xs.all plain = true
  | [], [], _ => ⟨pa_nil.imp fun σ H Q h => h, rfl⟩
  | t :: ts, x :: xs, h => by
    cases x with
    | Name x p =>
      simp only [mTy, Bool.and_eq_true] at h
      obtain ⟨a, b⟩ := s_tys C h.2
      refine ⟨(pa_cons (s_ty C (of_decide_eq_true h.1.1) h.1.2) a (plain_star rfl)).imp fun σ H Q q => q, ?_⟩
      simp only [List.all_cons, b, Bool.and_true]
      rfl
    | _ => simp [mTy] at h
  | [], _ :: _, h => by simp [mTy] at h
  | _ :: _, [], h => by simp [mTy] at h
theorem isi_in {a : E} {ts : List Ty} {σ : L2.St} {H : Hp} {Q : VK} {R : V → Hp → Prop} (h : (TEv X.K M Γ call) (.isI a ts) σ H Q)
    (q2 : ∀ v F H' d l (es : List Sl) (vs : List (Option V)), Sta X.K M F H' es vs → tyD d = some l → Rep X.K M F d v → (∀ F'' H'', Same F F'' → Sta X.K M F'' H'' es vs → Q (.bl (ts.any fun t => l.contains t)) H'') → R v H') : (TEv X.K M Γ call) a σ H R := by
  obtain ⟨F, ext, xv, env, st, hl, post⟩ := h
  simp only [ev] at post
  obtain ⟨p, e1, h1, post⟩ := post_bind post
  obtain ⟨z, h3, post⟩ := post_lift post
  refine T_sub st hl h1 fun v F1 H1 s1 r1 st1 => ?_
  cases h4 : tyD p.1 with
  | none =>
    rw [h4] at h3
    cases h3
  | some l =>
    rw [h4] at h3
    cases h3
    exact q2 v F1 H1 p.1 l _ _ st1 h4 r1 fun F2 H2 s2 st2 => post _ F2 H2 (s1.trans s2) (st2.push (.bl _))
theorem s_isi1 (C : XC X M T L Γ call N sc so k) {a : E} {t : Ty} {x : Expr} {y : Str} {p q pos : Pos} (hg : glB sc "isinstance" = true) (ha : PE X x ((TEv X.K M Γ call) a)) (hp : plain x = true) (hy : y = tyN t) (hgy : glB sc y = true) :
    PE X (.Call (.Name "isinstance" p) [x, .Name y q] [] pos) ((TEv X.K M Γ call) (.isI a [t])) := by
  refine (pe_callB call_isi (gl_of (by rw [C.scp]; exact hg)) C.top.isi (by decide +kernel) (pa_cons ha (pa_cons (s_ty C hy hgy) pa_nil (plain_star rfl)) (plain_star hp)) (by decide) (by decide) (plain_star hp) (stars_none rfl)).imp fun σ H Q h => ?_
  refine isi_in h fun v F' H' d l es vs st e r k => ?_
  refine ⟨v, .ty (tyS t), _, .type (tyS t), _, rfl, .ty _, tyX_of st.same e r, kit_ty (kit_D e t), ?_⟩
  simpa using k F' H' (Same.refl _) st
theorem cls_tys : ∀ ts : List Ty, Paired ClsV (ts.map fun t => V.ty (tyS t)) (ts.map fun t => Value.type (tyS t))
  | [] => .nil
  | _ :: ts => .cons (.ty _) (cls_tys ts)
theorem s_isiT (C : XC X M T L Γ call N sc so k) {a : E} {ts : List Ty} {x : Expr} {ys : List Expr} {j : Nat} {p q pos : Pos} (hg : glB sc "isinstance" = true) (ha : PE X x ((TEv X.K M Γ call) a)) (hp : plain x = true) (hy : mTy sc ts ys = true) (hz : ts.length ≤ 8) :
    PE X (.Call (.Name "isinstance" p) [x, .Tuple ys j q] [] pos) ((TEv X.K M Γ call) (.isI a ts)) := by
  obtain ⟨hys, hps⟩ := s_tys C hy
  refine (pe_callB call_isiT (gl_of (by rw [C.scp]; exact hg)) C.top.isi (by decide +kernel) (pa_cons ha (pa_cons (pe_tup hys) pa_nil (plain_star rfl)) (plain_star hp)) (by decide) (by decide) (plain_star hp) (stars_none rfl)).imp fun σ H Q h => ?_
  refine isi_in h fun v F' H' d l es vs st e r k => ?_
  · refine ⟨?_, fun tp htp => ?_⟩
    · rw [List.length_map]
      exact lim_le (Nat.le_trans hz (by decide))
    · have st' := st.new (ob := .tup (ts.map fun t => V.ty (tyS t))) htp
      have sf : Same F' (upd F' tp (.tup (ts.map fun t => V.ty (tyS t)))) := same_new (st.free htp)
      exact ⟨v, tp, _, _, _, _, rfl, upd_same, cls_tys ts, tyX_of st'.same e (r.mono sf), kit_any _ e ts, k _ _ sf st'⟩

/-! ### calls of built-in functions, of defs -/
theorem s_bi (C : XC X M T L Γ call N sc so k) {b : Bi} {es : Es} {x : Expr} {xs : List Expr} {p pos : Pos} (hb : okBi b = true) (hg : glB sc (nmBi b) = true) (ha : PA X (x :: xs) ((TEs X.K M Γ call) es)) (hp : (x :: xs).all plain = true) :
    PE X (.Call (.Name (nmBi b) p) (x :: xs) [] pos) ((TEv X.K M Γ call) (.bi b es)) := by
  have hp1 : plain x = true ∧ xs.all plain = true := by simpa using hp
  have hn : nmBi b ≠ "__name__" := by cases b <;> decide
  have hd : (nmBi b == ("__debug__" : Str)) = false := by cases b <;> decide
  have go : ∀ σ H Q, (TEv X.K M Γ call) (.bi b es) σ H Q → tCB (rBi X.K b) ((TEs X.K M Γ call) es) σ H Q := fun σ H Q h => by
    obtain ⟨F, ext, xv, env, st, hl, post⟩ := h
    simp only [ev] at post
    obtain ⟨ds, e1, h1, post⟩ := post_bind post
    obtain ⟨z, h2, post⟩ := post_lift post
    refine Ts_sub st hl h1 fun vs F1 H1 s1 r1 st1 => ?_
    exact bi_ok st1 r1 h2 hb fun u F' H' s st' => post u F' H' (s1.trans s) st'
  have hv := boot_bi b hb
  have hc := cr_bi C.calm b hb
  generalize hf : fvBi b = f at hv hc
  cases b <;> simp only [fvBi] at hf <;> subst hf <;> first
    | exact (pe_callB hc (gl_of (by rw [C.scp]; exact hg)) (C.top.bi _ hb) hv ha hn hd (plain_star hp1.1) (stars_none hp1.2)).imp go
    | exact (pe_callTy hc (gl_of (by rw [C.scp]; exact hg)) (C.top.bi _ hb) hv ha hn hd (plain_star hp1.1) (stars_none hp1.2)).imp go
    | (simp [okBi] at hb; done)
theorem s_bm {m : Bm} {o a : E} {x y : Expr} {ap cp : Pos} (hb : okBm m = true) (hl : (ap.endLine == cp.line) = true) (hx : bsOk x = true) (ho : PE X x ((TEv X.K M Γ call) o)) (ha : PE X y ((TEv X.K M Γ call) a)) (hp : plain y = true) :
    PE X (.Call (.Attribute x (nmBm m) ap) [y] [] cp) ((TEv X.K M Γ call) (.bm m o a)) := by
  refine (pe_tbm hb ho ha (plain_star hp) (fun nm => bsOk_of hx nm) hl).imp fun σ H Q h => ?_
  obtain ⟨F, ext, xv, env, st, hl, post⟩ := h
  simp only [ev] at post
  obtain ⟨p, e1, h1, post⟩ := post_bind post
  obtain ⟨q, e2, h4, post⟩ := post_bind post
  obtain ⟨z, h3, post⟩ := post_lift post
  obtain ⟨t, ht⟩ := bm_str h3 hb
  refine T_sub st hl h1 fun v F1 H1 s1 r1 st1 => ⟨?_, T_sub st1 hl h4 fun w F2 H2 s2 r2 st2 => ?_⟩
  · rw [ht] at r1
    exact ⟨t, rep_str r1⟩
  · exact bm_ok st2 (r1.mono s2) (.cons r2 .nil) h3 hb fun u F' H' s st' => post u F' H' ((s1.trans s2).trans s) st'
/-- what is behind a call of a def whose arguments are settled -/
theorem call_in {f n : Nat} {ds : List D} {vs : List V} {F H : Hp} {es : List Sl} {ws : List (Option V)} {Q : VK} {E : XK} (st : Sta X.K M F H es ws) (r : Reps X.K M F ds vs) (hn : ds.length = n)
    {rr : D × Bool} (h : call f (ds.map fun d => (d, false)) = .ret rr none) (post : ∀ v F' H', Same F F' → Sta X.K M F' H' (some rr :: es) (some v :: ws) → Q v H') : spF X.K M call f n vs H Q E := by
  refine ⟨by rw [← r.len]; exact hn, F, es, ws, ds.map fun d => (d, false), st.len, ?_, st.args r, ?_⟩
  · rw [List.length_map]
    exact hn
  · rw [h]
    exact post
theorem fn_in (C : XC X M T L Γ call N sc so k) {f : Nat} {es : Es} (hf : f ∈ T.fs) {dvs : List V} (hd : ∀ F, Reps X.K M F (Γ.dfl f) dvs) {σ : L2.St} {H : Hp} {Q : VK} {E : XK} (h : (TEv X.K M Γ call) (.fn f es) σ H Q) : tCall (spF X.K M call f (L.ps f).length) dvs E ((TEs X.K M Γ call) es) σ H Q := by
  obtain ⟨F, ext, xv, env, st, hl, post⟩ := h
  simp only [ev] at post
  obtain ⟨ds, e1, h1, post⟩ := post_bind post
  refine Ts_sub st hl h1 fun vs F1 H1 s1 r1 st1 => ?_
  split at post
  · rename_i r hr
    refine call_in st1 (r1.app (hd F1)) ?_ hr fun v F' H' s st' => post v F' H' (s1.trans s) st'
    have := C.ar f hf _ (by rw [hr]; exact fun z => nomatch z)
    rw [List.length_map] at this
    exact this
  · exact post.elim
  · exact post.elim
theorem nil_in {σ : L2.St} {H : Hp} {R : List V → Hp → Prop} (h : (TEs X.K M Γ call) .nil σ H R) : R [] H := by
  obtain ⟨F, ext, xv, env, st, hl, post⟩ := h
  simp only [evs] at post
  exact post [] F H (Same.refl F) .nil st
theorem s_fn (C : XC X M T L Γ call N sc so k) {f : Nat} {es : Es} {xs : List Expr} {p pos : Pos} (hg : glB sc (T.fN f) = true) (hn : nmOk (T.fN f) = true) (hf : f ∈ T.fs) (ha : PA X xs ((TEs X.K M Γ call) es)) (hp : xs.all plain = true) (hz : xs = [] → es = .nil) :
    PE X (.Call (.Name (T.fN f) p) xs [] pos) ((TEv X.K M Γ call) (.fn f es)) := by
  obtain ⟨h1, h2, dvs, ds, hb, hd, hr⟩ := C.top.fn f hf
  obtain ⟨n1, _, _⟩ := nmOk_of hn
  have hro : Room k X.A := C.room.mono (Nat.le_succ k)
  cases xs with
  | nil =>
    obtain rfl := hz rfl
    exact (pe_call0 (C.fns f hf) hro (gl_of (by rw [C.scp]; exact hg)) h1 h2 hb hd pass0 n1).imp fun σ H Q h => nil_in (fn_in (E := E0) C hf hr h)
  | cons x xs =>
    have hp1 : plain x = true ∧ xs.all plain = true := by simpa using hp
    exact (pe_call (C.fns f hf) hro (gl_of (by rw [C.scp]; exact hg)) h1 h2 hb hd pass0 ha n1 (plain_star hp1.1) (stars_none hp1.2)).imp fun σ H Q h => fn_in C hf hr h
theorem set_app {α : Type} {a b : List α} {i : Nat} {x : α} : (a ++ b).set (a.length + i) x = a ++ b.set i x := by
  rw [List.set_append_right _ _ (Nat.le_add_right _ _), Nat.add_sub_cancel_left]
/-- a frame's thing is taken out, and put back -/
theorem sta_out {K : PySem.W.Frag} {F H : Hp} {ext : List Sl} {xv : List (Option V)} {σ : L2.St} {env : PL.Fm} {i : Nat} {d : D} {o : Bool} (st : Sta K M F H (ext ++ env) (xv ++ σ)) (hl : ext.length = xv.length) (e : env[i]? = some (some (d, o))) :
    ∃ v, σ[i]? = some (some v) ∧ Sta K M F H (some (d, o) :: (ext ++ env.set i none)) (some v :: (xv ++ σ)) := by
  have e2 : (ext ++ env)[ext.length + i]? = some (some (d, o)) := by
    rw [List.getElem?_append_right (Nat.le_add_right _ _), Nat.add_sub_cancel_left]
    exact e
  obtain ⟨v, a, b⟩ := st.take e2
  rw [List.getElem?_append_right (by omega)] at a
  rw [set_app] at b
  refine ⟨v, ?_, b⟩
  rw [← a]
  congr 1
  omega
theorem sta_in {K : PySem.W.Frag} {F H : Hp} {ext : List Sl} {xv : List (Option V)} {σ : L2.St} {env : PL.Fm} {i : Nat} {d : D} {o : Bool} {v : V} (st : Sta K M F H (some (d, o) :: (ext ++ env)) (some v :: (xv ++ σ))) (hl : ext.length = xv.length) (hi : i < env.length) :
    Sta K M F H (ext ++ env.set i (some (d, o))) (xv ++ σ.set i (some v)) := by
  have q := st.put (i := ext.length + i) (by rw [List.length_append]; omega)
  rw [set_app, hl, set_app] at q
  exact q
theorem sta_in1 {K : PySem.W.Frag} {F H : Hp} {ext : List Sl} {xv : List (Option V)} {σ : L2.St} {env : PL.Fm} {i : Nat} {d : D} {o : Bool} {v : V} {r : D × Bool} {u : V} (st : Sta K M F H (some r :: some (d, o) :: (ext ++ env)) (some u :: some v :: (xv ++ σ))) (hl : ext.length = xv.length) (hi : i < env.length) :
    Sta K M F H (some r :: (ext ++ env.set i (some (d, o)))) (some u :: (xv ++ σ.set i (some v))) := by
  obtain ⟨r1, r2⟩ := r
  exact sta_in (ext := some (r1, r2) :: ext) (xv := some u :: xv) st.swap (by simp [hl]) hi
theorem s_fnv (C : XC X M T L Γ call N sc so k) {f v : Nat} {es : Es} {x : Str} {xs : List Expr} {p q pos : Pos} (hg : glB sc (T.fN f) = true) (hn : nmOk (T.fN f) = true) (hf : f ∈ T.fs) (h1 : N[v]? = some x) (h2 : visB sc x = true) (h3 : nmOk x = true)
    (ha : PA X xs ((TEs X.K M Γ call) es)) (hp : xs.all plain = true) : PE X (.Call (.Name (T.fN f) p) (.Name x q :: xs) [] pos) ((TEv X.K M Γ call) (.fnv f v es)) := by
  obtain ⟨g1, g2, dvs, ds, hb, hd, hr⟩ := C.top.fn f hf
  obtain ⟨n1, _, _⟩ := nmOk_of hn
  have hro : Room k X.A := C.room.mono (Nat.le_succ k)
  refine (pe_call (C.fns f hf) hro (gl_of (by rw [C.scp]; exact hg)) g1 g2 hb hd pass0 (pa_cons (s_pv C h1 h2 h3) ha (plain_star rfl)) n1 (plain_star rfl) (stars_none hp)).imp fun σ H Q h => ?_
  obtain ⟨F, ext, xv, env, st, hl, post⟩ := h
  simp only [ev] at post
  obtain ⟨d0, e0, hh, post1⟩ := post_bind post
  obtain ⟨hh, rfl⟩ := lift_ok hh
  obtain ⟨w, hw, _⟩ := rdv_at st hl hh
  obtain ⟨us, e1, hu, post2⟩ := post_bind post1
  refine ⟨w, hw, Ts_sub st hl hu fun vs F1 H1 s1 r1 st1 => ?_⟩
  split at post2
  · rename_i d hd1
    obtain ⟨w', hw', st2⟩ := sta_out st1 hl hd1
    rw [hw] at hw'
    cases hw'
    split at post2
    · rename_i rr d' hr'
      have len := C.ar f hf _ (by rw [hr']; exact fun z => nomatch z)
      rw [List.length_cons, List.length_map] at len
      have rv := r1.app (hr F1)
      refine ⟨?_, F1, ext ++ e1.set v none, xv ++ σ, (d, true) :: (us ++ Γ.dfl f).map fun d => (d, false), st2.drop.len, ?_, ?_, ?_⟩
      · rw [← len, rv.len]
        rfl
      · rw [List.length_cons, List.length_map]
        exact len
      · have q := st2.last.args rv
        rw [List.append_assoc (ext ++ e1.set v none), List.append_assoc (xv ++ σ)] at q
        exact q
      · rw [hr']
        refine ⟨⟨_, _, rfl⟩, fun u F' H' s st' => ?_⟩
        have hi : v < (e1.set v none).length := by
          rw [List.length_set]
          exact (List.getElem?_eq_some_iff.mp hd1).1
        have q := sta_in1 st' hl hi
        rw [List.set_set, set_same_of hw] at q
        exact post2 u F' H' (s1.trans s) q
    · exact post2.elim
    · exact post2.elim
  · exact post2.elim
end
end PL
/-! PLStm: statements. -/
namespace PL
open PySem PySem.Spec PyProof.Rows L2

/-- the def's first slot stays what it was handed, where that is changed in place -/
def Pin (io : Bool) (v0 : Option V) (σ : L2.St) : Prop := io = true → σ[0]? = some v0
theorem Pin.set {io : Bool} {v0 : Option V} {σ : L2.St} {i : Nat} {x : Option V} (h : Pin io v0 σ) (hi : io = true → i ≠ 0) : Pin io v0 (σ.set i x) := fun e => by
  rw [List.getElem?_set_ne (hi e)]
  exact h e
section
variable (K : PySem.W.Frag) (M : Nm) (Γ : Ctx) (call : Nat → List (D × Bool) → CRes) (io : Bool) (v0 : Option V)
def PostS (F : Hp) (ext : List Sl) (xv : List (Option V)) (D : Ends) (r : Fl) : Prop :=
  match r with
  | .nx e => ∀ F' H' σ', Same F F' → Sta K M F' H' (ext ++ e) (xv ++ σ') → Pin io v0 σ' → D.nx σ' H'
  | .rt r e => ∀ v F' H' σ', Same F F' → Sta K M F' H' (some r :: (ext ++ e)) (some v :: (xv ++ σ')) → Pin io v0 σ' → D.rt v H'
  | _ => False
def TSt (s : S) : TS := fun D σ H => ∃ F ext xv env, Sta K M F H (ext ++ env) (xv ++ σ) ∧ ext.length = xv.length ∧ Pin io v0 σ ∧ PostS K M io v0 F ext xv D (ex Γ call io s env)
def TSs (s : Ss) : TS := fun D σ H => ∃ F ext xv env, Sta K M F H (ext ++ env) (xv ++ σ) ∧ ext.length = xv.length ∧ Pin io v0 σ ∧ PostS K M io v0 F ext xv D (exs Γ call io s env)
def PostP (F : Hp) (ext : List Sl) (xv : List (Option V)) (σ : L2.St) (r : Res (List (D × Bool))) (Q : List V → Hp → Prop) : Prop :=
  match r with
  | .ok rs env' => ∀ vs F' H', Same F F' → rs.length = vs.length → Sta K M F' H' (rs.reverse.map some ++ (ext ++ env')) (vs.reverse.map some ++ (xv ++ σ)) → Q vs H'
  | _ => False
def TEp (es : Es) : TA := fun σ H Q => ∃ F ext xv env, Sta K M F H (ext ++ env) (xv ++ σ) ∧ ext.length = xv.length ∧ PostP K M F ext xv σ (evp Γ call es env) Q
def PostI (F : Hp) (ext : List Sl) (xv : List (Option V)) (σ : L2.St) (r : Res (List D)) (R : It → Hp → Prop) : Prop := False
end
section
variable {K : PySem.W.Frag} {M : Nm} {io : Bool} {v0 : Option V} {F F1 : Hp} {ext : List Sl} {xv : List (Option V)} {D : Ends}
theorem postS_mono {r : Fl} (s : Same F F1) (h : PostS K M io v0 F ext xv D r) : PostS K M io v0 F1 ext xv D r := by
  unfold PostS at h ⊢
  split at h
  · exact fun F' H' σ' s' st p => h F' H' σ' (s.trans s') st p
  · exact fun v F' H' σ' s' st p => h v F' H' σ' (s.trans s') st p
  · exact h.elim
theorem postS_fl {α : Type} {r : Res α} {f : α → PL.Fm → Fl} (h : PostS K M io v0 F ext xv D (r.fl f)) : ∃ a e, r = .ok a e ∧ PostS K M io v0 F ext xv D (f a e) := by
  cases r with
  | ok a e => exact ⟨a, e, rfl, h⟩
  | exc x e => exact h.elim
  | err => exact h.elim
theorem postS_bind {r : Fl} {f : PL.Fm → Fl} (h : PostS K M io v0 F ext xv D (r.bind f)) (k : ∀ e, PostS K M io v0 F ext xv D (f e) → ∀ F' H' σ', Same F F' → Sta K M F' H' (ext ++ e) (xv ++ σ') → Pin io v0 σ' → D.nx σ' H') : PostS K M io v0 F ext xv D r := by
  cases r with
  | nx e => exact k e h
  | rt r e => exact h
  | exc x e => exact h.elim
  | err => exact h.elim
end

/-- no comprehension -/
def noComp : Expr → Bool
  | .ListComp _ _ _ _ => false
  | .SetComp _ _ _ _ => false
  | .DictComp _ _ _ _ _ => false
  | _ => true
theorem swaps_no {e : Expr} {t : Option Expr} {l : Nat} {env : PySem.Env} (h : noComp e = true) : swapsWith e t l env = pure false := by
  cases e <;> first | rfl | (simp [noComp] at h; done)
theorem swapsSole_no {e t : Expr} {l : Nat} {env : PySem.Env} (h : noComp e = true) : swapsWithSole [t] e l env = pure false := swaps_no h
def noTup : Expr → Bool
  | .Tuple _ _ _ => false
  | _ => true
theorem stores_no {t e : Expr} {env : PySem.Env} (h : noTup e = true) : swappedStores [t] e env = pure none := by
  cases t <;> cases e <;> first | rfl | (simp [noTup] at h; done)
def gNs : List Nat → TGs
  | [] => gNil
  | i :: is => gCons (gName i) (gNs is)
def gOf (K : PySem.W.Frag) : Tg → TG
  | .one i => gName i
  | .many is => gTup K is.length (gNs is)
theorem names_each {N : List Str} {so : Scope} {env : PySem.Env} : ∀ {is : List Nat} {ts : List Expr}, nmT N so is ts = true → (assignEach ts env).length = is.length ∧ (assignEach ts env).findIdx? (·.1) = none
  | [], [], _ => ⟨rfl, rfl⟩
  | i :: is, t :: r, h => by
    cases t with
    | Name x p =>
      simp only [nmT, Bool.and_eq_true] at h
      obtain ⟨a, b⟩ := names_each (env := env) h.2
      refine ⟨by show (assignEach r env).length + 1 = _; rw [a] <;> rfl, ?_⟩
      show List.findIdx? _ ((false, assign (.Name x p) env) :: assignEach r env) = none
      rw [List.findIdx?_cons]
      simp [b]
    | _ => simp [nmT] at h
  | [], _ :: _, h => by simp [nmT] at h
  | _ :: _, [], h => by simp [nmT] at h

section
variable {X : Cx} {M : Nm} {T : Ns} {L : Lk} {Γ : Ctx} {call : Nat → List (D × Bool) → CRes} {N : List Str} {sc so : Scope} {k : Nat} {io : Bool} {v0 : Option V}

theorem g_name (C : XC X M T L Γ call N sc so k) {i : Nat} {x : Str} {p : Pos} (h : N[i]? = some x) (hs : stoB so x = true) : PG X (.Name x p) (gName i) := by
  obtain ⟨a, b⟩ := C.sto x hs
  exact pg_name (by rw [C.hN]; exact C.nd) (by rw [C.hN]; exact h) a b
theorem g_names (C : XC X M T L Γ call N sc so k) : ∀ {is : List Nat} {ts : List Expr}, nmT N so is ts = true → PGs X ts (gNs is)
  | [], [], _ => pgs_nil
  | i :: is, t :: r, h => by
    cases t with
    | Name x p =>
      simp only [nmT, Bool.and_eq_true] at h
      exact pgs_cons (g_name C (of_decide_eq_true h.1.1) h.1.2) (g_names C h.2) rfl
    | _ => simp [nmT] at h
  | [], _ :: _, h => by simp [nmT] at h
  | _ :: _, [], h => by simp [nmT] at h
theorem g_of (C : XC X M T L Γ call N sc so k) {tg : Tg} {t : Expr} (h : mT N so tg t = true) : PG X t (gOf X.K tg) := by
  cases tg with
  | one i =>
    cases t with
    | Name x p =>
      simp only [mT, Bool.and_eq_true] at h
      exact g_name C (of_decide_eq_true h.1) h.2
    | _ => simp [mT] at h
  | many is =>
    cases t with
    | Tuple ts j p =>
      obtain ⟨a, b⟩ := names_each (env := X.env) (show nmT N so is ts = true from h)
      exact pg_tup C.calm (g_names C h) a b
    | _ => simp [mT] at h

theorem sta_put {K : PySem.W.Frag} {F H : Hp} {ext : List Sl} {xv : List (Option V)} {σ : L2.St} {env : PL.Fm} {i : Nat} {r : D × Bool} {v : V} (st : Sta K M F H (some r :: (ext ++ env)) (some v :: (xv ++ σ))) (hl : ext.length = xv.length) :
    Sta K M F H (ext ++ env.set i (some r)) (xv ++ σ.set i (some v)) := by
  obtain ⟨d, o⟩ := r
  by_cases hi : i < env.length
  · exact sta_in st hl hi
  · have e := st.drop.len
    rw [List.length_append, List.length_append] at e
    rw [List.set_eq_of_length_le (by omega), List.set_eq_of_length_le (by omega)]
    exact st.drop
theorem gNs_ok {K : PySem.W.Frag} {F H : Hp} {ext : List Sl} {xv : List (Option V)} {R : L2.St → Hp → Prop} (hl : ext.length = xv.length) : ∀ {is : List Nat} {ds : List D} {vs : List V} {env : PL.Fm} {σ : L2.St}, Reps K M F ds vs → ds.length = is.length → Sta K M F H (ext ++ env) (xv ++ σ) → (io = true → 0 ∉ is) → Pin io v0 σ →
    (∀ σ2, Sta K M F H (ext ++ (is.zip ds).foldl (fun e p => e.set p.1 (some (p.2, false))) env) (xv ++ σ2) → Pin io v0 σ2 → R σ2 H) → gNs is vs σ H R
  | [], [], _, env, σ, .nil, _, st, _, pn, h => ⟨rfl, h σ st pn⟩
  | [], _ :: _, _, _, _, _, e, _, _, _, _ => by simp at e
  | _ :: _, [], _, _, _, _, e, _, _, _, _ => by simp at e
  | i :: is, d :: ds, _, env, σ, .cons a r, e, st, h0, pn, h => by
    refine ⟨_, _, rfl, gNs_ok hl (is := is) (env := env.set i (some (d, false))) r (by simpa using e) (sta_put (st.push a) hl) (fun z w => h0 z (by simp [w])) (pn.set fun z w => h0 z (by simp [w])) h⟩
theorem bnd_ok {K : PySem.W.Frag} {F H : Hp} {ext : List Sl} {xv : List (Option V)} {σ : L2.St} {env env1 : PL.Fm} {tg : Tg} {r : D × Bool} {v : V} {R : L2.St → Hp → Prop} (hl : ext.length = xv.length) (st : Sta K M F H (some r :: (ext ++ env)) (some v :: (xv ++ σ))) (pn : Pin io v0 σ)
    (h : bnd io tg r env = some env1) (q : ∀ F' σ2, Same F F' → Sta K M F' H (ext ++ env1) (xv ++ σ2) → Pin io v0 σ2 → R σ2 H) : gOf K tg v σ H R := by
  cases tg with
  | one i =>
    simp only [bnd] at h
    split at h
    · cases h
    · rename_i hh
      cases h
      exact q F _ (Same.refl F) (sta_put st hl) (pn.set fun a b => hh ⟨a, b⟩)
  | many is =>
    obtain ⟨d, o⟩ := r
    cases d <;> simp only [bnd, reduceCtorEq] at h
    rename_i l
    split at h
    · rename_i hh
      cases h
      obtain ⟨F', s, rd, st'⟩ := st.settle
      obtain ⟨a, ws, rfl, h1, z1, r1⟩ := rep_tup rd
      exact ⟨a, ws, rfl, same_sqT st'.same h1, by rw [← r1.len, hh.1], gNs_ok hl r1 hh.1 st' hh.2 pn fun σ2 st2 p2 => q F' σ2 s st2 p2⟩
    · cases h

theorem x_asg (C : XC X M T L Γ call N sc so k) {tg : Tg} {e : E} {t x : Expr} {pos : Pos} (ha : PE X x ((TEv X.K M Γ call) e)) (hg : mT N so tg t = true) (hc : ∀ l, swapsWithSole [t] x l X.env = pure false) (ht : noTup x = true) : PS X (.Assign [t] x pos) ((TSt X.K M Γ call io v0) (.asg tg e)) := by
  refine (ps_asg ha (g_of C hg) (hc _) (stores_no ht) ?_).imp fun D σ H h => ?_
  · cases tg <;> cases t <;> first | rfl | (simp [mT] at hg; done)
  · obtain ⟨F, ext, xv, env, st, hl, pn, post⟩ := h
    simp only [ex] at post
    obtain ⟨r, e1, h1, post⟩ := postS_fl post
    split at post
    · rename_i env1 hb
      exact T_keep st hl h1 fun v F1 H1 s1 st1 => bnd_ok hl st1 pn hb fun F2 σ2 s2 st2 p2 => post F2 H1 σ2 (s1.trans s2) st2 p2
    · exact post.elim
theorem aug_in {f : Int → Int → Int} {e : E} {i : Nat} {sb : Bool} (hf : ∀ a b, f a b = if sb = true then a - b else a + b) {D : Ends} {σ : L2.St} {H : Hp} (h : (TSt X.K M Γ call io v0) (.aug i sb e) D σ H) : tAug i ((TEv X.K M Γ call) e) (ipI f) D σ H := by
  obtain ⟨F, ext, xv, env, st, hl, pn, post⟩ := h
  simp only [ex] at post
  split at post
  · rename_i a' hr
    obtain ⟨v, hv, pk⟩ := rdv_at st hl hr
    obtain ⟨r, e1, h1, post⟩ := postS_fl post
    have ev1 : v = .int a' := by
      cases pk with
      | rep r => exact rep_int r
    subst ev1
    refine ⟨_, hv, T_sub st hl h1 fun w F1 H1 s1 r1 st1 => ?_⟩
    obtain ⟨d, o⟩ := r
    cases d <;> simp only at post r1 <;> try exact post.elim
    rename_i b'
    cases rep_int r1
    refine ⟨a', b', rfl, rfl, ?_⟩
    split at post
    · exact post.elim
    · rename_i hh
      rw [hf]
      exact post F1 H1 _ s1 (sta_put (st1.push (.int _)) hl) (pn.set fun a b => hh ⟨a, b⟩)
  · exact post.elim
def aop (sb : Bool) : Operator := if sb = true then .Sub else .Add
theorem x_aug (C : XC X M T L Γ call N sc so k) {sb : Bool} {e : E} {i : Nat} {x : Str} {y : Expr} {p pos : Pos} (ha : PE X y ((TEv X.K M Γ call) e)) (h1 : N[i]? = some x) (h2 : stoB so x = true) : PS X (.AugAssign (.Name x p) (aop sb) y pos) ((TSt X.K M Γ call io v0) (.aug i sb e)) := by
  obtain ⟨a, b⟩ := C.sto x h2
  cases sb with
  | false => exact (ps_aug (by rw [C.hN]; exact C.nd) (by rw [C.hN]; exact h1) a ha ip_add b).imp fun D σ H h => aug_in (fun _ _ => rfl) h
  | true => exact (ps_aug (by rw [C.hN]; exact C.nd) (by rw [C.hN]; exact h1) a ha ip_sub b).imp fun D σ H h => aug_in (fun _ _ => rfl) h
theorem x_exp {e : E} {x : Expr} {pos : Pos} (ha : PE X x ((TEv X.K M Γ call) e)) (hc : noComp x = true) : PS X (.Expr x pos) ((TSt X.K M Γ call io v0) (.exp e)) :=
  (ps_expr ha (swaps_no hc)).imp fun D σ H h => by
    obtain ⟨F, ext, xv, env, st, hl, pn, post⟩ := h
    simp only [ex] at post
    obtain ⟨r, e1, h1, post⟩ := postS_fl post
    exact T_keep st hl h1 fun v F1 H1 s1 st1 => post F1 H1 σ s1 st1.drop pn
theorem x_ret {e : E} {x : Expr} {pos : Pos} (ha : PE X x ((TEv X.K M Γ call) e)) : PS X (.Return (some x) pos) ((TSt X.K M Γ call io v0) (.ret e)) :=
  (ps_ret ha).imp fun D σ H h => by
    obtain ⟨F, ext, xv, env, st, hl, pn, post⟩ := h
    simp only [ex] at post
    obtain ⟨r, e1, h1, post⟩ := postS_fl post
    exact T_keep st hl h1 fun v F1 H1 s1 st1 => post v F1 H1 σ s1 st1 pn
theorem x_retN {pos : Pos} : PS X (.Return none pos) ((TSt X.K M Γ call io v0) .retN) :=
  ps_retN.imp fun D σ H h => by
    obtain ⟨F, ext, xv, env, st, hl, pn, post⟩ := h
    simp only [ex] at post
    exact post .non F H σ (Same.refl F) (st.push .non) pn
theorem x_pas {pos : Pos} : PS X (.Pass pos) ((TSt X.K M Γ call io v0) .pas) :=
  ps_pass.imp fun D σ H h => by
    obtain ⟨F, ext, xv, env, st, hl, pn, post⟩ := h
    simp only [ex] at post
    exact post F H σ (Same.refl F) st pn
theorem x_rse {c : Nat} {o : O} {st : Stmt} : PS X st ((TSt X.K M Γ call io v0) (.rse c o)) :=
  ps_never.imp fun D σ H h => by
    obtain ⟨F, ext, xv, env, st, hl, pn, post⟩ := h
    cases o with
    | none => exact post
    | some e =>
      simp only [ex] at post
      obtain ⟨r, e1, h1, post⟩ := postS_fl post
      exact post
theorem x_nil : PSs X [] ((TSs X.K M Γ call io v0) .nil) :=
  pss_nil.imp fun D σ H h => by
    obtain ⟨F, ext, xv, env, st, hl, pn, post⟩ := h
    simp only [exs] at post
    exact post F H σ (Same.refl F) st pn
theorem x_cons {s : S} {r : Ss} {st : Stmt} {sts : List Stmt} (hs : PS X st ((TSt X.K M Γ call io v0) s)) (hr : PSs X sts ((TSs X.K M Γ call io v0) r)) : PSs X (st :: sts) ((TSs X.K M Γ call io v0) (.cons s r)) :=
  (pss_cons hs hr).imp fun D σ H h => by
    obtain ⟨F, ext, xv, env, st, hl, pn, post⟩ := h
    simp only [exs] at post
    refine ⟨F, ext, xv, env, st, hl, pn, ?_⟩
    revert post
    cases ex Γ call io s env with
    | nx e => exact fun post F' H' σ' s' st' p' => ⟨F', ext, xv, e, st', hl, p', postS_mono s' post⟩
    | rt r e => exact fun post => post
    | exc x e => exact fun post => post
    | err => exact fun post => post
theorem x_ifs {c : E} {a b : Ss} {x : Expr} {p q : List Stmt} {pos : Pos} (hc : PT X x ((TTt X.K M Γ call) c)) (ha : PSs X p ((TSs X.K M Γ call io v0) a)) (hb : PSs X q ((TSs X.K M Γ call io v0) b)) : PS X (.If x p q pos) ((TSt X.K M Γ call io v0) (.ifs c a b)) :=
  (ps_if hc ha hb).imp fun D σ H h => by
    obtain ⟨F, ext, xv, env, st, hl, pn, post⟩ := h
    simp only [ex] at post
    obtain ⟨r, e1, h1, post⟩ := postS_fl post
    obtain ⟨d, o⟩ := r
    cases d <;> simp only at post <;> try exact post.elim
    rename_i t
    refine Tt_sub st hl h1 fun F1 H1 s1 st1 => ?_
    cases t with
    | true =>
      rw [if_pos rfl]
      exact ⟨F1, ext, xv, e1, st1, hl, pn, postS_mono s1 post⟩
    | false =>
      rw [if_neg Bool.false_ne_true]
      exact ⟨F1, ext, xv, e1, st1, hl, pn, postS_mono s1 post⟩
theorem x_whl {c : E} {b : Ss} {x : Expr} {p : List Stmt} {pos : Pos} (hp : PassesOwn (model X.prog X.w) X.A X.env X.xe) (hc : PT X x ((TTt X.K M Γ call) c)) (hb : PSs X p ((TSs X.K M Γ call io v0) b)) : PS X (.While x p [] pos) ((TSt X.K M Γ call io v0) (.whl c b)) :=
  (ps_while hp hc hb).imp fun D σ H h => by
    obtain ⟨F, ext, xv, env, st, hl, pn, post⟩ := h
    simp only [ex] at post
    unfold whlG at post
    generalize hstep : (fun (env : PL.Fm) => (match ev Γ call c env with
      | .ok (.bl true, _) env =>
        match exs Γ call io b env with
        | .nx env => Sum.inl env
        | r => .inr r
      | .ok (.bl false, _) env => .inr (.nx env)
      | .exc x env => .inr (.exc x env)
      | _ => .inr .err : PL.Fm ⊕ Fl)) = step at post
    rcases whileF_or (step := step) (env := env) with ⟨n, hn⟩ | hn
    · refine ⟨fun m σ H => ∃ F' env' r, Same F F' ∧ Sta X.K M F' H (ext ++ env') (xv ++ σ) ∧ Pin io v0 σ ∧ iter step m env' = some r ∧ PostS X.K M io v0 F ext xv D r, ⟨n, F, env, _, Same.refl F, st, pn, hn, post⟩, ?_⟩
      rintro m σ H ⟨F', env', r, s', st', pn', hi, post'⟩
      cases m with
      | zero => simp [iter] at hi
      | succ m =>
        unfold iter at hi
        have hs := (congrFun hstep env').symm
        cases he : ev Γ call c env' with
        | ok d e1 =>
          obtain ⟨d, o⟩ := d
          cases d with
          | bl t =>
            refine Tt_sub st' hl he fun F1 H1 s1 st1 => ?_
            rw [he] at hs
            cases t with
            | true =>
              rw [if_pos rfl]
              simp only at hs
              refine ⟨fun σ2 H2 => ∃ F2 env2 r, Same F F2 ∧ Sta X.K M F2 H2 (ext ++ env2) (xv ++ σ2) ∧ Pin io v0 σ2 ∧ iter step m env2 = some r ∧ PostS X.K M io v0 F ext xv D r, fun σ2 H2 h => ⟨m, Nat.lt_succ_self m, h⟩, F1, ext, xv, e1, st1, hl, pn', ?_⟩
              cases hx : exs Γ call io b e1 with
              | nx e2 =>
                rw [hx] at hs
                simp only at hs
                rw [hs] at hi
                exact fun F2 H2 σ2 s2 st2 p2 => ⟨F2, e2, r, (s'.trans s1).trans s2, st2, p2, hi, post'⟩
              | rt r2 e2 =>
                rw [hx] at hs
                simp only at hs
                rw [hs] at hi
                cases hi
                exact fun v F2 H2 σ2 s2 st2 p2 => post' v F2 H2 σ2 ((s'.trans s1).trans s2) st2 p2
              | exc x2 e2 =>
                rw [hx] at hs
                simp only at hs
                rw [hs] at hi
                cases hi
                exact post'.elim
              | err =>
                rw [hx] at hs
                simp only at hs
                rw [hs] at hi
                cases hi
                exact post'.elim
            | false =>
              rw [if_neg Bool.false_ne_true]
              simp only at hs
              rw [hs] at hi
              cases hi
              exact post' F1 H1 σ (s'.trans s1) st1 pn'
          | _ =>
            rw [he] at hs
            simp only at hs
            rw [hs] at hi
            cases hi
            exact post'.elim
        | exc x2 e2 =>
          rw [he] at hs
          simp only at hs
          rw [hs] at hi
          cases hi
          exact post'.elim
        | err =>
          rw [he] at hs
          simp only at hs
          rw [hs] at hi
          cases hi
          exact post'.elim
    · rw [hn] at post
      exact post.elim
end
end PL
/-! PLStm2: stores of several at once, changed rows, for. -/
namespace PL
open PySem PySem.Spec PyProof.Rows L2

/-- how a, b = x, y is stored: the names at once, from the right (true), or by way of a pair (false) -/
def allLoc (sc : Scope) (l : Nat) : List Expr → Option (List Str)
  | [] => some []
  | .Name x p :: r => if sc.names.lookup x = some .local ∧ p.line = l then (allLoc sc l r).map (x :: ·) else none
  | _ => none
def noStars : List Expr → Bool
  | [] => true
  | .Starred _ _ :: _ => false
  | _ :: r => noStars r
section
variable {sc : Scope} {env : PySem.Env}
theorem noStars_of : ∀ {vs : List Expr}, vs.all plain = true → (vs.any fun | .Starred .. => true | _ => false) = false
  | [], _ => rfl
  | v :: r, h => by
    simp only [List.all_cons, Bool.and_eq_true] at h
    rw [List.any_cons, noStars_of h.2, Bool.or_false]
    cases v <;> first | rfl | (simp [plain] at h; done)
end

section
variable {X : Cx} {M : Nm} {T : Ns} {L : Lk} {Γ : Ctx} {call : Nat → List (D × Bool) → CRes} {N : List Str} {sc so : Scope} {k : Nat} {io : Bool} {v0 : Option V}

theorem p_nil : PA X [] ((TEp X.K M Γ call) .nil) := pa_nil.imp fun σ H Q h => by
  obtain ⟨F, ext, xv, env, st, hl, post⟩ := h
  simp only [evp] at post
  exact post [] F H (Same.refl F) rfl st
theorem postP_bind {K : PySem.W.Frag} {F : Hp} {ext : List Sl} {xv : List (Option V)} {σ : L2.St} {α : Type} {r : Res α} {f : α → PL.Fm → Res (List (D × Bool))} {Q : List V → Hp → Prop} (h : PostP K M F ext xv σ (r.bind f) Q) : ∃ a e, r = .ok a e ∧ PostP K M F ext xv σ (f a e) Q := by
  cases r with
  | ok a e => exact ⟨a, e, rfl, h⟩
  | exc x e => exact h.elim
  | err => exact h.elim
theorem p_cons {a : E} {r : Es} {x : Expr} {xs : List Expr} (ha : PE X x ((TEv X.K M Γ call) a)) (hr : PA X xs ((TEp X.K M Γ call) r)) (hp : plain x = true) : PA X (x :: xs) ((TEp X.K M Γ call) (.cons a r)) :=
  (pa_cons ha hr (plain_star hp)).imp fun σ H Q h => by
    obtain ⟨F, ext, xv, env, st, hl, post⟩ := h
    simp only [evp] at post
    obtain ⟨p, e1, h1, post⟩ := postP_bind post
    obtain ⟨ds, e2, h2, post⟩ := postP_bind post
    refine T_keep st hl h1 fun v F1 H1 s1 st1 => ⟨F1, some p :: ext, some v :: xv, e1, st1, by simp [hl], ?_⟩
    rw [h2]
    intro vs F2 H2 s2 hn st2
    refine post (v :: vs) F2 H2 (s1.trans s2) (by simp [hn]) ?_
    rw [List.reverse_cons, List.reverse_cons, List.map_append, List.map_append, List.append_assoc, List.append_assoc]
    exact st2
theorem sta_fold {K : PySem.W.Frag} {F H : Hp} {ext : List Sl} {xv : List (Option V)} (hl : ext.length = xv.length) : ∀ {is : List Nat} {rs : List (D × Bool)} {vs : List V} {env : PL.Fm} {σ : L2.St}, rs.length = is.length → rs.length = vs.length →
    Sta K M F H (rs.reverse.map some ++ (ext ++ env)) (vs.reverse.map some ++ (xv ++ σ)) → (io = true → 0 ∉ is) → Pin io v0 σ →
    Sta K M F H (ext ++ (is.zip rs).foldl (fun e p => e.set p.1 (some p.2)) env) (xv ++ (is.zip vs).foldl (fun s p => s.set p.1 (some p.2)) σ) ∧ Pin io v0 ((is.zip vs).foldl (fun s p => s.set p.1 (some p.2)) σ)
  | [], [], [], env, σ, _, _, st, _, pn => ⟨st, pn⟩
  | i :: is, r :: rs, v :: vs, env, σ, e1, e2, st, h0, pn => by
    rw [List.reverse_cons, List.reverse_cons, List.map_append, List.map_append, List.append_assoc, List.append_assoc] at st
    obtain ⟨d, o⟩ := r
    have st1 := st.mid (by simp at e2; simp [e2])
    have st1 : Sta K M F H (some (d, o) :: ((rs.reverse.map some ++ ext) ++ env)) (some v :: ((vs.reverse.map some ++ xv) ++ σ)) := by
      rw [List.append_assoc, List.append_assoc]
      exact st1
    have st2 := sta_put (i := i) st1 (by simp at e2; simp [e2, hl])
    rw [List.append_assoc, List.append_assoc] at st2
    exact sta_fold hl (is := is) (rs := rs) (vs := vs) (by simpa using e1) (by simpa using e2) st2 (fun z w => h0 z (by simp [w])) (pn.set fun z w => h0 z (by have w' : i = 0 := w; simp [w']))
  | [], _ :: _, _, _, _, e, _, _, _, _ => by simp at e
  | _ :: _, [], _, _, _, e, _, _, _, _ => by simp at e
  | [], [], _ :: _, _, _, _, e, _, _, _ => by simp at e
  | _ :: _, _ :: _, [], _, _, _, e, _, _, _ => by simp at e
/-- stored one after the other -/
theorem gNs_all {R : L2.St → Hp → Prop} {H : Hp} : ∀ {is : List Nat} {vs : List V} {σ : L2.St}, vs.length = is.length → R ((is.zip vs).foldl (fun s p => s.set p.1 (some p.2)) σ) H → gNs is vs σ H R
  | [], [], σ, _, h => ⟨rfl, h⟩
  | i :: is, v :: vs, σ, e, h => ⟨v, vs, rfl, gNs_all (is := is) (by simpa using e) h⟩
  | [], _ :: _, _, e, _ => by simp at e
  | _ :: _, [], _, e, _ => by simp at e
theorem par_in {es : Es} {is : List Nat} {D : Ends} {σ : L2.St} {H : Hp} (h : (TSt X.K M Γ call io v0) (.par is es) D σ H) : (TEp X.K M Γ call) es σ H fun vs H1 => vs.length = is.length ∧ ∀ H2, Same H1 H2 → (∀ a u, H1 a = some u → H2 a = some u) → D.nx ((is.zip vs).foldl (fun s p => s.set p.1 (some p.2)) σ) H2 := by
  obtain ⟨F, ext, xv, env, st, hl, pn, post⟩ := h
  simp only [ex] at post
  obtain ⟨rs, e1, h1, post⟩ := postS_fl post
  split at post
  · rename_i hh
    refine ⟨F, ext, xv, env, st, hl, ?_⟩
    rw [h1]
    intro vs F1 H1 s1 hn st1
    refine ⟨by rw [← hn, hh.1], fun H2 s2 _ => ?_⟩
    have st2 : Sta X.K M F1 H2 (rs.reverse.map some ++ (ext ++ e1)) (vs.reverse.map some ++ (xv ++ σ)) := st1.mono (Same.refl F1) s2 (st1.same.trans s2) fun _ _ _ z => z
    obtain ⟨a, b⟩ := sta_fold hl hh.1 hn st2 hh.2 pn
    exact post F1 H2 _ s1 a b
  · exact post.elim
theorem x_parT (C : XC X M T L Γ call N sc so k) {is : List Nat} {es : Es} {ts xs : List Expr} {j1 j2 : Nat} {p1 p2 pos : Pos} (ha : PA X xs ((TEp X.K M Γ call) es)) (hg : nmT N so is ts = true) (hz : is.length ≤ 100)
    (hw : swappedStores [.Tuple ts j1 p1] (.Tuple xs j2 p2) X.env = pure none) : PS X (.Assign [.Tuple ts j1 p1] (.Tuple xs j2 p2) pos) ((TSt X.K M Γ call io v0) (.par is es)) := by
  obtain ⟨a, b⟩ := names_each (env := X.env) hg
  refine (ps_asg (pe_tup ha) (pg_tup C.calm (g_names C hg) a b) (swapsSole_no rfl) hw rfl).imp fun D σ H h => ?_
  obtain ⟨F, ext, xv, env, st, hl, post⟩ := par_in h
  refine ⟨F, ext, xv, env, st, hl, ?_⟩
  unfold PostP at post ⊢
  split at post
  · intro vs F1 H1 s1 hn st1
    obtain ⟨q1, q2⟩ := post vs F1 H1 s1 hn st1
    have hv : vs.length ≤ sizeLine := lim_le (by unfold LIM; omega)
    refine ⟨hv, fun p hp => ⟨p, vs, rfl, .inl (.inl upd_same), q1, gNs_all q1 (q2 _ (same_new hp) (same_new hp))⟩⟩
  · exact post.elim
theorem x_par2 (C : XC X M T L Γ call N sc so k) {i j : Nat} {es : Es} {x y : Str} {a b : Expr} {j1 j2 : Nat} {px py p1 p2 pos : Pos} (ha : PA X [a, b] ((TEp X.K M Γ call) es)) (h1 : N[i]? = some x) (h2 : N[j]? = some y) (hij : i ≠ j)
    (hx : sc.names.lookup x = some .local) (hy : sc.names.lookup y = some .local) (hw : swappedStores [.Tuple [.Name x px, .Name y py] j1 p1] (.Tuple [a, b] j2 p2) X.env = pure (some [x, y])) :
    PS X (.Assign [.Tuple [.Name x px, .Name y py] j1 p1] (.Tuple [a, b] j2 p2) pos) ((TSt X.K M Γ call io v0) (.par [i, j] es)) := by
  refine (ps_par C.calm (by rw [C.hN]; exact C.nd) (by rw [C.hN]; exact h1) (by rw [C.hN]; exact h2) hij (by rw [C.scp]; exact hx) (by rw [C.scp]; exact hy) ha hw (swapsSole_no rfl)).imp fun D σ H h => ?_
  obtain ⟨F, ext, xv, env, st, hl, post⟩ := par_in h
  refine ⟨F, ext, xv, env, st, hl, ?_⟩
  unfold PostP at post ⊢
  split at post
  · intro vs F1 H1 s1 hn st1
    obtain ⟨q1, q2⟩ := post vs F1 H1 s1 hn st1
    match vs, q1 with
    | [v, w], _ => exact ⟨v, w, rfl, q2 H1 (Same.refl _) fun _ _ z => z⟩
  · exact post.elim
theorem x_par3 (C : XC X M T L Γ call N sc so k) {i j l : Nat} {es : Es} {x y z : Str} {a b c : Expr} {j1 j2 : Nat} {px py pz p1 p2 pos : Pos} (ha : PA X [a, b, c] ((TEp X.K M Γ call) es)) (h1 : N[i]? = some x) (h2 : N[j]? = some y) (h3 : N[l]? = some z) (hij : i ≠ j) (hil : i ≠ l) (hjl : j ≠ l)
    (hx : sc.names.lookup x = some .local) (hy : sc.names.lookup y = some .local) (hz : sc.names.lookup z = some .local) (hw : swappedStores [.Tuple [.Name x px, .Name y py, .Name z pz] j1 p1] (.Tuple [a, b, c] j2 p2) X.env = pure (some [x, y, z])) :
    PS X (.Assign [.Tuple [.Name x px, .Name y py, .Name z pz] j1 p1] (.Tuple [a, b, c] j2 p2) pos) ((TSt X.K M Γ call io v0) (.par [i, j, l] es)) := by
  refine (ps_par3 C.calm (by rw [C.hN]; exact C.nd) (by rw [C.hN]; exact h1) (by rw [C.hN]; exact h2) (by rw [C.hN]; exact h3) hij hil hjl (by rw [C.scp]; exact hx) (by rw [C.scp]; exact hy) (by rw [C.scp]; exact hz) ha hw (swapsSole_no rfl)).imp fun D σ H h => ?_
  obtain ⟨F, ext, xv, env, st, hl, post⟩ := par_in h
  refine ⟨F, ext, xv, env, st, hl, ?_⟩
  unfold PostP at post ⊢
  split at post
  · intro vs F1 H1 s1 hn st1
    obtain ⟨q1, q2⟩ := post vs F1 H1 s1 hn st1
    match vs, q1 with
    | [u, v, w], _ => exact ⟨u, v, w, rfl, q2 H1 (Same.refl _) fun _ _ z => z⟩
  · exact post.elim

/-! ### changed rows -/
theorem x_app (C : XC X M T L Γ call N sc so k) {i : Nat} {e : E} {x : Str} {y : Expr} {p ap cp pos : Pos} (h1 : N[i]? = some x) (h2 : visB sc x = true) (h3 : nmOk x = true) (ha : PE X y ((TEv X.K M Γ call) e)) (hp : plain y = true) (hln : (ap.endLine == cp.line) = true) :
    PS X (.Expr (.Call (.Attribute (.Name x p) "append" ap) [y] [] cp) pos) ((TSt X.K M Γ call io v0) (.app (.var i) e)) := by
  have few : ((backTo cp (starEach [y] X.env)).all (fun x => !x.1) && (backToKw cp (keywordEach [] X.env)).all (fun x => x.1.isSome) && decide ([y].length + ([] : List Keyword).length + (if ([] : List Keyword).isEmpty then 0 else 1) < 30)) = true := by
    rw [plain_star hp]
    rfl
  refine (ps_expr (pe_bm (T := "list") PySem.F.plainAttrs_list PySem.F.slot_list_append PySem.F.type_list_append (r := rAppend) mt_append (s_pv C h1 h2 h3) (pa_cons ha pa_nil (plain_star hp)) rfl few hln (plain_star hp) rfl) (by rfl)).imp fun D σ H h => ?_
  obtain ⟨F, ext, xv, env, st, hl, pn, post⟩ := h
  simp only [ex, pth] at post
  split at post
  · rename_i l0 hq
    have hi0 : env[i]? = some (some (.lst l0, true)) := by
      split at hq
      · rename_i s' e'
        rw [e', hq]
      · cases hq
    obtain ⟨v, fp, hv, ro⟩ := sta_ix st hl hi0
    cases ro with
    | lst hb zb rb =>
      refine ⟨_, hv, .inl ⟨rfl, _, .inl (.inl hb)⟩, ?_⟩
      obtain ⟨r, e1, h1, post⟩ := postS_fl post
      refine T_sub st hl h1 fun w F1 H1 s1 r1 st1 => ?_
      split at post
      · rename_i l hq1
        split at post
        · rename_i hz
          have hi1 : e1[i]? = some (some (.lst l, true)) := by
            split at hq1
            · rename_i s' e'
              rw [e', hq1]
            · cases hq1
          obtain ⟨v', hv', st2⟩ := sta_out st1 hl hi1
          rw [hv] at hv'
          cases hv'
          obtain ⟨a, ws, ea, ha2, z2, r2⟩ := st2.headL
          cases ea
          have hn := r2.len
          refine ⟨_, ws, w, rfl, rfl, ha2, lim_lt (by omega), ?_⟩
          have st3 := st2.mut (r2.snoc r1) (by rw [List.length_append, List.length_singleton]; omega)
          have hi2 : i < (e1.set i none).length := by
            rw [List.length_set]
            exact (List.getElem?_eq_some_iff.mp hi1).1
          have st4 := sta_in st3 hl hi2
          rw [List.set_set, set_same_of hv] at st4
          exact post F1 _ σ s1 st4 pn
        · exact post.elim
      · exact post.elim
  · exact post.elim
theorem x_sub (C : XC X M T L Γ call N sc so k) {v : Nat} {e i : E} {x : Str} {y z : Expr} {p tp pos : Pos} (h1 : N[v]? = some x) (h2 : visB sc x = true) (h3 : nmOk x = true) (ha : PE X y ((TEv X.K M Γ call) e)) (hi : PE X z ((TEv X.K M Γ call) i)) (hz : plain z = true) (hc : noComp y = true) (ht : noTup y = true) :
    PS X (.Assign [.Subscript (.Name x p) z tp] y pos) ((TSt X.K M Γ call io v0) (.sub v i e)) := by
  refine (ps_asg ha (pg_sub (s_pv C h1 h2 h3) hi set_list (by intro _; cases z <;> first | rfl | (simp [plain] at hz; done))) (swapsSole_no hc) (stores_no ht) rfl).imp fun D σ H h => ?_
  obtain ⟨F, ext, xv, env, st, hl, pn, post⟩ := h
  simp only [ex] at post
  obtain ⟨r, e1, g1, post⟩ := postS_fl post
  refine T_sub st hl g1 fun w F1 H1 s1 r1 st1 => ?_
  split at post
  · rename_i d0 hd0
    obtain ⟨u, hu, _⟩ := rdv_at st1 hl hd0
    refine ⟨u, hu, ?_⟩
    obtain ⟨q, e2, g2, post⟩ := postS_fl post
    refine T_sub st1 hl g2 fun w2 F2 H2 s2 r2 st2 => ?_
    split at post
    · rename_i l j hi2 hj
      split at post
      · rename_i l' hl'
        obtain ⟨u', hu', st3⟩ := sta_out st2 hl hi2
        rw [hu] at hu'
        cases hu'
        obtain ⟨a, ws, ea, ha2, z2, rl⟩ := st3.headL
        cases ea
        rw [hj] at r2
        cases rep_int r2
        unfold setI at hl'
        cases ej : ixn l.length j with
        | none =>
          rw [ej] at hl'
          cases hl'
        | some m =>
          rw [ej] at hl'
          cases hl'
          refine ⟨a, ws, j, m, rfl, rfl, ha2, by rw [← rl.len]; exact ej, ?_⟩
          have st4 := st3.mut (Reps.set (r1.mono s2) m rl) (by rw [List.length_set]; exact z2)
          have hi3 : v < (e2.set v none).length := by
            rw [List.length_set]
            exact (List.getElem?_eq_some_iff.mp hi2).1
          have st5 := sta_in st4 hl hi3
          rw [List.set_set, set_same_of hu] at st5
          exact post F2 _ σ (s1.trans s2) st5 pn
      · exact post.elim
    · exact post.elim
  · exact post.elim
end
end PL
/-! PLFor: what is walked; for. -/
namespace PL
open PySem PySem.Spec PyProof.Rows L2

/-- J walks the things ds -/
structure Wk (K : PySem.W.Frag) (M : Nm) (J : It) (ds : List D) (F : Hp) : Prop where
  go : ∀ i H, Same F H → i < ds.length → J.go i H
  stop : ∀ H, Same F H → J.stop ds.length H
  yld : ∀ i H x H', Same F H → i < ds.length → J.yld i H x H' → ∃ d, ds[i]? = some d ∧ ((H' = H ∧ Rep K M F d x) ∨ ∃ T v w a b, x = .ref T ∧ H T = none ∧ H' = upd H T (.tup [v, w]) ∧ d = .tup [a, b] ∧ Rep K M F a v ∧ Rep K M F b w)
section
variable {K : PySem.W.Frag} {M : Nm} {F : Hp}
theorem same_sqL {F H : Hp} {a : Addr} {vs : List V} (e : Same F H) (h : SqL K F a vs) : SqL K H a vs := e.seq h
theorem wk_list {a : Addr} {l : List D} {vs : List V} (h : SqL K F a vs) (r : Reps K M F l vs) : Wk K M (Itl K a) l F where
  go := fun i H e hi => ⟨vs, vs[i]'(by rw [← r.len]; exact hi), e.seq h, by simp⟩
  stop := fun H e => ⟨vs, e.seq h, by rw [r.len]; exact Nat.le_refl _⟩
  yld := fun i H x H' e hi y => by
    obtain ⟨rfl, y⟩ := y
    have hx := y vs (e.seq h)
    have hd : l[i]? = some l[i] := by simp [hi]
    obtain ⟨v, hv, rv⟩ := r.get hd
    rw [hx] at hv
    cases hv
    exact ⟨_, hd, .inl ⟨rfl, rv⟩⟩
theorem wk_tup {a : Addr} {l : List D} {vs : List V} (h : SqT K F a vs) (r : Reps K M F l vs) : Wk K M (Itt K a) l F where
  go := fun i H e hi => ⟨vs, vs[i]'(by rw [← r.len]; exact hi), same_sqT e h, by simp⟩
  stop := fun H e => ⟨vs, same_sqT e h, by rw [r.len]; exact Nat.le_refl _⟩
  yld := fun i H x H' e hi y => by
    obtain ⟨rfl, y⟩ := y
    have hx := y vs (same_sqT e h)
    have hd : l[i]? = some l[i] := by simp [hi]
    obtain ⟨v, hv, rv⟩ := r.get hd
    rw [hx] at hv
    cases hv
    exact ⟨_, hd, .inl ⟨rfl, rv⟩⟩
theorem wk_str {x : Str} : Wk K M (Its x) (x.cps.toList.map fun c => D.str ⟨#[c]⟩) F where
  go := fun i H e h => by
    rw [List.length_map, Array.length_toList] at h
    exact h
  stop := fun H e => by
    show x.cps.size ≤ _
    rw [List.length_map, Array.length_toList]
    exact Nat.le_refl _
  yld := fun i H v H' e h y => by
    obtain ⟨rfl, c, hc, rfl⟩ := y
    refine ⟨.str ⟨#[c]⟩, ?_, .inl ⟨rfl, .str _⟩⟩
    rw [List.getElem?_map, Array.getElem?_toList, hc] <;> rfl
theorem wk_rng {lo hi : Int} : Wk K M (Itr lo (hi - lo).toNat) (rgD lo hi) F where
  go := fun i H e h => by
    unfold rgD at h
    rw [List.length_map, List.length_range] at h
    exact h
  stop := fun H e => by
    show (hi - lo).toNat ≤ _
    unfold rgD
    rw [List.length_map, List.length_range]
    exact Nat.le_refl _
  yld := fun i H x H' e h y => by
    obtain ⟨rfl, rfl⟩ := y
    have h' : i < (hi - lo).toNat := by
      unfold rgD at h
      rw [List.length_map, List.length_range] at h
      exact h
    refine ⟨.int (lo + i), ?_, .inl ⟨rfl, .int _⟩⟩
    unfold rgD
    rw [List.getElem?_map, List.getElem?_range h']
    rfl
end
section
variable (K : PySem.W.Frag) (M : Nm) (Γ : Ctx) (call : Nat → List (D × Bool) → CRes)
def TIt (it : PL.Src) : TI := fun σ H R => ∃ F ext xv env, Sta K M F H (ext ++ env) (xv ++ σ) ∧ ext.length = xv.length ∧
  match evi Γ call it env with
  | .ok ds env' => ∀ J F' H', Same F F' → Sta K M F' H' (ext ++ env') (xv ++ σ) → Wk K M J ds F' → R J H'
  | _ => False
end
section
variable {X : Cx} {M : Nm} {T : Ns} {L : Lk} {Γ : Ctx} {call : Nat → List (D × Bool) → CRes} {N : List Str} {sc so : Scope} {k : Nat} {io : Bool} {v0 : Option V}

theorem i_bind {α : Type} {r : Res α} {f : α → PL.Fm → Res (List D)} {P : List D → PL.Fm → Prop} (h : match r.bind f with | .ok ds e => P ds e | _ => False) : ∃ a e, r = .ok a e ∧ match f a e with | .ok ds e => P ds e | _ => False := by
  cases r with
  | ok a e => exact ⟨a, e, rfl, h⟩
  | exc x e => exact h.elim
  | err => exact h.elim
theorem i_seq {tg : Expr} {e : E} {x : Expr} (ha : PE X x ((TEv X.K M Γ call) e)) : PI X tg x ((TIt X.K M Γ call) (.seq e)) := by
  refine ⟨fun pins s σ H R I h => ?_⟩
  obtain ⟨F, ext, xv, env, st, hl, post⟩ := h
  simp only [evi] at post
  obtain ⟨r, e1, h1, post⟩ := i_bind post
  obtain ⟨d, o⟩ := r
  cases d <;> simp only at post <;> try exact post.elim
  · refine (pi_str ha).run pins s σ H R I (T_sub st hl h1 fun v F1 H1 s1 r1 st1 => ?_)
    cases rep_str r1
    exact ⟨_, rfl, post _ F1 H1 s1 st1 wk_str⟩
  · refine (pi_tup ha).run pins s σ H R I (T_sub st hl h1 fun v F1 H1 s1 r1 st1 => ?_)
    obtain ⟨a, ws, rfl, h2, z2, r2⟩ := rep_tup r1
    exact ⟨a, rfl, ⟨ws, same_sqT st1.same h2⟩, post _ F1 H1 s1 st1 (wk_tup h2 r2)⟩
  · refine (pi_list ha).run pins s σ H R I (T_sub st hl h1 fun v F1 H1 s1 r1 st1 => ?_)
    obtain ⟨a, ws, rfl, h2, z2, r2⟩ := rep_lst r1
    exact ⟨a, rfl, ⟨ws, .inl (.inl (st1.same _ _ h2))⟩, post _ F1 H1 s1 st1 (wk_list (.inl (.inl h2)) r2)⟩
theorem i_rng1 (C : XC X M T L Γ call N sc so k) {tg : Expr} {e : E} {x : Expr} {p pos : Pos} (hg : glB sc "range" = true) (hm : X.mg "range" = none) (ha : PE X x ((TEv X.K M Γ call) e)) (hp : plain x = true) : PI X tg (.Call (.Name "range" p) [x] [] pos) ((TIt X.K M Γ call) (.rng1 e)) := by
  refine (pi_range1 (gl_of (by rw [C.scp]; exact hg)) hm (pa_cons ha pa_nil (plain_star hp)) (plain_star hp)).imp fun σ H R h => ?_
  obtain ⟨F, ext, xv, env, st, hl, post⟩ := h
  simp only [evi] at post
  obtain ⟨r, e1, h1, post⟩ := i_bind post
  obtain ⟨d, o⟩ := r
  cases d <;> simp only at post <;> try exact post.elim
  rename_i n
  by_cases hn : -100000000 ≤ n ∧ n ≤ 100000000
  · rw [if_pos hn] at post
    refine T_sub st hl h1 fun v F1 H1 s1 r1 st1 => ?_
    cases rep_int r1
    refine ⟨n, rfl, by omega, by omega, ?_⟩
    have q := wk_rng (K := X.K) (M := M) (F := F1) (lo := 0) (hi := n)
    rw [Int.sub_zero] at q
    exact post _ F1 H1 s1 st1 q
  · rw [if_neg hn] at post
    exact post.elim
theorem i_rng2 (C : XC X M T L Γ call N sc so k) {tg : Expr} {a b : E} {x y : Expr} {p pos : Pos} (hg : glB sc "range" = true) (hm : X.mg "range" = none) (ha : PE X x ((TEv X.K M Γ call) a)) (hb : PE X y ((TEv X.K M Γ call) b)) (hp : plain x = true) (hq : plain y = true) :
    PI X tg (.Call (.Name "range" p) [x, y] [] pos) ((TIt X.K M Γ call) (.rng2 a b)) := by
  have e2 : starEach [y] X.env = [(false, eval y X.env)] := plain_star hq
  have e1 : starEach [x, y] X.env = [(false, eval x X.env), (false, eval y X.env)] := by
    rw [plain_star hp, e2]
  refine (pi_range2 (gl_of (by rw [C.scp]; exact hg)) hm (pa_cons ha (pa_cons hb pa_nil (plain_star hq)) (plain_star hp)) e1 e2).imp fun σ H R h => ?_
  obtain ⟨F, ext, xv, env, st, hl, post⟩ := h
  simp only [evi] at post
  obtain ⟨r, e1, h1, post⟩ := i_bind post
  obtain ⟨r', e2, h2, post⟩ := i_bind post
  obtain ⟨d, o⟩ := r
  obtain ⟨d', o'⟩ := r'
  cases d <;> cases d' <;> simp only at post <;> try exact post.elim
  rename_i n _ m
  by_cases hn : -100000000 ≤ n ∧ n ≤ 100000000 ∧ -100000000 ≤ m ∧ m ≤ 100000000
  · rw [if_pos hn] at post
    refine T_sub st hl h1 fun v F1 H1 s1 r1 st1 => T_sub st1 hl h2 fun w F2 H2 s2 r2 st2 => ?_
    cases rep_int r1
    cases rep_int r2
    exact ⟨n, m, rfl, ⟨by omega, by omega, by omega, by omega⟩, post _ F2 H2 (s1.trans s2) st2 wk_rng⟩
  · rw [if_neg hn] at post
    exact post.elim
/-- for .. in .. -/
theorem x_for (C : XC X M T L Γ call N sc so k) {it : PL.Src} {tg : Tg} {b : Ss} {t x : Expr} {p : List Stmt} {pos : Pos} (hp : PassesOwn (model X.prog X.w) X.A X.env X.xe) (hi : PI X t x ((TIt X.K M Γ call) it)) (hg : mT N so tg t = true) (hb : PSs X p ((TSs X.K M Γ call io v0) b)) (hs : plain x = true) :
    PS X (.For t x p [] pos) ((TSt X.K M Γ call io v0) (.for it tg b)) := by
  have fo : ∀ v, foldedSetIterable x X.env v = pure v := fun v => by
    cases x <;> first | rfl | (simp [plain] at hs; done)
  refine (ps_for hp C.calm hi (g_of C hg) hb fo).imp fun D σ H h => ?_
  obtain ⟨F, ext, xv, env, st, hl, pn, post⟩ := h
  simp only [ex] at post
  obtain ⟨ds, e1, h1, post⟩ := postS_fl post
  refine ⟨F, ext, xv, env, st, hl, ?_⟩
  rw [h1]
  intro J F1 H1 s1 st1 wk
  refine ⟨fun i m σ' H' => m = ds.length - i ∧ i ≤ ds.length ∧ ∃ F' env', Same F1 F' ∧ Sta X.K M F' H' (ext ++ env') (xv ++ σ') ∧ Pin io v0 σ' ∧ PostS X.K M io v0 F ext xv D (forF (fun d e => bnd io tg (d, false) e) (fun e => exs Γ call io b e) (ds.drop i) env'),
    ⟨_, rfl, Nat.zero_le _, F1, e1, Same.refl _, st1, pn, by rw [List.drop_zero]; exact post⟩, ?_⟩
  rintro i m σ' H' ⟨rfl, hi, F', env', s', st', pn', post'⟩
  have sFH : Same F1 H' := s'.trans st'.same
  by_cases hlt : i < ds.length
  · refine .inr ⟨wk.go i H' sFH hlt, fun σ2 H2 => i + 1 ≤ ds.length ∧ ∃ F2 env2, Same F1 F2 ∧ Sta X.K M F2 H2 (ext ++ env2) (xv ++ σ2) ∧ Pin io v0 σ2 ∧ PostS X.K M io v0 F ext xv D (forF (fun d e => bnd io tg (d, false) e) (fun e => exs Γ call io b e) (ds.drop (i + 1)) env2),
      fun σ2 H2 ⟨hn, q⟩ => ⟨ds.length - (i + 1), by omega, rfl, hn, q⟩, fun y H2 hy => ?_⟩
    obtain ⟨d, hd, hh⟩ := wk.yld i H' y H2 sFH hlt hy
    have hdr : ds.drop i = d :: ds.drop (i + 1) := by
      have e := List.getElem?_eq_some_iff.mp hd
      rw [List.drop_eq_getElem_cons hlt, e.2]
    rw [hdr] at post'
    -- the item stands
    have item : ∃ F2, Same F1 F2 ∧ Same F' F2 ∧ Sta X.K M F2 H2 (some (d, false) :: (ext ++ env')) (some y :: (xv ++ σ')) := by
      rcases hh with ⟨rfl, rd⟩ | ⟨Ta, v, w, a, c, rfl, hT, rfl, rfl, ra, rc⟩
      · exact ⟨F', s', Same.refl _, st'.push (rd.mono s')⟩
      · have sn := st'.new (ob := .tup [v, w]) hT
        have sf : Same F' (upd F' Ta (.tup [v, w])) := same_new (st'.free hT)
        exact ⟨_, s'.trans sf, sf, sn.push (.tup (.inl (.inl upd_same)) (by show 2 ≤ LIM; decide) (.cons ((ra.mono s').mono sf) (.cons ((rc.mono s').mono sf) .nil)))⟩
    obtain ⟨F2, s2, s2', st2⟩ := item
    simp only [forF] at post'
    split at post'
    · rename_i env1 hb1
      refine bnd_ok hl st2 pn' hb1 fun F3 σ3 s3 st3 p3 => ?_
      refine ⟨F3, ext, xv, env1, st3, hl, p3, ?_⟩
      cases hx : exs Γ call io b env1 with
      | nx e2 =>
        rw [hx] at post'
        exact fun F4 H4 σ4 s4 st4 p4 => ⟨hlt, F4, e2, (s2.trans s3).trans s4, st4, p4, post'⟩
      | rt r e2 =>
        rw [hx] at post'
        exact postS_mono (s1.trans (s2.trans s3)) post'
      | exc z e2 =>
        rw [hx] at post'
        exact post'.elim
      | err =>
        rw [hx] at post'
        exact post'.elim
    · exact post'.elim
  · have e : i = ds.length := by omega
    subst e
    rw [List.drop_length] at post'
    exact .inl ⟨wk.stop H' sFH, post' F' H' σ' (s1.trans s') st' pn'⟩
end
end PL
/-! PLLc: comprehensions; zip and enumerate as what is walked. -/
namespace PL
open PySem PySem.Spec PyProof.Rows L2

theorem wipe_get (σ : L2.St) : ∀ (L : List Nat) (j : Nat), (wipe σ L)[j]? = if j ∈ L ∧ j < σ.length then some none else σ[j]?
  | [], j => by simp [wipe]
  | v :: L, j => by
    unfold wipe
    by_cases e : v = j
    · subst e
      by_cases h : v < σ.length
      · rw [List.getElem?_set_self (by rw [wipe_length]; exact h)]
        simp [h]
      · rw [List.getElem?_eq_none (by rw [List.length_set, wipe_length]; omega)]
        simp [h]
    · rw [List.getElem?_set_ne e, wipe_get σ L j]
      have : j ∈ v :: L ↔ j ∈ L := by simp [Ne.symm e]
      simp [this]
theorem wipe_set (σ : L2.St) {L : List Nat} {i : Nat} (x : Option V) (h : i ∈ L) : wipe (σ.set i x) L = wipe σ L := by
  apply List.ext_getElem?
  intro j
  rw [wipe_get, wipe_get, List.length_set]
  by_cases e : j ∈ L ∧ j < σ.length
  · rw [if_pos e, if_pos e]
  · rw [if_neg e, if_neg e]
    by_cases q : i = j
    · subst q
      have : ¬ i < σ.length := fun z => e ⟨h, z⟩
      rw [List.getElem?_eq_none (by rw [List.length_set]; omega), List.getElem?_eq_none (by omega)]
    · rw [List.getElem?_set_ne q]
theorem wipe_wipe (σ : L2.St) (L : List Nat) : wipe (wipe σ L) L = wipe σ L := by
  apply List.ext_getElem?
  intro j
  rw [wipe_get, wipe_length, wipe_get]
  by_cases e : j ∈ L ∧ j < σ.length
  · rw [if_pos e, if_pos e]
  · rw [if_neg e]
theorem gNs_wipe {L : List Nat} {R : L2.St → Hp → Prop} {H : Hp} {w : L2.St} : ∀ {is : List Nat} {vs : List V} {σ : L2.St}, (∀ i ∈ is, i ∈ L) → wipe σ L = w → gNs is vs σ H R → gNs is vs σ H fun σ2 H2 => wipe σ2 L = w ∧ R σ2 H2
  | [], vs, σ, _, e, h => by
    obtain ⟨a, b⟩ := h
    exact ⟨a, e, b⟩
  | i :: is, vs, σ, hm, e, h => by
    obtain ⟨x, r, e1, h⟩ := h
    refine ⟨x, r, e1, ?_⟩
    have q : gNs is r (σ.set i (some x)) H R := h
    exact gNs_wipe (is := is) (fun j hj => hm j (by simp [hj])) (by rw [wipe_set σ _ (hm i (by simp))]; exact e) q
theorem gOf_wipe {K : PySem.W.Frag} {tg : Tg} {v : V} {σ : L2.St} {H : Hp} {R : L2.St → Hp → Prop} (h : gOf K tg v σ H R) : gOf K tg v σ H fun σ2 H2 => wipe σ2 tg.ixs = wipe σ tg.ixs ∧ R σ2 H2 := by
  cases tg with
  | one i => exact ⟨wipe_set σ _ (by simp [Tg.ixs]), h⟩
  | many is =>
    obtain ⟨a, ws, e1, e2, e3, h⟩ := h
    exact ⟨a, ws, e1, e2, e3, gNs_wipe (fun i hi => hi) rfl h⟩

section
variable {K : PySem.W.Frag} {M : Nm} {F H : Hp}
theorem RepE.setv : ∀ {es : List Sl} {vs : List (Option V)} {fp : List Addr} {i : Nat} {w : Option V}, RepE K M F H es vs fp → (∀ p, es[i]? ≠ some (some p)) → RepE K M F H es (vs.set i w) fp
  | _, _, _, _, _, .nil, _ => .nil
  | _, _, _, 0, _, .skip r, _ => .skip r
  | _, _, _, i + 1, _, .skip r, h => .skip (RepE.setv (i := i) r fun p => by simpa using h p)
  | _, _, _, 0, _, .slot _ _, h => by
    exact ((h _) rfl).elim
  | _, _, _, i + 1, _, .slot q r, h => .slot q (RepE.setv (i := i) r fun p => by simpa using h p)
theorem Sta.setv {es : List Sl} {vs : List (Option V)} {i : Nat} {w : Option V} (h : Sta K M F H es vs) (hi : ∀ p, es[i]? ≠ some (some p)) : Sta K M F H es (vs.set i w) := by
  obtain ⟨fp, r, n, f, e⟩ := h
  exact ⟨fp, r.setv hi, n, f, e⟩
theorem sta_wipe1 {A : List Sl} {B : List (Option V)} {env : PL.Fm} {σ : L2.St} {v : Nat} (st : Sta K M F H (A ++ env) (B ++ σ)) (hl : A.length = B.length) : Sta K M F H (A ++ env.set v none) (B ++ σ.set v none) := by
  have q := (st.wipe (i := A.length + v)).setv (i := A.length + v) (w := none) (by
    intro p
    by_cases h : A.length + v < (A ++ env).length
    · rw [List.getElem?_set_self h]
      simp
    · rw [List.getElem?_eq_none (by rw [List.length_set]; omega)]
      simp)
  rw [set_app, hl, set_app] at q
  exact q
theorem sta_wip {A : List Sl} {B : List (Option V)} {env : PL.Fm} {σ : L2.St} (st : Sta K M F H (A ++ env) (B ++ σ)) (hl : A.length = B.length) : ∀ L : List Nat, Sta K M F H (A ++ wip env L) (B ++ wipe σ L)
  | [] => st
  | v :: L => by
    have q := sta_wipe1 (v := v) (sta_wip st hl L) hl
    exact q
theorem sta_frs {A : List Sl} {B : List (Option V)} {env : PL.Fm} {σ : L2.St} (st : Sta K M F H (A ++ env) (B ++ σ)) (hl : A.length = B.length) : ∀ L : List Nat,
    ∃ F', Same F F' ∧ Sta K M F' H (A ++ frs env L) (B ++ σ) ∧ ∀ v ∈ L, ∀ d o, (frs env L)[v]? = some (some (d, o)) → o = false ∧ ∃ w, σ[v]? = some (some w) ∧ Rep K M F' d w
  | [] => ⟨F, Same.refl F, st, fun v h => by simp at h⟩
  | v :: L => by
    obtain ⟨F', s, st', k⟩ := sta_frs st hl L
    by_cases hv : ∃ d o, (frs env L)[v]? = some (some (d, o))
    · obtain ⟨d, o, e⟩ := hv
      obtain ⟨F2, w, s2, hw, r, st2⟩ := sta_settle st' hl e
      have e2 : frs env (v :: L) = (frs env L).set v (some (d, false)) := by
        simp only [frs]
        rw [e]
      rw [e2]
      refine ⟨F2, s.trans s2, st2, fun j hj d' o' e' => ?_⟩
      by_cases q : v = j
      · subst q
        rw [List.getElem?_set_self (List.getElem?_eq_some_iff.mp e).1] at e'
        cases e'
        exact ⟨rfl, w, hw, r⟩
      · rw [List.getElem?_set_ne q] at e'
        obtain ⟨a, w', b, c⟩ := k j (by simpa [Ne.symm q] using hj) d' o' e'
        exact ⟨a, w', b, c.mono s2⟩
    · have e2 : frs env (v :: L) = frs env L := by
        simp only [frs]
        split
        · rename_i d o e
          exact (hv ⟨d, o, e⟩).elim
        · rfl
      rw [e2]
      refine ⟨F', s, st', fun j hj d' o' e' => ?_⟩
      by_cases q : v = j
      · subst q
        exact (hv ⟨d', o', e'⟩).elim
      · exact k j (by simpa [Ne.symm q] using hj) d' o' e'
theorem set_comm' {α : Type} {l : List α} {i j : Nat} {x y : α} (h : i ≠ j) : (l.set i x).set j y = (l.set j y).set i x := List.set_comm x y h
theorem rst_set {e old : PL.Fm} {v : Nat} {x : Sl} : ∀ {L : List Nat}, v ∉ L → rst (e.set v x) old L = (rst e old L).set v x
  | [], _ => rfl
  | u :: L, h => by
    simp only [List.mem_cons, not_or] at h
    show (rst (e.set v x) old L).set u _ = ((rst e old L).set u _).set v x
    rw [rst_set h.2, set_comm' h.1]
/-- back to what stood ahead -/
theorem sta_rst {F0 : Hp} {A : List Sl} {B : List (Option V)} {old : PL.Fm} {σ : L2.St} (s : Same F0 F) (hl : A.length = B.length) (ho : old.length = σ.length) : ∀ {L : List Nat} {e : PL.Fm}, L.Nodup → (∀ v ∈ L, ∀ d o, old[v]? = some (some (d, o)) → o = false ∧ ∃ w, σ[v]? = some (some w) ∧ Rep K M F0 d w) →
    Sta K M F H (A ++ e) (B ++ wipe σ L) → Sta K M F H (A ++ rst e old L) (B ++ σ)
  | [], e, _, _, st => st
  | v :: L, e, nd, k, st => by
    obtain ⟨nv, nd⟩ := List.nodup_cons.mp nd
    have k' : ∀ u ∈ L, ∀ d o, old[u]? = some (some (d, o)) → o = false ∧ ∃ w, σ[u]? = some (some w) ∧ Rep K M F0 d w := fun u hu => k u (by simp [hu])
    have hlen := st.len
    rw [List.length_append, List.length_append, wipe_length] at hlen
    -- the slot v is put back
    have step : Sta K M F H (A ++ e.set v (old[v]?.getD none)) (B ++ wipe σ L) := by
      by_cases hv : ∃ d o, old[v]? = some (some (d, o))
      · obtain ⟨d, o, q⟩ := hv
        obtain ⟨rfl, w, hw, r⟩ := k v (by simp) d o q
        have q1 := sta_put (i := v) (st.push (r.mono s)) hl
        have e1 : (wipe σ (v :: L)).set v (some w) = wipe σ L := by
          apply List.ext_getElem?
          intro j
          show ((((wipe σ L).set v none).set v (some w))[j]?) = _
          rw [List.set_set]
          by_cases z : v = j
          · subst z
            have hv2 : v < σ.length := (List.getElem?_eq_some_iff.mp hw).1
            rw [List.getElem?_set_self (by rw [wipe_length]; exact hv2), wipe_get, if_neg (fun z => nv z.1), hw]
          · rw [List.getElem?_set_ne z]
        rw [e1] at q1
        rw [q]
        exact q1
      · have e0 : old[v]?.getD none = none := by
          cases q : old[v]? with
          | none => rfl
          | some z =>
            cases z with
            | none => rfl
            | some p => exact (hv ⟨p.1, p.2, q⟩).elim
        rw [e0]
        have q1 := st.wipe (i := A.length + v)
        rw [set_app] at q1
        have q2 := q1.setv (i := A.length + v) (w := (wipe σ L)[v]?.getD none) (by
          intro p
          rw [← set_app]
          by_cases h : A.length + v < (A ++ e).length
          · rw [List.getElem?_set_self h]
            simp
          · rw [List.getElem?_eq_none (by rw [List.length_set]; omega)]
            simp)
        rw [hl, set_app] at q2
        have e1 : (wipe σ (v :: L)).set v ((wipe σ L)[v]?.getD none) = wipe σ L := by
          show ((wipe σ L).set v none).set v _ = _
          rw [List.set_set]
          cases z : (wipe σ L)[v]? with
          | none =>
            rw [List.set_eq_of_length_le]
            exact List.getElem?_eq_none_iff.mp z
          | some y => exact set_same_of z
        rw [e1] at q2
        exact q2
    have fin := sta_rst s hl ho nd k' step
    rw [rst_set nv] at fin
    exact fin
end
section
variable {X : Cx} {M : Nm} {T : Ns} {L : Lk} {Γ : Ctx} {call : Nat → List (D × Bool) → CRes} {N : List Str} {sc so : Scope} {k : Nat}
theorem xc_blk (C : XC X M T L Γ call N sc so k) {scope : Scope} {own : List (Str × Nat)} (ok : BlkOk N sc scope own) (s : Shared) (H : Hp) (c : Addr) (cl : List (Str × Addr)) (fp : List Addr) :
    XC (X.blk s H scope (compEnvC scope cl c X.env) fp) M T L Γ call N (relS scope sc) scope k where
  hN := C.hN
  nd := C.nd
  scp := by
    rw [← C.scp]
    rfl
  kind := ok.kind
  sto := fun x hx => by
    have q : ∀ kd : NameKind, kd ≠ .free → scope.names.lookup x = some kd → (relS scope X.env.scope).names.lookup x = some kd := fun kd h e => lookup_relS_keep h e
    unfold stoB at hx
    split at hx
    · rename_i e
      have q1 := q _ (by decide) e
      exact ⟨.inl q1, .inr q1⟩
    · rename_i e
      have q1 := q _ (by decide) e
      refine ⟨.inr q1, .inl ?_⟩
      show (scope.names.lookup x == some NameKind.cell) = true
      rw [e]
      rfl
    · cases hx
  calm := C.calm
  nox := rfl
  room := C.room
  top := C.top
  ar := C.ar
  fns := C.fns
/-- what is walked, with its pairs -/
theorem wk_zip {K : PySem.W.Frag} {F : Hp} {b1 b2 : Bool} {a1 a2 : Addr} {l m : List D} {vs ws : List V} (h1 : SqA K b1 F a1 vs) (h2 : SqA K b2 F a2 ws) (m1 : ∀ H, Same F H → SqA K b1 H a1 vs) (m2 : ∀ H, Same F H → SqA K b2 H a2 ws) (r1 : Reps K M F l vs) (r2 : Reps K M F m ws) :
    Wk K M (JZ K b1 b2 a1 a2) (l.zipWith (fun a b => .tup [a, b]) m) F where
  go := fun i H e hi => ⟨vs, ws, m1 H e, m2 H e, by rw [List.length_zipWith, r1.len, r2.len] at hi; exact hi⟩
  stop := fun H e => ⟨vs, ws, m1 H e, m2 H e, by rw [List.length_zipWith, r1.len, r2.len]⟩
  yld := fun i H x H' e hi y => by
    obtain ⟨Ta, v, w, rfl, hT, rfl, y1, y2⟩ := y
    rw [List.length_zipWith] at hi
    have e1 : l[i]? = some l[i] := by simp
    have e2 : m[i]? = some m[i] := by simp
    obtain ⟨v', hv, rv⟩ := r1.get e1
    obtain ⟨w', hw, rw'⟩ := r2.get e2
    rw [y1 _ (m1 H e)] at hv
    rw [y2 _ (m2 H e)] at hw
    cases hv
    cases hw
    refine ⟨.tup [l[i], m[i]], ?_, .inr ⟨Ta, v, w, _, _, rfl, hT, rfl, rfl, rv, rw'⟩⟩
    rw [List.getElem?_zipWith, e1, e2]
theorem wk_enm {K : PySem.W.Frag} {F : Hp} {b : Bool} {a : Addr} {l : List D} {vs : List V} (m1 : ∀ H, Same F H → SqA K b H a vs) (r1 : Reps K M F l vs) : Wk K M (JE K b a) ((rgD 0 l.length).zipWith (fun a b => .tup [a, b]) l) F where
  go := fun i H e hi => ⟨vs, m1 H e, by
    rw [List.length_zipWith] at hi
    have := r1.len
    omega⟩
  stop := fun H e => ⟨vs, m1 H e, by
    rw [List.length_zipWith, ← r1.len]
    unfold rgD
    simp⟩
  yld := fun i H x H' e hi y => by
    obtain ⟨Ta, v, rfl, hT, rfl, y1⟩ := y
    rw [List.length_zipWith] at hi
    have e1 : l[i]? = some l[i] := by simp
    obtain ⟨v', hv, rv⟩ := r1.get e1
    rw [y1 _ (m1 H e)] at hv
    cases hv
    refine ⟨.tup [.int i, l[i]], ?_, .inr ⟨Ta, .int i, v, _, _, rfl, hT, rfl, rfl, .int _, rv⟩⟩
    have e2 : (rgD 0 l.length)[i]? = some (.int i) := by
      unfold rgD
      rw [List.getElem?_map, List.getElem?_range (by omega)]
      simp
    rw [List.getElem?_zipWith, e1, e2]
/-- what a row or a tuple is, for the walk -/
theorem sq_of {K : PySem.W.Frag} {F : Hp} {d : D} {l : List D} {v : V} (h : d = .lst l ∨ d = .tup l) (r : Rep K M F d v) : ∃ b a vs, v = .ref a ∧ (∀ H, Same F H → SqA K b H a vs) ∧ Reps K M F l vs := by
  rcases h with rfl | rfl
  · obtain ⟨a, ws, rfl, h1, _, r1⟩ := rep_lst r
    exact ⟨false, a, ws, rfl, fun H e => .inl (.inl (e _ _ h1)), r1⟩
  · obtain ⟨a, ws, rfl, h1, _, r1⟩ := rep_tup r
    exact ⟨true, a, ws, rfl, fun H e => same_sqT e h1, r1⟩
theorem i_enm (C : XC X M T L Γ call N sc so k) {elts : List Expr} {kk : Nat} {tp : Pos} {e : E} {x : Expr} {p pos : Pos} (hg : glB sc "enumerate" = true) (ha : PE X x ((TEv X.K M Γ call) e)) (hp : plain x = true) : PI X (.Tuple elts kk tp) (.Call (.Name "enumerate" p) [x] [] pos) ((TIt X.K M Γ call) (.enm e)) := by
  refine (pi_E (gl_of (by rw [C.scp]; exact hg)) C.top.enu (pa_cons ha pa_nil (plain_star hp)) (plain_star hp)).imp fun σ H R h => ?_
  obtain ⟨F, ext, xv, env, st, hl, post⟩ := h
  simp only [evi] at post
  obtain ⟨r, e1, h1, post⟩ := i_bind post
  obtain ⟨d, o⟩ := r
  have go : ∀ l, (d = .lst l ∨ d = .tup l) → (∀ J F' H', Same F F' → Sta X.K M F' H' (ext ++ e1) (xv ++ σ) → Wk X.K M J ((rgD 0 l.length).zipWith (fun a b => .tup [a, b]) l) F' → R J H') → TEv X.K M Γ call e σ H fun v H1 => ∃ b a xs, [v] = [V.ref a] ∧ SqA X.K b H1 a xs ∧ R (JE X.K b a) H1 := fun l hd post => by
    refine T_sub st hl h1 fun v F1 H1 s1 r1 st1 => ?_
    obtain ⟨b, a, vs, rfl, m1, r2⟩ := sq_of hd r1
    exact ⟨b, a, vs, rfl, m1 _ st1.same, post _ F1 H1 s1 st1 (wk_enm m1 r2)⟩
  cases d <;> simp only at post <;> try exact post.elim
  · exact go _ (.inr rfl) post
  · exact go _ (.inl rfl) post
theorem i_zip (C : XC X M T L Γ call N sc so k) {elts : List Expr} {kk : Nat} {tp : Pos} {a b : E} {x y : Expr} {p pos : Pos} (hg : glB sc "zip" = true) (ha : PE X x ((TEv X.K M Γ call) a)) (hb : PE X y ((TEv X.K M Γ call) b)) (hp : plain x = true) (hq : plain y = true) :
    PI X (.Tuple elts kk tp) (.Call (.Name "zip" p) [x, y] [] pos) ((TIt X.K M Γ call) (.zip a b)) := by
  have e2 : starEach [y] X.env = [(false, eval y X.env)] := plain_star hq
  refine (pi_Z (gl_of (by rw [C.scp]; exact hg)) C.top.zip (pa_cons ha (pa_cons hb pa_nil (plain_star hq)) (plain_star hp)) (plain_star hp) (stars_none (by simp [hq]))).imp fun σ H R h => ?_
  obtain ⟨F, ext, xv, env, st, hl, post⟩ := h
  simp only [evi] at post
  obtain ⟨r, e1, h1, post⟩ := i_bind post
  obtain ⟨r', e2, h2, post⟩ := i_bind post
  obtain ⟨d, o⟩ := r
  obtain ⟨d', o'⟩ := r'
  have go : ∀ l m, (d = .lst l ∨ d = .tup l) → (d' = .lst m ∨ d' = .tup m) → (∀ J F' H', Same F F' → Sta X.K M F' H' (ext ++ e2) (xv ++ σ) → Wk X.K M J (l.zipWith (fun a b => .tup [a, b]) m) F' → R J H') →
      TEv X.K M Γ call a σ H fun v H1 => TEv X.K M Γ call b σ H1 fun w H2 => ∃ b1 b2 a1 a2 xs ys, [v, w] = [V.ref a1, V.ref a2] ∧ SqA X.K b1 H2 a1 xs ∧ SqA X.K b2 H2 a2 ys ∧ R (JZ X.K b1 b2 a1 a2) H2 := fun l m hd hd' post => by
    refine T_sub st hl h1 fun v F1 H1 s1 r1 st1 => T_sub st1 hl h2 fun w F2 H2 s2 r2 st2 => ?_
    obtain ⟨b1, a1, vs, rfl, m1, q1⟩ := sq_of hd (r1.mono s2)
    obtain ⟨b2, a2, ws, rfl, m2, q2⟩ := sq_of hd' r2
    exact ⟨b1, b2, a1, a2, vs, ws, rfl, m1 _ st2.same, m2 _ st2.same, post _ F2 H2 (s1.trans s2) st2 (wk_zip (m1 _ (Same.refl _)) (m2 _ (Same.refl _)) m1 m2 q1 q2)⟩
  cases d <;> cases d' <;> simp only at post <;> try exact post.elim
  · exact go _ _ (.inr rfl) (.inr rfl) post
  · exact go _ _ (.inr rfl) (.inl rfl) post
  · exact go _ _ (.inl rfl) (.inr rfl) post
  · exact go _ _ (.inl rfl) (.inl rfl) post
/-- a comprehension's tests -/
def ttC (K : PySem.W.Frag) (M : Nm) (Γ : Ctx) (call : Nat → List (D × Bool) → CRes) : O → TT
  | .none => tYes
  | .some c => TTt K M Γ call c
noncomputable def cndF (Γ : Ctx) (call : Nat → List (D × Bool) → CRes) (c : O) (e : PL.Fm) : Res Bool := match c with
          | .none => .ok true e
          | .some c => (ev Γ call c e).bind fun x e => match x.1 with | .bl b => .ok b e | _ => .err
theorem ttC_sub {c : O} {F H : Hp} {ext : List Sl} {xv : List (Option V)} {σ : L2.St} {env e1 : PL.Fm} {b : Bool} {R : Bool → Hp → Prop} (st : Sta X.K M F H (ext ++ env) (xv ++ σ)) (hl : ext.length = xv.length) (h1 : cndF Γ call c env = .ok b e1)
    (k : ∀ F' H', Same F F' → Sta X.K M F' H' (ext ++ e1) (xv ++ σ) → R b H') : ttC X.K M Γ call c σ H R := by
  cases c with
  | none =>
    cases h1
    exact k F H (Same.refl F) st
  | some c =>
    simp only [cndF] at h1
    cases he : ev Γ call c env with
    | ok x e =>
      rw [he] at h1
      obtain ⟨d, o⟩ := x
      cases d <;> simp only [Res.bind_ok, reduceCtorEq] at h1
      cases h1
      exact Tt_sub st hl he k
    | exc x e =>
      rw [he] at h1
      cases h1
    | err =>
      rw [he] at h1
      cases h1
def PostL (K : PySem.W.Frag) (M : Nm) (F : Hp) (ext : List Sl) (xv : List (Option V)) (σ : L2.St) (r : Res (D × Bool)) (Q : VK) : Prop := PostE K M F ext xv σ r Q
theorem lc_in {it : PL.Src} {tg : Tg} {c : O} {body : E} {σ : L2.St} {H : Hp} {Q : VK} (nd : tg.ixs.Nodup) (h : (TEv X.K M Γ call) (.lc it tg c body) σ H Q) : tLc ((TIt X.K M Γ call) it) (gOf X.K tg) (ttC X.K M Γ call c) ((TEv X.K M Γ call) body) tg.ixs σ H Q := by
  obtain ⟨F, ext, xv, env, st, hl, post⟩ := h
  simp only [ev] at post
  obtain ⟨items, e1, h1, post⟩ := post_bind post
  refine ⟨F, ext, xv, env, st, hl, ?_⟩
  rw [h1]
  intro J F1 H1 s1 st1 wk Da hD
  obtain ⟨F2, s2, st2, own⟩ := sta_frs st1 hl tg.ixs
  generalize hold : frs e1 tg.ixs = old at *
  have hlo : old.length = σ.length := by
    have := st2.len
    rw [List.length_append, List.length_append] at this
    omega
  have st3 := Sta.newL (l := []) (ws := []) st2 hD .nil (by show 0 ≤ LIM; decide)
  have st4 := sta_wip (A := some (.lst [], true) :: ext) (B := some (.ref Da) :: xv) st3 (by simp [hl]) tg.ixs
  have post : PostE X.K M F ext xv σ ((lcF (fun d e => bnd false tg (d, false) e) (fun e => wip e tg.ixs) (cndF Γ call c) (fun e => (ev Γ call body e).bind fun x e => .ok x.1 e) items (wip old tg.ixs) []).bind fun ds e => .ok (.lst ds, true) (rst e old tg.ixs)) Q := by
    cases c <;> exact post
  generalize hbd : (fun d e => bnd false tg (d, false) e : D → PL.Fm → Option PL.Fm) = bd at post
  generalize hwp : (fun e => wip e tg.ixs : PL.Fm → PL.Fm) = wp at post
  generalize hby : (fun e => (ev Γ call body e).bind fun x e => .ok x.1 e : PL.Fm → Res D) = by_ at post
  refine ⟨fun i m H' => m = items.length - i ∧ i ≤ items.length ∧ ∃ F' acc env', Same F2 F' ∧ Sta X.K M F' H' (some (.lst acc, true) :: (ext ++ env')) (some (.ref Da) :: (xv ++ wipe σ tg.ixs)) ∧
      PostE X.K M F ext xv σ ((lcF bd wp (cndF Γ call c) by_ (items.drop i) env' acc).bind fun ds e => .ok (.lst ds, true) (rst e old tg.ixs)) Q,
    ⟨_, rfl, Nat.zero_le _, F2, [], wip old tg.ixs, Same.refl _, st4, post⟩, ?_⟩
  rintro i m H' ⟨rfl, hi, F', acc, env', s', st', post'⟩
  have sFH : Same F1 H' := (s2.trans s').trans st'.same
  by_cases hlt : i < items.length
  · refine .inr ⟨wk.go i H' sFH hlt, fun H2 => i + 1 ≤ items.length ∧ ∃ F' acc env', Same F2 F' ∧ Sta X.K M F' H2 (some (.lst acc, true) :: (ext ++ env')) (some (.ref Da) :: (xv ++ wipe σ tg.ixs)) ∧
      PostE X.K M F ext xv σ ((lcF bd wp (cndF Γ call c) by_ (items.drop (i + 1)) env' acc).bind fun ds e => .ok (.lst ds, true) (rst e old tg.ixs)) Q,
      fun H2 ⟨hn, q⟩ => ⟨items.length - (i + 1), by omega, rfl, hn, q⟩, fun y H2 hy => ?_⟩
    obtain ⟨d, hd, hh⟩ := wk.yld i H' y H2 sFH hlt hy
    have hdr : items.drop i = d :: items.drop (i + 1) := by
      have e := List.getElem?_eq_some_iff.mp hd
      rw [List.drop_eq_getElem_cons hlt, e.2]
    rw [hdr] at post'
    have item : ∃ F3, Same F2 F3 ∧ Sta X.K M F3 H2 (some (d, false) :: ((some (.lst acc, true) :: ext) ++ env')) (some y :: ((some (.ref Da) :: xv) ++ wipe σ tg.ixs)) := by
      rcases hh with ⟨rfl, rd⟩ | ⟨Ta, v, w, a, c, rfl, hT, rfl, rfl, ra, rc⟩
      · exact ⟨F', s', st'.push (rd.mono (s2.trans s'))⟩
      · have sn := st'.new (ob := .tup [v, w]) hT
        have sf : Same F' (upd F' Ta (.tup [v, w])) := same_new (st'.free hT)
        exact ⟨_, s'.trans sf, sn.push (.tup (.inl (.inl upd_same)) (by show 2 ≤ LIM; decide) (.cons ((ra.mono (s2.trans s')).mono sf) (.cons ((rc.mono (s2.trans s')).mono sf) .nil)))⟩
    obtain ⟨F3, s3, st5⟩ := item
    have hl' : (some (D.lst acc, true) :: ext).length = (some (V.ref Da) :: xv).length := by simp [hl]
    simp only [lcF] at post'
    split at post'
    · rename_i env1 hb1
      rw [← hbd] at hb1
      have g := bnd_ok (io := false) (v0 := none) (R := fun σ2 H2' => ∃ F4, Same F3 F4 ∧ Sta X.K M F4 H2' ((some (.lst acc, true) :: ext) ++ env1) ((some (.ref Da) :: xv) ++ σ2)) hl' st5 (fun z => nomatch z) hb1 fun F4 σ2 s4 st6 _ => ⟨F4, s4, st6⟩
      have g2 := gOf_wipe g
      rw [wipe_wipe] at g2
      have gm : ∀ {R R' : L2.St → Hp → Prop}, (∀ σ2 H2, R σ2 H2 → R' σ2 H2) → ∀ {σ : L2.St} {H : Hp}, gOf X.K tg y σ H R → gOf X.K tg y σ H R' := by
        intro R R' hm σ H h
        have gn : ∀ {is : List Nat} {vs : List V} {σ : L2.St}, gNs is vs σ H R → gNs is vs σ H R' := by
          intro is
          induction is with
          | nil => exact fun ⟨a, b⟩ => ⟨a, hm _ _ b⟩
          | cons i is ih => exact fun ⟨v, r, e, h⟩ => ⟨v, r, e, ih h⟩
        cases tg with
        | one i => exact hm _ _ h
        | many is =>
          obtain ⟨a, ws, q1, q2, q3, h⟩ := h
          exact ⟨a, ws, q1, q2, q3, gn h⟩
      refine gm (fun σ2 H3 hq => ?_) g2
      obtain ⟨hw, F4, s4, st6⟩ := hq
      refine ⟨hw, ?_⟩
      cases hc2 : cndF Γ call c env1 with
      | exc x e =>
        rw [hc2] at post'
        exact post'.elim
      | err =>
        rw [hc2] at post'
        exact post'.elim
      | ok b e2 =>
        rw [hc2] at post'
        simp only [Res.bind_ok] at post'
        refine ttC_sub st6 hl' hc2 fun F5 H5 s5 st7 => ?_
        cases b with
        | false =>
          rw [if_neg Bool.false_ne_true] at post' ⊢
          have st8 := sta_wip st7 hl' tg.ixs
          rw [hw] at st8
          rw [← hwp] at post'
          exact ⟨hlt, F5, acc, _, (s3.trans s4).trans s5, st8, by rw [← hwp]; exact post'⟩
        | true =>
          rw [if_pos rfl] at post' ⊢
          rw [← hby] at post'
          cases hb2 : ev Γ call body e2 with
          | exc x e =>
            simp only [hb2] at post'
            exact post'.elim
          | err =>
            simp only [hb2] at post'
            exact post'.elim
          | ok x e3 =>
            simp only [hb2, Res.bind_ok] at post'
            refine T_sub st7 hl' hb2 fun v F6 H6 s6 r6 st8 => ?_
            by_cases hz : acc.length < LIM
            · rw [if_pos hz] at post'
              obtain ⟨a, ws, ea, ha, z1, r1⟩ := Sta.headL st8
              cases ea
              have hlen := r1.len
              refine ⟨ws, ha, lim_lt (by omega), hlt, F6, acc ++ [x.1], wip e3 tg.ixs, ((s3.trans s4).trans s5).trans s6, ?_, ?_⟩
              · have st9 := Sta.mut (l' := acc ++ [x.1]) st8 (r1.snoc r6) (by rw [List.length_append, List.length_singleton]; omega)
                have st10 := sta_wip (A := some (.lst (acc ++ [x.1]), true) :: ext) (B := some (.ref Da) :: xv) st9 (by simp [hl]) tg.ixs
                rw [hw] at st10
                exact st10
              · rw [← hby]
                rw [← hwp] at post' ⊢
                exact post'
            · rw [if_neg hz] at post'
              exact post'.elim
    · exact post'.elim
  · have e : i = items.length := by omega
    subst e
    rw [List.drop_length] at post'
    refine .inl ⟨wk.stop H' sFH, ?_⟩
    have st5 := sta_rst (F0 := F2) (A := some (.lst acc, true) :: ext) (B := some (.ref Da) :: xv) s' (by simp [hl]) hlo nd own st'
    exact post' _ F' H' ((s1.trans s2).trans s') st5
theorem ownT_map (N : List Str) (is : List Nat) : (ownT N is).map (·.2) = is := by
  unfold ownT
  rw [List.map_map]
  exact List.map_id is
theorem fo_of {x : Expr} {env : PySem.Env} (hs : plain x = true) : ∀ v, foldedSetIterable x env v = pure v := fun v => by
  cases x <;> first | rfl | (simp [plain] at hs; done)
theorem s_lc (C : XC X M T L Γ call N sc so k) {it : PL.Src} {tg : Tg} {c : O} {body : E} {el t x : Expr} {ifs : List Expr} {scope : Scope} {pos : Pos} (hs : plain x = true) (hi : PI X t x ((TIt X.K M Γ call) it)) (hb : blkC N sc scope (ownT N tg.ixs) = true) (nd : tg.ixs.Nodup) (hg : mT N scope tg t = true)
    (ht : ∀ X', XC X' M T L Γ call N (relS scope sc) scope k → X'.K = X.K → PTs X' ifs (ttC X'.K M Γ call c)) (he : ∀ X', XC X' M T L Γ call N (relS scope sc) scope k → X'.K = X.K → PE X' el (TEv X'.K M Γ call body)) :
    PE X (.ListComp el [⟨t, x, ifs, 0⟩] scope pos) ((TEv X.K M Γ call) (.lc it tg c body)) := by
  have ok := blkOk_by hb
  have ok' : BlkOk X.N X.env.scope scope (ownT N tg.ixs) := by
    rw [C.hN, C.scp]
    exact ok
  refine (pe_lc (own := ownT N tg.ixs) (g := gOf X.K tg) (tt := ttC X.K M Γ call c) (te := (TEv X.K M Γ call) body) C.calm (by rw [C.hN]; exact C.nd) hi ok' (fun s H c' cl fp => ?_) (fun s H c' cl fp => ?_) (fun s H c' cl fp => ?_) (hs := fo_of hs)).imp fun σ H Q h => ?_
  · exact g_of (xc_blk C ok s H c' cl fp) hg
  · exact ht _ (xc_blk C ok s H c' cl fp) rfl
  · exact he _ (xc_blk C ok s H c' cl fp) rfl
  · rw [ownT_map]
    exact lc_in nd h
theorem x_setLc (C : XC X M T L Γ call N sc so k) {io : Bool} {v0 : Option V} {i : Nat} {y : Str} {py spos : Pos} {it : PL.Src} {tg : Tg} {c : O} {body : E} {el t x : Expr} {ifs : List Expr} {scope : Scope} {pos : Pos} (h1 : N[i]? = some y) (h2 : sc.names.lookup y = some .local) (hln : (py.line == pos.line) = true)
    (hany : (scope.names.any fun (n, k) => n == y && (k == .local || k == .cell)) = false) (hs : plain x = true) (hi : PI X t x ((TIt X.K M Γ call) it)) (hb : blkC N sc scope (ownT N tg.ixs) = true) (nd : tg.ixs.Nodup) (hg : mT N scope tg t = true)
    (ht : ∀ X', XC X' M T L Γ call N (relS scope sc) scope k → X'.K = X.K → PTs X' ifs (ttC X'.K M Γ call c)) (he : ∀ X', XC X' M T L Γ call N (relS scope sc) scope k → X'.K = X.K → PE X' el (TEv X'.K M Γ call body)) :
    PS X (.Assign [.Name y py] (.ListComp el [⟨t, x, ifs, 0⟩] scope pos) spos) (TSt X.K M Γ call io v0 (.asg (.one i) (.lc it tg c body))) := by
  have ok := blkOk_by hb
  have ok' : BlkOk X.N X.env.scope scope (ownT N tg.ixs) := by
    rw [C.hN, C.scp]
    exact ok
  refine (ps_setLc (i := i) (own := ownT N tg.ixs) (g := gOf X.K tg) (tt := ttC X.K M Γ call c) (te := (TEv X.K M Γ call) body) C.calm (by rw [C.hN]; exact C.nd) (by rw [C.hN]; exact h1) (by rw [C.scp]; exact h2)
    (sw_true (by rw [C.scp]; exact C.kind) (by rw [C.scp]; exact h2) hln hany) hi ok' (fun s H c' cl fp => ?_) (fun s H c' cl fp => ?_) (fun s H c' cl fp => ?_) (hs := fo_of hs)).imp fun D σ H h => ?_
  · exact g_of (xc_blk C ok s H c' cl fp) hg
  · exact ht _ (xc_blk C ok s H c' cl fp) rfl
  · exact he _ (xc_blk C ok s H c' cl fp) rfl
  · rw [ownT_map]
    obtain ⟨F, ext, xv, env, st, hl, pn, post⟩ := h
    simp only [ex] at post
    obtain ⟨r, e1, h1, post⟩ := postS_fl post
    split at post
    · rename_i env1 hb
      exact lc_in nd (T_keep st hl h1 fun v F1 H1 s1 st1 => bnd_ok (tg := .one i) hl st1 pn hb fun F2 σ2 s2 st2 p2 => post F2 H1 σ2 (s1.trans s2) st2 p2)
    · exact post.elim
end
end PL
/-! PLMain: every matched text keeps its reckoning. -/
namespace PL
open PySem PySem.Spec PyProof.Rows L2

theorem plainT_of {e : Expr} {env : PySem.Env} (h : plainT e = true) : ∀ whole, isTrue e env whole = (do let v ← whole; standAt e.pos; holding [v] (truthy v)) := by
  intro w
  cases e <;> first | rfl | (simp [plainT] at h; done)
section
variable {X : Cx} {M : Nm} {T : Ns} {L : Lk} {Γ : Ctx} {call : Nat → List (D × Bool) → CRes} {N : List Str} {sc so : Scope} {k : Nat} {io : Bool} {v0 : Option V}

/-- what holds of a matched expression -/
structure Sx (X : Cx) (M : Nm) (Γ : Ctx) (call : Nat → List (D × Bool) → CRes) (e : E) (pe : Expr) : Prop where
  v : PE X pe (TEv X.K M Γ call e)
  t : plainT pe = true ∨ (∃ a b c d, pe = .Compare a b c d) ∨ (∃ a b c, pe = .BoolOp a b c) ∨ (∃ a b, pe = .UnaryOp .Not a b) → PT X pe (TTt X.K M Γ call e)
  w : (∃ a b c, pe = .BoolOp a b c) → PW X pe (TTt X.K M Γ call e)
theorem sx_plain {e : E} {pe : Expr} (h : PE X pe ((TEv X.K M Γ call) e)) (hp : plainT pe = true) : Sx X M Γ call e pe :=
  ⟨h, fun _ => t_val h (plainT_of hp), fun ⟨a, b, c, e⟩ => by rw [e] at hp; simp [plainT] at hp⟩
theorem sx_other {e : E} {pe : Expr} (h : PE X pe ((TEv X.K M Γ call) e)) (hp : plainT pe = false) (h1 : ∀ a b c d, pe ≠ .Compare a b c d) (h2 : ∀ a b c, pe ≠ .BoolOp a b c) (h3 : ∀ a b, pe ≠ .UnaryOp .Not a b) : Sx X M Γ call e pe :=
  ⟨h, fun z => by
    rcases z with z | ⟨a, b, c, d, z⟩ | ⟨a, b, c, z⟩ | ⟨a, b, z⟩
    · rw [hp] at z
      cases z
    · exact (h1 _ _ _ _ z).elim
    · exact (h2 _ _ _ z).elim
    · exact (h3 _ _ z).elim, fun ⟨a, b, c, z⟩ => (h2 _ _ _ z).elim⟩
theorem tOk_of {pe : Expr} (h : tOk pe = true) : plainT pe = true ∨ (∃ a b c d, pe = .Compare a b c d) ∨ (∃ a b c, pe = .BoolOp a b c) ∨ (∃ a b, pe = .UnaryOp .Not a b) := by
  unfold tOk at h
  rw [Bool.or_eq_true] at h
  rcases h with h | h
  · exact .inl h
  · split at h <;> first | cases h | skip
    · exact .inr (.inl ⟨_, _, _, _, rfl⟩)
    · exact .inr (.inr (.inl ⟨_, _, _, rfl⟩))
    · exact .inr (.inr (.inr ⟨_, _, rfl⟩))

theorem mTy_one {sc : Scope} : ∀ {ts : List Ty} {y : Expr}, mTy sc ts [y] = true → ∃ t x p, ts = [t] ∧ y = .Name x p ∧ x = tyN t ∧ glB sc x = true
  | [], y, h => by simp [mTy] at h
  | [t], y, h => by
    cases y with
    | Name x p =>
      simp only [mTy, Bool.and_eq_true] at h
      exact ⟨t, x, p, rfl, rfl, of_decide_eq_true h.1.1, h.1.2⟩
    | _ => simp [mTy] at h
  | _ :: _ :: _, y, h => by
    cases y with
    | Name x p => simp [mTy] at h
    | _ => simp [mTy] at h
mutual
theorem snd_E : ∀ (e : E) (pe : Expr) (X : Cx) (sc so : Scope), XC X M T L Γ call N sc so k → mE T N sc e pe = true → Sx X M Γ call e pe
  | .var i, pe, X, sc, so, C, h => by
    simp only [mE, Bool.and_eq_true] at h
    obtain ⟨_, h⟩ := h
    cases pe <;> simp only [Bool.false_eq_true] at h
    simp only [Bool.and_eq_true] at h
    exact sx_plain (s_var C (of_decide_eq_true h.1.1) h.1.2 h.2) rfl
  | .cst d, pe, X, sc, so, C, h => by
    simp only [mE, Bool.and_eq_true] at h
    obtain ⟨_, h⟩ := h
    cases pe <;> simp only [Bool.false_eq_true] at h
    exact sx_other (s_cst h) rfl (fun _ _ _ _ z => nomatch z) (fun _ _ _ z => nomatch z) fun _ _ z => nomatch z
  | .glb g, pe, X, sc, so, C, h => by
    simp only [mE, Bool.and_eq_true] at h
    obtain ⟨_, h⟩ := h
    cases pe <;> simp only [Bool.false_eq_true] at h
    simp only [Bool.and_eq_true] at h
    obtain ⟨⟨⟨h1, h2⟩, h3⟩, h4⟩ := h
    obtain rfl := of_decide_eq_true h1
    exact sx_plain (s_glb C h2 h3 (by simpa using h4)) rfl
  | .bin op a b, pe, X, sc, so, C, h => by
    simp only [mE, Bool.and_eq_true] at h
    obtain ⟨_, h⟩ := h
    cases pe <;> simp only [Bool.false_eq_true] at h
    simp only [Bool.and_eq_true] at h
    obtain ⟨⟨h1, h2⟩, h3⟩ := h
    obtain rfl := of_decide_eq_true h1
    exact sx_other (s_bin C (snd_E a _ X sc so C h2).v (snd_E b _ X sc so C h3).v) rfl (fun _ _ _ _ z => nomatch z) (fun _ _ _ z => nomatch z) fun _ _ z => nomatch z
  | .neg a, pe, X, sc, so, C, h => by
    simp only [mE, Bool.and_eq_true] at h
    obtain ⟨_, h⟩ := h
    split at h <;> first | cases h | skip
    exact sx_other (s_neg C (snd_E a _ X sc so C h).v) rfl (fun _ _ _ _ z => nomatch z) (fun _ _ _ z => nomatch z) fun _ _ z => nomatch z
  | .cmp op a b, pe, X, sc, so, C, h => by
    simp only [mE, Bool.and_eq_true] at h
    obtain ⟨_, h⟩ := h
    split at h <;> first | cases h | skip
    simp only [Bool.and_eq_true] at h
    obtain ⟨⟨h1, h2⟩, h3⟩ := h
    obtain rfl := of_decide_eq_true h1
    have A := (snd_E a _ X sc so C h2).v
    have B := (snd_E b _ X sc so C h3).v
    exact ⟨s_cmp C A B (mE_plain T N h3), fun _ => t_cmp C A B (mE_plain T N h3), fun ⟨_, _, _, z⟩ => nomatch z⟩
  | .cmpv op v b, pe, X, sc, so, C, h => by
    simp only [mE, Bool.and_eq_true] at h
    obtain ⟨_, h⟩ := h
    split at h <;> first | cases h | skip
    simp only [Bool.and_eq_true] at h
    obtain ⟨⟨⟨⟨h1, h2⟩, h3⟩, h4⟩, h5⟩ := h
    obtain rfl := of_decide_eq_true h1
    have B := (snd_E b _ X sc so C h5).v
    exact ⟨s_cmpv C (of_decide_eq_true h2) h3 h4 B (mE_plain T N h5), fun _ => t_cmpv C (of_decide_eq_true h2) h3 h4 B (mE_plain T N h5), fun ⟨_, _, _, z⟩ => nomatch z⟩
  | .chn o p a b c, pe, X, sc, so, C, h => by
    simp only [mE, Bool.and_eq_true] at h
    obtain ⟨_, h⟩ := h
    split at h <;> first | cases h | skip
    simp only [Bool.and_eq_true] at h
    obtain ⟨⟨⟨⟨h1, h2⟩, h3⟩, h4⟩, h5⟩ := h
    obtain rfl := of_decide_eq_true h1
    obtain rfl := of_decide_eq_true h2
    have A := (snd_E a _ X sc so C h3).v
    have B := (snd_E b _ X sc so C h4).v
    have D := (snd_E c _ X sc so C h5).v
    exact ⟨s_chn C A B D (mE_plain T N h5), fun _ => t_chn C A B D (mE_plain T N h5), fun ⟨_, _, _, z⟩ => nomatch z⟩
  | .din neg a b, pe, X, sc, so, C, h => by simp [mE] at h
  | .and a b, pe, X, sc, so, C, h => by
    simp only [mE, Bool.and_eq_true] at h
    obtain ⟨_, h⟩ := h
    split at h <;> first | cases h | skip
    · simp only [Bool.and_eq_true] at h
      have A := snd_E a _ X sc so C h.1.1
      have B := snd_E b _ X sc so C h.1.2
      rename_i x y pos _
      have W : PW X (.BoolOp .And [x, y] pos) (TTt X.K M Γ call (.and a b)) := (pw_and (A.t (tOk_of h.2.1)) (pw_and1 (B.t (tOk_of h.2.2)))).imp fun σ H Q q => andT_in q
      exact ⟨(pe_and A.v (pe_one B.v)).imp fun σ H Q q => and_in q, fun _ => W.pt, fun _ => W⟩
    · simp only [Bool.and_eq_true] at h
      have A := snd_E a _ X sc so C h.1.1
      have B := snd_E b _ X sc so C h.1.2
      have W := (pw_and (A.t (tOk_of h.2)) (B.w ⟨_, _, _, rfl⟩)).imp fun σ H Q q => andT_in q
      exact ⟨(pe_and A.v B.v).imp fun σ H Q q => and_in q, fun _ => W.pt, fun _ => W⟩
  | .or a b, pe, X, sc, so, C, h => by
    simp only [mE, Bool.and_eq_true] at h
    obtain ⟨_, h⟩ := h
    split at h <;> first | cases h | skip
    · simp only [Bool.and_eq_true] at h
      have A := snd_E a _ X sc so C h.1.1
      have B := snd_E b _ X sc so C h.1.2
      rename_i x y pos _
      have W : PW X (.BoolOp .Or [x, y] pos) (TTt X.K M Γ call (.or a b)) := (pw_or (A.t (tOk_of h.2.1)) (pw_or1 (B.t (tOk_of h.2.2)))).imp fun σ H Q q => orT_in q
      exact ⟨(pe_or A.v (pe_one B.v)).imp fun σ H Q q => or_in q, fun _ => W.pt, fun _ => W⟩
    · simp only [Bool.and_eq_true] at h
      have A := snd_E a _ X sc so C h.1.1
      have B := snd_E b _ X sc so C h.1.2
      have W := (pw_or (A.t (tOk_of h.2)) (B.w ⟨_, _, _, rfl⟩)).imp fun σ H Q q => orT_in q
      exact ⟨(pe_or A.v B.v).imp fun σ H Q q => or_in q, fun _ => W.pt, fun _ => W⟩
  | .not a, pe, X, sc, so, C, h => by
    simp only [mE, Bool.and_eq_true] at h
    obtain ⟨_, h⟩ := h
    split at h <;> first | cases h | skip
    simp only [Bool.and_eq_true] at h
    have A := snd_E a _ X sc so C h.1
    exact ⟨(pe_not A.v).imp fun σ H Q q => not_in q, fun _ => (pt_not (A.t (tOk_of h.2))).imp fun σ H Q q => notT_in q, fun ⟨_, _, _, z⟩ => nomatch z⟩
  | .ifx c a b, pe, X, sc, so, C, h => by
    simp only [mE, Bool.and_eq_true] at h
    obtain ⟨_, h⟩ := h
    split at h <;> first | cases h | skip
    simp only [Bool.and_eq_true] at h
    obtain ⟨⟨⟨h1, h2⟩, h3⟩, h4⟩ := h
    exact sx_other ((pe_ifExp ((snd_E c _ X sc so C h1).t (tOk_of h4)) (snd_E a _ X sc so C h2).v (snd_E b _ X sc so C h3).v).imp fun σ H Q q => ifx_in q) rfl (fun _ _ _ _ z => nomatch z) (fun _ _ _ z => nomatch z) fun _ _ z => nomatch z
  | .tup es, pe, X, sc, so, C, h => by
    simp only [mE, Bool.and_eq_true] at h
    obtain ⟨_, h⟩ := h
    split at h <;> first | cases h | skip
    exact sx_other (s_tup (snd_Es es _ X sc so C h).1) rfl (fun _ _ _ _ z => nomatch z) (fun _ _ _ z => nomatch z) fun _ _ z => nomatch z
  | .lst es, pe, X, sc, so, C, h => by
    simp only [mE, Bool.and_eq_true] at h
    obtain ⟨_, h⟩ := h
    split at h <;> first | cases h | skip
    exact sx_other (s_lst (snd_Es es _ X sc so C h).1) rfl (fun _ _ _ _ z => nomatch z) (fun _ _ _ z => nomatch z) fun _ _ z => nomatch z
  | .idx a i, pe, X, sc, so, C, h => by
    simp only [mE, Bool.and_eq_true] at h
    obtain ⟨_, h⟩ := h
    split at h <;> first | cases h | skip
    simp only [Bool.and_eq_true] at h
    exact sx_plain (s_idx (snd_E a _ X sc so C h.1).v (snd_E i _ X sc so C h.2).v (mE_plain T N h.2)) rfl
  | .idxv v i, pe, X, sc, so, C, h => by
    simp only [mE, Bool.and_eq_true] at h
    obtain ⟨_, h⟩ := h
    split at h <;> first | cases h | skip
    simp only [Bool.and_eq_true] at h
    obtain ⟨⟨⟨h2, h3⟩, h4⟩, h5⟩ := h
    exact sx_plain (s_idxv C (of_decide_eq_true h2) h3 h4 (snd_E i _ X sc so C h5).v (mE_plain T N h5)) rfl
  | .slc a lo hi, pe, X, sc, so, C, h => by
    simp only [mE, Bool.and_eq_true] at h
    obtain ⟨_, h⟩ := h
    split at h <;> first | cases h | skip
    simp only [Bool.and_eq_true] at h
    exact sx_plain (s_slc (snd_E a _ X sc so C h.1.1).v (snd_O lo _ X sc so C h.1.2) (snd_O hi _ X sc so C h.2)) rfl
  | .atr p f, pe, X, sc, so, C, h => by simp [mE] at h
  | .isI a ts, pe, X, sc, so, C, h => by
    simp only [mE, Bool.and_eq_true] at h
    obtain ⟨_, h⟩ := h
    split at h <;> first | cases h | skip
    · simp only [Bool.and_eq_true] at h
      obtain ⟨⟨⟨⟨h1, h2⟩, h3⟩, h4⟩, h5⟩ := h
      obtain rfl := of_decide_eq_true h1
      exact sx_plain (s_isiT C h2 (snd_E a _ X sc so C h3).v (mE_plain T N h3) h4 (of_decide_eq_true h5)) rfl
    · simp only [Bool.and_eq_true] at h
      obtain ⟨⟨⟨h1, h2⟩, h3⟩, h4⟩ := h
      obtain rfl := of_decide_eq_true h1
      obtain ⟨t, z, p, rfl, rfl, h5, h6⟩ := mTy_one h4
      exact sx_plain (s_isi1 C h2 (snd_E a _ X sc so C h3).v (mE_plain T N h3) h5 h6) rfl
  | .bi b es, pe, X, sc, so, C, h => by
    simp only [mE, Bool.and_eq_true] at h
    obtain ⟨_, h⟩ := h
    split at h <;> first | cases h | skip
    simp only [Bool.and_eq_true] at h
    obtain ⟨⟨⟨h1, h2⟩, h3⟩, h4⟩ := h
    obtain rfl := of_decide_eq_true h1
    obtain ⟨A, B⟩ := snd_Es es _ X sc so C h4
    exact sx_plain (s_bi C h2 h3 A B) rfl
  | .lenp p, pe, X, sc, so, C, h => by simp [mE] at h
  | .bm m o a, pe, X, sc, so, C, h => by
    simp only [mE, Bool.and_eq_true] at h
    obtain ⟨_, h⟩ := h
    split at h <;> first | cases h | skip
    simp only [Bool.and_eq_true] at h
    obtain ⟨⟨⟨⟨⟨h1, h2⟩, h3⟩, h4⟩, h5⟩, h6⟩ := h
    obtain rfl := of_decide_eq_true h1
    exact sx_plain (s_bm h2 h3 h4 (snd_E o _ X sc so C h5).v (snd_E a _ X sc so C h6).v (mE_plain T N h6)) rfl
  | .fn f es, pe, X, sc, so, C, h => by
    simp only [mE, Bool.and_eq_true] at h
    obtain ⟨_, h⟩ := h
    split at h <;> first | cases h | skip
    simp only [Bool.and_eq_true] at h
    obtain ⟨⟨⟨⟨h1, h2⟩, h3⟩, h4⟩, h5⟩ := h
    obtain rfl := of_decide_eq_true h1
    obtain ⟨A, B⟩ := snd_Es es _ X sc so C h5
    refine sx_plain (s_fn C h2 h3 (by simpa using h4) A B fun e => ?_) rfl
    subst e
    cases es with
    | nil => rfl
    | cons _ _ => simp [mEs] at h5
  | .fnv f v es, pe, X, sc, so, C, h => by
    simp only [mE, Bool.and_eq_true] at h
    obtain ⟨_, h⟩ := h
    split at h <;> first | cases h | skip
    simp only [Bool.and_eq_true] at h
    obtain ⟨⟨⟨⟨⟨⟨⟨h1, h2⟩, h3⟩, h4⟩, h5⟩, h6⟩, h7⟩, h8⟩ := h
    obtain rfl := of_decide_eq_true h1
    obtain ⟨A, B⟩ := snd_Es es _ X sc so C h8
    exact sx_plain (s_fnv C h2 h3 (by simpa using h4) (of_decide_eq_true h5) h6 h7 A B) rfl
  | .fnk f es k, pe, X, sc, so, C, h => by simp [mE] at h
  | .mth o m es, pe, X, sc, so, C, h => by simp [mE] at h
  | .mthp p m es, pe, X, sc, so, C, h => by simp [mE] at h
  | .new c es, pe, X, sc, so, C, h => by simp [mE] at h
  | .pop x i, pe, X, sc, so, C, h => by simp [mE] at h
  | .lc it tg c body, pe, X, sc, so, C, h => by
    simp only [mE, Bool.and_eq_true] at h
    obtain ⟨_, h⟩ := h
    split at h <;> first | cases h | skip
    rename_i el t x ifs ab scope pos _
    simp only [Bool.and_eq_true] at h
    obtain ⟨⟨⟨⟨⟨h0, h1⟩, h2, h3⟩, h4⟩, h5⟩, h6⟩ := h
    obtain rfl := of_decide_eq_true h0
    refine sx_other (s_lc C (mI_plain T N h1) (snd_I it x X sc so C h1) h2 (of_decide_eq_true h3) h4 (fun X' C' _ => snd_If c ifs X' _ _ C' h5) fun X' C' _ => (snd_E body el X' _ _ C' h6).v) rfl (fun _ _ _ _ z => nomatch z) (fun _ _ _ z => nomatch z) fun _ _ z => nomatch z
  | .lc2 it tg it2 tg2 body, pe, X, sc, so, C, h => by simp [mE] at h
  | .dc it tg k v, pe, X, sc, so, C, h => by simp [mE] at h
theorem snd_Es : ∀ (es : Es) (pe : List Expr) (X : Cx) (sc so : Scope), XC X M T L Γ call N sc so k → mEs T N sc es pe = true → PA X pe (TEs X.K M Γ call es) ∧ pe.all plain = true
  | .nil, pe, X, sc, so, C, h => by
    simp only [mEs] at h
    split at h <;> first | cases h | skip
    exact ⟨s_nil, rfl⟩
  | .cons a r, pe, X, sc, so, C, h => by
    have hp := mEs_plain T N h
    simp only [mEs] at h
    split at h <;> first | cases h | skip
    simp only [Bool.and_eq_true] at h
    exact ⟨s_cons (snd_E a _ X sc so C h.1).v (snd_Es r _ X sc so C h.2).1 (mE_plain T N h.1), hp⟩
theorem snd_O : ∀ (o : O) (pe : Option Expr) (X : Cx) (sc so : Scope), XC X M T L Γ call N sc so k → mO T N sc o pe = true → PO X pe (TOo X.K M Γ call o)
  | .none, pe, X, sc, so, C, h => by
    simp only [mO] at h
    split at h <;> first | cases h | skip
    exact s_onone
  | .some a, pe, X, sc, so, C, h => by
    simp only [mO] at h
    split at h <;> first | cases h | skip
    exact s_osome (snd_E a _ X sc so C h).v
theorem snd_If : ∀ (o : O) (pe : List Expr) (X : Cx) (sc so : Scope), XC X M T L Γ call N sc so k → mIf T N sc o pe = true → PTs X pe (ttC X.K M Γ call o)
  | .none, pe, X, sc, so, C, h => by
    simp only [mIf] at h
    split at h <;> first | cases h | skip
    exact pts_nil
  | .some a, pe, X, sc, so, C, h => by
    simp only [mIf] at h
    split at h <;> first | cases h | skip
    simp only [Bool.and_eq_true] at h
    exact pts_one ((snd_E a _ X sc so C h.1).t (tOk_of h.2))
theorem snd_I : ∀ (it : PL.Src) (x : Expr) (X : Cx) (sc so : Scope), XC X M T L Γ call N sc so k → ∀ {tg : Expr}, mI T N sc it tg x = true → PI X tg x (TIt X.K M Γ call it)
  | .seq e, x, X, sc, so, C, tg, h => i_seq (snd_E e x X sc so C h).v
  | .rng1 e, x, X, sc, so, C, tg, h => by
    simp only [mI] at h
    split at h <;> first | cases h | skip
    simp only [Bool.and_eq_true] at h
    obtain ⟨⟨h1, h2⟩, h3⟩ := h
    obtain rfl := of_decide_eq_true h1
    exact i_rng1 C h2 C.top.rng (snd_E e _ X sc so C h3).v (mE_plain T N h3)
  | .rng2 a b, x, X, sc, so, C, tg, h => by
    simp only [mI] at h
    split at h <;> first | cases h | skip
    simp only [Bool.and_eq_true] at h
    obtain ⟨⟨⟨h1, h2⟩, h3⟩, h4⟩ := h
    obtain rfl := of_decide_eq_true h1
    exact i_rng2 C h2 C.top.rng (snd_E a _ X sc so C h3).v (snd_E b _ X sc so C h4).v (mE_plain T N h3) (mE_plain T N h4)
  | .pek p, x, X, sc, so, C, tg, h => by simp [mI] at h
  | .enm e, x, X, sc, so, C, tg, h => by
    simp only [mI] at h
    split at h <;> first | cases h | skip
    simp only [Bool.and_eq_true] at h
    obtain ⟨⟨h1, h2⟩, h3⟩ := h
    obtain rfl := of_decide_eq_true h1
    exact i_enm C h2 (snd_E e _ X sc so C h3).v (mE_plain T N h3)
  | .zip a b, x, X, sc, so, C, tg, h => by
    simp only [mI] at h
    split at h <;> first | cases h | skip
    simp only [Bool.and_eq_true] at h
    obtain ⟨⟨⟨h1, h2⟩, h3⟩, h4⟩ := h
    obtain rfl := of_decide_eq_true h1
    exact i_zip C h2 (snd_E a _ X sc so C h3).v (snd_E b _ X sc so C h4).v (mE_plain T N h3) (mE_plain T N h4)
  | .vals e, x, X, sc, so, C, tg, h => by simp [mI] at h
end
end
end PL
/-! PLSw: how several stores at once are made; the statements' matching; every matched block keeps its reckoning. -/
namespace PL
open PySem PySem.Spec PyProof.Rows L2
def swN (sc : Scope) (ts : List Expr) : List Str := ts.filterMap fun
    | .Name id pos => if sc.names.lookup id == some .local && pos.line == (ts.head?.map (·.pos.line)).getD 0 then some id else none
    | _ => none
/-- some true: the names at once; some false: by way of a pair; none: not carried -/
def swv (sc : Scope) (ts vs : List Expr) : Option Bool :=
  if (!(ts.length == 2 || ts.length == 3) || vs.length != ts.length) = true then some false
  else if vs.all plain = false then none
  else if ((swN sc ts).length != ts.length || (swN sc ts).eraseDups.length != (swN sc ts).length) = true then some false
  else if vs.all (foldedForSure 8) = true then some false
  else if vs.all (constantsAlone 8) = true then none
  else some true
theorem swN_env {env : PySem.Env} {ts : List Expr} : (ts.filterMap fun
    | .Name id pos => if env.kindOf id == some .local && pos.line == (ts.head?.map (·.pos.line)).getD 0 then some id else none
    | _ => none) = swN env.scope ts := rfl
theorem sw_none {ts vs : List Expr} {j j' : Nat} {p p' : Pos} {env : PySem.Env} (hk : env.scope.kind = .function) (h : swv env.scope ts vs = some false) : swappedStores [.Tuple ts j p] (.Tuple vs j' p') env = pure none := by
  have hb : (env.blockKind != .function) = false := by
    unfold Env.blockKind
    rw [hk]
    rfl
  unfold swv at h
  unfold swappedStores
  simp only [hb, Bool.or_false]
  split at h
  · rename_i h1
    rw [if_pos h1]
  · rename_i h1
    rw [if_neg h1]
    split at h
    · cases h
    · rename_i h2
      have h2' : vs.all plain = true := by simpa using h2
      refine (if_neg ?_).trans ?_
      · exact fun z => Bool.false_ne_true ((noStars_of h2').symm.trans z)
      split at h
      · rename_i h3
        exact if_pos h3
      · rename_i h3
        refine (if_neg h3).trans ?_
        split at h
        · rename_i h4
          exact if_pos h4
        · split at h
          · cases h
          · cases h
theorem sw_some {ts vs : List Expr} {j j' : Nat} {p p' : Pos} {env : PySem.Env} (hk : env.scope.kind = .function) (h : swv env.scope ts vs = some true) : swappedStores [.Tuple ts j p] (.Tuple vs j' p') env = pure (some (swN env.scope ts)) := by
  have hb : (env.blockKind != .function) = false := by
    unfold Env.blockKind
    rw [hk]
    rfl
  unfold swv at h
  unfold swappedStores
  simp only [hb, Bool.or_false]
  split at h
  · cases h
  · rename_i h1
    rw [if_neg h1]
    split at h
    · cases h
    · rename_i h2
      have h2' : vs.all plain = true := by simpa using h2
      refine (if_neg ?_).trans ?_
      · exact fun z => Bool.false_ne_true ((noStars_of h2').symm.trans z)
      split at h
      · cases h
      · rename_i h3
        refine (if_neg h3).trans ?_
        split at h
        · cases h
        · rename_i h4
          refine (if_neg h4).trans ?_
          split at h
          · cases h
          · rename_i h5
            exact if_neg h5

section
variable (T : Ns) (N : List Str)
def mEs2 (sc : Scope) (es : Es) (xs : List Expr) : Bool := mEs T N sc es xs
def locB (sc : Scope) (x : Str) : Bool := match sc.names.lookup x with | some .local => true | _ => false
def swYes (sc : Scope) (y : Str) (py : Pos) (scope : Scope) (pos : Pos) : Bool := locB sc y && (py.line == pos.line) && !(scope.names.any fun (n, k) => n == y && (k == .local || k == .cell))
def swNo (sc : Scope) (t x : Expr) : Bool :=
  match x with
  | .ListComp _ _ scope pos => (match t with | .Name y py => !(swYes sc y py scope pos) | _ => true)
  | _ => noComp x
def setLc (sc : Scope) (tg : Tg) (e : E) (t x : Expr) : Bool :=
  match tg, e, t, x with
  | .one i, .lc _ _ _ _, .Name y py, .ListComp _ _ scope pos => decide (N[i]? = some y) && swYes sc y py scope pos
  | _, _, _, _ => false
mutual
def mS (sc so : Scope) : S → Stmt → Bool
  | .asg tg e, st => match st with | .Assign [t] x _ => (mE T N sc e x) && (setLc N sc tg e t x || (mT N so tg t && swNo sc t x && noTup x)) | _ => false
  | .par is es, st => match st with
      | .Assign [.Tuple ts _ _] (.Tuple xs _ _) _ => nmT N so is ts && mEs T N sc es xs && decide (is.length ≤ 100) &&
        (match swv sc ts xs with
         | some false => true
         | some true => (match is, ts, xs with
            | [i, j], [.Name x _, .Name y _], [_, _] => decide (i ≠ j) && decide (swN sc ts = [x, y]) && locB sc x && locB sc y
            | [i, j, l], [.Name x _, .Name y _, .Name z _], [_, _, _] => decide (i ≠ j) && decide (i ≠ l) && decide (j ≠ l) && decide (swN sc ts = [x, y, z]) && locB sc x && locB sc y && locB sc z
            | _, _, _ => false)
         | none => false)
      | _ => false
  | .aug i sb e, st => match st with | .AugAssign (.Name x _) o y _ => decide (N[i]? = some x) && stoB so x && decide (o = aop sb) && mE T N sc e y | _ => false
  | .sub v i e, st => match st with | .Assign [.Subscript (.Name x _) z _] y _ => decide (N[v]? = some x) && visB sc x && nmOk x && mE T N sc e y && mE T N sc i z && noComp y && noTup y | _ => false
  | .app (.var i) e, st => match st with | .Expr (.Call (.Attribute (.Name x _) m ap) [y] [] cp) _ => decide (N[i]? = some x) && visB sc x && nmOk x && decide (m = "append") && mE T N sc e y && (ap.endLine == cp.line) | _ => false
  | .exp e, st => match st with | .Expr x _ => mE T N sc e x && noComp x | _ => false
  | .ret e, st => match st with | .Return (some x) _ => mE T N sc e x | _ => false
  | .retN, st => match st with | .Return none _ => true | _ => false
  | .ifs c a b, st => match st with | .If x p q _ => mE T N sc c x && tOk x && mSs sc so a p && mSs sc so b q | _ => false
  | .whl c b, st => match st with | .While x p [] _ => mE T N sc c x && tOk x && mSs sc so b p | _ => false
  | .for it tg b, st => match st with | .For t x p [] _ => mI T N sc it t x && mT N so tg t && mSs sc so b p && plain x | _ => false
  | .rse _ _, st => match st with | .Raise _ _ _ => true | _ => false
  | .pas, st => match st with | .Pass _ => true | _ => false
  | _, _ => false
def mSs (sc so : Scope) : Ss → List Stmt → Bool
  | .nil, l => match l with | [] => true | _ => false
  | .cons s r, l => match l with | st :: sts => mS sc so s st && mSs sc so r sts | _ => false
end
end

section
variable {X : Cx} {M : Nm} {T : Ns} {L : Lk} {Γ : Ctx} {call : Nat → List (D × Bool) → CRes} {N : List Str} {sc so : Scope} {k : Nat} {io : Bool} {v0 : Option V}

theorem snd_P (C : XC X M T L Γ call N sc so k) : ∀ (es : Es) (pe : List Expr), mEs T N sc es pe = true → PA X pe ((TEp X.K M Γ call) es)
  | .nil, pe, h => by
    simp only [mEs] at h
    split at h <;> first | cases h | skip
    exact p_nil
  | .cons a r, pe, h => by
    simp only [mEs] at h
    split at h <;> first | cases h | skip
    simp only [Bool.and_eq_true] at h
    exact p_cons (snd_E a _ X sc so C h.1).v (snd_P C r _ h.2) (mE_plain T N h.1)
theorem sole_no {t x : Expr} {l : Nat} {env : PySem.Env} (hk : env.scope.kind = .function) (h : swNo env.scope t x = true) : swapsWithSole [t] x l env = pure false := by
  unfold swNo at h
  split at h
  · rename_i a b scope pos
    split at h
    · rename_i y py
      have hb : (env.blockKind == .function) = true := by
        unfold Env.blockKind
        rw [hk]
        rfl
      have e : ((env.kindOf y == some .local) && (py.line == pos.line) && !(scope.names.any fun (n, k) => n == y && (k == .local || k == .cell))) = false := by
        rw [Bool.not_eq_true'] at h
        rw [← h]
        unfold swYes locB Env.kindOf
        congr 2
        split
        · rename_i q
          rw [q]
          rfl
        · rename_i q
          cases z : List.lookup y env.scope.names with
          | none => rfl
          | some v => cases v <;> first | rfl | exact (q z).elim
      show swapsWith (.ListComp a b scope pos) (some (.Name y py)) l env = pure false
      unfold swapsWith
      simp only [hb, Bool.true_and]
      show (pure _ : Sem Bool) = _
      rw [show (Expr.ListComp a b scope pos).pos = pos from rfl, e]
    · rename_i hn
      cases t <;> first | rfl | exact (hn _ _ rfl).elim
  · exact swaps_no h
theorem loc_sc {x : Str} (h : locB sc x = true) : sc.names.lookup x = some .local := by
  unfold locB at h
  split at h
  · assumption
  · cases h
mutual
theorem snd_S (C : XC X M T L Γ call N sc so k) : ∀ (s : S) (st : Stmt), mS T N sc so s st = true → PS X st ((TSt X.K M Γ call io v0) s)
  | .asg tg e, st, h => by
    simp only [mS] at h
    split at h <;> first | cases h | skip
    simp only [Bool.and_eq_true] at h
    obtain ⟨h2, h⟩ := h
    have hk : X.env.scope.kind = .function := by rw [C.scp]; exact C.kind
    rw [Bool.or_eq_true] at h
    rcases h with h | h
    · unfold setLc at h
      split at h <;> first | cases h | skip
      simp only [Bool.and_eq_true, swYes, Bool.not_eq_true'] at h
      obtain ⟨g1, ⟨g2, g3⟩, g4⟩ := h
      simp only [mE, Bool.and_eq_true] at h2
      obtain ⟨_, h2⟩ := h2
      split at h2 <;> first | cases h2 | skip
      rename_i q
      cases q
      simp only [Bool.and_eq_true] at h2
      obtain ⟨⟨⟨⟨⟨k0, k1⟩, k2, k3⟩, k4⟩, k5⟩, k6⟩ := h2
      obtain rfl := of_decide_eq_true k0
      exact x_setLc C (of_decide_eq_true g1) (loc_sc g2) g3 g4 (mI_plain T N k1) (snd_I _ _ X sc so C k1) k2 (of_decide_eq_true k3) k4 (fun X' C' _ => snd_If _ _ X' _ _ C' k5) fun X' C' _ => (snd_E _ _ X' _ _ C' k6).v
    · simp only [Bool.and_eq_true] at h
      obtain ⟨⟨h1, h3⟩, h4⟩ := h
      exact x_asg C (snd_E e _ X sc so C h2).v h1 (fun l => sole_no hk (by rw [C.scp]; exact h3)) h4
  | .par is es, st, h => by
    simp only [mS] at h
    split at h <;> first | cases h | skip
    simp only [Bool.and_eq_true] at h
    obtain ⟨⟨⟨h1, h2⟩, h3⟩, h4⟩ := h
    have hk : X.env.scope.kind = .function := by rw [C.scp]; exact C.kind
    split at h4
    · rename_i hs
      exact x_parT C (snd_P C es _ h2) h1 (of_decide_eq_true h3) (sw_none hk (by rw [C.scp]; exact hs))
    · rename_i hs
      have hw : ∀ j1 p1 j2 p2, _ := fun j1 p1 j2 p2 => sw_some (j := j1) (p := p1) (j' := j2) (p' := p2) hk (by rw [C.scp]; exact hs)
      split at h4
      · simp only [Bool.and_eq_true] at h4
        obtain ⟨⟨⟨a, b⟩, c⟩, d⟩ := h4
        simp only [nmT, Bool.and_eq_true] at h1
        refine x_par2 C (snd_P C es _ h2) (of_decide_eq_true h1.1.1) (of_decide_eq_true h1.2.1.1) (of_decide_eq_true a) (loc_sc c) (loc_sc d) ?_
        rw [hw, C.scp, of_decide_eq_true b]
      · simp only [Bool.and_eq_true] at h4
        obtain ⟨⟨⟨⟨⟨⟨a, a2⟩, a3⟩, b⟩, c⟩, d⟩, e⟩ := h4
        simp only [nmT, Bool.and_eq_true] at h1
        refine x_par3 C (snd_P C es _ h2) (of_decide_eq_true h1.1.1) (of_decide_eq_true h1.2.1.1) (of_decide_eq_true h1.2.2.1.1) (of_decide_eq_true a) (of_decide_eq_true a2) (of_decide_eq_true a3) (loc_sc c) (loc_sc d) (loc_sc e) ?_
        rw [hw, C.scp, of_decide_eq_true b]
      · cases h4
    · cases h4
  | .aug i sb e, st, h => by
    simp only [mS] at h
    split at h <;> first | cases h | skip
    simp only [Bool.and_eq_true] at h
    obtain ⟨⟨⟨h1, h2⟩, h3⟩, h4⟩ := h
    obtain rfl := of_decide_eq_true h3
    exact x_aug C (snd_E e _ X sc so C h4).v (of_decide_eq_true h1) h2
  | .sub v i e, st, h => by
    simp only [mS] at h
    split at h <;> first | cases h | skip
    simp only [Bool.and_eq_true] at h
    obtain ⟨⟨⟨⟨⟨⟨h1, h2⟩, h3⟩, h4⟩, h5⟩, h6⟩, h7⟩ := h
    exact x_sub C (of_decide_eq_true h1) h2 h3 (snd_E e _ X sc so C h4).v (snd_E i _ X sc so C h5).v (mE_plain T N h5) h6 h7
  | .swp x i j a b, st, h => by simp [mS] at h
  | .fld f e, st, h => by simp [mS] at h
  | .fld2 f g e, st, h => by simp [mS] at h
  | .app p e, st, h => by
    cases p <;> simp only [mS, Bool.false_eq_true] at h
    split at h <;> first | cases h | skip
    simp only [Bool.and_eq_true] at h
    obtain ⟨⟨⟨⟨⟨h1, h2⟩, h3⟩, h4⟩, h5⟩, h6⟩ := h
    obtain rfl := of_decide_eq_true h4
    exact x_app C (of_decide_eq_true h1) h2 h3 (snd_E e _ X sc so C h5).v (mE_plain T N h5) h6
  | .exp e, st, h => by
    simp only [mS] at h
    split at h <;> first | cases h | skip
    simp only [Bool.and_eq_true] at h
    exact x_exp (snd_E e _ X sc so C h.1).v h.2
  | .ret e, st, h => by
    simp only [mS] at h
    split at h <;> first | cases h | skip
    exact x_ret (snd_E e _ X sc so C h).v
  | .retN, st, h => by
    simp only [mS] at h
    split at h <;> first | cases h | skip
    exact x_retN
  | .ifs c a b, st, h => by
    simp only [mS] at h
    split at h <;> first | cases h | skip
    simp only [Bool.and_eq_true] at h
    obtain ⟨⟨⟨h1, h2⟩, h3⟩, h4⟩ := h
    exact x_ifs ((snd_E c _ X sc so C h1).t (tOk_of h2)) (snd_Ss C a _ h3) (snd_Ss C b _ h4)
  | .whl c b, st, h => by
    simp only [mS] at h
    split at h <;> first | cases h | skip
    simp only [Bool.and_eq_true] at h
    obtain ⟨⟨h1, h2⟩, h3⟩ := h
    exact x_whl (by rw [C.nox]; exact .never) ((snd_E c _ X sc so C h1).t (tOk_of h2)) (snd_Ss C b _ h3)
  | .for it tg b, st, h => by
    simp only [mS] at h
    split at h <;> first | cases h | skip
    simp only [Bool.and_eq_true] at h
    obtain ⟨⟨⟨h1, h2⟩, h3⟩, h4⟩ := h
    exact x_for C (by rw [C.nox]; exact .never) (snd_I it _ X sc so C h1) h2 (snd_Ss C b _ h3) h4
  | .rse c e, st, h => x_rse
  | .pas, st, h => by
    simp only [mS] at h
    split at h <;> first | cases h | skip
    exact x_pas
theorem snd_Ss (C : XC X M T L Γ call N sc so k) : ∀ (s : Ss) (st : List Stmt), mSs T N sc so s st = true → PSs X st ((TSs X.K M Γ call io v0) s)
  | .nil, st, h => by
    simp only [mSs] at h
    split at h <;> first | cases h | skip
    exact x_nil
  | .cons s r, st, h => by
    simp only [mSs] at h
    split at h <;> first | cases h | skip
    simp only [Bool.and_eq_true] at h
    exact x_cons (snd_S C s _ h.1) (snd_Ss C r _ h.2)
end
end
end PL
/-! PLFn: a def keeps the promise of its reckoning, at every depth; a law's end. -/
namespace PL
open PySem PySem.Spec PyProof.Rows L2

/-- what is known of a def of the text -/
structure FnI (K : PySem.W.Frag) (T : Ns) (L : Lk) (Γ : Ctx) (f : Nat) : Prop where
  ex : ∃ (Fe : FnE) (N : List Str) (st : Stmt) (name qual : Str), Γ.fn f = some Fe ∧ Fun K name qual st (L.fa f) (L.fd f) ∧ FnScope N (L.ps f) (defScope st) ∧ mSs T N (defScope st) (defScope st) Fe.body (defBody st) = true ∧ Fe.np = (L.ps f).length ∧ Fe.ns = N.length
section
variable {P : Program} {w : World} {K : PySem.W.Frag} {mg : Str → Option Value} {base : Heap} {M : Nm} {T : Ns} {L : Lk} {Γ : Ctx}
theorem callN_ar (h : ∀ f ∈ T.fs, FnI K T L Γ f) (n : Nat) : ∀ f ∈ T.fs, ∀ args, callN Γ n f args ≠ .err → args.length = (L.ps f).length := by
  intro f hf args hn
  obtain ⟨Fe, N, st, name, qual, h1, _, _, _, h5, _⟩ := (h f hf).ex
  cases n with
  | zero => exact (hn rfl).elim
  | succ n =>
    by_cases e : args.length = Fe.np
    · rw [← h5]
      exact e
    · refine (hn ?_).elim
      show (match Γ.fn f with | some F => body Γ (callN Γ n) F args | none => .err) = .err
      rw [h1]
      show (if args.length = Fe.np then _ else _) = _
      rw [if_neg e]
theorem fn_ok (top : Top K mg M T L Γ) (h : ∀ f ∈ T.fs, FnI K T L Γ f) {n k : Nat} (ih : ∀ f ∈ T.fs, FnOk P w K mg base CX0 k (L.fa f) (L.fd f) (L.ps f) (spF K M (callN Γ n) f (L.ps f).length)) {f : Nat} (hf : f ∈ T.fs) :
    FnOk P w K mg base CX0 (k + 2) (L.fa f) (L.fd f) (L.ps f) (spF K M (callN Γ (n + 1)) f (L.ps f).length) := by
  obtain ⟨Fe, N, st, name, qual, h1, h2, h3, h4, h5, h6⟩ := (h f hf).ex
  refine h2.ok h3 (fun vs H Q E q => q.1) fun cdv A outer s H vs Q E hr hsp => ?_
  obtain ⟨hn, F, ext, xv, args, hl, ha, sta, m⟩ := hsp
  have C : XC (cxOf CX0 P w K mg base N qual (defScope st) (L.fa f) cdv A outer s H E).nox M T L Γ (callN Γ n) N (defScope st) (defScope st) k :=
    ⟨rfl, h3.nd, rfl, h3.kind, fun x hx => ⟨loc_of hx, .inl rfl⟩, rfl, rfl, hr, top, callN_ar h n, ih⟩
  refine ⟨_, snd_Ss (io := Fe.io) (v0 := vs.head?) C Fe.body _ h4, ?_⟩
  have e0 : callN Γ (n + 1) f args = body Γ (callN Γ n) Fe args := by
    show (match Γ.fn f with | some F => body Γ (callN Γ n) F args | none => .err) = _
    rw [h1]
  rw [e0] at m
  unfold body at m
  rw [if_pos (by rw [ha, h5])] at m
  have hst : Sta K M F H (ext ++ (args.map some ++ List.replicate (Fe.ns - Fe.np) none)) (xv ++ L2.start N vs) := by
    unfold L2.start
    rw [h6, h5, hn, ← List.append_assoc, ← List.append_assoc]
    exact sta.nones _
  -- the first argument, where it is changed in place
  have hpin : ∀ {env : PL.Fm} {r : D × Bool}, (match (match (if Fe.io = true then (match env[(0 : Nat)]? with | some (some (d, true)) => some (some d) | _ => none) else some none : Option (Option D)) with | some p => CRes.ret r p | none => .err) with
      | .ret r none => ∀ v F' H', Same F F' → Sta K M F' H' (some r :: ext) (some v :: xv) → Q v H'
      | .ret r (some d) => (∃ d0 rr, args = (d0, true) :: rr) ∧ ∀ v F' H', Same F F' → Sta K M F' H' (some r :: some (d, true) :: ext) (some v :: vs.head? :: xv) → Q v H'
      | _ => False) → Pin Fe.io vs.head? (L2.start N vs) ∧ ∀ v F' H' σ', Same F F' → Sta K M F' H' (some r :: (ext ++ env)) (some v :: (xv ++ σ')) → Pin Fe.io vs.head? σ' → Q v H' := by
    intro env r hm
    cases hio : Fe.io with
    | false =>
      rw [hio, if_neg Bool.false_ne_true] at hm
      simp only at hm
      refine ⟨(fun z => nomatch z), fun v F' H' σ' s' st' _ => ?_⟩
      exact hm v F' H' s' (Sta.cut (es := some r :: ext) (vs := some v :: xv) st' (by simp [hl]))
    | true =>
      rw [hio, if_pos rfl] at hm
      split at hm
      · rename_i hq
        split at hq
        · rename_i p hp
          split at hp
          · cases hp
            cases hq
          · cases hp
        · cases hq
      · rename_i r' d hq
        split at hq
        · rename_i p hp
          split at hp
          · rename_i d' he
            cases hp
            cases hq
            obtain ⟨⟨d0, rr, ea⟩, hm⟩ := hm
            have hv : ∃ v r, vs = v :: r := by
              cases vs with
              | nil =>
                subst ea
                rw [List.length_cons] at ha
                simp at hn
                omega
              | cons v r => exact ⟨v, r, rfl⟩
            obtain ⟨v1, r1, rfl⟩ := hv
            refine ⟨fun _ => rfl, fun v F' H' σ' s' st' pn => ?_⟩
            obtain ⟨x, hx, st2⟩ := sta_out (ext := some r :: ext) (xv := some v :: xv) st' (by simp [hl]) he
            have := pn rfl
            rw [hx] at this
            cases this
            obtain ⟨ra, rb⟩ := r
            refine hm v F' H' s' (Sta.cut (es := some (ra, rb) :: some (d, true) :: ext) (vs := some v :: some v1 :: xv) st2.swap (by simp [hl]))
          · cases hp
        · cases hq
      · exact hm.elim
  have pin0 : Pin Fe.io vs.head? (L2.start N vs) := by
    revert m
    cases exs Γ (callN Γ n) Fe.io Fe.body (args.map some ++ List.replicate (Fe.ns - Fe.np) none) with
    | nx env => exact fun m => (hpin m).1
    | rt r env => exact fun m => (hpin m).1
    | exc x env =>
      intro m
      simp only at m
      split at m <;> first | exact m.elim | skip
      all_goals (rename_i hq; split at hq <;> cases hq)
    | err => exact fun m => m.elim
  refine ⟨F, ext, xv, _, hst, hl, pin0, ?_⟩
  revert m
  cases exs Γ (callN Γ n) Fe.io Fe.body (args.map some ++ List.replicate (Fe.ns - Fe.np) none) with
  | nx env => exact fun m F' H' σ' s' st' p' => (hpin m).2 .non F' H' σ' s' (st'.push .non) p'
  | rt r env => exact fun m v F' H' σ' s' st' p' => (hpin m).2 v F' H' σ' s' st' p'
  | exc x env =>
    intro m
    simp only at m
    split at m <;> first | exact m.elim | skip
    all_goals (rename_i hq; split at hq <;> cases hq)
  | err => exact fun m => m.elim
theorem all_ok (top : Top K mg M T L Γ) (h : ∀ f ∈ T.fs, FnI K T L Γ f) : ∀ n, ∀ f ∈ T.fs, FnOk P w K mg base CX0 (2 * n) (L.fa f) (L.fd f) (L.ps f) (spF K M (callN Γ n) f (L.ps f).length)
  | 0, f, hf => ⟨fun vs H Q E q => q.1, fun A outer s H args us vs Q E hr e0 hb r hsp => by
      obtain ⟨_, F, ext, xv, args, _, _, _, m⟩ := hsp
      exact m.elim⟩
  | n + 1, f, hf => fn_ok top h (all_ok top h n) hf
/-- a law: of the script's ints it tells True -/
def spLaw (K : PySem.W.Frag) : Sp := fun vs H Q _ => ∃ (a : Addr) (ns : List Int), vs = [.ref a] ∧ SqL K H a (ns.map V.int) ∧ ns.length ≤ 63 ∧ ∀ H', Q (.bl true) H'
theorem law_ok (top : Top K mg M T L Γ) (h : ∀ f ∈ T.fs, FnI K T L Γ f) {n f : Nat} (hf : f ∈ T.fs) {p : Str} (hp : L.ps f = [p]) (PT : List Int → Prop) (law : ∀ ns : List Int, ns.length ≤ 63 → PT ns → callN Γ n f [(.scr ns, false)] = .ret (.bl true, false) none) :
    FnOk P w K mg base CX0 (2 * n) (L.fa f) (L.fd f) [p] (fun vs H Q E => ∃ (a : Addr) (ns : List Int), vs = [.ref a] ∧ SqL K H a (ns.map V.int) ∧ ns.length ≤ 63 ∧ PT ns ∧ ∀ H', Q (.bl true) H') := by
  have F := all_ok (P := P) (w := w) (base := base) top h n f hf
  rw [hp] at F
  refine F.imp fun vs H Q E hsp => ?_
  obtain ⟨a, ns, rfl, hS, hl, pt, q⟩ := hsp
  refine ⟨rfl, H, [], [], [(.scr ns, false)], rfl, rfl, ⟨[] ++ [], .slot (.fz (.scr hS (by unfold LIM; omega))) .nil, by simp, by simp, Same.refl H⟩, ?_⟩
  rw [law ns hl pt]
  intro v F' H' s' st'
  have r := st'.headF
  rw [rep_bl r]
  exact q H'
end
end PL
/-! PLEq: the reckoning by equations (printed by wip/gen/eqs.py); loops stay folded. -/
namespace PL
open PySem
section

/-- while, folded -/
noncomputable def whl (Γ : Ctx) (call : Nat → List (D × Bool) → CRes) (io : Bool) (c : E) (b : Ss) (env : Fm) : Fl := whlG (fun e => ev Γ call c e) (fun e => exs Γ call io b e) env
/-- for, folded -/
noncomputable def frl (Γ : Ctx) (call : Nat → List (D × Bool) → CRes) (io : Bool) (tg : Tg) (b : Ss) (ds : List D) (env : Fm) : Fl := forF (fun d e => bnd io tg (d, false) e) (fun e => exs Γ call io b e) ds env
/-- a comprehension, folded -/
noncomputable def lcl (Γ : Ctx) (call : Nat → List (D × Bool) → CRes) (tg : Tg) (c : O) (body : E) (ds : List D) (env : Fm) (acc : List D) : Res (List D) := lcF (fun d e => bnd false tg (d, false) e) (fun e => wip e tg.ixs)
        (fun e => match c with
          | .none => .ok true e
          | .some c => (ev Γ call c e).bind fun x e => match x.1 with | .bl b => .ok b e | _ => .err)
        (fun e => (ev Γ call body e).bind fun x e => .ok x.1 e) ds env acc
@[simp] theorem ev_var (Γ : Ctx) (call : Nat → List (D × Bool) → CRes) (i : Nat) (env : Fm) : ev Γ call (.var i) env =
    match env[i]? with
    | some (some (d, o)) => .ok (d, false) (if o = true then env.set i (some (d, false)) else env)
    | _ => .err := by
  first | rfl | (simp only [ev]; done) | (simp only [ev]; rfl)
@[simp] theorem ev_cst (Γ : Ctx) (call : Nat → List (D × Bool) → CRes) (d : D) (env : Fm) : ev Γ call (.cst d) env = .ok (d, false) env := by
  first | rfl | (simp only [ev]; done) | (simp only [ev]; rfl)
@[simp] theorem ev_glb (Γ : Ctx) (call : Nat → List (D × Bool) → CRes) (g : Nat) (env : Fm) : ev Γ call (.glb g) env = Res.lift ((Γ.glb g).map fun d => (d, false)) env := by
  first | rfl | (simp only [ev]; done) | (simp only [ev]; rfl)
noncomputable def k_ev_bin2 (Γ : Ctx) (call : Nat → List (D × Bool) → CRes) (op : BOp) (x : D × Bool) (r_ : Res (D × Bool)) : Res (D × Bool) := r_.bind fun y (env : Fm) => Res.lift (biD op x.1 y.1) env
@[simp] theorem k_ev_bin2_k (Γ : Ctx) (call : Nat → List (D × Bool) → CRes) (op : BOp) (x : D × Bool) (y : D × Bool) (env : Fm) : k_ev_bin2 Γ call op x (.ok y env) = Res.lift (biD op x.1 y.1) env := rfl
@[simp] theorem k_ev_bin2_x (Γ : Ctx) (call : Nat → List (D × Bool) → CRes) (op : BOp) (x : D × Bool) (z_ : Exn) (env : Fm) : k_ev_bin2 Γ call op x (.exc z_ env) = .exc z_ env := rfl
@[simp] theorem k_ev_bin2_e (Γ : Ctx) (call : Nat → List (D × Bool) → CRes) (op : BOp) (x : D × Bool) : k_ev_bin2 Γ call op x .err = .err := rfl
noncomputable def k_ev_bin1 (Γ : Ctx) (call : Nat → List (D × Bool) → CRes) (op : BOp) (b : E) (r_ : Res (D × Bool)) : Res (D × Bool) := r_.bind fun x (env : Fm) =>  k_ev_bin2 Γ call op x (ev Γ call b env)
@[simp] theorem k_ev_bin1_k (Γ : Ctx) (call : Nat → List (D × Bool) → CRes) (op : BOp) (b : E) (x : D × Bool) (env : Fm) : k_ev_bin1 Γ call op b (.ok x env) =  k_ev_bin2 Γ call op x (ev Γ call b env) := rfl
@[simp] theorem k_ev_bin1_x (Γ : Ctx) (call : Nat → List (D × Bool) → CRes) (op : BOp) (b : E) (z_ : Exn) (env : Fm) : k_ev_bin1 Γ call op b (.exc z_ env) = .exc z_ env := rfl
@[simp] theorem k_ev_bin1_e (Γ : Ctx) (call : Nat → List (D × Bool) → CRes) (op : BOp) (b : E) : k_ev_bin1 Γ call op b .err = .err := rfl
@[simp] theorem ev_bin (Γ : Ctx) (call : Nat → List (D × Bool) → CRes) (op : BOp) (a : E) (b : E) (env : Fm) : ev Γ call (.bin op a b) env =  k_ev_bin1 Γ call op b (ev Γ call a env) := by
  first | rfl | (simp only [ev]; done) | (simp only [ev]; rfl)
noncomputable def k_ev_neg1 (Γ : Ctx) (call : Nat → List (D × Bool) → CRes) (r_ : Res (D × Bool)) : Res (D × Bool) := r_.bind fun x (env : Fm) => match x.1 with | .int i => .ok (.int (-i), false) env | _ => .err
@[simp] theorem k_ev_neg1_k (Γ : Ctx) (call : Nat → List (D × Bool) → CRes) (x : D × Bool) (env : Fm) : k_ev_neg1 Γ call (.ok x env) = match x.1 with | .int i => .ok (.int (-i), false) env | _ => .err := rfl
@[simp] theorem k_ev_neg1_x (Γ : Ctx) (call : Nat → List (D × Bool) → CRes) (z_ : Exn) (env : Fm) : k_ev_neg1 Γ call (.exc z_ env) = .exc z_ env := rfl
@[simp] theorem k_ev_neg1_e (Γ : Ctx) (call : Nat → List (D × Bool) → CRes) : k_ev_neg1 Γ call .err = .err := rfl
@[simp] theorem ev_neg (Γ : Ctx) (call : Nat → List (D × Bool) → CRes) (a : E) (env : Fm) : ev Γ call (.neg a) env =  k_ev_neg1 Γ call (ev Γ call a env) := by
  first | rfl | (simp only [ev]; done) | (simp only [ev]; rfl)
noncomputable def k_ev_cmp2 (Γ : Ctx) (call : Nat → List (D × Bool) → CRes) (op : COp) (b : E) (x : D × Bool) (r_ : Res (D × Bool)) : Res (D × Bool) := r_.bind fun y (env : Fm) => Res.lift ((cmD op x.1 y.1).map fun b => (.bl b, false)) env
@[simp] theorem k_ev_cmp2_k (Γ : Ctx) (call : Nat → List (D × Bool) → CRes) (op : COp) (b : E) (x : D × Bool) (y : D × Bool) (env : Fm) : k_ev_cmp2 Γ call op b x (.ok y env) = Res.lift ((cmD op x.1 y.1).map fun b => (.bl b, false)) env := rfl
@[simp] theorem k_ev_cmp2_x (Γ : Ctx) (call : Nat → List (D × Bool) → CRes) (op : COp) (b : E) (x : D × Bool) (z_ : Exn) (env : Fm) : k_ev_cmp2 Γ call op b x (.exc z_ env) = .exc z_ env := rfl
@[simp] theorem k_ev_cmp2_e (Γ : Ctx) (call : Nat → List (D × Bool) → CRes) (op : COp) (b : E) (x : D × Bool) : k_ev_cmp2 Γ call op b x .err = .err := rfl
noncomputable def k_ev_cmp1 (Γ : Ctx) (call : Nat → List (D × Bool) → CRes) (op : COp) (b : E) (r_ : Res (D × Bool)) : Res (D × Bool) := r_.bind fun x (env : Fm) =>  k_ev_cmp2 Γ call op b x (ev Γ call b env)
@[simp] theorem k_ev_cmp1_k (Γ : Ctx) (call : Nat → List (D × Bool) → CRes) (op : COp) (b : E) (x : D × Bool) (env : Fm) : k_ev_cmp1 Γ call op b (.ok x env) =  k_ev_cmp2 Γ call op b x (ev Γ call b env) := rfl
@[simp] theorem k_ev_cmp1_x (Γ : Ctx) (call : Nat → List (D × Bool) → CRes) (op : COp) (b : E) (z_ : Exn) (env : Fm) : k_ev_cmp1 Γ call op b (.exc z_ env) = .exc z_ env := rfl
@[simp] theorem k_ev_cmp1_e (Γ : Ctx) (call : Nat → List (D × Bool) → CRes) (op : COp) (b : E) : k_ev_cmp1 Γ call op b .err = .err := rfl
@[simp] theorem ev_cmp (Γ : Ctx) (call : Nat → List (D × Bool) → CRes) (op : COp) (a : E) (b : E) (env : Fm) : ev Γ call (.cmp op a b) env =  k_ev_cmp1 Γ call op b (ev Γ call a env) := by
  first | rfl | (simp only [ev]; done) | (simp only [ev]; rfl)
noncomputable def k_ev_cmpv2 (Γ : Ctx) (call : Nat → List (D × Bool) → CRes) (op : COp) (x : Nat) (b : E) (r_ : Res (D × Bool)) : Res (D × Bool) := r_.bind fun y (env : Fm) => Res.lift ((rdv x env).bind fun d => (cmD op d y.1).map fun b => (.bl b, false)) env
@[simp] theorem k_ev_cmpv2_k (Γ : Ctx) (call : Nat → List (D × Bool) → CRes) (op : COp) (x : Nat) (b : E) (y : D × Bool) (env : Fm) : k_ev_cmpv2 Γ call op x b (.ok y env) = Res.lift ((rdv x env).bind fun d => (cmD op d y.1).map fun b => (.bl b, false)) env := rfl
@[simp] theorem k_ev_cmpv2_x (Γ : Ctx) (call : Nat → List (D × Bool) → CRes) (op : COp) (x : Nat) (b : E) (z_ : Exn) (env : Fm) : k_ev_cmpv2 Γ call op x b (.exc z_ env) = .exc z_ env := rfl
@[simp] theorem k_ev_cmpv2_e (Γ : Ctx) (call : Nat → List (D × Bool) → CRes) (op : COp) (x : Nat) (b : E) : k_ev_cmpv2 Γ call op x b .err = .err := rfl
noncomputable def k_ev_cmpv1 (Γ : Ctx) (call : Nat → List (D × Bool) → CRes) (op : COp) (x : Nat) (b : E) (r_ : Res (D)) : Res (D × Bool) := r_.bind fun _ (env : Fm) =>  k_ev_cmpv2 Γ call op x b (ev Γ call b env)
@[simp] theorem k_ev_cmpv1_k (Γ : Ctx) (call : Nat → List (D × Bool) → CRes) (op : COp) (x : Nat) (b : E) (v_ : D) (env : Fm) : k_ev_cmpv1 Γ call op x b (.ok v_ env) =  k_ev_cmpv2 Γ call op x b (ev Γ call b env) := rfl
@[simp] theorem k_ev_cmpv1_x (Γ : Ctx) (call : Nat → List (D × Bool) → CRes) (op : COp) (x : Nat) (b : E) (z_ : Exn) (env : Fm) : k_ev_cmpv1 Γ call op x b (.exc z_ env) = .exc z_ env := rfl
@[simp] theorem k_ev_cmpv1_e (Γ : Ctx) (call : Nat → List (D × Bool) → CRes) (op : COp) (x : Nat) (b : E) : k_ev_cmpv1 Γ call op x b .err = .err := rfl
@[simp] theorem ev_cmpv (Γ : Ctx) (call : Nat → List (D × Bool) → CRes) (op : COp) (x : Nat) (b : E) (env : Fm) : ev Γ call (.cmpv op x b) env =  k_ev_cmpv1 Γ call op x b (Res.lift (rdv x env) env) := by
  first | rfl | (simp only [ev]; done) | (simp only [ev]; rfl)
noncomputable def k_ev_chn3 (Γ : Ctx) (call : Nat → List (D × Bool) → CRes) (p : COp) (b : E) (y : D × Bool) (r_ : Res (D × Bool)) : Res (D × Bool) := r_.bind fun z (env : Fm) => Res.lift ((cmD p y.1 z.1).map fun b => (.bl b, false)) env
@[simp] theorem k_ev_chn3_k (Γ : Ctx) (call : Nat → List (D × Bool) → CRes) (p : COp) (b : E) (y : D × Bool) (z : D × Bool) (env : Fm) : k_ev_chn3 Γ call p b y (.ok z env) = Res.lift ((cmD p y.1 z.1).map fun b => (.bl b, false)) env := rfl
@[simp] theorem k_ev_chn3_x (Γ : Ctx) (call : Nat → List (D × Bool) → CRes) (p : COp) (b : E) (y : D × Bool) (z_ : Exn) (env : Fm) : k_ev_chn3 Γ call p b y (.exc z_ env) = .exc z_ env := rfl
@[simp] theorem k_ev_chn3_e (Γ : Ctx) (call : Nat → List (D × Bool) → CRes) (p : COp) (b : E) (y : D × Bool) : k_ev_chn3 Γ call p b y .err = .err := rfl
noncomputable def k_ev_chn2 (Γ : Ctx) (call : Nat → List (D × Bool) → CRes) (o : COp) (p : COp) (b : E) (c : E) (x : D × Bool) (r_ : Res (D × Bool)) : Res (D × Bool) := r_.bind fun y (env : Fm) =>
      match cmD o x.1 y.1 with
      | some true =>  k_ev_chn3 Γ call p b y (ev Γ call c env)
      | some false => .ok (.bl false, false) env
      | none => .err
@[simp] theorem k_ev_chn2_k (Γ : Ctx) (call : Nat → List (D × Bool) → CRes) (o : COp) (p : COp) (b : E) (c : E) (x : D × Bool) (y : D × Bool) (env : Fm) : k_ev_chn2 Γ call o p b c x (.ok y env) =
      match cmD o x.1 y.1 with
      | some true =>  k_ev_chn3 Γ call p b y (ev Γ call c env)
      | some false => .ok (.bl false, false) env
      | none => .err := rfl
@[simp] theorem k_ev_chn2_x (Γ : Ctx) (call : Nat → List (D × Bool) → CRes) (o : COp) (p : COp) (b : E) (c : E) (x : D × Bool) (z_ : Exn) (env : Fm) : k_ev_chn2 Γ call o p b c x (.exc z_ env) = .exc z_ env := rfl
@[simp] theorem k_ev_chn2_e (Γ : Ctx) (call : Nat → List (D × Bool) → CRes) (o : COp) (p : COp) (b : E) (c : E) (x : D × Bool) : k_ev_chn2 Γ call o p b c x .err = .err := rfl
noncomputable def k_ev_chn1 (Γ : Ctx) (call : Nat → List (D × Bool) → CRes) (o : COp) (p : COp) (b : E) (c : E) (r_ : Res (D × Bool)) : Res (D × Bool) := r_.bind fun x (env : Fm) =>  k_ev_chn2 Γ call o p b c x (ev Γ call b env)
@[simp] theorem k_ev_chn1_k (Γ : Ctx) (call : Nat → List (D × Bool) → CRes) (o : COp) (p : COp) (b : E) (c : E) (x : D × Bool) (env : Fm) : k_ev_chn1 Γ call o p b c (.ok x env) =  k_ev_chn2 Γ call o p b c x (ev Γ call b env) := rfl
@[simp] theorem k_ev_chn1_x (Γ : Ctx) (call : Nat → List (D × Bool) → CRes) (o : COp) (p : COp) (b : E) (c : E) (z_ : Exn) (env : Fm) : k_ev_chn1 Γ call o p b c (.exc z_ env) = .exc z_ env := rfl
@[simp] theorem k_ev_chn1_e (Γ : Ctx) (call : Nat → List (D × Bool) → CRes) (o : COp) (p : COp) (b : E) (c : E) : k_ev_chn1 Γ call o p b c .err = .err := rfl
@[simp] theorem ev_chn (Γ : Ctx) (call : Nat → List (D × Bool) → CRes) (o : COp) (p : COp) (a : E) (b : E) (c : E) (env : Fm) : ev Γ call (.chn o p a b c) env =  k_ev_chn1 Γ call o p b c (ev Γ call a env) := by
  first | rfl | (simp only [ev]; done) | (simp only [ev]; rfl)
noncomputable def k_ev_din2 (Γ : Ctx) (call : Nat → List (D × Bool) → CRes) (neg : Bool) (x : D × Bool) (r_ : Res (D × Bool)) : Res (D × Bool) := r_.bind fun y (env : Fm) =>
      match x.1, y.1 with
      | .int k, .dic ks _ => .ok (.bl (if neg = true then !decide (k ∈ ks) else decide (k ∈ ks)), false) env
      | _, _ => .err
@[simp] theorem k_ev_din2_k (Γ : Ctx) (call : Nat → List (D × Bool) → CRes) (neg : Bool) (x : D × Bool) (y : D × Bool) (env : Fm) : k_ev_din2 Γ call neg x (.ok y env) =
      match x.1, y.1 with
      | .int k, .dic ks _ => .ok (.bl (if neg = true then !decide (k ∈ ks) else decide (k ∈ ks)), false) env
      | _, _ => .err := rfl
@[simp] theorem k_ev_din2_x (Γ : Ctx) (call : Nat → List (D × Bool) → CRes) (neg : Bool) (x : D × Bool) (z_ : Exn) (env : Fm) : k_ev_din2 Γ call neg x (.exc z_ env) = .exc z_ env := rfl
@[simp] theorem k_ev_din2_e (Γ : Ctx) (call : Nat → List (D × Bool) → CRes) (neg : Bool) (x : D × Bool) : k_ev_din2 Γ call neg x .err = .err := rfl
noncomputable def k_ev_din1 (Γ : Ctx) (call : Nat → List (D × Bool) → CRes) (neg : Bool) (b : E) (r_ : Res (D × Bool)) : Res (D × Bool) := r_.bind fun x (env : Fm) =>  k_ev_din2 Γ call neg x (ev Γ call b env)
@[simp] theorem k_ev_din1_k (Γ : Ctx) (call : Nat → List (D × Bool) → CRes) (neg : Bool) (b : E) (x : D × Bool) (env : Fm) : k_ev_din1 Γ call neg b (.ok x env) =  k_ev_din2 Γ call neg x (ev Γ call b env) := rfl
@[simp] theorem k_ev_din1_x (Γ : Ctx) (call : Nat → List (D × Bool) → CRes) (neg : Bool) (b : E) (z_ : Exn) (env : Fm) : k_ev_din1 Γ call neg b (.exc z_ env) = .exc z_ env := rfl
@[simp] theorem k_ev_din1_e (Γ : Ctx) (call : Nat → List (D × Bool) → CRes) (neg : Bool) (b : E) : k_ev_din1 Γ call neg b .err = .err := rfl
@[simp] theorem ev_din (Γ : Ctx) (call : Nat → List (D × Bool) → CRes) (neg : Bool) (a : E) (b : E) (env : Fm) : ev Γ call (.din neg a b) env =  k_ev_din1 Γ call neg b (ev Γ call a env) := by
  first | rfl | (simp only [ev]; done) | (simp only [ev]; rfl)
noncomputable def k_ev_and1 (Γ : Ctx) (call : Nat → List (D × Bool) → CRes) (b : E) (r_ : Res (D × Bool)) : Res (D × Bool) := r_.bind fun x (env : Fm) => match x.1 with | .bl true => ev Γ call b env | .bl false => .ok (.bl false, false) env | _ => .err
@[simp] theorem k_ev_and1_k (Γ : Ctx) (call : Nat → List (D × Bool) → CRes) (b : E) (x : D × Bool) (env : Fm) : k_ev_and1 Γ call b (.ok x env) = match x.1 with | .bl true => ev Γ call b env | .bl false => .ok (.bl false, false) env | _ => .err := rfl
@[simp] theorem k_ev_and1_x (Γ : Ctx) (call : Nat → List (D × Bool) → CRes) (b : E) (z_ : Exn) (env : Fm) : k_ev_and1 Γ call b (.exc z_ env) = .exc z_ env := rfl
@[simp] theorem k_ev_and1_e (Γ : Ctx) (call : Nat → List (D × Bool) → CRes) (b : E) : k_ev_and1 Γ call b .err = .err := rfl
@[simp] theorem ev_and (Γ : Ctx) (call : Nat → List (D × Bool) → CRes) (a : E) (b : E) (env : Fm) : ev Γ call (.and a b) env =  k_ev_and1 Γ call b (ev Γ call a env) := by
  first | rfl | (simp only [ev]; done) | (simp only [ev]; rfl)
noncomputable def k_ev_or1 (Γ : Ctx) (call : Nat → List (D × Bool) → CRes) (b : E) (r_ : Res (D × Bool)) : Res (D × Bool) := r_.bind fun x (env : Fm) => match x.1 with | .bl true => .ok (.bl true, false) env | .bl false => ev Γ call b env | _ => .err
@[simp] theorem k_ev_or1_k (Γ : Ctx) (call : Nat → List (D × Bool) → CRes) (b : E) (x : D × Bool) (env : Fm) : k_ev_or1 Γ call b (.ok x env) = match x.1 with | .bl true => .ok (.bl true, false) env | .bl false => ev Γ call b env | _ => .err := rfl
@[simp] theorem k_ev_or1_x (Γ : Ctx) (call : Nat → List (D × Bool) → CRes) (b : E) (z_ : Exn) (env : Fm) : k_ev_or1 Γ call b (.exc z_ env) = .exc z_ env := rfl
@[simp] theorem k_ev_or1_e (Γ : Ctx) (call : Nat → List (D × Bool) → CRes) (b : E) : k_ev_or1 Γ call b .err = .err := rfl
@[simp] theorem ev_or (Γ : Ctx) (call : Nat → List (D × Bool) → CRes) (a : E) (b : E) (env : Fm) : ev Γ call (.or a b) env =  k_ev_or1 Γ call b (ev Γ call a env) := by
  first | rfl | (simp only [ev]; done) | (simp only [ev]; rfl)
noncomputable def k_ev_not1 (Γ : Ctx) (call : Nat → List (D × Bool) → CRes) (r_ : Res (D × Bool)) : Res (D × Bool) := r_.bind fun x (env : Fm) => match x.1 with | .bl b => .ok (.bl (!b), false) env | _ => .err
@[simp] theorem k_ev_not1_k (Γ : Ctx) (call : Nat → List (D × Bool) → CRes) (x : D × Bool) (env : Fm) : k_ev_not1 Γ call (.ok x env) = match x.1 with | .bl b => .ok (.bl (!b), false) env | _ => .err := rfl
@[simp] theorem k_ev_not1_x (Γ : Ctx) (call : Nat → List (D × Bool) → CRes) (z_ : Exn) (env : Fm) : k_ev_not1 Γ call (.exc z_ env) = .exc z_ env := rfl
@[simp] theorem k_ev_not1_e (Γ : Ctx) (call : Nat → List (D × Bool) → CRes) : k_ev_not1 Γ call .err = .err := rfl
@[simp] theorem ev_not (Γ : Ctx) (call : Nat → List (D × Bool) → CRes) (a : E) (env : Fm) : ev Γ call (.not a) env =  k_ev_not1 Γ call (ev Γ call a env) := by
  first | rfl | (simp only [ev]; done) | (simp only [ev]; rfl)
noncomputable def k_ev_ifx1 (Γ : Ctx) (call : Nat → List (D × Bool) → CRes) (a : E) (b : E) (r_ : Res (D × Bool)) : Res (D × Bool) := r_.bind fun x (env : Fm) => match x.1 with | .bl true => ev Γ call a env | .bl false => ev Γ call b env | _ => .err
@[simp] theorem k_ev_ifx1_k (Γ : Ctx) (call : Nat → List (D × Bool) → CRes) (a : E) (b : E) (x : D × Bool) (env : Fm) : k_ev_ifx1 Γ call a b (.ok x env) = match x.1 with | .bl true => ev Γ call a env | .bl false => ev Γ call b env | _ => .err := rfl
@[simp] theorem k_ev_ifx1_x (Γ : Ctx) (call : Nat → List (D × Bool) → CRes) (a : E) (b : E) (z_ : Exn) (env : Fm) : k_ev_ifx1 Γ call a b (.exc z_ env) = .exc z_ env := rfl
@[simp] theorem k_ev_ifx1_e (Γ : Ctx) (call : Nat → List (D × Bool) → CRes) (a : E) (b : E) : k_ev_ifx1 Γ call a b .err = .err := rfl
@[simp] theorem ev_ifx (Γ : Ctx) (call : Nat → List (D × Bool) → CRes) (c : E) (a : E) (b : E) (env : Fm) : ev Γ call (.ifx c a b) env =  k_ev_ifx1 Γ call a b (ev Γ call c env) := by
  first | rfl | (simp only [ev]; done) | (simp only [ev]; rfl)
noncomputable def k_ev_tup1 (Γ : Ctx) (call : Nat → List (D × Bool) → CRes) (r_ : Res (List D)) : Res (D × Bool) := r_.bind fun ds (env : Fm) => if ds.length ≤ LIM then .ok (.tup ds, false) env else .err
@[simp] theorem k_ev_tup1_k (Γ : Ctx) (call : Nat → List (D × Bool) → CRes) (ds : List D) (env : Fm) : k_ev_tup1 Γ call (.ok ds env) = if ds.length ≤ LIM then .ok (.tup ds, false) env else .err := rfl
@[simp] theorem k_ev_tup1_x (Γ : Ctx) (call : Nat → List (D × Bool) → CRes) (z_ : Exn) (env : Fm) : k_ev_tup1 Γ call (.exc z_ env) = .exc z_ env := rfl
@[simp] theorem k_ev_tup1_e (Γ : Ctx) (call : Nat → List (D × Bool) → CRes) : k_ev_tup1 Γ call .err = .err := rfl
@[simp] theorem ev_tup (Γ : Ctx) (call : Nat → List (D × Bool) → CRes) (es : Es) (env : Fm) : ev Γ call (.tup es) env =  k_ev_tup1 Γ call (evs Γ call es env) := by
  first | rfl | (simp only [ev]; done) | (simp only [ev]; rfl)
noncomputable def k_ev_lst1 (Γ : Ctx) (call : Nat → List (D × Bool) → CRes) (r_ : Res (List D)) : Res (D × Bool) := r_.bind fun ds (env : Fm) => if ds.length ≤ LIM then .ok (.lst ds, true) env else .err
@[simp] theorem k_ev_lst1_k (Γ : Ctx) (call : Nat → List (D × Bool) → CRes) (ds : List D) (env : Fm) : k_ev_lst1 Γ call (.ok ds env) = if ds.length ≤ LIM then .ok (.lst ds, true) env else .err := rfl
@[simp] theorem k_ev_lst1_x (Γ : Ctx) (call : Nat → List (D × Bool) → CRes) (z_ : Exn) (env : Fm) : k_ev_lst1 Γ call (.exc z_ env) = .exc z_ env := rfl
@[simp] theorem k_ev_lst1_e (Γ : Ctx) (call : Nat → List (D × Bool) → CRes) : k_ev_lst1 Γ call .err = .err := rfl
@[simp] theorem ev_lst (Γ : Ctx) (call : Nat → List (D × Bool) → CRes) (es : Es) (env : Fm) : ev Γ call (.lst es) env =  k_ev_lst1 Γ call (evs Γ call es env) := by
  first | rfl | (simp only [ev]; done) | (simp only [ev]; rfl)
noncomputable def k_ev_idx2 (Γ : Ctx) (call : Nat → List (D × Bool) → CRes) (x : D × Bool) (r_ : Res (D × Bool)) : Res (D × Bool) := r_.bind fun y (env : Fm) => Res.lift ((ixD x.1 y.1).map fun d => (d, false)) env
@[simp] theorem k_ev_idx2_k (Γ : Ctx) (call : Nat → List (D × Bool) → CRes) (x : D × Bool) (y : D × Bool) (env : Fm) : k_ev_idx2 Γ call x (.ok y env) = Res.lift ((ixD x.1 y.1).map fun d => (d, false)) env := rfl
@[simp] theorem k_ev_idx2_x (Γ : Ctx) (call : Nat → List (D × Bool) → CRes) (x : D × Bool) (z_ : Exn) (env : Fm) : k_ev_idx2 Γ call x (.exc z_ env) = .exc z_ env := rfl
@[simp] theorem k_ev_idx2_e (Γ : Ctx) (call : Nat → List (D × Bool) → CRes) (x : D × Bool) : k_ev_idx2 Γ call x .err = .err := rfl
noncomputable def k_ev_idx1 (Γ : Ctx) (call : Nat → List (D × Bool) → CRes) (i : E) (r_ : Res (D × Bool)) : Res (D × Bool) := r_.bind fun x (env : Fm) =>  k_ev_idx2 Γ call x (ev Γ call i env)
@[simp] theorem k_ev_idx1_k (Γ : Ctx) (call : Nat → List (D × Bool) → CRes) (i : E) (x : D × Bool) (env : Fm) : k_ev_idx1 Γ call i (.ok x env) =  k_ev_idx2 Γ call x (ev Γ call i env) := rfl
@[simp] theorem k_ev_idx1_x (Γ : Ctx) (call : Nat → List (D × Bool) → CRes) (i : E) (z_ : Exn) (env : Fm) : k_ev_idx1 Γ call i (.exc z_ env) = .exc z_ env := rfl
@[simp] theorem k_ev_idx1_e (Γ : Ctx) (call : Nat → List (D × Bool) → CRes) (i : E) : k_ev_idx1 Γ call i .err = .err := rfl
@[simp] theorem ev_idx (Γ : Ctx) (call : Nat → List (D × Bool) → CRes) (a : E) (i : E) (env : Fm) : ev Γ call (.idx a i) env =  k_ev_idx1 Γ call i (ev Γ call a env) := by
  first | rfl | (simp only [ev]; done) | (simp only [ev]; rfl)
noncomputable def k_ev_idxv2 (Γ : Ctx) (call : Nat → List (D × Bool) → CRes) (x : Nat) (r_ : Res (D × Bool)) : Res (D × Bool) := r_.bind fun y (env : Fm) => Res.lift ((rdv x env).bind fun d => (ixD d y.1).map fun d => (d, false)) env
@[simp] theorem k_ev_idxv2_k (Γ : Ctx) (call : Nat → List (D × Bool) → CRes) (x : Nat) (y : D × Bool) (env : Fm) : k_ev_idxv2 Γ call x (.ok y env) = Res.lift ((rdv x env).bind fun d => (ixD d y.1).map fun d => (d, false)) env := rfl
@[simp] theorem k_ev_idxv2_x (Γ : Ctx) (call : Nat → List (D × Bool) → CRes) (x : Nat) (z_ : Exn) (env : Fm) : k_ev_idxv2 Γ call x (.exc z_ env) = .exc z_ env := rfl
@[simp] theorem k_ev_idxv2_e (Γ : Ctx) (call : Nat → List (D × Bool) → CRes) (x : Nat) : k_ev_idxv2 Γ call x .err = .err := rfl
noncomputable def k_ev_idxv1 (Γ : Ctx) (call : Nat → List (D × Bool) → CRes) (x : Nat) (i : E) (r_ : Res (D)) : Res (D × Bool) := r_.bind fun _ (env : Fm) =>  k_ev_idxv2 Γ call x (ev Γ call i env)
@[simp] theorem k_ev_idxv1_k (Γ : Ctx) (call : Nat → List (D × Bool) → CRes) (x : Nat) (i : E) (v_ : D) (env : Fm) : k_ev_idxv1 Γ call x i (.ok v_ env) =  k_ev_idxv2 Γ call x (ev Γ call i env) := rfl
@[simp] theorem k_ev_idxv1_x (Γ : Ctx) (call : Nat → List (D × Bool) → CRes) (x : Nat) (i : E) (z_ : Exn) (env : Fm) : k_ev_idxv1 Γ call x i (.exc z_ env) = .exc z_ env := rfl
@[simp] theorem k_ev_idxv1_e (Γ : Ctx) (call : Nat → List (D × Bool) → CRes) (x : Nat) (i : E) : k_ev_idxv1 Γ call x i .err = .err := rfl
@[simp] theorem ev_idxv (Γ : Ctx) (call : Nat → List (D × Bool) → CRes) (x : Nat) (i : E) (env : Fm) : ev Γ call (.idxv x i) env =  k_ev_idxv1 Γ call x i (Res.lift (rdv x env) env) := by
  first | rfl | (simp only [ev]; done) | (simp only [ev]; rfl)
noncomputable def k_ev_slc3 (Γ : Ctx) (call : Nat → List (D × Bool) → CRes) (x : D × Bool) (l : Option Int) (r_ : Res (Option Int)) : Res (D × Bool) := r_.bind fun h (env : Fm) => Res.lift (slD x.1 l h) env
@[simp] theorem k_ev_slc3_k (Γ : Ctx) (call : Nat → List (D × Bool) → CRes) (x : D × Bool) (l : Option Int) (h : Option Int) (env : Fm) : k_ev_slc3 Γ call x l (.ok h env) = Res.lift (slD x.1 l h) env := rfl
@[simp] theorem k_ev_slc3_x (Γ : Ctx) (call : Nat → List (D × Bool) → CRes) (x : D × Bool) (l : Option Int) (z_ : Exn) (env : Fm) : k_ev_slc3 Γ call x l (.exc z_ env) = .exc z_ env := rfl
@[simp] theorem k_ev_slc3_e (Γ : Ctx) (call : Nat → List (D × Bool) → CRes) (x : D × Bool) (l : Option Int) : k_ev_slc3 Γ call x l .err = .err := rfl
noncomputable def k_ev_slc2 (Γ : Ctx) (call : Nat → List (D × Bool) → CRes) (hi : O) (x : D × Bool) (r_ : Res (Option Int)) : Res (D × Bool) := r_.bind fun l (env : Fm) =>  k_ev_slc3 Γ call x l (evo Γ call hi env)
@[simp] theorem k_ev_slc2_k (Γ : Ctx) (call : Nat → List (D × Bool) → CRes) (hi : O) (x : D × Bool) (l : Option Int) (env : Fm) : k_ev_slc2 Γ call hi x (.ok l env) =  k_ev_slc3 Γ call x l (evo Γ call hi env) := rfl
@[simp] theorem k_ev_slc2_x (Γ : Ctx) (call : Nat → List (D × Bool) → CRes) (hi : O) (x : D × Bool) (z_ : Exn) (env : Fm) : k_ev_slc2 Γ call hi x (.exc z_ env) = .exc z_ env := rfl
@[simp] theorem k_ev_slc2_e (Γ : Ctx) (call : Nat → List (D × Bool) → CRes) (hi : O) (x : D × Bool) : k_ev_slc2 Γ call hi x .err = .err := rfl
noncomputable def k_ev_slc1 (Γ : Ctx) (call : Nat → List (D × Bool) → CRes) (lo : O) (hi : O) (r_ : Res (D × Bool)) : Res (D × Bool) := r_.bind fun x (env : Fm) =>  k_ev_slc2 Γ call hi x (evo Γ call lo env)
@[simp] theorem k_ev_slc1_k (Γ : Ctx) (call : Nat → List (D × Bool) → CRes) (lo : O) (hi : O) (x : D × Bool) (env : Fm) : k_ev_slc1 Γ call lo hi (.ok x env) =  k_ev_slc2 Γ call hi x (evo Γ call lo env) := rfl
@[simp] theorem k_ev_slc1_x (Γ : Ctx) (call : Nat → List (D × Bool) → CRes) (lo : O) (hi : O) (z_ : Exn) (env : Fm) : k_ev_slc1 Γ call lo hi (.exc z_ env) = .exc z_ env := rfl
@[simp] theorem k_ev_slc1_e (Γ : Ctx) (call : Nat → List (D × Bool) → CRes) (lo : O) (hi : O) : k_ev_slc1 Γ call lo hi .err = .err := rfl
@[simp] theorem ev_slc (Γ : Ctx) (call : Nat → List (D × Bool) → CRes) (a : E) (lo : O) (hi : O) (env : Fm) : ev Γ call (.slc a lo hi) env =  k_ev_slc1 Γ call lo hi (ev Γ call a env) := by
  first | rfl | (simp only [ev]; done) | (simp only [ev]; rfl)
@[simp] theorem ev_atr (Γ : Ctx) (call : Nat → List (D × Bool) → CRes) (p : E) (f : Nat) (env : Fm) : ev Γ call (.atr p f) env =
    match pth Γ (.atr p f) env with
    | some (d, false) => .ok (d, false) env
    | _ => .err := by
  first | rfl | (simp only [ev]; done) | (simp only [ev]; rfl)
noncomputable def k_ev_isI1 (Γ : Ctx) (call : Nat → List (D × Bool) → CRes) (ts : List Ty) (r_ : Res (D × Bool)) : Res (D × Bool) := r_.bind fun x (env : Fm) => Res.lift ((tyD x.1).map fun l => (.bl (ts.any fun t => l.contains t), false)) env
@[simp] theorem k_ev_isI1_k (Γ : Ctx) (call : Nat → List (D × Bool) → CRes) (ts : List Ty) (x : D × Bool) (env : Fm) : k_ev_isI1 Γ call ts (.ok x env) = Res.lift ((tyD x.1).map fun l => (.bl (ts.any fun t => l.contains t), false)) env := rfl
@[simp] theorem k_ev_isI1_x (Γ : Ctx) (call : Nat → List (D × Bool) → CRes) (ts : List Ty) (z_ : Exn) (env : Fm) : k_ev_isI1 Γ call ts (.exc z_ env) = .exc z_ env := rfl
@[simp] theorem k_ev_isI1_e (Γ : Ctx) (call : Nat → List (D × Bool) → CRes) (ts : List Ty) : k_ev_isI1 Γ call ts .err = .err := rfl
@[simp] theorem ev_isI (Γ : Ctx) (call : Nat → List (D × Bool) → CRes) (a : E) (ts : List Ty) (env : Fm) : ev Γ call (.isI a ts) env =  k_ev_isI1 Γ call ts (ev Γ call a env) := by
  first | rfl | (simp only [ev]; done) | (simp only [ev]; rfl)
noncomputable def k_ev_bi1 (Γ : Ctx) (call : Nat → List (D × Bool) → CRes) (b : Bi) (r_ : Res (List D)) : Res (D × Bool) := r_.bind fun ds (env : Fm) => Res.lift (biF b ds) env
@[simp] theorem k_ev_bi1_k (Γ : Ctx) (call : Nat → List (D × Bool) → CRes) (b : Bi) (ds : List D) (env : Fm) : k_ev_bi1 Γ call b (.ok ds env) = Res.lift (biF b ds) env := rfl
@[simp] theorem k_ev_bi1_x (Γ : Ctx) (call : Nat → List (D × Bool) → CRes) (b : Bi) (z_ : Exn) (env : Fm) : k_ev_bi1 Γ call b (.exc z_ env) = .exc z_ env := rfl
@[simp] theorem k_ev_bi1_e (Γ : Ctx) (call : Nat → List (D × Bool) → CRes) (b : Bi) : k_ev_bi1 Γ call b .err = .err := rfl
@[simp] theorem ev_bi (Γ : Ctx) (call : Nat → List (D × Bool) → CRes) (b : Bi) (es : Es) (env : Fm) : ev Γ call (.bi b es) env =  k_ev_bi1 Γ call b (evs Γ call es env) := by
  first | rfl | (simp only [ev]; done) | (simp only [ev]; rfl)
@[simp] theorem ev_lenp (Γ : Ctx) (call : Nat → List (D × Bool) → CRes) (p : E) (env : Fm) : ev Γ call (.lenp p) env = Res.lift ((pth Γ p env).bind fun x => biF .len [x.1]) env := by
  first | rfl | (simp only [ev]; done) | (simp only [ev]; rfl)
noncomputable def k_ev_bm2 (Γ : Ctx) (call : Nat → List (D × Bool) → CRes) (m : Bm) (x : D × Bool) (r_ : Res (D × Bool)) : Res (D × Bool) := r_.bind fun y (env : Fm) => Res.lift (bmF m x.1 [y.1]) env
@[simp] theorem k_ev_bm2_k (Γ : Ctx) (call : Nat → List (D × Bool) → CRes) (m : Bm) (x : D × Bool) (y : D × Bool) (env : Fm) : k_ev_bm2 Γ call m x (.ok y env) = Res.lift (bmF m x.1 [y.1]) env := rfl
@[simp] theorem k_ev_bm2_x (Γ : Ctx) (call : Nat → List (D × Bool) → CRes) (m : Bm) (x : D × Bool) (z_ : Exn) (env : Fm) : k_ev_bm2 Γ call m x (.exc z_ env) = .exc z_ env := rfl
@[simp] theorem k_ev_bm2_e (Γ : Ctx) (call : Nat → List (D × Bool) → CRes) (m : Bm) (x : D × Bool) : k_ev_bm2 Γ call m x .err = .err := rfl
noncomputable def k_ev_bm1 (Γ : Ctx) (call : Nat → List (D × Bool) → CRes) (m : Bm) (a : E) (r_ : Res (D × Bool)) : Res (D × Bool) := r_.bind fun x (env : Fm) =>  k_ev_bm2 Γ call m x (ev Γ call a env)
@[simp] theorem k_ev_bm1_k (Γ : Ctx) (call : Nat → List (D × Bool) → CRes) (m : Bm) (a : E) (x : D × Bool) (env : Fm) : k_ev_bm1 Γ call m a (.ok x env) =  k_ev_bm2 Γ call m x (ev Γ call a env) := rfl
@[simp] theorem k_ev_bm1_x (Γ : Ctx) (call : Nat → List (D × Bool) → CRes) (m : Bm) (a : E) (z_ : Exn) (env : Fm) : k_ev_bm1 Γ call m a (.exc z_ env) = .exc z_ env := rfl
@[simp] theorem k_ev_bm1_e (Γ : Ctx) (call : Nat → List (D × Bool) → CRes) (m : Bm) (a : E) : k_ev_bm1 Γ call m a .err = .err := rfl
@[simp] theorem ev_bm (Γ : Ctx) (call : Nat → List (D × Bool) → CRes) (m : Bm) (o : E) (a : E) (env : Fm) : ev Γ call (.bm m o a) env =  k_ev_bm1 Γ call m a (ev Γ call o env) := by
  first | rfl | (simp only [ev]; done) | (simp only [ev]; rfl)
noncomputable def k_ev_fn1 (Γ : Ctx) (call : Nat → List (D × Bool) → CRes) (f : Nat) (r_ : Res (List D)) : Res (D × Bool) := r_.bind fun ds (env : Fm) =>
      match call f ((ds ++ Γ.dfl f).map fun d => (d, false)) with
      | .ret r none => .ok r env
      | .exc x none => .exc x env
      | _ => .err
@[simp] theorem k_ev_fn1_k (Γ : Ctx) (call : Nat → List (D × Bool) → CRes) (f : Nat) (ds : List D) (env : Fm) : k_ev_fn1 Γ call f (.ok ds env) =
      match call f ((ds ++ Γ.dfl f).map fun d => (d, false)) with
      | .ret r none => .ok r env
      | .exc x none => .exc x env
      | _ => .err := rfl
@[simp] theorem k_ev_fn1_x (Γ : Ctx) (call : Nat → List (D × Bool) → CRes) (f : Nat) (z_ : Exn) (env : Fm) : k_ev_fn1 Γ call f (.exc z_ env) = .exc z_ env := rfl
@[simp] theorem k_ev_fn1_e (Γ : Ctx) (call : Nat → List (D × Bool) → CRes) (f : Nat) : k_ev_fn1 Γ call f .err = .err := rfl
@[simp] theorem ev_fn (Γ : Ctx) (call : Nat → List (D × Bool) → CRes) (f : Nat) (es : Es) (env : Fm) : ev Γ call (.fn f es) env =  k_ev_fn1 Γ call f (evs Γ call es env) := by
  first | rfl | (simp only [ev]; done) | (simp only [ev]; rfl)
noncomputable def k_ev_fnv2 (Γ : Ctx) (call : Nat → List (D × Bool) → CRes) (f : Nat) (x : Nat) (r_ : Res (List D)) : Res (D × Bool) := r_.bind fun ds (env : Fm) =>
      match env[x]? with
      | some (some (d, true)) =>
        match call f ((d, true) :: (ds ++ Γ.dfl f).map fun d => (d, false)) with
        | .ret r (some d') => .ok r (env.set x (some (d', true)))
        | .exc z (some d') => .exc z (env.set x (some (d', true)))
        | _ => .err
      | _ => .err
@[simp] theorem k_ev_fnv2_k (Γ : Ctx) (call : Nat → List (D × Bool) → CRes) (f : Nat) (x : Nat) (ds : List D) (env : Fm) : k_ev_fnv2 Γ call f x (.ok ds env) =
      match env[x]? with
      | some (some (d, true)) =>
        match call f ((d, true) :: (ds ++ Γ.dfl f).map fun d => (d, false)) with
        | .ret r (some d') => .ok r (env.set x (some (d', true)))
        | .exc z (some d') => .exc z (env.set x (some (d', true)))
        | _ => .err
      | _ => .err := rfl
@[simp] theorem k_ev_fnv2_x (Γ : Ctx) (call : Nat → List (D × Bool) → CRes) (f : Nat) (x : Nat) (z_ : Exn) (env : Fm) : k_ev_fnv2 Γ call f x (.exc z_ env) = .exc z_ env := rfl
@[simp] theorem k_ev_fnv2_e (Γ : Ctx) (call : Nat → List (D × Bool) → CRes) (f : Nat) (x : Nat) : k_ev_fnv2 Γ call f x .err = .err := rfl
noncomputable def k_ev_fnv1 (Γ : Ctx) (call : Nat → List (D × Bool) → CRes) (f : Nat) (x : Nat) (es : Es) (r_ : Res (D)) : Res (D × Bool) := r_.bind fun _ (env : Fm) =>  k_ev_fnv2 Γ call f x (evs Γ call es env)
@[simp] theorem k_ev_fnv1_k (Γ : Ctx) (call : Nat → List (D × Bool) → CRes) (f : Nat) (x : Nat) (es : Es) (v_ : D) (env : Fm) : k_ev_fnv1 Γ call f x es (.ok v_ env) =  k_ev_fnv2 Γ call f x (evs Γ call es env) := rfl
@[simp] theorem k_ev_fnv1_x (Γ : Ctx) (call : Nat → List (D × Bool) → CRes) (f : Nat) (x : Nat) (es : Es) (z_ : Exn) (env : Fm) : k_ev_fnv1 Γ call f x es (.exc z_ env) = .exc z_ env := rfl
@[simp] theorem k_ev_fnv1_e (Γ : Ctx) (call : Nat → List (D × Bool) → CRes) (f : Nat) (x : Nat) (es : Es) : k_ev_fnv1 Γ call f x es .err = .err := rfl
@[simp] theorem ev_fnv (Γ : Ctx) (call : Nat → List (D × Bool) → CRes) (f : Nat) (x : Nat) (es : Es) (env : Fm) : ev Γ call (.fnv f x es) env =  k_ev_fnv1 Γ call f x es (Res.lift (rdv x env) env) := by
  first | rfl | (simp only [ev]; done) | (simp only [ev]; rfl)
noncomputable def k_ev_fnk2 (Γ : Ctx) (call : Nat → List (D × Bool) → CRes) (f : Nat) (ds : List D) (r_ : Res (D × Bool)) : Res (D × Bool) := r_.bind fun y (env : Fm) =>
      match call f ((ds ++ [y.1]).map fun d => (d, false)) with
      | .ret r none => .ok r env
      | .exc x none => .exc x env
      | _ => .err
@[simp] theorem k_ev_fnk2_k (Γ : Ctx) (call : Nat → List (D × Bool) → CRes) (f : Nat) (ds : List D) (y : D × Bool) (env : Fm) : k_ev_fnk2 Γ call f ds (.ok y env) =
      match call f ((ds ++ [y.1]).map fun d => (d, false)) with
      | .ret r none => .ok r env
      | .exc x none => .exc x env
      | _ => .err := rfl
@[simp] theorem k_ev_fnk2_x (Γ : Ctx) (call : Nat → List (D × Bool) → CRes) (f : Nat) (ds : List D) (z_ : Exn) (env : Fm) : k_ev_fnk2 Γ call f ds (.exc z_ env) = .exc z_ env := rfl
@[simp] theorem k_ev_fnk2_e (Γ : Ctx) (call : Nat → List (D × Bool) → CRes) (f : Nat) (ds : List D) : k_ev_fnk2 Γ call f ds .err = .err := rfl
noncomputable def k_ev_fnk1 (Γ : Ctx) (call : Nat → List (D × Bool) → CRes) (f : Nat) (k : E) (r_ : Res (List D)) : Res (D × Bool) := r_.bind fun ds (env : Fm) =>  k_ev_fnk2 Γ call f ds (ev Γ call k env)
@[simp] theorem k_ev_fnk1_k (Γ : Ctx) (call : Nat → List (D × Bool) → CRes) (f : Nat) (k : E) (ds : List D) (env : Fm) : k_ev_fnk1 Γ call f k (.ok ds env) =  k_ev_fnk2 Γ call f ds (ev Γ call k env) := rfl
@[simp] theorem k_ev_fnk1_x (Γ : Ctx) (call : Nat → List (D × Bool) → CRes) (f : Nat) (k : E) (z_ : Exn) (env : Fm) : k_ev_fnk1 Γ call f k (.exc z_ env) = .exc z_ env := rfl
@[simp] theorem k_ev_fnk1_e (Γ : Ctx) (call : Nat → List (D × Bool) → CRes) (f : Nat) (k : E) : k_ev_fnk1 Γ call f k .err = .err := rfl
@[simp] theorem ev_fnk (Γ : Ctx) (call : Nat → List (D × Bool) → CRes) (f : Nat) (es : Es) (k : E) (env : Fm) : ev Γ call (.fnk f es k) env =  k_ev_fnk1 Γ call f k (evs Γ call es env) := by
  first | rfl | (simp only [ev]; done) | (simp only [ev]; rfl)
noncomputable def k_ev_mth2 (Γ : Ctx) (call : Nat → List (D × Bool) → CRes) (m : Nat) (x : D × Bool) (r_ : Res (List D)) : Res (D × Bool) := r_.bind fun ds (env : Fm) =>
      match x.1 with
      | .ins c fs vs =>
        match Γ.meth c m with
        | some f =>
          match call f ((.ins c fs vs, false) :: ds.map fun d => (d, false)) with
          | .ret r none => .ok r env
          | .exc x none => .exc x env
          | _ => .err
        | none => .err
      | _ => .err
@[simp] theorem k_ev_mth2_k (Γ : Ctx) (call : Nat → List (D × Bool) → CRes) (m : Nat) (x : D × Bool) (ds : List D) (env : Fm) : k_ev_mth2 Γ call m x (.ok ds env) =
      match x.1 with
      | .ins c fs vs =>
        match Γ.meth c m with
        | some f =>
          match call f ((.ins c fs vs, false) :: ds.map fun d => (d, false)) with
          | .ret r none => .ok r env
          | .exc x none => .exc x env
          | _ => .err
        | none => .err
      | _ => .err := rfl
@[simp] theorem k_ev_mth2_x (Γ : Ctx) (call : Nat → List (D × Bool) → CRes) (m : Nat) (x : D × Bool) (z_ : Exn) (env : Fm) : k_ev_mth2 Γ call m x (.exc z_ env) = .exc z_ env := rfl
@[simp] theorem k_ev_mth2_e (Γ : Ctx) (call : Nat → List (D × Bool) → CRes) (m : Nat) (x : D × Bool) : k_ev_mth2 Γ call m x .err = .err := rfl
noncomputable def k_ev_mth1 (Γ : Ctx) (call : Nat → List (D × Bool) → CRes) (m : Nat) (es : Es) (r_ : Res (D × Bool)) : Res (D × Bool) := r_.bind fun x (env : Fm) =>  k_ev_mth2 Γ call m x (evs Γ call es env)
@[simp] theorem k_ev_mth1_k (Γ : Ctx) (call : Nat → List (D × Bool) → CRes) (m : Nat) (es : Es) (x : D × Bool) (env : Fm) : k_ev_mth1 Γ call m es (.ok x env) =  k_ev_mth2 Γ call m x (evs Γ call es env) := rfl
@[simp] theorem k_ev_mth1_x (Γ : Ctx) (call : Nat → List (D × Bool) → CRes) (m : Nat) (es : Es) (z_ : Exn) (env : Fm) : k_ev_mth1 Γ call m es (.exc z_ env) = .exc z_ env := rfl
@[simp] theorem k_ev_mth1_e (Γ : Ctx) (call : Nat → List (D × Bool) → CRes) (m : Nat) (es : Es) : k_ev_mth1 Γ call m es .err = .err := rfl
@[simp] theorem ev_mth (Γ : Ctx) (call : Nat → List (D × Bool) → CRes) (o : E) (m : Nat) (es : Es) (env : Fm) : ev Γ call (.mth o m es) env =  k_ev_mth1 Γ call m es (ev Γ call o env) := by
  first | rfl | (simp only [ev]; done) | (simp only [ev]; rfl)
noncomputable def k_ev_mthp1 (Γ : Ctx) (call : Nat → List (D × Bool) → CRes) (p : E) (m : Nat) (r_ : Res (List D)) : Res (D × Bool) := r_.bind fun ds (env : Fm) =>
      match pth Γ p env with
      | some (.ins c fs vs, true) =>
        match Γ.meth c m with
        | some f =>
          match call f ((.ins c fs vs, true) :: ds.map fun d => (d, false)) with
          | .ret r (some d') => .ok r (setP Γ p d' env)
          | .exc x (some d') => .exc x (setP Γ p d' env)
          | _ => .err
        | none => .err
      | _ => .err
@[simp] theorem k_ev_mthp1_k (Γ : Ctx) (call : Nat → List (D × Bool) → CRes) (p : E) (m : Nat) (ds : List D) (env : Fm) : k_ev_mthp1 Γ call p m (.ok ds env) =
      match pth Γ p env with
      | some (.ins c fs vs, true) =>
        match Γ.meth c m with
        | some f =>
          match call f ((.ins c fs vs, true) :: ds.map fun d => (d, false)) with
          | .ret r (some d') => .ok r (setP Γ p d' env)
          | .exc x (some d') => .exc x (setP Γ p d' env)
          | _ => .err
        | none => .err
      | _ => .err := rfl
@[simp] theorem k_ev_mthp1_x (Γ : Ctx) (call : Nat → List (D × Bool) → CRes) (p : E) (m : Nat) (z_ : Exn) (env : Fm) : k_ev_mthp1 Γ call p m (.exc z_ env) = .exc z_ env := rfl
@[simp] theorem k_ev_mthp1_e (Γ : Ctx) (call : Nat → List (D × Bool) → CRes) (p : E) (m : Nat) : k_ev_mthp1 Γ call p m .err = .err := rfl
@[simp] theorem ev_mthp (Γ : Ctx) (call : Nat → List (D × Bool) → CRes) (p : E) (m : Nat) (es : Es) (env : Fm) : ev Γ call (.mthp p m es) env = if es.simple = true then  k_ev_mthp1 Γ call p m (evs Γ call es env) else .err := by
  first | rfl | (simp only [ev]; done) | (simp only [ev]; rfl)
noncomputable def k_ev_new1 (Γ : Ctx) (call : Nat → List (D × Bool) → CRes) (c : Nat) (r_ : Res (List D)) : Res (D × Bool) := r_.bind fun ds (env : Fm) =>
      match Γ.init c with
      | some f =>
        match call f ((.ins c [] [], true) :: ds.map fun d => (d, false)) with
        | .ret (.non, _) (some d') => .ok (d', true) env
        | .exc x (some _) => .exc x env
        | _ => .err
      | none => .err
@[simp] theorem k_ev_new1_k (Γ : Ctx) (call : Nat → List (D × Bool) → CRes) (c : Nat) (ds : List D) (env : Fm) : k_ev_new1 Γ call c (.ok ds env) =
      match Γ.init c with
      | some f =>
        match call f ((.ins c [] [], true) :: ds.map fun d => (d, false)) with
        | .ret (.non, _) (some d') => .ok (d', true) env
        | .exc x (some _) => .exc x env
        | _ => .err
      | none => .err := rfl
@[simp] theorem k_ev_new1_x (Γ : Ctx) (call : Nat → List (D × Bool) → CRes) (c : Nat) (z_ : Exn) (env : Fm) : k_ev_new1 Γ call c (.exc z_ env) = .exc z_ env := rfl
@[simp] theorem k_ev_new1_e (Γ : Ctx) (call : Nat → List (D × Bool) → CRes) (c : Nat) : k_ev_new1 Γ call c .err = .err := rfl
@[simp] theorem ev_new (Γ : Ctx) (call : Nat → List (D × Bool) → CRes) (c : Nat) (es : Es) (env : Fm) : ev Γ call (.new c es) env =  k_ev_new1 Γ call c (evs Γ call es env) := by
  first | rfl | (simp only [ev]; done) | (simp only [ev]; rfl)
noncomputable def k_ev_pop1 (Γ : Ctx) (call : Nat → List (D × Bool) → CRes) (x : Nat) (i : E) (r_ : Res (D × Bool)) : Res (D × Bool) := r_.bind fun y (env : Fm) =>
      match env[x]?, y.1 with
      | some (some (.lst l, true)), .int i =>
        match ixn l.length i with
        | some j =>
          match l[j]? with
          | some d => .ok (d, false) (env.set x (some (.lst (l.eraseIdx j), true)))
          | none => .err
        | none => .err
      | _, _ => .err
@[simp] theorem k_ev_pop1_k (Γ : Ctx) (call : Nat → List (D × Bool) → CRes) (x : Nat) (i : E) (y : D × Bool) (env : Fm) : k_ev_pop1 Γ call x i (.ok y env) =
      match env[x]?, y.1 with
      | some (some (.lst l, true)), .int i =>
        match ixn l.length i with
        | some j =>
          match l[j]? with
          | some d => .ok (d, false) (env.set x (some (.lst (l.eraseIdx j), true)))
          | none => .err
        | none => .err
      | _, _ => .err := rfl
@[simp] theorem k_ev_pop1_x (Γ : Ctx) (call : Nat → List (D × Bool) → CRes) (x : Nat) (i : E) (z_ : Exn) (env : Fm) : k_ev_pop1 Γ call x i (.exc z_ env) = .exc z_ env := rfl
@[simp] theorem k_ev_pop1_e (Γ : Ctx) (call : Nat → List (D × Bool) → CRes) (x : Nat) (i : E) : k_ev_pop1 Γ call x i .err = .err := rfl
@[simp] theorem ev_pop (Γ : Ctx) (call : Nat → List (D × Bool) → CRes) (x : Nat) (i : E) (env : Fm) : ev Γ call (.pop x i) env =  k_ev_pop1 Γ call x i (ev Γ call i env) := by
  first | rfl | (simp only [ev]; done) | (simp only [ev]; rfl)
noncomputable def k_ev_lc2 (Γ : Ctx) (call : Nat → List (D × Bool) → CRes) (tg : Tg) (env : Fm) (r_ : Res (List D)) : Res (D × Bool) := r_.bind fun ds (e : Fm) => .ok (.lst ds, true) (rst e (frs env tg.ixs) tg.ixs)
@[simp] theorem k_ev_lc2_k (Γ : Ctx) (call : Nat → List (D × Bool) → CRes) (tg : Tg) (env : Fm) (ds : List D) (e : Fm) : k_ev_lc2 Γ call tg env (.ok ds e) = .ok (.lst ds, true) (rst e (frs env tg.ixs) tg.ixs) := rfl
@[simp] theorem k_ev_lc2_x (Γ : Ctx) (call : Nat → List (D × Bool) → CRes) (tg : Tg) (env : Fm) (z_ : Exn) (e : Fm) : k_ev_lc2 Γ call tg env (.exc z_ e) = .exc z_ e := rfl
@[simp] theorem k_ev_lc2_e (Γ : Ctx) (call : Nat → List (D × Bool) → CRes) (tg : Tg) (env : Fm) : k_ev_lc2 Γ call tg env .err = .err := rfl
noncomputable def k_ev_lc1 (Γ : Ctx) (call : Nat → List (D × Bool) → CRes) (tg : Tg) (c : O) (body : E) (r_ : Res (List D)) : Res (D × Bool) := r_.bind fun items (env : Fm) =>  k_ev_lc2 Γ call tg env (lcl Γ call tg c body items (wip (frs env tg.ixs) tg.ixs) [])
@[simp] theorem k_ev_lc1_k (Γ : Ctx) (call : Nat → List (D × Bool) → CRes) (tg : Tg) (c : O) (body : E) (items : List D) (env : Fm) : k_ev_lc1 Γ call tg c body (.ok items env) =  k_ev_lc2 Γ call tg env (lcl Γ call tg c body items (wip (frs env tg.ixs) tg.ixs) []) := rfl
@[simp] theorem k_ev_lc1_x (Γ : Ctx) (call : Nat → List (D × Bool) → CRes) (tg : Tg) (c : O) (body : E) (z_ : Exn) (env : Fm) : k_ev_lc1 Γ call tg c body (.exc z_ env) = .exc z_ env := rfl
@[simp] theorem k_ev_lc1_e (Γ : Ctx) (call : Nat → List (D × Bool) → CRes) (tg : Tg) (c : O) (body : E) : k_ev_lc1 Γ call tg c body .err = .err := rfl
@[simp] theorem ev_lc (Γ : Ctx) (call : Nat → List (D × Bool) → CRes) (it : Src) (tg : Tg) (c : O) (body : E) (env : Fm) : ev Γ call (.lc it tg c body) env =  k_ev_lc1 Γ call tg c body (evi Γ call it env) := by
  first | rfl | (simp only [ev]; done) | (simp only [ev]; rfl)
@[simp] theorem ev_lc2 (Γ : Ctx) (call : Nat → List (D × Bool) → CRes) (it : Src) (tg : Tg) (it2 : Src) (tg2 : Tg) (body : E) (env : Fm) : ev Γ call (.lc2 it tg it2 tg2 body) env = .err := by
  first | rfl | (simp only [ev]; done) | (simp only [ev]; rfl)
@[simp] theorem ev_dc (Γ : Ctx) (call : Nat → List (D × Bool) → CRes) (it : Src) (tg : Tg) (k : E) (v : E) (env : Fm) : ev Γ call (.dc it tg k v) env = .err := by
  first | rfl | (simp only [ev]; done) | (simp only [ev]; rfl)
@[simp] theorem evs_nil (Γ : Ctx) (call : Nat → List (D × Bool) → CRes) (env : Fm) : evs Γ call .nil env = .ok [] env := by
  first | rfl | (simp only [evs]; done) | (simp only [evs]; rfl)
noncomputable def k_evs_cons2 (Γ : Ctx) (call : Nat → List (D × Bool) → CRes) (x : D × Bool) (r_ : Res (List D)) : Res (List D) := r_.bind fun ds (env : Fm) => .ok (x.1 :: ds) env
@[simp] theorem k_evs_cons2_k (Γ : Ctx) (call : Nat → List (D × Bool) → CRes) (x : D × Bool) (ds : List D) (env : Fm) : k_evs_cons2 Γ call x (.ok ds env) = .ok (x.1 :: ds) env := rfl
@[simp] theorem k_evs_cons2_x (Γ : Ctx) (call : Nat → List (D × Bool) → CRes) (x : D × Bool) (z_ : Exn) (env : Fm) : k_evs_cons2 Γ call x (.exc z_ env) = .exc z_ env := rfl
@[simp] theorem k_evs_cons2_e (Γ : Ctx) (call : Nat → List (D × Bool) → CRes) (x : D × Bool) : k_evs_cons2 Γ call x .err = .err := rfl
noncomputable def k_evs_cons1 (Γ : Ctx) (call : Nat → List (D × Bool) → CRes) (es : Es) (r_ : Res (D × Bool)) : Res (List D) := r_.bind fun x (env : Fm) =>  k_evs_cons2 Γ call x (evs Γ call es env)
@[simp] theorem k_evs_cons1_k (Γ : Ctx) (call : Nat → List (D × Bool) → CRes) (es : Es) (x : D × Bool) (env : Fm) : k_evs_cons1 Γ call es (.ok x env) =  k_evs_cons2 Γ call x (evs Γ call es env) := rfl
@[simp] theorem k_evs_cons1_x (Γ : Ctx) (call : Nat → List (D × Bool) → CRes) (es : Es) (z_ : Exn) (env : Fm) : k_evs_cons1 Γ call es (.exc z_ env) = .exc z_ env := rfl
@[simp] theorem k_evs_cons1_e (Γ : Ctx) (call : Nat → List (D × Bool) → CRes) (es : Es) : k_evs_cons1 Γ call es .err = .err := rfl
@[simp] theorem evs_cons (Γ : Ctx) (call : Nat → List (D × Bool) → CRes) (e : E) (es : Es) (env : Fm) : evs Γ call (.cons e es) env =  k_evs_cons1 Γ call es (ev Γ call e env) := by
  first | rfl | (simp only [evs]; done) | (simp only [evs]; rfl)
@[simp] theorem evo_none (Γ : Ctx) (call : Nat → List (D × Bool) → CRes) (env : Fm) : evo Γ call .none env = .ok none env := by
  first | rfl | (simp only [evo]; done) | (simp only [evo]; rfl)
noncomputable def k_evo_some1 (Γ : Ctx) (call : Nat → List (D × Bool) → CRes) (r_ : Res (D × Bool)) : Res (Option Int) := r_.bind fun x (env : Fm) => match x.1 with | .int i => .ok (some i) env | _ => .err
@[simp] theorem k_evo_some1_k (Γ : Ctx) (call : Nat → List (D × Bool) → CRes) (x : D × Bool) (env : Fm) : k_evo_some1 Γ call (.ok x env) = match x.1 with | .int i => .ok (some i) env | _ => .err := rfl
@[simp] theorem k_evo_some1_x (Γ : Ctx) (call : Nat → List (D × Bool) → CRes) (z_ : Exn) (env : Fm) : k_evo_some1 Γ call (.exc z_ env) = .exc z_ env := rfl
@[simp] theorem k_evo_some1_e (Γ : Ctx) (call : Nat → List (D × Bool) → CRes) : k_evo_some1 Γ call .err = .err := rfl
@[simp] theorem evo_some (Γ : Ctx) (call : Nat → List (D × Bool) → CRes) (e : E) (env : Fm) : evo Γ call (.some e) env =  k_evo_some1 Γ call (ev Γ call e env) := by
  first | rfl | (simp only [evo]; done) | (simp only [evo]; rfl)
noncomputable def k_evi_seq1 (Γ : Ctx) (call : Nat → List (D × Bool) → CRes) (r_ : Res (D × Bool)) : Res (List D) := r_.bind fun x (env : Fm) => match x.1 with | .lst l => .ok l env | .tup l => .ok l env | .str s => .ok (s.cps.toList.map fun c => .str ⟨#[c]⟩) env | _ => .err
@[simp] theorem k_evi_seq1_k (Γ : Ctx) (call : Nat → List (D × Bool) → CRes) (x : D × Bool) (env : Fm) : k_evi_seq1 Γ call (.ok x env) = match x.1 with | .lst l => .ok l env | .tup l => .ok l env | .str s => .ok (s.cps.toList.map fun c => .str ⟨#[c]⟩) env | _ => .err := rfl
@[simp] theorem k_evi_seq1_x (Γ : Ctx) (call : Nat → List (D × Bool) → CRes) (z_ : Exn) (env : Fm) : k_evi_seq1 Γ call (.exc z_ env) = .exc z_ env := rfl
@[simp] theorem k_evi_seq1_e (Γ : Ctx) (call : Nat → List (D × Bool) → CRes) : k_evi_seq1 Γ call .err = .err := rfl
@[simp] theorem evi_seq (Γ : Ctx) (call : Nat → List (D × Bool) → CRes) (e : E) (env : Fm) : evi Γ call (.seq e) env =  k_evi_seq1 Γ call (ev Γ call e env) := by
  first | rfl | (simp only [evi]; done) | (simp only [evi]; rfl)
@[simp] theorem evi_pek (Γ : Ctx) (call : Nat → List (D × Bool) → CRes) (p : E) (env : Fm) : evi Γ call (.pek p) env = .err := by
  first | rfl | (simp only [evi]; done) | (simp only [evi]; rfl)
noncomputable def k_evi_rng11 (Γ : Ctx) (call : Nat → List (D × Bool) → CRes) (r_ : Res (D × Bool)) : Res (List D) := r_.bind fun x (env : Fm) => match x.1 with | .int n => if -100000000 ≤ n ∧ n ≤ 100000000 then .ok (rgD 0 n) env else .err | _ => .err
@[simp] theorem k_evi_rng11_k (Γ : Ctx) (call : Nat → List (D × Bool) → CRes) (x : D × Bool) (env : Fm) : k_evi_rng11 Γ call (.ok x env) = match x.1 with | .int n => if -100000000 ≤ n ∧ n ≤ 100000000 then .ok (rgD 0 n) env else .err | _ => .err := rfl
@[simp] theorem k_evi_rng11_x (Γ : Ctx) (call : Nat → List (D × Bool) → CRes) (z_ : Exn) (env : Fm) : k_evi_rng11 Γ call (.exc z_ env) = .exc z_ env := rfl
@[simp] theorem k_evi_rng11_e (Γ : Ctx) (call : Nat → List (D × Bool) → CRes) : k_evi_rng11 Γ call .err = .err := rfl
@[simp] theorem evi_rng1 (Γ : Ctx) (call : Nat → List (D × Bool) → CRes) (e : E) (env : Fm) : evi Γ call (.rng1 e) env =  k_evi_rng11 Γ call (ev Γ call e env) := by
  first | rfl | (simp only [evi]; done) | (simp only [evi]; rfl)
noncomputable def k_evi_rng22 (Γ : Ctx) (call : Nat → List (D × Bool) → CRes) (x : D × Bool) (r_ : Res (D × Bool)) : Res (List D) := r_.bind fun y (env : Fm) => match x.1, y.1 with
      | .int i, .int j => if -100000000 ≤ i ∧ i ≤ 100000000 ∧ -100000000 ≤ j ∧ j ≤ 100000000 then .ok (rgD i j) env else .err
      | _, _ => .err
@[simp] theorem k_evi_rng22_k (Γ : Ctx) (call : Nat → List (D × Bool) → CRes) (x : D × Bool) (y : D × Bool) (env : Fm) : k_evi_rng22 Γ call x (.ok y env) = match x.1, y.1 with
      | .int i, .int j => if -100000000 ≤ i ∧ i ≤ 100000000 ∧ -100000000 ≤ j ∧ j ≤ 100000000 then .ok (rgD i j) env else .err
      | _, _ => .err := rfl
@[simp] theorem k_evi_rng22_x (Γ : Ctx) (call : Nat → List (D × Bool) → CRes) (x : D × Bool) (z_ : Exn) (env : Fm) : k_evi_rng22 Γ call x (.exc z_ env) = .exc z_ env := rfl
@[simp] theorem k_evi_rng22_e (Γ : Ctx) (call : Nat → List (D × Bool) → CRes) (x : D × Bool) : k_evi_rng22 Γ call x .err = .err := rfl
noncomputable def k_evi_rng21 (Γ : Ctx) (call : Nat → List (D × Bool) → CRes) (b : E) (r_ : Res (D × Bool)) : Res (List D) := r_.bind fun x (env : Fm) =>  k_evi_rng22 Γ call x (ev Γ call b env)
@[simp] theorem k_evi_rng21_k (Γ : Ctx) (call : Nat → List (D × Bool) → CRes) (b : E) (x : D × Bool) (env : Fm) : k_evi_rng21 Γ call b (.ok x env) =  k_evi_rng22 Γ call x (ev Γ call b env) := rfl
@[simp] theorem k_evi_rng21_x (Γ : Ctx) (call : Nat → List (D × Bool) → CRes) (b : E) (z_ : Exn) (env : Fm) : k_evi_rng21 Γ call b (.exc z_ env) = .exc z_ env := rfl
@[simp] theorem k_evi_rng21_e (Γ : Ctx) (call : Nat → List (D × Bool) → CRes) (b : E) : k_evi_rng21 Γ call b .err = .err := rfl
@[simp] theorem evi_rng2 (Γ : Ctx) (call : Nat → List (D × Bool) → CRes) (a : E) (b : E) (env : Fm) : evi Γ call (.rng2 a b) env =  k_evi_rng21 Γ call b (ev Γ call a env) := by
  first | rfl | (simp only [evi]; done) | (simp only [evi]; rfl)
noncomputable def k_evi_enm1 (Γ : Ctx) (call : Nat → List (D × Bool) → CRes) (r_ : Res (D × Bool)) : Res (List D) := r_.bind fun x (env : Fm) =>
      match x.1 with
      | .lst l => .ok ((rgD 0 l.length).zipWith (fun a b => .tup [a, b]) l) env
      | .tup l => .ok ((rgD 0 l.length).zipWith (fun a b => .tup [a, b]) l) env
      | _ => .err
@[simp] theorem k_evi_enm1_k (Γ : Ctx) (call : Nat → List (D × Bool) → CRes) (x : D × Bool) (env : Fm) : k_evi_enm1 Γ call (.ok x env) =
      match x.1 with
      | .lst l => .ok ((rgD 0 l.length).zipWith (fun a b => .tup [a, b]) l) env
      | .tup l => .ok ((rgD 0 l.length).zipWith (fun a b => .tup [a, b]) l) env
      | _ => .err := rfl
@[simp] theorem k_evi_enm1_x (Γ : Ctx) (call : Nat → List (D × Bool) → CRes) (z_ : Exn) (env : Fm) : k_evi_enm1 Γ call (.exc z_ env) = .exc z_ env := rfl
@[simp] theorem k_evi_enm1_e (Γ : Ctx) (call : Nat → List (D × Bool) → CRes) : k_evi_enm1 Γ call .err = .err := rfl
@[simp] theorem evi_enm (Γ : Ctx) (call : Nat → List (D × Bool) → CRes) (e : E) (env : Fm) : evi Γ call (.enm e) env =  k_evi_enm1 Γ call (ev Γ call e env) := by
  first | rfl | (simp only [evi]; done) | (simp only [evi]; rfl)
noncomputable def k_evi_zip2 (Γ : Ctx) (call : Nat → List (D × Bool) → CRes) (a : E) (b : E) (x : D × Bool) (r_ : Res (D × Bool)) : Res (List D) := r_.bind fun y (env : Fm) =>
      match x.1, y.1 with
      | .lst l, .lst m => .ok (l.zipWith (fun a b => .tup [a, b]) m) env
      | .tup l, .tup m => .ok (l.zipWith (fun a b => .tup [a, b]) m) env
      | .lst l, .tup m => .ok (l.zipWith (fun a b => .tup [a, b]) m) env
      | .tup l, .lst m => .ok (l.zipWith (fun a b => .tup [a, b]) m) env
      | _, _ => .err
@[simp] theorem k_evi_zip2_k (Γ : Ctx) (call : Nat → List (D × Bool) → CRes) (a : E) (b : E) (x : D × Bool) (y : D × Bool) (env : Fm) : k_evi_zip2 Γ call a b x (.ok y env) =
      match x.1, y.1 with
      | .lst l, .lst m => .ok (l.zipWith (fun a b => .tup [a, b]) m) env
      | .tup l, .tup m => .ok (l.zipWith (fun a b => .tup [a, b]) m) env
      | .lst l, .tup m => .ok (l.zipWith (fun a b => .tup [a, b]) m) env
      | .tup l, .lst m => .ok (l.zipWith (fun a b => .tup [a, b]) m) env
      | _, _ => .err := rfl
@[simp] theorem k_evi_zip2_x (Γ : Ctx) (call : Nat → List (D × Bool) → CRes) (a : E) (b : E) (x : D × Bool) (z_ : Exn) (env : Fm) : k_evi_zip2 Γ call a b x (.exc z_ env) = .exc z_ env := rfl
@[simp] theorem k_evi_zip2_e (Γ : Ctx) (call : Nat → List (D × Bool) → CRes) (a : E) (b : E) (x : D × Bool) : k_evi_zip2 Γ call a b x .err = .err := rfl
noncomputable def k_evi_zip1 (Γ : Ctx) (call : Nat → List (D × Bool) → CRes) (a : E) (b : E) (r_ : Res (D × Bool)) : Res (List D) := r_.bind fun x (env : Fm) =>  k_evi_zip2 Γ call a b x (ev Γ call b env)
@[simp] theorem k_evi_zip1_k (Γ : Ctx) (call : Nat → List (D × Bool) → CRes) (a : E) (b : E) (x : D × Bool) (env : Fm) : k_evi_zip1 Γ call a b (.ok x env) =  k_evi_zip2 Γ call a b x (ev Γ call b env) := rfl
@[simp] theorem k_evi_zip1_x (Γ : Ctx) (call : Nat → List (D × Bool) → CRes) (a : E) (b : E) (z_ : Exn) (env : Fm) : k_evi_zip1 Γ call a b (.exc z_ env) = .exc z_ env := rfl
@[simp] theorem k_evi_zip1_e (Γ : Ctx) (call : Nat → List (D × Bool) → CRes) (a : E) (b : E) : k_evi_zip1 Γ call a b .err = .err := rfl
@[simp] theorem evi_zip (Γ : Ctx) (call : Nat → List (D × Bool) → CRes) (a : E) (b : E) (env : Fm) : evi Γ call (.zip a b) env =  k_evi_zip1 Γ call a b (ev Γ call a env) := by
  first | rfl | (simp only [evi]; done) | (simp only [evi]; rfl)
@[simp] theorem evi_vals (Γ : Ctx) (call : Nat → List (D × Bool) → CRes) (e : E) (env : Fm) : evi Γ call (.vals e) env = .err := by
  first | rfl | (simp only [evi]; done) | (simp only [evi]; rfl)
@[simp] theorem evp_nil (Γ : Ctx) (call : Nat → List (D × Bool) → CRes) (env : Fm) : evp Γ call .nil env = .ok [] env := by
  first | rfl | (simp only [evp]; done) | (simp only [evp]; rfl)
noncomputable def k_evp_cons2 (Γ : Ctx) (call : Nat → List (D × Bool) → CRes) (x : D × Bool) (r_ : Res (List (D × Bool))) : Res (List (D × Bool)) := r_.bind fun ds (env : Fm) => .ok (x :: ds) env
@[simp] theorem k_evp_cons2_k (Γ : Ctx) (call : Nat → List (D × Bool) → CRes) (x : D × Bool) (ds : List (D × Bool)) (env : Fm) : k_evp_cons2 Γ call x (.ok ds env) = .ok (x :: ds) env := rfl
@[simp] theorem k_evp_cons2_x (Γ : Ctx) (call : Nat → List (D × Bool) → CRes) (x : D × Bool) (z_ : Exn) (env : Fm) : k_evp_cons2 Γ call x (.exc z_ env) = .exc z_ env := rfl
@[simp] theorem k_evp_cons2_e (Γ : Ctx) (call : Nat → List (D × Bool) → CRes) (x : D × Bool) : k_evp_cons2 Γ call x .err = .err := rfl
noncomputable def k_evp_cons1 (Γ : Ctx) (call : Nat → List (D × Bool) → CRes) (es : Es) (r_ : Res (D × Bool)) : Res (List (D × Bool)) := r_.bind fun x (env : Fm) =>  k_evp_cons2 Γ call x (evp Γ call es env)
@[simp] theorem k_evp_cons1_k (Γ : Ctx) (call : Nat → List (D × Bool) → CRes) (es : Es) (x : D × Bool) (env : Fm) : k_evp_cons1 Γ call es (.ok x env) =  k_evp_cons2 Γ call x (evp Γ call es env) := rfl
@[simp] theorem k_evp_cons1_x (Γ : Ctx) (call : Nat → List (D × Bool) → CRes) (es : Es) (z_ : Exn) (env : Fm) : k_evp_cons1 Γ call es (.exc z_ env) = .exc z_ env := rfl
@[simp] theorem k_evp_cons1_e (Γ : Ctx) (call : Nat → List (D × Bool) → CRes) (es : Es) : k_evp_cons1 Γ call es .err = .err := rfl
@[simp] theorem evp_cons (Γ : Ctx) (call : Nat → List (D × Bool) → CRes) (e : E) (es : Es) (env : Fm) : evp Γ call (.cons e es) env =  k_evp_cons1 Γ call es (ev Γ call e env) := by
  first | rfl | (simp only [evp]; done) | (simp only [evp]; rfl)
noncomputable def k_ex_asg1 (Γ : Ctx) (call : Nat → List (D × Bool) → CRes) (io : Bool) (tg : Tg) (r_ : Res (D × Bool)) : Fl := r_.fl fun r (env : Fm) =>
      match bnd io tg r env with
      | some env => .nx env
      | none => .err
@[simp] theorem k_ex_asg1_k (Γ : Ctx) (call : Nat → List (D × Bool) → CRes) (io : Bool) (tg : Tg) (r : D × Bool) (env : Fm) : k_ex_asg1 Γ call io tg (.ok r env) =
      match bnd io tg r env with
      | some env => .nx env
      | none => .err := rfl
@[simp] theorem k_ex_asg1_x (Γ : Ctx) (call : Nat → List (D × Bool) → CRes) (io : Bool) (tg : Tg) (z_ : Exn) (env : Fm) : k_ex_asg1 Γ call io tg (.exc z_ env) = .exc z_ env := rfl
@[simp] theorem k_ex_asg1_e (Γ : Ctx) (call : Nat → List (D × Bool) → CRes) (io : Bool) (tg : Tg) : k_ex_asg1 Γ call io tg .err = .err := rfl
@[simp] theorem ex_asg (Γ : Ctx) (call : Nat → List (D × Bool) → CRes) (io : Bool) (tg : Tg) (e : E) (env : Fm) : ex Γ call io (.asg tg e) env =  k_ex_asg1 Γ call io tg (ev Γ call e env) := by
  first | rfl | (simp only [ex]; done) | (simp only [ex]; rfl)
noncomputable def k_ex_par1 (Γ : Ctx) (call : Nat → List (D × Bool) → CRes) (io : Bool) (is : List Nat) (r_ : Res (List (D × Bool))) : Fl := r_.fl fun rs (env : Fm) =>
      if rs.length = is.length ∧ (io = true → 0 ∉ is) then .nx ((is.zip rs).foldl (fun e p => e.set p.1 (some p.2)) env) else .err
@[simp] theorem k_ex_par1_k (Γ : Ctx) (call : Nat → List (D × Bool) → CRes) (io : Bool) (is : List Nat) (rs : List (D × Bool)) (env : Fm) : k_ex_par1 Γ call io is (.ok rs env) =
      if rs.length = is.length ∧ (io = true → 0 ∉ is) then .nx ((is.zip rs).foldl (fun e p => e.set p.1 (some p.2)) env) else .err := rfl
@[simp] theorem k_ex_par1_x (Γ : Ctx) (call : Nat → List (D × Bool) → CRes) (io : Bool) (is : List Nat) (z_ : Exn) (env : Fm) : k_ex_par1 Γ call io is (.exc z_ env) = .exc z_ env := rfl
@[simp] theorem k_ex_par1_e (Γ : Ctx) (call : Nat → List (D × Bool) → CRes) (io : Bool) (is : List Nat) : k_ex_par1 Γ call io is .err = .err := rfl
@[simp] theorem ex_par (Γ : Ctx) (call : Nat → List (D × Bool) → CRes) (io : Bool) (is : List Nat) (es : Es) (env : Fm) : ex Γ call io (.par is es) env =  k_ex_par1 Γ call io is (evp Γ call es env) := by
  first | rfl | (simp only [ex]; done) | (simp only [ex]; rfl)
noncomputable def k_ex_aug1 (Γ : Ctx) (call : Nat → List (D × Bool) → CRes) (io : Bool) (i : Nat) (sb : Bool) (a : Int) (r_ : Res (D × Bool)) : Fl := r_.fl fun r (env : Fm) =>
        match r.1 with
        | .int b => if io = true ∧ i = 0 then .err else .nx (env.set i (some (.int (if sb = true then a - b else a + b), false)))
        | _ => .err
@[simp] theorem k_ex_aug1_k (Γ : Ctx) (call : Nat → List (D × Bool) → CRes) (io : Bool) (i : Nat) (sb : Bool) (a : Int) (r : D × Bool) (env : Fm) : k_ex_aug1 Γ call io i sb a (.ok r env) =
        match r.1 with
        | .int b => if io = true ∧ i = 0 then .err else .nx (env.set i (some (.int (if sb = true then a - b else a + b), false)))
        | _ => .err := rfl
@[simp] theorem k_ex_aug1_x (Γ : Ctx) (call : Nat → List (D × Bool) → CRes) (io : Bool) (i : Nat) (sb : Bool) (a : Int) (z_ : Exn) (env : Fm) : k_ex_aug1 Γ call io i sb a (.exc z_ env) = .exc z_ env := rfl
@[simp] theorem k_ex_aug1_e (Γ : Ctx) (call : Nat → List (D × Bool) → CRes) (io : Bool) (i : Nat) (sb : Bool) (a : Int) : k_ex_aug1 Γ call io i sb a .err = .err := rfl
@[simp] theorem ex_aug (Γ : Ctx) (call : Nat → List (D × Bool) → CRes) (io : Bool) (i : Nat) (sb : Bool) (e : E) (env : Fm) : ex Γ call io (.aug i sb e) env =
    match rdv i env with
    | some (.int a) =>  k_ex_aug1 Γ call io i sb a (ev Γ call e env)
    | _ => .err := by
  first | rfl | (simp only [ex]; done) | (simp only [ex]; rfl)
noncomputable def k_ex_sub2 (Γ : Ctx) (call : Nat → List (D × Bool) → CRes) (io : Bool) (x : Nat) (i : E) (r : D × Bool) (r_ : Res (D × Bool)) : Fl := r_.fl fun y (env : Fm) =>
        match env[x]?, y.1 with
        | some (some (.lst l, true)), .int i =>
          match setI l i r.1 with
          | some l' => .nx (env.set x (some (.lst l', true)))
          | none => .err
        | _, _ => .err
@[simp] theorem k_ex_sub2_k (Γ : Ctx) (call : Nat → List (D × Bool) → CRes) (io : Bool) (x : Nat) (i : E) (r : D × Bool) (y : D × Bool) (env : Fm) : k_ex_sub2 Γ call io x i r (.ok y env) =
        match env[x]?, y.1 with
        | some (some (.lst l, true)), .int i =>
          match setI l i r.1 with
          | some l' => .nx (env.set x (some (.lst l', true)))
          | none => .err
        | _, _ => .err := rfl
@[simp] theorem k_ex_sub2_x (Γ : Ctx) (call : Nat → List (D × Bool) → CRes) (io : Bool) (x : Nat) (i : E) (r : D × Bool) (z_ : Exn) (env : Fm) : k_ex_sub2 Γ call io x i r (.exc z_ env) = .exc z_ env := rfl
@[simp] theorem k_ex_sub2_e (Γ : Ctx) (call : Nat → List (D × Bool) → CRes) (io : Bool) (x : Nat) (i : E) (r : D × Bool) : k_ex_sub2 Γ call io x i r .err = .err := rfl
noncomputable def k_ex_sub1 (Γ : Ctx) (call : Nat → List (D × Bool) → CRes) (io : Bool) (x : Nat) (i : E) (r_ : Res (D × Bool)) : Fl := r_.fl fun r (env : Fm) =>
      match rdv x env with
      | some _ =>  k_ex_sub2 Γ call io x i r (ev Γ call i env)
      | none => .err
@[simp] theorem k_ex_sub1_k (Γ : Ctx) (call : Nat → List (D × Bool) → CRes) (io : Bool) (x : Nat) (i : E) (r : D × Bool) (env : Fm) : k_ex_sub1 Γ call io x i (.ok r env) =
      match rdv x env with
      | some _ =>  k_ex_sub2 Γ call io x i r (ev Γ call i env)
      | none => .err := rfl
@[simp] theorem k_ex_sub1_x (Γ : Ctx) (call : Nat → List (D × Bool) → CRes) (io : Bool) (x : Nat) (i : E) (z_ : Exn) (env : Fm) : k_ex_sub1 Γ call io x i (.exc z_ env) = .exc z_ env := rfl
@[simp] theorem k_ex_sub1_e (Γ : Ctx) (call : Nat → List (D × Bool) → CRes) (io : Bool) (x : Nat) (i : E) : k_ex_sub1 Γ call io x i .err = .err := rfl
@[simp] theorem ex_sub (Γ : Ctx) (call : Nat → List (D × Bool) → CRes) (io : Bool) (x : Nat) (i : E) (e : E) (env : Fm) : ex Γ call io (.sub x i e) env =  k_ex_sub1 Γ call io x i (ev Γ call e env) := by
  first | rfl | (simp only [ex]; done) | (simp only [ex]; rfl)
@[simp] theorem ex_swp (Γ : Ctx) (call : Nat → List (D × Bool) → CRes) (io : Bool) (x : Nat) (i : E) (j : E) (a : E) (b : E) (env : Fm) : ex Γ call io (.swp x i j a b) env = .err := by
  first | rfl | (simp only [ex]; done) | (simp only [ex]; rfl)
noncomputable def k_ex_fld1 (Γ : Ctx) (call : Nat → List (D × Bool) → CRes) (io : Bool) (f : Nat) (r_ : Res (D × Bool)) : Fl := r_.fl fun r (env : Fm) =>
      match env[(0 : Nat)]? with
      | some (some (.ins c fs vs, true)) =>
        if fs.length < 100 ∧ (Γ.om c f = true → r.2 = true) then .nx (env.set 0 (some (.ins c (fput f r.1 fs vs).1 (fput f r.1 fs vs).2, true))) else .err
      | _ => .err
@[simp] theorem k_ex_fld1_k (Γ : Ctx) (call : Nat → List (D × Bool) → CRes) (io : Bool) (f : Nat) (r : D × Bool) (env : Fm) : k_ex_fld1 Γ call io f (.ok r env) =
      match env[(0 : Nat)]? with
      | some (some (.ins c fs vs, true)) =>
        if fs.length < 100 ∧ (Γ.om c f = true → r.2 = true) then .nx (env.set 0 (some (.ins c (fput f r.1 fs vs).1 (fput f r.1 fs vs).2, true))) else .err
      | _ => .err := rfl
@[simp] theorem k_ex_fld1_x (Γ : Ctx) (call : Nat → List (D × Bool) → CRes) (io : Bool) (f : Nat) (z_ : Exn) (env : Fm) : k_ex_fld1 Γ call io f (.exc z_ env) = .exc z_ env := rfl
@[simp] theorem k_ex_fld1_e (Γ : Ctx) (call : Nat → List (D × Bool) → CRes) (io : Bool) (f : Nat) : k_ex_fld1 Γ call io f .err = .err := rfl
@[simp] theorem ex_fld (Γ : Ctx) (call : Nat → List (D × Bool) → CRes) (io : Bool) (f : Nat) (e : E) (env : Fm) : ex Γ call io (.fld f e) env =  k_ex_fld1 Γ call io f (ev Γ call e env) := by
  first | rfl | (simp only [ex]; done) | (simp only [ex]; rfl)
@[simp] theorem ex_fld2 (Γ : Ctx) (call : Nat → List (D × Bool) → CRes) (io : Bool) (f : Nat) (g : Nat) (e : E) (env : Fm) : ex Γ call io (.fld2 f g e) env = .err := by
  first | rfl | (simp only [ex]; done) | (simp only [ex]; rfl)
noncomputable def k_ex_app1 (Γ : Ctx) (call : Nat → List (D × Bool) → CRes) (io : Bool) (p : E) (r_ : Res (D × Bool)) : Fl := r_.fl fun r (env : Fm) =>
      match pth Γ p env with
      | some (.lst l, true) => if l.length < LIM then .nx (setP Γ p (.lst (l ++ [r.1])) env) else .err
      | _ => .err
@[simp] theorem k_ex_app1_k (Γ : Ctx) (call : Nat → List (D × Bool) → CRes) (io : Bool) (p : E) (r : D × Bool) (env : Fm) : k_ex_app1 Γ call io p (.ok r env) =
      match pth Γ p env with
      | some (.lst l, true) => if l.length < LIM then .nx (setP Γ p (.lst (l ++ [r.1])) env) else .err
      | _ => .err := rfl
@[simp] theorem k_ex_app1_x (Γ : Ctx) (call : Nat → List (D × Bool) → CRes) (io : Bool) (p : E) (z_ : Exn) (env : Fm) : k_ex_app1 Γ call io p (.exc z_ env) = .exc z_ env := rfl
@[simp] theorem k_ex_app1_e (Γ : Ctx) (call : Nat → List (D × Bool) → CRes) (io : Bool) (p : E) : k_ex_app1 Γ call io p .err = .err := rfl
@[simp] theorem ex_app (Γ : Ctx) (call : Nat → List (D × Bool) → CRes) (io : Bool) (p : E) (e : E) (env : Fm) : ex Γ call io (.app p e) env =
    match pth Γ p env with
    | some (.lst _, true) =>  k_ex_app1 Γ call io p (ev Γ call e env)
    | _ => .err := by
  first | rfl | (simp only [ex]; done) | (simp only [ex]; rfl)
noncomputable def k_ex_exp1 (Γ : Ctx) (call : Nat → List (D × Bool) → CRes) (io : Bool) (r_ : Res (D × Bool)) : Fl := r_.fl fun _ (env : Fm) => .nx env
@[simp] theorem k_ex_exp1_k (Γ : Ctx) (call : Nat → List (D × Bool) → CRes) (io : Bool) (v_ : D × Bool) (env : Fm) : k_ex_exp1 Γ call io (.ok v_ env) = .nx env := rfl
@[simp] theorem k_ex_exp1_x (Γ : Ctx) (call : Nat → List (D × Bool) → CRes) (io : Bool) (z_ : Exn) (env : Fm) : k_ex_exp1 Γ call io (.exc z_ env) = .exc z_ env := rfl
@[simp] theorem k_ex_exp1_e (Γ : Ctx) (call : Nat → List (D × Bool) → CRes) (io : Bool) : k_ex_exp1 Γ call io .err = .err := rfl
@[simp] theorem ex_exp (Γ : Ctx) (call : Nat → List (D × Bool) → CRes) (io : Bool) (e : E) (env : Fm) : ex Γ call io (.exp e) env =  k_ex_exp1 Γ call io (ev Γ call e env) := by
  first | rfl | (simp only [ex]; done) | (simp only [ex]; rfl)
noncomputable def k_ex_ret1 (Γ : Ctx) (call : Nat → List (D × Bool) → CRes) (io : Bool) (r_ : Res (D × Bool)) : Fl := r_.fl fun r (env : Fm) => .rt r env
@[simp] theorem k_ex_ret1_k (Γ : Ctx) (call : Nat → List (D × Bool) → CRes) (io : Bool) (r : D × Bool) (env : Fm) : k_ex_ret1 Γ call io (.ok r env) = .rt r env := rfl
@[simp] theorem k_ex_ret1_x (Γ : Ctx) (call : Nat → List (D × Bool) → CRes) (io : Bool) (z_ : Exn) (env : Fm) : k_ex_ret1 Γ call io (.exc z_ env) = .exc z_ env := rfl
@[simp] theorem k_ex_ret1_e (Γ : Ctx) (call : Nat → List (D × Bool) → CRes) (io : Bool) : k_ex_ret1 Γ call io .err = .err := rfl
@[simp] theorem ex_ret (Γ : Ctx) (call : Nat → List (D × Bool) → CRes) (io : Bool) (e : E) (env : Fm) : ex Γ call io (.ret e) env =  k_ex_ret1 Γ call io (ev Γ call e env) := by
  first | rfl | (simp only [ex]; done) | (simp only [ex]; rfl)
@[simp] theorem ex_retN (Γ : Ctx) (call : Nat → List (D × Bool) → CRes) (io : Bool) (env : Fm) : ex Γ call io .retN env = .rt (.non, false) env := by
  first | rfl | (simp only [ex]; done) | (simp only [ex]; rfl)
noncomputable def k_ex_ifs1 (Γ : Ctx) (call : Nat → List (D × Bool) → CRes) (io : Bool) (a : Ss) (b : Ss) (r_ : Res (D × Bool)) : Fl := r_.fl fun r (env : Fm) => match r.1 with | .bl true => exs Γ call io a env | .bl false => exs Γ call io b env | _ => .err
@[simp] theorem k_ex_ifs1_k (Γ : Ctx) (call : Nat → List (D × Bool) → CRes) (io : Bool) (a : Ss) (b : Ss) (r : D × Bool) (env : Fm) : k_ex_ifs1 Γ call io a b (.ok r env) = match r.1 with | .bl true => exs Γ call io a env | .bl false => exs Γ call io b env | _ => .err := rfl
@[simp] theorem k_ex_ifs1_x (Γ : Ctx) (call : Nat → List (D × Bool) → CRes) (io : Bool) (a : Ss) (b : Ss) (z_ : Exn) (env : Fm) : k_ex_ifs1 Γ call io a b (.exc z_ env) = .exc z_ env := rfl
@[simp] theorem k_ex_ifs1_e (Γ : Ctx) (call : Nat → List (D × Bool) → CRes) (io : Bool) (a : Ss) (b : Ss) : k_ex_ifs1 Γ call io a b .err = .err := rfl
@[simp] theorem ex_ifs (Γ : Ctx) (call : Nat → List (D × Bool) → CRes) (io : Bool) (c : E) (a : Ss) (b : Ss) (env : Fm) : ex Γ call io (.ifs c a b) env =  k_ex_ifs1 Γ call io a b (ev Γ call c env) := by
  first | rfl | (simp only [ex]; done) | (simp only [ex]; rfl)
@[simp] theorem ex_whl (Γ : Ctx) (call : Nat → List (D × Bool) → CRes) (io : Bool) (c : E) (b : Ss) (env : Fm) : ex Γ call io (.whl c b) env = whl Γ call io c b env := by
  first | rfl | (simp only [ex]; done) | (simp only [ex]; rfl)
noncomputable def k_ex_for1 (Γ : Ctx) (call : Nat → List (D × Bool) → CRes) (io : Bool) (tg : Tg) (b : Ss) (r_ : Res (List D)) : Fl := r_.fl fun items (env : Fm) => frl Γ call io tg b items env
@[simp] theorem k_ex_for1_k (Γ : Ctx) (call : Nat → List (D × Bool) → CRes) (io : Bool) (tg : Tg) (b : Ss) (items : List D) (env : Fm) : k_ex_for1 Γ call io tg b (.ok items env) = frl Γ call io tg b items env := rfl
@[simp] theorem k_ex_for1_x (Γ : Ctx) (call : Nat → List (D × Bool) → CRes) (io : Bool) (tg : Tg) (b : Ss) (z_ : Exn) (env : Fm) : k_ex_for1 Γ call io tg b (.exc z_ env) = .exc z_ env := rfl
@[simp] theorem k_ex_for1_e (Γ : Ctx) (call : Nat → List (D × Bool) → CRes) (io : Bool) (tg : Tg) (b : Ss) : k_ex_for1 Γ call io tg b .err = .err := rfl
@[simp] theorem ex_for (Γ : Ctx) (call : Nat → List (D × Bool) → CRes) (io : Bool) (it : Src) (tg : Tg) (b : Ss) (env : Fm) : ex Γ call io (.for it tg b) env =  k_ex_for1 Γ call io tg b (evi Γ call it env) := by
  first | rfl | (simp only [ex]; done) | (simp only [ex]; rfl)
noncomputable def k_ex_rse1 (Γ : Ctx) (call : Nat → List (D × Bool) → CRes) (io : Bool) (c : Nat) (r_ : Res (D × Bool)) : Fl := r_.fl fun r (env : Fm) => .exc ⟨c, r.1⟩ env
@[simp] theorem k_ex_rse1_k (Γ : Ctx) (call : Nat → List (D × Bool) → CRes) (io : Bool) (c : Nat) (r : D × Bool) (env : Fm) : k_ex_rse1 Γ call io c (.ok r env) = .exc ⟨c, r.1⟩ env := rfl
@[simp] theorem k_ex_rse1_x (Γ : Ctx) (call : Nat → List (D × Bool) → CRes) (io : Bool) (c : Nat) (z_ : Exn) (env : Fm) : k_ex_rse1 Γ call io c (.exc z_ env) = .exc z_ env := rfl
@[simp] theorem k_ex_rse1_e (Γ : Ctx) (call : Nat → List (D × Bool) → CRes) (io : Bool) (c : Nat) : k_ex_rse1 Γ call io c .err = .err := rfl
@[simp] theorem ex_rse (Γ : Ctx) (call : Nat → List (D × Bool) → CRes) (io : Bool) (c : Nat) (e : O) (env : Fm) : ex Γ call io (.rse c e) env =
    match e with
    | .none => .exc ⟨c, .non⟩ env
    | .some e =>  k_ex_rse1 Γ call io c (ev Γ call e env) := by
  first | rfl | (simp only [ex]; done) | (simp only [ex]; rfl)
@[simp] theorem ex_pas (Γ : Ctx) (call : Nat → List (D × Bool) → CRes) (io : Bool) (env : Fm) : ex Γ call io .pas env = .nx env := by
  first | rfl | (simp only [ex]; done) | (simp only [ex]; rfl)
@[simp] theorem exs_nil (Γ : Ctx) (call : Nat → List (D × Bool) → CRes) (io : Bool) (env : Fm) : exs Γ call io .nil env = .nx env := by
  first | rfl | (simp only [exs]; done) | (simp only [exs]; rfl)
noncomputable def k_exs_cons1 (Γ : Ctx) (call : Nat → List (D × Bool) → CRes) (io : Bool) (r : Ss) (r_ : Fl) : Fl := r_.bind fun (env : Fm) => exs Γ call io r env
@[simp] theorem k_exs_cons1_k (Γ : Ctx) (call : Nat → List (D × Bool) → CRes) (io : Bool) (r : Ss) (env : Fm) : k_exs_cons1 Γ call io r (.nx env) = exs Γ call io r env := rfl
@[simp] theorem k_exs_cons1_r (Γ : Ctx) (call : Nat → List (D × Bool) → CRes) (io : Bool) (r : Ss) (z_ : D × Bool) (env : Fm) : k_exs_cons1 Γ call io r (.rt z_ env) = .rt z_ env := rfl
@[simp] theorem k_exs_cons1_x (Γ : Ctx) (call : Nat → List (D × Bool) → CRes) (io : Bool) (r : Ss) (z_ : Exn) (env : Fm) : k_exs_cons1 Γ call io r (.exc z_ env) = .exc z_ env := rfl
@[simp] theorem k_exs_cons1_e (Γ : Ctx) (call : Nat → List (D × Bool) → CRes) (io : Bool) (r : Ss) : k_exs_cons1 Γ call io r .err = .err := rfl
@[simp] theorem exs_cons (Γ : Ctx) (call : Nat → List (D × Bool) → CRes) (io : Bool) (s : S) (r : Ss) (env : Fm) : exs Γ call io (.cons s r) env =  k_exs_cons1 Γ call io r (ex Γ call io s env) := by
  first | rfl | (simp only [exs]; done) | (simp only [exs]; rfl)
end
end PL
/-! PLRun: tools for the pure part: loops and comprehensions by invariants; sizes. -/
namespace PL
open PySem
@[simp] theorem eqb_non_non   : eqb .non .non = true := by simp only [eqb]
@[simp] theorem eqb_non_bl  (b : Bool) : eqb .non (.bl b) = false := by simp only [eqb]
@[simp] theorem eqb_non_int  (b : Int) : eqb .non (.int b) = false := by simp only [eqb]
@[simp] theorem eqb_non_str  (b : Str) : eqb .non (.str b) = false := by simp only [eqb]
@[simp] theorem eqb_non_lst  (b : List D) : eqb .non (.lst b) = false := by simp only [eqb]
@[simp] theorem eqb_non_tup  (b : List D) : eqb .non (.tup b) = false := by simp only [eqb]
@[simp] theorem eqb_bl_non (a : Bool)  : eqb (.bl a) .non = false := by simp only [eqb]
@[simp] theorem eqb_bl_bl (a : Bool) (b : Bool) : eqb (.bl a) (.bl b) = (a == b) := by simp only [eqb]
@[simp] theorem eqb_bl_int (a : Bool) (b : Int) : eqb (.bl a) (.int b) = ((if a then 1 else 0) == b) := by simp only [eqb]
@[simp] theorem eqb_bl_str (a : Bool) (b : Str) : eqb (.bl a) (.str b) = false := by simp only [eqb]
@[simp] theorem eqb_bl_lst (a : Bool) (b : List D) : eqb (.bl a) (.lst b) = false := by simp only [eqb]
@[simp] theorem eqb_bl_tup (a : Bool) (b : List D) : eqb (.bl a) (.tup b) = false := by simp only [eqb]
@[simp] theorem eqb_int_non (a : Int)  : eqb (.int a) .non = false := by simp only [eqb]
@[simp] theorem eqb_int_bl (a : Int) (b : Bool) : eqb (.int a) (.bl b) = (a == (if b then 1 else 0)) := by simp only [eqb]
@[simp] theorem eqb_int_int (a : Int) (b : Int) : eqb (.int a) (.int b) = (a == b) := by simp only [eqb]
@[simp] theorem eqb_int_str (a : Int) (b : Str) : eqb (.int a) (.str b) = false := by simp only [eqb]
@[simp] theorem eqb_int_lst (a : Int) (b : List D) : eqb (.int a) (.lst b) = false := by simp only [eqb]
@[simp] theorem eqb_int_tup (a : Int) (b : List D) : eqb (.int a) (.tup b) = false := by simp only [eqb]
@[simp] theorem eqb_str_non (a : Str)  : eqb (.str a) .non = false := by simp only [eqb]
@[simp] theorem eqb_str_bl (a : Str) (b : Bool) : eqb (.str a) (.bl b) = false := by simp only [eqb]
@[simp] theorem eqb_str_int (a : Str) (b : Int) : eqb (.str a) (.int b) = false := by simp only [eqb]
@[simp] theorem eqb_str_str (a : Str) (b : Str) : eqb (.str a) (.str b) = (a == b) := by simp only [eqb]
@[simp] theorem eqb_str_lst (a : Str) (b : List D) : eqb (.str a) (.lst b) = false := by simp only [eqb]
@[simp] theorem eqb_str_tup (a : Str) (b : List D) : eqb (.str a) (.tup b) = false := by simp only [eqb]
@[simp] theorem eqb_lst_non (a : List D)  : eqb (.lst a) .non = false := by simp only [eqb]
@[simp] theorem eqb_lst_bl (a : List D) (b : Bool) : eqb (.lst a) (.bl b) = false := by simp only [eqb]
@[simp] theorem eqb_lst_int (a : List D) (b : Int) : eqb (.lst a) (.int b) = false := by simp only [eqb]
@[simp] theorem eqb_lst_str (a : List D) (b : Str) : eqb (.lst a) (.str b) = false := by simp only [eqb]
@[simp] theorem eqb_lst_lst (a : List D) (b : List D) : eqb (.lst a) (.lst b) = eqbs a b := by simp only [eqb]
@[simp] theorem eqb_lst_tup (a : List D) (b : List D) : eqb (.lst a) (.tup b) = false := by simp only [eqb]
@[simp] theorem eqb_tup_non (a : List D)  : eqb (.tup a) .non = false := by simp only [eqb]
@[simp] theorem eqb_tup_bl (a : List D) (b : Bool) : eqb (.tup a) (.bl b) = false := by simp only [eqb]
@[simp] theorem eqb_tup_int (a : List D) (b : Int) : eqb (.tup a) (.int b) = false := by simp only [eqb]
@[simp] theorem eqb_tup_str (a : List D) (b : Str) : eqb (.tup a) (.str b) = false := by simp only [eqb]
@[simp] theorem eqb_tup_lst (a : List D) (b : List D) : eqb (.tup a) (.lst b) = false := by simp only [eqb]
@[simp] theorem eqb_tup_tup (a : List D) (b : List D) : eqb (.tup a) (.tup b) = eqbs a b := by simp only [eqb]
@[simp] theorem eqbs_nn : eqbs [] [] = true := by simp only [eqbs]
@[simp] theorem eqbs_nc (y : D) (ys : List D) : eqbs [] (y :: ys) = false := by simp only [eqbs]
@[simp] theorem eqbs_cn (y : D) (ys : List D) : eqbs (y :: ys) [] = false := by simp only [eqbs]
@[simp] theorem eqbs_cc (x y : D) (xs ys : List D) : eqbs (x :: xs) (y :: ys) = (eqb x y && eqbs xs ys) := by simp only [eqbs]
theorem dpk_int (n : Nat) (i : Int) : Dpk n (.int i) := by
  cases n <;> trivial
theorem dpk_non (n : Nat) : Dpk n .non := by
  cases n <;> trivial
theorem dpk_bl (n : Nat) (b : Bool) : Dpk n (.bl b) := by
  cases n <;> trivial
theorem natAbs_log2_lt {a : Int} {k : Nat} (h : a.natAbs < 2 ^ k) (hk : 0 < k) : a.natAbs.log2 < k := by
  by_cases z : a.natAbs = 0
  · rw [z]
    simpa using hk
  · exact (Nat.log2_lt z).2 h
theorem log2_le_of {a b : Nat} (h : a ≤ b) : a.log2 ≤ b.log2 := by
  by_cases z : a = 0
  · subst z
    simp
  · exact (Nat.le_log2 (by omega)).2 (Nat.le_trans (Nat.log2_self_le z) h)
theorem mulOk_of {m a b : Int} (hm : m.natAbs.log2 < 9000) (ha : -m ≤ a ∧ a ≤ m) (hb : -m ≤ b ∧ b ≤ m) : MulOk a b := by
  right; right
  have h1 := log2_le_of (show a.natAbs ≤ m.natAbs by omega)
  have h2 := log2_le_of (show b.natAbs ≤ m.natAbs by omega)
  omega
theorem mulOk_l {a b : Int} (h : -(2 ^ 64) < a ∧ a < 2 ^ 64) : MulOk a b := .inl h
theorem mulOk_r {a b : Int} (h : -(2 ^ 64) < b ∧ b < 2 ^ 64) : MulOk a b := .inr (.inl h)
theorem abs_if (a : Int) : (if a < 0 then -a else a) = (a.natAbs : Int) := by
  split <;> omega
section
variable (Γ : Ctx) (call : Nat → List (D × Bool) → CRes)
/-- for, by an invariant -/
theorem frl_inv {io : Bool} {tg : Tg} {b : Ss} (P : Nat → Fm → Prop) : ∀ (ds : List D) (k : Nat) (env : Fm), P k env → (∀ i d env, ds[i]? = some d → P (k + i) env → ∃ env1 env2, bnd io tg (d, false) env = some env1 ∧ exs Γ call io b env1 = .nx env2 ∧ P (k + i + 1) env2) →
    ∃ env', frl Γ call io tg b ds env = .nx env' ∧ P (k + ds.length) env'
  | [], k, env, h, _ => ⟨env, rfl, h⟩
  | d :: ds, k, env, h, st => by
    obtain ⟨env1, env2, h1, h2, h3⟩ := st 0 d env rfl h
    obtain ⟨env', h4, h5⟩ := frl_inv P ds (k + 1) env2 h3 fun i d env hd hp => by
      have q := st (i + 1) d env (by simpa using hd) (by rw [show k + (i + 1) = k + 1 + i by omega]; exact hp)
      rw [show k + (i + 1) = k + 1 + i by omega] at q
      exact q
    refine ⟨env', ?_, by rw [List.length_cons, show k + (ds.length + 1) = k + 1 + ds.length by omega]; exact h5⟩
    rw [← h4]
    simp only [frl, forF] at h1 ⊢
    rw [h1]
    simp only
    rw [h2]
theorem lcl_nil {tg : Tg} {c : O} {body : E} {env : Fm} {acc : List D} : lcl Γ call tg c body [] env acc = .ok acc env := rfl
theorem lcl_cons {tg : Tg} {body : E} {d : D} {ds : List D} {env env1 env2 : Fm} {acc : List D} {x : D} {o : Bool} (h1 : bnd false tg (d, false) env = some env1) (h2 : ev Γ call body env1 = .ok (x, o) env2) (hz : acc.length < LIM) :
    lcl Γ call tg .none body (d :: ds) env acc = lcl Γ call tg .none body ds (wip env2 tg.ixs) (acc ++ [x]) := by
  simp only [lcl, lcF]
  rw [h1]
  simp only [Res.bind_ok, if_true]
  rw [h2]
  simp only [Res.bind_ok]
  rw [if_pos hz]
/-- each item by f, the slots as they were -/
theorem lcl_map {tg : Tg} {body : E} (f : D → D) : ∀ (ds : List D) (env : Fm) (acc : List D), acc.length + ds.length ≤ LIM →
    (∀ d ∈ ds, ∃ env1 env2 o, bnd false tg (d, false) env = some env1 ∧ ev Γ call body env1 = .ok (f d, o) env2 ∧ wip env2 tg.ixs = env) → lcl Γ call tg .none body ds env acc = .ok (acc ++ ds.map f) env
  | [], env, acc, _, _ => by simp [lcl_nil]
  | d :: ds, env, acc, hz, h => by
    obtain ⟨env1, env2, o, h1, h2, h3⟩ := h d (by simp)
    rw [List.length_cons] at hz
    rw [lcl_cons Γ call h1 h2 (by omega), h3, lcl_map f ds env (acc ++ [f d]) (by simp; omega) fun d hd => h d (by simp [hd])]
    simp
/-- the same, over what a list's things are made to -/
theorem lcl_mapA {α : Type} {tg : Tg} {body : E} (g f : α → D) : ∀ (l : List α) (env : Fm) (acc : List D), acc.length + l.length ≤ LIM →
    (∀ a ∈ l, ∃ env1 env2 o, bnd false tg (g a, false) env = some env1 ∧ ev Γ call body env1 = .ok (f a, o) env2 ∧ wip env2 tg.ixs = env) → lcl Γ call tg .none body (l.map g) env acc = .ok (acc ++ l.map f) env
  | [], env, acc, _, _ => by simp [lcl_nil]
  | a :: l, env, acc, hz, h => by
    obtain ⟨env1, env2, o, h1, h2, h3⟩ := h a (by simp)
    rw [List.length_cons] at hz
    rw [List.map_cons, lcl_cons Γ call h1 h2 (by omega), h3, lcl_mapA g f l env (acc ++ [f a]) (by simp; omega) fun a ha => h a (by simp [ha])]
    simp
/-- by an invariant of the slots -/
theorem lcl_inv {tg : Tg} {body : E} (P : Fm → Prop) (Q : D → Prop) : ∀ (ds : List D) (env : Fm) (acc : List D), acc.length + ds.length ≤ LIM → P env →
    (∀ d ∈ ds, ∀ env, P env → ∃ env1 env2 x o, bnd false tg (d, false) env = some env1 ∧ ev Γ call body env1 = .ok (x, o) env2 ∧ P (wip env2 tg.ixs) ∧ Q x) →
    ∃ xs env', lcl Γ call tg .none body ds env acc = .ok (acc ++ xs) env' ∧ xs.length = ds.length ∧ P env' ∧ ∀ x ∈ xs, Q x
  | [], env, acc, _, hp, _ => ⟨[], env, by simp [lcl_nil], rfl, hp, by simp⟩
  | d :: ds, env, acc, hz, hp, h => by
    obtain ⟨env1, env2, x, o, h1, h2, h3, h4⟩ := h d (by simp) env hp
    rw [List.length_cons] at hz
    obtain ⟨xs, env', k1, k2, k3, k4⟩ := lcl_inv P Q ds (wip env2 tg.ixs) (acc ++ [x]) (by simp; omega) h3 fun d hd => h d (by simp [hd])
    refine ⟨x :: xs, env', ?_, by simp [k2], k3, ?_⟩
    · rw [lcl_cons Γ call h1 h2 (by omega), k1]
      simp
    · intro y hy
      rcases List.mem_cons.mp hy with rfl | hy
      · exact h4
      · exact k4 y hy
/-- with a test: those that pass, as they come -/
theorem lcl_filter {tg : Tg} {c body : E} (p : D → Bool) (f : D → D) : ∀ (ds : List D) (env : Fm) (acc : List D), acc.length + ds.length ≤ LIM →
    (∀ d ∈ ds, ∃ env1 env2 o, bnd false tg (d, false) env = some env1 ∧ ev Γ call c env1 = .ok (.bl (p d), o) env2 ∧ (p d = false → wip env2 tg.ixs = env) ∧ (p d = true → ∃ env3 o, ev Γ call body env2 = .ok (f d, o) env3 ∧ wip env3 tg.ixs = env)) →
    lcl Γ call tg (.some c) body ds env acc = .ok (acc ++ (ds.filter p).map f) env
  | [], env, acc, _, _ => by simp [lcl_nil]
  | d :: ds, env, acc, hz, h => by
    obtain ⟨env1, env2, o, h1, h2, h3, h4⟩ := h d (by simp)
    rw [List.length_cons] at hz
    simp only [lcl, lcF]
    rw [h1]
    simp only
    rw [h2]
    simp only [Res.bind_ok]
    cases e : p d with
    | false =>
      rw [if_neg Bool.false_ne_true, h3 e]
      have q := lcl_filter p f ds env acc (by omega) fun d hd => h d (by simp [hd])
      simp only [lcl] at q
      rw [q]
      simp [e]
    | true =>
      obtain ⟨env3, o3, h5, h6⟩ := h4 e
      rw [if_pos rfl, h5]
      simp only [Res.bind_ok]
      rw [if_pos (by omega), h6]
      have q := lcl_filter p f ds env (acc ++ [f d]) (by simp; omega) fun d hd => h d (by simp [hd])
      simp only [lcl] at q
      rw [q]
      simp [e]
/-- what stands in a comprehension's slot behind it -/
def fz1 (env : Fm) (i : Nat) : Sl := (frs env [i])[i]?.getD none
theorem frs_one (env : Fm) (i : Nat) : (frs env [i]).set i none = env.set i none := by
  simp only [frs]
  split
  · rw [List.set_set]
  · rfl
theorem lc1 {it : Src} {i : Nat} {c : O} {body : E} {env e1 e2 : Fm} {items ds : List D} (h1 : evi Γ call it env = .ok items e1) (h2 : lcl Γ call (.one i) c body items (e1.set i none) [] = .ok ds e2) :
    ev Γ call (.lc it (.one i) c body) env = .ok (.lst ds, true) (e2.set i (fz1 e1 i)) := by
  rw [ev_lc, h1]
  have e : wip (frs e1 (Tg.one i).ixs) (Tg.one i).ixs = e1.set i none := frs_one e1 i
  rw [k_ev_lc1_k, e, h2]
  rfl
theorem frs_two (env : Fm) (i j : Nat) : ((frs env [i, j]).set j none).set i none = (env.set j none).set i none := by
  have h1 : ∀ env : Fm, (frs env [i, j]) = (match (frs env [j])[i]? with | some (some (d, _)) => (frs env [j]).set i (some (d, false)) | _ => frs env [j]) := fun _ => rfl
  rw [h1]
  split
  · by_cases e : i = j
    · subst e
      simp only [List.set_set, frs_one]
    · rw [List.set_comm _ _ e, List.set_set, frs_one]
  · rw [frs_one]
theorem lc2t {it : Src} {i j : Nat} {c : O} {body : E} {env e1 e2 : Fm} {items ds : List D} (h1 : evi Γ call it env = .ok items e1) (h2 : lcl Γ call (.many [i, j]) c body items ((e1.set j none).set i none) [] = .ok ds e2) :
    ∃ s t, ev Γ call (.lc it (.many [i, j]) c body) env = .ok (.lst ds, true) ((e2.set j t).set i s) := by
  rw [ev_lc, h1]
  have e : wip (frs e1 (Tg.many [i, j]).ixs) (Tg.many [i, j]).ixs = (e1.set j none).set i none := frs_two e1 i j
  rw [k_ev_lc1_k, e, h2]
  exact ⟨_, _, rfl⟩
end
end PL
/-! PMath: plain laws of whole numbers: the greatest common divisor, fractions led back. No program in sight. -/
namespace PL
theorem gcd_step (x y : Int) : Int.gcd x y = Int.gcd y (x % y) := by
  have e : x % y = x - (x / y) * y := by rw [Int.emod_def, Int.mul_comm]
  rw [e, Int.gcd_sub_mul_right_right, Int.gcd_comm]
/-- the fraction a by b is within the bounds and has the rest -/
structure IsSol (rest m top bottom a b : Int) : Prop where
  b0 : 0 < b
  b1 : b ≤ bottom
  a0 : -top ≤ a
  a1 : a ≤ top
  dv : m ∣ b * rest - a
  co : Int.gcd a b = 1
structure RbI (m rest r0 t0 r1 t1 s : Int) : Prop where
  hs : s = 1 ∨ s = -1
  h1 : 0 ≤ r1
  h2 : r1 < r0
  ht1 : 0 < s * t1
  ht0 : s * t0 ≤ 0
  hle : -(s * t0) ≤ s * t1
  det : r0 * t1 - r1 * t0 = s * m
  c0 : m ∣ r0 - t0 * rest
  c1 : m ∣ r1 - t1 * rest
theorem RbI.start {m rest : Int} (hm : 0 < m) : RbI m rest m 0 (rest % m) 1 1 where
  hs := .inl rfl
  h1 := Int.emod_nonneg _ (by omega)
  h2 := Int.emod_lt_of_pos _ hm
  ht1 := by omega
  ht0 := by omega
  hle := by omega
  det := by simp
  c0 := by simp
  c1 := ⟨-(rest / m), by have := Int.emod_def rest m; grind⟩
theorem RbI.step {m rest r0 t0 r1 t1 s : Int} (h : RbI m rest r0 t0 r1 t1 s) (hr : 0 < r1) : RbI m rest r1 t1 (r0 - r0 / r1 * r1) (t0 - r0 / r1 * t1) (-s) := by
  have hq : 1 ≤ r0 / r1 := (Int.le_ediv_iff_mul_le hr).2 (by have := h.h2; omega)
  have e : r0 - r0 / r1 * r1 = r0 % r1 := by rw [Int.emod_def, Int.mul_comm]
  obtain ⟨hs, h1, h2, ht1, ht0, hle, det, ⟨k0, c0⟩, ⟨k1, c1⟩⟩ := h
  have hp : s * t1 ≤ r0 / r1 * (s * t1) := by
    have := Int.mul_le_mul_of_nonneg_right hq (show 0 ≤ s * t1 by omega)
    omega
  refine ⟨by rcases hs with h | h <;> simp [h], ?_, ?_, ?_, ?_, ?_, ?_, ⟨k1, c1⟩, ⟨k0 - r0 / r1 * k1, by grind⟩⟩
  · rw [e]
    exact Int.emod_nonneg _ (by omega)
  · rw [e]
    exact Int.emod_lt_of_pos _ hr
  · have : -s * (t0 - r0 / r1 * t1) = r0 / r1 * (s * t1) - s * t0 := by grind
    omega
  · have : -s * t1 = -(s * t1) := by grind
    omega
  · have : -s * t1 = -(s * t1) := by grind
    have : -s * (t0 - r0 / r1 * t1) = r0 / r1 * (s * t1) - s * t0 := by grind
    omega
  · grind
theorem RbI.size {m rest r0 t0 r1 t1 s : Int} (h : RbI m rest r0 t0 r1 t1 s) : -m ≤ t1 ∧ t1 ≤ m ∧ -m ≤ t0 ∧ t0 ≤ m ∧ r0 ≤ m := by
  obtain ⟨hs, h1, h2, ht1, ht0, hle, det, c0, c1⟩ := h
  have d : r0 * (s * t1) + r1 * (-(s * t0)) = m := by
    rcases hs with h | h <;> subst h <;> grind
  have a := Int.mul_nonneg h1 (show 0 ≤ -(s * t0) by omega)
  have b : s * t1 ≤ r0 * (s * t1) := by
    have := Int.mul_le_mul_of_nonneg_right (show 1 ≤ r0 by omega) (show 0 ≤ s * t1 by omega)
    omega
  have b' : r0 ≤ r0 * (s * t1) := by
    have := Int.mul_le_mul_of_nonneg_left (show 1 ≤ s * t1 by omega) (show 0 ≤ r0 by omega)
    omega
  rcases hs with h | h <;> subst h <;> omega
theorem rb_core {m r0 r1 T0 T1 top bottom x b u v : Int} (det : r0 * T1 + r1 * T0 = m) (h1 : 0 ≤ r1) (h2 : r1 ≤ top) (h3 : top < r0) (hT : 0 < T1) (hT0 : 0 ≤ T0) (b0 : 0 < b) (b1 : b ≤ bottom) (x0 : -top ≤ x) (x1 : x ≤ top) (hm : 2 * top * bottom < m) (hu : x * T1 - b * r1 = u * m) (hv : b * r0 + x * T0 = v * m) : x = v * r1 ∧ b = v * T1 := by
  have m0 : 0 < m := by
    have a := Int.mul_nonneg h1 hT0
    have b := Int.mul_pos (show 0 < r0 by omega) hT
    omega
  have ex : x = u * r0 + v * r1 := Int.eq_of_mul_eq_mul_right (show m ≠ 0 by omega) (by grind)
  have eb : b = v * T1 - u * T0 := Int.eq_of_mul_eq_mul_right (show m ≠ 0 by omega) (by grind)
  suffices hu0 : u = 0 by
    subst hu0
    simp at ex eb
    exact ⟨ex, eb⟩
  rcases Int.lt_trichotomy u 0 with hn | hz | hp
  · exfalso
    rcases Int.lt_or_le 0 v with hv0 | hv0
    · have i1 := Int.mul_nonneg (show 0 ≤ -u by omega) hT0
      have i2 : T1 ≤ v * T1 := by
        have := Int.mul_le_mul_of_nonneg_right (show 1 ≤ v by omega) (show 0 ≤ T1 by omega)
        omega
      have e1 : -u * T0 = -(u * T0) := by grind
      have hb : T1 ≤ bottom := by omega
      have j1 : b * r1 ≤ bottom * top := Int.mul_le_mul b1 h2 h1 (by omega)
      have j2 : -x * T1 ≤ top * bottom := by
        refine Int.le_trans (Int.mul_le_mul_of_nonneg_right (show -x ≤ top by omega) (by omega)) (Int.mul_le_mul_of_nonneg_left hb (by omega))
      have j3 : m ≤ -u * m := by
        have := Int.mul_le_mul_of_nonneg_right (show 1 ≤ -u by omega) (show 0 ≤ m by omega)
        omega
      grind
    · have i1 : r0 ≤ -u * r0 := by
        have := Int.mul_le_mul_of_nonneg_right (show 1 ≤ -u by omega) (show 0 ≤ r0 by omega)
        omega
      have i2 := Int.mul_nonneg (show 0 ≤ -v by omega) h1
      grind
  · exact hz
  · exfalso
    rcases Int.lt_or_le v 0 with hv0 | hv0
    · have i1 := Int.mul_nonneg (show 0 ≤ u by omega) hT0
      have i2 := Int.mul_pos (show 0 < -v by omega) hT
      grind
    · have i1 : r0 ≤ u * r0 := by
        have := Int.mul_le_mul_of_nonneg_right (show 1 ≤ u by omega) (show 0 ≤ r0 by omega)
        omega
      have i2 := Int.mul_nonneg hv0 h1
      grind
theorem rb_only {m rest r0 t0 r1 t1 s top bottom a b : Int} (h : RbI m rest r0 t0 r1 t1 s) (h2 : r1 ≤ top) (h3 : top < r0) (hm : 2 * top * bottom < m) (k : IsSol rest m top bottom a b) : a = s * r1 ∧ b = s * t1 := by
  obtain ⟨hs, h1, _, ht1, ht0, hle, det, ⟨k0, c0⟩, ⟨k1, c1⟩⟩ := h
  obtain ⟨b0, b1, a0, a1, ⟨kd, hd⟩, co⟩ := k
  have ss : s * s = 1 := by rcases hs with h | h <;> subst h <;> rfl
  obtain ⟨e1, e2⟩ := rb_core (m := m) (r0 := r0) (r1 := r1) (T0 := -(s * t0)) (T1 := s * t1) (top := top) (bottom := bottom) (x := s * a) (b := b) (u := -(kd * t1) - b * k1) (v := b * k0 + kd * t0)
    (by grind) h1 h2 h3 ht1 (by omega) b0 b1 (by rcases hs with h | h <;> subst h <;> omega) (by rcases hs with h | h <;> subst h <;> omega) hm (by grind) (by grind)
  have dv : b * k0 + kd * t0 ∣ 1 := by
    refine Int.gcd_eq_one_iff.1 co _ ?_ ⟨_, e2⟩
    exact ⟨s * r1, by grind⟩
  have dp : 0 < b * k0 + kd * t0 := by
    rcases Int.lt_or_le 0 (b * k0 + kd * t0) with h | h
    · exact h
    · have := Int.mul_nonneg (show 0 ≤ -(b * k0 + kd * t0) by omega) (show 0 ≤ s * t1 by omega)
      grind
  have d1 := Int.le_of_dvd (by omega) dv
  have d2 : b * k0 + kd * t0 = 1 := by omega
  rw [d2] at e1 e2
  exact ⟨by grind, by omega⟩
/-- what is told of the end of the row -/
theorem rb_is {m rest r0 t0 r1 t1 s top bottom : Int} (h : RbI m rest r0 t0 r1 t1 s) (h2 : r1 ≤ top) (hb : s * t1 ≤ bottom) (co : Int.gcd r1 t1 = 1) : IsSol rest m top bottom (s * r1) (s * t1) := by
  obtain ⟨hs, h1, _, ht1, ht0, hle, det, ⟨k0, c0⟩, ⟨k1, c1⟩⟩ := h
  refine ⟨ht1, hb, ?_, ?_, ⟨-s * k1, by grind⟩, ?_⟩
  · rcases hs with h | h <;> subst h <;> omega
  · rcases hs with h | h <;> subst h <;> omega
  · rcases hs with h | h <;> subst h <;> simpa using co
/-- what leading back tells -/
inductive LB (rest m top bottom : Int) : Option (Int × Int) → Prop
  | no : (∀ a b, ¬ IsSol rest m top bottom a b) → LB rest m top bottom none
  | one (a b : Int) : IsSol rest m top bottom a b → (∀ a' b', IsSol rest m top bottom a' b' → a' = a ∧ b' = b) → LB rest m top bottom (some (a, b))
end PL
/-! the defs of the text as small syntax, their tables (printed by wip/gen/gen.py) -/
namespace PL
open PySem PySem.Spec PyProof.Rows L2
def b_is_whole : Ss :=
  (.cons (.ret (.and (.isI (.var 0) [.int]) (.not (.isI (.var 0) [.bool]))))
  .nil)
def b_is_number : Ss :=
  (.cons (.ret (.and (.fn 0 (.cons (.var 0) .nil)) (.chn .le .le (.var 1) (.var 0) (.var 2))))
  .nil)
def b_need_rows_5 : Ss :=
  (.cons (.ifs (.not (.fn 2 (.cons (.var 4) (.cons (.bin .sub (.cst (.int 0)) (.glb 4)) (.cons (.glb 4) .nil)))))
    (.cons (.rse 2 (.some (.tup (.cons (.var 1) (.cons (.var 3) .nil)))))
    .nil)
    .nil)
  .nil)
def b_need_rows_4 : Ss :=
  (.cons (.for (.enm (.var 2)) (.many [3, 4]) b_need_rows_5)
  .nil)
def b_need_rows_3 : Ss :=
  (.cons (.ifs (.cmp .ne (.bi .len (.cons (.var 2) .nil)) (.bi .len (.cons (.idxv 0 (.cst (.int 0))) .nil)))
    (.cons (.rse 2 (.some (.tup (.cons (.var 1) (.cons (.bi .min2 (.cons (.bi .len (.cons (.var 2) .nil)) (.cons (.bi .len (.cons (.idxv 0 (.cst (.int 0))) .nil)) .nil))) .nil)))))
    .nil)
    .nil)
  b_need_rows_4)
def b_need_rows_2 : Ss :=
  (.cons (.ifs (.or (.cmpv .eq 1 (.glb 3)) (.or (.not (.isI (.var 2) [.tuple])) (.not (.chn .le .le (.cst (.int 1)) (.bi .len (.cons (.var 2) .nil)) (.glb 3)))))
    (.cons (.rse 2 (.some (.tup (.cons (.var 1) (.cons (.cst (.int 0)) .nil)))))
    .nil)
    .nil)
  b_need_rows_3)
def b_need_rows_1 : Ss :=
  (.cons (.for (.enm (.var 0)) (.many [1, 2]) b_need_rows_2)
  .nil)
def b_need_rows : Ss :=
  (.cons (.ifs (.or (.not (.isI (.var 0) [.tuple])) (.cmpv .eq 0 (.tup .nil)))
    (.cons (.rse 2 (.some (.tup (.cons (.cst (.int 0)) (.cons (.cst (.int 0)) .nil)))))
    .nil)
    .nil)
  b_need_rows_1)
def b_need_right_3 : Ss :=
  (.cons (.ifs (.or (.cmpv .eq 2 (.bi .len (.cons (.var 0) .nil))) (.not (.fn 2 (.cons (.var 3) (.cons (.bin .sub (.cst (.int 0)) (.glb 4)) (.cons (.glb 4) .nil))))))
    (.cons (.rse 3 (.some (.var 2)))
    .nil)
    .nil)
  .nil)
def b_need_right_2 : Ss :=
  (.cons (.ifs (.cmp .lt (.bi .len (.cons (.var 1) .nil)) (.bi .len (.cons (.var 0) .nil)))
    (.cons (.rse 3 (.some (.bi .len (.cons (.var 1) .nil))))
    .nil)
    .nil)
  .nil)
def b_need_right_1 : Ss :=
  (.cons (.for (.enm (.var 1)) (.many [2, 3]) b_need_right_3)
  b_need_right_2)
def b_need_right : Ss :=
  (.cons (.ifs (.not (.isI (.var 1) [.tuple]))
    (.cons (.rse 3 (.some (.cst (.int 0))))
    .nil)
    .nil)
  b_need_right_1)
def c_written_3 : E :=
  .lc (.seq (.var 2)) (.one 6) .none (.bm .join (.cst (.str " ")) (.var 6))
def c_written_2 : E :=
  .lc (.seq (.var 4)) (.one 3) .none (.bi .str1 (.cons (.var 3) .nil))
def c_written_1 : E :=
  .lc (.zip (.var 0) (.var 1)) (.many [4, 5]) .none (.bin .add (c_written_2) (.lst (.cons (.glb 5) (.cons (.bi .str1 (.cons (.var 5) .nil)) .nil))))
def b_written : Ss :=
  (.cons (.exp (.fn 11 (.cons (.var 0) .nil)))
  (.cons (.exp (.fn 12 (.cons (.var 0) (.cons (.var 1) .nil))))
  (.cons (.asg (.one 2) (c_written_1))
  (.cons (.ret (.bm .join (.cst (.str "\n")) (c_written_3)))
  .nil))))
def b_number_of_2 : Ss :=
  (.cons (.ret (.bi .int1 (.cons (.var 0) .nil)))
  .nil)
def c_number_of_1 : E :=
  .lc (.seq (.var 2)) (.one 3) .none (.cmpv .inn 3 (.glb 7))
def b_number_of_1 : Ss :=
  (.cons (.ifs (.and (.cmp .eq (.idxv 2 (.cst (.int 0))) (.cst (.str "0"))) (.cmpv .ne 0 (.cst (.str "0"))))
    (.cons (.rse 5 (.some (.var 1)))
    .nil)
    .nil)
  b_number_of_2)
def b_number_of : Ss :=
  (.cons (.asg (.one 2) (.ifx (.bm .starts (.var 0) (.glb 6)) (.slc (.var 0) (.some (.cst (.int 1))) .none) (.var 0)))
  (.cons (.ifs (.or (.not (.chn .le .le (.cst (.int 1)) (.bi .len (.cons (.var 2) .nil)) (.glb 8))) (.not (.bi .all (.cons (c_number_of_1) .nil))))
    (.cons (.rse 5 (.some (.var 1)))
    .nil)
    .nil)
  b_number_of_1))
def c_read_1 : E :=
  .lc (.seq (.slc (.var 5) .none (.some (.neg (.cst (.int 2)))))) (.one 6) .none (.fn 25 (.cons (.var 6) (.cons (.var 3) .nil)))
def b_read_3 : Ss :=
  (.cons (.app (.var 1) (.bi .tuple (.cons (c_read_1) .nil)))
  (.cons (.app (.var 2) (.fn 25 (.cons (.idxv 5 (.neg (.cst (.int 1)))) (.cons (.var 3) .nil))))
  .nil))
def b_read_2 : Ss :=
  (.cons (.asg (.one 5) (.bm .split (.var 4) (.cst (.str " "))))
  (.cons (.ifs (.or (.cmp .lt (.bi .len (.cons (.var 5) .nil)) (.cst (.int 3))) (.or (.cmp .ne (.idxv 5 (.neg (.cst (.int 2)))) (.glb 5)) (.and (.cmpv .ne 1 (.lst .nil)) (.cmp .ne (.bi .len (.cons (.var 5) .nil)) (.bin .add (.bi .len (.cons (.idxv 1 (.cst (.int 0))) .nil)) (.cst (.int 2)))))))
    (.cons (.rse 5 (.some (.var 3)))
    .nil)
    .nil)
  b_read_3))
def b_read_1 : Ss :=
  (.cons (.exp (.fn 11 (.cons (.bi .tuple (.cons (.var 1) .nil)) .nil)))
  (.cons (.exp (.fn 12 (.cons (.bi .tuple (.cons (.var 1) .nil)) (.cons (.bi .tuple (.cons (.var 2) .nil)) .nil))))
  (.cons (.ret (.tup (.cons (.bi .tuple (.cons (.var 1) .nil)) (.cons (.bi .tuple (.cons (.var 2) .nil)) .nil))))
  .nil)))
def b_read : Ss :=
  (.cons (.par [1, 2] (.cons (.lst .nil) (.cons (.lst .nil) .nil)))
  (.cons (.for (.enm (.bm .split (.var 0) (.cst (.str "\n")))) (.many [3, 4]) b_read_2)
  b_read_1))
def b__law_taken_3 : Ss :=
  (.cons (.ret (.bin .mod (.var 3) (.var 1)))
  .nil)
def b__law_taken_2 : Ss :=
  (.cons (.asg (.one 3) (.idx (.idxv 0 (.cst (.int 0))) (.bin .sub (.idxv 0 (.cst (.int 1))) (.cst (.int 1)))))
  (.cons (.sub 0 (.cst (.int 2)) (.bin .mod (.bin .add (.bin .add (.bin .mul (.idxv 0 (.cst (.int 2))) (.cst (.int 48271))) (.var 3)) (.cst (.int 11))) (.cst (.int 2147483647))))
  (.cons (.ifs (.cmpv .ge 3 (.bin .pow (.cst (.int 10)) (.cst (.int 18))))
    (.cons (.sub 0 (.cst (.int 3)) (.bin .div (.var 3) (.var 1)))
    .nil)
    .nil)
  b__law_taken_3)))
def b__law_taken_1 : Ss :=
  (.cons (.sub 0 (.cst (.int 1)) (.bin .add (.idxv 0 (.cst (.int 1))) (.cst (.int 1))))
  (.cons (.ifs (.cmp .gt (.idxv 0 (.cst (.int 1))) (.bi .len (.cons (.idxv 0 (.cst (.int 0))) .nil)))
    (.cons (.sub 0 (.cst (.int 2)) (.bin .mod (.bin .add (.bin .mul (.idxv 0 (.cst (.int 2))) (.cst (.int 48271))) (.cst (.int 11))) (.cst (.int 2147483647))))
    (.cons (.ret (.bin .mod (.bin .div (.idxv 0 (.cst (.int 2))) (.cst (.int 7))) (.var 1)))
    .nil))
    .nil)
  b__law_taken_2))
def b__law_taken : Ss :=
  (.cons (.ifs (.cmp .gt (.idxv 0 (.cst (.int 3))) (.cst (.int 0)))
    (.cons (.asg (.one 2) (.bin .mod (.idxv 0 (.cst (.int 3))) (.var 1)))
    (.cons (.sub 0 (.cst (.int 3)) (.bin .div (.idxv 0 (.cst (.int 3))) (.var 1)))
    (.cons (.ret (.var 2))
    .nil)))
    .nil)
  b__law_taken_1)
def c__law_alike_1 : E :=
  .lc (.rng1 (.bi .len (.cons (.var 0) .nil))) (.one 2) (.some (.not (.fn 17 (.cons (.idxv 0 (.var 2)) (.cons (.idxv 1 (.var 2)) .nil))))) (.var 2)
def b__law_alike_2 : Ss :=
  (.cons (.ret (.cmp .eq (c__law_alike_1) (.lst .nil)))
  .nil)
def b__law_alike_1 : Ss :=
  (.cons (.ret (.and (.cmpv .eq 0 (.var 1)) (.cmp .eq (.isI (.var 0) [.bool]) (.isI (.var 1) [.bool]))))
  .nil)
def b__law_alike : Ss :=
  (.cons (.ifs (.and (.isI (.var 0) [.tuple, .list]) (.isI (.var 1) [.tuple, .list]))
    (.cons (.ifs (.or (.cmp .ne (.isI (.var 0) [.tuple]) (.isI (.var 1) [.tuple])) (.cmp .ne (.bi .len (.cons (.var 0) .nil)) (.bi .len (.cons (.var 1) .nil))))
      (.cons (.ret (.cst (.bl false)))
      .nil)
      .nil)
    b__law_alike_2)
    .nil)
  b__law_alike_1)
def c__law_drawn_3 : E :=
  .lc (.rng1 (.var 2)) (.one 7) .none (.bin .add (.bin .mul (.idxv 9 (.var 7)) (.bin .sub (.var 8) (.cst (.int 3)))) (.bin .mul (.idxv 10 (.var 7)) (.fnv 5 0 (.cons (.cst (.int 3)) .nil))))
def b__law_drawn_4 : Ss :=
  (.cons (.app (.var 4) (.bi .tuple (.cons (.var 6) .nil)))
  .nil)
def c__law_drawn_2 : E :=
  .lc (.seq (.var 6)) (.one 9) .none (.bin .mul (.var 9) (.bi .int1 (.cons (.cmp .eq (.fnv 5 0 (.cons (.cst (.int 2)) .nil)) (.cst (.int 0))) .nil)))
def b__law_drawn_3 : Ss :=
  (.cons (.ifs (.and (.cmpv .inn 8 (.tup (.cons (.cst (.int 1)) (.cons (.cst (.int 2)) .nil)))) (.and (.cmpv .ne 4 (.lst .nil)) (.cmpv .lt 3 (.bin .pow (.cst (.int 10)) (.cst (.int 6))))))
    (.cons (.par [9, 10] (.cons (.idxv 4 (.fnv 5 0 (.cons (.var 5) .nil))) (.cons (.idxv 4 (.fnv 5 0 (.cons (.var 5) .nil))) .nil)))
    (.cons (.asg (.one 6) (c__law_drawn_3))
    .nil))
    .nil)
  b__law_drawn_4)
def c__law_drawn_1 : E :=
  .lc (.rng1 (.var 2)) (.one 7) .none (.bin .add (.bin .sub (.fnv 5 0 (.cons (.bin .sub (.bin .mul (.cst (.int 2)) (.var 3)) (.cst (.int 1))) .nil)) (.var 3)) (.cst (.int 1)))
def b__law_drawn_2 : Ss :=
  (.cons (.asg (.one 6) (c__law_drawn_1))
  (.cons (.asg (.one 8) (.fnv 5 0 (.cons (.cst (.int 8)) .nil)))
  (.cons (.ifs (.cmpv .eq 8 (.cst (.int 0)))
    (.cons (.asg (.one 6) (c__law_drawn_2))
    .nil)
    .nil)
  b__law_drawn_3)))
def b__law_drawn_1 : Ss :=
  (.cons (.ret (.bi .tuple (.cons (.var 4) .nil)))
  .nil)
def b__law_drawn : Ss :=
  (.cons (.par [3, 4] (.cons (.idx (.lst (.cons (.cst (.int 3)) (.cons (.cst (.int 10)) (.cons (.cst (.int 1000)) (.cons (.bin .add (.bin .pow (.cst (.int 10)) (.cst (.int 9))) (.cst (.int 1))) .nil))))) (.fnv 5 0 (.cons (.cst (.int 4)) .nil))) (.cons (.lst .nil) .nil)))
  (.cons (.for (.rng1 (.var 1)) (.one 5) b__law_drawn_2)
  b__law_drawn_1))
def c__law_right_6 : E :=
  .lc (.seq (.var 1)) (.one 2) .none (.idxv 2 (.cst (.int 0)))
def c__law_right_5 : E :=
  .lc (.seq (.var 5)) (.one 4) .none (.bi .abs (.cons (.var 4) .nil))
def b__law_right_2 : Ss :=
  (.cons (.ret (.var 5))
  .nil)
def c__law_right_4 : E :=
  .lc (.rng1 (.bi .len (.cons (.var 3) .nil))) (.one 6) .none (.bin .mul (.idxv 2 (.var 6)) (.idxv 3 (.var 6)))
def c__law_right_3 : E :=
  .lc (.seq (.var 1)) (.one 2) .none (.bi .sum (.cons (c__law_right_4) .nil))
def c__law_right_2 : E :=
  .lc (.seq (.idxv 1 (.cst (.int 0)))) (.one 4) .none (.bin .sub (.fnv 5 0 (.cons (.cst (.int 9)) .nil)) (.cst (.int 4)))
def c__law_right_1 : E :=
  .lc (.seq (.var 1)) (.one 2) .none (.bin .sub (.fnv 5 0 (.cons (.cst (.int 2001)) .nil)) (.cst (.int 1000)))
def b__law_right_1 : Ss :=
  (.cons (.asg (.one 3) (c__law_right_2))
  (.cons (.asg (.one 5) (.bi .tuple (.cons (c__law_right_3) .nil)))
  (.cons (.ifs (.cmp .gt (.bi .max1 (.cons (c__law_right_5) .nil)) (.bin .pow (.cst (.int 10)) (.cst (.int 9))))
    (.cons (.ret (.bi .tuple (.cons (c__law_right_6) .nil)))
    .nil)
    .nil)
  b__law_right_2)))
def b__law_right : Ss :=
  (.cons (.ifs (.cmp .eq (.fnv 5 0 (.cons (.cst (.int 3)) .nil)) (.cst (.int 0)))
    (.cons (.ret (.bi .tuple (.cons (c__law_right_1) .nil)))
    .nil)
    .nil)
  b__law_right_1)
def b_law_5 : Ss :=
  (.cons (.ifs (.or (.not (.fn 17 (.cons (.fn 27 (.cons (.var 3) (.cons (.var 4) .nil))) (.cons (.var 8) .nil)))) (.not (.fn 17 (.cons (.fn 26 (.cons (.var 8) .nil)) (.cons (.tup (.cons (.var 3) (.cons (.var 4) .nil))) .nil)))))
    (.cons (.ret (.cst (.bl false)))
    .nil)
    .nil)
  .nil)
def c_law_1 : E :=
  .lc (.seq (.idxv 3 (.var 6))) (.one 7) .none (.bi .str1 (.cons (.var 7) .nil))
def b_law_4 : Ss :=
  (.cons (.app (.var 5) (.bm .join (.cst (.str " ")) (.bin .add (c_law_1) (.lst (.cons (.cst (.str "=")) (.cons (.bi .str1 (.cons (.idxv 4 (.var 6)) .nil)) .nil))))))
  .nil)
def b_law_3 : Ss :=
  (.cons (.asg (.one 8) (.bm .join (.cst (.str "\n")) (.var 5)))
  (.cons (.for (.rng1 (.cst (.int 2))) (.one 9) b_law_5)
  .nil))
def b_law_2 : Ss :=
  (.cons (.asg (.one 3) (.fnv 18 1 (.cons (.bin .add (.cst (.int 1)) (.fnv 5 1 (.cons (.cst (.int 8)) .nil))) (.cons (.bin .add (.cst (.int 1)) (.fnv 5 1 (.cons (.cst (.int 8)) .nil))) .nil))))
  (.cons (.asg (.one 4) (.fnv 19 1 (.cons (.var 3) .nil)))
  (.cons (.asg (.one 5) (.lst .nil))
  (.cons (.for (.rng1 (.bi .len (.cons (.var 3) .nil))) (.one 6) b_law_4)
  b_law_3))))
def b_law_1 : Ss :=
  (.cons (.ret (.cst (.bl true)))
  .nil)
def b_law : Ss :=
  (.cons (.asg (.one 1) (.lst (.cons (.var 0) (.cons (.cst (.int 0)) (.cons (.cst (.int 0)) (.cons (.cst (.int 0)) .nil))))))
  (.cons (.for (.rng1 (.cst (.int 4))) (.one 2) b_law_2)
  b_law_1))
def Γ : Ctx where
  glb := fun g => match g with
    | 3 => some (.int 8)
    | 4 => some (.int 1000000000)
    | 7 => some (.str "0123456789")
    | 8 => some (.int 10)
    | 6 => some (.str "-")
    | 5 => some (.str "=")
    | _ => none
  om := fun _ _ => false
  fn := fun f => match f with
    | 0 => some ⟨1, 1, false, b_is_whole⟩
    | 2 => some ⟨3, 3, false, b_is_number⟩
    | 11 => some ⟨1, 5, false, b_need_rows⟩
    | 12 => some ⟨2, 4, false, b_need_right⟩
    | 27 => some ⟨2, 7, false, b_written⟩
    | 25 => some ⟨2, 4, false, b_number_of⟩
    | 26 => some ⟨1, 7, false, b_read⟩
    | 5 => some ⟨2, 4, true, b__law_taken⟩
    | 17 => some ⟨2, 3, false, b__law_alike⟩
    | 18 => some ⟨3, 11, true, b__law_drawn⟩
    | 19 => some ⟨2, 7, true, b__law_right⟩
    | 9 => some ⟨1, 10, false, b_law⟩
    | _ => none
  meth := fun _ _ => none
  init := fun _ => none
  dfl := fun _ => []
  kwd := fun _ => 0
end PL
set_option maxRecDepth 100000
/-! the ties of the small syntax to the text, the end (printed by wip/gen/gen.py) -/
namespace PL
open PySem PySem.Spec PyProof.Rows L2
def top (i : Nat) : Stmt := PySem.Challenge.pw_powerlift_k18_written.main.body.getD i (.Pass ⟨0, 0, 0, 0⟩)
abbrev s_is_whole : Stmt := top 6
abbrev s_is_number : Stmt := top 7
abbrev s_need_rows : Stmt := top 11
abbrev s_need_right : Stmt := top 12
abbrev s_written : Stmt := top 18
abbrev s_number_of : Stmt := top 19
abbrev s_read : Stmt := top 20
abbrev s__law_taken : Stmt := top 22
abbrev s__law_alike : Stmt := top 23
abbrev s__law_drawn : Stmt := top 24
abbrev s__law_right : Stmt := top 25
abbrev s_law : Stmt := top 26
def TT : Ns where
  gN := fun i => match i with
    | 0 => "MOST_MODULUS"
    | 1 => "LEAST_PRIME"
    | 2 => "MOST_PRIME"
    | 3 => "MOST_ROWS"
    | 4 => "MOST_SIZE"
    | 5 => "SAME"
    | 6 => "LESS"
    | 7 => "FIGURES"
    | 8 => "MOST_FIGURES"
    | _ => ""
  fN := fun i => match i with
    | 0 => "is_whole"
    | 2 => "is_number"
    | 5 => "_law_taken"
    | 9 => "law"
    | 11 => "need_rows"
    | 12 => "need_right"
    | 17 => "_law_alike"
    | 18 => "_law_drawn"
    | 19 => "_law_right"
    | 25 => "number_of"
    | 26 => "read"
    | 27 => "written"
    | _ => ""
  cN := fun i => match i with
    | 0 => "BadCount"
    | 1 => "BadPrime"
    | 2 => "BadRows"
    | 3 => "BadRight"
    | 4 => "NotSquare"
    | 5 => "BadText"
    | _ => ""
  mN := fun i => match i with
    | _ => ""
  fl := fun i => match i with
    | _ => ""
  fs := [0, 2, 11, 12, 27, 25, 26, 5, 17, 18, 19, 9]
  gs := [3, 4, 7, 8, 6, 5]
  cs := []
theorem sc_is_whole : FnScope ["thing"] ["thing"] (defScope s_is_whole) := ⟨rfl, rfl, rfl, by decide +kernel, rfl, by decide +kernel, by decide +kernel⟩
theorem m_is_whole : mSs TT ["thing"] (defScope s_is_whole) (defScope s_is_whole) b_is_whole (defBody s_is_whole) = true := by decide +kernel
theorem sc_is_number : FnScope ["thing", "low", "high"] ["thing", "low", "high"] (defScope s_is_number) := ⟨rfl, rfl, rfl, by decide +kernel, rfl, by decide +kernel, by decide +kernel⟩
theorem m_is_number : mSs TT ["thing", "low", "high"] (defScope s_is_number) (defScope s_is_number) b_is_number (defBody s_is_number) = true := by decide +kernel
theorem sc_need_rows : FnScope ["rows", "number", "row", "place", "one"] ["rows"] (defScope s_need_rows) := ⟨rfl, rfl, rfl, by decide +kernel, rfl, by decide +kernel, by decide +kernel⟩
theorem m_need_rows : mSs TT ["rows", "number", "row", "place", "one"] (defScope s_need_rows) (defScope s_need_rows) b_need_rows (defBody s_need_rows) = true := by decide +kernel
theorem sc_need_right : FnScope ["rows", "right", "place", "one"] ["rows", "right"] (defScope s_need_right) := ⟨rfl, rfl, rfl, by decide +kernel, rfl, by decide +kernel, by decide +kernel⟩
theorem m_need_right : mSs TT ["rows", "right", "place", "one"] (defScope s_need_right) (defScope s_need_right) b_need_right (defBody s_need_right) = true := by decide +kernel
theorem sc_written : FnScope ["rows", "right", "lines", "one", "row", "due", "line"] ["rows", "right"] (defScope s_written) := ⟨rfl, rfl, rfl, by decide +kernel, rfl, by decide +kernel, by decide +kernel⟩
theorem m_written : mSs TT ["rows", "right", "lines", "one", "row", "due", "line"] (defScope s_written) (defScope s_written) b_written (defBody s_written) = true := by decide +kernel
theorem sc_number_of : FnScope ["word", "row", "size", "sign"] ["word", "row"] (defScope s_number_of) := ⟨rfl, rfl, rfl, by decide +kernel, rfl, by decide +kernel, by decide +kernel⟩
theorem m_number_of : mSs TT ["word", "row", "size", "sign"] (defScope s_number_of) (defScope s_number_of) b_number_of (defBody s_number_of) = true := by decide +kernel
theorem sc_read : FnScope ["text", "rows", "right", "number", "line", "words", "word"] ["text"] (defScope s_read) := ⟨rfl, rfl, rfl, by decide +kernel, rfl, by decide +kernel, by decide +kernel⟩
theorem m_read : mSs TT ["text", "rows", "right", "number", "line", "words", "word"] (defScope s_read) (defScope s_read) b_read (defBody s_read) = true := by decide +kernel
theorem sc__law_taken : FnScope ["_law_row", "_law_many", "_law_found", "_law_cell"] ["_law_row", "_law_many"] (defScope s__law_taken) := ⟨rfl, rfl, rfl, by decide +kernel, rfl, by decide +kernel, by decide +kernel⟩
theorem m__law_taken : mSs TT ["_law_row", "_law_many", "_law_found", "_law_cell"] (defScope s__law_taken) (defScope s__law_taken) b__law_taken (defBody s__law_taken) = true := by decide +kernel
theorem sc__law_alike : FnScope ["_law_one", "_law_due", "_law_k"] ["_law_one", "_law_due"] (defScope s__law_alike) := ⟨rfl, rfl, rfl, by decide +kernel, rfl, by decide +kernel, by decide +kernel⟩
theorem m__law_alike : mSs TT ["_law_one", "_law_due", "_law_k"] (defScope s__law_alike) (defScope s__law_alike) b__law_alike (defBody s__law_alike) = true := by decide +kernel
theorem sc__law_drawn : FnScope ["_law_row", "_law_many", "_law_wide", "_law_far", "_law_found", "_law_k", "_law_line", "_law_place", "_law_way", "_law_one", "_law_other"] ["_law_row", "_law_many", "_law_wide"] (defScope s__law_drawn) := ⟨rfl, rfl, rfl, by decide +kernel, rfl, by decide +kernel, by decide +kernel⟩
theorem m__law_drawn : mSs TT ["_law_row", "_law_many", "_law_wide", "_law_far", "_law_found", "_law_k", "_law_line", "_law_place", "_law_way", "_law_one", "_law_other"] (defScope s__law_drawn) (defScope s__law_drawn) b__law_drawn (defBody s__law_drawn) = true := by decide +kernel
theorem sc__law_right : FnScope ["_law_row", "_law_rows", "_law_line", "_law_some", "_law_one", "_law_found", "_law_k"] ["_law_row", "_law_rows"] (defScope s__law_right) := ⟨rfl, rfl, rfl, by decide +kernel, rfl, by decide +kernel, by decide +kernel⟩
theorem m__law_right : mSs TT ["_law_row", "_law_rows", "_law_line", "_law_some", "_law_one", "_law_found", "_law_k"] (defScope s__law_right) (defScope s__law_right) b__law_right (defBody s__law_right) = true := by decide +kernel
theorem sc_law : FnScope ["_law_script", "_law_row", "_law_turn", "_law_rows", "_law_right_here", "_law_lines", "_law_k", "_law_one", "_law_due", "_law_again"] ["_law_script"] (defScope s_law) := ⟨rfl, rfl, rfl, by decide +kernel, rfl, by decide +kernel, by decide +kernel⟩
theorem m_law : mSs TT ["_law_script", "_law_row", "_law_turn", "_law_rows", "_law_right_here", "_law_lines", "_law_k", "_law_one", "_law_due", "_law_again"] (defScope s_law) (defScope s_law) b_law (defBody s_law) = true := by decide +kernel
section
variable {l : PySem.W.OpenLaw} {w : World} {K : PySem.W.Frag} {h : Heap} {mg : Str → Option Value}
set_option maxHeartbeats 0 in
theorem all_mk {fa : Addr} {f0 : Addr} {od0 an0 : Option Addr} {sl0 : Array (Option Value)} {oc0 kV0 dc0 pm0 cd0 ct0 : Value} {f1 : Addr} {od1 an1 : Option Addr} {sl1 : Array (Option Value)} {oc1 kV1 dc1 pm1 cd1 ct1 : Value} {f2 : Addr} {od2 an2 : Option Addr} {sl2 : Array (Option Value)} {oc2 kV2 dc2 pm2 cd2 ct2 : Value} {f3 : Addr} {od3 an3 : Option Addr} {sl3 : Array (Option Value)} {oc3 kV3 dc3 pm3 cd3 ct3 : Value} {f4 : Addr} {od4 an4 : Option Addr} {sl4 : Array (Option Value)} {oc4 kV4 dc4 pm4 cd4 ct4 : Value} {f5 : Addr} {od5 an5 : Option Addr} {sl5 : Array (Option Value)} {oc5 kV5 dc5 pm5 cd5 ct5 : Value} {f6 : Addr} {od6 an6 : Option Addr} {sl6 : Array (Option Value)} {oc6 kV6 dc6 pm6 cd6 ct6 : Value} {f7 : Addr} {od7 an7 : Option Addr} {sl7 : Array (Option Value)} {oc7 kV7 dc7 pm7 cd7 ct7 : Value} {f8 : Addr} {od8 an8 : Option Addr} {sl8 : Array (Option Value)} {oc8 kV8 dc8 pm8 cd8 ct8 : Value} {f9 : Addr} {od9 an9 : Option Addr} {sl9 : Array (Option Value)} {oc9 kV9 dc9 pm9 cd9 ct9 : Value} {f10 : Addr} {od10 an10 : Option Addr} {sl10 : Array (Option Value)} {oc10 kV10 dc10 pm10 cd10 ct10 : Value} {f11 : Addr} {od11 an11 : Option Addr} {sl11 : Array (Option Value)} {oc11 kV11 dc11 pm11 cd11 ct11 : Value} {tg0 : Tok} {tg1 : Tok} {tg2 : Tok} {tg3 : Tok} {tg4 : Tok} {tg5 : Tok} (X : K.In h) (G : h.Ns mainGlobals mg) (hfa : mg "law" = some (.ref fa))
    (a0 : PySem.W.nsIn K mainGlobals "is_whole" = some (some (.ref f0)))
    (l0 : K.lookup f0 = some ⟨oc0, od0, .func (PySem.W.fnOf "is_whole" "is_whole" (defArgs s_is_whole) (defBody s_is_whole) (defScope s_is_whole) .none kV0 dc0 pm0 an0 cd0 ct0), sl0⟩)
    (c0 : PySem.W.codeIn K cd0 "is_whole" = true)
    (k0 : PySem.W.keepIn K (.ref f0) = true)
    (a1 : PySem.W.nsIn K mainGlobals "is_number" = some (some (.ref f1)))
    (l1 : K.lookup f1 = some ⟨oc1, od1, .func (PySem.W.fnOf "is_number" "is_number" (defArgs s_is_number) (defBody s_is_number) (defScope s_is_number) .none kV1 dc1 pm1 an1 cd1 ct1), sl1⟩)
    (c1 : PySem.W.codeIn K cd1 "is_number" = true)
    (k1 : PySem.W.keepIn K (.ref f1) = true)
    (a2 : PySem.W.nsIn K mainGlobals "need_rows" = some (some (.ref f2)))
    (l2 : K.lookup f2 = some ⟨oc2, od2, .func (PySem.W.fnOf "need_rows" "need_rows" (defArgs s_need_rows) (defBody s_need_rows) (defScope s_need_rows) .none kV2 dc2 pm2 an2 cd2 ct2), sl2⟩)
    (c2 : PySem.W.codeIn K cd2 "need_rows" = true)
    (k2 : PySem.W.keepIn K (.ref f2) = true)
    (a3 : PySem.W.nsIn K mainGlobals "need_right" = some (some (.ref f3)))
    (l3 : K.lookup f3 = some ⟨oc3, od3, .func (PySem.W.fnOf "need_right" "need_right" (defArgs s_need_right) (defBody s_need_right) (defScope s_need_right) .none kV3 dc3 pm3 an3 cd3 ct3), sl3⟩)
    (c3 : PySem.W.codeIn K cd3 "need_right" = true)
    (k3 : PySem.W.keepIn K (.ref f3) = true)
    (a4 : PySem.W.nsIn K mainGlobals "written" = some (some (.ref f4)))
    (l4 : K.lookup f4 = some ⟨oc4, od4, .func (PySem.W.fnOf "written" "written" (defArgs s_written) (defBody s_written) (defScope s_written) .none kV4 dc4 pm4 an4 cd4 ct4), sl4⟩)
    (c4 : PySem.W.codeIn K cd4 "written" = true)
    (k4 : PySem.W.keepIn K (.ref f4) = true)
    (a5 : PySem.W.nsIn K mainGlobals "number_of" = some (some (.ref f5)))
    (l5 : K.lookup f5 = some ⟨oc5, od5, .func (PySem.W.fnOf "number_of" "number_of" (defArgs s_number_of) (defBody s_number_of) (defScope s_number_of) .none kV5 dc5 pm5 an5 cd5 ct5), sl5⟩)
    (c5 : PySem.W.codeIn K cd5 "number_of" = true)
    (k5 : PySem.W.keepIn K (.ref f5) = true)
    (a6 : PySem.W.nsIn K mainGlobals "read" = some (some (.ref f6)))
    (l6 : K.lookup f6 = some ⟨oc6, od6, .func (PySem.W.fnOf "read" "read" (defArgs s_read) (defBody s_read) (defScope s_read) .none kV6 dc6 pm6 an6 cd6 ct6), sl6⟩)
    (c6 : PySem.W.codeIn K cd6 "read" = true)
    (k6 : PySem.W.keepIn K (.ref f6) = true)
    (a7 : PySem.W.nsIn K mainGlobals "_law_taken" = some (some (.ref f7)))
    (l7 : K.lookup f7 = some ⟨oc7, od7, .func (PySem.W.fnOf "_law_taken" "_law_taken" (defArgs s__law_taken) (defBody s__law_taken) (defScope s__law_taken) .none kV7 dc7 pm7 an7 cd7 ct7), sl7⟩)
    (c7 : PySem.W.codeIn K cd7 "_law_taken" = true)
    (k7 : PySem.W.keepIn K (.ref f7) = true)
    (a8 : PySem.W.nsIn K mainGlobals "_law_alike" = some (some (.ref f8)))
    (l8 : K.lookup f8 = some ⟨oc8, od8, .func (PySem.W.fnOf "_law_alike" "_law_alike" (defArgs s__law_alike) (defBody s__law_alike) (defScope s__law_alike) .none kV8 dc8 pm8 an8 cd8 ct8), sl8⟩)
    (c8 : PySem.W.codeIn K cd8 "_law_alike" = true)
    (k8 : PySem.W.keepIn K (.ref f8) = true)
    (a9 : PySem.W.nsIn K mainGlobals "_law_drawn" = some (some (.ref f9)))
    (l9 : K.lookup f9 = some ⟨oc9, od9, .func (PySem.W.fnOf "_law_drawn" "_law_drawn" (defArgs s__law_drawn) (defBody s__law_drawn) (defScope s__law_drawn) .none kV9 dc9 pm9 an9 cd9 ct9), sl9⟩)
    (c9 : PySem.W.codeIn K cd9 "_law_drawn" = true)
    (k9 : PySem.W.keepIn K (.ref f9) = true)
    (a10 : PySem.W.nsIn K mainGlobals "_law_right" = some (some (.ref f10)))
    (l10 : K.lookup f10 = some ⟨oc10, od10, .func (PySem.W.fnOf "_law_right" "_law_right" (defArgs s__law_right) (defBody s__law_right) (defScope s__law_right) .none kV10 dc10 pm10 an10 cd10 ct10), sl10⟩)
    (c10 : PySem.W.codeIn K cd10 "_law_right" = true)
    (k10 : PySem.W.keepIn K (.ref f10) = true)
    (a11 : PySem.W.nsIn K mainGlobals "law" = some (some (.ref f11)))
    (l11 : K.lookup f11 = some ⟨oc11, od11, .func (PySem.W.fnOf "law" "law" (defArgs s_law) (defBody s_law) (defScope s_law) .none kV11 dc11 pm11 an11 cd11 ct11), sl11⟩)
    (c11 : PySem.W.codeIn K cd11 "law" = true)
    (k11 : PySem.W.keepIn K (.ref f11) = true)
    (u0 : PySem.W.nsIn K mainGlobals "MOST_ROWS" = some (some (.int 8 tg0)))
    (u1 : PySem.W.nsIn K mainGlobals "MOST_SIZE" = some (some (.int 1000000000 tg1)))
    (u2 : PySem.W.nsIn K mainGlobals "FIGURES" = some (some (.str "0123456789" tg2)))
    (u3 : PySem.W.nsIn K mainGlobals "MOST_FIGURES" = some (some (.int 10 tg3)))
    (u4 : PySem.W.nsIn K mainGlobals "LESS" = some (some (.str "-" tg4)))
    (u5 : PySem.W.nsIn K mainGlobals "SAME" = some (some (.str "=" tg5)))
    (z0 : PySem.W.nsIn K mainGlobals "len" = some none)
    (z1 : PySem.W.nsIn K mainGlobals "abs" = some none)
    (z2 : PySem.W.nsIn K mainGlobals "max" = some none)
    (z3 : PySem.W.nsIn K mainGlobals "min" = some none)
    (z4 : PySem.W.nsIn K mainGlobals "int" = some none)
    (z5 : PySem.W.nsIn K mainGlobals "str" = some none)
    (z6 : PySem.W.nsIn K mainGlobals "sum" = some none)
    (z7 : PySem.W.nsIn K mainGlobals "sorted" = some none)
    (z8 : PySem.W.nsIn K mainGlobals "list" = some none)
    (z9 : PySem.W.nsIn K mainGlobals "tuple" = some none)
    (z10 : PySem.W.nsIn K mainGlobals "any" = some none)
    (z11 : PySem.W.nsIn K mainGlobals "all" = some none)
    (z12 : PySem.W.nsIn K mainGlobals "bool" = some none)
    (z13 : PySem.W.nsIn K mainGlobals "isinstance" = some none)
    (z14 : PySem.W.nsIn K mainGlobals "range" = some none)
    (z15 : PySem.W.nsIn K mainGlobals "enumerate" = some none)
    (z16 : PySem.W.nsIn K mainGlobals "zip" = some none) :
    ∃ (M : Nm) (L : Lk), Top K mg M TT L Γ ∧ (∀ f ∈ TT.fs, FnI K TT L Γ f) ∧ L.fa 9 = fa ∧ L.ps 9 = (["_law_script"] : List Str) ∧ ∀ (s : Shared) (v : Value), BindsTo s (L.fd 9) ⟨[v], []⟩ [("_law_script", v)] := by
  have e := hfa.symm.trans (PySem.W.mg_of X G a11)
  cases e
  have F0 := fun_mk (st := s_is_whole) l0 c0 k0
  have b0 := F0.binds (ps := ["thing"]) fun _ _ _ _ _ _ us hl => match us, hl with | [_], _ => rfl
  have F1 := fun_mk (st := s_is_number) l1 c1 k1
  have b1 := F1.binds (ps := ["thing", "low", "high"]) fun _ _ _ _ _ _ us hl => match us, hl with | [_, _, _], _ => rfl
  have F2 := fun_mk (st := s_need_rows) l2 c2 k2
  have b2 := F2.binds (ps := ["rows"]) fun _ _ _ _ _ _ us hl => match us, hl with | [_], _ => rfl
  have F3 := fun_mk (st := s_need_right) l3 c3 k3
  have b3 := F3.binds (ps := ["rows", "right"]) fun _ _ _ _ _ _ us hl => match us, hl with | [_, _], _ => rfl
  have F4 := fun_mk (st := s_written) l4 c4 k4
  have b4 := F4.binds (ps := ["rows", "right"]) fun _ _ _ _ _ _ us hl => match us, hl with | [_, _], _ => rfl
  have F5 := fun_mk (st := s_number_of) l5 c5 k5
  have b5 := F5.binds (ps := ["word", "row"]) fun _ _ _ _ _ _ us hl => match us, hl with | [_, _], _ => rfl
  have F6 := fun_mk (st := s_read) l6 c6 k6
  have b6 := F6.binds (ps := ["text"]) fun _ _ _ _ _ _ us hl => match us, hl with | [_], _ => rfl
  have F7 := fun_mk (st := s__law_taken) l7 c7 k7
  have b7 := F7.binds (ps := ["_law_row", "_law_many"]) fun _ _ _ _ _ _ us hl => match us, hl with | [_, _], _ => rfl
  have F8 := fun_mk (st := s__law_alike) l8 c8 k8
  have b8 := F8.binds (ps := ["_law_one", "_law_due"]) fun _ _ _ _ _ _ us hl => match us, hl with | [_, _], _ => rfl
  have F9 := fun_mk (st := s__law_drawn) l9 c9 k9
  have b9 := F9.binds (ps := ["_law_row", "_law_many", "_law_wide"]) fun _ _ _ _ _ _ us hl => match us, hl with | [_, _, _], _ => rfl
  have F10 := fun_mk (st := s__law_right) l10 c10 k10
  have b10 := F10.binds (ps := ["_law_row", "_law_rows"]) fun _ _ _ _ _ _ us hl => match us, hl with | [_, _], _ => rfl
  have F11 := fun_mk (st := s_law) l11 c11 k11
  have b11 := F11.binds (ps := ["_law_script"]) fun _ _ _ _ _ _ us hl => match us, hl with | [_], _ => rfl

  refine ⟨⟨fun _ => 0, TT.fl, Γ.om⟩, ⟨fun i => match i with
    | 0 => f0
    | 2 => f1
    | 11 => f2
    | 12 => f3
    | 27 => f4
    | 25 => f5
    | 26 => f6
    | 5 => f7
    | 17 => f8
    | 18 => f9
    | 19 => f10
    | 9 => fa
    | _ => 0, fun i => match i with
    | 0 => PySem.W.fnOf "is_whole" "is_whole" (defArgs s_is_whole) (defBody s_is_whole) (defScope s_is_whole) .none kV0 dc0 pm0 an0 cd0 ct0
    | 2 => PySem.W.fnOf "is_number" "is_number" (defArgs s_is_number) (defBody s_is_number) (defScope s_is_number) .none kV1 dc1 pm1 an1 cd1 ct1
    | 11 => PySem.W.fnOf "need_rows" "need_rows" (defArgs s_need_rows) (defBody s_need_rows) (defScope s_need_rows) .none kV2 dc2 pm2 an2 cd2 ct2
    | 12 => PySem.W.fnOf "need_right" "need_right" (defArgs s_need_right) (defBody s_need_right) (defScope s_need_right) .none kV3 dc3 pm3 an3 cd3 ct3
    | 27 => PySem.W.fnOf "written" "written" (defArgs s_written) (defBody s_written) (defScope s_written) .none kV4 dc4 pm4 an4 cd4 ct4
    | 25 => PySem.W.fnOf "number_of" "number_of" (defArgs s_number_of) (defBody s_number_of) (defScope s_number_of) .none kV5 dc5 pm5 an5 cd5 ct5
    | 26 => PySem.W.fnOf "read" "read" (defArgs s_read) (defBody s_read) (defScope s_read) .none kV6 dc6 pm6 an6 cd6 ct6
    | 5 => PySem.W.fnOf "_law_taken" "_law_taken" (defArgs s__law_taken) (defBody s__law_taken) (defScope s__law_taken) .none kV7 dc7 pm7 an7 cd7 ct7
    | 17 => PySem.W.fnOf "_law_alike" "_law_alike" (defArgs s__law_alike) (defBody s__law_alike) (defScope s__law_alike) .none kV8 dc8 pm8 an8 cd8 ct8
    | 18 => PySem.W.fnOf "_law_drawn" "_law_drawn" (defArgs s__law_drawn) (defBody s__law_drawn) (defScope s__law_drawn) .none kV9 dc9 pm9 an9 cd9 ct9
    | 19 => PySem.W.fnOf "_law_right" "_law_right" (defArgs s__law_right) (defBody s__law_right) (defScope s__law_right) .none kV10 dc10 pm10 an10 cd10 ct10
    | 9 => PySem.W.fnOf "law" "law" (defArgs s_law) (defBody s_law) (defScope s_law) .none kV11 dc11 pm11 an11 cd11 ct11
    | _ => PySem.W.fnOf "law" "law" (defArgs s_law) (defBody s_law) (defScope s_law) .none kV11 dc11 pm11 an11 cd11 ct11, fun i => match i with
    | 0 => ["thing"]
    | 2 => ["thing", "low", "high"]
    | 11 => ["rows"]
    | 12 => ["rows", "right"]
    | 27 => ["rows", "right"]
    | 25 => ["word", "row"]
    | 26 => ["text"]
    | 5 => ["_law_row", "_law_many"]
    | 17 => ["_law_one", "_law_due"]
    | 18 => ["_law_row", "_law_many", "_law_wide"]
    | 19 => ["_law_row", "_law_rows"]
    | 9 => ["_law_script"]
    | _ => []⟩, ?_, ?_, rfl, rfl, fun s v => .of_eq rfl⟩
  · refine ⟨rfl, ?_, ?_, ?_, PySem.W.mg_none_of X G z13, PySem.W.mg_none_of X G z14, PySem.W.mg_none_of X G z15, PySem.W.mg_none_of X G z16, ?_⟩
    · intro g hg d hd
      simp only [TT, List.mem_cons, List.not_mem_nil, or_false] at hg
      rcases hg with rfl | rfl | rfl | rfl | rfl | rfl
      · cases hd
        exact ⟨_, .int 8, PySem.W.mg_of X G u0, ⟨_, rfl⟩, fun F => .int _⟩
      · cases hd
        exact ⟨_, .int 1000000000, PySem.W.mg_of X G u1, ⟨_, rfl⟩, fun F => .int _⟩
      · cases hd
        exact ⟨_, .str "0123456789", PySem.W.mg_of X G u2, ⟨_, rfl⟩, fun F => .str _⟩
      · cases hd
        exact ⟨_, .int 10, PySem.W.mg_of X G u3, ⟨_, rfl⟩, fun F => .int _⟩
      · cases hd
        exact ⟨_, .str "-", PySem.W.mg_of X G u4, ⟨_, rfl⟩, fun F => .str _⟩
      · cases hd
        exact ⟨_, .str "=", PySem.W.mg_of X G u5, ⟨_, rfl⟩, fun F => .str _⟩
    · intro b hb
      cases b <;> first | (simp [okBi] at hb; done) | skip
      · exact PySem.W.mg_none_of X G z0
      · exact PySem.W.mg_none_of X G z1
      · exact PySem.W.mg_none_of X G z2
      · exact PySem.W.mg_none_of X G z3
      · exact PySem.W.mg_none_of X G z2
      · exact PySem.W.mg_none_of X G z3
      · exact PySem.W.mg_none_of X G z4
      · exact PySem.W.mg_none_of X G z5
      · exact PySem.W.mg_none_of X G z6
      · exact PySem.W.mg_none_of X G z7
      · exact PySem.W.mg_none_of X G z8
      · exact PySem.W.mg_none_of X G z9
      · exact PySem.W.mg_none_of X G z10
      · exact PySem.W.mg_none_of X G z11
    · intro t
      cases t
      · exact PySem.W.mg_none_of X G z4
      · exact PySem.W.mg_none_of X G z12
      · exact PySem.W.mg_none_of X G z5
      · exact PySem.W.mg_none_of X G z9
      · exact PySem.W.mg_none_of X G z8
    · intro f hf
      simp only [TT, List.mem_cons, List.not_mem_nil, or_false] at hf
      rcases hf with rfl | rfl | rfl | rfl | rfl | rfl | rfl | rfl | rfl | rfl | rfl | rfl
      · exact ⟨PySem.W.mg_of X G a0, k0, [], [], b0, .nil, fun F => .nil⟩
      · exact ⟨PySem.W.mg_of X G a1, k1, [], [], b1, .nil, fun F => .nil⟩
      · exact ⟨PySem.W.mg_of X G a2, k2, [], [], b2, .nil, fun F => .nil⟩
      · exact ⟨PySem.W.mg_of X G a3, k3, [], [], b3, .nil, fun F => .nil⟩
      · exact ⟨PySem.W.mg_of X G a4, k4, [], [], b4, .nil, fun F => .nil⟩
      · exact ⟨PySem.W.mg_of X G a5, k5, [], [], b5, .nil, fun F => .nil⟩
      · exact ⟨PySem.W.mg_of X G a6, k6, [], [], b6, .nil, fun F => .nil⟩
      · exact ⟨PySem.W.mg_of X G a7, k7, [], [], b7, .nil, fun F => .nil⟩
      · exact ⟨PySem.W.mg_of X G a8, k8, [], [], b8, .nil, fun F => .nil⟩
      · exact ⟨PySem.W.mg_of X G a9, k9, [], [], b9, .nil, fun F => .nil⟩
      · exact ⟨PySem.W.mg_of X G a10, k10, [], [], b10, .nil, fun F => .nil⟩
      · exact ⟨PySem.W.mg_of X G a11, k11, [], [], b11, .nil, fun F => .nil⟩
  · intro f hf
    simp only [TT, List.mem_cons, List.not_mem_nil, or_false] at hf
    rcases hf with rfl | rfl | rfl | rfl | rfl | rfl | rfl | rfl | rfl | rfl | rfl | rfl
    · exact ⟨_, _, _, _, _, rfl, F0, sc_is_whole, m_is_whole, rfl, rfl⟩
    · exact ⟨_, _, _, _, _, rfl, F1, sc_is_number, m_is_number, rfl, rfl⟩
    · exact ⟨_, _, _, _, _, rfl, F2, sc_need_rows, m_need_rows, rfl, rfl⟩
    · exact ⟨_, _, _, _, _, rfl, F3, sc_need_right, m_need_right, rfl, rfl⟩
    · exact ⟨_, _, _, _, _, rfl, F4, sc_written, m_written, rfl, rfl⟩
    · exact ⟨_, _, _, _, _, rfl, F5, sc_number_of, m_number_of, rfl, rfl⟩
    · exact ⟨_, _, _, _, _, rfl, F6, sc_read, m_read, rfl, rfl⟩
    · exact ⟨_, _, _, _, _, rfl, F7, sc__law_taken, m__law_taken, rfl, rfl⟩
    · exact ⟨_, _, _, _, _, rfl, F8, sc__law_alike, m__law_alike, rfl, rfl⟩
    · exact ⟨_, _, _, _, _, rfl, F9, sc__law_drawn, m__law_drawn, rfl, rfl⟩
    · exact ⟨_, _, _, _, _, rfl, F10, sc__law_right, m__law_right, rfl, rfl⟩
    · exact ⟨_, _, _, _, _, rfl, F11, sc_law, m_law, rfl, rfl⟩
end
theorem walk_end {l : PySem.W.OpenLaw} {q : Program} {loose : List Str} {XP : (Str → Option Value) → Heap → Prop} {YP : World → Heap → Prop} {d : DefRec} {K : Params → PySem.W.Frag} {n : Nat} (law : ∀ ns : List Int, ns.length ≤ 63 → callN Γ n 9 [(.scr ns, false)] = .ret (.bl true, false) none)
    (hr : Room (2 * n) callerA) (hm : l.most = some 63) (hdf : d.params.defaults = [])
    (hY : ∀ (w : World) (h : Heap), YP w h → (K w.params).In h)
    (A : ∀ (w : World) (mg : Str → Option Value) (fa : Addr) (h : Heap), (K w.params).In h → h.Ns mainGlobals mg → mg d.name = some (.ref fa) →
      ∃ (M : Nm) (L : Lk), Top (K w.params) mg M TT L Γ ∧ (∀ f ∈ TT.fs, FnI (K w.params) TT L Γ f) ∧ L.fa 9 = fa ∧ L.ps 9 = (["_law_script"] : List Str) ∧ ∀ (s : Shared) (v : Value), BindsTo s (L.fd 9) ⟨[v], []⟩ [("_law_script", v)]) :
    PySem.W.WalkO q loose XP YP l.row.toRowW d [] (fun f vs => PySem.call f vs) := by
  refine L2.walk_of (n := 63) (k := 2 * n) (x := "_law_script") (CX := fun _ => CX0) (sp := fun w => spLaw (K w.params)) hm (by decide) hdf hr hY ?_ (fun _ _ a ns hl _ hS => ⟨a, ns, rfl, hS, hl, fun _ => rfl⟩) fun _ _ _ _ _ z => z
  intro w mg fa h KX G hmg
  obtain ⟨M, L, t, hf, e1, e2, hb⟩ := A w mg fa h KX G hmg
  subst e1
  refine ⟨L.fd 9, hb, fun base _ _ => ?_⟩
  refine (law_ok t hf (f := 9) (by decide) e2 (fun _ => True) fun ns hl _ => law ns hl).imp fun vs H Q E hs => ?_
  obtain ⟨a, ns, e, hS, hl, q⟩ := hs
  exact ⟨a, ns, e, hS, hl, trivial, q⟩
end PL
/-! RBase: calls; is_whole, is_number; the law's draws. (For any Γ with defs 0, 2, 5.) -/
namespace PL
open PySem
theorem callN_eq {n f : Nat} {F : FnE} {args : List (D × Bool)} (h : Γ.fn f = some F) : callN Γ (n + 1) f args = body Γ (callN Γ n) F args := by
  show (match Γ.fn f with | some F => body Γ (callN Γ n) F args | none => .err) = _
  rw [h]
theorem dfl_nil (f : Nat) : Γ.dfl f = [] := rfl
theorem r_is_whole (n : Nat) (i : Int) : callN Γ (n + 1) 0 [(.int i, false)] = .ret (.bl true, false) none := by
  rw [callN_eq rfl]
  simp [body, b_is_whole]
theorem r_is_number (n : Nat) (i a b : Int) : callN Γ (n + 2) 2 [(.int i, false), (.int a, false), (.int b, false)] = .ret (.bl (decide (a ≤ i) && decide (i ≤ b)), false) none := by
  rw [callN_eq rfl]
  by_cases h : a ≤ i <;> simp [body, b_is_number, h, r_is_whole, dfl_nil]
/-- the law's row: the script, how many are taken, two numbers -/
abbrev rwD (ns : List Int) (i x y : Int) : D := .lst [.scr ns, .int i, .int x, .int y]
theorem r_taken (n : Nat) (ns : List Int) (i x y m : Int) (hi : 0 ≤ i) (hm : 0 < m) (hl : m.natAbs.log2 < 9000) : ∃ v i' x' y', 0 ≤ i' ∧ 0 ≤ v ∧ v < m ∧ callN Γ (n + 1) 5 [(rwD ns i x y, true), (.int m, false)] = .ret (.int v, false) (some (rwD ns i' x' y')) := by
  rw [callN_eq rfl]
  have s1 : ∀ z : Int, MulOk z 48271 := fun z => mulOk_r (by omega)
  by_cases h1 : 0 < y
  · refine ⟨y % m, i, x, y / m, hi, Int.emod_nonneg _ (by omega), Int.emod_lt_of_pos _ hm, ?_⟩
    simp [body, b__law_taken, ixn, h1, hm, hl]
  · by_cases h2 : (ns.length : Int) < i + 1
    · refine ⟨(x * 48271 + 11) % 2147483647 / 7 % m, i + 1, (x * 48271 + 11) % 2147483647, y, by omega, Int.emod_nonneg _ (by omega), Int.emod_lt_of_pos _ hm, ?_⟩
      have l8 : Nat.log2 7 < 9000 := by decide
      simp [body, b__law_taken, b__law_taken_1, ixn, h1, hm, h2, s1, l8]
    · have hj : i.toNat < ns.length := by omega
      by_cases h3 : 1000000000000000000 ≤ ns[i.toNat]
      · refine ⟨ns[i.toNat] % m, i + 1, (x * 48271 + ns[i.toNat] + 11) % 2147483647, ns[i.toNat] / m, by omega, Int.emod_nonneg _ (by omega), Int.emod_lt_of_pos _ hm, ?_⟩
        simp [body, b__law_taken, b__law_taken_1, b__law_taken_2, b__law_taken_3, ixn, h1, hm, hl, h2, s1, hi, hj, show i < (ns.length : Int) by omega, h3, show i + 1 - 1 = i by omega]
      · refine ⟨ns[i.toNat] % m, i + 1, (x * 48271 + ns[i.toNat] + 11) % 2147483647, y, by omega, Int.emod_nonneg _ (by omega), Int.emod_lt_of_pos _ hm, ?_⟩
        simp [body, b__law_taken, b__law_taken_1, b__law_taken_2, b__law_taken_3, ixn, h1, hm, h2, s1, hi, hj, show i < (ns.length : Int) by omega, h3, show i + 1 - 1 = i by omega]
/-- a draw of a small number of things -/
theorem lg {z : Int} (h1 : 0 < z) (h2 : z ≤ 1000000000000000000000000) : z.natAbs.log2 < 9000 := by
  have := natAbs_log2_lt (a := z) (k := 200) (by omega) (by omega)
  omega
/-- a row that the law draws from -/
def RwD (ns : List Int) (d : D) : Prop := ∃ i x y, 0 ≤ i ∧ d = rwD ns i x y
theorem RwD.take {ns : List Int} {d : D} (h : RwD ns d) (n : Nat) {m : Int} (hm : 0 < m) (hl : m ≤ 1000000000000000000000000) : ∃ v d', RwD ns d' ∧ 0 ≤ v ∧ v < m ∧ callN Γ (n + 1) 5 [(d, true), (.int m, false)] = .ret (.int v, false) (some d') := by
  obtain ⟨i, x, y, hi, rfl⟩ := h
  obtain ⟨v, i', x', y', h1, h2, h3, h4⟩ := r_taken n ns i x y m hi hm (lg hm hl)
  exact ⟨v, _, ⟨i', x', y', h1, rfl⟩, h2, h3, h4⟩
theorem RwD.rdv {ns : List Int} {d : D} (h : RwD ns d) (env : Fm) (k : Nat) (o : Bool) (e : env[k]? = some (some (d, o))) : rdv k env = some d := by
  obtain ⟨i, x, y, hi, rfl⟩ := h
  simp only [PL.rdv]
  rw [e]
end PL
/-! RNeeds: what is let by: rows, right sides. (Defs 11, 12.) -/
namespace PL
open PySem
/-! ### rows as data -/
abbrev vD (r : List Int) : List D := r.map .int
abbrev tD (r : List Int) : D := .tup (vD r)
abbrev lD (r : List Int) : D := .lst (vD r)
abbrev mD (m : List (List Int)) : D := .tup (m.map tD)
def Siz (x : Int) : Prop := -1000000000 ≤ x ∧ x ≤ 1000000000
structure RowsOk (m : List (List Int)) (w : Nat) : Prop where
  ne : m ≠ []
  few : m.length ≤ 8
  w1 : 1 ≤ w
  w8 : w ≤ 8
  len : ∀ r ∈ m, r.length = w
  siz : ∀ r ∈ m, ∀ x ∈ r, Siz x
theorem glb3 : Γ.glb 3 = some (.int 8) := rfl
theorem glb4 : Γ.glb 4 = some (.int 1000000000) := rfl
theorem rgD_len (a b : Int) : (rgD a b).length = (b - a).toNat := by
  unfold rgD
  simp
theorem rgD_get {a b : Int} {i : Nat} {d : D} (h : (rgD a b)[i]? = some d) : d = .int (a + i) ∧ i < (b - a).toNat := by
  have hl := (List.getElem?_eq_some_iff.mp h).1
  rw [rgD_len] at hl
  refine ⟨?_, hl⟩
  unfold rgD at h
  rw [List.getElem?_map, List.getElem?_range hl] at h
  simpa using h.symm
/-- an item of enumerate -/
theorem enm_get {l : List D} {i : Nat} {d : D} (h : ((rgD 0 l.length).zipWith (fun a b => D.tup [a, b]) l)[i]? = some d) : ∃ x, l[i]? = some x ∧ d = .tup [.int i, x] := by
  rw [List.getElem?_zipWith] at h
  cases h1 : (rgD 0 l.length)[i]? with
  | none => rw [h1] at h; simp at h
  | some a =>
    cases h2 : l[i]? with
    | none => rw [h1, h2] at h; simp at h
    | some b =>
      rw [h1, h2] at h
      obtain ⟨rfl, _⟩ := rgD_get h1
      simp at h
      exact ⟨b, rfl, h.symm⟩
theorem enm_len (l : List D) : ((rgD 0 l.length).zipWith (fun a b => D.tup [a, b]) l).length = l.length := by
  rw [List.length_zipWith, rgD_len]
  omega
theorem zip_get {l m : List D} {i : Nat} {d : D} (h : (l.zipWith (fun a b => D.tup [a, b]) m)[i]? = some d) : ∃ x y, l[i]? = some x ∧ m[i]? = some y ∧ d = .tup [x, y] := by
  rw [List.getElem?_zipWith] at h
  cases h1 : l[i]? with
  | none => rw [h1] at h; simp at h
  | some a =>
    cases h2 : m[i]? with
    | none => rw [h1, h2] at h; simp at h
    | some b =>
      rw [h1, h2] at h
      simp at h
      exact ⟨a, b, rfl, rfl, h.symm⟩
theorem need_row_in (n : Nat) {m : List (List Int)} {r : List Int} (i : Int) (x3 x4 : Sl) (hs : ∀ x ∈ r, Siz x) :
    ∃ x3' x4', frl Γ (callN Γ (n + 2)) false (.many [3, 4]) b_need_rows_5 ((rgD 0 (vD r).length).zipWith (fun a b => D.tup [a, b]) (vD r)) [some (mD m, false), some (.int i, false), some (tD r, false), x3, x4] = .nx [some (mD m, false), some (.int i, false), some (tD r, false), x3', x4'] := by
  obtain ⟨env', h1, x3', x4', h2⟩ := frl_inv Γ (callN Γ (n + 2)) (io := false) (tg := .many [3, 4]) (b := b_need_rows_5) (fun _ env => ∃ a b, env = [some (mD m, false), some (.int i, false), some (tD r, false), a, b])
    ((rgD 0 (vD r).length).zipWith (fun a b => D.tup [a, b]) (vD r)) 0 [some (mD m, false), some (.int i, false), some (tD r, false), x3, x4] ⟨_, _, rfl⟩ (by
      rintro j d env hd ⟨a, b, rfl⟩
      obtain ⟨y, hy, rfl⟩ := enm_get hd
      obtain ⟨z, hz, rfl⟩ : ∃ z, z ∈ r ∧ D.int z = y := by
        have := List.mem_of_getElem? hy
        simpa using this
      have q := hs z hz
      refine ⟨_, _, rfl, ?_, some (.int j, false), some (.int z, false), rfl⟩
      simp [b_need_rows_5, r_is_number, dfl_nil, glb4, q.1, q.2])
  subst h2
  exact ⟨x3', x4', h1⟩
theorem r_need_rows (n : Nat) {m : List (List Int)} {w : Nat} (h : RowsOk m w) : callN Γ (n + 3) 11 [(mD m, false)] = .ret (.non, false) none := by
  rw [callN_eq rfl]
  obtain ⟨ne, few, w1, w8, len, siz⟩ := id h
  cases m with
  | nil => exact (ne rfl).elim
  | cons r0 m =>
  obtain ⟨env', h1, x1, x2, x3, x4, h2⟩ := frl_inv Γ (callN Γ (n + 2)) (io := false) (tg := .many [1, 2]) (b := b_need_rows_2) (fun _ env => ∃ a b c d, env = [some (mD (r0 :: m), false), a, b, c, d])
    ((rgD 0 ((r0 :: m).map tD).length).zipWith (fun a b => D.tup [a, b]) ((r0 :: m).map tD)) 0 [some (mD (r0 :: m), false), none, none, none, none] ⟨_, _, _, _, rfl⟩ (by
      rintro j d env hd ⟨a, b, c, e, rfl⟩
      obtain ⟨y, hy, rfl⟩ := enm_get hd
      have hj : j < (r0 :: m).length := by
        have := (List.getElem?_eq_some_iff.mp hy).1
        simpa using this
      obtain ⟨r, hr, rfl⟩ : ∃ z, z ∈ r0 :: m ∧ tD z = y := by
        have := List.mem_of_getElem? hy
        rw [List.mem_map] at this
        exact this
      obtain ⟨x3', x4', h3⟩ := need_row_in n (m := r0 :: m) (j : Int) c e (siz r hr)
      have l0 := len r0 (by simp)
      have l1 := len r hr
      refine ⟨_, _, rfl, ?_, some (.int j, false), some (tD r, false), x3', x4', rfl⟩
      have j8 : ((j : Int) == 8) = false := by
        rw [beq_eq_false_iff_ne]
        omega
      have ww : ((w : Int) == (w : Int)) = true := by simp
      have l8 : (w : Int) ≤ 8 := by omega
      have l9 : (1 : Int) ≤ (w : Int) := by omega
      simp only [List.length_map, l1] at h3
      simp [b_need_rows_2, b_need_rows_3, b_need_rows_4, glb3, dpk_int, j8, l0, l1, l9, l8, ixn, h3])
  subst h2
  simp only [List.map_cons, List.length_cons, List.length_map] at h1
  push_cast at h1
  simp [body, b_need_rows, b_need_rows_1, LIM, Dpk, h1]
structure RightOk (b : List Int) (n : Nat) : Prop where
  len : b.length = n
  siz : ∀ x ∈ b, Siz x
theorem r_need_right (n : Nat) {m : List (List Int)} {b : List Int} (h : RightOk b m.length) : callN Γ (n + 3) 12 [(mD m, false), (tD b, false)] = .ret (.non, false) none := by
  rw [callN_eq rfl]
  obtain ⟨env', h1, x2, x3, h2⟩ := frl_inv Γ (callN Γ (n + 2)) (io := false) (tg := .many [2, 3]) (b := b_need_right_3) (fun _ env => ∃ c d, env = [some (mD m, false), some (tD b, false), c, d])
    ((rgD 0 (vD b).length).zipWith (fun a b => D.tup [a, b]) (vD b)) 0 [some (mD m, false), some (tD b, false), none, none] ⟨_, _, rfl⟩ (by
      rintro j d env hd ⟨c, e, rfl⟩
      obtain ⟨y, hy, rfl⟩ := enm_get hd
      have hj : j < b.length := by
        have := (List.getElem?_eq_some_iff.mp hy).1
        simpa using this
      obtain ⟨z, hz, rfl⟩ : ∃ z, z ∈ b ∧ D.int z = y := by
        have := List.mem_of_getElem? hy
        simpa using this
      have q := h.siz z hz
      have l := h.len
      refine ⟨_, _, rfl, ?_, some (.int j, false), some (.int z, false), rfl⟩
      have j8 : ((j : Int) == (m.length : Int)) = false := by
        rw [beq_eq_false_iff_ne]
        omega
      simp [b_need_right_3, glb4, dpk_int, j8, r_is_number, dfl_nil, q.1, q.2])
  subst h2
  simp only [List.length_map] at h1
  have l := h.len
  simp [body, b_need_right, b_need_right_1, b_need_right_2, h1, show ¬ (b.length : Int) < (m.length : Int) by omega]
end PL
/-! RDraw: what the law draws: rows, right sides. (Defs 17, 18, 19.) -/
namespace PL
open PySem
theorem pick (l : List Int) {v : Int} (h0 : 0 ≤ v) (h1 : v < l.length) : ∃ j, ixn (vD l).length v = some j ∧ ∃ x ∈ l, (vD l)[j]? = some (.int x) := by
  refine ⟨v.toNat, ?_, l[v.toNat]'(by omega), List.getElem_mem _, ?_⟩
  · simp only [ixn, List.length_map]
    rw [if_pos h0, if_pos h1]
  · simp
theorem ints_of {xs : List D} {P : Int → Prop} (h : ∀ x ∈ xs, ∃ v, x = .int v ∧ P v) : ∃ r : List Int, xs = vD r ∧ ∀ x ∈ r, P x := by
  induction xs with
  | nil => exact ⟨[], rfl, by simp⟩
  | cons x xs ih =>
    obtain ⟨r, e1, e3⟩ := ih fun y hy => h y (by simp [hy])
    obtain ⟨v, rfl, v1⟩ := h x (by simp)
    subst e1
    refine ⟨v :: r, rfl, ?_⟩
    intro y hy
    rcases List.mem_cons.mp hy with rfl | hy
    · exact v1
    · exact e3 y hy
/-- the slots of the drawing -/
abbrev dE (d : D) (many wide far : Int) (s4 s5 s6 s7 s8 s9 s10 : Sl) : Fm := [some (d, true), some (.int many, false), some (.int wide, false), some (.int far, false), s4, s5, s6, s7, s8, s9, s10]
theorem drawn_c1 (n : Nat) {ns : List Int} {d : D} (hd : RwD ns d) (many far : Int) (wide : Nat) (s4 s5 s6 s7 s8 s9 s10 : Sl) (hw : wide ≤ 8) (hf : 1 ≤ far) (hf2 : far ≤ 1000000001) :
    ∃ d' r s7', RwD ns d' ∧ r.length = wide ∧ (∀ x ∈ r, -(far - 1) ≤ x ∧ x ≤ far - 1) ∧ ev Γ (callN Γ (n + 1)) c__law_drawn_1 (dE d many wide far s4 s5 s6 s7 s8 s9 s10) = .ok (lD r, true) (dE d' many wide far s4 s5 s6 s7' s8 s9 s10) := by
  unfold c__law_drawn_1
  obtain ⟨xs, env', h1, h2, ⟨d', hd', h3⟩, h4⟩ := lcl_inv Γ (callN Γ (n + 1)) (tg := .one 7) (body := .bin .add (.bin .sub (.fnv 5 0 (.cons (.bin .sub (.bin .mul (.cst (.int 2)) (.var 3)) (.cst (.int 1))) .nil)) (.var 3)) (.cst (.int 1)))
    (fun env => ∃ d, RwD ns d ∧ env = dE d many wide far s4 s5 s6 none s8 s9 s10) (fun x => ∃ v, x = .int v ∧ (-(far - 1) ≤ v ∧ v ≤ far - 1))
    (rgD 0 wide) (dE d many wide far s4 s5 s6 none s8 s9 s10) [] (by rw [rgD_len]; simp; unfold LIM; omega) ⟨d, hd, rfl⟩ (by
      rintro x hx env ⟨d, hd, rfl⟩
      obtain ⟨v, d', hd', v0, v1, e⟩ := hd.take n (m := 2 * far - 1) (by omega) (by omega)
      refine ⟨dE d many wide far s4 s5 s6 (some (x, false)) s8 s9 s10, dE d' many wide far s4 s5 s6 (some (x, false)) s8 s9 s10, .int (v - far + 1), false, rfl, ?_, ⟨d', hd', rfl⟩, v - far + 1, rfl, by omega, by omega⟩
      have r := hd.rdv (dE d many wide far s4 s5 s6 (some (x, false)) s8 s9 s10) 0 true rfl
      have mo : MulOk 2 far := mulOk_l (by omega)
      simp [r, mo, dfl_nil, e, -rdv])
  obtain ⟨r, rfl, e3⟩ := ints_of h4
  subst h3
  refine ⟨d', r, fz1 (dE d many wide far s4 s5 s6 s7 s8 s9 s10) 7, hd', by rw [rgD_len, List.length_map] at h2; omega, e3, ?_⟩
  rw [lc1 Γ _ (e1 := dE d many wide far s4 s5 s6 s7 s8 s9 s10) (items := rgD 0 wide) (by simp; omega) h1]
  rfl
theorem drawn_c2 (n : Nat) {ns : List Int} {d : D} (hd : RwD ns d) (many wide far : Int) (r : List Int) (B : Int) (s4 s5 s7 s8 s9 s10 : Sl) (hw : r.length ≤ 8) (hb : ∀ x ∈ r, -B ≤ x ∧ x ≤ B) :
    ∃ d' r' s9', RwD ns d' ∧ r'.length = r.length ∧ (∀ x ∈ r', -B ≤ x ∧ x ≤ B) ∧ ev Γ (callN Γ (n + 1)) c__law_drawn_2 (dE d many wide far s4 s5 (some (lD r, true)) s7 s8 s9 s10) = .ok (lD r', true) (dE d' many wide far s4 s5 (some (lD r, false)) s7 s8 s9' s10) := by
  unfold c__law_drawn_2
  obtain ⟨xs, env', h1, h2, ⟨d', hd', h3⟩, h4⟩ := lcl_inv Γ (callN Γ (n + 1)) (tg := .one 9) (body := .bin .mul (.var 9) (.bi .int1 (.cons (.cmp .eq (.fnv 5 0 (.cons (.cst (.int 2)) .nil)) (.cst (.int 0))) .nil)))
    (fun env => ∃ d, RwD ns d ∧ env = dE d many wide far s4 s5 (some (lD r, false)) s7 s8 none s10) (fun x => ∃ v, x = .int v ∧ (-B ≤ v ∧ v ≤ B))
    (vD r) (dE d many wide far s4 s5 (some (lD r, false)) s7 s8 none s10) [] (by simp; unfold LIM; omega) ⟨d, hd, rfl⟩ (by
      rintro x hx env ⟨d, hd, rfl⟩
      obtain ⟨z, hz, rfl⟩ : ∃ z, z ∈ r ∧ D.int z = x := by simpa using hx
      have hB := hb z hz
      obtain ⟨v, d', hd', v0, v1, e⟩ := hd.take n (m := 2) (by omega) (by omega)
      refine ⟨dE d many wide far s4 s5 (some (lD r, false)) s7 s8 (some (.int z, false)) s10, dE d' many wide far s4 s5 (some (lD r, false)) s7 s8 (some (.int z, false)) s10, .int (z * (if v = 0 then 1 else 0)), false, rfl, ?_, ⟨d', hd', rfl⟩, _, rfl, ?_⟩
      · have rr := hd.rdv (dE d many wide far s4 s5 (some (lD r, false)) s7 s8 (some (.int z, false)) s10) 0 true rfl
        by_cases q : v = 0
        · subst q
          have mo : MulOk z 1 := mulOk_r (by omega)
          simp [rr, mo, dfl_nil, e, -rdv, dpk_int]
        · have mo : MulOk z 0 := mulOk_r (by omega)
          have q' : (v == 0) = false := by simpa using q
          simp [rr, mo, dfl_nil, e, -rdv, dpk_int, q, q']
      · by_cases q : v = 0
        · rw [if_pos q]
          omega
        · rw [if_neg q]
          omega)
  obtain ⟨r', rfl, e3⟩ := ints_of h4
  subst h3
  refine ⟨d', r', fz1 (dE d many wide far s4 s5 (some (lD r, false)) s7 s8 s9 s10) 9, hd', by simpa using h2, e3, ?_⟩
  rw [lc1 Γ _ (e1 := dE d many wide far s4 s5 (some (lD r, false)) s7 s8 s9 s10) (items := vD r) (by simp) h1]
  rfl
theorem getV {r : List Int} {p : Nat} (h : p < r.length) : ixn (vD r).length (p : Int) = some p ∧ (vD r)[p]? = some (.int r[p]) := by
  constructor
  · simp only [ixn, List.length_map]
    rw [if_pos (by omega), if_pos (by omega)]
    simp
  · simp [h]
theorem drawn_c3 (n : Nat) {ns : List Int} {d : D} (hd : RwD ns d) (many far : Int) (wide : Nat) (r1 r2 : List Int) (B w : Int) (s4 s5 s6 s7 : Sl) (hw : wide ≤ 8) (h1 : r1.length = wide) (h2 : r2.length = wide) (b1 : ∀ x ∈ r1, -B ≤ x ∧ x ≤ B) (b2 : ∀ x ∈ r2, -B ≤ x ∧ x ≤ B) (hwy : w = 1 ∨ w = 2) (hB0 : 0 ≤ B) (hB : B ≤ 1000000000) :
    ∃ d' r' s7', RwD ns d' ∧ r'.length = wide ∧ (∀ x ∈ r', -(4 * B) ≤ x ∧ x ≤ 4 * B) ∧ ev Γ (callN Γ (n + 1)) c__law_drawn_3 (dE d many wide far s4 s5 s6 s7 (some (.int w, false)) (some (tD r1, false)) (some (tD r2, false))) = .ok (lD r', true) (dE d' many wide far s4 s5 s6 s7' (some (.int w, false)) (some (tD r1, false)) (some (tD r2, false))) := by
  unfold c__law_drawn_3
  obtain ⟨xs, env', g1, g2, ⟨d', hd', g3⟩, g4⟩ := lcl_inv Γ (callN Γ (n + 1)) (tg := .one 7) (body := .bin .add (.bin .mul (.idxv 9 (.var 7)) (.bin .sub (.var 8) (.cst (.int 3)))) (.bin .mul (.idxv 10 (.var 7)) (.fnv 5 0 (.cons (.cst (.int 3)) .nil))))
    (fun env => ∃ d, RwD ns d ∧ env = dE d many wide far s4 s5 s6 none (some (.int w, false)) (some (tD r1, false)) (some (tD r2, false))) (fun x => ∃ v, x = .int v ∧ (-(4 * B) ≤ v ∧ v ≤ 4 * B))
    (rgD 0 wide) (dE d many wide far s4 s5 s6 none (some (.int w, false)) (some (tD r1, false)) (some (tD r2, false))) [] (by rw [rgD_len]; simp; unfold LIM; omega) ⟨d, hd, rfl⟩ (by
      rintro x hx env ⟨d, hd, rfl⟩
      obtain ⟨p, hp⟩ := List.mem_iff_getElem?.mp hx
      obtain ⟨rfl, hp2⟩ := rgD_get hp
      rw [Int.zero_add]
      have p1 : p < r1.length := by omega
      have p2 : p < r2.length := by omega
      obtain ⟨v, d', hd', v0, v1, e⟩ := hd.take n (m := 3) (by omega) (by omega)
      have q1 := b1 _ (List.getElem_mem p1)
      have q2 := b2 _ (List.getElem_mem p2)
      generalize hx1 : r1[p] = x1 at q1
      generalize hx2 : r2[p] = x2 at q2
      refine ⟨dE d many wide far s4 s5 s6 (some (.int p, false)) (some (.int w, false)) (some (tD r1, false)) (some (tD r2, false)), dE d' many wide far s4 s5 s6 (some (.int p, false)) (some (.int w, false)) (some (tD r1, false)) (some (tD r2, false)), .int (x1 * (w - 3) + x2 * v), false, rfl, ?_, ⟨d', hd', rfl⟩, _, rfl, ?_⟩
      · have m1 : MulOk x1 (w - 3) := mulOk_r (by omega)
        have m2 : MulOk x2 v := mulOk_r (by omega)
        obtain ⟨i1, i2⟩ := getV p1
        obtain ⟨i3, i4⟩ := getV p2
        rw [List.length_map] at i1 i3
        rw [hx1] at i2
        rw [hx2] at i4
        simp only [List.getElem?_map] at i2 i4
        obtain ⟨i0, x0, y0, _, rfl⟩ := hd
        simp [m1, m2, dfl_nil, e, i1, i2, i3, i4]
      · have hv : v = 0 ∨ v = 1 ∨ v = 2 := by omega
        rcases hwy with rfl | rfl <;> rcases hv with rfl | rfl | rfl <;> omega)
  obtain ⟨r', rfl, e3⟩ := ints_of g4
  subst g3
  refine ⟨d', r', fz1 (dE d many wide far s4 s5 s6 s7 (some (.int w, false)) (some (tD r1, false)) (some (tD r2, false))) 7, hd', by rw [rgD_len, List.length_map] at g2; omega, e3, ?_⟩
  rw [lc1 Γ _ (e1 := dE d many wide far s4 s5 s6 s7 (some (.int w, false)) (some (tD r1, false)) (some (tD r2, false))) (items := rgD 0 wide) (by simp; omega) g1]
  rfl
/-- how great the numbers may be behind k rows -/
def Bd (far : Int) (k : Nat) : Int := if far < 1000000 then 1000 * 4 ^ k else 1000000000
theorem pow4 : ∀ k : Nat, k ≤ 7 → (4 : Int) ^ k ≤ 16384 ∧ 1 ≤ (4 : Int) ^ k := by
  intro k hk
  have : k = 0 ∨ k = 1 ∨ k = 2 ∨ k = 3 ∨ k = 4 ∨ k = 5 ∨ k = 6 ∨ k = 7 := by omega
  rcases this with h | h | h | h | h | h | h | h <;> subst h <;> decide
theorem Bd_step {far : Int} {k : Nat} : Bd far k ≤ Bd far (k + 1) ∧ 0 ≤ Bd far k := by
  unfold Bd
  split
  · have : (0 : Int) ≤ 4 ^ k := Int.le_of_lt (Int.pow_pos (by omega))
    rw [Int.pow_succ]
    omega
  · omega
theorem Bd_le {far : Int} {k : Nat} (h : k ≤ 8) : Bd far k ≤ 1000000000 := by
  unfold Bd
  split
  · have : k = 0 ∨ k = 1 ∨ k = 2 ∨ k = 3 ∨ k = 4 ∨ k = 5 ∨ k = 6 ∨ k = 7 ∨ k = 8 := by omega
    rcases this with h | h | h | h | h | h | h | h | h <;> subst h <;> decide
  · omega
structure RowsB (rows : List (List Int)) (wide : Nat) (B : Int) : Prop where
  len : ∀ r ∈ rows, r.length = wide
  siz : ∀ r ∈ rows, ∀ x ∈ r, -B ≤ x ∧ x ≤ B
theorem dpk_rows (n : Nat) (rows : List (List Int)) : Dpk (n + 2) (.lst (rows.map tD)) := by
  simp [Dpk, dpk_int]
theorem drawn_4 (n : Nat) {d : D} (many wide far : Int) (rows : List (List Int)) (r : List Int) (s5 s7 s8 s9 s10 : Sl) (hr : rows.length ≤ 8) :
    exs Γ (callN Γ n) true b__law_drawn_4 (dE d many wide far (some (.lst (rows.map tD), true)) s5 (some (lD r, true)) s7 s8 s9 s10) = .nx (dE d many wide far (some (.lst ((rows ++ [r]).map tD), true)) s5 (some (lD r, false)) s7 s8 s9 s10) := by
  simp [b__law_drawn_4, LIM, show rows.length < 1000000 by omega]
theorem drawn_3 (n : Nat) {ns : List Int} {d : D} (hd : RwD ns d) (many far : Int) (wide k : Nat) (rows : List (List Int)) (r : List Int) (w : Int) (s7 s9 s10 : Sl) (hw : wide ≤ 8) (hk : k ≤ 7) (hl : rows.length = k) (hr : RowsB rows wide (Bd far k)) (h1 : r.length = wide) (h2 : ∀ x ∈ r, -Bd far (k + 1) ≤ x ∧ x ≤ Bd far (k + 1)) :
    ∃ d' r' s6' s7' s9' s10', RwD ns d' ∧ r'.length = wide ∧ (∀ x ∈ r', -Bd far (k + 1) ≤ x ∧ x ≤ Bd far (k + 1)) ∧
      exs Γ (callN Γ (n + 1)) true b__law_drawn_3 (dE d many wide far (some (.lst (rows.map tD), true)) (some (.int k, false)) (some (lD r, true)) s7 (some (.int w, false)) s9 s10) =
        .nx (dE d' many wide far (some (.lst ((rows ++ [r']).map tD), true)) (some (.int k, false)) s6' s7' (some (.int w, false)) s9' s10') := by
  by_cases hc : (w = 1 ∨ w = 2) ∧ rows ≠ [] ∧ far < 1000000
  · obtain ⟨hwy, hne, hf⟩ := hc
    have hk0 : 0 < k := by
      cases rows with
      | nil => exact (hne rfl).elim
      | cons _ _ => simp at hl; omega
    obtain ⟨v1, d1, hd1, a0, a1, e1⟩ := hd.take n (m := k) (by omega) (by omega)
    obtain ⟨v2, d2, hd2, b0, b1, e2⟩ := hd1.take n (m := k) (by omega) (by omega)
    have i1 : v1.toNat < rows.length := by omega
    have i2 : v2.toNat < rows.length := by omega
    have m1 := List.getElem_mem i1
    have m2 := List.getElem_mem i2
    have B := Bd_step (far := far) (k := k)
    have B4 : 4 * Bd far k = Bd far (k + 1) := by
      unfold Bd
      rw [if_pos hf, if_pos hf, Int.pow_succ]
      omega
    have B9 : Bd far k ≤ 1000000000 := by
      unfold Bd
      rw [if_pos hf]
      have := pow4 k hk
      omega
    obtain ⟨d3, r', s7', hd3, l3, s3, e3⟩ := drawn_c3 n hd2 many far wide rows[v1.toNat] rows[v2.toNat] (Bd far k) w (some (.lst (rows.map tD), true)) (some (.int k, false)) (some (lD r, true)) s7 hw (hr.len _ m1) (hr.len _ m2) (hr.siz _ m1) (hr.siz _ m2) hwy B.2 B9
    rw [B4] at s3
    have e4 := drawn_4 (n + 1) (d := d3) many wide far rows r' (some (.int k, false)) s7' (some (.int w, false)) (some (tD rows[v1.toNat], false)) (some (tD rows[v2.toNat], false)) (by omega)
    refine ⟨d3, r', some (lD r', false), s7', some (tD rows[v1.toNat], false), some (tD rows[v2.toNat], false), hd3, l3, s3, ?_⟩
    have dp := dpk_rows 14 rows
    have ne : eqbs (rows.map tD) [] = false := by
      cases rows with
      | nil => exact (hne rfl).elim
      | cons _ _ => simp
    have g1 : ixn rows.length v1 = some v1.toNat := by
      simp only [ixn]
      rw [if_pos a0, if_pos (by omega)]
    have g2 : ixn rows.length v2 = some v2.toNat := by
      simp only [ixn]
      rw [if_pos b0, if_pos (by omega)]
    have t1 : rows[v1.toNat]? = some rows[v1.toNat] := List.getElem?_eq_getElem i1
    have t2 : rows[v2.toNat]? = some rows[v2.toNat] := List.getElem?_eq_getElem i2
    have cw : ((1 == w) || (2 == w)) = true := by
      rcases hwy with h | h <;> subst h <;> rfl
    generalize rows[v1.toNat] = q1 at e3 e4 t1
    generalize rows[v2.toNat] = q2 at e3 e4 t2
    obtain ⟨z1, z2, z3, _, rfl⟩ := hd
    obtain ⟨z4, z5, z6, _, rfl⟩ := hd1
    simp [b__law_drawn_3, LIM, cw, ne, dpk_int, Dpk, hf, e1, e2, e3, e4, dfl_nil, g1, g2, t1, t2]
  · have e4 := drawn_4 (n + 1) (d := d) many wide far rows r (some (.int k, false)) s7 (some (.int w, false)) s9 s10 (by omega)
    refine ⟨d, r, some (lD r, false), s7, s9, s10, hd, h1, h2, ?_⟩
    obtain ⟨z1, z2, z3, _, rfl⟩ := hd
    by_cases cw : w = 1 ∨ w = 2
    · have cw' : ((1 == w) || (2 == w)) = true := by
        rcases cw with h | h <;> subst h <;> rfl
      have dp := dpk_rows 14 rows
      cases rows with
      | nil => simp [b__law_drawn_3, LIM, cw', dpk_int, Dpk, e4] at e4 ⊢; exact e4
      | cons q rows =>
        have hf : ¬ far < 1000000 := fun h => hc ⟨cw, by simp, h⟩
        simp [b__law_drawn_3, LIM, cw', dpk_int, Dpk, hf] at e4 ⊢
        exact e4
    · have cw' : ((1 == w) || (2 == w)) = false := by
        simp only [not_or] at cw
        simp [Ne.symm cw.1, Ne.symm cw.2]
      simp [b__law_drawn_3, LIM, cw'] at e4 ⊢
      exact e4
/-- how far the drawn numbers go -/
def FarOk (far : Int) : Prop := 1 ≤ far ∧ (far ≤ 1000 ∨ far = 1000000001)
theorem far_Bd {far : Int} (h : FarOk far) (k : Nat) : far - 1 ≤ Bd far k := by
  unfold Bd
  have : (0 : Int) < 4 ^ k := Int.pow_pos (by omega)
  obtain ⟨h1, h2⟩ := h
  split <;> omega
theorem drawn_2 (n : Nat) {ns : List Int} {d : D} (hd : RwD ns d) (many far : Int) (wide k : Nat) (rows : List (List Int)) (s6 s7 s8 s9 s10 : Sl) (hf : FarOk far) (hw : wide ≤ 8) (hk : k ≤ 7) (hl : rows.length = k) (hr : RowsB rows wide (Bd far k)) :
    ∃ d' r' s6' s7' s8' s9' s10', RwD ns d' ∧ r'.length = wide ∧ (∀ x ∈ r', -Bd far (k + 1) ≤ x ∧ x ≤ Bd far (k + 1)) ∧
      exs Γ (callN Γ (n + 1)) true b__law_drawn_2 (dE d many wide far (some (.lst (rows.map tD), true)) (some (.int k, false)) s6 s7 s8 s9 s10) =
        .nx (dE d' many wide far (some (.lst ((rows ++ [r']).map tD), true)) (some (.int k, false)) s6' s7' s8' s9' s10') := by
  obtain ⟨d1, r, s7', hd1, l1, b1, e1⟩ := drawn_c1 n hd many far wide (some (.lst (rows.map tD), true)) (some (.int k, false)) s6 s7 s8 s9 s10 hw hf.1 (by have := hf.2; omega)
  obtain ⟨w, d2, hd2, w0, w1, e2⟩ := hd1.take n (m := 8) (by omega) (by omega)
  have fb := far_Bd hf (k + 1)
  have b1' : ∀ x ∈ r, -Bd far (k + 1) ≤ x ∧ x ≤ Bd far (k + 1) := fun x hx => by
    have := b1 x hx
    omega
  by_cases hw0 : w = 0
  · obtain ⟨d3, r', s9', hd3, l3, b3, e3⟩ := drawn_c2 n hd2 many wide far r (Bd far (k + 1)) (some (.lst (rows.map tD), true)) (some (.int k, false)) s7' (some (.int w, false)) s9 s10 (by omega) b1'
    obtain ⟨d4, r4, s64, s74, s94, s104, hd4, l4, b4, e4⟩ := drawn_3 n hd3 many far wide k rows r' w s7' s9' s10 hw hk hl hr (by omega) b3
    refine ⟨d4, r4, s64, s74, some (.int w, false), s94, s104, hd4, l4, b4, ?_⟩
    rw [← e4]
    subst hw0
    obtain ⟨z1, z2, z3, _, rfl⟩ := hd1
    simp [b__law_drawn_2, e1, e2, e3, dfl_nil, dpk_int]
  · obtain ⟨d4, r4, s64, s74, s94, s104, hd4, l4, b4, e4⟩ := drawn_3 n hd2 many far wide k rows r w s7' s9 s10 hw hk hl hr l1 b1'
    refine ⟨d4, r4, s64, s74, some (.int w, false), s94, s104, hd4, l4, b4, ?_⟩
    rw [← e4]
    have hq : (w == 0) = false := by simpa using hw0
    obtain ⟨z1, z2, z3, _, rfl⟩ := hd1
    simp [b__law_drawn_2, e1, e2, dfl_nil, dpk_int, hq]
theorem RowsB.snoc {rows : List (List Int)} {wide : Nat} {B C : Int} {r : List Int} (h : RowsB rows wide B) (hB : B ≤ C) (h1 : r.length = wide) (h2 : ∀ x ∈ r, -C ≤ x ∧ x ≤ C) : RowsB (rows ++ [r]) wide C where
  len := fun q hq => by
    rcases List.mem_append.mp hq with z | z
    · exact h.len q z
    · simp at z
      subst z
      exact h1
  siz := fun q hq x hx => by
    rcases List.mem_append.mp hq with z | z
    · have := h.siz q z x hx
      omega
    · simp at z
      subst z
      exact h2 x hx
theorem r_drawn (n : Nat) {ns : List Int} {d : D} (hd : RwD ns d) (many wide : Nat) (hm1 : 1 ≤ many) (hm : many ≤ 8) (hw1 : 1 ≤ wide) (hw : wide ≤ 8) :
    ∃ m d', RwD ns d' ∧ RowsOk m wide ∧ m.length = many ∧ callN Γ (n + 2) 18 [(d, true), (.int many, false), (.int wide, false)] = .ret (mD m, false) (some d') := by
  rw [callN_eq rfl]
  obtain ⟨v, d1, hd1, v0, v1, e1⟩ := hd.take n (m := 4) (by omega) (by omega)
  obtain ⟨j, far, hj, hfar, hf⟩ : ∃ j far, ixn 4 v = some j ∧ [D.int 3, D.int 10, D.int 1000, D.int 1000000001][j]? = some (.int far) ∧ FarOk far := by
    refine ⟨v.toNat, ?_⟩
    have : v = 0 ∨ v = 1 ∨ v = 2 ∨ v = 3 := by omega
    rcases this with z | z | z | z <;> subst z <;> simp [ixn, FarOk]
  obtain ⟨env', h1, d', s5, s6, s7, s8, s9, s10, rows, hd', h2, hl, hr⟩ := frl_inv Γ (callN Γ (n + 1)) (io := true) (tg := .one 5) (b := b__law_drawn_2)
    (fun k env => ∃ d s5 s6 s7 s8 s9 s10 rows, RwD ns d ∧ env = dE d many wide far (some (.lst (rows.map tD), true)) s5 s6 s7 s8 s9 s10 ∧ rows.length = k ∧ RowsB rows wide (Bd far k))
    (rgD 0 many) 0 (dE d1 many wide far (some (.lst [], true)) none none none none none none) ⟨d1, none, none, none, none, none, none, [], hd1, rfl, rfl, ⟨by simp, by simp⟩⟩ (by
      rintro i x env hx ⟨d, s5, s6, s7, s8, s9, s10, rows, hd, rfl, hl, hr⟩
      obtain ⟨rfl, hi⟩ := rgD_get hx
      rw [Int.zero_add]
      rw [Nat.zero_add] at hl hr ⊢
      obtain ⟨d', r', s6', s7', s8', s9', s10', hd', l1, b1, e⟩ := drawn_2 n hd many far wide i rows s6 s7 s8 s9 s10 hf hw (by omega) hl hr
      exact ⟨dE d many wide far (some (.lst (rows.map tD), true)) (some (.int i, false)) s6 s7 s8 s9 s10, _, rfl, e, d', _, s6', s7', s8', s9', s10', rows ++ [r'], hd', rfl, by simp [hl], hr.snoc Bd_step.1 l1 b1⟩)
  rw [Nat.zero_add, rgD_len] at hl hr
  have hlen : rows.length = many := by omega
  refine ⟨rows, d', hd', ⟨?_, by omega, hw1, hw, hr.len, fun r hrm x hx => ?_⟩, hlen, ?_⟩
  · intro z
    subst z
    simp at hlen
    omega
  · have := hr.siz r hrm x hx
    have := Bd_le (far := far) (k := ((many : Int) - 0).toNat) (by omega)
    unfold Siz
    omega
  · subst h2
    obtain ⟨z1, z2, z3, _, rfl⟩ := hd
    obtain ⟨z4, z5, z6, _, rfl⟩ := hd'
    simp [body, b__law_drawn, b__law_drawn_1, LIM, e1, dfl_nil, hj, hfar, h1, show (many : Int) ≤ 100000000 by omega, show -100000000 ≤ (many : Int) by omega]
end PL
/-! RRight: right sides. (Def 19.) -/
namespace PL
open PySem
theorem intsOf_vD (r : List Int) : intsOf (vD r) = some r := by
  induction r with
  | nil => rfl
  | cons x r ih =>
    show (intsOf (vD r)).map (x :: ·) = some (x :: r)
    rw [ih]
    rfl
theorem maxL_ge : ∀ {l : List Int} {x : Int}, x ∈ l → x ≤ maxL l
  | [a], x, h => by
    simp at h
    subst h
    exact Int.le_refl _
  | a :: b :: l, x, h => by
    show x ≤ max a (maxL (b :: l))
    rcases List.mem_cons.mp h with rfl | h
    · omega
    · have := maxL_ge h
      omega
abbrev rE (d : D) (m : List (List Int)) (s2 s3 s4 s5 s6 : Sl) : Fm := [some (d, true), some (mD m, false), s2, s3, s4, s5, s6]
theorem right_c1 (n : Nat) {ns : List Int} {d : D} (hd : RwD ns d) (m : List (List Int)) (hm : m.length ≤ 8) (s2 s3 s4 s5 s6 : Sl) :
    ∃ d' b s2', RwD ns d' ∧ RightOk b m.length ∧ ev Γ (callN Γ (n + 1)) c__law_right_1 (rE d m s2 s3 s4 s5 s6) = .ok (lD b, true) (rE d' m s2' s3 s4 s5 s6) := by
  unfold c__law_right_1
  obtain ⟨xs, env', h1, h2, ⟨d', hd', h3⟩, h4⟩ := lcl_inv Γ (callN Γ (n + 1)) (tg := .one 2) (body := .bin .sub (.fnv 5 0 (.cons (.cst (.int 2001)) .nil)) (.cst (.int 1000)))
    (fun env => ∃ d, RwD ns d ∧ env = rE d m none s3 s4 s5 s6) (fun x => ∃ v, x = .int v ∧ Siz v) (m.map tD) (rE d m none s3 s4 s5 s6) [] (by simp; unfold LIM; omega) ⟨d, hd, rfl⟩ (by
      rintro x hx env ⟨d, hd, rfl⟩
      obtain ⟨v, d', hd', v0, v1, e⟩ := hd.take n (m := 2001) (by omega) (by omega)
      refine ⟨rE d m (some (x, false)) s3 s4 s5 s6, rE d' m (some (x, false)) s3 s4 s5 s6, .int (v - 1000), false, rfl, ?_, ⟨d', hd', rfl⟩, _, rfl, by unfold Siz; omega⟩
      obtain ⟨z1, z2, z3, _, rfl⟩ := hd
      simp [dfl_nil, e])
  obtain ⟨r, rfl, e3⟩ := ints_of h4
  subst h3
  refine ⟨d', r, fz1 (rE d m s2 s3 s4 s5 s6) 2, hd', ⟨by simpa using h2, e3⟩, ?_⟩
  rw [lc1 Γ _ (e1 := rE d m s2 s3 s4 s5 s6) (items := m.map tD) (by simp) h1]
  rfl
theorem right_c2 (n : Nat) {ns : List Int} {d : D} (hd : RwD ns d) (r0 : List Int) (m : List (List Int)) (hw : r0.length ≤ 8) (s2 s3 s4 s5 s6 : Sl) :
    ∃ d' b s4', RwD ns d' ∧ b.length = r0.length ∧ (∀ x ∈ b, -4 ≤ x ∧ x ≤ 4) ∧ ev Γ (callN Γ (n + 1)) c__law_right_2 (rE d (r0 :: m) s2 s3 s4 s5 s6) = .ok (lD b, true) (rE d' (r0 :: m) s2 s3 s4' s5 s6) := by
  unfold c__law_right_2
  obtain ⟨xs, env', h1, h2, ⟨d', hd', h3⟩, h4⟩ := lcl_inv Γ (callN Γ (n + 1)) (tg := .one 4) (body := .bin .sub (.fnv 5 0 (.cons (.cst (.int 9)) .nil)) (.cst (.int 4)))
    (fun env => ∃ d, RwD ns d ∧ env = rE d (r0 :: m) s2 s3 none s5 s6) (fun x => ∃ v, x = .int v ∧ (-4 ≤ v ∧ v ≤ 4)) (vD r0) (rE d (r0 :: m) s2 s3 none s5 s6) [] (by simp; unfold LIM; omega) ⟨d, hd, rfl⟩ (by
      rintro x hx env ⟨d, hd, rfl⟩
      obtain ⟨v, d', hd', v0, v1, e⟩ := hd.take n (m := 9) (by omega) (by omega)
      refine ⟨rE d (r0 :: m) s2 s3 (some (x, false)) s5 s6, rE d' (r0 :: m) s2 s3 (some (x, false)) s5 s6, .int (v - 4), false, rfl, ?_, ⟨d', hd', rfl⟩, _, rfl, by omega⟩
      obtain ⟨z1, z2, z3, _, rfl⟩ := hd
      simp [dfl_nil, e])
  obtain ⟨r, rfl, e3⟩ := ints_of h4
  subst h3
  refine ⟨d', r, fz1 (rE d (r0 :: m) s2 s3 s4 s5 s6) 4, hd', by simpa using h2, e3, ?_⟩
  rw [lc1 Γ _ (e1 := rE d (r0 :: m) s2 s3 s4 s5 s6) (items := vD r0) (by simp [ixn]) h1]
  rfl
theorem right_c4 (n : Nat) {d : D} (m : List (List Int)) (r b : List Int) (hw : b.length ≤ 8) (hl : r.length = b.length) (hb : ∀ x ∈ b, -4 ≤ x ∧ x ≤ 4) (o : Bool) (s4 s5 s6 : Sl) :
    ∃ c s6', ev Γ (callN Γ n) c__law_right_4 (rE d m (some (tD r, false)) (some (lD b, o)) s4 s5 s6) = .ok (lD c, true) (rE d m (some (tD r, false)) (some (lD b, false)) s4 s5 s6') := by
  unfold c__law_right_4
  obtain ⟨xs, env', h1, h2, h3, h4⟩ := lcl_inv Γ (callN Γ n) (tg := .one 6) (body := .bin .mul (.idxv 2 (.var 6)) (.idxv 3 (.var 6)))
    (fun env => env = rE d m (some (tD r, false)) (some (lD b, false)) s4 s5 none) (fun x => ∃ v, x = .int v ∧ True) (rgD 0 b.length) (rE d m (some (tD r, false)) (some (lD b, false)) s4 s5 none) [] (by rw [rgD_len]; simp; unfold LIM; omega) rfl (by
      rintro x hx env rfl
      obtain ⟨p, hp⟩ := List.mem_iff_getElem?.mp hx
      obtain ⟨rfl, hp2⟩ := rgD_get hp
      rw [Int.zero_add]
      have p1 : p < r.length := by omega
      have p2 : p < b.length := by omega
      have q2 := hb _ (List.getElem_mem p2)
      obtain ⟨i1, i2⟩ := getV p1
      obtain ⟨i3, i4⟩ := getV p2
      generalize r[p] = x1 at i2
      generalize b[p] = x2 at i4 q2
      have m1 : MulOk x1 x2 := mulOk_r (by omega)
      refine ⟨rE d m (some (tD r, false)) (some (lD b, false)) s4 s5 (some (.int p, false)), rE d m (some (tD r, false)) (some (lD b, false)) s4 s5 (some (.int p, false)), .int (x1 * x2), false, rfl, ?_, rfl, _, rfl, trivial⟩
      rw [List.length_map] at i1 i3
      simp only [List.getElem?_map] at i2 i4
      simp [m1, i1, i2, i3, i4])
  obtain ⟨c, rfl, _⟩ := ints_of h4
  subst h3
  refine ⟨c, fz1 (rE d m (some (tD r, false)) (some (lD b, false)) s4 s5 s6) 6, ?_⟩
  rw [lc1 Γ _ (e1 := rE d m (some (tD r, false)) (some (lD b, false)) s4 s5 s6) (items := rgD 0 b.length) (by cases o <;> simp <;> omega) h1]
  rfl
theorem right_c3 (n : Nat) {d : D} (m : List (List Int)) (b : List Int) (hm : m.length ≤ 8) (hw : b.length ≤ 8) (hl : ∀ r ∈ m, r.length = b.length) (hb : ∀ x ∈ b, -4 ≤ x ∧ x ≤ 4) (s2 s4 s5 s6 : Sl) :
    ∃ c s2' o s6', c.length = m.length ∧ ev Γ (callN Γ n) c__law_right_3 (rE d m s2 (some (lD b, true)) s4 s5 s6) = .ok (lD c, true) (rE d m s2' (some (lD b, o)) s4 s5 s6') := by
  unfold c__law_right_3
  obtain ⟨xs, env', h1, h2, ⟨o, s6', h3⟩, h4⟩ := lcl_inv Γ (callN Γ n) (tg := .one 2) (body := .bi .sum (.cons (c__law_right_4) .nil))
    (fun env => ∃ o s6, env = rE d m none (some (lD b, o)) s4 s5 s6) (fun x => ∃ v, x = .int v ∧ True) (m.map tD) (rE d m none (some (lD b, true)) s4 s5 s6) [] (by simp; unfold LIM; omega) ⟨_, _, rfl⟩ (by
      rintro x hx env ⟨o, s6, rfl⟩
      obtain ⟨r, hr, rfl⟩ := List.mem_map.mp hx
      obtain ⟨c, s6', e⟩ := right_c4 n (d := d) m r b hw (hl r hr) hb o s4 s5 s6
      refine ⟨rE d m (some (tD r, false)) (some (lD b, o)) s4 s5 s6, rE d m (some (tD r, false)) (some (lD b, false)) s4 s5 s6', .int c.sum, false, rfl, ?_, ⟨false, s6', rfl⟩, _, rfl, trivial⟩
      simp [e, intsOf_vD])
  obtain ⟨c, rfl, _⟩ := ints_of h4
  subst h3
  refine ⟨c, fz1 (rE d m s2 (some (lD b, true)) s4 s5 s6) 2, o, s6', by simpa using h2, ?_⟩
  rw [lc1 Γ _ (e1 := rE d m s2 (some (lD b, true)) s4 s5 s6) (items := m.map tD) (by simp) h1]
  rfl
theorem right_c5 (n : Nat) {d : D} (m : List (List Int)) (c : List Int) (hc : c.length ≤ 8) (s2 s3 s4 s6 : Sl) :
    ∃ s4', ev Γ (callN Γ n) c__law_right_5 (rE d m s2 s3 s4 (some (tD c, false)) s6) = .ok (lD (c.map fun x => (x.natAbs : Int)), true) (rE d m s2 s3 s4' (some (tD c, false)) s6) := by
  unfold c__law_right_5
  have h := lcl_map Γ (callN Γ n) (tg := .one 4) (body := .bi .abs (.cons (.var 4) .nil)) (fun x => match x with | .int i => .int (i.natAbs : Int) | _ => .non) (vD c) (rE d m s2 s3 none (some (tD c, false)) s6) [] (by simp; unfold LIM; omega) (by
    intro x hx
    obtain ⟨z, hz, rfl⟩ : ∃ z, z ∈ c ∧ D.int z = x := by simpa using hx
    exact ⟨_, rE d m s2 s3 (some (.int z, false)) (some (tD c, false)) s6, false, rfl, by simp [abs_if], rfl⟩)
  refine ⟨fz1 (rE d m s2 s3 s4 (some (tD c, false)) s6) 4, ?_⟩
  rw [lc1 Γ _ (e1 := rE d m s2 s3 s4 (some (tD c, false)) s6) (items := vD c) (by simp) h]
  simp
theorem right_c6 (n : Nat) {d : D} (m : List (List Int)) {w : Nat} (h : RowsOk m w) (s2 s3 s4 s5 s6 : Sl) :
    ∃ c s2', RightOk c m.length ∧ ev Γ (callN Γ n) c__law_right_6 (rE d m s2 s3 s4 s5 s6) = .ok (lD c, true) (rE d m s2' s3 s4 s5 s6) := by
  unfold c__law_right_6
  have hf := h.few
  obtain ⟨xs, env', h1, h2, h3, h4⟩ := lcl_inv Γ (callN Γ n) (tg := .one 2) (body := .idxv 2 (.cst (.int 0)))
    (fun env => env = rE d m none s3 s4 s5 s6) (fun x => ∃ v, x = .int v ∧ Siz v) (m.map tD) (rE d m none s3 s4 s5 s6) [] (by simp; unfold LIM; omega) rfl (by
      rintro x hx env rfl
      obtain ⟨r, hr, rfl⟩ := List.mem_map.mp hx
      have hl := h.len r hr
      have h1 := h.w1
      have hs := h.siz r hr
      cases r with
      | nil => simp at hl; omega
      | cons y r =>
        exact ⟨rE d m (some (tD (y :: r), false)) s3 s4 s5 s6, rE d m (some (tD (y :: r), false)) s3 s4 s5 s6, .int y, false, rfl, by simp [ixn], rfl, _, rfl, hs y (by simp)⟩)
  obtain ⟨c, rfl, e3⟩ := ints_of h4
  subst h3
  refine ⟨c, fz1 (rE d m s2 s3 s4 s5 s6) 2, ⟨by simpa using h2, e3⟩, ?_⟩
  rw [lc1 Γ _ (e1 := rE d m s2 s3 s4 s5 s6) (items := m.map tD) (by simp) h1]
  rfl
theorem r_right (n : Nat) {ns : List Int} {d : D} (hd : RwD ns d) (m : List (List Int)) {w : Nat} (h : RowsOk m w) :
    ∃ b d', RwD ns d' ∧ RightOk b m.length ∧ callN Γ (n + 2) 19 [(d, true), (mD m, false)] = .ret (tD b, false) (some d') := by
  rw [callN_eq rfl]
  obtain ⟨v, d1, hd1, v0, v1, e1⟩ := hd.take n (m := 3) (by omega) (by omega)
  by_cases hv : v = 0
  · subst hv
    obtain ⟨d2, b, s2', hd2, hb, e2⟩ := right_c1 n hd1 m h.few none none none none none
    refine ⟨b, d2, hd2, hb, ?_⟩
    obtain ⟨z1, z2, z3, _, rfl⟩ := hd
    obtain ⟨z4, z5, z6, _, rfl⟩ := hd2
    simp [body, b__law_right, dfl_nil, e1, dpk_int, e2]
  · have hq : (v == 0) = false := by simpa using hv
    have few := h.few
    cases m with
    | nil => exact (h.ne rfl).elim
    | cons r0 m =>
    have l0 := h.len r0 (by simp)
    have w8 := h.w8
    obtain ⟨d2, b, s4', hd2, hbl, hbs, e2⟩ := right_c2 n hd1 r0 m (by omega) none none none none none
    obtain ⟨c, s2', o, s6', hcl, e3⟩ := right_c3 (n + 1) (d := d2) (r0 :: m) b few (by omega) (fun r hr => by rw [h.len r hr]; omega) hbs none s4' none none
    obtain ⟨s4'', e4⟩ := right_c5 (n + 1) (d := d2) (r0 :: m) c (by omega) s2' (some (lD b, o)) s4' s6'
    have hne : (c.map fun x => (x.natAbs : Int)) ≠ [] := by
      intro z
      have : c = [] := by simpa using z
      subst this
      simp at hcl
    by_cases hmax : 1000000000 < maxL (c.map fun x => (x.natAbs : Int))
    · obtain ⟨c6, s26, hc6, e6⟩ := right_c6 (n + 1) (d := d2) (r0 :: m) h s2' (some (lD b, o)) s4'' (some (tD c, false)) s6'
      refine ⟨c6, d2, hd2, hc6, ?_⟩
      obtain ⟨z1, z2, z3, _, rfl⟩ := hd
      obtain ⟨z4, z5, z6, _, rfl⟩ := hd2
      generalize (c.map fun x => (x.natAbs : Int)) = a at e4 hne hmax
      simp [body, b__law_right, b__law_right_1, dfl_nil, e1, dpk_int, hq, e2, e3, e4, intsOf_vD, hne, hmax, e6]
    · refine ⟨c, d2, hd2, ⟨by simpa using hcl, fun x hx => ?_⟩, ?_⟩
      · have := maxL_ge (l := c.map fun x => (x.natAbs : Int)) (List.mem_map.mpr ⟨x, hx, rfl⟩)
        unfold Siz
        omega
      · obtain ⟨z1, z2, z3, _, rfl⟩ := hd
        obtain ⟨z4, z5, z6, _, rfl⟩ := hd2
        generalize (c.map fun x => (x.natAbs : Int)) = a at e4 hne hmax
        simp [body, b__law_right, b__law_right_1, b__law_right_2, dfl_nil, e1, dpk_int, hq, e2, e3, e4, intsOf_vD, hne, hmax]
end PL
/-! RAlike: the same, of the same kinds. (Def 17.) -/
namespace PL
open PySem
/-- of depth at most n, not too long -/
def Alk : Nat → D → Prop
  | _, .non => True
  | _, .bl _ => True
  | _, .int _ => True
  | _, .str s => s.cps.all (· < 0x110000) = true
  | n + 1, .tup l => l.length ≤ LIM ∧ ∀ x ∈ l, Alk n x
  | n + 1, .lst l => l.length ≤ LIM ∧ ∀ x ∈ l, Alk n x
  | _, _ => False
mutual
theorem eqb_refl : ∀ (d : D) (n : Nat), Dpk n d → eqb d d = true
  | .non, _, _ => by simp
  | .bl b, _, _ => by simp
  | .int i, _, _ => by simp
  | .str s, _, _ => by simp
  | .tup l, n, h => by
    cases n with
    | zero => exact h.elim
    | succ n =>
      rw [eqb_tup_tup]
      exact eqbs_refl l n h
  | .lst l, n, h => by
    cases n with
    | zero => exact h.elim
    | succ n =>
      rw [eqb_lst_lst]
      exact eqbs_refl l n h
  | .scr _, n, h => by cases n <;> exact h.elim
  | .dic _ _, n, h => by cases n <;> exact h.elim
  | .ins _ _ _, n, h => by cases n <;> exact h.elim
theorem eqbs_refl : ∀ (l : List D) (n : Nat), (∀ x ∈ l, Dpk n x) → eqbs l l = true
  | [], _, _ => by simp
  | d :: l, n, h => by
    rw [eqbs_cc, eqb_refl d n (h d (by simp)), eqbs_refl l n fun x hx => h x (by simp [hx])]
    rfl
end
theorem r_alike_flat (n : Nat) (d : D) (hf : flat d = true) (hd : Dpk 16 d) : callN Γ (n + 1) 17 [(d, false), (d, false)] = .ret (.bl true, false) none := by
  rw [callN_eq rfl]
  have e := eqb_refl d 16 hd
  cases d <;> first | (simp [flat] at hf; done) | (simp [body, b__law_alike, b__law_alike_1, hd, dpk_bl, dpk_int, dpk_non, e])
theorem alike_c (n : Nat) (l : List D) (t : Bool) (hz : l.length ≤ LIM) (h : ∀ x ∈ l, callN Γ n 17 [(x, false), (x, false)] = .ret (.bl true, false) none) (s2 : Sl) :
    ∃ s2', ev Γ (callN Γ n) c__law_alike_1 [some ((if t = true then D.tup l else D.lst l), false), some ((if t = true then D.tup l else D.lst l), false), s2] = .ok (.lst [], true) [some ((if t = true then D.tup l else D.lst l), false), some ((if t = true then D.tup l else D.lst l), false), s2'] := by
  unfold c__law_alike_1
  have e := lcl_filter Γ (callN Γ n) (tg := .one 2) (c := .not (.fn 17 (.cons (.idxv 0 (.var 2)) (.cons (.idxv 1 (.var 2)) .nil)))) (body := .var 2) (fun _ => false) id (rgD 0 l.length)
    [some ((if t = true then D.tup l else D.lst l), false), some ((if t = true then D.tup l else D.lst l), false), none] [] (by rw [rgD_len]; simp; omega) (by
      intro x hx
      obtain ⟨p, hp⟩ := List.mem_iff_getElem?.mp hx
      obtain ⟨rfl, hp2⟩ := rgD_get hp
      rw [Int.zero_add]
      have p1 : p < l.length := by omega
      have g1 : ixn l.length (p : Int) = some p := by
        simp only [ixn]
        rw [if_pos (by omega), if_pos (by omega)]
        simp
      have q := h _ (List.getElem_mem p1)
      refine ⟨_, [some ((if t = true then D.tup l else D.lst l), false), some ((if t = true then D.tup l else D.lst l), false), some (.int p, false)], false, rfl, ?_, fun _ => rfl, fun z => nomatch z⟩
      cases t <;> simp [g1, p1, q, dfl_nil])
  refine ⟨fz1 [some ((if t = true then D.tup l else D.lst l), false), some ((if t = true then D.tup l else D.lst l), false), s2] 2, ?_⟩
  rw [lc1 Γ _ (e1 := [some ((if t = true then D.tup l else D.lst l), false), some ((if t = true then D.tup l else D.lst l), false), s2]) (items := rgD 0 l.length) (by unfold LIM at hz; cases t <;> simp <;> omega) e]
  simp
theorem r_alike : ∀ (k n : Nat) (d : D), k ≤ 15 → Alk k d → callN Γ (n + k + 1) 17 [(d, false), (d, false)] = .ret (.bl true, false) none
  | k, n, .non, _, _ => r_alike_flat _ _ rfl (dpk_non _)
  | k, n, .bl b, _, _ => r_alike_flat _ _ rfl (dpk_bl _ _)
  | k, n, .int i, _, _ => r_alike_flat _ _ rfl (dpk_int _ _)
  | k, n, .str s, _, h => r_alike_flat _ _ rfl (by cases k <;> exact h)
  | 0, _, .tup _, _, h => h.elim
  | 0, _, .lst _, _, h => h.elim
  | k + 1, n, .tup l, hk, h => by
    rw [callN_eq rfl]
    obtain ⟨s2', e⟩ := alike_c (n + (k + 1)) l true h.1 (fun x hx => by
      have := r_alike k n x (by omega) (h.2 x hx)
      rw [show n + (k + 1) = n + k + 1 by omega]
      exact this) none
    simp at e
    simp [body, b__law_alike, b__law_alike_2, dpk_bl, dpk_int, e, Dpk, LIM]
  | k + 1, n, .lst l, hk, h => by
    rw [callN_eq rfl]
    obtain ⟨s2', e⟩ := alike_c (n + (k + 1)) l false h.1 (fun x hx => by
      have := r_alike k n x (by omega) (h.2 x hx)
      rw [show n + (k + 1) = n + k + 1 by omega]
      exact this) none
    simp at e
    simp [body, b__law_alike, b__law_alike_2, dpk_bl, dpk_int, e, Dpk, LIM]
  | 0, _, .scr _, _, h => h.elim
  | _ + 1, _, .scr _, _, h => h.elim
  | 0, _, .dic _ _, _, h => h.elim
  | _ + 1, _, .dic _ _, _, h => h.elim
  | 0, _, .ins _ _ _, _, h => h.elim
  | _ + 1, _, .ins _ _ _, _, h => h.elim
end PL
/-! RText: numbers as texts. -/
namespace PL
open PySem L2 TL
theorem nat_nn {i : Int} (h : 0 ≤ i) : ((i.toNat : Nat) : Int) = i := Int.toNat_of_nonneg h
theorem tl_nn {i : Int} (h : 0 ≤ i) : tl (numI i) = numL i.toNat := by
  have e := tl_num i.toNat
  rw [nat_nn h] at e
  exact e
theorem tl_neg {i : Int} (h : i < 0) : tl (numI i) = 45 :: numL i.natAbs := by
  cases i with
  | ofNat n => exact absurd h (by simp)
  | negSucc m =>
    have e := tl_num (m + 1)
    rw [tl_ofString] at e
    show tl (Str.ofString ("-" ++ Nat.repr (m + 1))) = _
    rw [tl_ofString, String.toList_append, List.map_append]
    show Char.toNat '-' :: (Nat.repr (m + 1)).toList.map Char.toNat = 45 :: numL (m + 1)
    rw [← e]
    rfl
theorem numL_sign {n c : Nat} (h : c ∈ numL n) : 48 ≤ c ∧ c ≤ 57 := by
  by_cases z : c < 48 ∨ 57 < c
  · exact absurd h (numL_free z)
  · omega
theorem numI_sign {i : Int} {c : Nat} (h : c ∈ tl (numI i)) : c = 45 ∨ (48 ≤ c ∧ c ≤ 57) := by
  by_cases z : 0 ≤ i
  · rw [tl_nn z] at h
    exact .inr (numL_sign h)
  · rw [tl_neg (by omega)] at h
    rcases List.mem_cons.mp h with h | h
    · exact .inl h
    · exact .inr (numL_sign h)
theorem all_of {x : Str} {p : Nat → Bool} (h : ∀ c ∈ tl x, p c = true) : x.cps.all p = true := by
  rw [Array.all_eq_true']
  intro c hc
  exact h c (by simpa [tl] using hc)
theorem numI_cps (i : Int) : (numI i).cps.all (· < 0x110000) = true := all_of fun c h => by
  have := numI_sign h
  simp
  omega
theorem numL_head : ∀ {n : Nat}, n ≠ 0 → (numL n).head? ≠ some 48 := by
  intro n
  induction n using Nat.strongRecOn with
  | _ n ih =>
    intro h
    by_cases z : n < 10
    · rw [numL_lt z]
      simp
      omega
    · rw [numL_step (by omega)]
      have q := ih (n / 10) (by omega) (by omega)
      have ne := numL_ne (n / 10)
      cases e : numL (n / 10) with
      | nil => exact absurd e ne
      | cons a r =>
        rw [e] at q
        simpa using q
theorem numL_short {n : Nat} (h : n ≤ 1000000000) : (numL n).length ≤ 10 := numL_len (by omega) (by omega)
theorem numI_len {i : Int} (h : -1000000000 ≤ i ∧ i ≤ 1000000000) : (numI i).length ≤ 11 ∧ 1 ≤ (numI i).length := by
  rw [len_tl]
  by_cases z : 0 ≤ i
  · rw [tl_nn z]
    have := numL_short (n := i.toNat) (by omega)
    have q := List.length_pos_iff.mpr (numL_ne i.toNat)
    omega
  · rw [tl_neg (by omega), List.length_cons]
    have := numL_short (n := i.natAbs) (by omega)
    omega
theorem numI_back {i : Int} (h : -1000000000 ≤ i ∧ i ≤ 1000000000) : PySem.intText? (numI i) = some i := by
  have hl := (numI_len h).1
  by_cases z : 0 ≤ i
  · have e : (numI i).cps.toList = numL i.toNat := tl_nn z
    have q := PySem.intText_digits (x := numI i) (by rw [e]; exact numL_digits _) (by rw [e]; exact numL_ne _) (by omega)
    rw [q, e, numL_val, nat_nn z]
  · have e : (numI i).cps.toList = 45 :: numL i.natAbs := tl_neg (i := i) (by omega)
    have q := PySem.intText_neg (x := numI i) e (numL_digits _) (numL_ne _) (by omega)
    rw [q, numL_val]
    congr 1
    omega
/-- a number's text without its sign -/
def sizeI (i : Int) : Str := if i < 0 then ⟨((tl (numI i)).drop 1).toArray⟩ else numI i
theorem tl_size (i : Int) : tl (sizeI i) = numL i.natAbs := by
  unfold sizeI
  split
  · rename_i h
    rw [tl_neg h]
    rfl
  · rename_i h
    rw [tl_nn (by omega)]
    congr 1
    omega
theorem starts_neg (i : Int) : Txt.startswith (numI i) "-" = decide (i < 0) := by
  have e : (Txt.startswith (numI i) "-" = true) ↔ i < 0 := by
    have k : Txt.startswith (numI i) "-" = true ↔ StrLaws.At (numI i) "-" (numI i).length 0 := by
      unfold Txt.startswith
      rw [Bool.and_eq_true, decide_eq_true_eq]
      exact Iff.rfl
    rw [k, at_iff (y := "-") (by decide)]
    show pre [45] ((tl (numI i)).drop 0) = true ↔ _
    rw [List.drop_zero]
    by_cases z : i < 0
    · rw [tl_neg z]
      simp [z, pre]
    · rw [tl_nn (by omega)]
      simp only [z, iff_false]
      have ne := numL_ne i.toNat
      cases h : numL i.toNat with
      | nil => exact absurd h ne
      | cons a r =>
        have := numL_sign (n := i.toNat) (c := a) (by rw [h]; simp)
        simp [pre]
        omega
  rw [Bool.eq_iff_iff, e, decide_eq_true_eq]
theorem cut_size {i : Int} (h : i < 0) : cutS (numI i) (some 1) none = sizeI i := by
  have e := tl_neg h
  refine ext_tl ?_
  rw [tl_size]
  unfold cutS
  rw [tl_mk]
  show ((tl (numI i)).drop _).take _ = _
  rw [len_tl, e]
  simp [HT.sIx]
end PL
/-! K18R1: a word's number. (Def 25.) -/
namespace PL
open PySem L2 TL
theorem size_eq {i : Int} (h : ¬ i < 0) : sizeI i = numI i := by
  unfold sizeI
  rw [if_neg h]
theorem size_len {i : Int} (h : Siz i) : 1 ≤ (sizeI i).length ∧ (sizeI i).length ≤ 10 := by
  rw [len_tl, tl_size]
  have q := List.length_pos_iff.mpr (numL_ne i.natAbs)
  have := numL_short (n := i.natAbs) (by unfold Siz at h; omega)
  omega
theorem str_dpk (n : Nat) {s : Str} (h : s.cps.all (· < 0x110000) = true) : Dpk n (.str s) := by
  cases n <;> exact h
theorem glb5 : Γ.glb 5 = some (.str "=") := rfl
theorem glb6 : Γ.glb 6 = some (.str "-") := rfl
theorem glb7 : Γ.glb 7 = some (.str "0123456789") := rfl
theorem glb8 : Γ.glb 8 = some (.int 10) := rfl
theorem fig_mem {c : Nat} (h : 48 ≤ c ∧ c ≤ 57) : c ∈ ("0123456789" : Str).cps.toList := by
  have e : ("0123456789" : Str).cps.toList = [48, 49, 50, 51, 52, 53, 54, 55, 56, 57] := by decide
  rw [e]
  simp
  omega
theorem blsOf_true : ∀ l : List D, blsOf (l.map fun _ => D.bl true) = some (l.map fun _ => true)
  | [] => rfl
  | _ :: r => by
    simp only [List.map_cons, blsOf, blsOf_true r]
    rfl
theorem number_a (n : Nat) {i : Int} (h : Siz i) (row : Int) : ev Γ (callN Γ n) (.ifx (.bm .starts (.var 0) (.glb 6)) (.slc (.var 0) (.some (.cst (.int 1))) .none) (.var 0)) [some (.str (numI i), false), some (.int row, false), none, none] = .ok (.str (sizeI i), false) [some (.str (numI i), false), some (.int row, false), none, none] := by
  obtain ⟨l1, l2⟩ := numI_len h
  by_cases z : i < 0
  · simp [glb6, starts_neg, z, LIM, show (numI i).length ≤ 1000000 by omega, cut_size z]
  · simp [glb6, starts_neg, z, size_eq z]
theorem number_c (n : Nat) {i : Int} (row : Int) (h : Siz i) : ∃ s3, ev Γ (callN Γ n) c_number_of_1 [some (.str (numI i), false), some (.int row, false), some (.str (sizeI i), false), none] = .ok (.lst ((tl (sizeI i)).map fun _ => D.bl true), true) [some (.str (numI i), false), some (.int row, false), some (.str (sizeI i), false), s3] := by
  unfold c_number_of_1
  have hl := size_len h
  have e := lcl_map Γ (callN Γ n) (tg := .one 3) (body := .cmpv .inn 3 (.glb 7)) (fun _ => .bl true) ((tl (sizeI i)).map fun c => D.str ⟨#[c]⟩) [some (.str (numI i), false), some (.int row, false), some (.str (sizeI i), false), none] [] (by
      rw [List.length_map, ← len_tl]
      show 0 + _ ≤ 1000000
      omega) (by
      intro x hx
      obtain ⟨c, hc, rfl⟩ := List.mem_map.mp hx
      rw [tl_size] at hc
      have q := fig_mem (numL_sign hc)
      refine ⟨_, [some (.str (numI i), false), some (.int row, false), some (.str (sizeI i), false), some (.str ⟨#[c]⟩, false)], false, rfl, ?_, rfl⟩
      simp [glb7]
      simpa using q)
  refine ⟨fz1 [some (.str (numI i), false), some (.int row, false), some (.str (sizeI i), false), none] 3, ?_⟩
  rw [lc1 Γ _ (e1 := [some (.str (numI i), false), some (.int row, false), some (.str (sizeI i), false), none]) (items := (tl (sizeI i)).map fun c => D.str ⟨#[c]⟩) (by simp [tl]) e]
  simp
theorem size_first (i : Int) : ∃ c r, tl (sizeI i) = c :: r ∧ 48 ≤ c ∧ c ≤ 57 ∧ (i ≠ 0 → c ≠ 48) := by
  rw [tl_size]
  have ne := numL_ne i.natAbs
  cases e : numL i.natAbs with
  | nil => exact absurd e ne
  | cons c r =>
    have q := numL_sign (n := i.natAbs) (c := c) (by rw [e]; simp)
    refine ⟨c, r, rfl, q.1, q.2, fun hi hc => ?_⟩
    have := numL_head (n := i.natAbs) (by omega)
    rw [e, hc] at this
    exact this rfl
theorem r_number_of (n : Nat) {i : Int} (h : Siz i) (row : Int) : callN Γ (n + 1) 25 [(.str (numI i), false), (.int row, false)] = .ret (.int i, false) none := by
  rw [callN_eq rfl]
  have e1 := number_a n h row
  obtain ⟨s3, e2⟩ := number_c n row h
  obtain ⟨l1, l2⟩ := numI_len h
  obtain ⟨k1, k2⟩ := size_len h
  obtain ⟨c, r, hc, c1, c2, c3⟩ := size_first i
  have bk := numI_back h
  have d1 : Dpk 16 (.str (⟨#[c]⟩ : Str)) := str_dpk _ (by simp; omega)
  have d2 : Dpk 16 (.str ("0" : Str)) := str_dpk _ (by decide +kernel)
  have d3 : Dpk 16 (.str (numI i)) := str_dpk _ (numI_cps i)
  have b1 := blsOf_true ((tl (sizeI i)).map fun _ => D.non)
  rw [List.map_map, List.map_map] at b1
  have z1 : ((⟨#[c]⟩ : Str) == ("0" : Str)) = decide (i = 0) := by
    by_cases z : i = 0
    · subst z
      have e : tl (sizeI 0) = [48] := by decide
      rw [e] at hc
      cases hc
      decide
    · have q := c3 z
      rw [decide_eq_false z, beq_eq_false_iff_ne]
      intro e
      have e' := congrArg tl e
      have : ([c] : List Nat) = [48] := e'
      simp at this
      exact q this
  have z2 : i = 0 → numI i = ("0" : Str) := by
    rintro rfl
    decide
  have hix : (sizeI i).cps.toList = c :: r := hc
  have hsz : (sizeI i).length = r.length + 1 := by rw [len_tl, hc]; rfl
  generalize hZ : sizeI i = Z at *
  generalize hS : numI i = S at *
  have q1 : (Z.length : Int) ≤ 10 := by omega
  have q2 : (1 : Int) ≤ (Z.length : Int) := by omega
  have b2 : blsOf ((tl Z).map fun _ => D.bl true) = some ((tl Z).map fun _ => true) := b1
  have b3 : blsOf (r.map fun _ => D.bl true) = some (r.map fun _ => true) := by
    have e := b2
    rw [hc] at e
    simp only [List.map_cons, blsOf] at e
    cases e2 : blsOf (r.map fun _ => D.bl true) with
    | none => rw [e2] at e; cases e
    | some l =>
      rw [e2] at e
      simpa using e
  have b4 : (r.all fun _ => true) = true := List.all_eq_true.mpr fun _ _ => rfl
  have hz1 : 0 < Z.cps.size := by
    rw [← Array.length_toList, hix]
    simp
  have hz2 : Z.cps[0]? = some c := by
    rw [← Array.getElem?_toList, hix]
    rfl
  have hz3 : Z.cps[0] = c := by
    have e := Array.getElem?_eq_getElem hz1
    rw [hz2] at e
    exact (Option.some.inj e).symm
  have z4 : decide (i = 0) = true → (S == ("0" : Str)) = true := fun h => by
    rw [z2 (of_decide_eq_true h)]
    exact beq_self_eq_true _
  by_cases z : decide (i = 0) = true
  · have z3 := z4 z
    simp [-ev_ifx, body, b_number_of, b_number_of_1, b_number_of_2, e1, e2, glb8, LIM, show Z.length ≤ 1000000 by omega, q1, q2, hix, ixn, d1, d2, d3, hz1, hz3, z1, z, z3, b3, b4, l1, bk, show S.length ≤ 640 by omega]
  · simp [-ev_ifx, body, b_number_of, b_number_of_1, b_number_of_2, e1, e2, glb8, LIM, show Z.length ≤ 1000000 by omega, q1, q2, hix, ixn, d1, d2, d3, hz1, hz3, z1, z, b3, b4, l1, bk, show S.length ≤ 640 by omega]
end PL
/-! K18R2: what is written. (Def 27.) -/
namespace PL
open PySem L2 TL
/-- a row's words -/
def lineW (p : List Int × Int) : List Str := p.1.map numI ++ [("=" : Str), numI p.2]
abbrev sD (l : List Str) : List D := l.map .str
def lineT (p : List Int × Int) : Str := Str.join " " (lineW p)
def txt (m : List (List Int)) (b : List Int) : Str := Str.join "\n" ((m.zip b).map lineT)
theorem strs_sD : ∀ l : List Str, strsOf (sD l) = some l
  | [] => rfl
  | s :: r => by
    show (strsOf (sD r)).map (s :: ·) = _
    rw [strs_sD r]
    rfl
theorem sum_le {l : List Str} {k : Nat} (h : ∀ s ∈ l, s.length ≤ k) : (l.map (·.length)).sum ≤ l.length * k := by
  induction l with
  | nil => simp
  | cons a r ih =>
    have h1 := h a (by simp)
    have h2 := ih fun s hs => h s (by simp [hs])
    rw [List.map_cons, List.sum_cons, List.length_cons, Nat.succ_mul]
    omega
theorem join_len (y : Str) : ∀ l : List Str, (Str.join y l).length ≤ (l.map (·.length)).sum + l.length * y.length := by
  intro l
  rw [len_tl, tl_join]
  induction l with
  | nil => simp [joinL]
  | cons a r ih =>
    cases r with
    | nil =>
      simp only [List.map_cons, List.map_nil, joinL, List.sum_cons, List.sum_nil, List.length_cons, List.length_nil]
      rw [len_tl a]
      omega
    | cons b r =>
      show ((tl a) ++ (tl y ++ joinL (tl y) ((b :: r).map tl))).length ≤ a.length + ((b :: r).map (·.length)).sum + (r.length + 1 + 1) * y.length
      rw [List.length_append, List.length_append]
      have h1 := len_tl a
      have h2 := len_tl y
      rw [List.length_cons] at ih
      rw [Nat.succ_mul (r.length + 1)]
      omega
def OkL (p : List Int × Int) : Prop := p.1.length ≤ 8 ∧ (∀ x ∈ p.1, Siz x) ∧ Siz p.2
theorem lineW_len (p : List Int × Int) : (lineW p).length = p.1.length + 2 := by
  unfold lineW
  simp
theorem lineW_word {p : List Int × Int} (h : OkL p) : ∀ s ∈ lineW p, s.length ≤ 11 := by
  intro s hs
  unfold lineW at hs
  rcases List.mem_append.mp hs with hs | hs
  · obtain ⟨x, hx, rfl⟩ := List.mem_map.mp hs
    exact (numI_len (h.2.1 x hx)).1
  · simp at hs
    rcases hs with rfl | rfl
    · decide
    · exact (numI_len h.2.2).1
theorem lineW_sum {p : List Int × Int} (h : OkL p) : ((lineW p).map (·.length)).sum + (lineW p).length * (" " : Str).length ≤ 120 := by
  have h1 := sum_le (lineW_word h)
  have h2 := lineW_len p
  have h3 := h.1
  have h4 : (" " : Str).length = 1 := by decide
  rw [h4]
  have : (lineW p).length * 11 ≤ 10 * 11 := Nat.mul_le_mul_right _ (by omega)
  omega
theorem lineT_len {p : List Int × Int} (h : OkL p) : (lineT p).length ≤ 120 := Nat.le_trans (join_len _ _) (lineW_sum h)
theorem zip_ok {m : List (List Int)} {w : Nat} {b : List Int} (h : RowsOk m w) (hb : RightOk b m.length) : ∀ p ∈ m.zip b, OkL p ∧ p.1.length = w := by
  intro p hp
  have q := List.of_mem_zip hp
  have e := h.len _ q.1
  have := h.w8
  exact ⟨⟨by omega, h.siz _ q.1, hb.siz _ q.2⟩, e⟩
theorem zip_len {m : List (List Int)} {w : Nat} {b : List Int} (h : RowsOk m w) (hb : RightOk b m.length) : (m.zip b).length = m.length := by
  rw [List.length_zip, hb.len]
  omega
theorem txt_sum {m : List (List Int)} {w : Nat} {b : List Int} (h : RowsOk m w) (hb : RightOk b m.length) : (((m.zip b).map lineT).map (·.length)).sum + ((m.zip b).map lineT).length * ("\n" : Str).length ≤ 1000 := by
  have h1 := sum_le (l := (m.zip b).map lineT) (k := 120) (by
    intro s hs
    obtain ⟨p, hp, rfl⟩ := List.mem_map.mp hs
    exact lineT_len (zip_ok h hb p hp).1)
  have h4 : ("\n" : Str).length = 1 := by decide
  have h5 := zip_len h hb
  have h6 := h.few
  rw [h4]
  rw [List.length_map, h5] at h1 ⊢
  have : m.length * 120 ≤ 8 * 120 := Nat.mul_le_mul_right _ (by omega)
  omega
theorem txt_len {m : List (List Int)} {w : Nat} {b : List Int} (h : RowsOk m w) (hb : RightOk b m.length) : (txt m b).length ≤ 1000 := Nat.le_trans (join_len _ _) (txt_sum h hb)
theorem siz_log {x : Int} (h : Siz x) : x.natAbs.log2 < 1920 := by
  have := natAbs_log2_lt (a := x) (k := 64) (by unfold Siz at h; omega) (by omega)
  omega
/-- a row's numbers as texts, in any frame -/
theorem nums_c (n : Nat) {it : PL.Src} {i : Nat} {r : List Int} (hl : r.length ≤ 8) (hs : ∀ x ∈ r, Siz x) {env : Fm} (hi : i < env.length) (hn : env[i]? = some none) (he : evi Γ (callN Γ n) it env = .ok (vD r) env) :
    ev Γ (callN Γ n) (.lc it (.one i) .none (.bi .str1 (.cons (.var i) .nil))) env = .ok (.lst (sD (r.map numI)), true) env := by
  have hset : env.set i none = env := by
    apply List.ext_getElem?
    intro j
    by_cases hj : i = j
    · subst hj
      rw [List.getElem?_set_self hi, hn]
    · rw [List.getElem?_set_ne hj]
  have e := lcl_mapA Γ (callN Γ n) (tg := .one i) (body := .bi .str1 (.cons (.var i) .nil)) D.int (fun x => .str (numI x)) r (env.set i none) [] (by unfold LIM; simp; omega) (by
    intro x hx
    refine ⟨_, (env.set i none).set i (some (.int x, false)), false, rfl, ?_, ?_⟩
    · simp [hi, siz_log (hs x hx)]
    · simp [hset])
  rw [lc1 Γ _ he e]
  have hf : fz1 env i = none := by
    unfold fz1
    simp [hn]
  rw [hf, hset, hset]
  simp
theorem written_1 (n : Nat) {m : List (List Int)} {w : Nat} {b : List Int} (h : RowsOk m w) (hb : RightOk b m.length) :
    ∃ s4 s5, ev Γ (callN Γ n) c_written_1 [some (mD m, false), some (tD b, false), none, none, none, none, none] = .ok (.lst ((m.zip b).map fun p => .lst (sD (lineW p))), true) [some (mD m, false), some (tD b, false), none, none, s4, s5, none] := by
  unfold c_written_1
  have e := lcl_mapA Γ (callN Γ n) (tg := .many [4, 5]) (body := .bin .add (c_written_2) (.lst (.cons (.glb 5) (.cons (.bi .str1 (.cons (.var 5) .nil)) .nil)))) (fun p : List Int × Int => .tup [tD p.1, .int p.2]) (fun p => .lst (sD (lineW p))) (m.zip b) [some (mD m, false), some (tD b, false), none, none, none, none, none] [] (by
      have := zip_len h hb
      have := h.few
      unfold LIM
      simp only [List.length_nil]
      omega) (by
      intro p hp
      obtain ⟨⟨p1, p2, p3⟩, p4⟩ := zip_ok h hb p hp
      refine ⟨_, [some (mD m, false), some (tD b, false), none, none, some (tD p.1, false), some (.int p.2, false), none], true, rfl, ?_, rfl⟩
      have q := nums_c n (it := .seq (.var 4)) (i := 3) p1 p2 (env := [some (mD m, false), some (tD b, false), none, none, some (tD p.1, false), some (.int p.2, false), none]) (by simp) rfl (by simp)
      have q' : ev Γ (callN Γ n) c_written_2 [some (mD m, false), some (tD b, false), none, none, some (tD p.1, false), some (.int p.2, false), none] = _ := q
      have l : (p.1.length : Nat) + 1 + 1 ≤ 1000000 := by omega
      simp [q', glb5, LIM, siz_log p3, lineW, show p.1.length ≤ 999998 by omega])
  have z : (m.map tD).zipWith (fun a b => D.tup [a, b]) (vD b) = (m.zip b).map fun p : List Int × Int => .tup [tD p.1, .int p.2] := by
    rw [List.zipWith_map, List.zip, List.map_zipWith]
  obtain ⟨s, t, e3⟩ := lc2t Γ (callN Γ n) (it := .zip (.var 0) (.var 1)) (i := 4) (j := 5) (c := .none) (body := .bin .add (c_written_2) (.lst (.cons (.glb 5) (.cons (.bi .str1 (.cons (.var 5) .nil)) .nil)))) (env := [some (mD m, false), some (tD b, false), none, none, none, none, none]) (e1 := [some (mD m, false), some (tD b, false), none, none, none, none, none]) (by simp; rw [List.zip, List.map_zipWith]) e
  refine ⟨s, t, ?_⟩
  rw [e3]
  simp
theorem join_ok {y : Str} {l : List Str} (h : (l.map (·.length)).sum + l.length * y.length ≤ 1000000) : bmF .join (.str y) [.lst (sD l)] = some (.str (Str.join y l), false) := by
  simp only [bmF, strs_sD, Option.bind_some]
  rw [if_pos h]
theorem written_3 (n : Nat) {m : List (List Int)} {w : Nat} {b : List Int} (h : RowsOk m w) (hb : RightOk b m.length) (s4 s5 : Sl) :
    ∃ s6 o, ev Γ (callN Γ n) c_written_3 [some (mD m, false), some (tD b, false), some (.lst ((m.zip b).map fun p => .lst (sD (lineW p))), true), none, s4, s5, none] = .ok (.lst (sD ((m.zip b).map lineT)), true) [some (mD m, false), some (tD b, false), some (.lst ((m.zip b).map fun p => .lst (sD (lineW p))), o), none, s4, s5, s6] := by
  unfold c_written_3
  generalize hL : (m.zip b).map (fun p => D.lst (sD (lineW p))) = L
  have e := lcl_mapA Γ (callN Γ n) (tg := .one 6) (body := .bm .join (.cst (.str " ")) (.var 6)) (fun p : List Int × Int => .lst (sD (lineW p))) (fun p => .str (lineT p)) (m.zip b) [some (mD m, false), some (tD b, false), some (.lst L, false), none, s4, s5, none] [] (by
      have := zip_len h hb
      have := h.few
      unfold LIM
      simp only [List.length_nil]
      omega) (by
      intro p hp
      obtain ⟨ok, p4⟩ := zip_ok h hb p hp
      refine ⟨_, [some (mD m, false), some (tD b, false), some (.lst L, false), none, s4, s5, some (.lst (sD (lineW p)), false)], false, rfl, ?_, rfl⟩
      have j := join_ok (y := " ") (l := lineW p) (Nat.le_trans (lineW_sum ok) (by omega))
      simp [-bmF, j, lineT])
  rw [hL] at e
  refine ⟨fz1 [some (mD m, false), some (tD b, false), some (.lst L, false), none, s4, s5, none] 6, false, ?_⟩
  rw [lc1 Γ _ (e1 := [some (mD m, false), some (tD b, false), some (.lst L, false), none, s4, s5, none]) (items := L) (by simp) e]
  simp
theorem r_written (n : Nat) {m : List (List Int)} {w : Nat} {b : List Int} (h : RowsOk m w) (hb : RightOk b m.length) : callN Γ (n + 4) 27 [(mD m, false), (tD b, false)] = .ret (.str (txt m b), false) none := by
  rw [callN_eq rfl]
  have n1 := r_need_rows n h
  have n2 := r_need_right n hb
  obtain ⟨s4, s5, e1⟩ := written_1 (n + 3) h hb
  obtain ⟨s6, o, e2⟩ := written_3 (n + 3) h hb s4 s5
  have j := join_ok (y := "\n") (l := (m.zip b).map lineT) (Nat.le_trans (txt_sum h hb) (by omega))
  generalize hL : (m.zip b).map (fun p => D.lst (sD (lineW p))) = L at *
  generalize hS : (m.zip b).map lineT = S at *
  simp [-bmF, body, b_written, n1, n2, dfl_nil, e1, e2, j, txt, hS]
end PL
/-! K18R3: what is read of a written text. (Def 26.) -/
namespace PL
open PySem L2 TL
theorem word_free {p : List Int × Int} {c : Nat} (hc : c ≠ 45 ∧ (c < 48 ∨ 57 < c) ∧ c ≠ 61) : ∀ s ∈ lineW p, c ∉ tl s := by
  intro s hs h
  unfold lineW at hs
  rcases List.mem_append.mp hs with hs | hs
  · obtain ⟨x, _, rfl⟩ := List.mem_map.mp hs
    have := numI_sign h
    omega
  · simp at hs
    rcases hs with rfl | rfl
    · have : c ∈ ([61] : List Nat) := h
      simp at this
      omega
    · have := numI_sign h
      omega
theorem mem_joinL {S : List Nat} : ∀ {ps : List (List Nat)} {c : Nat}, c ∈ joinL S ps → c ∈ S ∨ ∃ p ∈ ps, c ∈ p
  | [], c, h => by simp [joinL] at h
  | [p], c, h => .inr ⟨p, by simp, h⟩
  | p :: q :: r, c, h => by
    have h' : c ∈ p ++ (S ++ joinL S (q :: r)) := h
    rcases List.mem_append.mp h' with h | h
    · exact .inr ⟨p, by simp, h⟩
    · rcases List.mem_append.mp h with h | h
      · exact .inl h
      · rcases mem_joinL h with h | ⟨x, hx, h⟩
        · exact .inl h
        · exact .inr ⟨x, by simp at hx ⊢; exact .inr hx, h⟩
theorem line_free {p : List Int × Int} {c : Nat} (hc : c ≠ 45 ∧ (c < 48 ∨ 57 < c) ∧ c ≠ 61) (h32 : c ≠ 32) : c ∉ tl (lineT p) := by
  intro h
  unfold lineT at h
  rw [tl_join] at h
  rcases mem_joinL h with h | ⟨q, hq, h⟩
  · have : c ∈ ([32] : List Nat) := h
    simp at this
    exact h32 this
  · obtain ⟨s, hs, rfl⟩ := List.mem_map.mp hq
    exact word_free hc s hs h
theorem split_line (p : List Int × Int) : Txt.split (lineT p) " " = lineW p := by
  unfold lineT
  rw [← TL.join_eq]
  exact split_join (s := 32) (S := []) (by decide) (by decide +kernel) (by unfold lineW; simp) (word_free (by omega))
theorem split_txt {m : List (List Int)} {w : Nat} {b : List Int} (h : RowsOk m w) (hb : RightOk b m.length) : Txt.split (txt m b) "\n" = (m.zip b).map lineT := by
  unfold txt
  rw [← TL.join_eq]
  refine split_join (s := 10) (S := []) (by decide) (by decide +kernel) ?_ ?_
  · intro e
    have := congrArg List.length e
    rw [List.length_map, zip_len h hb] at this
    exact h.ne (List.length_eq_zero_iff.mp this)
  · intro s hs
    obtain ⟨p, _, rfl⟩ := List.mem_map.mp hs
    exact line_free (by omega) (by omega)
theorem cut_words {l : List D} {k : Nat} (h : l.length = k + 2) : PL.cut l none (some (-2)) = l.take k := by
  unfold PL.cut clp
  rw [h]
  simp
  congr 1
  omega
theorem read_c (n : Nat) {p : List Int × Int} (h : OkL p) (s0 s1 s2 s4 : Sl) (k : Int) (o : Bool) :
    ev Γ (callN Γ (n + 1)) c_read_1 [s0, s1, s2, some (.int k, false), s4, some (.lst (sD (lineW p)), o), none] = .ok (.lst (vD p.1), true) [s0, s1, s2, some (.int k, false), s4, some (.lst (sD (lineW p)), false), none] := by
  unfold c_read_1
  have e := lcl_mapA Γ (callN Γ (n + 1)) (tg := .one 6) (body := .fn 25 (.cons (.var 6) (.cons (.var 3) .nil))) (fun x : Int => .str (numI x)) D.int p.1 [s0, s1, s2, some (.int k, false), s4, some (.lst (sD (lineW p)), false), none] [] (by
      have := h.1
      unfold LIM
      simp only [List.length_nil]
      omega) (by
      intro x hx
      refine ⟨_, [s0, s1, s2, some (.int k, false), s4, some (.lst (sD (lineW p)), false), some (.str (numI x), false)], false, rfl, ?_, rfl⟩
      simp [r_number_of n (h.2.1 x hx) k, dfl_nil])
  have ec : PL.cut (sD (lineW p)) none (some (-2)) = p.1.map fun x => D.str (numI x) := by
    rw [cut_words (k := p.1.length) (by rw [List.length_map, lineW_len])]
    unfold sD lineW
    rw [List.map_append, List.map_map, List.take_left' (by simp)]
    rfl
  rw [lc1 Γ _ (e1 := [s0, s1, s2, some (.int k, false), s4, some (.lst (sD (lineW p)), false), none]) (items := p.1.map fun x => .str (numI x)) (by cases o <;> simp [-List.map_map, ec]) e]
  simp
  rfl
/-- the slots of read -/
abbrev zE (t : Str) (m : List (List Int)) (b : List Int) (s3 s4 s5 s6 : Sl) : Fm := [some (.str t, false), some (.lst (m.map tD), true), some (.lst (vD b), true), s3, s4, s5, s6]
theorem w_first {p : List Int × Int} : (sD (lineW p))[p.1.length]? = some (.str "=") ∧ (sD (lineW p))[p.1.length + 1]? = some (.str (numI p.2)) := by
  unfold sD lineW
  rw [List.map_append, List.getElem?_append_right (by simp), List.getElem?_append_right (by simp)]
  simp
theorem read_step (n : Nat) (t : Str) {M : List (List Int)} {B : List Int} {p : List Int × Int} (h : OkL p) (h1 : 1 ≤ p.1.length) (hM : ∀ r ∈ M, r.length = p.1.length) (hm : M.length ≤ 8) (hB : B.length ≤ 8) (k : Int) (s5 : Sl) :
    ∃ s5', exs Γ (callN Γ (n + 1)) false b_read_2 (zE t M B (some (.int k, false)) (some (.str (lineT p), false)) s5 none) = .nx (zE t (M ++ [p.1]) (B ++ [p.2]) (some (.int k, false)) (some (.str (lineT p), false)) s5' none) := by
  have e1 := read_c n h (some (.str t, false)) (some (.lst (M.map tD), true)) (some (.lst (vD B), true)) (some (.str (lineT p), false)) k false
  have e2 := r_number_of n h.2.2 k
  have l1 : (" " : Str).length = 1 := by decide
  have l2 := lineT_len h
  have l3 : (lineT p).length + 2 ≤ LIM := by unfold LIM; omega
  have sp := split_line p
  obtain ⟨w1, w2⟩ := w_first (p := p)
  have l4 : (sD (lineW p)).length = p.1.length + 2 := by rw [List.length_map, lineW_len]
  have l5 : M.length < LIM := by unfold LIM; omega
  have l6 : B.length < LIM := by unfold LIM; omega
  refine ⟨some (.lst (sD (lineW p)), false), ?_⟩
  have d1 : Dpk 16 (.str ("=" : Str)) := str_dpk _ (by decide +kernel)
  have bs : bmF .split (.str (lineT p)) [.str " "] = some (.lst (sD (lineW p)), true) := by
    simp only [bmF]
    rw [sp, if_pos ⟨by rw [l1]; rfl, l3⟩]
  have i1 : ixn (sD (lineW p)).length (-2) = some p.1.length := by
    rw [l4]
    simp [ixn]
    omega
  have i2 : ixn (sD (lineW p)).length (-1) = some (p.1.length + 1) := by
    rw [l4]
    simp [ixn]
    omega
  generalize hW : sD (lineW p) = W at *
  generalize hT : lineT p = T at *
  generalize hL : p.1.length = l at *
  have nlt : ¬ ((W.length : Int) < 3) := by omega
  have d0 : Dpk 16 (.lst []) := fun x hx => by simp at hx
  cases M with
  | nil =>
    simp only [List.map_nil] at e1
    simp [-bmF, b_read_2, b_read_3, zE, bs, nlt, i1, i2, w1, w2, glb5, d1, d0, e1, e2, dfl_nil, show B.length < 1000000 by omega, LIM]
  | cons r M =>
    have hr := hM r (by simp)
    rw [List.length_cons] at hm
    simp only [List.map_cons] at e1
    have eq : ((W.length : Int) == (l : Int) + 2) = true := by
      rw [beq_iff_eq]
      omega
    have d2 : Dpk 16 (.lst (tD r :: M.map tD)) := dpk_rows 14 (r :: M)
    have i0 : ixn (M.length + 1) 0 = some 0 := by simp [ixn]
    simp [-bmF, b_read_2, b_read_3, zE, bs, nlt, i1, i2, w1, w2, glb5, d1, d0, d2, e1, e2, dfl_nil, show B.length < 1000000 by omega, show M.length + 1 < 1000000 by omega, show M.length < 999999 by omega, LIM, i0, hr, dpk_int, eq]
theorem r_read (n : Nat) {m : List (List Int)} {w : Nat} {b : List Int} (h : RowsOk m w) (hb : RightOk b m.length) : callN Γ (n + 4) 26 [(.str (txt m b), false)] = .ret (.tup [mD m, tD b], false) none := by
  rw [callN_eq rfl]
  have n1 := r_need_rows n h
  have n2 := r_need_right n hb
  have sp := split_txt h hb
  have zl := zip_len h hb
  have few := h.few
  generalize hT : txt m b = T at *
  have l1 : ("\n" : Str).length = 1 := by decide
  have l2 : T.length + 2 ≤ LIM := by
    have := txt_len h hb
    rw [hT] at this
    unfold LIM
    omega
  have bs : bmF .split (.str T) [.str "\n"] = some (.lst (((m.zip b).map lineT).map .str), true) := by
    simp only [bmF]
    rw [sp, if_pos ⟨by rw [l1]; rfl, l2⟩]
  obtain ⟨env', h1, s3, s4, s5, h2⟩ := frl_inv Γ (callN Γ (n + 3)) (io := false) (tg := .many [3, 4]) (b := b_read_2)
    (fun k env => ∃ s3 s4 s5, env = zE T ((m.zip b).take k |>.map (·.1)) ((m.zip b).take k |>.map (·.2)) s3 s4 s5 none)
    ((rgD 0 (((m.zip b).map lineT).map D.str).length).zipWith (fun a b => D.tup [a, b]) (((m.zip b).map lineT).map D.str)) 0 (zE T [] [] none none none none) ⟨none, none, none, by simp⟩ (by
      rintro k d env hd ⟨s3, s4, s5, rfl⟩
      obtain ⟨y, hy, rfl⟩ := enm_get hd
      rw [List.getElem?_map, List.getElem?_map] at hy
      cases hp : (m.zip b)[k]? with
      | none =>
        rw [hp] at hy
        cases hy
      | some p =>
        rw [hp] at hy
        cases hy
        have hk : k < (m.zip b).length := (List.getElem?_eq_some_iff.mp hp).1
        have hmem := List.mem_of_getElem? hp
        obtain ⟨ok, ow⟩ := zip_ok h hb p hmem
        have e2 : (m.zip b).take (0 + k + 1) = (m.zip b).take (0 + k) ++ [p] := by
          rw [List.take_add_one, Nat.zero_add, hp]
          rfl
        obtain ⟨s5', e1⟩ := read_step (n + 2) T (M := ((m.zip b).take (0 + k)).map (·.1)) (B := ((m.zip b).take (0 + k)).map (·.2)) ok (by have := h.w1; omega) (by
          intro r hr
          obtain ⟨q, hq, rfl⟩ := List.mem_map.mp hr
          rw [(zip_ok h hb q (List.mem_of_mem_take hq)).2, ow]) (by simp; omega) (by simp; omega) (k : Int) s5
        refine ⟨_, _, rfl, e1, some (.int k, false), some (.str (lineT p), false), s5', ?_⟩
        rw [e2, List.map_append, List.map_append]
        rfl)
  subst h2
  have z1 : ((m.zip b).take (0 + ((rgD 0 (((m.zip b).map lineT).map D.str).length).zipWith (fun a b => D.tup [a, b]) (((m.zip b).map lineT).map D.str)).length)) = m.zip b := by
    rw [enm_len, List.length_map, List.length_map, Nat.zero_add, List.take_length]
  rw [z1] at h1
  have z2 : (m.zip b).map (·.1) = m := by
    rw [← List.unzip_fst, List.unzip_zip (by rw [hb.len])]
  have z3 : (m.zip b).map (·.2) = b := by
    rw [← List.unzip_snd, List.unzip_zip (by rw [hb.len])]
  rw [z2, z3] at h1
  simp only [zE, List.map_nil] at h1
  generalize (((m.zip b).map lineT).map D.str) = W at *
  simp [-bmF, body, b_read, b_read_1, bs, h1, n1, n2, dfl_nil, LIM]
end PL
/-! K18R4: the law. -/
namespace PL
open PySem L2 TL
/-- the law's slots -/
abbrev yE (ns : List Int) (d : D) (s2 : Sl) (m : List (List Int)) (b : List Int) (ls : List Str) (s6 s7 s8 s9 : Sl) : Fm := [some (.scr ns, false), some (d, true), s2, some (mD m, false), some (tD b, false), some (.lst (sD ls), true), s6, s7, s8, s9]
theorem law_c (n : Nat) (ns : List Int) (d : D) (s2 : Sl) (m : List (List Int)) (b : List Int) (ls : List Str) (k : Nat) {r : List Int} (hr : m[k]? = some r) (hl : r.length ≤ 8) (hs : ∀ x ∈ r, Siz x) (s8 s9 : Sl) :
    ev Γ (callN Γ n) c_law_1 (yE ns d s2 m b ls (some (.int k, false)) none s8 s9) = .ok (.lst (sD (r.map numI)), true) (yE ns d s2 m b ls (some (.int k, false)) none s8 s9) := by
  have hk := (List.getElem?_eq_some_iff.mp hr).1
  have i1 : ixn m.length (k : Int) = some k := by
    simp [ixn]
    omega
  exact nums_c n (it := .seq (.idxv 3 (.var 6))) (i := 7) hl hs (by simp) rfl (by simp [i1, hr])
theorem law_4 (n : Nat) (ns : List Int) (d : D) (s2 : Sl) {m : List (List Int)} {w : Nat} {b : List Int} (h : RowsOk m w) (hb : RightOk b m.length) (s6 s8 s9 : Sl) :
    ∃ s6', frl Γ (callN Γ n) false (.one 6) b_law_4 (rgD 0 m.length) (yE ns d s2 m b [] s6 none s8 s9) = .nx (yE ns d s2 m b ((m.zip b).map lineT) s6' none s8 s9) := by
  have zl := zip_len h hb
  have few := h.few
  have lb := hb.len
  obtain ⟨env', h1, s6, h2⟩ := frl_inv Γ (callN Γ n) (io := false) (tg := .one 6) (b := b_law_4)
    (fun k env => ∃ s6, env = yE ns d s2 m b (((m.zip b).map lineT).take k) s6 none s8 s9)
    (rgD 0 m.length) 0 (yE ns d s2 m b [] s6 none s8 s9) ⟨s6, by simp⟩ (by
      rintro k x env hx ⟨s6, rfl⟩
      obtain ⟨rfl, hk⟩ := rgD_get hx
      rw [Int.zero_add]
      have hk1 : k < (m.zip b).length := by omega
      have hk2 : k < m.length := by omega
      have hk3 : k < b.length := by omega
      obtain ⟨ok, ow⟩ := zip_ok h hb _ (List.getElem_mem hk1)
      have e2 : ((m.zip b).map lineT).take (0 + k + 1) = ((m.zip b).map lineT).take (0 + k) ++ [lineT (m.zip b)[k]] := by
        rw [List.take_add_one, Nat.zero_add, List.getElem?_map, List.getElem?_eq_getElem hk1]
        rfl
      have e3 : (m.zip b)[k] = (m[k], b[k]) := List.getElem_zip
      rw [e3] at ok e2
      have e1 := law_c n ns d s2 m b (((m.zip b).map lineT).take (0 + k)) k (List.getElem?_eq_getElem hk2) ok.1 ok.2.1 s8 s9
      have hlen : (((m.zip b).map lineT).take (0 + k)).length < 1000000 := by simp; omega
      refine ⟨_, _, rfl, ?_, some (.int k, false), rfl⟩
      rw [e2]
      generalize ((m.zip b).map lineT).take (0 + k) = ls at *
      have j := join_ok (y := " ") (l := lineW (m[k], b[k])) (Nat.le_trans (lineW_sum ok) (by omega))
      have i2 : ixn b.length (k : Int) = some k := by
        simp [ixn]
        omega
      have sl0 : m[k].length ≤ 8 := ok.1
      have sl : m[k].length ≤ 999998 := by omega
      have wl : sD (lineW (m[k], b[k])) = sD (m[k].map numI) ++ [.str "=", .str (numI b[k])] := by
        unfold sD lineW
        rw [List.map_append]
        rfl
      rw [wl] at j
      simp only [sD, List.map_map] at e1 j
      simp [-bmF, b_law_4, e1, i2, hk3, siz_log ok.2.2, LIM, sl, j, hlen, lineT])
  subst h2
  refine ⟨s6, ?_⟩
  rw [h1]
  congr 2
  rw [rgD_len, List.take_of_length_le (by simp; omega)]
theorem law_5 (n : Nat) (ns : List Int) (d : D) (s2 : Sl) {m : List (List Int)} {w : Nat} {b : List Int} (h : RowsOk m w) (hb : RightOk b m.length) (s5 s6 s7 s9 : Sl) :
    ∃ s9', frl Γ (callN Γ (n + 5)) false (.one 9) b_law_5 (rgD 0 2) [some (.scr ns, false), some (d, true), s2, some (mD m, false), some (tD b, false), s5, s6, s7, some (.str (txt m b), false), s9] =
      .nx [some (.scr ns, false), some (d, true), s2, some (mD m, false), some (tD b, false), s5, s6, s7, some (.str (txt m b), false), s9'] := by
  have e1 := r_written (n + 1) h hb
  have e2 := r_read (n + 1) h hb
  have ct : (txt m b).cps.all (· < 0x110000) = true := by
    refine all_of fun c hc => ?_
    unfold txt at hc
    rw [tl_join] at hc
    rcases mem_joinL hc with hc | ⟨q, hq, hc⟩
    · have : c ∈ ([10] : List Nat) := hc
      simp at this
      simp [this]
    · obtain ⟨s, hs, rfl⟩ := List.mem_map.mp hq
      obtain ⟨p, hp, rfl⟩ := List.mem_map.mp hs
      unfold lineT at hc
      rw [tl_join] at hc
      rcases mem_joinL hc with hc | ⟨q, hq, hc⟩
      · have : c ∈ ([32] : List Nat) := hc
        simp at this
        simp [this]
      · obtain ⟨s, hs, rfl⟩ := List.mem_map.mp hq
        unfold lineW at hs
        rcases List.mem_append.mp hs with hs | hs
        · obtain ⟨x, _, rfl⟩ := List.mem_map.mp hs
          have := numI_sign hc
          simp
          omega
        · simp at hs
          rcases hs with rfl | rfl
          · have : c ∈ ([61] : List Nat) := hc
            simp at this
            simp [this]
          · have := numI_sign hc
            simp
            omega
  have a1 := r_alike 0 (n + 4) (.str (txt m b)) (by omega) ct
  have a2 := r_alike 3 (n + 1) (.tup [mD m, tD b]) (by omega) ⟨by show 2 ≤ LIM; decide, by
    intro x hx
    simp at hx
    rcases hx with rfl | rfl
    · refine ⟨by unfold LIM; simp; have := h.few; omega, fun x hx => ?_⟩
      obtain ⟨r, hr, rfl⟩ := List.mem_map.mp hx
      refine ⟨by unfold LIM; simp; have := h.len r hr; have := h.w8; omega, fun x hx => ?_⟩
      obtain ⟨i, _, rfl⟩ := List.mem_map.mp hx
      trivial
    · refine ⟨by unfold LIM; simp; have := hb.len; have := h.few; omega, fun x hx => ?_⟩
      obtain ⟨i, _, rfl⟩ := List.mem_map.mp hx
      trivial⟩
  obtain ⟨env', h1, s9', h2⟩ := frl_inv Γ (callN Γ (n + 5)) (io := false) (tg := .one 9) (b := b_law_5)
    (fun k env => ∃ s9, env = [some (.scr ns, false), some (d, true), s2, some (mD m, false), some (tD b, false), s5, s6, s7, some (.str (txt m b), false), s9])
    (rgD 0 2) 0 [some (.scr ns, false), some (d, true), s2, some (mD m, false), some (tD b, false), s5, s6, s7, some (.str (txt m b), false), s9] ⟨s9, rfl⟩ (by
      rintro k x env hx ⟨s9, rfl⟩
      refine ⟨_, _, rfl, ?_, some (x, false), rfl⟩
      generalize txt m b = t at *
      simp [b_law_5, LIM, e1, e2, a1, a2, dfl_nil])
  subst h2
  exact ⟨s9', h1⟩
theorem law_turn (n : Nat) {ns : List Int} {d : D} (hd : RwD ns d) (s2 s3 s4 s5 s6 s8 s9 : Sl) :
    ∃ d' s3' s4' s5' s6' s8' s9', RwD ns d' ∧ exs Γ (callN Γ (n + 5)) false b_law_2 [some (.scr ns, false), some (d, true), s2, s3, s4, s5, s6, none, s8, s9] =
      .nx [some (.scr ns, false), some (d', true), s2, s3', s4', s5', s6', none, s8', s9'] := by
  obtain ⟨v, d1, hd1, v0, v1, t1⟩ := hd.take (n + 4) (m := 8) (by omega) (by omega)
  obtain ⟨u, d2, hd2, u0, u1, t2⟩ := hd1.take (n + 4) (m := 8) (by omega) (by omega)
  obtain ⟨k, rfl⟩ : ∃ k : Nat, v = (k : Int) := ⟨v.toNat, by omega⟩
  obtain ⟨l, rfl⟩ : ∃ l : Nat, u = (l : Int) := ⟨u.toNat, by omega⟩
  obtain ⟨m, d3, hd3, hm, hl, t3⟩ := r_drawn (n + 3) hd2 (1 + k) (1 + l) (by omega) (by omega) (by omega) (by omega)
  obtain ⟨b, d4, hd4, hb, t4⟩ := r_right (n + 3) hd3 m hm
  obtain ⟨s6', t5⟩ := law_4 (n + 5) ns d4 s2 hm hb s6 s8 s9
  obtain ⟨s9', t6⟩ := law_5 n ns d4 s2 hm hb (some (.lst (sD ((m.zip b).map lineT)), false)) s6' none s9
  refine ⟨d4, some (mD m, false), some (tD b, false), some (.lst (sD ((m.zip b).map lineT)), false), s6', some (.str (txt m b), false), s9', hd4, ?_⟩
  have j := join_ok (y := "\n") (l := (m.zip b).map lineT) (Nat.le_trans (txt_sum hm hb) (by omega))
  have q1 : (m.length : Int) ≤ 100000000 := by have := hm.few; omega
  have q2 : -100000000 ≤ (m.length : Int) := by omega
  have jt : Str.join "\n" ((m.zip b).map lineT) = txt m b := rfl
  rw [jt] at j
  push_cast at t3
  obtain ⟨z1, z2, z3, _, rfl⟩ := hd
  obtain ⟨z4, z5, z6, _, rfl⟩ := hd1
  obtain ⟨y1, y2, y3, _, rfl⟩ := hd2
  obtain ⟨x1, x2, x3, _, rfl⟩ := hd3
  obtain ⟨w1, w2, w3, _, rfl⟩ := hd4
  generalize txt m b = t at *
  simp only [yE] at t5
  generalize sD ((m.zip b).map lineT) = L at *
  simp only [sD, List.map_nil] at t5
  simp [-bmF, b_law_2, b_law_3, LIM, t1, t2, t3, t4, t5, dfl_nil, q1, q2, j, t6]
theorem law_all (n : Nat) (ns : List Int) : ∀ (ds : List D) (d : D) (s2 s3 s4 s5 s6 s8 s9 : Sl), RwD ns d →
    ∃ env, frl Γ (callN Γ (n + 5)) false (.one 2) b_law_2 ds [some (.scr ns, false), some (d, true), s2, s3, s4, s5, s6, none, s8, s9] = .nx env := by
  intro ds
  induction ds with
  | nil =>
    intro d s2 s3 s4 s5 s6 s8 s9 hd
    exact ⟨_, rfl⟩
  | cons x ds ih =>
    intro d s2 s3 s4 s5 s6 s8 s9 hd
    obtain ⟨d', s3', s4', s5', s6', s8', s9', hd', e⟩ := law_turn n hd (some (x, false)) s3 s4 s5 s6 s8 s9
    obtain ⟨env, z⟩ := ih d' (some (x, false)) s3' s4' s5' s6' s8' s9' hd'
    refine ⟨env, ?_⟩
    rw [← z]
    simp only [frl, forF, bnd, List.set_cons_succ, List.set_cons_zero, Bool.false_eq_true, false_and, if_false]
    rw [e]
def depth : Nat := 6
theorem law_true : ∀ ns : List Int, ns.length ≤ 63 → callN Γ depth 9 [(.scr ns, false)] = .ret (.bl true, false) none := by
  intro ns _
  unfold depth
  rw [callN_eq rfl]
  obtain ⟨env, e⟩ := law_all 0 ns (rgD 0 4) (rwD ns 0 0 0) none none none none none none none ⟨0, 0, 0, by omega, rfl⟩
  simp only [Nat.reduceAdd] at e
  simp [body, b_law, b_law_1, LIM, e]
end PL
open PySem PySem.W PyProof.Rows
set_option maxRecDepth 100000 in
set_option maxHeartbeats 0 in
theorem PySem.Challenge.cw_powerlift_k18_written_holds : PySem.Challenge.rw_powerlift_k18_written.Holds := by
  w_on; o_law; k_head; (case hw => w_witness2)
  k_fill
  refine PL.walk_end (l := PySem.Challenge.rw_powerlift_k18_written) (n := PL.depth) PL.law_true ⟨rfl, by decide, by decide⟩ rfl rfl (fun w h Y => PySem.W.kIn_of Y) ?F
  case F =>
    intro w mg fa h KX G hmg
    refine' PL.all_mk KX G hmg ?a0 ?l0 ?c0 ?k0 ?a1 ?l1 ?c1 ?k1 ?a2 ?l2 ?c2 ?k2 ?a3 ?l3 ?c3 ?k3 ?a4 ?l4 ?c4 ?k4 ?a5 ?l5 ?c5 ?k5 ?a6 ?l6 ?c6 ?k6 ?a7 ?l7 ?c7 ?k7 ?a8 ?l8 ?c8 ?k8 ?a9 ?l9 ?c9 ?k9 ?a10 ?l10 ?c10 ?k10 ?a11 ?l11 ?c11 ?k11 ?u0 ?u1 ?u2 ?u3 ?u4 ?u5 ?z0 ?z1 ?z2 ?z3 ?z4 ?z5 ?z6 ?z7 ?z8 ?z9 ?z10 ?z11 ?z12 ?z13 ?z14 ?z15 ?z16
    (case a0 => k_is); (case l0 => k_is); (case c0 => k_is); (case k0 => k_is); (case a1 => k_is); (case l1 => k_is); (case c1 => k_is); (case k1 => k_is); (case a2 => k_is); (case l2 => k_is); (case c2 => k_is); (case k2 => k_is); (case a3 => k_is); (case l3 => k_is); (case c3 => k_is); (case k3 => k_is); (case a4 => k_is); (case l4 => k_is); (case c4 => k_is); (case k4 => k_is); (case a5 => k_is); (case l5 => k_is); (case c5 => k_is); (case k5 => k_is); (case a6 => k_is); (case l6 => k_is); (case c6 => k_is); (case k6 => k_is); (case a7 => k_is); (case l7 => k_is); (case c7 => k_is); (case k7 => k_is); (case a8 => k_is); (case l8 => k_is); (case c8 => k_is); (case k8 => k_is); (case a9 => k_is); (case l9 => k_is); (case c9 => k_is); (case k9 => k_is); (case a10 => k_is); (case l10 => k_is); (case c10 => k_is); (case k10 => k_is); (case a11 => k_is); (case l11 => k_is); (case c11 => k_is); (case k11 => k_is); (case u0 => k_is); (case u1 => k_is); (case u2 => k_is); (case u3 => k_is); (case u4 => k_is); (case u5 => k_is); (case z0 => k_is); (case z1 => k_is); (case z2 => k_is); (case z3 => k_is); (case z4 => k_is); (case z5 => k_is); (case z6 => k_is); (case z7 => k_is); (case z8 => k_is); (case z9 => k_is); (case z10 => k_is); (case z11 => k_is); (case z12 => k_is); (case z13 => k_is); (case z14 => k_is); (case z15 => k_is); (case z16 => k_is)

import PyProof.Rows.All
import Wide.All
import OpenK.AllK
import Wide.FinOn
import HandS.ForMost
import HandS.Wide
import HandS.TupAny
import HandS.TupMul
import HandS.Deep
import HandS.IsInst
import HandS.Style
import HandS.Conv
import HandS.Zip
import HandS.Flow
import HandS.Comp
import KE.GoesNew
import HandS.Lambda
import HandS.WordsExc
import HandS.CallSlots
import HandS.ExcIs
import HandS.ExcField
import HandS.EndOwn
import PySem.Challenge.RW_powerlift_k04_led_back_by_trying
set_option Elab.async false
set_option linter.all false
/-! PLCore: data, a small syntax, its reckoning (no heap in sight). -/
namespace PL
open PySem

inductive D where
  | non | bl (b : Bool) | int (i : Int) | str (s : Str)
  | tup (l : List D) | lst (l : List D) | scr (l : List Int)
  | dic (ks : List Int) (vs : List D)
  | ins (c : Nat) (fs : List Nat) (vs : List D)
  deriving Inhabited

abbrev Sl := Option (D × Bool)
abbrev Fm := List Sl
structure Exn where
  cls : Nat
  val : D
inductive Res (α : Type) where
  | ok (a : α) (e : Fm) | exc (x : Exn) (e : Fm) | err
inductive Fl where
  | nx (e : Fm) | rt (r : D × Bool) (e : Fm) | exc (x : Exn) (e : Fm) | err
inductive CRes where
  | ret (r : D × Bool) (p : Option D) | exc (x : Exn) (p : Option D) | err

def Res.bind {α β : Type} (r : Res α) (f : α → Fm → Res β) : Res β :=
  match r with
  | .ok a e => f a e
  | .exc _ _ => .err
  | .err => .err
@[simp] theorem Res.bind_ok {α β : Type} (a : α) (e : Fm) (f : α → Fm → Res β) : (Res.ok a e).bind f = f a e := rfl
@[simp] theorem Res.bind_exc {α β : Type} (x : Exn) (e : Fm) (f : α → Fm → Res β) : (Res.exc x e : Res α).bind f = .err := rfl
@[simp] theorem Res.bind_err {α β : Type} (f : α → Fm → Res β) : (Res.err : Res α).bind f = .err := rfl
def Res.lift {α : Type} (o : Option α) (e : Fm) : Res α :=
  match o with
  | some a => .ok a e
  | none => .err
@[simp] theorem Res.lift_some {α : Type} (a : α) (e : Fm) : Res.lift (some a) e = .ok a e := rfl
@[simp] theorem Res.lift_none {α : Type} (e : Fm) : (Res.lift none e : Res α) = .err := rfl

inductive BOp where | add | sub | mul | div | mod | pow
  deriving DecidableEq
inductive COp where | eq | ne | lt | le | gt | ge | isN | notN | inn | nin
  deriving DecidableEq
inductive Ty where | int | bool | str | tuple | list
  deriving DecidableEq
/-- built-in functions by values -/
inductive Bi where
  | len | abs | max2 | min2 | max1 | min1 | int1 | str1 | sum | sorted | list | tuple | any | all | listR | tupR | dictL | dictZ
  deriving DecidableEq
/-- methods of built-in types that change nothing -/
inductive Bm where
  | count | index | join | split | starts | get
  deriving DecidableEq
/-- what is stored to -/
inductive Tg where
  | one (i : Nat) | many (is : List Nat)

mutual
inductive E where
  | var (i : Nat)
  | cst (d : D)
  | glb (g : Nat)
  | bin (op : BOp) (a b : E)
  | neg (a : E)
  | cmp (op : COp) (a b : E)
  | cmpv (op : COp) (x : Nat) (b : E)
  | chn (o p : COp) (a b c : E)
  | din (neg : Bool) (a b : E)
  | and (a b : E) | or (a b : E) | not (a : E)
  | ifx (c a b : E)
  | tup (es : Es) | lst (es : Es)
  | idx (a i : E)
  | idxv (x : Nat) (i : E)
  | slc (a : E) (lo hi : O)
  | atr (p : E) (f : Nat)
  | isI (a : E) (ts : List Ty)
  | bi (b : Bi) (es : Es)
  | lenp (p : E)
  | bm (m : Bm) (o a : E)
  | fn (f : Nat) (es : Es)
  | fnv (f : Nat) (x : Nat) (es : Es)
  | fnk (f : Nat) (es : Es) (k : E)
  | mth (o : E) (m : Nat) (es : Es)
  | mthp (p : E) (m : Nat) (es : Es)
  | new (c : Nat) (es : Es)
  | pop (x : Nat) (i : E)
  | wrd (e : E)
  | lc (it : Src) (tg : Tg) (c : O) (body : E)
  | lc2 (it : Src) (tg : Tg) (it2 : Src) (tg2 : Tg) (body : E)
  | dc (it : Src) (tg : Tg) (k v : E)
inductive Es where
  | nil | cons (e : E) (es : Es)
inductive O where
  | none | some (e : E)
inductive Src where
  | seq (e : E) | pek (p : E) | rng1 (e : E) | rng2 (a b : E) | enm (e : E) | zip (a b : E) | vals (e : E)
end

mutual
inductive S where
  | asg (tg : Tg) (e : E)
  | par (is : List Nat) (es : Es)
  | aug (i : Nat) (sb : Bool) (e : E)
  | sub (x : Nat) (i e : E)
  | swp (x : Nat) (i j a b : E)
  | fld (f : Nat) (e : E)
  | fld2 (f g : Nat) (e : E)
  | app (p : E) (e : E)
  | exp (e : E)
  | ret (e : E) | retN
  | ifs (c : E) (a b : Ss)
  | whl (c : E) (b : Ss)
  | for (it : Src) (tg : Tg) (b : Ss)
  | rse (c : Nat) (e : O)
  | nev
  | pas
inductive Ss where
  | nil | cons (s : S) (r : Ss)
end

structure FnE where
  np : Nat
  ns : Nat
  io : Bool
  body : Ss
structure Ctx where
  glb : Nat → Option D
  om : Nat → Nat → Bool
  fn : Nat → Option FnE
  meth : Nat → Nat → Option Nat
  init : Nat → Option Nat
  dfl : Nat → List D
  kwd : Nat → Nat
  wd : Exn → Option D

/-- the word of what is refused, by its class -/
def wdOf (l : List (Nat × Str)) (x : Exn) : Option D :=
  match x.val with
  | .non => (l.lookup x.cls).map fun w => .tup [.str w]
  | _ => none
theorem lookup_mem {c : Nat} {w : Str} : ∀ {l : List (Nat × Str)}, l.lookup c = some w → (c, w) ∈ l
  | [], h => nomatch h
  | (a, b) :: r, h => by
    rw [List.lookup_cons] at h
    split at h
    · rename_i e
      have e : c = a := eq_of_beq e
      cases h
      rw [e]
      exact List.mem_cons_self
    · exact List.mem_cons_of_mem _ (lookup_mem h)
theorem wdOf_in {l : List (Nat × Str)} {c : Nat} {v dw : D} (h : wdOf l ⟨c, v⟩ = some dw) : c ∈ l.map (·.1) ∧ v = .non := by
  unfold wdOf at h
  split at h
  · rename_i e
    refine ⟨?_, e⟩
    cases z : l.lookup c with
    | none =>
      rw [z] at h
      cases h
    | some w => exact List.mem_map.mpr ⟨(c, w), lookup_mem z, rfl⟩
  · cases h
def LIM : Nat := 1000000

/-! ### data -/
/-- of nested depth at most n, without dicts and instances -/
def Dpk : Nat → D → Prop
  | _, .non => True
  | _, .bl _ => True
  | _, .int _ => True
  | _, .str s => s.cps.all (· < 0x110000) = true
  | n + 1, .tup l => ∀ x ∈ l, Dpk n x
  | n + 1, .lst l => ∀ x ∈ l, Dpk n x
  | _, _ => False
mutual
def eqb : D → D → Bool
  | .non, .non => true
  | .bl a, .bl b => a == b
  | .bl a, .int j => (if a then 1 else 0) == j
  | .int i, .bl b => i == (if b then 1 else 0)
  | .int i, .int j => i == j
  | .str x, .str y => x == y
  | .lst xs, .lst ys => eqbs xs ys
  | .tup xs, .tup ys => eqbs xs ys
  | _, _ => false
def eqbs : List D → List D → Bool
  | [], [] => true
  | x :: xs, y :: ys => eqb x y && eqbs xs ys
  | _, _ => false
end
@[simp] def flat : D → Bool
  | .non => true | .bl _ => true | .int _ => true | .str _ => true | _ => false

def MulOk (i j : Int) : Prop := (-(2 ^ 64) < i ∧ i < 2 ^ 64) ∨ (-(2 ^ 64) < j ∧ j < 2 ^ 64) ∨ i.natAbs.log2 + j.natAbs.log2 < 1000000
instance (i j : Int) : Decidable (MulOk i j) := by unfold MulOk; exact inferInstance

@[simp] def biD : BOp → D → D → Option (D × Bool)
  | .add, .int i, .int j => some (.int (i + j), false)
  | .add, .tup a, .tup b => if a.length + b.length ≤ LIM then some (.tup (a ++ b), false) else none
  | .add, .lst a, .lst b => if a.length + b.length ≤ LIM then some (.lst (a ++ b), true) else none
  | .sub, .int i, .int j => some (.int (i - j), false)
  | .mul, .int i, .int j => if MulOk i j then some (.int (i * j), false) else none
  | .mul, .lst a, .int k => if 0 ≤ k ∧ k ≤ 1000 ∧ a.length ≤ 1000 then some (.lst (List.replicate k.toNat a).flatten, true) else none
  | .mul, .tup a, .int k => if 1 ≤ k ∧ k ≤ 1000 ∧ a.length ≤ 1000 ∧ a ≠ [] then some (.tup (List.replicate k.toNat a).flatten, false) else none
  | .div, .int i, .int j => if 0 < j ∧ j.natAbs.log2 < 9000 then some (.int (i / j), false) else none
  | .mod, .int i, .int j => if 0 < j then some (.int (i % j), false) else none
  | .pow, .int i, .int j => if 0 ≤ j ∧ j ≤ 1000000 ∧ i.natAbs < 2 ^ 64 then some (.int (i ^ j.toNat), false) else none
  | _, _, _ => none

@[simp] def isNon : D → Bool
  | .non => true
  | _ => false
open Classical in
@[simp] noncomputable def cmD : COp → D → D → Option Bool
  | .eq, a, b => if Dpk 16 a ∧ Dpk 16 b then some (eqb a b) else none
  | .ne, a, b => if Dpk 16 a ∧ Dpk 16 b then some (!eqb a b) else none
  | .lt, .int i, .int j => some (decide (i < j))
  | .le, .int i, .int j => some (decide (i ≤ j))
  | .gt, .int i, .int j => some (decide (j < i))
  | .ge, .int i, .int j => some (decide (j ≤ i))
  | .isN, a, .non => some (isNon a)
  | .notN, a, .non => some (!isNon a)
  | .inn, a, .lst l => if Dpk 16 a ∧ Dpk 16 (.lst l) then some (l.any fun z => eqb z a) else none
  | .nin, a, .lst l => if Dpk 16 a ∧ Dpk 16 (.lst l) then some (!l.any fun z => eqb z a) else none
  | .inn, a, .tup l => if flat a = true ∧ l.all flat = true then some (l.any fun z => eqb z a) else none
  | .nin, a, .tup l => if flat a = true ∧ l.all flat = true then some (!l.any fun z => eqb z a) else none
  | .inn, .str a, .str z => (match a.cps.toList with | [c] => some (decide (c ∈ z.cps.toList)) | _ => none)
  | .nin, .str a, .str z => (match a.cps.toList with | [c] => some (!decide (c ∈ z.cps.toList)) | _ => none)
  | _, _, _ => none

/-- the place that a whole number names in a row of n -/
def ixn (n : Nat) (i : Int) : Option Nat := if 0 ≤ i then (if i < n then some i.toNat else none) else if -(n : Int) ≤ i then some (i + n).toNat else none
@[simp] def ixD : D → D → Option D
  | .lst l, .int i => (ixn l.length i).bind fun j => l[j]?
  | .tup l, .int i => (ixn l.length i).bind fun j => l[j]?
  | .scr l, .int i => ((ixn l.length i).bind fun j => l[j]?).map .int
  | .str s, .int i => if s.length ≤ LIM then ((ixn s.cps.toList.length i).bind fun j => s.cps.toList[j]?).map fun c => .str ⟨#[c]⟩ else none
  | _, _ => none
def clp (n d : Nat) : Option Int → Nat
  | none => d
  | some v => if v < 0 then (v + (n : Int)).toNat else min v.toNat n
def cut {α : Type} (l : List α) (lo hi : Option Int) : List α := (l.drop (clp l.length 0 lo)).take (clp l.length l.length hi - clp l.length 0 lo)
@[simp] def slD : D → Option Int → Option Int → Option (D × Bool)
  | .lst l, lo, hi => some (.lst (cut l lo hi), true)
  | .tup l, lo, hi => some (.tup (cut l lo hi), false)
  | .str s, lo, hi => if s.length ≤ LIM then some (.str (L2.cutS s lo hi), false) else none
  | _, _, _ => none

@[simp] def tyD : D → Option (List Ty)
  | .non => some []
  | .bl _ => some [.bool, .int]
  | .int _ => some [.int]
  | .str _ => some [.str]
  | .tup _ => some [.tuple]
  | .lst _ => some [.list]
  | _ => none

@[simp] def intsOf : List D → Option (List Int)
  | [] => some []
  | .int i :: r => (intsOf r).map (i :: ·)
  | _ => none
@[simp] def blsOf : List D → Option (List Bool)
  | [] => some []
  | .bl b :: r => (blsOf r).map (b :: ·)
  | _ => none
def maxL : List Int → Int
  | [] => 0
  | [a] => a
  | a :: r => max a (maxL r)
def minL : List Int → Int
  | [] => 0
  | [a] => a
  | a :: r => min a (minL r)
def insI (a : Int) : List Int → List Int
  | [] => [a]
  | b :: r => if a ≤ b then a :: b :: r else b :: insI a r
def srtI : List Int → List Int
  | [] => []
  | a :: r => insI a (srtI r)
def rgD (a b : Int) : List D := (List.range (b - a).toNat).map fun (i : Nat) => D.int (a + (i : Int))
def dput (ks : List Int) (vs : List D) (k : Int) (v : D) : List Int × List D :=
  match ks, vs with
  | [], _ => ([k], [v])
  | x :: xs, y :: ys => if x = k then (x :: xs, v :: ys) else ((x :: (dput xs ys k v).1), (y :: (dput xs ys k v).2))
  | x :: xs, [] => (x :: xs, [])
def dget (ks : List Int) (vs : List D) (k : Int) : Option D :=
  match ks, vs with
  | x :: xs, y :: ys => if x = k then some y else dget xs ys k
  | _, _ => none
def dicOf : List Int → List D → List Int → List D → List Int × List D
  | ks, vs, k :: r, v :: s => dicOf (dput ks vs k v).1 (dput ks vs k v).2 r s
  | ks, vs, _, _ => (ks, vs)

/-- a number's text -/
def numI (i : Int) : Str := Str.ofString (toString i)
@[simp] def biF : Bi → List D → Option (D × Bool)
  | .len, [.lst l] => some (.int l.length, false)
  | .len, [.tup l] => some (.int l.length, false)
  | .len, [.scr l] => some (.int l.length, false)
  | .abs, [.int i] => some (.int (if i < 0 then -i else i), false)
  | .max2, [.int i, .int j] => some (.int (if j > i then j else i), false)
  | .min2, [.int i, .int j] => some (.int (if j < i then j else i), false)
  | .max1, [.lst l] => (intsOf l).bind fun ns => if ns = [] then none else some (.int (maxL ns), false)
  | .min1, [.lst l] => (intsOf l).bind fun ns => if ns = [] then none else some (.int (minL ns), false)
  | .int1, [.int i] => some (.int i, false)
  | .int1, [.bl b] => some (.int (if b then 1 else 0), false)
  | .sum, [.lst l] => (intsOf l).map fun ns => (.int ns.sum, false)
  | .sorted, [.lst l] => (intsOf l).bind fun ns => if ns.length < 64 then some (.lst ((srtI ns).map .int), true) else none
  | .list, [.lst l] => some (.lst l, true)
  | .list, [.tup l] => some (.lst l, true)
  | .tuple, [.lst l] => some (.tup l, false)
  | .tuple, [.tup l] => some (.tup l, false)
  | .any, [.lst l] => (blsOf l).map fun bs => (.bl (bs.any id), false)
  | .all, [.lst l] => (blsOf l).map fun bs => (.bl (bs.all id), false)
  | .listR, [.int n] => if 0 ≤ n ∧ n ≤ 100000 then some (.lst (rgD 0 n), true) else none
  | .tupR, [.int n] => if 0 ≤ n ∧ n ≤ 100000 then some (.tup (rgD 0 n), false) else none
  | .dictZ, [.lst ks, .lst vs] => (intsOf ks).map fun ns => (.dic (dicOf [] [] ns vs).1 (dicOf [] [] ns vs).2, false)
  | .len, [.str s] => if s.length ≤ LIM then some (.int s.length, false) else none
  | .str1, [.int i] => if i.natAbs.log2 < 1920 then some (.str (numI i), false) else none
  | .int1, [.str s] => if s.length ≤ 640 then (PySem.intText? s).map fun n => (.int n, false) else none
  | _, _ => none
@[simp] def strsOf : List D → Option (List Str)
  | [] => some []
  | .str s :: r => (strsOf r).map (s :: ·)
  | _ => none
@[simp] def bmF : Bm → D → List D → Option (D × Bool)
  | .get, .dic ks vs, [.int k, d] => some ((dget ks vs k).getD d, false)
  | .join, .str a, [.lst l] => (strsOf l).bind fun ys => if (ys.map (·.length)).sum + ys.length * a.length ≤ 1000000 then some (.str (Str.join a ys), false) else none
  | .split, .str a, [.str b] => if (b.length == 0) = false ∧ a.length + 2 ≤ LIM then some (.lst ((Txt.split a b).map .str), true) else none
  | .starts, .str a, [.str b] => some (.bl (Txt.startswith a b), false)
  | _, _, _ => none

/-! ### places -/
def fget : List Nat → List D → Nat → Option D
  | g :: gs, v :: vs, f => if g = f then some v else fget gs vs f
  | _, _, _ => none
def fput (f : Nat) (d : D) : List Nat → List D → List Nat × List D
  | g :: gs, v :: vs => if g = f then (g :: gs, d :: vs) else (g :: (fput f d gs vs).1, v :: (fput f d gs vs).2)
  | _, _ => ([f], [d])
@[simp] def rdv (x : Nat) (env : Fm) : Option D :=
  match env[x]? with
  | some (some (.ins _ _ _, _)) => none
  | some (some (d, _)) => some d
  | _ => none
@[simp] def setI (l : List D) (i : Int) (d : D) : Option (List D) := (ixn l.length i).map fun j => l.set j d

/-! ### loops -/
def iter (step : Fm → Fm ⊕ Fl) : Nat → Fm → Option Fl
  | 0, _ => none
  | n + 1, env =>
    match step env with
    | .inl env' => iter step n env'
    | .inr r => some r
open Classical in
noncomputable def whileF (step : Fm → Fm ⊕ Fl) (env : Fm) : Fl := if h : ∃ r, ∃ n, iter step n env = some r then Classical.choose h else .err
theorem iter_mono {step : Fm → Fm ⊕ Fl} : ∀ {n m : Nat} {env : Fm} {r : Fl}, iter step n env = some r → n ≤ m → iter step m env = some r
  | 0, _, _, _, h, _ => by simp [iter] at h
  | n + 1, 0, _, _, _, hm => by omega
  | n + 1, m + 1, env, r, h, hm => by
    unfold iter at h ⊢
    cases e : step env with
    | inl env' =>
      rw [e] at h
      exact iter_mono h (by omega)
    | inr r' =>
      rw [e] at h
      exact h
theorem iter_inj {step : Fm → Fm ⊕ Fl} {n m : Nat} {env : Fm} {r r' : Fl} (h : iter step n env = some r) (h' : iter step m env = some r') : r = r' := by
  have a := iter_mono h (Nat.le_max_left n m)
  have b := iter_mono h' (Nat.le_max_right n m)
  rw [a] at b
  exact Option.some.inj b
theorem whileF_of {step : Fm → Fm ⊕ Fl} {n : Nat} {env : Fm} {r : Fl} (h : iter step n env = some r) : whileF step env = r := by
  have z : ∃ r, ∃ n, iter step n env = some r := ⟨r, n, h⟩
  unfold whileF
  rw [dif_pos z]
  obtain ⟨m, hm⟩ := Classical.choose_spec z
  exact iter_inj hm h
theorem whileF_or {step : Fm → Fm ⊕ Fl} {env : Fm} : (∃ n, iter step n env = some (whileF step env)) ∨ whileF step env = .err := by
  by_cases z : ∃ r, ∃ n, iter step n env = some r
  · obtain ⟨r, n, h⟩ := z
    left
    rw [whileF_of h]
    exact ⟨n, h⟩
  · right
    unfold whileF
    rw [dif_neg z]
theorem whileF_eq (step : Fm → Fm ⊕ Fl) (env : Fm) : whileF step env = match step env with
    | .inl env' => whileF step env'
    | .inr r => r := by
  cases e : step env with
  | inr r =>
    have h : iter step 1 env = some r := by
      unfold iter
      rw [e]
    exact whileF_of h
  | inl env' =>
    show whileF step env = whileF step env'
    have hs : ∀ n, iter step (n + 1) env = iter step n env' := fun n => by
      show (match step env with | .inl env' => iter step n env' | .inr r => some r) = _
      rw [e]
    by_cases z : ∃ r, ∃ n, iter step n env' = some r
    · obtain ⟨r, n, h⟩ := z
      rw [whileF_of h, whileF_of (n := n + 1) (by rw [hs, h])]
    · have z' : ¬ ∃ r, ∃ n, iter step n env = some r := by
        rintro ⟨r, n, h⟩
        cases n with
        | zero => simp [iter] at h
        | succ n => exact z ⟨r, n, by rw [← hs]; exact h⟩
      unfold whileF
      rw [dif_neg z, dif_neg z']

/-- while, by its test and its body -/
noncomputable def whlG (c : Fm → Res (D × Bool)) (b : Fm → Fl) (env : Fm) : Fl := whileF (fun env =>
  match c env with
  | .ok (.bl true, _) env =>
    match b env with
    | .nx env => .inl env
    | r => .inr r
  | .ok (.bl false, _) env => .inr (.nx env)
  | _ => .inr .err) env
theorem whlG_more {c : Fm → Res (D × Bool)} {b : Fm → Fl} {env e1 e2 : Fm} {o : Bool} (h1 : c env = .ok (.bl true, o) e1) (h2 : b e1 = .nx e2) : whlG c b env = whlG c b e2 := by
  unfold whlG
  rw [whileF_eq]
  simp only [h1, h2]
theorem whlG_done {c : Fm → Res (D × Bool)} {b : Fm → Fl} {env e1 : Fm} {o : Bool} (h1 : c env = .ok (.bl false, o) e1) : whlG c b env = .nx e1 := by
  unfold whlG
  rw [whileF_eq]
  simp only [h1]
theorem whlG_leave {c : Fm → Res (D × Bool)} {b : Fm → Fl} {env e1 e2 : Fm} {o : Bool} {r : D × Bool} (h1 : c env = .ok (.bl true, o) e1) (h2 : b e1 = .rt r e2) : whlG c b env = .rt r e2 := by
  unfold whlG
  rw [whileF_eq]
  simp only [h1, h2]
/-- a store -/
@[simp] def bnd (io : Bool) (tg : Tg) (r : D × Bool) (env : Fm) : Option Fm :=
  match tg with
  | .one i => if io = true ∧ i = 0 then none else some (env.set i (some r))
  | .many is =>
    match r with
    | (.tup l, _) => if l.length = is.length ∧ (io = true → 0 ∉ is) then some ((is.zip l).foldl (fun e p => e.set p.1 (some (p.2, false))) env) else none
    | _ => none
@[simp] def Tg.ixs : Tg → List Nat
  | .one i => [i]
  | .many is => is
@[simp] def wip (env : Fm) : List Nat → Fm
  | [] => env
  | v :: vs => (wip env vs).set v none
@[simp] def frs (env : Fm) : List Nat → Fm
  | [] => env
  | v :: vs =>
    match (frs env vs)[v]? with
    | some (some (d, _)) => (frs env vs).set v (some (d, false))
    | _ => frs env vs
@[simp] def rst (env old : Fm) : List Nat → Fm
  | [] => env
  | v :: vs => (rst env old vs).set v (old[v]?.getD none)

/-- a loop over items -/
def forF (bd : D → Fm → Option Fm) (body : Fm → Fl) : List D → Fm → Fl
  | [], env => .nx env
  | d :: ds, env =>
    match bd d env with
    | some env1 =>
      match body env1 with
      | .nx env2 => forF bd body ds env2
      | r => r
    | none => .err
/-- a comprehension -/
def lcF (bd : D → Fm → Option Fm) (wp : Fm → Fm) (cond : Fm → Res Bool) (body : Fm → Res D) : List D → Fm → List D → Res (List D)
  | [], env, acc => .ok acc env
  | d :: ds, env, acc =>
    match bd d env with
    | some env1 => (cond env1).bind fun b env2 =>
      if b = true then (body env2).bind fun x env3 => if acc.length < LIM then lcF bd wp cond body ds (wp env3) (acc ++ [x]) else .err
      else lcF bd wp cond body ds (wp env2) acc
    | none => .err

section
variable (Γ : Ctx) (call : Nat → List (D × Bool) → CRes)

/-- what stands at a path: the thing, and whether it is ours alone -/
@[simp] def pth : E → Fm → Option (D × Bool)
  | .var i, env =>
    match env[i]? with
    | some (some s) => some s
    | _ => none
  | .atr p f, env =>
    match pth p env with
    | some (.ins c fs vs, o) => (fget fs vs f).map fun d => (d, o && Γ.om c f)
    | _ => none
  | _, _ => none
@[simp] def setP : E → D → Fm → Fm
  | .var i, d, env => env.set i (some (d, true))
  | .atr p f, d, env =>
    match pth Γ p env with
    | some (.ins c fs vs, _) => setP p (.ins c fs (fput f d fs vs).2) env
    | _ => env
  | _, _, env => env
@[simp] def Es.simple : Es → Bool
  | .nil => true
  | .cons (.var _) r => r.simple
  | .cons (.cst _) r => r.simple
  | .cons (.glb _) r => r.simple
  | _ => false

mutual
noncomputable def ev : E → Fm → Res (D × Bool)
  | .var i, env =>
    match env[i]? with
    | some (some (d, o)) => .ok (d, false) (if o = true then env.set i (some (d, false)) else env)
    | _ => .err
  | .cst d, env => .ok (d, false) env
  | .glb g, env => Res.lift ((Γ.glb g).map fun d => (d, false)) env
  | .bin op a b, env => (ev a env).bind fun x env => (ev b env).bind fun y env => Res.lift (biD op x.1 y.1) env
  | .neg a, env => (ev a env).bind fun x env => match x.1 with | .int i => .ok (.int (-i), false) env | _ => .err
  | .cmp op a b, env => (ev a env).bind fun x env => (ev b env).bind fun y env => Res.lift ((cmD op x.1 y.1).map fun b => (.bl b, false)) env
  | .cmpv op x b, env => (Res.lift (rdv x env) env).bind fun _ env => (ev b env).bind fun y env => Res.lift ((rdv x env).bind fun d => (cmD op d y.1).map fun b => (.bl b, false)) env
  | .chn o p a b c, env => (ev a env).bind fun x env => (ev b env).bind fun y env =>
      match cmD o x.1 y.1 with
      | some true => (ev c env).bind fun z env => Res.lift ((cmD p y.1 z.1).map fun b => (.bl b, false)) env
      | some false => .ok (.bl false, false) env
      | none => .err
  | .din neg a b, env => (ev a env).bind fun x env => (ev b env).bind fun y env =>
      match x.1, y.1 with
      | .int k, .dic ks _ => .ok (.bl (if neg = true then !decide (k ∈ ks) else decide (k ∈ ks)), false) env
      | _, _ => .err
  | .and a b, env => (ev a env).bind fun x env => match x.1 with | .bl true => ev b env | .bl false => .ok (.bl false, false) env | _ => .err
  | .or a b, env => (ev a env).bind fun x env => match x.1 with | .bl true => .ok (.bl true, false) env | .bl false => ev b env | _ => .err
  | .not a, env => (ev a env).bind fun x env => match x.1 with | .bl b => .ok (.bl (!b), false) env | _ => .err
  | .ifx c a b, env => (ev c env).bind fun x env => match x.1 with | .bl true => ev a env | .bl false => ev b env | _ => .err
  | .tup es, env => (evs es env).bind fun ds env => if ds.length ≤ LIM then .ok (.tup ds, false) env else .err
  | .lst es, env => (evs es env).bind fun ds env => if ds.length ≤ LIM then .ok (.lst ds, true) env else .err
  | .idx a i, env => (ev a env).bind fun x env => (ev i env).bind fun y env => Res.lift ((ixD x.1 y.1).map fun d => (d, false)) env
  | .idxv x i, env => (Res.lift (rdv x env) env).bind fun _ env => (ev i env).bind fun y env => Res.lift ((rdv x env).bind fun d => (ixD d y.1).map fun d => (d, false)) env
  | .slc a lo hi, env => (ev a env).bind fun x env => (evo lo env).bind fun l env => (evo hi env).bind fun h env => Res.lift (slD x.1 l h) env
  | .atr p f, env =>
    match pth Γ (.atr p f) env with
    | some (d, false) => .ok (d, false) env
    | _ => .err
  | .isI a ts, env => (ev a env).bind fun x env => Res.lift ((tyD x.1).map fun l => (.bl (ts.any fun t => l.contains t), false)) env
  | .bi b es, env => (evs es env).bind fun ds env => Res.lift (biF b ds) env
  | .lenp p, env => Res.lift ((pth Γ p env).bind fun x => biF .len [x.1]) env
  | .bm m o a, env => (ev o env).bind fun x env => (ev a env).bind fun y env => Res.lift (bmF m x.1 [y.1]) env
  | .fn f es, env => (evs es env).bind fun ds env =>
      match call f ((ds ++ Γ.dfl f).map fun d => (d, false)) with
      | .ret r none => .ok r env
      | .exc x none => .exc x env
      | _ => .err
  | .fnv f x es, env => (Res.lift (rdv x env) env).bind fun _ env => (evs es env).bind fun ds env =>
      match env[x]? with
      | some (some (d, true)) =>
        match call f ((d, true) :: (ds ++ Γ.dfl f).map fun d => (d, false)) with
        | .ret r (some d') => .ok r (env.set x (some (d', true)))
        | .exc z (some d') => .exc z (env.set x (some (d', true)))
        | _ => .err
      | _ => .err
  | .fnk f es k, env => (evs es env).bind fun ds env => (ev k env).bind fun y env =>
      match call f ((ds ++ [y.1]).map fun d => (d, false)) with
      | .ret r none => .ok r env
      | .exc x none => .exc x env
      | _ => .err
  | .mth o m es, env => (ev o env).bind fun x env => (evs es env).bind fun ds env =>
      match x.1 with
      | .ins c fs vs =>
        match Γ.meth c m with
        | some f =>
          match call f ((.ins c fs vs, false) :: ds.map fun d => (d, false)) with
          | .ret r none => .ok r env
          | .exc x none => .exc x env
          | _ => .err
        | none => .err
      | _ => .err
  | .mthp p m es, env => if es.simple = true then (evs es env).bind fun ds env =>
      match pth Γ p env with
      | some (.ins c fs vs, true) =>
        match Γ.meth c m with
        | some f =>
          match call f ((.ins c fs vs, true) :: ds.map fun d => (d, false)) with
          | .ret r (some d') => .ok r (setP Γ p d' env)
          | .exc x (some d') => .exc x (setP Γ p d' env)
          | _ => .err
        | none => .err
      | _ => .err else .err
  | .new c es, env => (evs es env).bind fun ds env =>
      match Γ.init c with
      | some f =>
        match call f ((.ins c [] [], true) :: ds.map fun d => (d, false)) with
        | .ret (.non, _) (some d') => .ok (d', true) env
        | .exc x (some _) => .exc x env
        | _ => .err
      | none => .err
  | .pop x i, env => (ev i env).bind fun y env =>
      match env[x]?, y.1 with
      | some (some (.lst l, true)), .int i =>
        match ixn l.length i with
        | some j =>
          match l[j]? with
          | some d => .ok (d, false) (env.set x (some (.lst (l.eraseIdx j), true)))
          | none => .err
        | none => .err
      | _, _ => .err
  | .wrd e, env =>
    match (ev e env) with
    | .ok _ env => .ok (.non, false) env
    | .exc x env => Res.lift ((Γ.wd x).map fun d => (d, false)) env
    | .err => .err
  | .lc it tg c body, env => (evi it env).bind fun items env =>
      (lcF (fun d e => bnd false tg (d, false) e) (fun e => wip e tg.ixs)
        (fun e => match c with
          | .none => .ok true e
          | .some c => (ev c e).bind fun x e => match x.1 with | .bl b => .ok b e | _ => .err)
        (fun e => (ev body e).bind fun x e => .ok x.1 e) items (wip (frs env tg.ixs) tg.ixs) []).bind fun ds e => .ok (.lst ds, true) (rst e (frs env tg.ixs) tg.ixs)
  | .lc2 it tg it2 tg2 body, env => .err
  | .dc it tg k v, env => .err
noncomputable def evs : Es → Fm → Res (List D)
  | .nil, env => .ok [] env
  | .cons e es, env => (ev e env).bind fun x env => (evs es env).bind fun ds env => .ok (x.1 :: ds) env
noncomputable def evo : O → Fm → Res (Option Int)
  | .none, env => .ok none env
  | .some e, env => (ev e env).bind fun x env => match x.1 with | .int i => .ok (some i) env | _ => .err
noncomputable def evi : Src → Fm → Res (List D)
  | .seq e, env => (ev e env).bind fun x env => match x.1 with | .lst l => .ok l env | .tup l => .ok l env | .str s => .ok (s.cps.toList.map fun c => .str ⟨#[c]⟩) env | _ => .err
  | .pek p, env => .err
  | .rng1 e, env => (ev e env).bind fun x env => match x.1 with | .int n => if -100000000 ≤ n ∧ n ≤ 100000000 then .ok (rgD 0 n) env else .err | _ => .err
  | .rng2 a b, env => (ev a env).bind fun x env => (ev b env).bind fun y env => match x.1, y.1 with
      | .int i, .int j => if -100000000 ≤ i ∧ i ≤ 100000000 ∧ -100000000 ≤ j ∧ j ≤ 100000000 then .ok (rgD i j) env else .err
      | _, _ => .err
  | .enm e, env => (ev e env).bind fun x env =>
      match x.1 with
      | .lst l => .ok ((rgD 0 l.length).zipWith (fun a b => .tup [a, b]) l) env
      | .tup l => .ok ((rgD 0 l.length).zipWith (fun a b => .tup [a, b]) l) env
      | _ => .err
  | .zip a b, env => (ev a env).bind fun x env => (ev b env).bind fun y env =>
      match x.1, y.1 with
      | .lst l, .lst m => .ok (l.zipWith (fun a b => .tup [a, b]) m) env
      | .tup l, .tup m => .ok (l.zipWith (fun a b => .tup [a, b]) m) env
      | .lst l, .tup m => .ok (l.zipWith (fun a b => .tup [a, b]) m) env
      | .tup l, .lst m => .ok (l.zipWith (fun a b => .tup [a, b]) m) env
      | _, _ => .err
  | .vals e, env => .err
end

/-- results that are kept as they come (a, b = x, y) -/
noncomputable def evp : Es → Fm → Res (List (D × Bool))
  | .nil, env => .ok [] env
  | .cons e es, env => (ev Γ call e env).bind fun x env => (evp es env).bind fun ds env => .ok (x :: ds) env

def Fl.bind (r : Fl) (f : Fm → Fl) : Fl :=
  match r with
  | .nx e => f e
  | r => r
def Res.fl {α : Type} (r : Res α) (f : α → Fm → Fl) : Fl :=
  match r with
  | .ok a e => f a e
  | .exc x e => .exc x e
  | .err => .err

def Res.flN {α : Type} (r : Res α) (f : α → Fm → Fl) : Fl :=
  match r with
  | .ok a e => f a e
  | .exc _ _ => .err
  | .err => .err

@[simp] theorem Fl.bind_nx (e : Fm) (f : Fm → Fl) : (Fl.nx e).bind f = f e := rfl
@[simp] theorem Fl.bind_rt (r : D × Bool) (e : Fm) (f : Fm → Fl) : (Fl.rt r e).bind f = .rt r e := rfl
@[simp] theorem Fl.bind_exc (x : Exn) (e : Fm) (f : Fm → Fl) : (Fl.exc x e).bind f = .exc x e := rfl
@[simp] theorem Fl.bind_err (f : Fm → Fl) : (Fl.err).bind f = .err := rfl
@[simp] theorem Res.fl_ok {α : Type} (a : α) (e : Fm) (f : α → Fm → Fl) : (Res.ok a e).fl f = f a e := rfl
@[simp] theorem Res.fl_exc {α : Type} (x : Exn) (e : Fm) (f : α → Fm → Fl) : (Res.exc x e : Res α).fl f = .exc x e := rfl
@[simp] theorem Res.flN_ok {α : Type} (a : α) (e : Fm) (f : α → Fm → Fl) : (Res.ok a e).flN f = f a e := rfl
@[simp] theorem Res.flN_exc {α : Type} (x : Exn) (e : Fm) (f : α → Fm → Fl) : (Res.exc x e : Res α).flN f = .err := rfl
@[simp] theorem Res.flN_err {α : Type} (f : α → Fm → Fl) : (Res.err : Res α).flN f = .err := rfl
@[simp] theorem Res.fl_err {α : Type} (f : α → Fm → Fl) : (Res.err : Res α).fl f = .err := rfl

mutual
noncomputable def ex (io : Bool) : S → Fm → Fl
  | .asg tg e, env => (ev Γ call e env).fl fun r env =>
      match bnd io tg r env with
      | some env => .nx env
      | none => .err
  | .par is es, env => (evp Γ call es env).flN fun rs env =>
      if rs.length = is.length ∧ (io = true → 0 ∉ is) then .nx ((is.zip rs).foldl (fun e p => e.set p.1 (some p.2)) env) else .err
  | .aug i sb e, env =>
    match rdv i env with
    | some (.int a) => (ev Γ call e env).flN fun r env =>
        match r.1 with
        | .int b => if io = true ∧ i = 0 then .err else .nx (env.set i (some (.int (if sb = true then a - b else a + b), false)))
        | _ => .err
    | _ => .err
  | .sub x i e, env => (ev Γ call e env).flN fun r env =>
      match rdv x env with
      | some _ => (ev Γ call i env).flN fun y env =>
        match env[x]?, y.1 with
        | some (some (.lst l, true)), .int i =>
          match setI l i r.1 with
          | some l' => .nx (env.set x (some (.lst l', true)))
          | none => .err
        | _, _ => .err
      | none => .err
  | .swp x i j a b, env => .err
  | .fld f e, env => (ev Γ call e env).fl fun r (env : Fm) =>
      match env[(0 : Nat)]? with
      | some (some (.ins c fs vs, true)) =>
        if fs.length < 100 ∧ (Γ.om c f = true → r.2 = true) then .nx (env.set 0 (some (.ins c (fput f r.1 fs vs).1 (fput f r.1 fs vs).2, true))) else .err
      | _ => .err
  | .fld2 f g e, env => .err
  | .app p e, env =>
    match pth Γ p env with
    | some (.lst _, true) => (ev Γ call e env).flN fun r env =>
      match pth Γ p env with
      | some (.lst l, true) => if l.length < LIM then .nx (setP Γ p (.lst (l ++ [r.1])) env) else .err
      | _ => .err
    | _ => .err
  | .exp e, env => (ev Γ call e env).fl fun _ env => .nx env
  | .ret e, env => (ev Γ call e env).fl fun r env => .rt r env
  | .retN, env => .rt (.non, false) env
  | .ifs c a b, env => (ev Γ call c env).flN fun r env => match r.1 with | .bl true => exs io a env | .bl false => exs io b env | _ => .err
  | .whl c b, env => whlG (fun e => ev Γ call c e) (fun e => exs io b e) env
  | .for it tg b, env => (evi Γ call it env).flN fun items env => forF (fun d e => bnd io tg (d, false) e) (fun e => exs io b e) items env
  | .rse c e, env =>
    match e with
    | .none => .exc ⟨c, .non⟩ env
    | .some e => (ev Γ call e env).flN fun r env => .exc ⟨c, r.1⟩ env
  | .nev, env => .err
  | .pas, env => .nx env
noncomputable def exs (io : Bool) : Ss → Fm → Fl
  | .nil, env => .nx env
  | .cons s r, env => (ex io s env).bind fun env => exs io r env
end
end

/-- a def's body at its arguments -/
noncomputable def body (Γ : Ctx) (call : Nat → List (D × Bool) → CRes) (F : FnE) (args : List (D × Bool)) : CRes :=
  if args.length = F.np then
    let p0 := fun (env : Fm) => if F.io = true then (match env[(0 : Nat)]? with | some (some (d, true)) => some (some d) | _ => none) else some none
    match exs Γ call F.io F.body (args.map some ++ List.replicate (F.ns - F.np) none) with
    | .nx env => (match p0 env with | some p => .ret (.non, false) p | none => .err)
    | .rt r env => (match p0 env with | some p => .ret r p | none => .err)
    | .exc x env => (match p0 env with | some p => .exc x p | none => .err)
    | .err => .err
  else .err
noncomputable def callN (Γ : Ctx) : Nat → Nat → List (D × Bool) → CRes
  | 0, _, _ => .err
  | n + 1, f, args =>
    match Γ.fn f with
    | some F => body Γ (callN Γ n) F args
    | none => .err
end PL
/-! PLRep: how data stand in the abstract heap; what a frame's slots hold. -/
namespace PL
open PySem L2

/-- what the text's names stand for -/
structure Nm where
  cl : Nat → Addr
  fl : Nat → Str
  om : Nat → Nat → Bool
  tb : List (Addr × Str)
  xf : Nat → Str

section
variable (K : PySem.W.Frag) (M : Nm)
mutual
inductive Rep (F : Hp) : D → V → Prop where
  | non : Rep F .non .non
  | bl (b : Bool) : Rep F (.bl b) (.bl b)
  | int (i : Int) : Rep F (.int i) (.int i)
  | str (s : Str) : Rep F (.str s) (.str s)
  | tup {a : Addr} {l : List D} {vs : List V} (h : SqT K F a vs) (z : vs.length ≤ LIM) (r : Reps F l vs) : Rep F (.tup l) (.ref a)
  | lst {a : Addr} {l : List D} {vs : List V} (h : F a = some (.lst vs)) (z : vs.length ≤ LIM) (r : Reps F l vs) : Rep F (.lst l) (.ref a)
  | scr {a : Addr} {l : List Int} (h : SqL K F a (l.map V.int)) (z : l.length ≤ LIM) : Rep F (.scr l) (.ref a)
  | dic {a : Addr} {ks : List Int} {ds : List D} {kvs : List (Key × V)} (h : F a = some (.dK kvs)) (e : kvs.map (·.1) = ks.map Sum.inl) (r : Reps F ds (kvs.map (·.2))) : Rep F (.dic ks ds) (.ref a)
  | ins {a dx : Addr} {c : Nat} {fs : List Nat} {ds : List D} {kvs : List (Str × V)} (h : F a = some (.ins (M.cl c) dx kvs)) (e : kvs.map (·.1) = fs.map M.fl) (r : Reps F ds (kvs.map (·.2))) : Rep F (.ins c fs ds) (.ref a)
inductive Reps (F : Hp) : List D → List V → Prop where
  | nil : Reps F [] []
  | cons {d : D} {v : V} {ds : List D} {vs : List V} (h : Rep F d v) (r : Reps F ds vs) : Reps F (d :: ds) (v :: vs)
end
mutual
/-- ours alone: the thing's objects (fp) are in H, not among what is settled (F) -/
inductive RepO (F H : Hp) : D → Bool → V → List Addr → Prop where
  | fz {d : D} {v : V} (h : Rep K M F d v) : RepO F H d false v []
  | lst {a : Addr} {l : List D} {vs : List V} (h : H a = some (.lst vs)) (z : vs.length ≤ LIM) (r : Reps K M F l vs) : RepO F H (.lst l) true (.ref a) [a]
  | ins {a dx : Addr} {c : Nat} {fs : List Nat} {ds : List D} {kvs : List (Str × V)} {fp : List Addr} (h : H a = some (.ins (M.cl c) dx kvs)) (e : kvs.map (·.1) = fs.map M.fl) (r : RepOs F H (fs.map (M.om c)) ds (kvs.map (·.2)) fp) :
      RepO F H (.ins c fs ds) true (.ref a) (a :: fp)
inductive RepOs (F H : Hp) : List Bool → List D → List V → List Addr → Prop where
  | nil : RepOs F H [] [] [] []
  | cons {o : Bool} {d : D} {v : V} {os : List Bool} {ds : List D} {vs : List V} {fp fq : List Addr} (h : RepO F H d o v fp) (r : RepOs F H os ds vs fq) : RepOs F H (o :: os) (d :: ds) (v :: vs) (fp ++ fq)
end
inductive RepE (F H : Hp) : List Sl → List (Option V) → List Addr → Prop where
  | nil : RepE F H [] [] []
  | skip {v : Option V} {es : List Sl} {vs : List (Option V)} {fq : List Addr} (r : RepE F H es vs fq) : RepE F H (none :: es) (v :: vs) fq
  | slot {d : D} {o : Bool} {v : V} {es : List Sl} {vs : List (Option V)} {fp fq : List Addr} (h : RepO K M F H d o v fp) (r : RepE F H es vs fq) : RepE F H (some (d, o) :: es) (some v :: vs) (fp ++ fq)
/-- no code object's table -/
def NoTb (o : HO) : Prop := ∀ ps, o ≠ .tbl ps
/-- what is settled stands; the tables of code objects are kept -/
structure Sm (M : Nm) (F H : Hp) : Prop where
  same : Same F H
  tb : M.tb ≠ [] → LamX.Tabs M.tb H ∧ ∀ a o, F a = some o → NoTb o
/-- the slots, at a state of the heap -/
def Sta (F H : Hp) (es : List Sl) (vs : List (Option V)) : Prop := ∃ fp, RepE K M F H es vs fp ∧ fp.Nodup ∧ (∀ a ∈ fp, F a = none) ∧ Sm M F H
end

section
variable {K : PySem.W.Frag} {M : Nm} {F F' H H' : Hp}

theorem same_sqT {a : Addr} {vs : List V} (e : Same F F') (h : SqT K F a vs) : SqT K F' a vs := by
  rcases h with (h | ⟨o, h⟩) | h
  · exact .inl (.inl (e _ _ h))
  · exact .inl (.inr ⟨o, e _ _ h⟩)
  · exact .inr h
theorem same_new {p : Addr} {o : HO} (h : F p = none) : Same F (upd F p o) := fun a u e => by
  rw [upd_ne (ne_of_none e h)]
  exact e
theorem same_upd {p : Addr} {o : HO} (e : Same F F') : Same (upd F p o) (upd F' p o) := fun a u h => by
  by_cases q : a = p
  · subst q
    rw [upd_same] at h ⊢
    exact h
  · rw [upd_ne q] at h ⊢
    exact e a u h

mutual
theorem Rep.mono (e : Same F F') : ∀ {d : D} {v : V}, Rep K M F d v → Rep K M F' d v
  | _, _, .non => .non
  | _, _, .bl b => .bl b
  | _, _, .int i => .int i
  | _, _, .str s => .str s
  | _, _, .tup h z r => .tup (same_sqT e h) z (Reps.mono e r)
  | _, _, .lst h z r => .lst (e _ _ h) z (Reps.mono e r)
  | _, _, .scr h z => .scr (e.seq h) z
  | _, _, .dic h q r => .dic (e _ _ h) q (Reps.mono e r)
  | _, _, .ins h q r => .ins (e _ _ h) q (Reps.mono e r)
theorem Reps.mono (e : Same F F') : ∀ {ds : List D} {vs : List V}, Reps K M F ds vs → Reps K M F' ds vs
  | _, _, .nil => .nil
  | _, _, .cons h r => .cons (Rep.mono e h) (Reps.mono e r)
end
theorem Reps.len : ∀ {ds : List D} {vs : List V}, Reps K M F ds vs → ds.length = vs.length
  | _, _, .nil => rfl
  | _, _, .cons _ r => by rw [List.length_cons, List.length_cons, Reps.len r]
theorem Reps.get : ∀ {ds : List D} {vs : List V} {i : Nat} {d : D}, Reps K M F ds vs → ds[i]? = some d → ∃ v, vs[i]? = some v ∧ Rep K M F d v
  | _, _, _, _, .nil, h => by simp at h
  | _, _, 0, _, .cons h r, e => by
    simp at e
    subst e
    exact ⟨_, rfl, h⟩
  | _, _, i + 1, d, .cons h r, e => by
    obtain ⟨v, a, b⟩ := Reps.get (i := i) (d := d) r (by simpa using e)
    exact ⟨v, by simpa using a, b⟩
theorem Reps.set {d : D} {v : V} (h : Rep K M F d v) : ∀ {ds : List D} {vs : List V} (i : Nat), Reps K M F ds vs → Reps K M F (ds.set i d) (vs.set i v)
  | _, _, _, .nil => .nil
  | _, _, 0, .cons _ r => .cons h r
  | _, _, i + 1, .cons q r => .cons q (Reps.set h i r)
theorem Reps.app : ∀ {ds es : List D} {vs us : List V}, Reps K M F ds vs → Reps K M F es us → Reps K M F (ds ++ es) (vs ++ us)
  | _, _, _, _, .nil, s => s
  | _, _, _, _, .cons h r, s => .cons h (Reps.app r s)
theorem Reps.snoc {ds : List D} {vs : List V} {d : D} {v : V} (r : Reps K M F ds vs) (h : Rep K M F d v) : Reps K M F (ds ++ [d]) (vs ++ [v]) := r.app (.cons h .nil)
theorem Reps.take : ∀ {ds : List D} {vs : List V} (n : Nat), Reps K M F ds vs → Reps K M F (ds.take n) (vs.take n)
  | _, _, 0, _ => .nil
  | _, _, _ + 1, .nil => .nil
  | _, _, n + 1, .cons h r => .cons h (Reps.take n r)
theorem Reps.drop : ∀ {ds : List D} {vs : List V} (n : Nat), Reps K M F ds vs → Reps K M F (ds.drop n) (vs.drop n)
  | _, _, 0, r => r
  | _, _, _ + 1, .nil => .nil
  | _, _, n + 1, .cons _ r => Reps.drop n r
theorem Reps.erase : ∀ {ds : List D} {vs : List V} (n : Nat), Reps K M F ds vs → Reps K M F (ds.eraseIdx n) (vs.eraseIdx n)
  | _, _, _, .nil => .nil
  | _, _, 0, .cons _ r => r
  | _, _, n + 1, .cons h r => .cons h (Reps.erase n r)

mutual
theorem RepO.mono (e : Same F F') : ∀ {d : D} {o : Bool} {v : V} {fp : List Addr}, RepO K M F H d o v fp → (∀ a ∈ fp, ∀ u, H a = some u → H' a = some u) → RepO K M F' H' d o v fp
  | _, _, _, _, .fz h, _ => .fz (h.mono e)
  | _, _, _, _, .lst h z r, k => .lst (k _ (by simp) _ h) z (r.mono e)
  | _, _, _, _, .ins h q r, k => .ins (k _ (by simp) _ h) q (RepOs.mono e r fun a ha => k a (by simp [ha]))
theorem RepOs.mono (e : Same F F') : ∀ {os : List Bool} {ds : List D} {vs : List V} {fp : List Addr}, RepOs K M F H os ds vs fp → (∀ a ∈ fp, ∀ u, H a = some u → H' a = some u) → RepOs K M F' H' os ds vs fp
  | _, _, _, _, .nil, _ => .nil
  | _, _, _, _, .cons h r, k => .cons (RepO.mono e h fun a ha => k a (by simp [ha])) (RepOs.mono e r fun a ha => k a (by simp [ha]))
end
theorem RepE.mono (e : Same F F') : ∀ {es : List Sl} {vs : List (Option V)} {fp : List Addr}, RepE K M F H es vs fp → (∀ a ∈ fp, ∀ u, H a = some u → H' a = some u) → RepE K M F' H' es vs fp
  | _, _, _, .nil, _ => .nil
  | _, _, _, .skip r, k => .skip (RepE.mono e r k)
  | _, _, _, .slot h r, k => .slot (h.mono e fun a ha => k a (by simp [ha])) (RepE.mono e r fun a ha => k a (by simp [ha]))
mutual
theorem RepO.there : ∀ {d : D} {o : Bool} {v : V} {fp : List Addr}, RepO K M F H d o v fp → ∀ a ∈ fp, ∃ u, H a = some u
  | _, _, _, _, .fz _, a, h => by simp at h
  | _, _, _, _, .lst h _ _, a, ha => by
    simp at ha
    subst ha
    exact ⟨_, h⟩
  | _, _, _, _, .ins h _ r, a, ha => by
    simp at ha
    rcases ha with rfl | ha
    · exact ⟨_, h⟩
    · exact RepOs.there r a ha
theorem RepOs.there : ∀ {os : List Bool} {ds : List D} {vs : List V} {fp : List Addr}, RepOs K M F H os ds vs fp → ∀ a ∈ fp, ∃ u, H a = some u
  | _, _, _, _, .nil, a, h => by simp at h
  | _, _, _, _, .cons h r, a, ha => by
    rcases List.mem_append.mp ha with ha | ha
    · exact RepO.there h a ha
    · exact RepOs.there r a ha
end
theorem RepE.there : ∀ {es : List Sl} {vs : List (Option V)} {fp : List Addr}, RepE K M F H es vs fp → ∀ a ∈ fp, ∃ u, H a = some u
  | _, _, _, .nil, a, h => by simp at h
  | _, _, _, .skip r, a, h => RepE.there r a h
  | _, _, _, .slot h r, a, ha => by
    rcases List.mem_append.mp ha with ha | ha
    · exact RepO.there h a ha
    · exact RepE.there r a ha
theorem RepE.len : ∀ {es : List Sl} {vs : List (Option V)} {fp : List Addr}, RepE K M F H es vs fp → es.length = vs.length
  | _, _, _, .nil => rfl
  | _, _, _, .skip r => by rw [List.length_cons, List.length_cons, RepE.len r]
  | _, _, _, .slot _ r => by rw [List.length_cons, List.length_cons, RepE.len r]

mutual
theorem RepO.notb : ∀ {d : D} {o : Bool} {v : V} {fp : List Addr}, RepO K M F H d o v fp → ∀ a ∈ fp, ∀ u, H a = some u → NoTb u
  | _, _, _, _, .fz _, a, h, _, _ => by simp at h
  | _, _, _, _, .lst h _ _, a, ha, u, e => by
    simp at ha
    subst ha
    rw [h] at e
    cases e
    intro ps z
    cases z
  | _, _, _, _, .ins h _ r, a, ha, u, e => by
    simp at ha
    rcases ha with rfl | ha
    · rw [h] at e
      cases e
      intro ps z
      cases z
    · exact RepOs.notb r a ha u e
theorem RepOs.notb : ∀ {os : List Bool} {ds : List D} {vs : List V} {fp : List Addr}, RepOs K M F H os ds vs fp → ∀ a ∈ fp, ∀ u, H a = some u → NoTb u
  | _, _, _, _, .nil, a, h, _, _ => by simp at h
  | _, _, _, _, .cons h r, a, ha, u, e => by
    rcases List.mem_append.mp ha with ha | ha
    · exact RepO.notb h a ha u e
    · exact RepOs.notb r a ha u e
end
/-- a list is changed: the tables are kept -/
theorem tabs_mut {T : List (Addr × Str)} {a : Addr} {xs ws : List V} (h : LamX.Tabs T H) (e : H a = some (.lst xs)) : LamX.Tabs T (upd H a (.lst ws)) := fun p hp => by
  obtain ⟨ps, h1, h2, h3⟩ := h p hp
  refine ⟨ps, ?_, h2, fun pos cv hc => ?_⟩
  · rw [upd_ne fun z => by rw [z, e] at h1; cases h1]
    exact h1
  · obtain ⟨c, e1, e2⟩ := h3 pos cv hc
    refine ⟨c, e1, ?_⟩
    rw [upd_ne fun z => by
      rw [z, e] at e2
      unfold LamX.CodeO at e2
      cases e2]
    exact e2
/-- settled from now on -/
def frz (F H : Hp) (fp : List Addr) : Hp := fun a => if a ∈ fp then H a else F a
theorem frz_same {fp : List Addr} (h : ∀ a ∈ fp, F a = none) : Same F (frz F H fp) := fun a u e => by
  unfold frz
  by_cases q : a ∈ fp
  · rw [h a q] at e
    cases e
  · rw [if_neg q]
    exact e
theorem frz_le {fp : List Addr} (h : Same F H) : Same (frz F H fp) H := fun a u e => by
  unfold frz at e
  split at e
  · exact e
  · exact h a u e
theorem frz_in {fp : List Addr} {a : Addr} (h : a ∈ fp) : frz F H fp a = H a := if_pos h
theorem frz_out {fp : List Addr} {a : Addr} (h : a ∉ fp) : frz F H fp a = F a := if_neg h
mutual
theorem RepO.settle (e : Same F F') : ∀ {d : D} {o : Bool} {v : V} {fp : List Addr}, RepO K M F H d o v fp → (∀ a ∈ fp, F' a = H a) → Rep K M F' d v
  | _, _, _, _, .fz h, _ => h.mono e
  | _, _, _, _, .lst h z r, k => .lst (by rw [k _ (by simp)]; exact h) z (r.mono e)
  | _, _, _, _, .ins h q r, k => .ins (by rw [k _ (by simp)]; exact h) q (RepOs.settle e r fun a ha => k a (by simp [ha]))
theorem RepOs.settle (e : Same F F') : ∀ {os : List Bool} {ds : List D} {vs : List V} {fp : List Addr}, RepOs K M F H os ds vs fp → (∀ a ∈ fp, F' a = H a) → Reps K M F' ds vs
  | _, _, _, _, .nil, _ => .nil
  | _, _, _, _, .cons h r, k => .cons (RepO.settle e h fun a ha => k a (by simp [ha])) (RepOs.settle e r fun a ha => k a (by simp [ha]))
end

/-! ### the slots -/
variable {es : List Sl} {vs : List (Option V)} {d : D} {o : Bool} {v : V}
theorem Sta.same (h : Sta K M F H es vs) : Same F H := let ⟨_, _, _, _, e⟩ := h; e.same
theorem Sta.sm (h : Sta K M F H es vs) : Sm M F H := let ⟨_, _, _, _, e⟩ := h; e
theorem Sta.len (h : Sta K M F H es vs) : es.length = vs.length := let ⟨_, r, _⟩ := h; r.len
theorem Sta.drop {s : Sl} {w : Option V} (h : Sta K M F H (s :: es) (w :: vs)) : Sta K M F H es vs := by
  obtain ⟨fp, r, n, f, e⟩ := h
  cases r with
  | skip r => exact ⟨_, r, n, f, e⟩
  | slot a r => exact ⟨_, r, (List.nodup_append.mp n).2.1, fun x hx => f x (List.mem_append_right _ hx), e⟩
theorem Sta.push (h : Sta K M F H es vs) (r : Rep K M F d v) : Sta K M F H (some (d, false) :: es) (some v :: vs) := by
  obtain ⟨fp, q, n, f, e⟩ := h
  exact ⟨[] ++ fp, .slot (.fz r) q, n, f, e⟩
theorem Sta.pushN {w : Option V} (h : Sta K M F H es vs) : Sta K M F H (none :: es) (w :: vs) := by
  obtain ⟨fp, q, n, f, e⟩ := h
  exact ⟨fp, .skip q, n, f, e⟩
theorem Sta.head (h : Sta K M F H (some (d, o) :: es) (some v :: vs)) : ∃ fp, RepO K M F H d o v fp := by
  obtain ⟨fp, r, _⟩ := h
  cases r with
  | slot a _ => exact ⟨_, a⟩
theorem Sta.headF (h : Sta K M F H (some (d, false) :: es) (some v :: vs)) : Rep K M F d v := by
  obtain ⟨fp, r⟩ := h.head
  cases r with
  | fz q => exact q
/-- what comes first is settled -/
theorem Sta.settle (h : Sta K M F H (some (d, o) :: es) (some v :: vs)) : ∃ F', Same F F' ∧ Rep K M F' d v ∧ Sta K M F' H es vs := by
  obtain ⟨fp, r, n, f, e⟩ := h
  cases r with
  | slot a r =>
    rename_i fp fq
    have fa : ∀ x ∈ fp, F x = none := fun x hx => f x (List.mem_append_left _ hx)
    have s := frz_same (H := H) fa
    obtain ⟨n1, n2, n3⟩ := List.nodup_append.mp n
    refine ⟨frz F H fp, s, a.settle s fun x hx => frz_in hx, fq, r.mono s fun _ _ _ q => q, n2, fun x hx => ?_, ⟨frz_le e.same, fun z => ⟨(e.tb z).1, fun b o q => ?_⟩⟩⟩
    · rw [frz_out fun z => n3 x z x hx rfl]
      exact f x (List.mem_append_right _ hx)
    · by_cases w : b ∈ fp
      · rw [frz_in w] at q
        exact a.notb b w o q
      · rw [frz_out w] at q
        exact (e.tb z).2 b o q
/-- more is settled, all that is tracked stands -/
theorem Sta.mono (h : Sta K M F H es vs) (s : Same F F') (k : Same H H') (e : Sm M F' H') (new : ∀ a u, H a = some u → F a = none → F' a = none) : Sta K M F' H' es vs := by
  obtain ⟨fp, r, n, f, _⟩ := h
  refine ⟨fp, r.mono s fun a _ u q => k a u q, n, fun a ha => ?_, e⟩
  obtain ⟨u, q⟩ := r.there a ha
  exact new a u q (f a ha)
/-- a new object, settled at once -/
theorem Sta.new {p : Addr} {ob : HO} (h : Sta K M F H es vs) (hp : H p = none) (nt : NoTb ob := by intro ps z; cases z) : Sta K M (upd F p ob) (upd H p ob) es vs := by
  have fp : F p = none := by
    cases q : F p with
    | none => rfl
    | some u =>
      rw [h.same p u q] at hp
      cases hp
  refine h.mono (same_new fp) (same_new hp) ⟨same_upd h.same, fun z => ⟨(h.sm.tb z).1.ext fun b o q => same_new hp b o q, fun a o q => ?_⟩⟩ fun a u q z => ?_
  · by_cases w : a = p
    · subst w
      rw [upd_same] at q
      cases q
      exact nt
    · rw [upd_ne w] at q
      exact (h.sm.tb z).2 a o q
  rw [upd_ne (ne_of_none q hp)]
  exact z
theorem Sta.free {p : Addr} (h : Sta K M F H es vs) (hp : H p = none) : F p = none := by
  cases q : F p with
  | none => rfl
  | some u =>
    rw [h.same p u q] at hp
    cases hp
theorem RepE.notb : ∀ {es : List Sl} {vs : List (Option V)} {fp : List Addr}, RepE K M F H es vs fp → ∀ a ∈ fp, ∀ u, H a = some u → NoTb u
  | _, _, _, .nil, a, h, _, _ => by simp at h
  | _, _, _, .skip r, a, h, u, e => RepE.notb r a h u e
  | _, _, _, .slot h r, a, ha, u, e => by
    rcases List.mem_append.mp ha with ha | ha
    · exact h.notb a ha u e
    · exact RepE.notb r a ha u e
/-- a lambda is made -/
theorem Sta.lam {H1 : Hp} (h : Sta K M F H es vs) (eN : LamX.ExtN H H1) (hT : LamX.Tabs M.tb H1) (ht : M.tb ≠ []) : Sta K M F H1 es vs := by
  obtain ⟨fp, r, n, f, e⟩ := h
  have q := (e.tb ht).2
  exact ⟨fp, r.mono (Same.refl F) fun a ha u z => eN a u z (r.notb a ha u z), n, f, fun a u z => eN a u (e.same a u z) (q a u z), fun _ => ⟨hT, q⟩⟩
/-- a new list, ours -/
theorem Sta.newL {p : Addr} {l : List D} {ws : List V} (h : Sta K M F H es vs) (hp : H p = none) (r : Reps K M F l ws) (z : ws.length ≤ LIM) :
    Sta K M F (upd H p (.lst ws)) (some (.lst l, true) :: es) (some (.ref p) :: vs) := by
  obtain ⟨fp, q, n, f, e⟩ := h
  have np : ∀ a ∈ fp, a ≠ p := fun a ha z => by
    obtain ⟨u, w⟩ := q.there a ha
    rw [z, hp] at w
    cases w
  have hF : F p = none := by
    cases w : F p with
    | none => rfl
    | some u =>
      rw [e.same p u w] at hp
      cases hp
  refine ⟨[p] ++ fp, .slot (.lst upd_same z r) (q.mono (Same.refl F) fun a ha u w => ?_), ?_, fun a ha => ?_, ⟨fun a u w => ?_, fun z => ⟨(e.tb z).1.ext fun b o q => same_new hp b o q, (e.tb z).2⟩⟩⟩
  · rw [upd_ne (np a ha)]
    exact w
  · refine List.nodup_append.mpr ⟨(by simp), n, fun a ha b hb => ?_⟩
    simp at ha
    subst ha
    exact (np b hb).symm
  · rcases List.mem_append.mp ha with z | z
    · simp at z
      rw [z]
      exact hF
    · exact f a z
  · rw [upd_ne (ne_of_none w hF)]
    exact e.same a u w
/-- what comes first is a list of ours: it is changed -/
theorem Sta.mut {a : Addr} {l l' : List D} {ws : List V} (h : Sta K M F H (some (.lst l, true) :: es) (some (.ref a) :: vs)) (r : Reps K M F l' ws) (z : ws.length ≤ LIM) :
    Sta K M F (upd H a (.lst ws)) (some (.lst l', true) :: es) (some (.ref a) :: vs) := by
  obtain ⟨fp, q, n, f, e⟩ := h
  cases q with
  | slot b q =>
    cases b with
    | lst hb zb rb =>
      rename_i fq _
      obtain ⟨n1, n2, n3⟩ := List.nodup_append.mp n
      have na : ∀ x ∈ fq, x ≠ a := fun x hx w => n3 a (by simp) x hx w.symm
      refine ⟨[a] ++ fq, .slot (.lst upd_same z r) (q.mono (Same.refl F) fun x hx u w => ?_), n, f, ⟨fun x u w => ?_, fun z => ⟨tabs_mut (e.tb z).1 hb, (e.tb z).2⟩⟩⟩
      · rw [upd_ne (na x hx)]
        exact w
      · have hF : F a = none := f a (by simp)
        rw [upd_ne (ne_of_none w hF)]
        exact e.same x u w
theorem Sta.headL {l : List D} (h : Sta K M F H (some (.lst l, true) :: es) (some v :: vs)) : ∃ a ws, v = .ref a ∧ H a = some (.lst ws) ∧ ws.length ≤ LIM ∧ Reps K M F l ws := by
  obtain ⟨fp, r⟩ := h.head
  cases r with
  | lst hb zb rb => exact ⟨_, _, rfl, hb, zb, rb⟩

theorem RepE.take : ∀ {es : List Sl} {vs : List (Option V)} {fp : List Addr} {i : Nat} {d : D} {o : Bool}, RepE K M F H es vs fp → es[i]? = some (some (d, o)) →
    ∃ v fpR fq, vs[i]? = some (some v) ∧ RepO K M F H d o v fpR ∧ RepE K M F H (es.set i none) vs fq ∧ (fpR ++ fq).Perm fp
  | _, _, _, _, _, _, .nil, h => by simp at h
  | _, _, _, 0, _, _, .skip r, h => by simp at h
  | _, _, _, i + 1, d, o, .skip r, h => by
    obtain ⟨v, fpR, fq, e, a, b, c⟩ := RepE.take (i := i) (d := d) (o := o) r (by simpa using h)
    exact ⟨v, fpR, fq, by simpa using e, a, .skip b, c⟩
  | _, _, _, 0, _, _, .slot h r, e => by
    simp at e
    obtain ⟨rfl, rfl⟩ := e
    exact ⟨_, _, _, rfl, h, .skip r, .refl _⟩
  | _, _, _, i + 1, d, o, .slot h r, e => by
    obtain ⟨v, fpR, fq, e, a, b, c⟩ := RepE.take (i := i) (d := d) (o := o) r (by simpa using e)
    rename_i fp fq' _
    refine ⟨v, fpR, fp ++ fq, by simpa using e, a, .slot h b, ?_⟩
    refine (List.perm_append_comm_assoc fpR fp fq).trans ?_
    exact c.append_left fp
theorem RepE.put {d : D} {o : Bool} {v : V} {fpR : List Addr} (h : RepO K M F H d o v fpR) : ∀ {es : List Sl} {vs : List (Option V)} {fp : List Addr} {i : Nat}, RepE K M F H es vs fp → i < es.length →
    ∃ fq, RepE K M F H (es.set i (some (d, o))) (vs.set i (some v)) fq ∧ ∃ fx, (fq ++ fx).Perm (fpR ++ fp)
  | _, _, _, _, .nil, hi => by simp at hi
  | _, _, _, 0, .skip r, hi => ⟨_, .slot h r, [], by simp⟩
  | _, _, _, 0, .slot q r, hi => by
    rename_i fp fq
    refine ⟨_, .slot h r, fp, ?_⟩
    rw [List.append_assoc]
    exact (List.perm_append_comm (l₁ := fq) (l₂ := fp)).append_left fpR
  | _, _, _, i + 1, .skip r, hi => by
    obtain ⟨fq, a, fx, b⟩ := RepE.put h (i := i) r (by simpa using hi)
    exact ⟨fq, .skip a, fx, b⟩
  | _, _, _, i + 1, .slot q r, hi => by
    obtain ⟨fq, a, fx, b⟩ := RepE.put h (i := i) r (by simpa using hi)
    rename_i fp fq'
    refine ⟨fp ++ fq, .slot q a, fx, ?_⟩
    rw [List.append_assoc]
    exact (b.append_left fp).trans (List.perm_append_comm_assoc fp fpR fq')
theorem Sta.take {i : Nat} (h : Sta K M F H es vs) (e : es[i]? = some (some (d, o))) : ∃ v, vs[i]? = some (some v) ∧ Sta K M F H (some (d, o) :: es.set i none) (some v :: vs) := by
  obtain ⟨fp, r, n, f, q⟩ := h
  obtain ⟨v, fpR, fq, a, b, c, p⟩ := r.take e
  exact ⟨v, a, _, .slot b c, p.nodup_iff.mpr n, fun x hx => f x (p.mem_iff.mp hx), q⟩
theorem Sta.put {i : Nat} (h : Sta K M F H (some (d, o) :: es) (some v :: vs)) (hi : i < es.length) : Sta K M F H (es.set i (some (d, o))) (vs.set i (some v)) := by
  obtain ⟨fp, r, n, f, q⟩ := h
  cases r with
  | slot a r =>
    obtain ⟨fq, b, fx, p⟩ := RepE.put a r hi
    refine ⟨fq, b, ?_, fun x hx => f x (p.mem_iff.mp (List.mem_append_left _ hx)), q⟩
    exact (List.nodup_append.mp (p.nodup_iff.mpr n)).1
theorem Sta.wipe {i : Nat} (h : Sta K M F H es vs) : Sta K M F H (es.set i none) vs := by
  cases e : es[i]? with
  | none =>
    have : es.length ≤ i := List.getElem?_eq_none_iff.mp e
    rw [List.set_eq_of_length_le this]
    exact h
  | some s =>
    cases s with
    | none =>
      obtain ⟨hi, q⟩ := List.getElem?_eq_some_iff.mp e
      have : es.set i none = es := by rw [← q]; exact List.set_getElem_self hi
      rw [this]
      exact h
    | some p =>
      obtain ⟨d, o⟩ := p
      obtain ⟨v, _, z⟩ := h.take e
      exact z.drop
theorem Sta.at {i : Nat} (h : Sta K M F H es vs) (e : es[i]? = some (some (d, o))) : ∃ v fp, vs[i]? = some (some v) ∧ RepO K M F H d o v fp := by
  obtain ⟨v, a, z⟩ := h.take e
  obtain ⟨fp, r⟩ := z.head
  exact ⟨v, fp, a, r⟩
theorem set_same_of {α : Type} {l : List α} {i : Nat} {x : α} (h : l[i]? = some x) : l.set i x = l := by
  obtain ⟨hi, q⟩ := List.getElem?_eq_some_iff.mp h
  rw [← q]
  exact List.set_getElem_self hi
theorem RepE.app {es fs : List Sl} {vs ws : List (Option V)} {fp fq : List Addr} (h : RepE K M F H es vs fp) (r : RepE K M F H fs ws fq) : RepE K M F H (es ++ fs) (vs ++ ws) (fp ++ fq) := by
  induction h with
  | nil => exact r
  | skip _ ih => exact .skip ih
  | slot a _ ih =>
    rw [List.append_assoc]
    exact .slot a ih
theorem RepE.cut : ∀ {es fs : List Sl} {vs ws : List (Option V)} {fp : List Addr}, RepE K M F H (es ++ fs) (vs ++ ws) fp → es.length = vs.length → ∃ f1 f2, fp = f1 ++ f2 ∧ RepE K M F H es vs f1 ∧ RepE K M F H fs ws f2
  | [], _, [], _, fp, h, _ => ⟨[], fp, rfl, .nil, h⟩
  | _ :: _, _, [], _, _, _, h => by simp at h
  | [], _, _ :: _, _, _, _, h => by simp at h
  | e :: es, fs, v :: vs, ws, fp, h, hl => by
    cases h with
    | skip h =>
      obtain ⟨f1, f2, e, a, b⟩ := RepE.cut (es := es) (fs := fs) (vs := vs) (ws := ws) h (by simpa using hl)
      exact ⟨f1, f2, e, .skip a, b⟩
    | slot q h =>
      obtain ⟨f1, f2, e, a, b⟩ := RepE.cut (es := es) (fs := fs) (vs := vs) (ws := ws) h (by simpa using hl)
      exact ⟨_, f2, by rw [e, List.append_assoc], .slot q a, b⟩
theorem Sta.cut {es fs : List Sl} {vs ws : List (Option V)} (h : Sta K M F H (es ++ fs) (vs ++ ws)) (hl : es.length = vs.length) : Sta K M F H es vs := by
  obtain ⟨fp, r, n, f, e⟩ := h
  obtain ⟨f1, f2, rfl, a, b⟩ := r.cut hl
  exact ⟨f1, a, (List.nodup_append.mp n).1, fun x hx => f x (List.mem_append_left _ hx), e⟩
theorem Reps.slots : ∀ {ds : List D} {vs : List V}, Reps K M F ds vs → RepE K M F H ((ds.map fun d => (d, false)).map Option.some) (vs.map Option.some) []
  | _, _, .nil => .nil
  | _, _, .cons h r => .slot (.fz h) (Reps.slots r)
theorem Sta.args {es : List Sl} {vs : List (Option V)} {ds : List D} {ws : List V} (h : Sta K M F H es vs) (r : Reps K M F ds ws) : Sta K M F H (es ++ (ds.map fun d => (d, false)).map Option.some) (vs ++ ws.map Option.some) := by
  obtain ⟨fp, q, n, f, e⟩ := h
  exact ⟨fp ++ [], q.app r.slots, by simpa using n, by simpa using f, e⟩
theorem RepE.nones : ∀ n : Nat, RepE K M F H (List.replicate n Option.none) (List.replicate n Option.none) []
  | 0 => .nil
  | n + 1 => .skip (RepE.nones n)
theorem Sta.nones {es : List Sl} {vs : List (Option V)} (n : Nat) (h : Sta K M F H es vs) : Sta K M F H (es ++ List.replicate n Option.none) (vs ++ List.replicate n Option.none) := by
  obtain ⟨fp, q, k, f, e⟩ := h
  exact ⟨fp ++ [], q.app (.nones n), by simpa using k, by simpa using f, e⟩
theorem Sta.swap {d' : D} {o' : Bool} {v' : V} (h : Sta K M F H (some (d, o) :: some (d', o') :: es) (some v :: some v' :: vs)) : Sta K M F H (some (d', o') :: some (d, o) :: es) (some v' :: some v :: vs) := by
  obtain ⟨fp, r, n, f, e⟩ := h
  cases r with
  | slot a r =>
    cases r with
    | slot b r =>
      rename_i f1 f2 f3
      have p : (f2 ++ (f1 ++ f3)).Perm (f1 ++ (f2 ++ f3)) := List.perm_append_comm_assoc f2 f1 f3
      exact ⟨_, .slot b (.slot a r), p.nodup_iff.mpr n, fun x hx => f x (p.mem_iff.mp hx), e⟩
theorem Sta.last (h : Sta K M F H (some (d, o) :: es) (some v :: vs)) : Sta K M F H (es ++ [some (d, o)]) (vs ++ [some v]) := by
  obtain ⟨fp, r, n, f, e⟩ := h
  cases r with
  | slot a r =>
    rename_i f1 f2
    have p : (f2 ++ (f1 ++ [])).Perm (f1 ++ f2) := by
      rw [List.append_nil]
      exact List.perm_append_comm
    exact ⟨_, r.app (.slot a .nil), p.nodup_iff.mpr n, fun x hx => f x (p.mem_iff.mp hx), e⟩
theorem Sta.mid {as bs : List Sl} {us ws : List (Option V)} (h : Sta K M F H (as ++ Option.some (d, o) :: bs) (us ++ Option.some v :: ws)) (hl : as.length = us.length) : Sta K M F H (Option.some (d, o) :: (as ++ bs)) (Option.some v :: (us ++ ws)) := by
  obtain ⟨fp, r, n, f, e⟩ := h
  obtain ⟨f1, f2, rfl, a, b⟩ := r.cut hl
  cases b with
  | slot q b =>
    rename_i f3 f4
    have p : (f3 ++ (f1 ++ f4)).Perm (f1 ++ (f3 ++ f4)) := List.perm_append_comm_assoc f3 f1 f4
    exact ⟨_, .slot q (a.app b), p.nodup_iff.mpr n, fun x hx => f x (p.mem_iff.mp hx), e⟩
/-- a slot's thing is settled -/
theorem Sta.settleAt {i : Nat} (h : Sta K M F H es vs) (e : es[i]? = some (some (d, o))) : ∃ F' v, Same F F' ∧ vs[i]? = some (some v) ∧ Rep K M F' d v ∧ Sta K M F' H (es.set i (some (d, false))) vs := by
  obtain ⟨v, a, z⟩ := h.take e
  obtain ⟨F', s, r, z'⟩ := z.settle
  have hi : i < es.length := (List.getElem?_eq_some_iff.mp e).1
  have q := (z'.push r).put (i := i) (by simpa using hi)
  rw [List.set_set, set_same_of a] at q
  exact ⟨F', v, s, a, r, q⟩
end
end PL
/-! PLExp: what an expression's reckoning promises of the machine: words, and the operators by values. -/
namespace PL
open PySem PySem.Spec PyProof.Rows L2

theorem lim_line : LIM ≤ sizeLine := by decide
theorem lim_le {n : Nat} (h : n ≤ LIM) : n ≤ sizeLine := Nat.le_trans h lim_line
theorem lim_lt {n : Nat} (h : n < LIM) : n < sizeLine := Nat.lt_of_lt_of_le h lim_line

theorem _root_.L2.PE.imp {X : Cx} {e : Expr} {t t' : TE} (h : PE X e t) (k : ∀ σ H Q, t' σ H Q → t σ H Q) : PE X e t' := ⟨fun pins s σ H Q I q => h.run pins s σ H Q I (k _ _ _ q)⟩
theorem _root_.L2.PT.imp {X : Cx} {e : Expr} {t t' : TT} (h : PT X e t) (k : ∀ σ H Q, t' σ H Q → t σ H Q) : PT X e t' := ⟨fun pins s σ H Q I q => h.run pins s σ H Q I (k _ _ _ q)⟩
theorem _root_.L2.PW.imp {X : Cx} {e : Expr} {t t' : TT} (h : PW X e t) (k : ∀ σ H Q, t' σ H Q → t σ H Q) : PW X e t' := ⟨fun w pins s σ H Q I q => h.run w pins s σ H Q I (k _ _ _ q)⟩
theorem _root_.L2.PA.imp {X : Cx} {e : List Expr} {t t' : TA} (h : PA X e t) (k : ∀ σ H Q, t' σ H Q → t σ H Q) : PA X e t' := ⟨fun p pins s σ H Q I q => h.run p pins s σ H Q I (k _ _ _ q)⟩
theorem _root_.L2.PS.imp {X : Cx} {e : Stmt} {t t' : TS} (h : PS X e t) (k : ∀ D σ H, t' D σ H → t D σ H) : PS X e t' := ⟨fun pins s σ H D I q => h.run pins s σ H D I (k _ _ _ q)⟩
theorem _root_.L2.PSs.imp {X : Cx} {e : List Stmt} {t t' : TS} (h : PSs X e t) (k : ∀ D σ H, t' D σ H → t D σ H) : PSs X e t' := ⟨fun pins s σ H D I q => h.run pins s σ H D I (k _ _ _ q)⟩
theorem _root_.L2.PI.imp {X : Cx} {tg e : Expr} {t t' : TI} (h : PI X tg e t) (k : ∀ σ H Q, t' σ H Q → t σ H Q) : PI X tg e t' := ⟨fun pins s σ H Q I q => h.run pins s σ H Q I (k _ _ _ q)⟩
theorem _root_.L2.PO.imp {X : Cx} {e : Option Expr} {t t' : TO} (h : PO X e t) (k : ∀ σ H Q, t' σ H Q → t σ H Q) : PO X e t' := ⟨fun pins s σ H Q I q => h.run pins s σ H Q I (k _ _ _ q)⟩

section
variable (K : PySem.W.Frag) (M : Nm) (Γ : Ctx) (call : Nat → List (D × Bool) → CRes)

/-- an exception's class and dict, by what it is -/
def RepX (F : Hp) (x : Exn) (cls : Value) (d : Option Addr) : Prop :=
  cls = .ref (M.cl x.cls) ∧ ((x.val = .non ∧ d = none) ∨ ∃ (dd : Addr) (fs : List (Str × V)) (v : V), x.val ≠ .non ∧ d = some dd ∧ F dd = some (.xd fs) ∧ fs.lookup (M.xf x.cls) = some v ∧ Rep K M F x.val v)
/-- from a reckoning's result: what is then to hold -/
def PostE (W : WX) (F : Hp) (ext : List Sl) (xv : List (Option V)) (σ : L2.St) (r : Res (D × Bool)) (Q : VK) : Prop :=
  match r with
  | .ok r env' => ∀ v F' H', Same F F' → Sta K M F' H' (some r :: (ext ++ env')) (some v :: (xv ++ σ)) → Q v H'
  | .exc x env' => ∀ cls d F' H', Same F F' → RepX K M F' x cls d → Sta K M F' H' (ext ++ env') (xv ++ σ) → W cls d σ H'
  | .err => False
/-- nothing is let out -/
def WF : WX := fun _ _ _ _ => False
/-- the same, the result settled -/
def SetE {α : Type} (F : Hp) (ext : List Sl) (xv : List (Option V)) (σ : L2.St) (r : Res α) (g : α → D) (Q : VK) : Prop :=
  match r with
  | .ok r env' => ∀ v F' H', Same F F' → Rep K M F' (g r) v → Sta K M F' H' (ext ++ env') (xv ++ σ) → Q v H'
  | _ => False
def PostA (F : Hp) (ext : List Sl) (xv : List (Option V)) (σ : L2.St) (r : Res (List D)) (Q : List V → Hp → Prop) : Prop :=
  match r with
  | .ok ds env' => ∀ vs F' H', Same F F' → Reps K M F' ds vs → Sta K M F' H' (ext ++ env') (xv ++ σ) → Q vs H'
  | _ => False
def PostT (F : Hp) (ext : List Sl) (xv : List (Option V)) (σ : L2.St) (r : Res (D × Bool)) (Q : Bool → Hp → Prop) : Prop :=
  match r with
  | .ok (.bl b, _) env' => ∀ F' H', Same F F' → Sta K M F' H' (ext ++ env') (xv ++ σ) → Q b H'
  | _ => False
def PostO (F : Hp) (ext : List Sl) (xv : List (Option V)) (σ : L2.St) (r : Res (Option Int)) (Q : Option Int → Hp → Prop) : Prop :=
  match r with
  | .ok o env' => ∀ F' H', Same F F' → Sta K M F' H' (ext ++ env') (xv ++ σ) → Q o H'
  | _ => False

def TEv (W : WX) (e : E) : TE := fun σ H Q => ∃ F ext xv env, Sta K M F H (ext ++ env) (xv ++ σ) ∧ ext.length = xv.length ∧ PostE K M W F ext xv σ (ev Γ call e env) Q
def TEs (es : Es) : TA := fun σ H Q => ∃ F ext xv env, Sta K M F H (ext ++ env) (xv ++ σ) ∧ ext.length = xv.length ∧ PostA K M F ext xv σ (evs Γ call es env) Q
def TTt (e : E) : TT := fun σ H Q => ∃ F ext xv env, Sta K M F H (ext ++ env) (xv ++ σ) ∧ ext.length = xv.length ∧ PostT K M F ext xv σ (ev Γ call e env) Q
def TOo (o : O) : TO := fun σ H Q => ∃ F ext xv env, Sta K M F H (ext ++ env) (xv ++ σ) ∧ ext.length = xv.length ∧ PostO K M F ext xv σ (evo Γ call o env) Q
end

section
variable {K : PySem.W.Frag} {M : Nm} {Γ : Ctx} {call : Nat → List (D × Bool) → CRes} {F H : Hp} {ext : List Sl} {xv : List (Option V)} {σ : L2.St} {env : Fm} {W : WX}

theorem post_bind {α : Type} {r : Res α} {f : α → Fm → Res (D × Bool)} {Q : VK} (h : PostE K M W F ext xv σ (r.bind f) Q) : ∃ a e, r = .ok a e ∧ PostE K M W F ext xv σ (f a e) Q := by
  cases r with
  | ok a e => exact ⟨a, e, rfl, h⟩
  | exc x e => exact h.elim
  | err => exact h.elim
theorem postA_bind {α : Type} {r : Res α} {f : α → Fm → Res (List D)} {Q : List V → Hp → Prop} (h : PostA K M F ext xv σ (r.bind f) Q) : ∃ a e, r = .ok a e ∧ PostA K M F ext xv σ (f a e) Q := by
  cases r with
  | ok a e => exact ⟨a, e, rfl, h⟩
  | exc x e => exact h.elim
  | err => exact h.elim
theorem postT_bind {α : Type} {r : Res α} {f : α → Fm → Res (D × Bool)} {Q : Bool → Hp → Prop} (h : PostT K M F ext xv σ (r.bind f) Q) : ∃ a e, r = .ok a e ∧ PostT K M F ext xv σ (f a e) Q := by
  cases r with
  | ok a e => exact ⟨a, e, rfl, h⟩
  | exc x e => exact h.elim
  | err => exact h.elim
theorem postO_bind {α : Type} {r : Res α} {f : α → Fm → Res (Option Int)} {Q : Option Int → Hp → Prop} (h : PostO K M F ext xv σ (r.bind f) Q) : ∃ a e, r = .ok a e ∧ PostO K M F ext xv σ (f a e) Q := by
  cases r with
  | ok a e => exact ⟨a, e, rfl, h⟩
  | exc x e => exact h.elim
  | err => exact h.elim
theorem post_lift {o : Option (D × Bool)} {e : Fm} {Q : VK} (h : PostE K M W F ext xv σ (Res.lift o e) Q) : ∃ a, o = some a ∧ PostE K M W F ext xv σ (.ok a e) Q := by
  cases o with
  | some a => exact ⟨a, rfl, h⟩
  | none => exact h.elim

/-- a part is reckoned, its result settled -/
theorem T_sub {e : E} {R : VK} (st : Sta K M F H (ext ++ env) (xv ++ σ)) (hl : ext.length = xv.length) {x : D × Bool} {e1 : Fm} (h1 : ev Γ call e env = .ok x e1)
    (k : ∀ v F' H', Same F F' → Rep K M F' x.1 v → Sta K M F' H' (ext ++ e1) (xv ++ σ) → R v H') : TEv K M Γ call W e σ H R := by
  refine ⟨F, ext, xv, env, st, hl, ?_⟩
  rw [h1]
  intro v F' H' s st'
  obtain ⟨d, o⟩ := x
  obtain ⟨F'', s2, r, st2⟩ := st'.settle
  exact k v F'' H' (s.trans s2) r st2
theorem T_keep {e : E} {R : VK} (st : Sta K M F H (ext ++ env) (xv ++ σ)) (hl : ext.length = xv.length) {x : D × Bool} {e1 : Fm} (h1 : ev Γ call e env = .ok x e1)
    (k : ∀ v F' H', Same F F' → Sta K M F' H' (some x :: (ext ++ e1)) (some v :: (xv ++ σ)) → R v H') : TEv K M Γ call W e σ H R := by
  refine ⟨F, ext, xv, env, st, hl, ?_⟩
  rw [h1]
  exact k
theorem Ts_sub {es : Es} {R : List V → Hp → Prop} (st : Sta K M F H (ext ++ env) (xv ++ σ)) (hl : ext.length = xv.length) {x : List D} {e1 : Fm} (h1 : evs Γ call es env = .ok x e1)
    (k : ∀ vs F' H', Same F F' → Reps K M F' x vs → Sta K M F' H' (ext ++ e1) (xv ++ σ) → R vs H') : TEs K M Γ call es σ H R := by
  refine ⟨F, ext, xv, env, st, hl, ?_⟩
  rw [h1]
  exact k
theorem Tt_sub {e : E} {R : Bool → Hp → Prop} (st : Sta K M F H (ext ++ env) (xv ++ σ)) (hl : ext.length = xv.length) {b o : Bool} {e1 : Fm} (h1 : ev Γ call e env = .ok (.bl b, o) e1)
    (k : ∀ F' H', Same F F' → Sta K M F' H' (ext ++ e1) (xv ++ σ) → R b H') : TTt K M Γ call e σ H R := by
  refine ⟨F, ext, xv, env, st, hl, ?_⟩
  rw [h1]
  exact k
theorem To_sub {e : O} {R : Option Int → Hp → Prop} (st : Sta K M F H (ext ++ env) (xv ++ σ)) (hl : ext.length = xv.length) {b : Option Int} {e1 : Fm} (h1 : evo Γ call e env = .ok b e1)
    (k : ∀ F' H', Same F F' → Sta K M F' H' (ext ++ e1) (xv ++ σ) → R b H') : TOo K M Γ call e σ H R := by
  refine ⟨F, ext, xv, env, st, hl, ?_⟩
  rw [h1]
  exact k
end

/-! ### operators by values -/
section
variable {K : PySem.W.Frag} {M : Nm} {F H : Hp} {es : List Sl} {vs : List (Option V)}

theorem rep_int {i : Int} {v : V} (h : Rep K M F (.int i) v) : v = .int i := by
  cases h
  rfl
theorem rep_bl {i : Bool} {v : V} (h : Rep K M F (.bl i) v) : v = .bl i := by
  cases h
  rfl
theorem rep_non {v : V} (h : Rep K M F .non v) : v = .non := by
  cases h
  rfl
theorem rep_str {i : Str} {v : V} (h : Rep K M F (.str i) v) : v = .str i := by
  cases h
  rfl
theorem rep_tup {l : List D} {v : V} (h : Rep K M F (.tup l) v) : ∃ a ws, v = .ref a ∧ SqT K F a ws ∧ ws.length ≤ LIM ∧ Reps K M F l ws := by
  cases h with
  | tup a b c => exact ⟨_, _, rfl, a, b, c⟩
theorem rep_lst {l : List D} {v : V} (h : Rep K M F (.lst l) v) : ∃ a ws, v = .ref a ∧ F a = some (.lst ws) ∧ ws.length ≤ LIM ∧ Reps K M F l ws := by
  cases h with
  | lst a b c => exact ⟨_, _, rfl, a, b, c⟩

/-- what is wanted behind an operation -/
abbrev Aft (K : PySem.W.Frag) (M : Nm) (F : Hp) (es : List Sl) (vs : List (Option V)) (z : D × Bool) (Q : VK) : Prop := ∀ u F' H', Same F F' → Sta K M F' H' (some z :: es) (some u :: vs) → Q u H'
theorem aft_at {z : D} {u : V} {Q : VK} (st : Sta K M F H es vs) (r : Rep K M F z u) (k : Aft K M F es vs (z, false) Q) : Q u H := k u F H (Same.refl F) (st.push r)
theorem aft_tup {l : List D} {ws : List V} {Q : VK} (st : Sta K M F H es vs) (r : Reps K M F l ws) (z : ws.length ≤ LIM) (k : Aft K M F es vs (.tup l, false) Q) : ∀ p, H p = none → Q (.ref p) (upd H p (.tup ws)) := fun p hp => by
  have s := st.new (ob := .tup ws) hp
  have sf : Same F (upd F p (.tup ws)) := same_new (st.free hp)
  exact k _ _ _ sf (s.push (.tup (.inl (.inl upd_same)) z (r.mono sf)))
theorem aft_lst {l : List D} {ws : List V} {Q : VK} (st : Sta K M F H es vs) (r : Reps K M F l ws) (z : ws.length ≤ LIM) (k : Aft K M F es vs (.lst l, true) Q) : ∀ p, H p = none → Q (.ref p) (upd H p (.lst ws)) := fun p hp =>
  k _ _ _ (Same.refl F) (st.newL hp r z)

def bop : BOp → Operator
  | .add => .Add | .sub => .Sub | .mul => .Mult | .div => .FloorDiv | .mod => .Mod | .pow => .Pow
/-- a row, a text, a tuple one time is itself -/
def rB (K : PySem.W.Frag) : BOp → R2
  | .add => fun x y H Q => rI0 (fun i j => .int (i + j)) x y H Q ∨ rCatA K x y H Q ∨ rCat x y H Q
  | .sub => rI0 fun i j => .int (i - j)
  | .mul => fun x y H Q => rI CMul (fun i j => .int (i * j)) x y H Q ∨ rI CMulW (fun i j => .int (i * j)) x y H Q ∨ rRep x y H Q ∨ rRepT K x y H Q
  | .div => rI CDivW fun i j => .int (i / j)
  | .mod => rI (fun _ j => 0 < j) fun i j => .int (i % j)
  | .pow => rI CPow fun i j => .int (i ^ j.toNat)
theorem op_bin {X : Cx} : ∀ op, OpR X (binaryOp (bop op)) (rB X.K op)
  | .add => op_add.or (op_catA.or op_cat)
  | .sub => op_sub
  | .mul => op_mul.or (op_mulW.or (op_rep.or op_repT))
  | .div => op_fdivW
  | .mod => op_mod
  | .pow => op_pow

theorem Reps.rep {l : List D} {ws : List V} (h : Reps K M F l ws) : ∀ k : Nat, Reps K M F (List.replicate k l).flatten (List.replicate k ws).flatten
  | 0 => .nil
  | k + 1 => by
    rw [List.replicate_succ, List.replicate_succ, List.flatten_cons, List.flatten_cons]
    exact h.app (Reps.rep h k)
theorem Reps.nil_iff {l : List D} {ws : List V} (h : Reps K M F l ws) : l = [] ↔ ws = [] := by
  cases h with
  | nil => simp
  | cons _ _ => simp
theorem len_rep_flat {α : Type} (l : List α) : ∀ k : Nat, (List.replicate k l).flatten.length = k * l.length
  | 0 => by simp
  | k + 1 => by
    rw [List.replicate_succ, List.flatten_cons, List.length_append, len_rep_flat l k, Nat.succ_mul, Nat.add_comm]

theorem bin_ok {op : BOp} {x y : D} {z : D × Bool} {v w : V} {Q : VK} (st : Sta K M F H es vs) (rx : Rep K M F x v) (ry : Rep K M F y w) (h : biD op x y = some z) (k : Aft K M F es vs z Q) (k2 : op = .mul → ∀ l j, x = .tup l → y = .int j → 2 ≤ j) : rB K op v w H Q := by
  have sm := st.same
  cases op with
  | add =>
    cases x <;> cases y <;> simp only [biD, reduceCtorEq, Option.some.injEq] at h
    · subst h
      cases rep_int rx
      cases rep_int ry
      exact .inl ⟨_, _, rfl, rfl, aft_at st (.int _) k⟩
    · split at h
      · rename_i l m hl
        cases h
        obtain ⟨a, us, rfl, h1, z1, r1⟩ := rep_tup rx
        obtain ⟨b, ws, rfl, h2, z2, r2⟩ := rep_tup ry
        have e1 := r1.len
        have e2 := r2.len
        refine .inr (.inl ⟨a, b, us, ws, rfl, rfl, same_sqT sm h1, same_sqT sm h2, lim_le (by omega), fun e => ?_, fun e1 e2 => ?_, fun _ _ => ?_⟩)
        · have q := r1.nil_iff.mpr e
          subst q
          exact aft_at st ry k
        · have q := r2.nil_iff.mpr e2
          subst q
          rw [List.append_nil] at k
          exact aft_at st rx k
        · exact aft_tup st (r1.app r2) (by rw [List.length_append]; omega) k
      · cases h
    · split at h
      · rename_i l m hl
        cases h
        obtain ⟨a, us, rfl, h1, z1, r1⟩ := rep_lst rx
        obtain ⟨b, ws, rfl, h2, z2, r2⟩ := rep_lst ry
        have e1 := r1.len
        have e2 := r2.len
        exact .inr (.inr ⟨a, b, us, ws, rfl, rfl, sm _ _ h1, sm _ _ h2, lim_le (by omega), aft_lst st (r1.app r2) (by rw [List.length_append]; omega) k⟩)
      · cases h
  | sub =>
    cases x <;> cases y <;> simp only [biD, reduceCtorEq, Option.some.injEq] at h
    subst h
    cases rep_int rx
    cases rep_int ry
    exact ⟨_, _, rfl, rfl, aft_at st (.int _) k⟩
  | mul =>
    cases x <;> cases y <;> simp only [biD, reduceCtorEq, Option.some.injEq] at h
    · split at h
      · rename_i hm
        cases h
        cases rep_int rx
        cases rep_int ry
        have q := aft_at st (.int _) k
        rcases hm with hm | hm | hm
        · exact .inl ⟨_, _, rfl, rfl, .inl hm, q⟩
        · exact .inl ⟨_, _, rfl, rfl, .inr hm, q⟩
        · exact .inr (.inl ⟨_, _, rfl, rfl, hm, q⟩)
      · cases h
    · split at h
      · rename_i l m hl
        cases h
        obtain ⟨h0, h1, h2, h3⟩ := hl
        obtain ⟨a, us, rfl, h4, z1, r1⟩ := rep_tup rx
        cases rep_int ry
        have e1 := r1.len
        have hz : (List.replicate m.toNat us).flatten.length ≤ LIM := by
          rw [len_rep_flat]
          have : m.toNat * us.length ≤ 1000 * 1000 := Nat.mul_le_mul (by omega) (by omega)
          exact this
        exact .inr (.inr (.inr ⟨a, m, us, rfl, rfl, same_sqT sm h4, fun e => h3 (r1.nil_iff.mpr e), k2 rfl _ _ rfl rfl, h1, by omega, aft_tup st (r1.rep _) hz k⟩))
      · cases h
    · split at h
      · rename_i l m hl
        cases h
        obtain ⟨h0, h1, h2⟩ := hl
        obtain ⟨a, us, rfl, h4, z1, r1⟩ := rep_lst rx
        cases rep_int ry
        have e1 := r1.len
        have hz : (List.replicate m.toNat us).flatten.length ≤ LIM := by
          rw [len_rep_flat]
          have : m.toNat * us.length ≤ 1000 * 1000 := Nat.mul_le_mul (by omega) (by omega)
          exact this
        refine .inr (.inr (.inl ⟨a, m, us, rfl, rfl, sm _ _ h4, by omega, by omega, ?_, aft_lst st (r1.rep _) hz k⟩))
        rw [len_rep_flat, Nat.mul_comm] at hz
        exact lim_le hz
      · cases h
  | div =>
    cases x <;> cases y <;> simp only [biD, reduceCtorEq, Option.some.injEq] at h
    split at h
    · rename_i hm
      cases h
      cases rep_int rx
      cases rep_int ry
      exact ⟨_, _, rfl, rfl, hm, aft_at st (.int _) k⟩
    · cases h
  | mod =>
    cases x <;> cases y <;> simp only [biD, reduceCtorEq, Option.some.injEq] at h
    split at h
    · rename_i hm
      cases h
      cases rep_int rx
      cases rep_int ry
      exact ⟨_, _, rfl, rfl, hm, aft_at st (.int _) k⟩
    · cases h
  | pow =>
    cases x <;> cases y <;> simp only [biD, reduceCtorEq, Option.some.injEq] at h
    split at h
    · rename_i hm
      cases h
      cases rep_int rx
      cases rep_int ry
      exact ⟨_, _, rfl, rfl, hm, aft_at st (.int _) k⟩
    · cases h
end
end PL
/-! PLVal: comparisons, subscripts, slices, built-in functions, by values. -/
namespace PL
open PySem PySem.Spec PyProof.Rows L2

/-! ### data as the library's data -/
mutual
def toP : D → PyData
  | .non => .none
  | .bl b => .bool b
  | .int i => .int i
  | .str s => .str s
  | .tup l => .tuple (toPs l)
  | .lst l => .list (toPs l)
  | _ => .none
def toPs : List D → List PyData
  | [] => []
  | d :: r => toP d :: toPs r
end
section
variable {K : PySem.W.Frag} {M : Nm} {F H : Hp}
theorem Dpk.up : ∀ {n : Nat} {d : D}, Dpk n d → Dpk (n + 1) d
  | _, .non, _ => trivial
  | _, .bl _, _ => trivial
  | _, .int _, _ => trivial
  | n, .str s, h => by
    cases n <;> exact h
  | 0, .tup l, h => h.elim
  | 0, .lst l, h => h.elim
  | n + 1, .tup l, h => fun x hx => Dpk.up (h x hx)
  | n + 1, .lst l, h => fun x hx => Dpk.up (h x hx)
  | 0, .scr l, h => h.elim
  | n + 1, .scr l, h => h.elim
  | 0, .dic _ _, h => h.elim
  | n + 1, .dic _ _, h => h.elim
  | 0, .ins _ _ _, h => h.elim
  | n + 1, .ins _ _ _, h => h.elim
mutual
theorem dp_of (e : Same F H) : ∀ (n : Nat) {d : D} {v : V}, Dpk n d → Rep K M F d v → Dp K H v (toP d)
  | _, _, _, _, .non => .non
  | _, _, _, _, .bl b => .bl b
  | _, _, _, _, .int i => .int i
  | _, _, _, _, .str s => .str s
  | 0, _, _, h, .tup _ _ _ => h.elim
  | 0, _, _, h, .lst _ _ _ => h.elim
  | n + 1, _, _, h, .tup a _ r => .tup (same_sqT e a) (dps_of e n h r)
  | n + 1, _, _, h, .lst a _ r => .lst (.inl (.inl (e _ _ a))) (dps_of e n h r)
  | 0, _, _, h, .scr _ _ => h.elim
  | n + 1, _, _, h, .scr _ _ => h.elim
  | 0, _, _, h, .dic _ _ _ => h.elim
  | n + 1, _, _, h, .dic _ _ _ => h.elim
  | 0, _, _, h, .ins _ _ _ => h.elim
  | n + 1, _, _, h, .ins _ _ _ => h.elim
theorem dps_of (e : Same F H) : ∀ (n : Nat) {ds : List D} {vs : List V}, (∀ x ∈ ds, Dpk n x) → Reps K M F ds vs → DpAll K H vs (toPs ds)
  | _, _, _, _, .nil => .nil
  | n, _, _, h, .cons a r => .cons (dp_of e n (h _ (by simp)) a) (dps_of e n (fun x hx => h x (by simp [hx])) r)
end
mutual
theorem lay_of : ∀ (n : Nat) {d : D}, Dpk n d → (toP d).canLay0 = true ∧ (toP d).depth ≤ n
  | _, .non, _ => ⟨rfl, Nat.zero_le _⟩
  | _, .bl _, _ => ⟨rfl, Nat.zero_le _⟩
  | _, .int _, _ => ⟨rfl, Nat.zero_le _⟩
  | n, .str s, h => by
    refine ⟨?_, Nat.zero_le _⟩
    cases n <;> exact h
  | 0, .tup _, h => h.elim
  | 0, .lst _, h => h.elim
  | n + 1, .tup l, h => by
    obtain ⟨a, b⟩ := lays_of n (ds := l) h
    exact ⟨a, Nat.succ_le_succ b⟩
  | n + 1, .lst l, h => by
    obtain ⟨a, b⟩ := lays_of n (ds := l) h
    exact ⟨a, Nat.succ_le_succ b⟩
  | 0, .scr _, h => h.elim
  | n + 1, .scr _, h => h.elim
  | 0, .dic _ _, h => h.elim
  | n + 1, .dic _ _, h => h.elim
  | 0, .ins _ _ _, h => h.elim
  | n + 1, .ins _ _ _, h => h.elim
theorem lays_of : ∀ (n : Nat) {ds : List D}, (∀ x ∈ ds, Dpk n x) → PyData.canLayAll0 (toPs ds) = true ∧ PyData.depthAll (toPs ds) ≤ n
  | _, [], _ => ⟨rfl, Nat.zero_le _⟩
  | n, d :: r, h => by
    obtain ⟨a, b⟩ := lay_of n (h d (by simp))
    obtain ⟨a2, b2⟩ := lays_of n (ds := r) fun x hx => h x (by simp [hx])
    refine ⟨?_, ?_⟩
    · show ((toP d).canLay0 && PyData.canLayAll0 (toPs r)) = true
      rw [a, a2] <;> rfl
    · show max (toP d).depth (PyData.depthAll (toPs r)) ≤ n
      omega
end
theorem shaped_of {d : D} (h : Dpk 16 d) : SeqAt.shaped (toP d) = true := by
  obtain ⟨a, b⟩ := lay_of 16 h
  unfold SeqAt.shaped
  rw [a, decide_eq_true (Nat.le_trans b (by decide))] <;> rfl
mutual
theorem eqv_of : ∀ (n : Nat) {a b : D}, Dpk n a → Dpk n b → PyData.eqv (toP a) (toP b) = eqb a b
  | n, a, b, ha, hb => by
    cases n with
    | zero =>
      cases a <;> first | exact ha.elim | (cases b <;> first | exact hb.elim | rfl)
    | succ n =>
      cases a <;> first | exact ha.elim | (cases b <;> first | exact hb.elim | rfl | exact eqvs_of n ha hb)
theorem eqvs_of : ∀ (n : Nat) {a b : List D}, (∀ x ∈ a, Dpk n x) → (∀ x ∈ b, Dpk n x) → PyData.eqvAll (toPs a) (toPs b) = eqbs a b
  | _, [], [], _, _ => rfl
  | _, [], _ :: _, _, _ => rfl
  | _, _ :: _, [], _, _ => rfl
  | n, x :: xs, y :: ys, h, h' => by
    show (PyData.eqv (toP x) (toP y) && PyData.eqvAll (toPs xs) (toPs ys)) = (eqb x y && eqbs xs ys)
    rw [eqv_of n (h x (by simp)) (h' y (by simp)), eqvs_of n (fun z hz => h z (by simp [hz])) fun z hz => h' z (by simp [hz])]
end
theorem any_of {n : Nat} {a : D} (ha : Dpk n a) : ∀ {l : List D}, (∀ x ∈ l, Dpk n x) → ((toPs l).any fun z => PyData.eqv z (toP a)) = l.any fun z => eqb z a
  | [], _ => rfl
  | x :: r, h => by
    show (PyData.eqv (toP x) (toP a) || (toPs r).any _) = (eqb x a || r.any _)
    rw [eqv_of n (h x (by simp)) ha, any_of ha fun z hz => h z (by simp [hz])]

/-! ### comparisons -/
/-- a flat thing as a value -/
def flV : D → V
  | .non => .non
  | .bl b => .bl b
  | .int i => .int i
  | .str s => .str s
  | _ => .non
theorem rep_flat {d : D} {v : V} (h : Rep K M F d v) (f : flat d = true) : v = flV d ∧ flatV v = true := by
  cases h <;> first | exact ⟨rfl, rfl⟩ | cases f
theorem reps_flat : ∀ {ds : List D} {vs : List V}, Reps K M F ds vs → ds.all flat = true → vs.all flatV = true
  | _, _, .nil, _ => rfl
  | _, _, .cons h r, f => by
    simp only [List.all_cons, Bool.and_eq_true] at f ⊢
    exact ⟨(rep_flat h f.1).2, reps_flat r f.2⟩
theorem eqV_flat {a b : D} {v w : V} (ha : Rep K M F a v) (hb : Rep K M F b w) (fa : flat a = true) (fb : flat b = true) : eqV v w = eqb a b := by
  cases ha <;> first | (simp [flat] at fa; done) | (cases hb <;> first | (simp [flat] at fb; done) | rfl)
theorem inV_flat {a : D} {v : V} (ha : Rep K M F a v) (fa : flat a = true) : ∀ {ds : List D} {vs : List V}, Reps K M F ds vs → ds.all flat = true → inV v vs = ds.any fun z => eqb z a
  | _, _, .nil, _ => rfl
  | _, _, .cons h r, f => by
    simp only [List.all_cons, Bool.and_eq_true] at f
    have q := inV_flat ha fa r f.2
    unfold inV at q ⊢
    simp only [List.any_cons]
    rw [eqV_flat h ha f.1 fa, q]

def cop : COp → CmpOp
  | .eq => .Eq | .ne => .NotEq | .lt => .Lt | .le => .LtE | .gt => .Gt | .ge => .GtE | .isN => .Is | .notN => .IsNot | .inn => .In | .nin => .NotIn
def rC (K : PySem.W.Frag) : COp → R2
  | .eq => rEqD K
  | .ne => rNeD K
  | .lt => rI0 fun i j => .bl (decide (i < j))
  | .le => rI0 fun i j => .bl (decide (i ≤ j))
  | .gt => rI0 fun i j => .bl (decide (j < i))
  | .ge => rI0 fun i j => .bl (decide (j ≤ i))
  | .isN => fun x y H Q => y = .non ∧ Q (.bl (decide (x = .non))) H
  | .notN => fun x y H Q => y = .non ∧ Q (.bl (!decide (x = .non))) H
  | .inn => fun x y H Q => rInD K x y H Q ∨ rIn K false x y H Q ∨ ∃ (c : Nat) (z : Str), x = .str ⟨#[c]⟩ ∧ y = .str z ∧ Q (.bl (decide (c ∈ z.cps.toList))) H
  | .nin => fun x y H Q => rNotInD K x y H Q ∨ rIn K true x y H Q ∨ ∃ (c : Nat) (z : Str), x = .str ⟨#[c]⟩ ∧ y = .str z ∧ Q (.bl (!decide (c ∈ z.cps.toList))) H
theorem op_cop {X : Cx} (hu : X.A.units + 65 < cLine) : ∀ op, OpR X (compareOp (cop op)) (rC X.K op)
  | .eq => op_eqD (by omega)
  | .ne => op_neD (by omega)
  | .lt => op_lt
  | .le => op_le
  | .gt => op_gt
  | .ge => op_ge
  | .isN => op_isN
  | .notN => op_notN
  | .inn => (op_inD hu).or (op_in_seq.or op_in_sign)
  | .nin => (op_notInD hu).or (op_notIn_seq.or op_notIn_sign)
def isDic : D → Bool
  | .dic _ _ => true
  | _ => false
theorem non_iff {x : D} {v : V} (h : Rep K M F x v) : decide (v = .non) = isNon x := by
  cases h <;> simp [isNon]

/-- the left thing is to be read now (ours, or settled) -/
inductive Pk (K : PySem.W.Frag) (M : Nm) (F H : Hp) : D → V → Prop where
  | rep {d : D} {v : V} (h : Rep K M F d v) : Pk K M F H d v
  | lst {a : Addr} {l : List D} {vs : List V} (h : H a = some (.lst vs)) (z : vs.length ≤ LIM) (r : Reps K M F l vs) : Pk K M F H (.lst l) (.ref a)
theorem pk_of {d : D} {o : Bool} {v : V} {fp : List Addr} (h : RepO K M F H d o v fp) (hi : ∀ c fs vs, d ≠ .ins c fs vs) : Pk K M F H d v := by
  cases h with
  | fz h => exact .rep h
  | lst h z r => exact .lst h z r
  | ins h e r => exact (hi _ _ _ rfl).elim
theorem pk_dp (e : Same F H) {d : D} {v : V} (h : Dpk 16 d) (p : Pk K M F H d v) : Dp K H v (toP d) := by
  cases p with
  | rep r => exact dp_of e 16 h r
  | lst a z r => exact .lst (.inl (.inl a)) (dps_of e 15 h r)
theorem str_one {a : Str} {c : Nat} (h : a.cps.toList = [c]) : a = ⟨#[c]⟩ := by
  cases a with
  | mk cps =>
    congr 1
    exact Array.toList_inj.mp h
theorem cmp_ok {op : COp} {x y : D} {b : Bool} {v w : V} {Q : VK} (e : Same F H) (rx : Pk K M F H x v) (ry : Rep K M F y w) (h : cmD op x y = some b) (hd : isDic y = false) (k : Q (.bl b) H) : rC K op v w H Q := by
  cases op with
  | eq =>
    simp only [cmD] at h
    split at h
    · rename_i hh
      cases h
      refine ⟨toP x, toP y, pk_dp e hh.1 rx, dp_of e 16 hh.2 ry, shaped_of hh.1, shaped_of hh.2, ?_⟩
      rw [eqv_of 16 hh.1 hh.2]
      exact k
    · cases h
  | ne =>
    simp only [cmD] at h
    split at h
    · rename_i hh
      cases h
      refine ⟨toP x, toP y, pk_dp e hh.1 rx, dp_of e 16 hh.2 ry, shaped_of hh.1, shaped_of hh.2, ?_⟩
      rw [eqv_of 16 hh.1 hh.2]
      exact k
    · cases h
  | lt =>
    cases x <;> cases y <;> simp only [cmD, reduceCtorEq, Option.some.injEq] at h
    subst h
    cases rx with
    | rep rx =>
      cases rep_int rx
      cases rep_int ry
      exact ⟨_, _, rfl, rfl, k⟩
  | le =>
    cases x <;> cases y <;> simp only [cmD, reduceCtorEq, Option.some.injEq] at h
    subst h
    cases rx with
    | rep rx =>
      cases rep_int rx
      cases rep_int ry
      exact ⟨_, _, rfl, rfl, k⟩
  | gt =>
    cases x <;> cases y <;> simp only [cmD, reduceCtorEq, Option.some.injEq] at h
    subst h
    cases rx with
    | rep rx =>
      cases rep_int rx
      cases rep_int ry
      exact ⟨_, _, rfl, rfl, k⟩
  | ge =>
    cases x <;> cases y <;> simp only [cmD, reduceCtorEq, Option.some.injEq] at h
    subst h
    cases rx with
    | rep rx =>
      cases rep_int rx
      cases rep_int ry
      exact ⟨_, _, rfl, rfl, k⟩
  | isN =>
    cases y <;> simp only [cmD, reduceCtorEq, Option.some.injEq] at h
    refine ⟨rep_non ry, ?_⟩
    cases rx with
    | rep rx =>
      rw [non_iff rx, h]
      exact k
    | lst a z r =>
      subst h
      exact k
  | notN =>
    cases y <;> simp only [cmD, reduceCtorEq, Option.some.injEq] at h
    refine ⟨rep_non ry, ?_⟩
    cases rx with
    | rep rx =>
      rw [non_iff rx, h]
      exact k
    | lst a z r =>
      subst h
      exact k
  | inn =>
    cases y with
    | dic _ _ => cases hd
    | tup l =>
      simp only [cmD] at h
      split at h
      · rename_i hh
        cases h
        refine .inr (.inl ?_)
        cases rx with
        | lst a z r => cases hh.1
        | rep rx =>
          obtain ⟨a, ws, rfl, h1, z1, r1⟩ := rep_tup ry
          refine ⟨a, ws, rfl, .inr (same_sqT e h1), (rep_flat rx hh.1).2, reps_flat r1 hh.2, ?_⟩
          rw [if_neg Bool.false_ne_true, inV_flat rx hh.1 r1 hh.2]
          exact k
      · cases h
    | lst l =>
      simp only [cmD] at h
      split at h
      · rename_i hh
        cases h
        refine .inl ⟨toP x, toPs l, pk_dp e hh.1 rx, dp_of e 16 hh.2 ry, shaped_of hh.1, shaped_of hh.2, ?_⟩
        rw [any_of (Dpk.up hh.1 : Dpk 17 x) (fun z hz => (show Dpk 15 z from hh.2 z hz).up.up)]
        exact k
      · cases h
    | str z =>
      cases x <;> simp only [cmD, reduceCtorEq] at h
      cases rx with
      | rep rx =>
      cases rep_str rx
      cases rep_str ry
      split at h
      · rename_i a c hc
        cases h
        obtain rfl := str_one hc
        exact .inr (.inr ⟨c, z, rfl, rfl, k⟩)
      · cases h
    | _ => cases x <;> simp only [cmD, reduceCtorEq] at h
  | nin =>
    cases y with
    | dic _ _ => cases hd
    | tup l =>
      simp only [cmD] at h
      split at h
      · rename_i hh
        cases h
        refine .inr (.inl ?_)
        cases rx with
        | lst a z r => cases hh.1
        | rep rx =>
          obtain ⟨a, ws, rfl, h1, z1, r1⟩ := rep_tup ry
          refine ⟨a, ws, rfl, .inr (same_sqT e h1), (rep_flat rx hh.1).2, reps_flat r1 hh.2, ?_⟩
          rw [if_pos rfl, inV_flat rx hh.1 r1 hh.2]
          exact k
      · cases h
    | lst l =>
      simp only [cmD] at h
      split at h
      · rename_i hh
        cases h
        refine .inl ⟨toP x, toPs l, pk_dp e hh.1 rx, dp_of e 16 hh.2 ry, shaped_of hh.1, shaped_of hh.2, ?_⟩
        rw [any_of (Dpk.up hh.1 : Dpk 17 x) (fun z hz => (show Dpk 15 z from hh.2 z hz).up.up)]
        exact k
      · cases h
    | str z =>
      cases x <;> simp only [cmD, reduceCtorEq] at h
      cases rx with
      | rep rx =>
      cases rep_str rx
      cases rep_str ry
      split at h
      · rename_i a c hc
        cases h
        obtain rfl := str_one hc
        exact .inr (.inr ⟨c, z, rfl, rfl, k⟩)
      · cases h
    | _ => cases x <;> simp only [cmD, reduceCtorEq] at h

/-! ### subscripts, slices -/
theorem ixn_eq (n : Nat) (i : Int) : ixn n i = L2.ixN n i := rfl
theorem ixS_ok {s : Str} {i : Int} {z : D} {v w : V} {Q : VK} (rx : Rep K M F (.str s) v) (ry : Rep K M F (.int i) w) (h : ixD (.str s) (.int i) = some z) (k : ∀ u, Rep K M F z u → Q u H) : rIx K v w H Q := by
  cases rep_str rx
  cases rep_int ry
  simp only [ixD] at h
  split at h
  · rename_i hl
    cases e1 : ixn s.cps.toList.length i with
    | none =>
      rw [e1] at h
      cases h
    | some j =>
      rw [e1] at h
      have h' : (s.cps.toList[j]?).map (fun c => D.str ⟨#[c]⟩) = some z := h
      cases e2 : s.cps.toList[j]? with
      | none =>
        rw [e2] at h'
        cases h'
      | some c =>
        rw [e2] at h'
        cases h'
        refine .inr (.inr ⟨s, i, c, rfl, rfl, lim_le hl, ?_, k _ (.str _)⟩)
        unfold atI
        rw [← ixn_eq, e1]
        exact e2
  · cases h
theorem ix_ok {x y z : D} {v w : V} {Q : VK} (e : Same F H) (rx : Pk K M F H x v) (ry : Rep K M F y w) (h : ixD x y = some z) (k : ∀ u, Rep K M F z u → Q u H) : rIx K v w H Q := by
  cases x <;> cases y <;> first | (simp only [ixD, reduceCtorEq] at h; done) | skip
  · cases rx with
    | rep rx => exact ixS_ok rx ry h k
  all_goals simp only [ixD] at h
  · cases rep_int ry
    cases rx with
    | rep rx =>
      obtain ⟨a, ws, rfl, h1, z1, r1⟩ := rep_tup rx
      cases e1 : ixn _ _ with
      | none =>
        rw [e1] at h
        cases h
      | some j =>
        rw [e1] at h
        obtain ⟨u, hu, ru⟩ := r1.get (show _ = some z from h)
        refine .inr (.inl ⟨a, ws, _, u, rfl, rfl, same_sqT e h1, ?_, k u ru⟩)
        unfold atI
        rw [← ixn_eq, ← r1.len, e1]
        exact hu
  · cases rep_int ry
    have go : ∀ a ws, H a = some (.lst ws) → Reps K M F _ ws → rIx K (.ref a) (.int _) H Q := fun a ws h1 r1 => by
      cases e1 : ixn _ _ with
      | none =>
        rw [e1] at h
        cases h
      | some j =>
        rw [e1] at h
        obtain ⟨u, hu, ru⟩ := r1.get (show _ = some z from h)
        refine .inl ⟨a, ws, _, u, rfl, rfl, .inl (.inl h1), ?_, k u ru⟩
        unfold atI
        rw [← ixn_eq, ← r1.len, e1]
        exact hu
    cases rx with
    | rep rx =>
      obtain ⟨a, ws, rfl, h1, z1, r1⟩ := rep_lst rx
      exact go a ws (e _ _ h1) r1
    | lst h1 z1 r1 => exact go _ _ h1 r1
  · cases rep_int ry
    cases rx with
    | rep rx =>
      cases rx with
      | scr h1 z1 =>
        rename_i l i a
        cases e1 : ixn l.length i with
        | none =>
          rw [e1] at h
          cases h
        | some j =>
          rw [e1] at h
          have h' : (l[j]?).map D.int = some z := h
          cases e2 : l[j]? with
          | none =>
            rw [e2] at h'
            cases h'
          | some m =>
            rw [e2] at h'
            cases h'
            refine .inl ⟨a, _, _, .int m, rfl, rfl, e.seq h1, ?_, k _ (.int m)⟩
            unfold atI
            rw [← ixn_eq, List.length_map, e1]
            show (l.map V.int)[j]? = _
            rw [List.getElem?_map, e2] <;> rfl
theorem clp_eq (n d : Nat) (o : Option Int) : clp n d o = HT.sIx n d o := by
  cases o <;> rfl
theorem Reps.cut {l : List D} {ws : List V} (h : Reps K M F l ws) (lo hi : Option Int) : Reps K M F (PL.cut l lo hi) (cutV ws lo hi) := by
  unfold PL.cut cutV
  rw [clp_eq, clp_eq, h.len]
  exact (h.drop _).take _
theorem sl_ok {es : List Sl} {vs : List (Option V)} {x : D} {z : D × Bool} {v : V} {lo hi : Option Int} {Q : VK} (st : Sta K M F H es vs) (rx : Rep K M F x v) (h : slD x lo hi = some z) (k : Aft K M F es vs z Q) : rSlL K v lo hi H Q ∨ rSlA K v lo hi H Q ∨ rSlS v lo hi H Q := by
  cases x <;> simp only [slD, reduceCtorEq, Option.some.injEq] at h
  · split at h
    · rename_i hl
      cases h
      cases rep_str rx
      exact .inr (.inr ⟨_, rfl, lim_le hl, aft_at st (.str _) k⟩)
    · cases h
  · cases h
    obtain ⟨a, ws, rfl, h1, z1, r1⟩ := rep_tup rx
    refine .inr (.inl ⟨a, ws, rfl, same_sqT st.same h1, fun hw => ?_, fun _ => ?_⟩)
    · have e : ∀ l : List D, l.length = ws.length → PL.cut l lo hi = l := fun l hl => by
        unfold PL.cut
        rw [clp_eq, clp_eq, hl, hw.1, hw.2, ← hl]
        simp
      rw [e _ r1.len] at k
      exact aft_at st rx k
    · exact aft_tup st (r1.cut lo hi) (Nat.le_trans (cutV_length ws lo hi) z1) k
  · cases h
    obtain ⟨a, ws, rfl, h1, z1, r1⟩ := rep_lst rx
    exact .inl ⟨a, ws, rfl, .inl (.inl (st.same _ _ h1)), aft_lst st (r1.cut lo hi) (Nat.le_trans (cutV_length ws lo hi) z1) k⟩
end
end PL
/-! PLBi: built-in functions, by values. -/
namespace PL
open PySem PySem.Spec PyProof.Rows L2
section
variable {K : PySem.W.Frag} {M : Nm} {F H : Hp}
theorem reps_ints : ∀ {l : List D} {ws : List V} {ns : List Int}, Reps K M F l ws → intsOf l = some ns → ws = ns.map V.int
  | _, _, ns, .nil, h => by
    cases h
    rfl
  | d :: r, _, ns, .cons a b, h => by
    cases d <;> simp only [intsOf, reduceCtorEq] at h
    cases e : intsOf r with
    | none =>
      rw [e] at h
      cases h
    | some ms =>
      rw [e] at h
      cases h
      rw [rep_int a, reps_ints b e]
      rfl
theorem reps_bls : ∀ {l : List D} {ws : List V} {ns : List Bool}, Reps K M F l ws → blsOf l = some ns → ws = ns.map V.bl
  | _, _, ns, .nil, h => by
    cases h
    rfl
  | d :: r, _, ns, .cons a b, h => by
    cases d <;> simp only [blsOf, reduceCtorEq] at h
    cases e : blsOf r with
    | none =>
      rw [e] at h
      cases h
    | some ms =>
      rw [e] at h
      cases h
      rw [rep_bl a, reps_bls b e]
      rfl
theorem reps_of_ints : ∀ ns : List Int, Reps K M F (ns.map D.int) (ns.map V.int)
  | [] => .nil
  | _ :: r => .cons (.int _) (reps_of_ints r)
theorem maxL_mem : ∀ {ns : List Int}, ns ≠ [] → maxL ns ∈ ns ∧ ∀ y ∈ ns, y ≤ maxL ns
  | [], h => (h rfl).elim
  | [a], _ => by simp [maxL]
  | a :: b :: r, _ => by
    obtain ⟨h1, h2⟩ := maxL_mem (ns := b :: r) (by simp)
    have e : maxL (a :: b :: r) = max a (maxL (b :: r)) := rfl
    rw [e]
    refine ⟨?_, fun y hy => ?_⟩
    · rcases Int.le_total a (maxL (b :: r)) with q | q
      · rw [Int.max_eq_right q]
        exact List.mem_cons_of_mem _ h1
      · rw [Int.max_eq_left q]
        exact List.mem_cons_self
    · rcases List.mem_cons.mp hy with z | z
      · omega
      · have := h2 y z
        omega
theorem minL_mem : ∀ {ns : List Int}, ns ≠ [] → minL ns ∈ ns ∧ ∀ y ∈ ns, minL ns ≤ y
  | [], h => (h rfl).elim
  | [a], _ => by simp [minL]
  | a :: b :: r, _ => by
    obtain ⟨h1, h2⟩ := minL_mem (ns := b :: r) (by simp)
    have e : minL (a :: b :: r) = min a (minL (b :: r)) := rfl
    rw [e]
    refine ⟨?_, fun y hy => ?_⟩
    · rcases Int.le_total a (minL (b :: r)) with q | q
      · rw [Int.min_eq_left q]
        exact List.mem_cons_self
      · rw [Int.min_eq_right q]
        exact List.mem_cons_of_mem _ h1
    · rcases List.mem_cons.mp hy with z | z
      · omega
      · have := h2 y z
        omega
theorem insI_perm (a : Int) : ∀ l : List Int, (insI a l).Perm (a :: l)
  | [] => .refl _
  | b :: r => by
    unfold insI
    split
    · exact .refl _
    · exact ((insI_perm a r).cons b).trans (List.Perm.swap a b r)
theorem insI_sorted (a : Int) : ∀ {l : List Int}, l.Pairwise (· ≤ ·) → (insI a l).Pairwise (· ≤ ·)
  | [], _ => by simp [insI]
  | b :: r, h => by
    unfold insI
    obtain ⟨h1, h2⟩ := List.pairwise_cons.mp h
    split
    · rename_i q
      refine List.pairwise_cons.mpr ⟨fun y hy => ?_, h⟩
      rcases List.mem_cons.mp hy with z | z
      · omega
      · have := h1 y z
        omega
    · rename_i q
      refine List.pairwise_cons.mpr ⟨fun y hy => ?_, insI_sorted a h2⟩
      rcases List.mem_cons.mp ((insI_perm a r).mem_iff.mp hy) with z | z
      · omega
      · exact h1 y z
theorem srtI_perm : ∀ l : List Int, (srtI l).Perm l
  | [] => .refl _
  | a :: r => (insI_perm a (srtI r)).trans ((srtI_perm r).cons a)
theorem srtI_sorted : ∀ l : List Int, (srtI l).Pairwise (· ≤ ·)
  | [] => .nil
  | a :: r => insI_sorted a (srtI_sorted r)
theorem sorted_one : ∀ {l m : List Int}, l.Perm m → l.Pairwise (· ≤ ·) → m.Pairwise (· ≤ ·) → l = m
  | [], m, p, _, _ => (List.nil_perm.mp p).symm
  | a :: r, [], p, _, _ => by
    have := p.length_eq
    simp at this
  | a :: r, b :: s, p, h, h' => by
    obtain ⟨h1, h2⟩ := List.pairwise_cons.mp h
    obtain ⟨h3, h4⟩ := List.pairwise_cons.mp h'
    have e : a = b := by
      have x : a ∈ b :: s := p.mem_iff.mp List.mem_cons_self
      have y : b ∈ a :: r := p.mem_iff.mpr List.mem_cons_self
      rcases List.mem_cons.mp x with z | z
      · exact z
      · rcases List.mem_cons.mp y with w | w
        · exact w.symm
        · have := h3 a z
          have := h1 b w
          omega
    subst e
    rw [sorted_one (List.perm_cons a |>.mp p) h2 h4]

def nmBi : Bi → Str
  | .len => "len" | .abs => "abs" | .max2 => "max" | .min2 => "min" | .max1 => "max" | .min1 => "min" | .int1 => "int" | .str1 => "str" | .sum => "sum" | .sorted => "sorted" | .list => "list" | .tuple => "tuple" | .any => "any" | .all => "all"
  | .listR => "" | .tupR => "" | .dictL => "" | .dictZ => ""
def fvBi : Bi → Value
  | .len => .builtin "len" | .abs => .builtin "abs" | .max2 => .builtin "max" | .min2 => .builtin "min" | .max1 => .builtin "max" | .min1 => .builtin "min" | .int1 => .type "int" | .str1 => .type "str" | .sum => .builtin "sum"
  | .sorted => .builtin "sorted" | .list => .type "list" | .tuple => .type "tuple" | .any => .builtin "any" | .all => .builtin "all"
  | .listR => .none | .tupR => .none | .dictL => .none | .dictZ => .none
def rBi (K : PySem.W.Frag) : Bi → List V → Hp → VK → Prop
  | .len => fun xs H Q => (∃ p ys, xs = [.ref p] ∧ (SqL K H p ys ∨ SqT K H p ys) ∧ Q (.int ys.length) H) ∨ ∃ z, xs = [.str z] ∧ z.length ≤ sizeLine ∧ Q (.int z.length) H
  | .abs => fun xs H Q => ∃ i, xs = [.int i] ∧ Q (.int (if i < 0 then -i else i)) H
  | .max2 => fun xs H Q => ∃ i j, xs = [.int i, .int j] ∧ Q (.int (if j > i then j else i)) H
  | .min2 => fun xs H Q => ∃ i j, xs = [.int i, .int j] ∧ Q (.int (if j < i then j else i)) H
  | .max1 => rMax K
  | .min1 => rMin K
  | .int1 => fun xs H Q => ((∃ i, xs = [.int i] ∧ Q (.int i) H) ∨ ∃ k, xs = [.bl k] ∧ Q (.int (if k then 1 else 0)) H) ∨ ∃ a n, xs = [.str a] ∧ PySem.intText? a = some n ∧ a.length ≤ 640 ∧ Q (.int n) H
  | .str1 => fun xs H Q => ∃ i, xs = [.int i] ∧ i.natAbs.log2 < 1920 ∧ Q (.str (toString i)) H
  | .sum => rSum K
  | .sorted => rSorted K
  | .list => fun xs H Q => ∃ p ys, xs = [.ref p] ∧ (SqL K H p ys ∨ SqT K H p ys) ∧ ∀ l, H l = none → Q (.ref l) (upd H l (.lst ys))
  | .tuple => fun xs H Q => ∃ p ys, xs = [.ref p] ∧ ((SqL K H p ys ∧ ∀ l, H l = none → Q (.ref l) (upd H l (.tup ys))) ∨ (SqT K H p ys ∧ Q (.ref p) H))
  | .any => rAny K
  | .all => rAll K
  | .listR => fun _ _ _ => False
  | .tupR => fun _ _ _ => False
  | .dictL => fun _ _ _ => False
  | .dictZ => fun _ _ _ => False
def okBi : Bi → Bool
  | .listR => false | .tupR => false | .dictL => false | .dictZ => false
  | _ => true
theorem cr_bi {X : Cx} (hc : X.calm = true) : ∀ b, okBi b = true → CallR X (fvBi b) (rBi X.K b)
  | .len, _ => CallR.or call_len_seq call_len_str
  | .abs, _ => call_abs
  | .max2, _ => call_max2 hc
  | .min2, _ => call_min2 hc
  | .max1, _ => cr_max hc
  | .min1, _ => cr_min hc
  | .int1, _ => CallR.or call_int1 call_int_str
  | .str1, _ => call_str_int
  | .sum, _ => cr_sum hc
  | .sorted, _ => cr_sorted
  | .list, _ => call_list_of
  | .tuple, _ => call_tuple_of
  | .any, _ => cr_any hc
  | .all, _ => cr_all hc
theorem boot_bi : ∀ b, okBi b = true → bootBuiltins (nmBi b) = some (fvBi b) := by
  intro b h
  cases b <;> first | (simp [okBi] at h; done) | decide +kernel
variable {es : List Sl} {vs : List (Option V)}
theorem reps_one {d : D} {ws : List V} (h : Reps K M F [d] ws) : ∃ v, ws = [v] ∧ Rep K M F d v := by
  cases h with
  | cons a r =>
    cases r
    exact ⟨_, rfl, a⟩
theorem reps_two {d e : D} {ws : List V} (h : Reps K M F [d, e] ws) : ∃ v w, ws = [v, w] ∧ Rep K M F d v ∧ Rep K M F e w := by
  cases h with
  | cons a r =>
    cases r with
    | cons b s =>
      cases s
      exact ⟨_, _, rfl, a, b⟩
theorem bi_ok {b : Bi} {ds : List D} {z : D × Bool} {ws : List V} {Q : VK} (st : Sta K M F H es vs) (r : Reps K M F ds ws) (h : biF b ds = some z) (hb : okBi b = true) (k : Aft K M F es vs z Q) : rBi K b ws H Q := by
  have e := st.same
  have toL : ∀ {a : Addr} {us : List V}, F a = some (.lst us) → SqL K H a us := fun q => .inl (.inl (e _ _ q))
  unfold biF at h
  split at h <;> first | (simp [okBi] at hb; done) | cases h | skip
  case h_1 l =>
    obtain ⟨v, rfl, q⟩ := reps_one r
    obtain ⟨a, us, rfl, h1, z1, r1⟩ := rep_lst q
    rw [r1.len] at k
    exact .inl ⟨a, us, rfl, .inl (toL h1), aft_at st (.int _) k⟩
  case h_2 l =>
    obtain ⟨v, rfl, q⟩ := reps_one r
    obtain ⟨a, us, rfl, h1, z1, r1⟩ := rep_tup q
    rw [r1.len] at k
    exact .inl ⟨a, us, rfl, .inr (same_sqT e h1), aft_at st (.int _) k⟩
  case h_3 l =>
    obtain ⟨v, rfl, q⟩ := reps_one r
    cases q with
    | scr h1 z1 => exact .inl ⟨_, _, rfl, .inl (e.seq h1), by rw [List.length_map]; exact aft_at st (.int _) k⟩
  case h_4 i =>
    obtain ⟨v, rfl, q⟩ := reps_one r
    cases rep_int q
    exact ⟨_, rfl, aft_at st (.int _) k⟩
  case h_5 i j =>
    obtain ⟨v, w, rfl, q, q'⟩ := reps_two r
    cases rep_int q
    cases rep_int q'
    exact ⟨_, _, rfl, aft_at st (.int _) k⟩
  case h_6 i j =>
    obtain ⟨v, w, rfl, q, q'⟩ := reps_two r
    cases rep_int q
    cases rep_int q'
    exact ⟨_, _, rfl, aft_at st (.int _) k⟩
  case h_7 l =>
    obtain ⟨v, rfl, q⟩ := reps_one r
    obtain ⟨a, us, rfl, h1, z1, r1⟩ := rep_lst q
    cases en : intsOf l with
    | none =>
      rw [en] at h
      cases h
    | some ns =>
      rw [en] at h
      simp only [Option.bind_some] at h
      split at h
      · cases h
      · rename_i hne
        cases h
        rw [reps_ints r1 en] at h1
        refine ⟨a, ns, rfl, toL h1, List.length_pos_iff.mpr hne, fun m h2 h3 => ?_⟩
        obtain ⟨h4, h5⟩ := maxL_mem hne
        have e1 : m = maxL ns := by
          have := h3 _ h4
          have := h5 _ h2
          omega
        rw [e1]
        exact aft_at st (.int _) k
  case h_8 l =>
    obtain ⟨v, rfl, q⟩ := reps_one r
    obtain ⟨a, us, rfl, h1, z1, r1⟩ := rep_lst q
    cases en : intsOf l with
    | none =>
      rw [en] at h
      cases h
    | some ns =>
      rw [en] at h
      simp only [Option.bind_some] at h
      split at h
      · cases h
      · rename_i hne
        cases h
        rw [reps_ints r1 en] at h1
        refine ⟨a, ns, rfl, toL h1, List.length_pos_iff.mpr hne, fun m h2 h3 => ?_⟩
        obtain ⟨h4, h5⟩ := minL_mem hne
        have e1 : m = minL ns := by
          have := h3 _ h4
          have := h5 _ h2
          omega
        rw [e1]
        exact aft_at st (.int _) k
  case h_9 i =>
    obtain ⟨v, rfl, q⟩ := reps_one r
    cases rep_int q
    exact .inl (.inl ⟨_, rfl, aft_at st (.int _) k⟩)
  case h_10 i =>
    obtain ⟨v, rfl, q⟩ := reps_one r
    cases rep_bl q
    exact .inl (.inr ⟨_, rfl, aft_at st (.int _) k⟩)
  case h_11 l =>
    obtain ⟨v, rfl, q⟩ := reps_one r
    obtain ⟨a, us, rfl, h1, z1, r1⟩ := rep_lst q
    cases en : intsOf l with
    | none =>
      rw [en] at h
      cases h
    | some ns =>
      rw [en] at h
      cases h
      rw [reps_ints r1 en] at h1
      exact ⟨a, ns, rfl, toL h1, aft_at st (.int _) k⟩
  case h_12 l =>
    obtain ⟨v, rfl, q⟩ := reps_one r
    obtain ⟨a, us, rfl, h1, z1, r1⟩ := rep_lst q
    cases en : intsOf l with
    | none =>
      rw [en] at h
      cases h
    | some ns =>
      rw [en] at h
      simp only [Option.bind_some] at h
      split at h
      · rename_i h64
        cases h
        rw [reps_ints r1 en] at h1
        refine ⟨a, ns, rfl, toL h1, h64, fun ns' p h2 h3 => ?_⟩
        have e1 : ns' = srtI ns := sorted_one (h2.trans (srtI_perm ns).symm) h3 (srtI_sorted ns)
        subst e1
        refine aft_lst st (reps_of_ints _) ?_ k p
        rw [List.length_map, (srtI_perm ns).length_eq]
        unfold LIM
        omega
      · cases h
  case h_13 l =>
    obtain ⟨v, rfl, q⟩ := reps_one r
    obtain ⟨a, us, rfl, h1, z1, r1⟩ := rep_lst q
    exact ⟨a, us, rfl, .inl (toL h1), aft_lst st r1 z1 k⟩
  case h_14 l =>
    obtain ⟨v, rfl, q⟩ := reps_one r
    obtain ⟨a, us, rfl, h1, z1, r1⟩ := rep_tup q
    exact ⟨a, us, rfl, .inr (same_sqT e h1), aft_lst st r1 z1 k⟩
  case h_15 l =>
    obtain ⟨v, rfl, q⟩ := reps_one r
    obtain ⟨a, us, rfl, h1, z1, r1⟩ := rep_lst q
    exact ⟨a, us, rfl, .inl ⟨toL h1, aft_tup st r1 z1 k⟩⟩
  case h_16 l =>
    obtain ⟨v, rfl, q⟩ := reps_one r
    have q' := q
    obtain ⟨a, us, rfl, h1, z1, r1⟩ := rep_tup q
    exact ⟨a, us, rfl, .inr ⟨same_sqT e h1, aft_at st q' k⟩⟩
  case h_17 l =>
    obtain ⟨v, rfl, q⟩ := reps_one r
    obtain ⟨a, us, rfl, h1, z1, r1⟩ := rep_lst q
    cases en : blsOf l with
    | none =>
      rw [en] at h
      cases h
    | some ns =>
      rw [en] at h
      cases h
      rw [reps_bls r1 en] at h1
      exact ⟨a, ns, rfl, toL h1, aft_at st (.bl _) k⟩
  case h_18 l =>
    obtain ⟨v, rfl, q⟩ := reps_one r
    obtain ⟨a, us, rfl, h1, z1, r1⟩ := rep_lst q
    cases en : blsOf l with
    | none =>
      rw [en] at h
      cases h
    | some ns =>
      rw [en] at h
      cases h
      rw [reps_bls r1 en] at h1
      exact ⟨a, ns, rfl, toL h1, aft_at st (.bl _) k⟩
  case h_22 t =>
    obtain ⟨v, rfl, q⟩ := reps_one r
    cases rep_str q
    split at h
    · rename_i hl
      cases h
      exact .inr ⟨_, rfl, lim_le hl, aft_at st (.int _) k⟩
    · cases h
  case h_23 i =>
    obtain ⟨v, rfl, q⟩ := reps_one r
    cases rep_int q
    split at h
    · rename_i hl
      cases h
      exact ⟨_, rfl, hl, aft_at st (.str _) k⟩
    · cases h
  case h_24 t =>
    obtain ⟨v, rfl, q⟩ := reps_one r
    cases rep_str q
    split at h
    · rename_i hl
      cases e2 : PySem.intText? t with
      | none =>
        rw [e2] at h
        cases h
      | some n =>
        rw [e2] at h
        cases h
        exact .inr ⟨_, _, rfl, e2, hl, aft_at st (.int _) k⟩
    · cases h

/-! ### methods of texts -/
theorem reps_strs : ∀ {l : List D} {ws : List V} {ns : List Str}, Reps K M F l ws → strsOf l = some ns → ws = ns.map V.str
  | _, _, ns, .nil, h => by
    cases h
    rfl
  | d :: r, _, ns, .cons a b, h => by
    cases d <;> simp only [strsOf, reduceCtorEq] at h
    cases e : strsOf r with
    | none =>
      rw [e] at h
      cases h
    | some ms =>
      rw [e] at h
      cases h
      rw [rep_str a, reps_strs b e]
      rfl
theorem reps_of_strs : ∀ ns : List Str, Reps K M F (ns.map D.str) (ns.map V.str)
  | [] => .nil
  | _ :: r => .cons (.str _) (reps_of_strs r)
def nmBm : Bm → Str
  | .join => "join" | .split => "split" | .starts => "startswith" | .count => "" | .index => "" | .get => ""
def okBm : Bm → Bool
  | .join => true | .split => true | .starts => true | _ => false
def rBm (K : PySem.W.Frag) : Bm → V → List V → Hp → VK → Prop
  | .join => fun x xs H Q => ∃ a p, ∃ ys : List Str, x = .str a ∧ xs = [.ref p] ∧ (SqL K H p (ys.map V.str) ∨ SqT K H p (ys.map V.str)) ∧ (ys.map (·.length)).sum + ys.length * a.length ≤ 16777216 ∧ Q (.str (Txt.join a ys)) H
  | .split => fun x xs H Q => ∃ a b, x = .str a ∧ xs = [.str b] ∧ (b.length == 0) = false ∧ a.length + 2 ≤ sizeLine ∧ rNewStrs (Txt.split a b) H Q
  | .starts => fun x xs H Q => ∃ a b, x = .str a ∧ xs = [.str b] ∧ Q (.bl (Txt.startswith a b)) H
  | _ => fun _ _ _ _ => False
theorem pe_tbm {X : Cx} {m : Bm} {o e : Expr} {to te : TE} {apos pos : Pos} (hb : okBm m = true) (ho : PE X o to) (he : PE X e te) (hs : starEach [e] X.env = [(false, eval e X.env)]) (hbase : ∀ nm, attributeBase o nm X.env (eval o X.env) = eval o X.env)
    (hline : (apos.endLine == pos.line) = true) : PE X (.Call (.Attribute o (nmBm m) apos) [e] [] pos) (tM1 (rBm X.K m) to te) := by
  cases m <;> first | (simp [okBm] at hb; done) | skip
  · exact pe_join ho he hs (hbase _) hline
  · exact pe_split ho he hs (hbase _) hline
  · exact pe_m1 F.slot_str_startswith F.type_str_startswith mt_startswith ho he hs (hbase _) hline
theorem bm_str {m : Bm} {x : D} {ds : List D} {z : D × Bool} (h : bmF m x ds = some z) (hb : okBm m = true) : ∃ a, x = .str a := by
  cases m <;> first | (simp [okBm] at hb; done) | (cases x <;> first | exact ⟨_, rfl⟩ | (simp [bmF] at h; done))
theorem bm_ok {m : Bm} {x : D} {ds : List D} {z : D × Bool} {v : V} {ws : List V} {Q : VK} (st : Sta K M F H es vs) (rx : Rep K M F x v) (r : Reps K M F ds ws) (h : bmF m x ds = some z) (hb : okBm m = true) (k : Aft K M F es vs z Q) : rBm K m v ws H Q := by
  have e := st.same
  unfold bmF at h
  split at h <;> first | (simp [okBm] at hb; done) | cases h | skip
  · rename_i a l
    obtain ⟨v, rfl, q⟩ := reps_one r
    cases rep_str rx
    obtain ⟨p, us, rfl, h1, z1, r1⟩ := rep_lst q
    cases en : strsOf l with
    | none =>
      rw [en] at h
      cases h
    | some ns =>
      rw [en] at h
      simp only [Option.bind_some] at h
      split at h
      · rename_i hl
        cases h
        rw [reps_strs r1 en] at h1
        refine ⟨a, p, ns, rfl, rfl, .inl (.inl (.inl (e _ _ h1))), Nat.le_trans hl (by decide), ?_⟩
        rw [TL.join_eq]
        exact aft_at st (.str _) k
      · cases h
  · rename_i a b
    obtain ⟨v, rfl, q⟩ := reps_one r
    cases rep_str rx
    cases rep_str q
    split at h
    · rename_i hl
      cases h
      refine ⟨a, b, rfl, rfl, hl.1, lim_le hl.2, fun p hp => ?_⟩
      refine aft_lst st (reps_of_strs _) ?_ k p hp
      rw [List.length_map]
      exact Nat.le_trans (PyProof.Rows.split_le a b) hl.2
    · cases h
  · rename_i a b
    obtain ⟨v, rfl, q⟩ := reps_one r
    cases rep_str rx
    cases rep_str q
    exact ⟨a, b, rfl, rfl, aft_at st (.bl _) k⟩
end
end PL
/-! PLTup1: a tuple one time is itself. -/
namespace PL
open PySem PySem.Spec PyProof.Rows L2
theorem tup_once (l : Addr) (its : Array Value) (n : Nat) (dd : Option Addr) (sl : Array (Option Value)) (u : Tok) :
    Meets (Builtin.«tuple.__mul__» ⟨[.ref l, .int 1 u], []⟩) (fun _ R s => s.heap.get? l = some { cls := .type "tuple", dict := dd, data := .seq its n, slots := sl } ∧ R (.ok (.ret (.ref l))) s) :=
  .of_wp fun prog w A R s h => by
    obtain ⟨hp, g, d, tk, os⟩ := s
    obtain ⟨hl, h⟩ := h
    have f1 := AutoSeq1.idx_int
    wp_walk using wpAny_loadPart' hl
    repeat (first
      | (refine wpAny_ite_false (decide_eq_false (by decide)) ?_; wp_walk using wpAny_loadPart' hl)
      | (refine wpAny_ite_true (decide_eq_true (by simp)) ?_; wp_walk using wpAny_loadPart' hl))
    exact ⟨_, rfl, h⟩
def rOnce (K : PySem.W.Frag) : R2 := fun x y H Q => ∃ l xs, x = .ref l ∧ y = .int 1 ∧ SqT K H l xs ∧ Q (.ref l) H
theorem op_once {X : Cx} : OpR X (binaryOp .Mult) (rOnce X.K) := by
  intro pins s σ H x y v u Q I rx ry h
  obtain ⟨l, xs, rfl, rfl, hT, q⟩ := h
  cases rx
  obtain ⟨t, rfl⟩ := ry
  obtain ⟨its, r, ⟨⟨cls, dd, data, sl⟩, ho, hc, n, hd⟩, hs⟩ := I.tuple hT
  simp only at hc hd
  subst hc hd
  exact wpAny_binaryOp_repeat_ref (T := "tuple") (U := "int") (by decide) ⟨_, ho, rfl⟩ (fun s' => typeIs_int s' 1 t) noFill_tuple_mul F.fills_int_mul F.slot_int_rmul repeat_tuple F.slot_int_index.lookup
    (call_meets F.slot_int_rmul (typeIs_int s 1 t) F.entry_int_rmul (F.args_int_rmul_2 _ _) (int_rmul_tuple 1 t l its.toArray n dd sl)
      ⟨ho, rfl, ⟨_, ho, rfl⟩, call_meets F.slot_tuple_mul ⟨_, ho, rfl⟩ F.entry_tuple_mul (F.args_tuple_mul_2 _ _) (tup_once l its.toArray n dd sl t) ⟨ho, ⟨.ref l, H, I, rfl, q⟩⟩⟩)
def rBX (K : PySem.W.Frag) (op : BOp) : R2 := fun x y H Q => rB K op x y H Q ∨ (op = .mul ∧ rOnce K x y H Q)
theorem op_binX {X : Cx} (op : BOp) : OpR X (binaryOp (bop op)) (rBX X.K op) := by
  intro pins s σ H x y v u Q I rx ry h
  rcases h with h | ⟨rfl, h⟩
  · exact op_bin op pins s σ H x y v u Q I rx ry h
  · exact op_once pins s σ H x y v u Q I rx ry h
section
variable {K : PySem.W.Frag} {M : Nm} {F H : Hp} {es : List Sl} {vs : List (Option V)}
theorem bin_okX {op : BOp} {x y : D} {z : D × Bool} {v w : V} {Q : VK} (st : Sta K M F H es vs) (rx : Rep K M F x v) (ry : Rep K M F y w) (h : biD op x y = some z) (k : Aft K M F es vs z Q) : rBX K op v w H Q := by
  by_cases hm : ∃ l, op = .mul ∧ x = .tup l ∧ y = .int 1
  · obtain ⟨l, rfl, rfl, rfl⟩ := hm
    simp only [biD] at h
    split at h
    · cases h
      have r2 := rx
      obtain ⟨a, us, rfl, h1, z1, r1⟩ := rep_tup rx
      cases rep_int ry
      refine .inr ⟨rfl, a, us, rfl, rfl, same_sqT st.same h1, ?_⟩
      have e : (List.replicate (1 : Int).toNat l).flatten = l := by
        show (List.replicate 1 l).flatten = l
        simp
      rw [e] at k
      exact aft_at st r2 k
    · cases h
  · refine .inl (bin_ok st rx ry h k fun e l j h1 h2 => ?_)
    subst e h1 h2
    simp only [biD] at h
    split at h
    · rename_i hh
      have : ¬ j = 1 := fun e => hm ⟨l, rfl, rfl, by rw [e]⟩
      omega
    · cases h
end
end PL
/-! PLIt: zip and enumerate over lists and tuples in any mix. -/
namespace PL
open PySem PySem.Spec PyProof.Rows L2

/-- the list (false) or the tuple (true) at a -/
def SqA (K : PySem.W.Frag) : Bool → Hp → Addr → List V → Prop
  | false, H, a, xs => SqL K H a xs
  | true, H, a, xs => SqT K H a xs
def ItA : Bool → Heap → Addr → Addr → Nat → Prop
  | false, h, it, a, i => h.IsListIter it a i
  | true, h, it, a, i => h.IsTupleIter it a i
def LiA : Bool → Heap → Addr → Array Value → Prop
  | false, h, a, its => h.IsList a its
  | true, h, a, its => h.IsTuple a its
def obA : Bool → Addr → Obj
  | false, a => { cls := .type "list_iterator", data := .fields #[.ref a, .int 0 0] }
  | true, a => { cls := .type "tuple_iterator", data := .fields #[.ref a, .int 0 0] }
theorem drawsA {prog : Program} {w : World} {A : Around} (hh : A.handled = none) (b : Bool) (it a : Addr) (hne : a ≠ it) (its : Array Value) : Draws prog w A it [it, a] its.size (fun i v => its[i]? = some v) (fun i h => ItA b h it a i ∧ LiA b h a its) := by
  cases b
  · exact Draws.list hh it a hne its
  · exact Draws.tuple hh it a hne its
theorem beginsA (b : Bool) (a : Addr) (its : Array Value) : Begins (.ref a) (obA b a) fun h => LiA b h a its := by
  cases b
  · exact begins_list a its
  · exact begins_tuple a its
theorem itA_new {b : Bool} {h : Heap} {it a : Addr} (e : h.get? it = some (obA b a)) : ItA b h it a 0 := by
  cases b
  · exact ⟨_, e, rfl, rfl⟩
  · exact ⟨_, e, rfl, rfl⟩
theorem itA_obj {b : Bool} {h : Heap} {it a : Addr} {i : Nat} (x : ItA b h it a i) : ∃ o, h.get? it = some o ∧ ∀ v, o.data ≠ .cell v := by
  cases b
  · obtain ⟨o, e, _, d⟩ := x
    exact ⟨o, e, fun v q => by rw [d] at q; cases q⟩
  · obtain ⟨o, e, _, d⟩ := x
    exact ⟨o, e, fun v q => by rw [d] at q; cases q⟩
theorem itA_keep {b : Bool} {h h' : Heap} {it a : Addr} {i : Nat} (x : ItA b h it a i) (k : ∀ o, h.get? it = some o → h'.get? it = some o) : ItA b h' it a i := by
  cases b
  · exact Heap.IsListIter.at x k
  · exact Heap.IsTupleIter.at x k
section
variable {X : Cx} {pins : List (Addr × Obj)} {σ : L2.St} {H : Hp} {s : Shared}
theorem seqA {b : Bool} {a : Addr} {xs : List V} (I : Inv X pins σ H s) (h : SqA X.K b H a xs) : ∃ its : List Value, Vals xs its ∧ LiA b s.heap a its.toArray := by
  cases b
  · obtain ⟨its, r, p, _⟩ := I.list h
    exact ⟨its, r, p.isList⟩
  · obtain ⟨its, r, p, _⟩ := I.tuple h
    exact ⟨its, r, p⟩
theorem seqA_inj {b : Bool} {a : Addr} {xs ys : List V} (I : Inv X pins σ H s) (h : SqA X.K b H a xs) (h' : SqA X.K b H a ys) : xs = ys := by
  cases b
  · exact I.list_inj h h'
  · exact I.tuple_inj h h'
theorem liA_lt {b : Bool} {h : Heap} {a : Addr} {its : Array Value} (x : LiA b h a its) : a < h.objs.size := by
  cases b
  · obtain ⟨o, e, _⟩ := x
    exact Heap.lt_size e
  · obtain ⟨o, e, _⟩ := x
    exact Heap.lt_size e
end

/-- what stands at a and b, pair by pair, each pair new -/
def JZ (K : PySem.W.Frag) (b1 b2 : Bool) (a1 a2 : Addr) : It where
  go := fun i H => ∃ xs ys, SqA K b1 H a1 xs ∧ SqA K b2 H a2 ys ∧ i < min xs.length ys.length
  yld := fun i H v H' => ∃ T x y, v = .ref T ∧ H T = none ∧ H' = upd H T (.tup [x, y]) ∧ (∀ xs, SqA K b1 H a1 xs → xs[i]? = some x) ∧ ∀ ys, SqA K b2 H a2 ys → ys[i]? = some y
  stop := fun i H => ∃ xs ys, SqA K b1 H a1 xs ∧ SqA K b2 H a2 ys ∧ i = min xs.length ys.length
theorem turn_JZ {P : Program} {w : World} {K : PySem.W.Frag} {elts : List Expr} {kk : Nat} {tpos : Pos} {b1 b2 : Bool} {a1 a2 z TI TO i1 i2 : Addr} (S : ZipSep2 z TI TO i1 i2 [i1, a1] [i2, a2]) (n1 : a1 ≠ i1) (n2 : a2 ≠ i2) :
    Turn P w K (.Tuple elts kk tpos) (JZ K b1 b2 a1 a2) [z, TI, TO, i1, i2] z (fun i h => IsZip h z TI TO .none ∧ IsTupOf2 h TI (.ref i1) (.ref i2) ∧ (∃ x y, IsTupOf2 h TO x y) ∧ ItA b1 h i1 a1 i ∧ ItA b2 h i2 a2 i) where
  mem := by simp
  obj := fun i h st c hc => by
    obtain ⟨q1, q2, ⟨x, y, q3⟩, q4, q5⟩ := st
    simp only [List.mem_cons, List.not_mem_nil, or_false] at hc
    rcases hc with rfl | rfl | rfl | rfl | rfl
    · exact ⟨_, q1, fun v q => nomatch q⟩
    · exact ⟨_, q2, fun v q => nomatch q⟩
    · exact ⟨_, q3, fun v q => nomatch q⟩
    · exact itA_obj q4
    · exact itA_obj q5
  keep := fun i h h' st k => by
    obtain ⟨q1, q2, ⟨x, y, q3⟩, q4, q5⟩ := st
    exact ⟨k _ (by simp) _ q1, k _ (by simp) _ q2, ⟨x, y, k _ (by simp) _ q3⟩, itA_keep q4 fun o => k _ (by simp) o, itA_keep q5 fun o => k _ (by simp) o⟩
  item := by
    intro X hP hw hK hc i pins s σ H E I hf st hg
    subst hP hw hK
    obtain ⟨xs, ys, s1, s2, hi⟩ := hg
    obtain ⟨us, r1, l1⟩ := seqA I s1
    obtain ⟨vs, r2, l2⟩ := seqA I s2
    have e1 := r1.length
    have e2 := r2.length
    have hh : X.A.in1.handled = none := I.ok.hd hc
    have G := GoesN.zip2 (prog := X.prog) (w := X.w) (A := X.A) (elts := elts) (x1 := kk) (pos := tpos) S (drawsA hh b1 i1 a1 n1 us.toArray) (drawsA hh b2 i2 a2 n2 vs.toArray)
    refine G.goes i s (fun v s2 => ∃ x H', Inv X pins σ H' s2 ∧ RelV x v ∧ (JZ X.K b1 b2 a1 a2).yld i H x H' ∧ (IsZip s2.heap z TI TO .none ∧ IsTupOf2 s2.heap TI (.ref i1) (.ref i2) ∧ (∃ x y, IsTupOf2 s2.heap TO x y) ∧ ItA b1 s2.heap i1 a1 (i + 1) ∧ ItA b2 s2.heap i2 a2 (i + 1)) ∧ ∀ b ∈ [z, TI, TO, i1, i2], H' b = none) E (by simp only [List.size_toArray]; omega) ⟨st.1, st.2.1, st.2.2.1, ⟨st.2.2.2.1, l1⟩, ⟨st.2.2.2.2, l2⟩⟩ fun v h' tk hY st' hk _ => ?_
    obtain ⟨T, x, y, rfl, hT, hx, hy, ht⟩ := hY
    obtain ⟨t1, t2, t3, ⟨t4, _⟩, ⟨t5, _⟩⟩ := st'
    have lx : i < xs.length := by omega
    have ly : i < ys.length := by omega
    obtain ⟨x', hx', rx⟩ := r1.get (List.getElem?_eq_getElem lx)
    obtain ⟨y', hy', ry⟩ := r2.get (List.getElem?_eq_getElem ly)
    have ex : x' = x := by
      have : us[i]? = some x := by simpa using hx
      rw [hx'] at this
      exact Option.some.inj this
    have ey : y' = y := by
      have : vs[i]? = some y := by simpa using hy
      rw [hy'] at this
      exact Option.some.inj this
    subst ex ey
    have new : ObjOk X.prog X.w (upd H T (.tup [xs[i], ys[i]])) h' T (.tup [xs[i], ys[i]]) := ⟨by show 2 ≤ sizeLine; decide, [x', y'], .cons rx (.cons ry .nil), ht⟩
    refine ⟨.ref T, upd H T (.tup [xs[i], ys[i]]), I.turnedNew (t' := tk) (ch := [z, TO, i1, i2]) hk (fun c hm => hf c (by simp only [List.mem_cons, List.not_mem_nil, or_false] at hm ⊢; rcases hm with q | q | q | q <;> simp [q])) hT new, rfl, ⟨T, _, _, rfl, I.hok.fresh hT, rfl, fun l hl => by rw [seqA_inj I hl s1]; exact List.getElem?_eq_getElem lx, fun l hl => by rw [seqA_inj I hl s2]; exact List.getElem?_eq_getElem ly⟩, ⟨t1, t2, t3, t4, t5⟩, fun c hm => ?_⟩
    have hn := (hf c hm).1
    have hlt : c < s.heap.objs.size := by
      obtain ⟨o, e, _⟩ : ∃ o, s.heap.get? c = some o ∧ ∀ v, o.data ≠ .cell v := by
        obtain ⟨q1, q2, ⟨x, y, q3⟩, q4, q5⟩ := st
        simp only [List.mem_cons, List.not_mem_nil, or_false] at hm
        rcases hm with rfl | rfl | rfl | rfl | rfl
        · exact ⟨_, q1, fun v q => nomatch q⟩
        · exact ⟨_, q2, fun v q => nomatch q⟩
        · exact ⟨_, q3, fun v q => nomatch q⟩
        · exact itA_obj q4
        · exact itA_obj q5
      exact Heap.lt_size e
    rw [upd_ne (Nat.ne_of_lt (Nat.lt_of_lt_of_le hlt hT))]
    exact hn
  done := by
    intro X hP hw hK hc i pins s σ H E I hf st hg
    subst hP hw hK
    obtain ⟨xs, ys, s1, s2, hi⟩ := hg
    obtain ⟨us, r1, l1⟩ := seqA I s1
    obtain ⟨vs, r2, l2⟩ := seqA I s2
    have e1 := r1.length
    have e2 := r2.length
    have hh : X.A.in1.handled = none := I.ok.hd hc
    have G := GoesN.zip2 (prog := X.prog) (w := X.w) (A := X.A) (elts := elts) (x1 := kk) (pos := tpos) S (drawsA hh b1 i1 a1 n1 us.toArray) (drawsA hh b2 i2 a2 n2 vs.toArray)
    have ei : i = min us.toArray.size vs.toArray.size := by simp only [List.size_toArray]; omega
    subst ei
    exact G.stops s (fun s1 => Inv X pins σ H s1) E ⟨st.1, st.2.1, st.2.2.1, ⟨st.2.2.2.1, l1⟩, ⟨st.2.2.2.2, l2⟩⟩ fun h' tk hk _ => I.turnedL (t' := tk) (ch := [z, TO, i1, i2]) hk fun c hm => hf c (by simp only [List.mem_cons, List.not_mem_nil, or_false] at hm ⊢; rcases hm with q | q | q | q <;> simp [q])
  self := fun A i s Q E st h => wpAny_pyIter_zip st.1 h
def iZ (K : PySem.W.Frag) (ta : TA) : TI := fun σ H R => ta σ H fun vs H1 => ∃ b1 b2 a1 a2 xs ys, vs = [.ref a1, .ref a2] ∧ SqA K b1 H1 a1 xs ∧ SqA K b2 H1 a2 ys ∧ R (JZ K b1 b2 a1 a2) H1
theorem pi_Z {X : Cx} {e e2 : Expr} {ta : TA} {p pos tpos : Pos} {elts : List Expr} {kk : Nat} (hg : Gl X "zip") (hm : X.mg "zip" = none) (ha : PA X [e, e2] ta)
    (hs : starEach [e, e2] X.env = (false, eval e X.env) :: starEach [e2] X.env) (hpl : (backTo pos (starEach [e2] X.env)).any (·.1) = false) : PI X (.Tuple elts kk tpos) (.Call (.Name "zip" p) [e, e2] [] pos) (iZ X.K ta) := by
  refine ⟨fun pins s σ H R I h => ?_⟩
  refine Call_ (ld_blt I hg hm PyProof.Rows.boot_zip (PyProof.Rows.callWith_type1 (thn (ha.run pos pins s σ H _ I h) fun us s1 ⟨vs, H1, I1, r1, q1⟩ => ?_) hs hpl))
  obtain ⟨b1, b2, a1, a2, xs, ys, rfl, g1, g2, q⟩ := q1
  cases r1 with
  | cons r rr =>
  cases rr with
  | cons r' rr =>
  cases rr
  cases r
  cases r'
  obtain ⟨us, v1, l1⟩ := seqA I1 g1
  obtain ⟨ws, v2, l2⟩ := seqA I1 g2
  refine zip_begins2 (beginsA b1 a1 us.toArray) (beginsA b2 a2 ws.toArray) l1 l2 fun h' z1 z2 z3 z4 z5 _ k => wpAny_pyIter_zip z1 ?_
  have c1 := liA_lt l1
  have c2 := liA_lt l2
  have S := zip_sep2 (N := s1.heap.objs.size) (fp1 := [a1]) (fp2 := [a2]) (by simpa using c1) (by simpa using c2)
  refine ⟨_, _, _, _, H1, rfl, I1.kept (t' := s1.toks) k, turn_JZ S (Nat.ne_of_lt c1) (Nat.ne_of_lt (Nat.lt_succ_of_lt c2)), ⟨z1, z2, ⟨_, _, z3⟩, itA_new z4, itA_new z5⟩, fun c hm => ?_, q⟩
  have hle : s1.heap.objs.size ≤ c := by
    simp only [List.mem_cons, List.not_mem_nil, or_false] at hm
    rcases hm with rfl | rfl | rfl | rfl | rfl <;> first | exact Nat.le_refl _ | exact Nat.le_add_right _ _
  exact Inv.fpOk I1 hle (I1.hok.fresh hle)

/-! ### enumerate -/
set_option maxHeartbeats 1000000 in
theorem enum_meets {x : Value} {ob : Obj} {St : Heap → Prop} (B : Begins x ob St) :
    Meets (Builtin.«enumerate.__new__» ⟨[.type "enumerate", x], []⟩) (fun _ R s => St s.heap ∧ R (.ok (.ret (.ref (s.heap.push ob).objs.size))) { s with heap := (s.heap.push ob).push { cls := .type "enumerate", data := .fields #[.none, .bool false, .ref s.heap.objs.size, rawInt 0, .none, .none] } }) :=
  .of_wp fun P W Ar R st hyp => by
    obtain ⟨hp, gn, dr, tk, os⟩ := st
    obtain ⟨i1, i2⟩ := hyp
    have isub := sub_enumerate
    have go : ∀ {Ar' : Around} {Er : Value → Shared → Prop} {G : Value → Shared → Prop}, G (.ref hp.objs.size) ⟨hp.push ob, gn, dr, tk, os⟩ → wpAny (model P W) Ar' (pyIter x) G Er ⟨hp, gn, dr, tk, os⟩ := fun g => B.iter P W _ _ ⟨hp, gn, dr, tk, os⟩ _ i1 g
    wp_walk using go
    refine wpAny_stack_any fun _ => wpAny_pure ?_
    split
    · rename_i cl _ _ _ _ _
      cases (cl == Value.type "enumerate") <;> (wp_walk using go; exact ⟨_, rfl, i2⟩)
    · wp_walk using go
      exact ⟨_, rfl, i2⟩
theorem enum_go {prog : Program} {w : World} {A : Around} {E : Value → Shared → Prop} {s : Shared} {x : Value} {ob : Obj} {St : Heap → Prop} {Q : Value → Shared → Prop} (B : Begins x ob St) (i1 : St s.heap)
    (h : ∀ h', IsEnum h' (s.heap.objs.size + 1) s.heap.objs.size 0 .none → h'.get? s.heap.objs.size = some ob → (∀ b o, s.heap.get? b = some o → h'.get? b = some o) → Q (.ref (s.heap.objs.size + 1)) { s with heap := h' }) : wpAny (model prog w) A (call (.type "enumerate") [x]) Q E s := by
  refine callType_new F.called_enumerate (by decide) (F.typeCall_enumerate_1 _) (F.newCall_enumerate_1 _) (fun obj => F.args_object_init_2 obj _) F.entry_enumerate_new (enum_meets B) ⟨i1, ?_⟩
  have z : (s.heap.push ob).objs.size = s.heap.objs.size + 1 := Heap.size_push ..
  generalize heq : (s.heap.push ob).push { cls := .type "enumerate", data := .fields #[.none, .bool false, .ref s.heap.objs.size, rawInt 0, .none, .none] } = g
  have he : IsEnum g (s.heap.objs.size + 1) s.heap.objs.size 0 .none := by
    rw [← heq, ← z]
    exact Heap.get?_push_size _ rfl
  have k : ∀ b o, s.heap.get? b = some o → g.get? b = some o := fun b o e => by
    rw [← heq]
    exact Heap.get?_push_of_some _ (Heap.get?_push_of_some _ e)
  show _ ∧ _
  rw [z]
  refine ⟨⟨_, he, rfl⟩, h g he ?_ k⟩
  rw [← heq]
  exact Heap.get?_push_of_some _ (Heap.get?_push_size _ B.free)
def JE (K : PySem.W.Frag) (b : Bool) (a : Addr) : It where
  go := fun i H => ∃ xs, SqA K b H a xs ∧ i < xs.length
  yld := fun i H v H' => ∃ T y, v = .ref T ∧ H T = none ∧ H' = upd H T (.tup [.int i, y]) ∧ ∀ xs, SqA K b H a xs → xs[i]? = some y
  stop := fun i H => ∃ xs, SqA K b H a xs ∧ i = xs.length
theorem turn_JE {P : Program} {w : World} {K : PySem.W.Frag} {elts : List Expr} {kk : Nat} {tpos : Pos} {b : Bool} {a e it : Addr} (n1 : a ≠ it) (n2 : e ≠ it) (n3 : e ≠ a) :
    Turn P w K (.Tuple elts kk tpos) (JE K b a) [e, it] e (fun i h => (∃ old, IsEnum h e it (0 + (i : Int)) old) ∧ ItA b h it a i) where
  mem := by simp
  obj := fun i h st c hc => by
    obtain ⟨⟨old, q1⟩, q2⟩ := st
    simp only [List.mem_cons, List.not_mem_nil, or_false] at hc
    rcases hc with rfl | rfl
    · exact ⟨_, q1, fun v q => nomatch q⟩
    · exact itA_obj q2
  keep := fun i h h' st k => by
    obtain ⟨⟨old, q1⟩, q2⟩ := st
    exact ⟨⟨old, k _ (by simp) _ q1⟩, itA_keep q2 fun o => k _ (by simp) o⟩
  item := by
    intro X hP hw hK hc i pins s σ H E I hf st hg
    subst hP hw hK
    obtain ⟨xs, s1, hi⟩ := hg
    obtain ⟨us, r1, l1⟩ := seqA I s1
    have e1 := r1.length
    have hh : X.A.in1.handled = none := I.ok.hd hc
    have G := GoesN.enumFrom (prog := X.prog) (w := X.w) (A := X.A) (elts := elts) (x1 := kk) (pos := tpos) 0 (drawsA hh b it a n1 us.toArray) e n2 (by simp [n2, n3]) (by simp)
    refine G.goes i s (fun v s2 => ∃ x H', Inv X pins σ H' s2 ∧ RelV x v ∧ (JE X.K b a).yld i H x H' ∧ ((∃ old, IsEnum s2.heap e it (0 + ((i + 1 : Nat) : Int)) old) ∧ ItA b s2.heap it a (i + 1)) ∧ ∀ c ∈ [e, it], H' c = none) E (by simp only [List.size_toArray]; omega) ⟨st.1, st.2, l1⟩ fun v h' tk hY st' hk _ => ?_
    obtain ⟨T, t, x, rfl, hT, hx, ht⟩ := hY
    obtain ⟨t1, t2, _⟩ := st'
    obtain ⟨x', hx', rx⟩ := r1.get (List.getElem?_eq_getElem hi)
    have ex : x' = x := by
      have : us[i]? = some x := by simpa using hx
      rw [hx'] at this
      exact Option.some.inj this
    subst ex
    rw [Int.zero_add] at ht
    have new : ObjOk X.prog X.w (upd H T (.tup [.int i, xs[i]])) h' T (.tup [.int i, xs[i]]) := ⟨by show 2 ≤ sizeLine; decide, [_, x'], .cons ⟨t, rfl⟩ (.cons rx .nil), ht⟩
    refine ⟨.ref T, upd H T (.tup [.int i, xs[i]]), I.turnedNew (t' := tk) (ch := [e, it]) hk hf hT new, rfl, ⟨T, _, rfl, I.hok.fresh hT, rfl, fun l hl => by rw [seqA_inj I hl s1]; exact List.getElem?_eq_getElem hi⟩, ⟨t1, t2⟩, fun c hm => ?_⟩
    have hn := (hf c hm).1
    have hlt : c < s.heap.objs.size := by
      obtain ⟨o, e, _⟩ : ∃ o, s.heap.get? c = some o ∧ ∀ v, o.data ≠ .cell v := by
        obtain ⟨⟨old, q1⟩, q2⟩ := st
        simp only [List.mem_cons, List.not_mem_nil, or_false] at hm
        rcases hm with rfl | rfl
        · exact ⟨_, q1, fun v q => nomatch q⟩
        · exact itA_obj q2
      exact Heap.lt_size e
    rw [upd_ne (Nat.ne_of_lt (Nat.lt_of_lt_of_le hlt hT))]
    exact hn
  done := by
    intro X hP hw hK hc i pins s σ H E I hf st hg
    subst hP hw hK
    obtain ⟨xs, s1, rfl⟩ := hg
    obtain ⟨us, r1, l1⟩ := seqA I s1
    have e1 := r1.length
    have hh : X.A.in1.handled = none := I.ok.hd hc
    have G := GoesN.enumFrom (prog := X.prog) (w := X.w) (A := X.A) (elts := elts) (x1 := kk) (pos := tpos) 0 (drawsA hh b it a n1 us.toArray) e n2 (by simp [n2, n3]) (by simp)
    have ei : xs.length = us.toArray.size := by simp only [List.size_toArray]; omega
    rw [ei] at st
    exact G.stops s (fun s1 => Inv X pins σ H s1) E ⟨st.1, st.2, l1⟩ fun h' tk hk _ => I.turnedL (t' := tk) (ch := [e, it]) hk hf
  self := fun A i s Q E st h => let ⟨⟨_, q⟩, _⟩ := st; wpAny_pyIter_enum q h
def iE (K : PySem.W.Frag) (ta : TA) : TI := fun σ H R => ta σ H fun vs H1 => ∃ b a xs, vs = [.ref a] ∧ SqA K b H1 a xs ∧ R (JE K b a) H1
theorem pi_E {X : Cx} {e : Expr} {ta : TA} {p pos tpos : Pos} {elts : List Expr} {kk : Nat} (hg : Gl X "enumerate") (hm : X.mg "enumerate" = none) (ha : PA X [e] ta) (hs : starEach [e] X.env = [(false, eval e X.env)]) :
    PI X (.Tuple elts kk tpos) (.Call (.Name "enumerate" p) [e] [] pos) (iE X.K ta) := by
  refine ⟨fun pins s σ H R I h => ?_⟩
  refine Call_ (ld_blt I hg hm boot_enumerate (PyProof.Rows.callWith_type1 (thn (ha.run pos pins s σ H _ I h) fun us s1 ⟨vs, H1, I1, r1, q1⟩ => ?_) hs rfl))
  obtain ⟨b, a, xs, rfl, g1, q⟩ := q1
  cases r1 with
  | cons r rr =>
  cases rr
  cases r
  obtain ⟨us, v1, l1⟩ := seqA I1 g1
  refine enum_go (beginsA b a us.toArray) l1 fun h' z1 z2 k => wpAny_pyIter_enum z1 ?_
  have c1 := liA_lt l1
  refine ⟨_, _, _, _, H1, rfl, I1.kept (t' := s1.toks) k, turn_JE (Nat.ne_of_lt c1) (Nat.succ_ne_self _) (Nat.ne_of_gt (Nat.lt_succ_of_lt c1)), ⟨⟨_, z1⟩, itA_new z2⟩, fun c hm => ?_, q⟩
  have hle : s1.heap.objs.size ≤ c := by
    simp only [List.mem_cons, List.not_mem_nil, or_false] at hm
    rcases hm with rfl | rfl <;> first | exact Nat.le_refl _ | exact Nat.le_add_right _ _
  exact Inv.fpOk I1 hle (I1.hok.fresh hle)
end PL
/-! PLSnd: the small syntax against the text's own; what an expression's reckoning says holds of the machine. -/
namespace PL
open PySem PySem.Spec PyProof.Rows L2

/-- the text's names by numbers -/
structure Ns where
  gN : Nat → Str
  fN : Nat → Str
  cN : Nat → Str
  mN : Nat → Str
  fl : Nat → Str
  fs : List Nat
  gs : List Nat
  cs : List Nat
  xs : List Nat
  lns : List (Str × NameKind)
/-- where the text's defs stand -/
structure Lk where
  fa : Nat → Addr
  fd : Nat → FuncData
  ps : Nat → List Str
  cw : Value

/-- the def that holds lambdas, by its names -/
def lamB (T : Ns) (sc : Scope) : Bool := !T.lns.isEmpty && decide (sc.names = T.lns)
def visB (sc : Scope) (x : Str) : Bool :=
  match sc.names.lookup x with
  | some .local => true
  | some .cell => true
  | some .free => true
  | _ => false
def stoB (sc : Scope) (x : Str) : Bool :=
  match sc.names.lookup x with
  | some .local => true
  | some .cell => true
  | _ => false
def glB (sc : Scope) (x : Str) : Bool :=
  match sc.names.lookup x with
  | some .globalImplicit => true
  | _ => false
def nmOk (x : Str) : Bool := !(x == ("__debug__" : Str)) && !(x == ("__classdict__" : Str)) && !(x == ("__name__" : Str))
theorem vis_of {sc : Scope} {x : Str} (h : visB sc x = true) : Vis sc x := by
  unfold visB at h
  unfold Vis
  split at h <;> first | (rename_i e; rw [e]; simp; done) | cases h
theorem loc_of {sc : Scope} {x : Str} (h : stoB sc x = true) : L2.Loc sc x := by
  unfold stoB at h
  unfold L2.Loc
  split at h <;> first | (rename_i e; rw [e]; simp; done) | cases h
theorem gl_of {X : Cx} {x : Str} (h : glB X.env.scope x = true) : Gl X x := by
  unfold glB at h
  unfold Gl PySem.Env.kindOf
  split at h
  · assumption
  · cases h
theorem nmOk_of {x : Str} (h : nmOk x = true) : (x == ("__debug__" : Str)) = false ∧ (x == ("__classdict__" : Str)) = false ∧ x ≠ "__name__" := by
  unfold nmOk at h
  simp only [Bool.and_eq_true, Bool.not_eq_true'] at h
  exact ⟨h.1.1, h.1.2, by simpa using h.2⟩

/-- no star, no set, no slice -/
def plain : Expr → Bool
  | .Starred _ _ => false
  | .Set _ _ _ => false
  | .Slice _ _ _ _ => false
  | .NamedExpr _ _ _ => false
  | .Lambda _ _ _ _ => false
  | .Await _ _ => false
  | .Yield _ _ => false
  | .YieldFrom _ _ => false
  | .GeneratorExp _ _ _ _ => false
  | .SetComp _ _ _ _ => false
  | _ => true
theorem plain_star {e : Expr} {es : List Expr} {env : PySem.Env} (h : plain e = true) : starEach (e :: es) env = (false, eval e env) :: starEach es env := by
  cases e <;> first | rfl | (simp [plain] at h; done)
theorem plain_marks {op : CmpOp} {e : Expr} (h : plain e = true) : behindInMarks op e = false := by
  cases e <;> first | rfl | (simp [plain] at h; done)
theorem plain_ix {e : Expr} (h : plain e = true) : PlainIx e := by
  intro o i
  cases e <;> first | rfl | (simp [plain] at h; done)
theorem stars_none {es : List Expr} {env : PySem.Env} {pos : Pos} (h : es.all plain = true) : (backTo pos (starEach es env)).any (·.1) = false := by
  induction es with
  | nil => rfl
  | cons e r ih =>
    simp only [List.all_cons, Bool.and_eq_true] at h
    rw [plain_star h.1]
    show (false || (backTo pos (starEach r env)).any (·.1)) = false
    rw [ih h.2] <;> rfl

def mC : D → Const → Bool
  | .non, .none => true
  | .bl b, .bool c => b == c
  | .int i, .int j => decide (i = j)
  | .str s, .str t => decide (s = t)
  | _, _ => false
def tyN : Ty → Str
  | .int => "int" | .bool => "bool" | .str => "str" | .tuple => "tuple" | .list => "list"
def mTy (sc : Scope) : List Ty → List Expr → Bool
  | [], [] => true
  | t :: ts, .Name x _ :: es => decide (x = tyN t) && glB sc x && mTy sc ts es
  | _, _ => false

/-- a, b, .. stored as they are -/
def nmT (N : List Str) (so : Scope) : List Nat → List Expr → Bool
  | [], [] => true
  | i :: is, .Name x _ :: r => decide (N[i]? = some x) && stoB so x && nmT N so is r
  | _, _ => false
def mT (N : List Str) (so : Scope) : Tg → Expr → Bool
  | .one i, .Name x _ => decide (N[i]? = some x) && stoB so x
  | .many is, .Tuple ts _ _ => nmT N so is ts
  | _, _ => false
/-- a comprehension's own names, by their places -/
def ownT (N : List Str) (is : List Nat) : List (Str × Nat) := is.map fun i => (N.getD i "", i)
def plainT : Expr → Bool
  | .Name _ _ => true
  | .Call _ _ _ _ => true
  | .Subscript _ _ _ => true
  | .Attribute _ _ _ => true
  | _ => false
def tOk (pe : Expr) : Bool := plainT pe || match pe with | .Compare _ _ _ _ => true | .BoolOp _ _ _ => true | .UnaryOp .Not _ _ => true | _ => false
/-- a receiver that is no super() -/
def bsOk : Expr → Bool
  | .Name _ _ => true
  | .Constant _ _ _ => true
  | _ => false
theorem bsOk_of {e : Expr} {env : PySem.Env} (h : bsOk e = true) (nm : Str) : attributeBase e nm env (eval e env) = eval e env := by
  cases e <;> first | rfl | (simp [bsOk] at h; done)
section
variable (T : Ns) (N : List Str)
mutual
def mE (sc : Scope) : E → Expr → Bool
  | .var i, e => plain e && match e with | .Name x _ => decide (N[i]? = some x) && visB sc x && nmOk x | _ => false
  | .cst d, e => plain e && match e with | .Constant c _ _ => mC d c | _ => false
  | .glb g, e => plain e && match e with | .Name x _ => decide (T.gN g = x) && glB sc x && nmOk x && T.gs.contains g | _ => false
  | .bin op a b, e => plain e && match e with | .BinOp x o y _ => decide (o = bop op) && mE sc a x && mE sc b y | _ => false
  | .neg a, e => plain e && match e with | .UnaryOp .USub x _ => mE sc a x | _ => false
  | .cmp op a b, e => plain e && match e with | .Compare x [o] [y] _ => decide (o = cop op) && mE sc a x && mE sc b y | _ => false
  | .cmpv op v b, e => plain e && match e with | .Compare (.Name x _) [o] [y] _ => decide (o = cop op) && decide (N[v]? = some x) && visB sc x && nmOk x && mE sc b y | _ => false
  | .chn o p a b c, e => plain e && match e with | .Compare x [o', p'] [y, z] _ => decide (o' = cop o) && decide (p' = cop p) && mE sc a x && mE sc b y && mE sc c z | _ => false
  | .and a b, e => plain e && match e with
      | .BoolOp .And [x, y] _ => (mE sc a x && mE sc b y) && (tOk x && tOk y)
      | .BoolOp .And (x :: y :: z :: r) pos => (mE sc a x && (mE sc b (.BoolOp .And (y :: z :: r) pos))) && tOk x
      | _ => false
  | .or a b, e => plain e && match e with
      | .BoolOp .Or [x, y] _ => (mE sc a x && mE sc b y) && (tOk x && tOk y)
      | .BoolOp .Or (x :: y :: z :: r) pos => (mE sc a x && (mE sc b (.BoolOp .Or (y :: z :: r) pos))) && tOk x
      | _ => false
  | .not a, e => plain e && match e with | .UnaryOp .Not x _ => mE sc a x && tOk x | _ => false
  | .ifx c a b, e => plain e && match e with | .IfExp z x y _ => mE sc c z && mE sc a x && mE sc b y && tOk z | _ => false
  | .tup es, e => plain e && match e with | .Tuple xs _ _ => mEs sc es xs | _ => false
  | .lst es, e => plain e && match e with | .List xs _ => mEs sc es xs | _ => false
  | .idx a i, e => plain e && match e with | .Subscript x y _ => mE sc a x && mE sc i y | _ => false
  | .idxv v i, e => plain e && match e with | .Subscript (.Name x _) y _ => decide (N[v]? = some x) && visB sc x && nmOk x && mE sc i y | _ => false
  | .slc a lo hi, e => plain e && match e with | .Subscript x (.Slice l h none _) _ => mE sc a x && mO sc lo l && mO sc hi h | _ => false
  | .isI a ts, e => plain e && match e with
      | .Call (.Name f _) [x, .Tuple ys _ _] [] _ => decide (f = "isinstance") && glB sc f && mE sc a x && mTy sc ts ys && decide (ts.length ≤ 8)
      | .Call (.Name f _) [x, y] [] _ => decide (f = "isinstance") && glB sc f && mE sc a x && mTy sc ts [y]
      | _ => false
  | .bi b es, e => plain e && match e with | .Call (.Name f _) (x :: xs) [] _ => decide (f = nmBi b) && okBi b && glB sc f && mEs sc es (x :: xs) | _ => false
  | .bm m o a, e => plain e && match e with | .Call (.Attribute x nm ap) [y] [] cp => decide (nm = nmBm m) && okBm m && (ap.endLine == cp.line) && bsOk x && mE sc o x && mE sc a y | _ => false
  | .fn f es, e => plain e && match e with | .Call (.Name g _) xs [] _ => decide (g = T.fN f) && glB sc g && nmOk g && T.fs.contains f && mEs sc es xs | _ => false
  | .lc it tg c body, e => plain e && match e with
      | .ListComp el [⟨t, x, ifs, ab⟩] scope _ => (decide (ab = 0) && mI sc it t x) && (blkC N sc scope (ownT N tg.ixs) && decide tg.ixs.Nodup && !(lamB T (relS scope sc))) && mT N scope tg t && mIf (relS scope sc) c ifs && mE (relS scope sc) body el
      | _ => false
  | .wrd a, e => plain e && match e with
      | .Call (.Name w _) [.Lambda ⟨[], [], none, [], [], none, []⟩ body scope _] [] _ => decide (w = "_law_word") && glB sc w && lamB T sc && LamX.lamSB sc scope && !(lamB T scope) && mE scope a body
      | _ => false
  | .fnv f v es, e => plain e && match e with | .Call (.Name g _) (.Name x _ :: xs) [] _ => decide (g = T.fN f) && glB sc g && nmOk g && T.fs.contains f && decide (N[v]? = some x) && visB sc x && nmOk x && mEs sc es xs | _ => false
  | _, _ => false
def mEs (sc : Scope) : Es → List Expr → Bool
  | .nil, l => match l with | [] => true | _ => false
  | .cons a r, l => match l with | x :: xs => mE sc a x && mEs sc r xs | _ => false
def mO (sc : Scope) : O → Option Expr → Bool
  | .none, l => match l with | none => true | _ => false
  | .some a, l => match l with | some x => mE sc a x | _ => false
def mIf (sc : Scope) : O → List Expr → Bool
  | .none, l => match l with | [] => true | _ => false
  | .some a, l => match l with | [x] => mE sc a x && tOk x | _ => false
def mI (sc : Scope) : Src → Expr → Expr → Bool
  | .rng1 e, _, x => (match x with | .Call (.Name f _) [a] [] _ => decide (f = "range") && glB sc f && mE sc e a | _ => false)
  | .rng2 e e', _, x => (match x with | .Call (.Name f _) [a, b] [] _ => decide (f = "range") && glB sc f && mE sc e a && mE sc e' b | _ => false)
  | .seq e, _, x => mE sc e x
  | .enm e, t, x => (match t, x with | .Tuple _ _ _, .Call (.Name f _) [a] [] _ => decide (f = "enumerate") && glB sc f && mE sc e a | _, _ => false)
  | .zip e e', t, x => (match t, x with | .Tuple _ _ _, .Call (.Name f _) [a, b] [] _ => decide (f = "zip") && glB sc f && mE sc e a && mE sc e' b | _, _ => false)
  | _, _, _ => false
end
theorem mE_plain {sc : Scope} {e : E} {pe : Expr} (h : mE T N sc e pe = true) : plain pe = true := by
  cases e <;> first | (simp only [mE, Bool.and_eq_true] at h; exact h.1) | (simp [mE] at h; done)
theorem mI_plain {sc : Scope} {e : PL.Src} {t pe : Expr} (h : mI T N sc e t pe = true) : plain pe = true := by
  cases e <;> simp only [mI] at h <;> first | exact mE_plain T N h | (split at h <;> first | rfl | cases h) | cases h
theorem mEs_plain {sc : Scope} : ∀ {e : Es} {pe : List Expr}, mEs T N sc e pe = true → pe.all plain = true
  | .nil, [], _ => rfl
  | .nil, _ :: _, h => by simp [mEs] at h
  | .cons a r, [], h => by simp [mEs] at h
  | .cons a r, x :: xs, h => by
    simp only [mEs, Bool.and_eq_true] at h
    simp only [List.all_cons, Bool.and_eq_true]
    exact ⟨mE_plain T N h.1, mEs_plain h.2⟩
end

def veL : List Value := [.type "ValueError", .type "Exception", .type "BaseException", .type "object"]
/-! ### what holds of the text's top -/
structure Top (K : PySem.W.Frag) (mg : Str → Option Value) (M : Nm) (T : Ns) (L : Lk) (Γ : Ctx) : Prop where
  fl : M.fl = T.fl
  glb : ∀ g ∈ T.gs, ∀ d, Γ.glb g = some d → ∃ u v, mg (T.gN g) = some u ∧ RelV v u ∧ ∀ F, Rep K M F d v
  bi : ∀ b, okBi b = true → mg (nmBi b) = none
  ty : ∀ t, mg (tyN t) = none
  isi : mg "isinstance" = none
  rng : mg "range" = none
  enu : mg "enumerate" = none
  zip : mg "zip" = none
  exc : ∀ c ∈ T.xs, mg (T.cN c) = some (.ref (M.cl c)) ∧ PySem.W.keepIn K (.ref (M.cl c)) = true ∧ PySem.W.excIn K (M.cl c) veL "ValueError.__new__" = true ∧ PySem.W.subIn K (.ref (M.cl c)) (.type "BaseException") = some true ∧ PySem.W.typeIn K (.ref (M.cl c)) = some (.type "type")
  wdx : ∀ c v dw, Γ.wd ⟨c, v⟩ = some dw → c ∈ T.xs ∧ v = .non
  fn : ∀ f ∈ T.fs, mg (T.fN f) = some (.ref (L.fa f)) ∧ PySem.W.keepIn K (.ref (L.fa f)) = true ∧ ∃ dvs ds, Binds K (L.fd f) (L.ps f) ds ∧ Vals dvs ds ∧ ∀ F, Reps K M F (Γ.dfl f) dvs
/-- a def's promise, by its reckoning -/
def spF (K : PySem.W.Frag) (M : Nm) (call : Nat → List (D × Bool) → CRes) (f np : Nat) : Sp := fun vs H Q E => vs.length = np ∧ ∃ F ext xv args, ext.length = xv.length ∧ args.length = np ∧ Sta K M F H (ext ++ args.map some) (xv ++ vs.map some) ∧
  match call f args with
  | .ret r none => ∀ v F' H', Same F F' → Sta K M F' H' (some r :: ext) (some v :: xv) → Q v H'
  | .ret r (some d) => (∃ d0 rr, args = (d0, true) :: rr) ∧ ∀ v F' H', Same F F' → Sta K M F' H' (some r :: some (d, true) :: ext) (some v :: vs.head? :: xv) → Q v H'
  | .exc x none => ∀ cls d F' H', Same F F' → RepX K M F' x cls d → Sta K M F' H' ext xv → E cls d H'
  | .exc x (some d) => (∃ d0 rr, args = (d0, true) :: rr) ∧ ∀ cls dx F' H', Same F F' → RepX K M F' x cls dx → Sta K M F' H' (some (d, true) :: ext) (vs.head? :: xv) → E cls dx H'
  | .err => False
/-- what an exception must be for its word -/
def EW (K : PySem.W.Frag) (M : Nm) (Γ : Ctx) (cs : List Nat) (Q : VK) : XK := fun cls d H => ∃ c, c ∈ cs ∧ cls = .ref (M.cl c) ∧ d = none ∧ ∃ F es vs dw, Sta K M F H es vs ∧ Γ.wd ⟨c, .non⟩ = some dw ∧ ∀ v F' H', Same F F' → Rep K M F' dw v → Sta K M F' H' es vs → Q v H'
def TTw (K : PySem.W.Frag) (M : Nm) (Γ : Ctx) (cs : List Nat) : (XK → Hp → VK → Prop) → Hp → VK → Prop := fun tl H Q => tl (EW K M Γ cs Q) H fun _ H' => Q .non H'
/-- what is known in the frame that holds lambdas -/
def LamF (X : Cx) (M : Nm) (T : Ns) (Γ : Ctx) : Prop :=
  ∃ (g c P : Addr) (pg : Arguments) (bg : List Stmt) (sg : Scope) (dV kV doc pm cdv ct oc : Value) (an od : Option Addr) (osl : Array (Option Value)) (Ng : List Str),
    X.mg "_law_word" = some (.ref g) ∧ PySem.W.keepIn X.K (.ref g) = true ∧ X.K.lookup g = some ⟨oc, od, .func (PySem.W.fnOf "_law_word" "_law_word" pg bg sg dV kV doc pm an cdv ct), osl⟩ ∧ PySem.W.codeIn X.K cdv "_law_word" = true ∧
    Binds X.K (PySem.W.fnOf "_law_word" "_law_word" pg bg sg dV kV doc pm an cdv ct) ["_law_work"] [] ∧ FnScope Ng ["_law_work"] sg ∧ Ng[0]? = some ("_law_work" : Str) ∧ Vis sg "_law_work" ∧
    LamX.GivesTo X Ng "_law_word" sg g cdv bg "_law_work" (X.env.qual ++ "<lambda>") (TTw X.K M Γ T.xs) ∧ LamX.TabB X.base X.mg c P ∧ X.env.code = .ref c ∧ (P, X.env.qual ++ "<lambda>") ∈ M.tb ∧ ∀ p ∈ M.tb, p.1 = P → p.2 = X.env.qual ++ "<lambda>"
structure XC (X : Cx) (M : Nm) (T : Ns) (L : Lk) (Γ : Ctx) (call : Nat → List (D × Bool) → CRes) (N : List Str) (sc so : Scope) (k : Nat) (W : WX) : Prop where
  hN : X.N = N
  nd : N.Nodup
  scp : X.env.scope = sc
  kind : sc.kind = .function
  sto : ∀ x, stoB so x = true → L2.Loc X.env.scope x ∧ (X.fn x = true ∨ X.env.scope.names.lookup x = some .local)
  calm : X.calm = true
  own : PassesOwn (model X.prog X.w) X.A X.env X.xe
  tk : Takes X W
  room : Room (k + 1) X.A
  top : Top X.K X.mg M T L Γ
  ar : ∀ f ∈ T.fs, ∀ args, call f args ≠ .err → args.length = (L.ps f).length
  fns : ∀ f ∈ T.fs, FnOk X.prog X.w X.K X.mg X.base (L2.CX X.prog X.w) k (L.fa f) (L.fd f) (L.ps f) (spF X.K M call f (L.ps f).length)
  lam : lamB T sc = true → LamF X M T Γ ∧ Room (k + 3) X.A

section
variable {X : Cx} {M : Nm} {T : Ns} {L : Lk} {Γ : Ctx} {call : Nat → List (D × Bool) → CRes} {N : List Str} {sc so : Scope} {k : Nat} {W : WX}

theorem sta_ix {K : PySem.W.Frag} {F H : Hp} {ext : List Sl} {xv : List (Option V)} {σ : L2.St} {env : PL.Fm} {i : Nat} {d : D} {o : Bool} (st : Sta K M F H (ext ++ env) (xv ++ σ)) (hl : ext.length = xv.length) (e : env[i]? = some (some (d, o))) :
    ∃ v fp, σ[i]? = some (some v) ∧ RepO K M F H d o v fp := by
  have e2 : (ext ++ env)[ext.length + i]? = some (some (d, o)) := by
    rw [List.getElem?_append_right (Nat.le_add_right _ _), Nat.add_sub_cancel_left]
    exact e
  obtain ⟨v, fp, a, b⟩ := st.at e2
  rw [List.getElem?_append_right (by omega)] at a
  refine ⟨v, fp, ?_, b⟩
  rw [← a]
  congr 1
  omega
theorem sta_settle {K : PySem.W.Frag} {F H : Hp} {ext : List Sl} {xv : List (Option V)} {σ : L2.St} {env : PL.Fm} {i : Nat} {d : D} {o : Bool} (st : Sta K M F H (ext ++ env) (xv ++ σ)) (hl : ext.length = xv.length) (e : env[i]? = some (some (d, o))) :
    ∃ F' v, Same F F' ∧ σ[i]? = some (some v) ∧ Rep K M F' d v ∧ Sta K M F' H (ext ++ env.set i (some (d, false))) (xv ++ σ) := by
  have e2 : (ext ++ env)[ext.length + i]? = some (some (d, o)) := by
    rw [List.getElem?_append_right (Nat.le_add_right _ _), Nat.add_sub_cancel_left]
    exact e
  obtain ⟨F', v, s, a, b, c⟩ := st.settleAt e2
  rw [List.getElem?_append_right (by omega)] at a
  rw [List.set_append_right _ _ (Nat.le_add_right _ _), Nat.add_sub_cancel_left] at c
  refine ⟨F', v, s, ?_, b, c⟩
  rw [← a]
  congr 1
  omega

theorem s_var (C : XC X M T L Γ call N sc so k W) {i : Nat} {x : Str} {pos : Pos} (h1 : N[i]? = some x) (h2 : visB sc x = true) (h3 : nmOk x = true) : PE X (.Name x pos) ((TEv X.K M Γ call W) (.var i)) := by
  obtain ⟨n1, n2, _⟩ := nmOk_of h3
  refine (pe_var (X := X) (i := i) (by rw [C.hN]; exact h1) (by rw [C.scp]; exact vis_of h2) n1 n2).imp fun σ H Q h => ?_
  obtain ⟨F, ext, xv, env, st, hl, post⟩ := h
  simp only [ev] at post
  split at post
  · rename_i d o e
    cases o with
    | false =>
      obtain ⟨v, fp, a, b⟩ := sta_ix st hl e
      cases b with
      | fz b => exact ⟨v, a, post v F H (Same.refl F) (st.push b)⟩
    | true =>
      obtain ⟨F', v, s, a, b, c⟩ := sta_settle st hl e
      exact ⟨v, a, post v F' H s (c.push b)⟩
  · exact post.elim
theorem s_cst {d : D} {c : Const} {j : Nat} {pos : Pos} (h : mC d c = true) : PE X (.Constant c j pos) ((TEv X.K M Γ call W) (.cst d)) := by
  have go : ∀ {v : V}, (∀ F, Rep X.K M F d v) → ∀ σ H Q, (TEv X.K M Γ call W) (.cst d) σ H Q → tC v σ H Q := fun {v} r σ H Q h => by
    obtain ⟨F, ext, xv, env, st, hl, post⟩ := h
    simp only [ev] at post
    exact post v F H (Same.refl F) (st.push (r F))
  cases d <;> cases c <;> simp only [mC, reduceCtorEq, Bool.false_eq_true] at h
  · exact pe_non.imp (go fun F => .non)
  · rename_i a b
    have e : a = b := by simpa using h
    subst e
    exact pe_bl.imp (go fun F => .bl _)
  · have e := of_decide_eq_true h
    subst e
    exact pe_int.imp (go fun F => .int _)
  · have e := of_decide_eq_true h
    subst e
    exact pe_str.imp (go fun F => .str _)
theorem s_glb (C : XC X M T L Γ call N sc so k W) {g : Nat} {pos : Pos} (h2 : glB sc (T.gN g) = true) (h3 : nmOk (T.gN g) = true) (h4 : g ∈ T.gs) : PE X (.Name (T.gN g) pos) ((TEv X.K M Γ call W) (.glb g)) := by
  obtain ⟨n1, n2, _⟩ := nmOk_of h3
  cases e : Γ.glb g with
  | none =>
    refine ⟨fun pins s σ H Q I h => ?_⟩
    obtain ⟨F, ext, xv, env, st, hl, post⟩ := h
    simp only [ev, e] at post
    exact post.elim
  | some d =>
    obtain ⟨u, v, hu, r, hr⟩ := C.top.glb g h4 d e
    refine (pe_glob (gl_of (by rw [C.scp]; exact h2)) hu r n1).imp fun σ H Q h => ?_
    obtain ⟨F, ext, xv, env, st, hl, post⟩ := h
    simp only [ev, e] at post
    exact post v F H (Same.refl F) (st.push (hr F))
theorem s_bin (C : XC X M T L Γ call N sc so k W) {op : BOp} {a b : E} {x y : Expr} {pos : Pos} (ha : PE X x ((TEv X.K M Γ call W) a)) (hb : PE X y ((TEv X.K M Γ call W) b)) : PE X (.BinOp x (bop op) y pos) ((TEv X.K M Γ call W) (.bin op a b)) := by
  refine (pe_op (op_binX op) ha hb).imp fun σ H Q h => ?_
  obtain ⟨F, ext, xv, env, st, hl, post⟩ := h
  simp only [ev] at post
  obtain ⟨p, e1, h1, post⟩ := post_bind post
  obtain ⟨q, e2, h2, post⟩ := post_bind post
  obtain ⟨z, h3, post⟩ := post_lift post
  refine T_sub st hl h1 fun v F1 H1 s1 r1 st1 => T_sub st1 hl h2 fun w F2 H2 s2 r2 st2 => ?_
  exact bin_okX st2 (r1.mono s2) r2 h3 fun u F3 H3 s3 st3 => post u F3 H3 ((s1.trans s2).trans s3) st3
theorem s_neg (C : XC X M T L Γ call N sc so k W) {a : E} {x : Expr} {pos : Pos} (ha : PE X x ((TEv X.K M Γ call W) a)) : PE X (.UnaryOp .USub x pos) ((TEv X.K M Γ call W) (.neg a)) := by
  refine (pe_un un_neg ha).imp fun σ H Q h => ?_
  obtain ⟨F, ext, xv, env, st, hl, post⟩ := h
  simp only [ev] at post
  obtain ⟨p, e1, h1, post⟩ := post_bind post
  refine T_sub st hl h1 fun v F1 H1 s1 r1 st1 => ?_
  obtain ⟨d, o⟩ := p
  cases d <;> simp only at post r1 <;> try exact post.elim
  cases rep_int r1
  exact ⟨_, rfl, post _ F1 H1 s1 (st1.push (.int _))⟩
theorem cline (C : XC X M T L Γ call N sc so k W) : X.A.units + 65 < cLine := by
  have h := C.room.un
  omega
end
end PL
/-! PLSnd2: comparisons, tests, displays, subscripts. -/
namespace PL
open PySem PySem.Spec PyProof.Rows L2
theorem cmD_nodic {op : COp} {x y : D} {b : Bool} (h : cmD op x y = some b) : isDic y = false := by
  cases y <;> first | rfl | skip
  cases op <;> cases x <;> simp [cmD, Dpk] at h
theorem rdv_of {i : Nat} {env : PL.Fm} {d : D} (h : rdv i env = some d) : (∃ o, env[i]? = some (some (d, o))) ∧ ∀ c fs vs, d ≠ .ins c fs vs := by
  unfold rdv at h
  split at h
  · cases h
  · rename_i d' o hn e
    cases h
    exact ⟨⟨o, e⟩, fun c fs vs q => hn c fs vs q⟩
  · cases h
section
variable {K : PySem.W.Frag} {M : Nm} {F H : Hp} {ext : List Sl} {xv : List (Option V)} {σ : L2.St} {env : PL.Fm}
theorem rdv_at {i : Nat} {d : D} (st : Sta K M F H (ext ++ env) (xv ++ σ)) (hl : ext.length = xv.length) (h : rdv i env = some d) : ∃ v, σ[i]? = some (some v) ∧ Pk K M F H d v := by
  obtain ⟨⟨o, e⟩, hi⟩ := rdv_of h
  obtain ⟨v, fp, a, b⟩ := sta_ix st hl e
  exact ⟨v, a, pk_of b hi⟩
end
theorem lift_of {α β : Type} {o : Option α} {f : α → β} {z : β} {e e' : PL.Fm} (h : (Res.lift (o.map f) e) = .ok z e') : ∃ a, o = some a ∧ z = f a ∧ e' = e := by
  cases o with
  | none => cases h
  | some a =>
    cases h
    exact ⟨a, rfl, rfl, rfl⟩
theorem lift_ok {α : Type} {o : Option α} {a : α} {e e' : PL.Fm} (h : Res.lift o e = .ok a e') : o = some a ∧ e' = e := by
  cases o with
  | none => cases h
  | some a =>
    cases h
    exact ⟨rfl, rfl⟩
section
variable {X : Cx} {M : Nm} {T : Ns} {L : Lk} {Γ : Ctx} {call : Nat → List (D × Bool) → CRes} {N : List Str} {sc so : Scope} {k : Nat} {W : WX}

/-- what a comparison of two parts asks -/
theorem cmp_in {op : COp} {a b : E} {σ : L2.St} {H : Hp} {Q : VK} (h : (TEv X.K M Γ call W) (.cmp op a b) σ H Q) : tOp (rC X.K op) ((TEv X.K M Γ call W) a) ((TEv X.K M Γ call W) b) σ H Q := by
  obtain ⟨F, ext, xv, env, st, hl, post⟩ := h
  simp only [ev] at post
  obtain ⟨p, e1, h1, post⟩ := post_bind post
  obtain ⟨q, e2, h2, post⟩ := post_bind post
  obtain ⟨z, h3, post⟩ := post_lift post
  cases h4 : cmD op p.1 q.1 with
  | none =>
    rw [h4] at h3
    cases h3
  | some c =>
    rw [h4] at h3
    cases h3
    refine T_sub st hl h1 fun v F1 H1 s1 r1 st1 => T_sub st1 hl h2 fun w F2 H2 s2 r2 st2 => ?_
    exact cmp_ok st2.same (.rep (r1.mono s2)) r2 h4 (cmD_nodic h4) (post _ F2 H2 (s1.trans s2) (st2.push (.bl _)))
theorem cmpv_in {op : COp} {i : Nat} {b : E} {σ : L2.St} {H : Hp} {Q : VK} (h : (TEv X.K M Γ call W) (.cmpv op i b) σ H Q) : tOp (rC X.K op) (tVar i) ((TEv X.K M Γ call W) b) σ H Q := by
  obtain ⟨F, ext, xv, env, st, hl, post⟩ := h
  simp only [ev] at post
  obtain ⟨d0, e1, h1, post1⟩ := post_bind post
  obtain ⟨h1, rfl⟩ := lift_ok h1
  obtain ⟨v, hv, _⟩ := rdv_at st hl h1
  obtain ⟨q, e2, h2, post⟩ := post_bind post1
  obtain ⟨z, h3, post⟩ := post_lift post
  cases h5 : rdv i e2 with
  | none =>
    rw [h5] at h3
    cases h3
  | some d =>
    rw [h5] at h3
    simp only [Option.bind_some] at h3
    cases h4 : cmD op d q.1 with
    | none =>
      rw [h4] at h3
      cases h3
    | some c =>
      rw [h4] at h3
      cases h3
      refine ⟨v, hv, T_sub st hl h2 fun w F2 H2 s2 r2 st2 => ?_⟩
      obtain ⟨v', hv', pk⟩ := rdv_at st2 hl h5
      rw [hv] at hv'
      cases hv'
      exact cmp_ok st2.same pk r2 h4 (cmD_nodic h4) (post _ F2 H2 s2 (st2.push (.bl _)))
theorem s_cmp (C : XC X M T L Γ call N sc so k W) {op : COp} {a b : E} {x y : Expr} {pos : Pos} (ha : PE X x ((TEv X.K M Γ call W) a)) (hb : PE X y ((TEv X.K M Γ call W) b)) (hp : plain y = true) : PE X (.Compare x [cop op] [y] pos) ((TEv X.K M Γ call W) (.cmp op a b)) :=
  (pe_cmpR (op_cop (cline C) op) ha hb (plain_marks hp)).imp fun _ _ _ h => cmp_in h
theorem s_pv (C : XC X M T L Γ call N sc so k W) {i : Nat} {x : Str} {pos : Pos} (h1 : N[i]? = some x) (h2 : visB sc x = true) (h3 : nmOk x = true) : PE X (.Name x pos) (tVar i) := by
  obtain ⟨n1, n2, _⟩ := nmOk_of h3
  exact pe_var (X := X) (i := i) (by rw [C.hN]; exact h1) (by rw [C.scp]; exact vis_of h2) n1 n2
theorem s_cmpv (C : XC X M T L Γ call N sc so k W) {op : COp} {i : Nat} {b : E} {x : Str} {y : Expr} {p pos : Pos} (h1 : N[i]? = some x) (h2 : visB sc x = true) (h3 : nmOk x = true) (hb : PE X y ((TEv X.K M Γ call W) b)) (hp : plain y = true) :
    PE X (.Compare (.Name x p) [cop op] [y] pos) ((TEv X.K M Γ call W) (.cmpv op i b)) :=
  (pe_cmpR (op_cop (cline C) op) (s_pv C h1 h2 h3) hb (plain_marks hp)).imp fun _ _ _ h => cmpv_in h
/-- as tests -/
theorem test_of {e : E} {σ : L2.St} {H : Hp} {Q : Bool → Hp → Prop} (h : (TTt X.K M Γ call) e σ H Q) : (TEv X.K M Γ call W) e σ H fun x H' => ∃ k, x = .bl k ∧ Q k H' := by
  obtain ⟨F, ext, xv, env, st, hl, post⟩ := h
  refine ⟨F, ext, xv, env, st, hl, ?_⟩
  unfold PostT at post
  split at post
  · rename_i b o e' he
    rw [he]
    intro v F' H' s st'
    obtain ⟨fp, r⟩ := st'.head
    have : v = .bl b := by
      cases r with
      | fz r => exact rep_bl r
    subst this
    exact ⟨b, rfl, post F' H' s st'.drop⟩
  · exact post.elim
theorem t_cmp (C : XC X M T L Γ call N sc so k W) {op : COp} {a b : E} {x y : Expr} {pos : Pos} (ha : PE X x ((TEv X.K M Γ call W) a)) (hb : PE X y ((TEv X.K M Γ call W) b)) (hp : plain y = true) : PT X (.Compare x [cop op] [y] pos) ((TTt X.K M Γ call) (.cmp op a b)) :=
  (pt_cmpR (op_cop (cline C) op) ha hb (plain_marks hp)).imp fun _ _ _ h => cmp_in (test_of h)
theorem t_cmpv (C : XC X M T L Γ call N sc so k W) {op : COp} {i : Nat} {b : E} {x : Str} {y : Expr} {p pos : Pos} (h1 : N[i]? = some x) (h2 : visB sc x = true) (h3 : nmOk x = true) (hb : PE X y ((TEv X.K M Γ call W) b)) (hp : plain y = true) :
    PT X (.Compare (.Name x p) [cop op] [y] pos) ((TTt X.K M Γ call) (.cmpv op i b)) :=
  (pt_cmpR (op_cop (cline C) op) (s_pv C h1 h2 h3) hb (plain_marks hp)).imp fun _ _ _ h => cmpv_in (test_of h)
theorem t_val {e : E} {x : Expr} (ha : PE X x ((TEv X.K M Γ call W) e)) (he : ∀ whole, isTrue x X.env whole = (do let v ← whole; standAt x.pos; holding [v] (truthy v))) : PT X x ((TTt X.K M Γ call) e) :=
  (pt_val ha he).imp fun _ _ _ h => test_of h

theorem chn_in {o p : COp} {a b c : E} {σ : L2.St} {H : Hp} {Q : VK} (h : (TEv X.K M Γ call W) (.chn o p a b c) σ H Q) : tChain (rC X.K o) (rC X.K p) ((TEv X.K M Γ call W) a) ((TEv X.K M Γ call W) b) ((TEv X.K M Γ call W) c) σ H Q := by
  obtain ⟨F, ext, xv, env, st, hl, post⟩ := h
  simp only [ev] at post
  obtain ⟨x, e1, h1, post⟩ := post_bind post
  obtain ⟨y, e2, h2, post⟩ := post_bind post
  refine T_sub st hl h1 fun v F1 H1 s1 r1 st1 => T_sub st1 hl h2 fun w F2 H2 s2 r2 st2 => ?_
  cases h4 : cmD o x.1 y.1 with
  | none =>
    rw [h4] at post
    exact post.elim
  | some t =>
    rw [h4] at post
    refine cmp_ok st2.same (.rep (r1.mono s2)) r2 h4 (cmD_nodic h4) ⟨t, rfl, ?_⟩
    cases t with
    | false =>
      rw [if_neg Bool.false_ne_true]
      exact post _ F2 H2 (s1.trans s2) (st2.push (.bl _))
    | true =>
      rw [if_pos rfl]
      simp only at post
      obtain ⟨z, e3, h5, post⟩ := post_bind post
      obtain ⟨zz, h3, post⟩ := post_lift post
      cases h6 : cmD p y.1 z.1 with
      | none =>
        rw [h6] at h3
        cases h3
      | some t2 =>
        rw [h6] at h3
        cases h3
        refine T_sub st2 hl h5 fun u F3 H3 s3 r3 st3 => ?_
        exact cmp_ok st3.same (.rep (r2.mono s3)) r3 h6 (cmD_nodic h6) (post _ F3 H3 ((s1.trans s2).trans s3) (st3.push (.bl _)))
theorem s_chn (C : XC X M T L Γ call N sc so k W) {o p : COp} {a b c : E} {x y z : Expr} {pos : Pos} (ha : PE X x ((TEv X.K M Γ call W) a)) (hb : PE X y ((TEv X.K M Γ call W) b)) (hc : PE X z ((TEv X.K M Γ call W) c)) (hp : plain z = true) :
    PE X (.Compare x [cop o, cop p] [y, z] pos) ((TEv X.K M Γ call W) (.chn o p a b c)) :=
  (pe_chain (op_cop (cline C) o) (op_cop (cline C) p) ha hb hc (plain_marks hp)).imp fun _ _ _ h => chn_in h
theorem t_chn (C : XC X M T L Γ call N sc so k W) {o p : COp} {a b c : E} {x y z : Expr} {pos : Pos} (ha : PE X x ((TEv X.K M Γ call W) a)) (hb : PE X y ((TEv X.K M Γ call W) b)) (hc : PE X z ((TEv X.K M Γ call W) c)) (hp : plain z = true) :
    PT X (.Compare x [cop o, cop p] [y, z] pos) ((TTt X.K M Γ call) (.chn o p a b c)) :=
  (pt_chain (op_cop (cline C) o) (op_cop (cline C) p) ha hb hc (plain_marks hp)).imp fun _ _ _ h => chn_in (test_of h)

/-- from a later state of what is settled -/
theorem postT_mono {K : PySem.W.Frag} {F F1 : Hp} {ext : List Sl} {xv : List (Option V)} {σ : L2.St} {r : Res (D × Bool)} {Q : Bool → Hp → Prop} (s : Same F F1) (h : PostT K M F ext xv σ r Q) : PostT K M F1 ext xv σ r Q := by
  unfold PostT at h ⊢
  split at h
  · exact fun F' H' s' st' => h F' H' (s.trans s') st'
  · exact h.elim
theorem postE_mono {K : PySem.W.Frag} {F F1 : Hp} {ext : List Sl} {xv : List (Option V)} {σ : L2.St} {r : Res (D × Bool)} {Q : VK} (s : Same F F1) (h : PostE K M W F ext xv σ r Q) : PostE K M W F1 ext xv σ r Q := by
  unfold PostE at h ⊢
  split at h
  · exact fun v F' H' s' st' => h v F' H' (s.trans s') st'
  · exact fun cls d F' H' s' r st' => h cls d F' H' (s.trans s') r st'
  · exact h.elim
/-! ### and, or, not, if .. else -/
theorem and_in {a b : E} {σ : L2.St} {H : Hp} {Q : VK} (h : (TEv X.K M Γ call W) (.and a b) σ H Q) : tAndV ((TEv X.K M Γ call W) a) ((TEv X.K M Γ call W) b) σ H Q := by
  obtain ⟨F, ext, xv, env, st, hl, post⟩ := h
  simp only [ev] at post
  obtain ⟨x, e1, h1, post⟩ := post_bind post
  refine T_sub st hl h1 fun v F1 H1 s1 r1 st1 => ?_
  obtain ⟨d, o⟩ := x
  cases d <;> simp only at post r1 <;> try exact post.elim
  rename_i c
  cases rep_bl r1
  refine ⟨c, rfl, ?_⟩
  cases c with
  | false =>
    rw [if_neg Bool.false_ne_true]
    exact post _ F1 H1 s1 (st1.push (.bl _))
  | true =>
    rw [if_pos rfl]
    exact ⟨F1, ext, xv, e1, st1, hl, postE_mono s1 post⟩
theorem or_in {a b : E} {σ : L2.St} {H : Hp} {Q : VK} (h : (TEv X.K M Γ call W) (.or a b) σ H Q) : tOrV ((TEv X.K M Γ call W) a) ((TEv X.K M Γ call W) b) σ H Q := by
  obtain ⟨F, ext, xv, env, st, hl, post⟩ := h
  simp only [ev] at post
  obtain ⟨x, e1, h1, post⟩ := post_bind post
  refine T_sub st hl h1 fun v F1 H1 s1 r1 st1 => ?_
  obtain ⟨d, o⟩ := x
  cases d <;> simp only at post r1 <;> try exact post.elim
  rename_i c
  cases rep_bl r1
  refine ⟨c, rfl, ?_⟩
  cases c with
  | true =>
    rw [if_pos rfl]
    exact post _ F1 H1 s1 (st1.push (.bl _))
  | false =>
    rw [if_neg Bool.false_ne_true]
    exact ⟨F1, ext, xv, e1, st1, hl, postE_mono s1 post⟩
theorem andT_in {a b : E} {σ : L2.St} {H : Hp} {Q : Bool → Hp → Prop} (h : (TTt X.K M Γ call) (.and a b) σ H Q) : tAnd ((TTt X.K M Γ call) a) ((TTt X.K M Γ call) b) σ H Q := by
  obtain ⟨F, ext, xv, env, st, hl, post⟩ := h
  simp only [ev] at post
  obtain ⟨x, e1, h1, post⟩ := postT_bind post
  obtain ⟨d, o⟩ := x
  cases d <;> simp only at post <;> try exact post.elim
  rename_i c
  refine Tt_sub st hl h1 fun F1 H1 s1 st1 => ?_
  cases c with
  | false =>
    rw [if_neg Bool.false_ne_true]
    exact post F1 H1 s1 st1
  | true =>
    rw [if_pos rfl]
    exact ⟨F1, ext, xv, e1, st1, hl, postT_mono s1 post⟩
theorem orT_in {a b : E} {σ : L2.St} {H : Hp} {Q : Bool → Hp → Prop} (h : (TTt X.K M Γ call) (.or a b) σ H Q) : tOr ((TTt X.K M Γ call) a) ((TTt X.K M Γ call) b) σ H Q := by
  obtain ⟨F, ext, xv, env, st, hl, post⟩ := h
  simp only [ev] at post
  obtain ⟨x, e1, h1, post⟩ := postT_bind post
  obtain ⟨d, o⟩ := x
  cases d <;> simp only at post <;> try exact post.elim
  rename_i c
  refine Tt_sub st hl h1 fun F1 H1 s1 st1 => ?_
  cases c with
  | true =>
    rw [if_pos rfl]
    exact post F1 H1 s1 st1
  | false =>
    rw [if_neg Bool.false_ne_true]
    exact ⟨F1, ext, xv, e1, st1, hl, postT_mono s1 post⟩
theorem not_in {a : E} {σ : L2.St} {H : Hp} {Q : VK} (h : (TEv X.K M Γ call W) (.not a) σ H Q) : tNotV ((TEv X.K M Γ call W) a) σ H Q := by
  obtain ⟨F, ext, xv, env, st, hl, post⟩ := h
  simp only [ev] at post
  obtain ⟨x, e1, h1, post⟩ := post_bind post
  refine T_sub st hl h1 fun v F1 H1 s1 r1 st1 => ?_
  obtain ⟨d, o⟩ := x
  cases d <;> simp only at post r1 <;> try exact post.elim
  cases rep_bl r1
  exact ⟨_, rfl, post _ F1 H1 s1 (st1.push (.bl _))⟩
theorem notT_in {a : E} {σ : L2.St} {H : Hp} {Q : Bool → Hp → Prop} (h : (TTt X.K M Γ call) (.not a) σ H Q) : tNot ((TTt X.K M Γ call) a) σ H Q := by
  obtain ⟨F, ext, xv, env, st, hl, post⟩ := h
  simp only [ev] at post
  obtain ⟨x, e1, h1, post⟩ := postT_bind post
  obtain ⟨d, o⟩ := x
  cases d <;> simp only at post <;> try exact post.elim
  exact Tt_sub st hl h1 fun F1 H1 s1 st1 => post F1 H1 s1 st1
theorem ifx_in {c a b : E} {σ : L2.St} {H : Hp} {Q : VK} (h : (TEv X.K M Γ call W) (.ifx c a b) σ H Q) : tIf ((TTt X.K M Γ call) c) ((TEv X.K M Γ call W) a) ((TEv X.K M Γ call W) b) σ H Q := by
  obtain ⟨F, ext, xv, env, st, hl, post⟩ := h
  simp only [ev] at post
  obtain ⟨x, e1, h1, post⟩ := post_bind post
  obtain ⟨d, o⟩ := x
  cases d <;> simp only at post <;> try exact post.elim
  rename_i t
  refine Tt_sub st hl h1 fun F1 H1 s1 st1 => ?_
  cases t with
  | true =>
    rw [if_pos rfl]
    exact ⟨F1, ext, xv, e1, st1, hl, postE_mono s1 post⟩
  | false =>
    rw [if_neg Bool.false_ne_true]
    exact ⟨F1, ext, xv, e1, st1, hl, postE_mono s1 post⟩

/-! ### displays, subscripts -/
theorem s_nil : PA X [] ((TEs X.K M Γ call) .nil) := pa_nil.imp fun σ H Q h => by
  obtain ⟨F, ext, xv, env, st, hl, post⟩ := h
  simp only [evs] at post
  exact post [] F H (Same.refl F) .nil st
theorem s_cons {a : E} {r : Es} {x : Expr} {xs : List Expr} (ha : PE X x ((TEv X.K M Γ call W) a)) (hr : PA X xs ((TEs X.K M Γ call) r)) (hp : plain x = true) : PA X (x :: xs) ((TEs X.K M Γ call) (.cons a r)) :=
  (pa_cons ha hr (plain_star hp)).imp fun σ H Q h => by
    obtain ⟨F, ext, xv, env, st, hl, post⟩ := h
    simp only [evs] at post
    obtain ⟨p, e1, h1, post⟩ := postA_bind post
    obtain ⟨ds, e2, h2, post⟩ := postA_bind post
    refine T_sub st hl h1 fun v F1 H1 s1 r1 st1 => Ts_sub st1 hl h2 fun vs F2 H2 s2 r2 st2 => ?_
    exact post _ F2 H2 (s1.trans s2) (.cons (r1.mono s2) r2) st2
theorem s_tup {es : Es} {xs : List Expr} {j : Nat} {pos : Pos} (h : PA X xs ((TEs X.K M Γ call) es)) : PE X (.Tuple xs j pos) ((TEv X.K M Γ call W) (.tup es)) :=
  (pe_tup h).imp fun σ H Q h => by
    obtain ⟨F, ext, xv, env, st, hl, post⟩ := h
    simp only [ev] at post
    obtain ⟨ds, e1, h1, post⟩ := post_bind post
    split at post
    · rename_i hz
      refine Ts_sub st hl h1 fun vs F1 H1 s1 r1 st1 => ?_
      have e := r1.len
      exact ⟨lim_le (by omega), aft_tup st1 r1 (by omega) fun u F' H' s st' => post u F' H' (s1.trans s) st'⟩
    · exact post.elim
theorem s_lst {es : Es} {xs : List Expr} {pos : Pos} (h : PA X xs ((TEs X.K M Γ call) es)) : PE X (.List xs pos) ((TEv X.K M Γ call W) (.lst es)) :=
  (pe_lst h).imp fun σ H Q h => by
    obtain ⟨F, ext, xv, env, st, hl, post⟩ := h
    simp only [ev] at post
    obtain ⟨ds, e1, h1, post⟩ := post_bind post
    split at post
    · rename_i hz
      refine Ts_sub st hl h1 fun vs F1 H1 s1 r1 st1 => ?_
      have e := r1.len
      exact ⟨lim_le (by omega), aft_lst st1 r1 (by omega) fun u F' H' s st' => post u F' H' (s1.trans s) st'⟩
    · exact post.elim
theorem s_idx {a i : E} {x y : Expr} {pos : Pos} (ha : PE X x ((TEv X.K M Γ call W) a)) (hi : PE X y ((TEv X.K M Γ call W) i)) (hp : plain y = true) : PE X (.Subscript x y pos) ((TEv X.K M Γ call W) (.idx a i)) :=
  (pe_ix ix_seq ha hi (plain_ix hp)).imp fun σ H Q h => by
    obtain ⟨F, ext, xv, env, st, hl, post⟩ := h
    simp only [ev] at post
    obtain ⟨p, e1, h1, post⟩ := post_bind post
    obtain ⟨q, e2, h2, post⟩ := post_bind post
    obtain ⟨z, h3, post⟩ := post_lift post
    cases h4 : ixD p.1 q.1 with
    | none =>
      rw [h4] at h3
      cases h3
    | some c =>
      rw [h4] at h3
      cases h3
      refine T_sub st hl h1 fun v F1 H1 s1 r1 st1 => T_sub st1 hl h2 fun w F2 H2 s2 r2 st2 => ?_
      exact ix_ok st2.same (.rep (r1.mono s2)) r2 h4 fun u ru => post u F2 H2 (s1.trans s2) (st2.push ru)
theorem s_idxv (C : XC X M T L Γ call N sc so k W) {i : E} {v : Nat} {x : Str} {y : Expr} {p pos : Pos} (h1 : N[v]? = some x) (h2 : visB sc x = true) (h3 : nmOk x = true) (hi : PE X y ((TEv X.K M Γ call W) i)) (hp : plain y = true) : PE X (.Subscript (.Name x p) y pos) ((TEv X.K M Γ call W) (.idxv v i)) :=
  (pe_ix ix_seq (s_pv C h1 h2 h3) hi (plain_ix hp)).imp fun σ H Q h => by
    obtain ⟨F, ext, xv, env, st, hl, post⟩ := h
    simp only [ev] at post
    obtain ⟨d0, e1, h1, post1⟩ := post_bind post
    obtain ⟨h1, rfl⟩ := lift_ok h1
    obtain ⟨w, hv, _⟩ := rdv_at st hl h1
    obtain ⟨q, e2, h2, post⟩ := post_bind post1
    obtain ⟨z, h3, post⟩ := post_lift post
    cases h5 : rdv v e2 with
    | none =>
      rw [h5] at h3
      cases h3
    | some d =>
      rw [h5] at h3
      simp only [Option.bind_some] at h3
      cases h4 : ixD d q.1 with
      | none =>
        rw [h4] at h3
        cases h3
      | some c =>
        rw [h4] at h3
        cases h3
        refine ⟨w, hv, T_sub st hl h2 fun w' F2 H2 s2 r2 st2 => ?_⟩
        obtain ⟨v', hv', pk⟩ := rdv_at st2 hl h5
        rw [hv] at hv'
        cases hv'
        exact ix_ok st2.same pk r2 h4 fun u ru => post u F2 H2 s2 (st2.push ru)
theorem s_onone : PO X none ((TOo X.K M Γ call) .none) := po_none.imp fun σ H Q h => by
  obtain ⟨F, ext, xv, env, st, hl, post⟩ := h
  simp only [evo] at post
  exact post F H (Same.refl F) st
theorem s_osome {a : E} {x : Expr} (h : PE X x ((TEv X.K M Γ call W) a)) : PO X (some x) ((TOo X.K M Γ call) (.some a)) := (po_some h).imp fun σ H Q h => by
  obtain ⟨F, ext, xv, env, st, hl, post⟩ := h
  simp only [evo] at post
  obtain ⟨p, e1, h1, post⟩ := postO_bind post
  refine T_sub st hl h1 fun v F1 H1 s1 r1 st1 => ?_
  obtain ⟨d, o⟩ := p
  cases d <;> simp only at post r1 <;> try exact post.elim
  cases rep_int r1
  exact ⟨_, rfl, post F1 H1 s1 st1⟩
theorem s_slc {a : E} {lo hi : O} {x : Expr} {l h : Option Expr} {p2 pos : Pos} (ha : PE X x ((TEv X.K M Γ call W) a)) (hl : PO X l ((TOo X.K M Γ call) lo)) (hh : PO X h ((TOo X.K M Γ call) hi)) : PE X (.Subscript x (.Slice l h none p2) pos) ((TEv X.K M Γ call W) (.slc a lo hi)) :=
  (pe_slice (sl_list.or (sl_tupA.or sl_str)) ha hl hh).imp fun σ H Q h => by
    obtain ⟨F, ext, xv, env, st, hl, post⟩ := h
    simp only [ev] at post
    obtain ⟨p, e1, h1, post⟩ := post_bind post
    obtain ⟨l, e2, h2, post⟩ := post_bind post
    obtain ⟨u, e3, h3, post⟩ := post_bind post
    obtain ⟨z, h4, post⟩ := post_lift post
    refine T_sub st hl h1 fun v F1 H1 s1 r1 st1 => To_sub st1 hl h2 fun F2 H2 s2 st2 => To_sub st2 hl h3 fun F3 H3 s3 st3 => ?_
    exact sl_ok st3 (r1.mono (s2.trans s3)) h4 fun u F' H' s st' => post u F' H' (((s1.trans s2).trans s3).trans s) st'
end
end PL
/-! PLSnd3: calls. -/
namespace PL
open PySem PySem.Spec PyProof.Rows L2

def tyS : Ty → String
  | .int => "int" | .bool => "bool" | .str => "str" | .tuple => "tuple" | .list => "list"
def nmD : D → String
  | .non => "NoneType" | .bl _ => "bool" | .int _ => "int" | .str _ => "str" | .tup _ => "tuple" | .lst _ => "list" | _ => ""
theorem boot_ty : ∀ t, bootBuiltins (tyN t) = some (.type (tyS t)) := by
  intro t
  cases t <;> decide +kernel
theorem kit_D {d : D} {l : List Ty} (h : tyD d = some l) (t : Ty) : kitB (nmD d) (tyS t) = some (l.contains t) := by
  cases d <;> simp only [tyD, reduceCtorEq, Option.some.injEq] at h
  all_goals
    subst h
    cases t <;> simp only [nmD, tyS] <;> decide +kernel
section
variable {K : PySem.W.Frag} {M : Nm} {F H : Hp}
theorem tyX_of (e : Same F H) {d : D} {v : V} {l : List Ty} (h : tyD d = some l) (r : Rep K M F d v) : TyX K H v (.type (nmD d)) := by
  cases r <;> simp only [tyD, reduceCtorEq] at h
  · exact .base .non
  · exact .base (.bl _)
  · exact .base (.int _)
  · exact .base (.str _)
  · rename_i a l vs ht z r
    rcases ht with (ht | ⟨o, ht⟩) | ⟨o, its, n, hk, hc, _⟩
    · exact .base (.tup (e _ _ ht))
    · exact .fTuple (e _ _ ht)
    · exact .kTuple hk hc
  · exact .base (.lst (e _ _ (by assumption)))
theorem kit_any (K : PySem.W.Frag) {d : D} {l : List Ty} (h : tyD d = some l) : ∀ ts : List Ty, PySem.W.kitAny K (.type (nmD d)) (ts.map fun t => .type (tyS t)) = some (ts.any fun t => l.contains t)
  | [] => kitAny_nil
  | t :: ts => by
    refine kitAny_cons (kit_ty (kit_D h t)) (fun e => ?_) fun e => ?_
    · rw [List.any_cons, e, Bool.false_or]
      exact kit_any K h ts
    · rw [List.any_cons, e, Bool.true_or]
end
section
variable {X : Cx} {CX : CXT} {k : Nat} {f : Addr} {fd : FuncData} {ps : List Str} {sp : Sp} {E : L2.St → XK} {x : Str} {dvs : List V} {ds : List Value} {p pos : Pos}
theorem pe_callS0 (F : FnOk X.prog X.w X.K X.mg X.base CX k f fd ps sp) (hr : Room k X.A) (hg : Gl X x) (hm : X.mg x = some (.ref f)) (hk : PySem.W.keepIn X.K (.ref f) = true) (hb : Binds X.K fd ps ds) (hd : Vals dvs ds) (hx : ∀ σ, PassesAt CX X σ (E σ))
    (hdb : (x == ("__debug__" : Str)) = false) : PE X (.Call (.Name x p) [] [] pos) (fun σ H Q => sp ([] ++ dvs) H Q (E σ)) := by
  refine ⟨fun pins s σ H Q I h => ?_⟩
  refine wpAny_Call_Name_kw (ld_glob I hg hm ?_ hdb)
  exact PySem.W.callWith_K0 I.kIn hk (run_fnSD (us := []) F hr hb hd (hx σ) I .nil h)
end
section
variable {X : Cx} {M : Nm} {T : Ns} {L : Lk} {Γ : Ctx} {call : Nat → List (D × Bool) → CRes} {N : List Str} {sc so : Scope} {k : Nat} {W : WX}

theorem s_ty (C : XC X M T L Γ call N sc so k W) {t : Ty} {x : Str} {p : Pos} (h : x = tyN t) (hg : glB sc x = true) : PE X (.Name x p) (tC (.ty (tyS t))) := by
  subst h
  exact pe_bltn (gl_of (by rw [C.scp]; exact hg)) (C.top.ty t) (boot_ty t) rfl (by cases t <;> decide) (by cases t <;> decide)
theorem s_tys (C : XC X M T L Γ call N sc so k W) : ∀ {ts : List Ty} {xs : List Expr}, mTy sc ts xs = true → PA X xs (fun σ H Q => Q (ts.map fun t => V.ty (tyS t)) H) ∧ xs.all plain = true
  | [], [], _ => ⟨pa_nil.imp fun σ H Q h => h, rfl⟩
  | t :: ts, x :: xs, h => by
    cases x with
    | Name x p =>
      simp only [mTy, Bool.and_eq_true] at h
      obtain ⟨a, b⟩ := s_tys C h.2
      refine ⟨(pa_cons (s_ty C (of_decide_eq_true h.1.1) h.1.2) a (plain_star rfl)).imp fun σ H Q q => q, ?_⟩
      simp only [List.all_cons, b, Bool.and_true]
      rfl
    | _ => simp [mTy] at h
  | [], _ :: _, h => by simp [mTy] at h
  | _ :: _, [], h => by simp [mTy] at h
theorem isi_in {a : E} {ts : List Ty} {σ : L2.St} {H : Hp} {Q : VK} {R : V → Hp → Prop} (h : (TEv X.K M Γ call W) (.isI a ts) σ H Q)
    (q2 : ∀ v F H' d l (es : List Sl) (vs : List (Option V)), Sta X.K M F H' es vs → tyD d = some l → Rep X.K M F d v → (∀ F'' H'', Same F F'' → Sta X.K M F'' H'' es vs → Q (.bl (ts.any fun t => l.contains t)) H'') → R v H') : (TEv X.K M Γ call W) a σ H R := by
  obtain ⟨F, ext, xv, env, st, hl, post⟩ := h
  simp only [ev] at post
  obtain ⟨p, e1, h1, post⟩ := post_bind post
  obtain ⟨z, h3, post⟩ := post_lift post
  refine T_sub st hl h1 fun v F1 H1 s1 r1 st1 => ?_
  cases h4 : tyD p.1 with
  | none =>
    rw [h4] at h3
    cases h3
  | some l =>
    rw [h4] at h3
    cases h3
    exact q2 v F1 H1 p.1 l _ _ st1 h4 r1 fun F2 H2 s2 st2 => post _ F2 H2 (s1.trans s2) (st2.push (.bl _))
theorem s_isi1 (C : XC X M T L Γ call N sc so k W) {a : E} {t : Ty} {x : Expr} {y : Str} {p q pos : Pos} (hg : glB sc "isinstance" = true) (ha : PE X x ((TEv X.K M Γ call W) a)) (hp : plain x = true) (hy : y = tyN t) (hgy : glB sc y = true) :
    PE X (.Call (.Name "isinstance" p) [x, .Name y q] [] pos) ((TEv X.K M Γ call W) (.isI a [t])) := by
  refine (pe_callB call_isi (gl_of (by rw [C.scp]; exact hg)) C.top.isi (by decide +kernel) (pa_cons ha (pa_cons (s_ty C hy hgy) pa_nil (plain_star rfl)) (plain_star hp)) (by decide) (by decide) (plain_star hp) (stars_none rfl)).imp fun σ H Q h => ?_
  refine isi_in h fun v F' H' d l es vs st e r k => ?_
  refine ⟨v, .ty (tyS t), _, .type (tyS t), _, rfl, .ty _, tyX_of st.same e r, kit_ty (kit_D e t), ?_⟩
  simpa using k F' H' (Same.refl _) st
theorem cls_tys : ∀ ts : List Ty, Paired ClsV (ts.map fun t => V.ty (tyS t)) (ts.map fun t => Value.type (tyS t))
  | [] => .nil
  | _ :: ts => .cons (.ty _) (cls_tys ts)
theorem s_isiT (C : XC X M T L Γ call N sc so k W) {a : E} {ts : List Ty} {x : Expr} {ys : List Expr} {j : Nat} {p q pos : Pos} (hg : glB sc "isinstance" = true) (ha : PE X x ((TEv X.K M Γ call W) a)) (hp : plain x = true) (hy : mTy sc ts ys = true) (hz : ts.length ≤ 8) :
    PE X (.Call (.Name "isinstance" p) [x, .Tuple ys j q] [] pos) ((TEv X.K M Γ call W) (.isI a ts)) := by
  obtain ⟨hys, hps⟩ := s_tys C hy
  refine (pe_callB call_isiT (gl_of (by rw [C.scp]; exact hg)) C.top.isi (by decide +kernel) (pa_cons ha (pa_cons (pe_tup hys) pa_nil (plain_star rfl)) (plain_star hp)) (by decide) (by decide) (plain_star hp) (stars_none rfl)).imp fun σ H Q h => ?_
  refine isi_in h fun v F' H' d l es vs st e r k => ?_
  · refine ⟨?_, fun tp htp => ?_⟩
    · rw [List.length_map]
      exact lim_le (Nat.le_trans hz (by decide))
    · have st' := st.new (ob := .tup (ts.map fun t => V.ty (tyS t))) htp
      have sf : Same F' (upd F' tp (.tup (ts.map fun t => V.ty (tyS t)))) := same_new (st.free htp)
      exact ⟨v, tp, _, _, _, _, rfl, upd_same, cls_tys ts, tyX_of st'.same e (r.mono sf), kit_any _ e ts, k _ _ sf st'⟩

/-! ### calls of built-in functions, of defs -/
theorem s_bi (C : XC X M T L Γ call N sc so k W) {b : Bi} {es : Es} {x : Expr} {xs : List Expr} {p pos : Pos} (hb : okBi b = true) (hg : glB sc (nmBi b) = true) (ha : PA X (x :: xs) ((TEs X.K M Γ call) es)) (hp : (x :: xs).all plain = true) :
    PE X (.Call (.Name (nmBi b) p) (x :: xs) [] pos) ((TEv X.K M Γ call W) (.bi b es)) := by
  have hp1 : plain x = true ∧ xs.all plain = true := by simpa using hp
  have hn : nmBi b ≠ "__name__" := by cases b <;> decide
  have hd : (nmBi b == ("__debug__" : Str)) = false := by cases b <;> decide
  have go : ∀ σ H Q, (TEv X.K M Γ call W) (.bi b es) σ H Q → tCB (rBi X.K b) ((TEs X.K M Γ call) es) σ H Q := fun σ H Q h => by
    obtain ⟨F, ext, xv, env, st, hl, post⟩ := h
    simp only [ev] at post
    obtain ⟨ds, e1, h1, post⟩ := post_bind post
    obtain ⟨z, h2, post⟩ := post_lift post
    refine Ts_sub st hl h1 fun vs F1 H1 s1 r1 st1 => ?_
    exact bi_ok st1 r1 h2 hb fun u F' H' s st' => post u F' H' (s1.trans s) st'
  have hv := boot_bi b hb
  have hc := cr_bi C.calm b hb
  generalize hf : fvBi b = f at hv hc
  cases b <;> simp only [fvBi] at hf <;> subst hf <;> first
    | exact (pe_callB hc (gl_of (by rw [C.scp]; exact hg)) (C.top.bi _ hb) hv ha hn hd (plain_star hp1.1) (stars_none hp1.2)).imp go
    | exact (pe_callTy hc (gl_of (by rw [C.scp]; exact hg)) (C.top.bi _ hb) hv ha hn hd (plain_star hp1.1) (stars_none hp1.2)).imp go
    | (simp [okBi] at hb; done)
theorem s_bm {m : Bm} {o a : E} {x y : Expr} {ap cp : Pos} (hb : okBm m = true) (hl : (ap.endLine == cp.line) = true) (hx : bsOk x = true) (ho : PE X x ((TEv X.K M Γ call W) o)) (ha : PE X y ((TEv X.K M Γ call W) a)) (hp : plain y = true) :
    PE X (.Call (.Attribute x (nmBm m) ap) [y] [] cp) ((TEv X.K M Γ call W) (.bm m o a)) := by
  refine (pe_tbm hb ho ha (plain_star hp) (fun nm => bsOk_of hx nm) hl).imp fun σ H Q h => ?_
  obtain ⟨F, ext, xv, env, st, hl, post⟩ := h
  simp only [ev] at post
  obtain ⟨p, e1, h1, post⟩ := post_bind post
  obtain ⟨q, e2, h4, post⟩ := post_bind post
  obtain ⟨z, h3, post⟩ := post_lift post
  obtain ⟨t, ht⟩ := bm_str h3 hb
  refine T_sub st hl h1 fun v F1 H1 s1 r1 st1 => ⟨?_, T_sub st1 hl h4 fun w F2 H2 s2 r2 st2 => ?_⟩
  · rw [ht] at r1
    exact ⟨t, rep_str r1⟩
  · exact bm_ok st2 (r1.mono s2) (.cons r2 .nil) h3 hb fun u F' H' s st' => post u F' H' ((s1.trans s2).trans s) st'
/-- what is behind a call of a def whose arguments are settled -/
theorem call_in {f n : Nat} {ds : List D} {vs : List V} {F H : Hp} {es : List Sl} {ws : List (Option V)} {Q : VK} {E : XK} (st : Sta X.K M F H es ws) (r : Reps X.K M F ds vs) (hn : ds.length = n)
    {rr : D × Bool} (h : call f (ds.map fun d => (d, false)) = .ret rr none) (post : ∀ v F' H', Same F F' → Sta X.K M F' H' (some rr :: es) (some v :: ws) → Q v H') : spF X.K M call f n vs H Q E := by
  refine ⟨by rw [← r.len]; exact hn, F, es, ws, ds.map fun d => (d, false), st.len, ?_, st.args r, ?_⟩
  · rw [List.length_map]
    exact hn
  · rw [h]
    exact post
/-- a call that lets an exception out -/
theorem callX_in {f n : Nat} {ds : List D} {vs : List V} {F H : Hp} {es : List Sl} {ws : List (Option V)} {Q : VK} {E : XK} (st : Sta X.K M F H es ws) (r : Reps X.K M F ds vs) (hn : ds.length = n)
    {x : Exn} (h : call f (ds.map fun d => (d, false)) = .exc x none) (post : ∀ cls d F' H', Same F F' → RepX X.K M F' x cls d → Sta X.K M F' H' es ws → E cls d H') : spF X.K M call f n vs H Q E := by
  refine ⟨by rw [← r.len]; exact hn, F, es, ws, ds.map fun d => (d, false), st.len, ?_, st.args r, ?_⟩
  · rw [List.length_map]
    exact hn
  · rw [h]
    exact post
theorem fn_in (C : XC X M T L Γ call N sc so k W) {f : Nat} {es : Es} (hf : f ∈ T.fs) {dvs : List V} (hd : ∀ F, Reps X.K M F (Γ.dfl f) dvs) {σ : L2.St} {H : Hp} {Q : VK} (h : (TEv X.K M Γ call W) (.fn f es) σ H Q) : (TEs X.K M Γ call) es σ H fun vs H1 => spF X.K M call f (L.ps f).length (vs ++ dvs) H1 Q (WE W σ) := by
  obtain ⟨F, ext, xv, env, st, hl, post⟩ := h
  simp only [ev] at post
  obtain ⟨ds, e1, h1, post⟩ := post_bind post
  refine Ts_sub st hl h1 fun vs F1 H1 s1 r1 st1 => ?_
  split at post
  · rename_i r hr
    refine call_in st1 (r1.app (hd F1)) ?_ hr fun v F' H' s st' => post v F' H' (s1.trans s) st'
    have := C.ar f hf _ (by rw [hr]; exact fun z => nomatch z)
    rw [List.length_map] at this
    exact this
  · rename_i x hr
    refine callX_in st1 (r1.app (hd F1)) ?_ hr fun cls d F' H' s rx st' => post cls d F' H' (s1.trans s) rx st'
    have := C.ar f hf _ (by rw [hr]; exact fun z => nomatch z)
    rw [List.length_map] at this
    exact this
  · exact post.elim
theorem nil_in {σ : L2.St} {H : Hp} {R : List V → Hp → Prop} (h : (TEs X.K M Γ call) .nil σ H R) : R [] H := by
  obtain ⟨F, ext, xv, env, st, hl, post⟩ := h
  simp only [evs] at post
  exact post [] F H (Same.refl F) .nil st
theorem s_fn (C : XC X M T L Γ call N sc so k W) {f : Nat} {es : Es} {xs : List Expr} {p pos : Pos} (hg : glB sc (T.fN f) = true) (hn : nmOk (T.fN f) = true) (hf : f ∈ T.fs) (ha : PA X xs ((TEs X.K M Γ call) es)) (hp : xs.all plain = true) (hz : xs = [] → es = .nil) :
    PE X (.Call (.Name (T.fN f) p) xs [] pos) ((TEv X.K M Γ call W) (.fn f es)) := by
  obtain ⟨h1, h2, dvs, ds, hb, hd, hr⟩ := C.top.fn f hf
  obtain ⟨n1, _, _⟩ := nmOk_of hn
  have hro : Room k X.A := C.room.mono (Nat.le_succ k)
  cases xs with
  | nil =>
    obtain rfl := hz rfl
    exact (pe_callS0 (E := WE W) (C.fns f hf) hro (gl_of (by rw [C.scp]; exact hg)) h1 h2 hb hd (passAt C.tk) n1).imp fun σ H Q h => nil_in (fn_in C hf hr h)
  | cons x xs =>
    have hp1 : plain x = true ∧ xs.all plain = true := by simpa using hp
    exact (pe_callSD (E := WE W) (C.fns f hf) hro (gl_of (by rw [C.scp]; exact hg)) h1 h2 hb hd (passAt C.tk) ha n1 (plain_star hp1.1) (stars_none hp1.2)).imp fun σ H Q h => fn_in C hf hr h
theorem set_app {α : Type} {a b : List α} {i : Nat} {x : α} : (a ++ b).set (a.length + i) x = a ++ b.set i x := by
  rw [List.set_append_right _ _ (Nat.le_add_right _ _), Nat.add_sub_cancel_left]
/-- a frame's thing is taken out, and put back -/
theorem sta_out {K : PySem.W.Frag} {F H : Hp} {ext : List Sl} {xv : List (Option V)} {σ : L2.St} {env : PL.Fm} {i : Nat} {d : D} {o : Bool} (st : Sta K M F H (ext ++ env) (xv ++ σ)) (hl : ext.length = xv.length) (e : env[i]? = some (some (d, o))) :
    ∃ v, σ[i]? = some (some v) ∧ Sta K M F H (some (d, o) :: (ext ++ env.set i none)) (some v :: (xv ++ σ)) := by
  have e2 : (ext ++ env)[ext.length + i]? = some (some (d, o)) := by
    rw [List.getElem?_append_right (Nat.le_add_right _ _), Nat.add_sub_cancel_left]
    exact e
  obtain ⟨v, a, b⟩ := st.take e2
  rw [List.getElem?_append_right (by omega)] at a
  rw [set_app] at b
  refine ⟨v, ?_, b⟩
  rw [← a]
  congr 1
  omega
theorem sta_in {K : PySem.W.Frag} {F H : Hp} {ext : List Sl} {xv : List (Option V)} {σ : L2.St} {env : PL.Fm} {i : Nat} {d : D} {o : Bool} {v : V} (st : Sta K M F H (some (d, o) :: (ext ++ env)) (some v :: (xv ++ σ))) (hl : ext.length = xv.length) (hi : i < env.length) :
    Sta K M F H (ext ++ env.set i (some (d, o))) (xv ++ σ.set i (some v)) := by
  have q := st.put (i := ext.length + i) (by rw [List.length_append]; omega)
  rw [set_app, hl, set_app] at q
  exact q
theorem sta_in1 {K : PySem.W.Frag} {F H : Hp} {ext : List Sl} {xv : List (Option V)} {σ : L2.St} {env : PL.Fm} {i : Nat} {d : D} {o : Bool} {v : V} {r : D × Bool} {u : V} (st : Sta K M F H (some r :: some (d, o) :: (ext ++ env)) (some u :: some v :: (xv ++ σ))) (hl : ext.length = xv.length) (hi : i < env.length) :
    Sta K M F H (some r :: (ext ++ env.set i (some (d, o)))) (some u :: (xv ++ σ.set i (some v))) := by
  obtain ⟨r1, r2⟩ := r
  exact sta_in (ext := some (r1, r2) :: ext) (xv := some u :: xv) st.swap (by simp [hl]) hi
theorem s_fnv (C : XC X M T L Γ call N sc so k W) {f v : Nat} {es : Es} {x : Str} {xs : List Expr} {p q pos : Pos} (hg : glB sc (T.fN f) = true) (hn : nmOk (T.fN f) = true) (hf : f ∈ T.fs) (h1 : N[v]? = some x) (h2 : visB sc x = true) (h3 : nmOk x = true)
    (ha : PA X xs ((TEs X.K M Γ call) es)) (hp : xs.all plain = true) : PE X (.Call (.Name (T.fN f) p) (.Name x q :: xs) [] pos) ((TEv X.K M Γ call W) (.fnv f v es)) := by
  obtain ⟨g1, g2, dvs, ds, hb, hd, hr⟩ := C.top.fn f hf
  obtain ⟨n1, _, _⟩ := nmOk_of hn
  have hro : Room k X.A := C.room.mono (Nat.le_succ k)
  refine (pe_callSD (E := WE W) (C.fns f hf) hro (gl_of (by rw [C.scp]; exact hg)) g1 g2 hb hd (passAt C.tk) (pa_cons (s_pv C h1 h2 h3) ha (plain_star rfl)) n1 (plain_star rfl) (stars_none hp)).imp fun σ H Q h => ?_
  obtain ⟨F, ext, xv, env, st, hl, post⟩ := h
  simp only [ev] at post
  obtain ⟨d0, e0, hh, post1⟩ := post_bind post
  obtain ⟨hh, rfl⟩ := lift_ok hh
  obtain ⟨w, hw, _⟩ := rdv_at st hl hh
  obtain ⟨us, e1, hu, post2⟩ := post_bind post1
  refine ⟨w, hw, Ts_sub st hl hu fun vs F1 H1 s1 r1 st1 => ?_⟩
  split at post2
  · rename_i d hd1
    obtain ⟨w', hw', st2⟩ := sta_out st1 hl hd1
    rw [hw] at hw'
    cases hw'
    split at post2
    · rename_i rr d' hr'
      have len := C.ar f hf _ (by rw [hr']; exact fun z => nomatch z)
      rw [List.length_cons, List.length_map] at len
      have rv := r1.app (hr F1)
      refine ⟨?_, F1, ext ++ e1.set v none, xv ++ σ, (d, true) :: (us ++ Γ.dfl f).map fun d => (d, false), st2.drop.len, ?_, ?_, ?_⟩
      · rw [← len, rv.len]
        rfl
      · rw [List.length_cons, List.length_map]
        exact len
      · have q := st2.last.args rv
        rw [List.append_assoc (ext ++ e1.set v none), List.append_assoc (xv ++ σ)] at q
        exact q
      · rw [hr']
        refine ⟨⟨_, _, rfl⟩, fun u F' H' s st' => ?_⟩
        have hi : v < (e1.set v none).length := by
          rw [List.length_set]
          exact (List.getElem?_eq_some_iff.mp hd1).1
        have q := sta_in1 st' hl hi
        rw [List.set_set, set_same_of hw] at q
        exact post2 u F' H' (s1.trans s) q
    · rename_i z d' hr'
      have len := C.ar f hf _ (by rw [hr']; exact fun z => nomatch z)
      rw [List.length_cons, List.length_map] at len
      have rv := r1.app (hr F1)
      refine ⟨?_, F1, ext ++ e1.set v none, xv ++ σ, (d, true) :: (us ++ Γ.dfl f).map fun d => (d, false), st2.drop.len, ?_, ?_, ?_⟩
      · rw [← len, rv.len]
        rfl
      · rw [List.length_cons, List.length_map]
        exact len
      · have q := st2.last.args rv
        rw [List.append_assoc (ext ++ e1.set v none), List.append_assoc (xv ++ σ)] at q
        exact q
      · rw [hr']
        refine ⟨⟨_, _, rfl⟩, fun cls dx F' H' s rx st' => ?_⟩
        have hi : v < (e1.set v none).length := by
          rw [List.length_set]
          exact (List.getElem?_eq_some_iff.mp hd1).1
        have q := sta_in st' hl hi
        rw [List.set_set, set_same_of hw] at q
        exact post2 cls dx F' H' (s1.trans s) rx q
    · exact post2.elim
  · exact post2.elim
end
end PL
/-! PLStm: statements. -/
namespace PL
open PySem PySem.Spec PyProof.Rows L2

/-- the def's first slot stays what it was handed, where that is changed in place -/
def Pin (io : Bool) (v0 : Option V) (σ : L2.St) : Prop := io = true → σ[0]? = some v0
theorem Pin.set {io : Bool} {v0 : Option V} {σ : L2.St} {i : Nat} {x : Option V} (h : Pin io v0 σ) (hi : io = true → i ≠ 0) : Pin io v0 (σ.set i x) := fun e => by
  rw [List.getElem?_set_ne (hi e)]
  exact h e
section
variable (K : PySem.W.Frag) (M : Nm) (Γ : Ctx) (call : Nat → List (D × Bool) → CRes) (io : Bool) (v0 : Option V) (W : WX)
def PostS (F : Hp) (ext : List Sl) (xv : List (Option V)) (D : Ends) (r : Fl) : Prop :=
  match r with
  | .nx e => ∀ F' H' σ', Same F F' → Sta K M F' H' (ext ++ e) (xv ++ σ') → Pin io v0 σ' → D.nx σ' H'
  | .rt r e => ∀ v F' H' σ', Same F F' → Sta K M F' H' (some r :: (ext ++ e)) (some v :: (xv ++ σ')) → Pin io v0 σ' → D.rt v H'
  | .exc x e => ∀ cls d F' H' σ', Same F F' → RepX K M F' x cls d → Sta K M F' H' (ext ++ e) (xv ++ σ') → Pin io v0 σ' → W cls d σ' H'
  | .err => False
def TSt (s : S) : TS := fun D σ H => ∃ F ext xv env, Sta K M F H (ext ++ env) (xv ++ σ) ∧ ext.length = xv.length ∧ Pin io v0 σ ∧ PostS K M io v0 W F ext xv D (ex Γ call io s env)
def TSs (s : Ss) : TS := fun D σ H => ∃ F ext xv env, Sta K M F H (ext ++ env) (xv ++ σ) ∧ ext.length = xv.length ∧ Pin io v0 σ ∧ PostS K M io v0 W F ext xv D (exs Γ call io s env)
def PostP (F : Hp) (ext : List Sl) (xv : List (Option V)) (σ : L2.St) (r : Res (List (D × Bool))) (Q : List V → Hp → Prop) : Prop :=
  match r with
  | .ok rs env' => ∀ vs F' H', Same F F' → rs.length = vs.length → Sta K M F' H' (rs.reverse.map some ++ (ext ++ env')) (vs.reverse.map some ++ (xv ++ σ)) → Q vs H'
  | _ => False
def TEp (es : Es) : TA := fun σ H Q => ∃ F ext xv env, Sta K M F H (ext ++ env) (xv ++ σ) ∧ ext.length = xv.length ∧ PostP K M F ext xv σ (evp Γ call es env) Q
def PostI (F : Hp) (ext : List Sl) (xv : List (Option V)) (σ : L2.St) (r : Res (List D)) (R : It → Hp → Prop) : Prop := False
end
section
variable {K : PySem.W.Frag} {M : Nm} {io : Bool} {v0 : Option V} {W : WX} {F F1 : Hp} {ext : List Sl} {xv : List (Option V)} {D : Ends}
theorem postS_mono {r : Fl} (s : Same F F1) (h : PostS K M io v0 W F ext xv D r) : PostS K M io v0 W F1 ext xv D r := by
  unfold PostS at h ⊢
  split at h
  · exact fun F' H' σ' s' st p => h F' H' σ' (s.trans s') st p
  · exact fun v F' H' σ' s' st p => h v F' H' σ' (s.trans s') st p
  · exact fun cls d F' H' σ' s' r st p => h cls d F' H' σ' (s.trans s') r st p
  · exact h.elim
theorem postS_flN {α : Type} {r : Res α} {f : α → PL.Fm → Fl} (h : PostS K M io v0 W F ext xv D (r.flN f)) : ∃ a e, r = .ok a e ∧ PostS K M io v0 W F ext xv D (f a e) := by
  cases r with
  | ok a e => exact ⟨a, e, rfl, h⟩
  | exc x e => exact h.elim
  | err => exact h.elim
theorem postS_fl {α : Type} {r : Res α} {f : α → PL.Fm → Fl} (h : PostS K M io v0 W F ext xv D (r.fl f)) : (∃ a e, r = .ok a e ∧ PostS K M io v0 W F ext xv D (f a e)) ∨ ∃ x e, r = .exc x e ∧ PostS K M io v0 W F ext xv D (.exc x e) := by
  cases r with
  | ok a e => exact .inl ⟨a, e, rfl, h⟩
  | exc x e => exact .inr ⟨x, e, rfl, h⟩
  | err => exact h.elim
theorem postS_bind {r : Fl} {f : PL.Fm → Fl} (h : PostS K M io v0 W F ext xv D (r.bind f)) (k : ∀ e, PostS K M io v0 W F ext xv D (f e) → ∀ F' H' σ', Same F F' → Sta K M F' H' (ext ++ e) (xv ++ σ') → Pin io v0 σ' → D.nx σ' H') : PostS K M io v0 W F ext xv D r := by
  cases r with
  | nx e => exact k e h
  | rt r e => exact h
  | exc x e => exact h
  | err => exact h.elim
/-- a part lets an exception out -/
theorem T_exc {Γ : Ctx} {call : Nat → List (PL.D × Bool) → CRes} {H : Hp} {σ : L2.St} {env e1 : PL.Fm} {e : E} {R : VK} {x : Exn} (st : Sta K M F H (ext ++ env) (xv ++ σ)) (hl : ext.length = xv.length) (pn : Pin io v0 σ) (h1 : ev Γ call e env = .exc x e1) (post : PostS K M io v0 W F ext xv D (.exc x e1)) : TEv K M Γ call W e σ H R := by
  refine ⟨F, ext, xv, env, st, hl, ?_⟩
  rw [h1]
  exact fun cls d F' H' s r st' => post cls d F' H' σ s r st' pn
end

/-- no comprehension -/
def noComp : Expr → Bool
  | .ListComp _ _ _ _ => false
  | .SetComp _ _ _ _ => false
  | .DictComp _ _ _ _ _ => false
  | _ => true
theorem swaps_no {e : Expr} {t : Option Expr} {l : Nat} {env : PySem.Env} (h : noComp e = true) : swapsWith e t l env = pure false := by
  cases e <;> first | rfl | (simp [noComp] at h; done)
theorem swapsSole_no {e t : Expr} {l : Nat} {env : PySem.Env} (h : noComp e = true) : swapsWithSole [t] e l env = pure false := swaps_no h
def noTup : Expr → Bool
  | .Tuple _ _ _ => false
  | _ => true
def isNm : Expr → Bool
  | .Name _ _ => true
  | _ => false
theorem stores_nm {t e : Expr} {env : PySem.Env} (h : (noTup e || isNm t) = true) : swappedStores [t] e env = pure none := by
  cases t <;> cases e <;> first | rfl | (simp [noTup, isNm] at h; done)
theorem stores_no {t e : Expr} {env : PySem.Env} (h : noTup e = true) : swappedStores [t] e env = pure none := by
  cases t <;> cases e <;> first | rfl | (simp [noTup] at h; done)
def gNs : List Nat → TGs
  | [] => gNil
  | i :: is => gCons (gName i) (gNs is)
def gOf (K : PySem.W.Frag) : Tg → TG
  | .one i => gName i
  | .many is => gTup K is.length (gNs is)
theorem names_each {N : List Str} {so : Scope} {env : PySem.Env} : ∀ {is : List Nat} {ts : List Expr}, nmT N so is ts = true → (assignEach ts env).length = is.length ∧ (assignEach ts env).findIdx? (·.1) = none
  | [], [], _ => ⟨rfl, rfl⟩
  | i :: is, t :: r, h => by
    cases t with
    | Name x p =>
      simp only [nmT, Bool.and_eq_true] at h
      obtain ⟨a, b⟩ := names_each (env := env) h.2
      refine ⟨by show (assignEach r env).length + 1 = _; rw [a] <;> rfl, ?_⟩
      show List.findIdx? _ ((false, assign (.Name x p) env) :: assignEach r env) = none
      rw [List.findIdx?_cons]
      simp [b]
    | _ => simp [nmT] at h
  | [], _ :: _, h => by simp [nmT] at h
  | _ :: _, [], h => by simp [nmT] at h

section
variable {X : Cx} {M : Nm} {T : Ns} {L : Lk} {Γ : Ctx} {call : Nat → List (D × Bool) → CRes} {N : List Str} {sc so : Scope} {k : Nat} {W : WX} {io : Bool} {v0 : Option V}

theorem g_name (C : XC X M T L Γ call N sc so k W) {i : Nat} {x : Str} {p : Pos} (h : N[i]? = some x) (hs : stoB so x = true) : PG X (.Name x p) (gName i) := by
  obtain ⟨a, b⟩ := C.sto x hs
  exact pg_name (by rw [C.hN]; exact C.nd) (by rw [C.hN]; exact h) a b
theorem g_names (C : XC X M T L Γ call N sc so k W) : ∀ {is : List Nat} {ts : List Expr}, nmT N so is ts = true → PGs X ts (gNs is)
  | [], [], _ => pgs_nil
  | i :: is, t :: r, h => by
    cases t with
    | Name x p =>
      simp only [nmT, Bool.and_eq_true] at h
      exact pgs_cons (g_name C (of_decide_eq_true h.1.1) h.1.2) (g_names C h.2) rfl
    | _ => simp [nmT] at h
  | [], _ :: _, h => by simp [nmT] at h
  | _ :: _, [], h => by simp [nmT] at h
theorem g_of (C : XC X M T L Γ call N sc so k W) {tg : Tg} {t : Expr} (h : mT N so tg t = true) : PG X t (gOf X.K tg) := by
  cases tg with
  | one i =>
    cases t with
    | Name x p =>
      simp only [mT, Bool.and_eq_true] at h
      exact g_name C (of_decide_eq_true h.1) h.2
    | _ => simp [mT] at h
  | many is =>
    cases t with
    | Tuple ts j p =>
      obtain ⟨a, b⟩ := names_each (env := X.env) (show nmT N so is ts = true from h)
      exact pg_tup C.calm (g_names C h) a b
    | _ => simp [mT] at h

theorem sta_put {K : PySem.W.Frag} {F H : Hp} {ext : List Sl} {xv : List (Option V)} {σ : L2.St} {env : PL.Fm} {i : Nat} {r : D × Bool} {v : V} (st : Sta K M F H (some r :: (ext ++ env)) (some v :: (xv ++ σ))) (hl : ext.length = xv.length) :
    Sta K M F H (ext ++ env.set i (some r)) (xv ++ σ.set i (some v)) := by
  obtain ⟨d, o⟩ := r
  by_cases hi : i < env.length
  · exact sta_in st hl hi
  · have e := st.drop.len
    rw [List.length_append, List.length_append] at e
    rw [List.set_eq_of_length_le (by omega), List.set_eq_of_length_le (by omega)]
    exact st.drop
theorem gNs_ok {K : PySem.W.Frag} {F H : Hp} {ext : List Sl} {xv : List (Option V)} {R : L2.St → Hp → Prop} (hl : ext.length = xv.length) : ∀ {is : List Nat} {ds : List D} {vs : List V} {env : PL.Fm} {σ : L2.St}, Reps K M F ds vs → ds.length = is.length → Sta K M F H (ext ++ env) (xv ++ σ) → (io = true → 0 ∉ is) → Pin io v0 σ →
    (∀ σ2, Sta K M F H (ext ++ (is.zip ds).foldl (fun e p => e.set p.1 (some (p.2, false))) env) (xv ++ σ2) → Pin io v0 σ2 → R σ2 H) → gNs is vs σ H R
  | [], [], _, env, σ, .nil, _, st, _, pn, h => ⟨rfl, h σ st pn⟩
  | [], _ :: _, _, _, _, _, e, _, _, _, _ => by simp at e
  | _ :: _, [], _, _, _, _, e, _, _, _, _ => by simp at e
  | i :: is, d :: ds, _, env, σ, .cons a r, e, st, h0, pn, h => by
    refine ⟨_, _, rfl, gNs_ok hl (is := is) (env := env.set i (some (d, false))) r (by simpa using e) (sta_put (st.push a) hl) (fun z w => h0 z (by simp [w])) (pn.set fun z w => h0 z (by simp [w])) h⟩
theorem bnd_ok {K : PySem.W.Frag} {F H : Hp} {ext : List Sl} {xv : List (Option V)} {σ : L2.St} {env env1 : PL.Fm} {tg : Tg} {r : D × Bool} {v : V} {R : L2.St → Hp → Prop} (hl : ext.length = xv.length) (st : Sta K M F H (some r :: (ext ++ env)) (some v :: (xv ++ σ))) (pn : Pin io v0 σ)
    (h : bnd io tg r env = some env1) (q : ∀ F' σ2, Same F F' → Sta K M F' H (ext ++ env1) (xv ++ σ2) → Pin io v0 σ2 → R σ2 H) : gOf K tg v σ H R := by
  cases tg with
  | one i =>
    simp only [bnd] at h
    split at h
    · cases h
    · rename_i hh
      cases h
      exact q F _ (Same.refl F) (sta_put st hl) (pn.set fun a b => hh ⟨a, b⟩)
  | many is =>
    obtain ⟨d, o⟩ := r
    cases d <;> simp only [bnd, reduceCtorEq] at h
    rename_i l
    split at h
    · rename_i hh
      cases h
      obtain ⟨F', s, rd, st'⟩ := st.settle
      obtain ⟨a, ws, rfl, h1, z1, r1⟩ := rep_tup rd
      exact ⟨a, ws, rfl, same_sqT st'.same h1, by rw [← r1.len, hh.1], gNs_ok hl r1 hh.1 st' hh.2 pn fun σ2 st2 p2 => q F' σ2 s st2 p2⟩
    · cases h

theorem x_asg (C : XC X M T L Γ call N sc so k W) {tg : Tg} {e : E} {t x : Expr} {pos : Pos} (ha : PE X x ((TEv X.K M Γ call W) e)) (hg : mT N so tg t = true) (hc : ∀ l, swapsWithSole [t] x l X.env = pure false) (ht : swappedStores [t] x X.env = pure none) : PS X (.Assign [t] x pos) ((TSt X.K M Γ call io v0 W) (.asg tg e)) := by
  refine (ps_asg ha (g_of C hg) (hc _) ht ?_).imp fun D σ H h => ?_
  · cases tg <;> cases t <;> first | rfl | (simp [mT] at hg; done)
  · obtain ⟨F, ext, xv, env, st, hl, pn, post⟩ := h
    simp only [ex] at post
    rcases postS_fl post with ⟨r, e1, h1, post⟩ | ⟨x, e1, h1, post⟩
    case inr => exact T_exc st hl pn h1 post
    split at post
    · rename_i env1 hb
      exact T_keep st hl h1 fun v F1 H1 s1 st1 => bnd_ok hl st1 pn hb fun F2 σ2 s2 st2 p2 => post F2 H1 σ2 (s1.trans s2) st2 p2
    · exact post.elim
theorem aug_in {f : Int → Int → Int} {e : E} {i : Nat} {sb : Bool} (hf : ∀ a b, f a b = if sb = true then a - b else a + b) {D : Ends} {σ : L2.St} {H : Hp} (h : (TSt X.K M Γ call io v0 W) (.aug i sb e) D σ H) : tAug i ((TEv X.K M Γ call W) e) (ipI f) D σ H := by
  obtain ⟨F, ext, xv, env, st, hl, pn, post⟩ := h
  simp only [ex] at post
  split at post
  · rename_i a' hr
    obtain ⟨v, hv, pk⟩ := rdv_at st hl hr
    obtain ⟨r, e1, h1, post⟩ := postS_flN post
    have ev1 : v = .int a' := by
      cases pk with
      | rep r => exact rep_int r
    subst ev1
    refine ⟨_, hv, T_sub st hl h1 fun w F1 H1 s1 r1 st1 => ?_⟩
    obtain ⟨d, o⟩ := r
    cases d <;> simp only at post r1 <;> try exact post.elim
    rename_i b'
    cases rep_int r1
    refine ⟨a', b', rfl, rfl, ?_⟩
    split at post
    · exact post.elim
    · rename_i hh
      rw [hf]
      exact post F1 H1 _ s1 (sta_put (st1.push (.int _)) hl) (pn.set fun a b => hh ⟨a, b⟩)
  · exact post.elim
def aop (sb : Bool) : Operator := if sb = true then .Sub else .Add
theorem x_aug (C : XC X M T L Γ call N sc so k W) {sb : Bool} {e : E} {i : Nat} {x : Str} {y : Expr} {p pos : Pos} (ha : PE X y ((TEv X.K M Γ call W) e)) (h1 : N[i]? = some x) (h2 : stoB so x = true) : PS X (.AugAssign (.Name x p) (aop sb) y pos) ((TSt X.K M Γ call io v0 W) (.aug i sb e)) := by
  obtain ⟨a, b⟩ := C.sto x h2
  cases sb with
  | false => exact (ps_aug (by rw [C.hN]; exact C.nd) (by rw [C.hN]; exact h1) a ha ip_add b).imp fun D σ H h => aug_in (fun _ _ => rfl) h
  | true => exact (ps_aug (by rw [C.hN]; exact C.nd) (by rw [C.hN]; exact h1) a ha ip_sub b).imp fun D σ H h => aug_in (fun _ _ => rfl) h
theorem x_exp {e : E} {x : Expr} {pos : Pos} (ha : PE X x ((TEv X.K M Γ call W) e)) (hc : noComp x = true) : PS X (.Expr x pos) ((TSt X.K M Γ call io v0 W) (.exp e)) :=
  (ps_expr ha (swaps_no hc)).imp fun D σ H h => by
    obtain ⟨F, ext, xv, env, st, hl, pn, post⟩ := h
    simp only [ex] at post
    rcases postS_fl post with ⟨r, e1, h1, post⟩ | ⟨x, e1, h1, post⟩
    case inr => exact T_exc st hl pn h1 post
    exact T_keep st hl h1 fun v F1 H1 s1 st1 => post F1 H1 σ s1 st1.drop pn
theorem x_ret {e : E} {x : Expr} {pos : Pos} (ha : PE X x ((TEv X.K M Γ call W) e)) : PS X (.Return (some x) pos) ((TSt X.K M Γ call io v0 W) (.ret e)) :=
  (ps_ret ha).imp fun D σ H h => by
    obtain ⟨F, ext, xv, env, st, hl, pn, post⟩ := h
    simp only [ex] at post
    rcases postS_fl post with ⟨r, e1, h1, post⟩ | ⟨x, e1, h1, post⟩
    case inr => exact T_exc st hl pn h1 post
    exact T_keep st hl h1 fun v F1 H1 s1 st1 => post v F1 H1 σ s1 st1 pn
theorem x_retN {pos : Pos} : PS X (.Return none pos) ((TSt X.K M Γ call io v0 W) .retN) :=
  ps_retN.imp fun D σ H h => by
    obtain ⟨F, ext, xv, env, st, hl, pn, post⟩ := h
    simp only [ex] at post
    exact post .non F H σ (Same.refl F) (st.push .non) pn
theorem x_pas {pos : Pos} : PS X (.Pass pos) ((TSt X.K M Γ call io v0 W) .pas) :=
  ps_pass.imp fun D σ H h => by
    obtain ⟨F, ext, xv, env, st, hl, pn, post⟩ := h
    simp only [ex] at post
    exact post F H σ (Same.refl F) st pn
theorem x_nev {st : Stmt} : PS X st ((TSt X.K M Γ call io v0 W) .nev) :=
  ps_never.imp fun D σ H h => by
    obtain ⟨F, ext, xv, env, st, hl, pn, post⟩ := h
    simp only [ex] at post
    exact post.elim
theorem x_rse0 (C : XC X M T L Γ call N sc so k W) {c : Nat} {x m : Str} {j : Nat} {p p2 pos pos' : Pos} (hx : x = T.cN c) (hc : c ∈ T.xs) (hg : glB sc x = true) (hn : nmOk x = true) : PS X (.Raise (some (.Call (.Name x p) [.Constant (.str m) j p2] [] pos)) none pos') ((TSt X.K M Γ call io v0 W) (.rse c .none)) := by
  obtain ⟨a1, a2, a3, a4, a5⟩ := C.top.exc c hc
  rw [← hx] at a1
  refine (ps_raise C.calm C.tk (pmk_own F.excBase_ValueError a3 a1 a2 (raises_own a4 a5) (gl_of (by rw [C.scp]; exact hg)) (nmOk_of hn).1)).imp fun D σ H h => ?_
  obtain ⟨F, ext, xv, env, st, hl, pn, post⟩ := h
  simp only [ex] at post
  exact post _ _ F H σ (Same.refl F) ⟨rfl, .inl ⟨rfl, rfl⟩⟩ st pn
theorem x_nil : PSs X [] ((TSs X.K M Γ call io v0 W) .nil) :=
  pss_nil.imp fun D σ H h => by
    obtain ⟨F, ext, xv, env, st, hl, pn, post⟩ := h
    simp only [exs] at post
    exact post F H σ (Same.refl F) st pn
theorem x_cons {s : S} {r : Ss} {st : Stmt} {sts : List Stmt} (hs : PS X st ((TSt X.K M Γ call io v0 W) s)) (hr : PSs X sts ((TSs X.K M Γ call io v0 W) r)) : PSs X (st :: sts) ((TSs X.K M Γ call io v0 W) (.cons s r)) :=
  (pss_cons hs hr).imp fun D σ H h => by
    obtain ⟨F, ext, xv, env, st, hl, pn, post⟩ := h
    simp only [exs] at post
    refine ⟨F, ext, xv, env, st, hl, pn, ?_⟩
    revert post
    cases ex Γ call io s env with
    | nx e => exact fun post F' H' σ' s' st' p' => ⟨F', ext, xv, e, st', hl, p', postS_mono s' post⟩
    | rt r e => exact fun post => post
    | exc x e => exact fun post => post
    | err => exact fun post => post
theorem x_ifs {c : E} {a b : Ss} {x : Expr} {p q : List Stmt} {pos : Pos} (hc : PT X x ((TTt X.K M Γ call) c)) (ha : PSs X p ((TSs X.K M Γ call io v0 W) a)) (hb : PSs X q ((TSs X.K M Γ call io v0 W) b)) : PS X (.If x p q pos) ((TSt X.K M Γ call io v0 W) (.ifs c a b)) :=
  (ps_if hc ha hb).imp fun D σ H h => by
    obtain ⟨F, ext, xv, env, st, hl, pn, post⟩ := h
    simp only [ex] at post
    obtain ⟨r, e1, h1, post⟩ := postS_flN post
    obtain ⟨d, o⟩ := r
    cases d <;> simp only at post <;> try exact post.elim
    rename_i t
    refine Tt_sub st hl h1 fun F1 H1 s1 st1 => ?_
    cases t with
    | true =>
      rw [if_pos rfl]
      exact ⟨F1, ext, xv, e1, st1, hl, pn, postS_mono s1 post⟩
    | false =>
      rw [if_neg Bool.false_ne_true]
      exact ⟨F1, ext, xv, e1, st1, hl, pn, postS_mono s1 post⟩
theorem x_whl {c : E} {b : Ss} {x : Expr} {p : List Stmt} {pos : Pos} (hp : PassesOwn (model X.prog X.w) X.A X.env X.xe) (hc : PT X x ((TTt X.K M Γ call) c)) (hb : PSs X p ((TSs X.K M Γ call io v0 W) b)) : PS X (.While x p [] pos) ((TSt X.K M Γ call io v0 W) (.whl c b)) :=
  (ps_while hp hc hb).imp fun D σ H h => by
    obtain ⟨F, ext, xv, env, st, hl, pn, post⟩ := h
    simp only [ex] at post
    unfold whlG at post
    generalize hstep : (fun (env : PL.Fm) => (match ev Γ call c env with
      | .ok (.bl true, _) env =>
        match exs Γ call io b env with
        | .nx env => Sum.inl env
        | r => .inr r
      | .ok (.bl false, _) env => .inr (.nx env)
      | _ => .inr .err : PL.Fm ⊕ Fl)) = step at post
    rcases whileF_or (step := step) (env := env) with ⟨n, hn⟩ | hn
    · refine ⟨fun m σ H => ∃ F' env' r, Same F F' ∧ Sta X.K M F' H (ext ++ env') (xv ++ σ) ∧ Pin io v0 σ ∧ iter step m env' = some r ∧ PostS X.K M io v0 W F ext xv D r, ⟨n, F, env, _, Same.refl F, st, pn, hn, post⟩, ?_⟩
      rintro m σ H ⟨F', env', r, s', st', pn', hi, post'⟩
      cases m with
      | zero => simp [iter] at hi
      | succ m =>
        unfold iter at hi
        have hs := (congrFun hstep env').symm
        cases he : ev Γ call c env' with
        | ok d e1 =>
          obtain ⟨d, o⟩ := d
          cases d with
          | bl t =>
            refine Tt_sub st' hl he fun F1 H1 s1 st1 => ?_
            rw [he] at hs
            cases t with
            | true =>
              rw [if_pos rfl]
              simp only at hs
              refine ⟨fun σ2 H2 => ∃ F2 env2 r, Same F F2 ∧ Sta X.K M F2 H2 (ext ++ env2) (xv ++ σ2) ∧ Pin io v0 σ2 ∧ iter step m env2 = some r ∧ PostS X.K M io v0 W F ext xv D r, fun σ2 H2 h => ⟨m, Nat.lt_succ_self m, h⟩, F1, ext, xv, e1, st1, hl, pn', ?_⟩
              cases hx : exs Γ call io b e1 with
              | nx e2 =>
                rw [hx] at hs
                simp only at hs
                rw [hs] at hi
                exact fun F2 H2 σ2 s2 st2 p2 => ⟨F2, e2, r, (s'.trans s1).trans s2, st2, p2, hi, post'⟩
              | rt r2 e2 =>
                rw [hx] at hs
                simp only at hs
                rw [hs] at hi
                cases hi
                exact fun v F2 H2 σ2 s2 st2 p2 => post' v F2 H2 σ2 ((s'.trans s1).trans s2) st2 p2
              | exc x2 e2 =>
                rw [hx] at hs
                simp only at hs
                rw [hs] at hi
                cases hi
                exact fun cls d F2 H2 σ2 s2 r2 st2 p2 => post' cls d F2 H2 σ2 ((s'.trans s1).trans s2) r2 st2 p2
              | err =>
                rw [hx] at hs
                simp only at hs
                rw [hs] at hi
                cases hi
                exact post'.elim
            | false =>
              rw [if_neg Bool.false_ne_true]
              simp only at hs
              rw [hs] at hi
              cases hi
              exact post' F1 H1 σ (s'.trans s1) st1 pn'
          | _ =>
            rw [he] at hs
            simp only at hs
            rw [hs] at hi
            cases hi
            exact post'.elim
        | exc x2 e2 =>
          rw [he] at hs
          simp only at hs
          rw [hs] at hi
          cases hi
          exact post'.elim
        | err =>
          rw [he] at hs
          simp only at hs
          rw [hs] at hi
          cases hi
          exact post'.elim
    · rw [hn] at post
      exact post.elim
end
end PL
/-! PLStm2: stores of several at once, changed rows, for. -/
namespace PL
open PySem PySem.Spec PyProof.Rows L2

/-- how a, b = x, y is stored: the names at once, from the right (true), or by way of a pair (false) -/
def allLoc (sc : Scope) (l : Nat) : List Expr → Option (List Str)
  | [] => some []
  | .Name x p :: r => if sc.names.lookup x = some .local ∧ p.line = l then (allLoc sc l r).map (x :: ·) else none
  | _ => none
def noStars : List Expr → Bool
  | [] => true
  | .Starred _ _ :: _ => false
  | _ :: r => noStars r
section
variable {sc : Scope} {env : PySem.Env}
theorem noStars_of : ∀ {vs : List Expr}, vs.all plain = true → (vs.any fun | .Starred .. => true | _ => false) = false
  | [], _ => rfl
  | v :: r, h => by
    simp only [List.all_cons, Bool.and_eq_true] at h
    rw [List.any_cons, noStars_of h.2, Bool.or_false]
    cases v <;> first | rfl | (simp [plain] at h; done)
end

section
variable {X : Cx} {M : Nm} {T : Ns} {L : Lk} {Γ : Ctx} {call : Nat → List (D × Bool) → CRes} {N : List Str} {sc so : Scope} {k : Nat} {W : WX} {io : Bool} {v0 : Option V}

theorem p_nil : PA X [] ((TEp X.K M Γ call) .nil) := pa_nil.imp fun σ H Q h => by
  obtain ⟨F, ext, xv, env, st, hl, post⟩ := h
  simp only [evp] at post
  exact post [] F H (Same.refl F) rfl st
theorem postP_bind {K : PySem.W.Frag} {F : Hp} {ext : List Sl} {xv : List (Option V)} {σ : L2.St} {α : Type} {r : Res α} {f : α → PL.Fm → Res (List (D × Bool))} {Q : List V → Hp → Prop} (h : PostP K M F ext xv σ (r.bind f) Q) : ∃ a e, r = .ok a e ∧ PostP K M F ext xv σ (f a e) Q := by
  cases r with
  | ok a e => exact ⟨a, e, rfl, h⟩
  | exc x e => exact h.elim
  | err => exact h.elim
theorem p_cons {a : E} {r : Es} {x : Expr} {xs : List Expr} (ha : PE X x ((TEv X.K M Γ call W) a)) (hr : PA X xs ((TEp X.K M Γ call) r)) (hp : plain x = true) : PA X (x :: xs) ((TEp X.K M Γ call) (.cons a r)) :=
  (pa_cons ha hr (plain_star hp)).imp fun σ H Q h => by
    obtain ⟨F, ext, xv, env, st, hl, post⟩ := h
    simp only [evp] at post
    obtain ⟨p, e1, h1, post⟩ := postP_bind post
    obtain ⟨ds, e2, h2, post⟩ := postP_bind post
    refine T_keep st hl h1 fun v F1 H1 s1 st1 => ⟨F1, some p :: ext, some v :: xv, e1, st1, by simp [hl], ?_⟩
    rw [h2]
    intro vs F2 H2 s2 hn st2
    refine post (v :: vs) F2 H2 (s1.trans s2) (by simp [hn]) ?_
    rw [List.reverse_cons, List.reverse_cons, List.map_append, List.map_append, List.append_assoc, List.append_assoc]
    exact st2
theorem sta_fold {K : PySem.W.Frag} {F H : Hp} {ext : List Sl} {xv : List (Option V)} (hl : ext.length = xv.length) : ∀ {is : List Nat} {rs : List (D × Bool)} {vs : List V} {env : PL.Fm} {σ : L2.St}, rs.length = is.length → rs.length = vs.length →
    Sta K M F H (rs.reverse.map some ++ (ext ++ env)) (vs.reverse.map some ++ (xv ++ σ)) → (io = true → 0 ∉ is) → Pin io v0 σ →
    Sta K M F H (ext ++ (is.zip rs).foldl (fun e p => e.set p.1 (some p.2)) env) (xv ++ (is.zip vs).foldl (fun s p => s.set p.1 (some p.2)) σ) ∧ Pin io v0 ((is.zip vs).foldl (fun s p => s.set p.1 (some p.2)) σ)
  | [], [], [], env, σ, _, _, st, _, pn => ⟨st, pn⟩
  | i :: is, r :: rs, v :: vs, env, σ, e1, e2, st, h0, pn => by
    rw [List.reverse_cons, List.reverse_cons, List.map_append, List.map_append, List.append_assoc, List.append_assoc] at st
    obtain ⟨d, o⟩ := r
    have st1 := st.mid (by simp at e2; simp [e2])
    have st1 : Sta K M F H (some (d, o) :: ((rs.reverse.map some ++ ext) ++ env)) (some v :: ((vs.reverse.map some ++ xv) ++ σ)) := by
      rw [List.append_assoc, List.append_assoc]
      exact st1
    have st2 := sta_put (i := i) st1 (by simp at e2; simp [e2, hl])
    rw [List.append_assoc, List.append_assoc] at st2
    exact sta_fold hl (is := is) (rs := rs) (vs := vs) (by simpa using e1) (by simpa using e2) st2 (fun z w => h0 z (by simp [w])) (pn.set fun z w => h0 z (by have w' : i = 0 := w; simp [w']))
  | [], _ :: _, _, _, _, e, _, _, _, _ => by simp at e
  | _ :: _, [], _, _, _, e, _, _, _, _ => by simp at e
  | [], [], _ :: _, _, _, _, e, _, _, _ => by simp at e
  | _ :: _, _ :: _, [], _, _, _, e, _, _, _ => by simp at e
/-- stored one after the other -/
theorem gNs_all {R : L2.St → Hp → Prop} {H : Hp} : ∀ {is : List Nat} {vs : List V} {σ : L2.St}, vs.length = is.length → R ((is.zip vs).foldl (fun s p => s.set p.1 (some p.2)) σ) H → gNs is vs σ H R
  | [], [], σ, _, h => ⟨rfl, h⟩
  | i :: is, v :: vs, σ, e, h => ⟨v, vs, rfl, gNs_all (is := is) (by simpa using e) h⟩
  | [], _ :: _, _, e, _ => by simp at e
  | _ :: _, [], _, e, _ => by simp at e
theorem par_in {es : Es} {is : List Nat} {D : Ends} {σ : L2.St} {H : Hp} (h : (TSt X.K M Γ call io v0 W) (.par is es) D σ H) : (TEp X.K M Γ call) es σ H fun vs H1 => vs.length = is.length ∧ ∀ H2, Same H1 H2 → (∀ a u, H1 a = some u → H2 a = some u) → D.nx ((is.zip vs).foldl (fun s p => s.set p.1 (some p.2)) σ) H2 := by
  obtain ⟨F, ext, xv, env, st, hl, pn, post⟩ := h
  simp only [ex] at post
  obtain ⟨rs, e1, h1, post⟩ := postS_flN post
  split at post
  · rename_i hh
    refine ⟨F, ext, xv, env, st, hl, ?_⟩
    rw [h1]
    intro vs F1 H1 s1 hn st1
    refine ⟨by rw [← hn, hh.1], fun H2 s2 _ => ?_⟩
    have st2 : Sta X.K M F1 H2 (rs.reverse.map some ++ (ext ++ e1)) (vs.reverse.map some ++ (xv ++ σ)) := st1.mono (Same.refl F1) s2 ⟨st1.same.trans s2, fun z => ⟨(st1.sm.tb z).1.ext fun b o q => s2 b o q, (st1.sm.tb z).2⟩⟩ fun _ _ _ z => z
    obtain ⟨a, b⟩ := sta_fold hl hh.1 hn st2 hh.2 pn
    exact post F1 H2 _ s1 a b
  · exact post.elim
theorem x_parT (C : XC X M T L Γ call N sc so k W) {is : List Nat} {es : Es} {ts xs : List Expr} {j1 j2 : Nat} {p1 p2 pos : Pos} (ha : PA X xs ((TEp X.K M Γ call) es)) (hg : nmT N so is ts = true) (hz : is.length ≤ 100)
    (hw : swappedStores [.Tuple ts j1 p1] (.Tuple xs j2 p2) X.env = pure none) : PS X (.Assign [.Tuple ts j1 p1] (.Tuple xs j2 p2) pos) ((TSt X.K M Γ call io v0 W) (.par is es)) := by
  obtain ⟨a, b⟩ := names_each (env := X.env) hg
  refine (ps_asg (pe_tup ha) (pg_tup C.calm (g_names C hg) a b) (swapsSole_no rfl) hw rfl).imp fun D σ H h => ?_
  obtain ⟨F, ext, xv, env, st, hl, post⟩ := par_in h
  refine ⟨F, ext, xv, env, st, hl, ?_⟩
  unfold PostP at post ⊢
  split at post
  · intro vs F1 H1 s1 hn st1
    obtain ⟨q1, q2⟩ := post vs F1 H1 s1 hn st1
    have hv : vs.length ≤ sizeLine := lim_le (by unfold LIM; omega)
    refine ⟨hv, fun p hp => ⟨p, vs, rfl, .inl (.inl upd_same), q1, gNs_all q1 (q2 _ (same_new hp) (same_new hp))⟩⟩
  · exact post.elim
theorem x_par2 (C : XC X M T L Γ call N sc so k W) {i j : Nat} {es : Es} {x y : Str} {a b : Expr} {j1 j2 : Nat} {px py p1 p2 pos : Pos} (ha : PA X [a, b] ((TEp X.K M Γ call) es)) (h1 : N[i]? = some x) (h2 : N[j]? = some y) (hij : i ≠ j)
    (hx : sc.names.lookup x = some .local) (hy : sc.names.lookup y = some .local) (hw : swappedStores [.Tuple [.Name x px, .Name y py] j1 p1] (.Tuple [a, b] j2 p2) X.env = pure (some [x, y])) :
    PS X (.Assign [.Tuple [.Name x px, .Name y py] j1 p1] (.Tuple [a, b] j2 p2) pos) ((TSt X.K M Γ call io v0 W) (.par [i, j] es)) := by
  refine (ps_par C.calm (by rw [C.hN]; exact C.nd) (by rw [C.hN]; exact h1) (by rw [C.hN]; exact h2) hij (by rw [C.scp]; exact hx) (by rw [C.scp]; exact hy) ha hw (swapsSole_no rfl)).imp fun D σ H h => ?_
  obtain ⟨F, ext, xv, env, st, hl, post⟩ := par_in h
  refine ⟨F, ext, xv, env, st, hl, ?_⟩
  unfold PostP at post ⊢
  split at post
  · intro vs F1 H1 s1 hn st1
    obtain ⟨q1, q2⟩ := post vs F1 H1 s1 hn st1
    match vs, q1 with
    | [v, w], _ => exact ⟨v, w, rfl, q2 H1 (Same.refl _) fun _ _ z => z⟩
  · exact post.elim
theorem x_par3 (C : XC X M T L Γ call N sc so k W) {i j l : Nat} {es : Es} {x y z : Str} {a b c : Expr} {j1 j2 : Nat} {px py pz p1 p2 pos : Pos} (ha : PA X [a, b, c] ((TEp X.K M Γ call) es)) (h1 : N[i]? = some x) (h2 : N[j]? = some y) (h3 : N[l]? = some z) (hij : i ≠ j) (hil : i ≠ l) (hjl : j ≠ l)
    (hx : sc.names.lookup x = some .local) (hy : sc.names.lookup y = some .local) (hz : sc.names.lookup z = some .local) (hw : swappedStores [.Tuple [.Name x px, .Name y py, .Name z pz] j1 p1] (.Tuple [a, b, c] j2 p2) X.env = pure (some [x, y, z])) :
    PS X (.Assign [.Tuple [.Name x px, .Name y py, .Name z pz] j1 p1] (.Tuple [a, b, c] j2 p2) pos) ((TSt X.K M Γ call io v0 W) (.par [i, j, l] es)) := by
  refine (ps_par3 C.calm (by rw [C.hN]; exact C.nd) (by rw [C.hN]; exact h1) (by rw [C.hN]; exact h2) (by rw [C.hN]; exact h3) hij hil hjl (by rw [C.scp]; exact hx) (by rw [C.scp]; exact hy) (by rw [C.scp]; exact hz) ha hw (swapsSole_no rfl)).imp fun D σ H h => ?_
  obtain ⟨F, ext, xv, env, st, hl, post⟩ := par_in h
  refine ⟨F, ext, xv, env, st, hl, ?_⟩
  unfold PostP at post ⊢
  split at post
  · intro vs F1 H1 s1 hn st1
    obtain ⟨q1, q2⟩ := post vs F1 H1 s1 hn st1
    match vs, q1 with
    | [u, v, w], _ => exact ⟨u, v, w, rfl, q2 H1 (Same.refl _) fun _ _ z => z⟩
  · exact post.elim

/-! ### changed rows -/
theorem x_app (C : XC X M T L Γ call N sc so k W) {i : Nat} {e : E} {x : Str} {y : Expr} {p ap cp pos : Pos} (h1 : N[i]? = some x) (h2 : visB sc x = true) (h3 : nmOk x = true) (ha : PE X y ((TEv X.K M Γ call W) e)) (hp : plain y = true) (hln : (ap.endLine == cp.line) = true) :
    PS X (.Expr (.Call (.Attribute (.Name x p) "append" ap) [y] [] cp) pos) ((TSt X.K M Γ call io v0 W) (.app (.var i) e)) := by
  have few : ((backTo cp (starEach [y] X.env)).all (fun x => !x.1) && (backToKw cp (keywordEach [] X.env)).all (fun x => x.1.isSome) && decide ([y].length + ([] : List Keyword).length + (if ([] : List Keyword).isEmpty then 0 else 1) < 30)) = true := by
    rw [plain_star hp]
    rfl
  refine (ps_expr (pe_bm (T := "list") PySem.F.plainAttrs_list PySem.F.slot_list_append PySem.F.type_list_append (r := rAppend) mt_append (s_pv C h1 h2 h3) (pa_cons ha pa_nil (plain_star hp)) rfl few hln (plain_star hp) rfl) (by rfl)).imp fun D σ H h => ?_
  obtain ⟨F, ext, xv, env, st, hl, pn, post⟩ := h
  simp only [ex, pth] at post
  split at post
  · rename_i l0 hq
    have hi0 : env[i]? = some (some (.lst l0, true)) := by
      split at hq
      · rename_i s' e'
        rw [e', hq]
      · cases hq
    obtain ⟨v, fp, hv, ro⟩ := sta_ix st hl hi0
    cases ro with
    | lst hb zb rb =>
      refine ⟨_, hv, .inl ⟨rfl, _, .inl (.inl hb)⟩, ?_⟩
      obtain ⟨r, e1, h1, post⟩ := postS_flN post
      refine T_sub st hl h1 fun w F1 H1 s1 r1 st1 => ?_
      split at post
      · rename_i l hq1
        split at post
        · rename_i hz
          have hi1 : e1[i]? = some (some (.lst l, true)) := by
            split at hq1
            · rename_i s' e'
              rw [e', hq1]
            · cases hq1
          obtain ⟨v', hv', st2⟩ := sta_out st1 hl hi1
          rw [hv] at hv'
          cases hv'
          obtain ⟨a, ws, ea, ha2, z2, r2⟩ := st2.headL
          cases ea
          have hn := r2.len
          refine ⟨_, ws, w, rfl, rfl, ha2, lim_lt (by omega), ?_⟩
          have st3 := st2.mut (r2.snoc r1) (by rw [List.length_append, List.length_singleton]; omega)
          have hi2 : i < (e1.set i none).length := by
            rw [List.length_set]
            exact (List.getElem?_eq_some_iff.mp hi1).1
          have st4 := sta_in st3 hl hi2
          rw [List.set_set, set_same_of hv] at st4
          exact post F1 _ σ s1 st4 pn
        · exact post.elim
      · exact post.elim
  · exact post.elim
theorem x_sub (C : XC X M T L Γ call N sc so k W) {v : Nat} {e i : E} {x : Str} {y z : Expr} {p tp pos : Pos} (h1 : N[v]? = some x) (h2 : visB sc x = true) (h3 : nmOk x = true) (ha : PE X y ((TEv X.K M Γ call W) e)) (hi : PE X z ((TEv X.K M Γ call W) i)) (hz : plain z = true) (hc : noComp y = true) (ht : noTup y = true) :
    PS X (.Assign [.Subscript (.Name x p) z tp] y pos) ((TSt X.K M Γ call io v0 W) (.sub v i e)) := by
  refine (ps_asg ha (pg_sub (s_pv C h1 h2 h3) hi set_list (by intro _; cases z <;> first | rfl | (simp [plain] at hz; done))) (swapsSole_no hc) (stores_no ht) rfl).imp fun D σ H h => ?_
  obtain ⟨F, ext, xv, env, st, hl, pn, post⟩ := h
  simp only [ex] at post
  obtain ⟨r, e1, g1, post⟩ := postS_flN post
  refine T_sub st hl g1 fun w F1 H1 s1 r1 st1 => ?_
  split at post
  · rename_i d0 hd0
    obtain ⟨u, hu, _⟩ := rdv_at st1 hl hd0
    refine ⟨u, hu, ?_⟩
    obtain ⟨q, e2, g2, post⟩ := postS_flN post
    refine T_sub st1 hl g2 fun w2 F2 H2 s2 r2 st2 => ?_
    split at post
    · rename_i l j hi2 hj
      split at post
      · rename_i l' hl'
        obtain ⟨u', hu', st3⟩ := sta_out st2 hl hi2
        rw [hu] at hu'
        cases hu'
        obtain ⟨a, ws, ea, ha2, z2, rl⟩ := st3.headL
        cases ea
        rw [hj] at r2
        cases rep_int r2
        unfold setI at hl'
        cases ej : ixn l.length j with
        | none =>
          rw [ej] at hl'
          cases hl'
        | some m =>
          rw [ej] at hl'
          cases hl'
          refine ⟨a, ws, j, m, rfl, rfl, ha2, by rw [← rl.len]; exact ej, ?_⟩
          have st4 := st3.mut (Reps.set (r1.mono s2) m rl) (by rw [List.length_set]; exact z2)
          have hi3 : v < (e2.set v none).length := by
            rw [List.length_set]
            exact (List.getElem?_eq_some_iff.mp hi2).1
          have st5 := sta_in st4 hl hi3
          rw [List.set_set, set_same_of hu] at st5
          exact post F2 _ σ (s1.trans s2) st5 pn
      · exact post.elim
    · exact post.elim
  · exact post.elim
end
end PL
/-! PLFor: what is walked; for. -/
namespace PL
open PySem PySem.Spec PyProof.Rows L2

/-- J walks the things ds -/
structure Wk (K : PySem.W.Frag) (M : Nm) (J : It) (ds : List D) (F : Hp) : Prop where
  go : ∀ i H, Same F H → i < ds.length → J.go i H
  stop : ∀ H, Same F H → J.stop ds.length H
  yld : ∀ i H x H', Same F H → i < ds.length → J.yld i H x H' → ∃ d, ds[i]? = some d ∧ ((H' = H ∧ Rep K M F d x) ∨ ∃ T v w a b, x = .ref T ∧ H T = none ∧ H' = upd H T (.tup [v, w]) ∧ d = .tup [a, b] ∧ Rep K M F a v ∧ Rep K M F b w)
section
variable {K : PySem.W.Frag} {M : Nm} {F : Hp}
theorem same_sqL {F H : Hp} {a : Addr} {vs : List V} (e : Same F H) (h : SqL K F a vs) : SqL K H a vs := e.seq h
theorem wk_list {a : Addr} {l : List D} {vs : List V} (h : SqL K F a vs) (r : Reps K M F l vs) : Wk K M (Itl K a) l F where
  go := fun i H e hi => ⟨vs, vs[i]'(by rw [← r.len]; exact hi), e.seq h, by simp⟩
  stop := fun H e => ⟨vs, e.seq h, by rw [r.len]; exact Nat.le_refl _⟩
  yld := fun i H x H' e hi y => by
    obtain ⟨rfl, y⟩ := y
    have hx := y vs (e.seq h)
    have hd : l[i]? = some l[i] := by simp [hi]
    obtain ⟨v, hv, rv⟩ := r.get hd
    rw [hx] at hv
    cases hv
    exact ⟨_, hd, .inl ⟨rfl, rv⟩⟩
theorem wk_tup {a : Addr} {l : List D} {vs : List V} (h : SqT K F a vs) (r : Reps K M F l vs) : Wk K M (Itt K a) l F where
  go := fun i H e hi => ⟨vs, vs[i]'(by rw [← r.len]; exact hi), same_sqT e h, by simp⟩
  stop := fun H e => ⟨vs, same_sqT e h, by rw [r.len]; exact Nat.le_refl _⟩
  yld := fun i H x H' e hi y => by
    obtain ⟨rfl, y⟩ := y
    have hx := y vs (same_sqT e h)
    have hd : l[i]? = some l[i] := by simp [hi]
    obtain ⟨v, hv, rv⟩ := r.get hd
    rw [hx] at hv
    cases hv
    exact ⟨_, hd, .inl ⟨rfl, rv⟩⟩
theorem wk_str {x : Str} : Wk K M (Its x) (x.cps.toList.map fun c => D.str ⟨#[c]⟩) F where
  go := fun i H e h => by
    rw [List.length_map, Array.length_toList] at h
    exact h
  stop := fun H e => by
    show x.cps.size ≤ _
    rw [List.length_map, Array.length_toList]
    exact Nat.le_refl _
  yld := fun i H v H' e h y => by
    obtain ⟨rfl, c, hc, rfl⟩ := y
    refine ⟨.str ⟨#[c]⟩, ?_, .inl ⟨rfl, .str _⟩⟩
    rw [List.getElem?_map, Array.getElem?_toList, hc] <;> rfl
theorem wk_rng {lo hi : Int} : Wk K M (Itr lo (hi - lo).toNat) (rgD lo hi) F where
  go := fun i H e h => by
    unfold rgD at h
    rw [List.length_map, List.length_range] at h
    exact h
  stop := fun H e => by
    show (hi - lo).toNat ≤ _
    unfold rgD
    rw [List.length_map, List.length_range]
    exact Nat.le_refl _
  yld := fun i H x H' e h y => by
    obtain ⟨rfl, rfl⟩ := y
    have h' : i < (hi - lo).toNat := by
      unfold rgD at h
      rw [List.length_map, List.length_range] at h
      exact h
    refine ⟨.int (lo + i), ?_, .inl ⟨rfl, .int _⟩⟩
    unfold rgD
    rw [List.getElem?_map, List.getElem?_range h']
    rfl
end
section
variable (K : PySem.W.Frag) (M : Nm) (Γ : Ctx) (call : Nat → List (D × Bool) → CRes)
def TIt (it : PL.Src) : TI := fun σ H R => ∃ F ext xv env, Sta K M F H (ext ++ env) (xv ++ σ) ∧ ext.length = xv.length ∧
  match evi Γ call it env with
  | .ok ds env' => ∀ J F' H', Same F F' → Sta K M F' H' (ext ++ env') (xv ++ σ) → Wk K M J ds F' → R J H'
  | _ => False
end
section
variable {X : Cx} {M : Nm} {T : Ns} {L : Lk} {Γ : Ctx} {call : Nat → List (D × Bool) → CRes} {N : List Str} {sc so : Scope} {k : Nat} {W : WX} {io : Bool} {v0 : Option V}

theorem i_bind {α : Type} {r : Res α} {f : α → PL.Fm → Res (List D)} {P : List D → PL.Fm → Prop} (h : match r.bind f with | .ok ds e => P ds e | _ => False) : ∃ a e, r = .ok a e ∧ match f a e with | .ok ds e => P ds e | _ => False := by
  cases r with
  | ok a e => exact ⟨a, e, rfl, h⟩
  | exc x e => exact h.elim
  | err => exact h.elim
theorem i_seq {tg : Expr} {e : E} {x : Expr} (ha : PE X x ((TEv X.K M Γ call W) e)) : PI X tg x ((TIt X.K M Γ call) (.seq e)) := by
  refine ⟨fun pins s σ H R I h => ?_⟩
  obtain ⟨F, ext, xv, env, st, hl, post⟩ := h
  simp only [evi] at post
  obtain ⟨r, e1, h1, post⟩ := i_bind post
  obtain ⟨d, o⟩ := r
  cases d <;> simp only at post <;> try exact post.elim
  · refine (pi_str ha).run pins s σ H R I (T_sub st hl h1 fun v F1 H1 s1 r1 st1 => ?_)
    cases rep_str r1
    exact ⟨_, rfl, post _ F1 H1 s1 st1 wk_str⟩
  · refine (pi_tup ha).run pins s σ H R I (T_sub st hl h1 fun v F1 H1 s1 r1 st1 => ?_)
    obtain ⟨a, ws, rfl, h2, z2, r2⟩ := rep_tup r1
    exact ⟨a, rfl, ⟨ws, same_sqT st1.same h2⟩, post _ F1 H1 s1 st1 (wk_tup h2 r2)⟩
  · refine (pi_list ha).run pins s σ H R I (T_sub st hl h1 fun v F1 H1 s1 r1 st1 => ?_)
    obtain ⟨a, ws, rfl, h2, z2, r2⟩ := rep_lst r1
    exact ⟨a, rfl, ⟨ws, .inl (.inl (st1.same _ _ h2))⟩, post _ F1 H1 s1 st1 (wk_list (.inl (.inl h2)) r2)⟩
theorem i_rng1 (C : XC X M T L Γ call N sc so k W) {tg : Expr} {e : E} {x : Expr} {p pos : Pos} (hg : glB sc "range" = true) (hm : X.mg "range" = none) (ha : PE X x ((TEv X.K M Γ call W) e)) (hp : plain x = true) : PI X tg (.Call (.Name "range" p) [x] [] pos) ((TIt X.K M Γ call) (.rng1 e)) := by
  refine (pi_range1 (gl_of (by rw [C.scp]; exact hg)) hm (pa_cons ha pa_nil (plain_star hp)) (plain_star hp)).imp fun σ H R h => ?_
  obtain ⟨F, ext, xv, env, st, hl, post⟩ := h
  simp only [evi] at post
  obtain ⟨r, e1, h1, post⟩ := i_bind post
  obtain ⟨d, o⟩ := r
  cases d <;> simp only at post <;> try exact post.elim
  rename_i n
  by_cases hn : -100000000 ≤ n ∧ n ≤ 100000000
  · rw [if_pos hn] at post
    refine T_sub st hl h1 fun v F1 H1 s1 r1 st1 => ?_
    cases rep_int r1
    refine ⟨n, rfl, by omega, by omega, ?_⟩
    have q := wk_rng (K := X.K) (M := M) (F := F1) (lo := 0) (hi := n)
    rw [Int.sub_zero] at q
    exact post _ F1 H1 s1 st1 q
  · rw [if_neg hn] at post
    exact post.elim
theorem i_rng2 (C : XC X M T L Γ call N sc so k W) {tg : Expr} {a b : E} {x y : Expr} {p pos : Pos} (hg : glB sc "range" = true) (hm : X.mg "range" = none) (ha : PE X x ((TEv X.K M Γ call W) a)) (hb : PE X y ((TEv X.K M Γ call W) b)) (hp : plain x = true) (hq : plain y = true) :
    PI X tg (.Call (.Name "range" p) [x, y] [] pos) ((TIt X.K M Γ call) (.rng2 a b)) := by
  have e2 : starEach [y] X.env = [(false, eval y X.env)] := plain_star hq
  have e1 : starEach [x, y] X.env = [(false, eval x X.env), (false, eval y X.env)] := by
    rw [plain_star hp, e2]
  refine (pi_range2 (gl_of (by rw [C.scp]; exact hg)) hm (pa_cons ha (pa_cons hb pa_nil (plain_star hq)) (plain_star hp)) e1 e2).imp fun σ H R h => ?_
  obtain ⟨F, ext, xv, env, st, hl, post⟩ := h
  simp only [evi] at post
  obtain ⟨r, e1, h1, post⟩ := i_bind post
  obtain ⟨r', e2, h2, post⟩ := i_bind post
  obtain ⟨d, o⟩ := r
  obtain ⟨d', o'⟩ := r'
  cases d <;> cases d' <;> simp only at post <;> try exact post.elim
  rename_i n _ m
  by_cases hn : -100000000 ≤ n ∧ n ≤ 100000000 ∧ -100000000 ≤ m ∧ m ≤ 100000000
  · rw [if_pos hn] at post
    refine T_sub st hl h1 fun v F1 H1 s1 r1 st1 => T_sub st1 hl h2 fun w F2 H2 s2 r2 st2 => ?_
    cases rep_int r1
    cases rep_int r2
    exact ⟨n, m, rfl, ⟨by omega, by omega, by omega, by omega⟩, post _ F2 H2 (s1.trans s2) st2 wk_rng⟩
  · rw [if_neg hn] at post
    exact post.elim
/-- for .. in .. -/
theorem x_for (C : XC X M T L Γ call N sc so k W) {it : PL.Src} {tg : Tg} {b : Ss} {t x : Expr} {p : List Stmt} {pos : Pos} (hp : PassesOwn (model X.prog X.w) X.A X.env X.xe) (hi : PI X t x ((TIt X.K M Γ call) it)) (hg : mT N so tg t = true) (hb : PSs X p ((TSs X.K M Γ call io v0 W) b)) (hs : plain x = true) :
    PS X (.For t x p [] pos) ((TSt X.K M Γ call io v0 W) (.for it tg b)) := by
  have fo : ∀ v, foldedSetIterable x X.env v = pure v := fun v => by
    cases x <;> first | rfl | (simp [plain] at hs; done)
  refine (ps_for hp C.calm hi (g_of C hg) hb fo).imp fun D σ H h => ?_
  obtain ⟨F, ext, xv, env, st, hl, pn, post⟩ := h
  simp only [ex] at post
  obtain ⟨ds, e1, h1, post⟩ := postS_flN post
  refine ⟨F, ext, xv, env, st, hl, ?_⟩
  rw [h1]
  intro J F1 H1 s1 st1 wk
  refine ⟨fun i m σ' H' => m = ds.length - i ∧ i ≤ ds.length ∧ ∃ F' env', Same F1 F' ∧ Sta X.K M F' H' (ext ++ env') (xv ++ σ') ∧ Pin io v0 σ' ∧ PostS X.K M io v0 W F ext xv D (forF (fun d e => bnd io tg (d, false) e) (fun e => exs Γ call io b e) (ds.drop i) env'),
    ⟨_, rfl, Nat.zero_le _, F1, e1, Same.refl _, st1, pn, by rw [List.drop_zero]; exact post⟩, ?_⟩
  rintro i m σ' H' ⟨rfl, hi, F', env', s', st', pn', post'⟩
  have sFH : Same F1 H' := s'.trans st'.same
  by_cases hlt : i < ds.length
  · refine .inr ⟨wk.go i H' sFH hlt, fun σ2 H2 => i + 1 ≤ ds.length ∧ ∃ F2 env2, Same F1 F2 ∧ Sta X.K M F2 H2 (ext ++ env2) (xv ++ σ2) ∧ Pin io v0 σ2 ∧ PostS X.K M io v0 W F ext xv D (forF (fun d e => bnd io tg (d, false) e) (fun e => exs Γ call io b e) (ds.drop (i + 1)) env2),
      fun σ2 H2 ⟨hn, q⟩ => ⟨ds.length - (i + 1), by omega, rfl, hn, q⟩, fun y H2 hy => ?_⟩
    obtain ⟨d, hd, hh⟩ := wk.yld i H' y H2 sFH hlt hy
    have hdr : ds.drop i = d :: ds.drop (i + 1) := by
      have e := List.getElem?_eq_some_iff.mp hd
      rw [List.drop_eq_getElem_cons hlt, e.2]
    rw [hdr] at post'
    -- the item stands
    have item : ∃ F2, Same F1 F2 ∧ Same F' F2 ∧ Sta X.K M F2 H2 (some (d, false) :: (ext ++ env')) (some y :: (xv ++ σ')) := by
      rcases hh with ⟨rfl, rd⟩ | ⟨Ta, v, w, a, c, rfl, hT, rfl, rfl, ra, rc⟩
      · exact ⟨F', s', Same.refl _, st'.push (rd.mono s')⟩
      · have sn := st'.new (ob := .tup [v, w]) hT
        have sf : Same F' (upd F' Ta (.tup [v, w])) := same_new (st'.free hT)
        exact ⟨_, s'.trans sf, sf, sn.push (.tup (.inl (.inl upd_same)) (by show 2 ≤ LIM; decide) (.cons ((ra.mono s').mono sf) (.cons ((rc.mono s').mono sf) .nil)))⟩
    obtain ⟨F2, s2, s2', st2⟩ := item
    simp only [forF] at post'
    split at post'
    · rename_i env1 hb1
      refine bnd_ok hl st2 pn' hb1 fun F3 σ3 s3 st3 p3 => ?_
      refine ⟨F3, ext, xv, env1, st3, hl, p3, ?_⟩
      cases hx : exs Γ call io b env1 with
      | nx e2 =>
        rw [hx] at post'
        exact fun F4 H4 σ4 s4 st4 p4 => ⟨hlt, F4, e2, (s2.trans s3).trans s4, st4, p4, post'⟩
      | rt r e2 =>
        rw [hx] at post'
        exact postS_mono (s1.trans (s2.trans s3)) post'
      | exc z e2 =>
        rw [hx] at post'
        exact postS_mono (s1.trans (s2.trans s3)) post'
      | err =>
        rw [hx] at post'
        exact post'.elim
    · exact post'.elim
  · have e : i = ds.length := by omega
    subst e
    rw [List.drop_length] at post'
    exact .inl ⟨wk.stop H' sFH, post' F' H' σ' (s1.trans s') st' pn'⟩
end
end PL
/-! PLLc: comprehensions; zip and enumerate as what is walked. -/
namespace PL
open PySem PySem.Spec PyProof.Rows L2

theorem wipe_get (σ : L2.St) : ∀ (L : List Nat) (j : Nat), (wipe σ L)[j]? = if j ∈ L ∧ j < σ.length then some none else σ[j]?
  | [], j => by simp [wipe]
  | v :: L, j => by
    unfold wipe
    by_cases e : v = j
    · subst e
      by_cases h : v < σ.length
      · rw [List.getElem?_set_self (by rw [wipe_length]; exact h)]
        simp [h]
      · rw [List.getElem?_eq_none (by rw [List.length_set, wipe_length]; omega)]
        simp [h]
    · rw [List.getElem?_set_ne e, wipe_get σ L j]
      have : j ∈ v :: L ↔ j ∈ L := by simp [Ne.symm e]
      simp [this]
theorem wipe_set (σ : L2.St) {L : List Nat} {i : Nat} (x : Option V) (h : i ∈ L) : wipe (σ.set i x) L = wipe σ L := by
  apply List.ext_getElem?
  intro j
  rw [wipe_get, wipe_get, List.length_set]
  by_cases e : j ∈ L ∧ j < σ.length
  · rw [if_pos e, if_pos e]
  · rw [if_neg e, if_neg e]
    by_cases q : i = j
    · subst q
      have : ¬ i < σ.length := fun z => e ⟨h, z⟩
      rw [List.getElem?_eq_none (by rw [List.length_set]; omega), List.getElem?_eq_none (by omega)]
    · rw [List.getElem?_set_ne q]
theorem wipe_wipe (σ : L2.St) (L : List Nat) : wipe (wipe σ L) L = wipe σ L := by
  apply List.ext_getElem?
  intro j
  rw [wipe_get, wipe_length, wipe_get]
  by_cases e : j ∈ L ∧ j < σ.length
  · rw [if_pos e, if_pos e]
  · rw [if_neg e]
theorem gNs_wipe {L : List Nat} {R : L2.St → Hp → Prop} {H : Hp} {w : L2.St} : ∀ {is : List Nat} {vs : List V} {σ : L2.St}, (∀ i ∈ is, i ∈ L) → wipe σ L = w → gNs is vs σ H R → gNs is vs σ H fun σ2 H2 => wipe σ2 L = w ∧ R σ2 H2
  | [], vs, σ, _, e, h => by
    obtain ⟨a, b⟩ := h
    exact ⟨a, e, b⟩
  | i :: is, vs, σ, hm, e, h => by
    obtain ⟨x, r, e1, h⟩ := h
    refine ⟨x, r, e1, ?_⟩
    have q : gNs is r (σ.set i (some x)) H R := h
    exact gNs_wipe (is := is) (fun j hj => hm j (by simp [hj])) (by rw [wipe_set σ _ (hm i (by simp))]; exact e) q
theorem gOf_wipe {K : PySem.W.Frag} {tg : Tg} {v : V} {σ : L2.St} {H : Hp} {R : L2.St → Hp → Prop} (h : gOf K tg v σ H R) : gOf K tg v σ H fun σ2 H2 => wipe σ2 tg.ixs = wipe σ tg.ixs ∧ R σ2 H2 := by
  cases tg with
  | one i => exact ⟨wipe_set σ _ (by simp [Tg.ixs]), h⟩
  | many is =>
    obtain ⟨a, ws, e1, e2, e3, h⟩ := h
    exact ⟨a, ws, e1, e2, e3, gNs_wipe (fun i hi => hi) rfl h⟩

section
variable {K : PySem.W.Frag} {M : Nm} {F H : Hp}
theorem RepE.setv : ∀ {es : List Sl} {vs : List (Option V)} {fp : List Addr} {i : Nat} {w : Option V}, RepE K M F H es vs fp → (∀ p, es[i]? ≠ some (some p)) → RepE K M F H es (vs.set i w) fp
  | _, _, _, _, _, .nil, _ => .nil
  | _, _, _, 0, _, .skip r, _ => .skip r
  | _, _, _, i + 1, _, .skip r, h => .skip (RepE.setv (i := i) r fun p => by simpa using h p)
  | _, _, _, 0, _, .slot _ _, h => by
    exact ((h _) rfl).elim
  | _, _, _, i + 1, _, .slot q r, h => .slot q (RepE.setv (i := i) r fun p => by simpa using h p)
theorem Sta.setv {es : List Sl} {vs : List (Option V)} {i : Nat} {w : Option V} (h : Sta K M F H es vs) (hi : ∀ p, es[i]? ≠ some (some p)) : Sta K M F H es (vs.set i w) := by
  obtain ⟨fp, r, n, f, e⟩ := h
  exact ⟨fp, r.setv hi, n, f, e⟩
theorem sta_wipe1 {A : List Sl} {B : List (Option V)} {env : PL.Fm} {σ : L2.St} {v : Nat} (st : Sta K M F H (A ++ env) (B ++ σ)) (hl : A.length = B.length) : Sta K M F H (A ++ env.set v none) (B ++ σ.set v none) := by
  have q := (st.wipe (i := A.length + v)).setv (i := A.length + v) (w := none) (by
    intro p
    by_cases h : A.length + v < (A ++ env).length
    · rw [List.getElem?_set_self h]
      simp
    · rw [List.getElem?_eq_none (by rw [List.length_set]; omega)]
      simp)
  rw [set_app, hl, set_app] at q
  exact q
theorem sta_wip {A : List Sl} {B : List (Option V)} {env : PL.Fm} {σ : L2.St} (st : Sta K M F H (A ++ env) (B ++ σ)) (hl : A.length = B.length) : ∀ L : List Nat, Sta K M F H (A ++ wip env L) (B ++ wipe σ L)
  | [] => st
  | v :: L => by
    have q := sta_wipe1 (v := v) (sta_wip st hl L) hl
    exact q
theorem sta_frs {A : List Sl} {B : List (Option V)} {env : PL.Fm} {σ : L2.St} (st : Sta K M F H (A ++ env) (B ++ σ)) (hl : A.length = B.length) : ∀ L : List Nat,
    ∃ F', Same F F' ∧ Sta K M F' H (A ++ frs env L) (B ++ σ) ∧ ∀ v ∈ L, ∀ d o, (frs env L)[v]? = some (some (d, o)) → o = false ∧ ∃ w, σ[v]? = some (some w) ∧ Rep K M F' d w
  | [] => ⟨F, Same.refl F, st, fun v h => by simp at h⟩
  | v :: L => by
    obtain ⟨F', s, st', k⟩ := sta_frs st hl L
    by_cases hv : ∃ d o, (frs env L)[v]? = some (some (d, o))
    · obtain ⟨d, o, e⟩ := hv
      obtain ⟨F2, w, s2, hw, r, st2⟩ := sta_settle st' hl e
      have e2 : frs env (v :: L) = (frs env L).set v (some (d, false)) := by
        simp only [frs]
        rw [e]
      rw [e2]
      refine ⟨F2, s.trans s2, st2, fun j hj d' o' e' => ?_⟩
      by_cases q : v = j
      · subst q
        rw [List.getElem?_set_self (List.getElem?_eq_some_iff.mp e).1] at e'
        cases e'
        exact ⟨rfl, w, hw, r⟩
      · rw [List.getElem?_set_ne q] at e'
        obtain ⟨a, w', b, c⟩ := k j (by simpa [Ne.symm q] using hj) d' o' e'
        exact ⟨a, w', b, c.mono s2⟩
    · have e2 : frs env (v :: L) = frs env L := by
        simp only [frs]
        split
        · rename_i d o e
          exact (hv ⟨d, o, e⟩).elim
        · rfl
      rw [e2]
      refine ⟨F', s, st', fun j hj d' o' e' => ?_⟩
      by_cases q : v = j
      · subst q
        exact (hv ⟨d', o', e'⟩).elim
      · exact k j (by simpa [Ne.symm q] using hj) d' o' e'
theorem set_comm' {α : Type} {l : List α} {i j : Nat} {x y : α} (h : i ≠ j) : (l.set i x).set j y = (l.set j y).set i x := List.set_comm x y h
theorem rst_set {e old : PL.Fm} {v : Nat} {x : Sl} : ∀ {L : List Nat}, v ∉ L → rst (e.set v x) old L = (rst e old L).set v x
  | [], _ => rfl
  | u :: L, h => by
    simp only [List.mem_cons, not_or] at h
    show (rst (e.set v x) old L).set u _ = ((rst e old L).set u _).set v x
    rw [rst_set h.2, set_comm' h.1]
/-- back to what stood ahead -/
theorem sta_rst {F0 : Hp} {A : List Sl} {B : List (Option V)} {old : PL.Fm} {σ : L2.St} (s : Same F0 F) (hl : A.length = B.length) (ho : old.length = σ.length) : ∀ {L : List Nat} {e : PL.Fm}, L.Nodup → (∀ v ∈ L, ∀ d o, old[v]? = some (some (d, o)) → o = false ∧ ∃ w, σ[v]? = some (some w) ∧ Rep K M F0 d w) →
    Sta K M F H (A ++ e) (B ++ wipe σ L) → Sta K M F H (A ++ rst e old L) (B ++ σ)
  | [], e, _, _, st => st
  | v :: L, e, nd, k, st => by
    obtain ⟨nv, nd⟩ := List.nodup_cons.mp nd
    have k' : ∀ u ∈ L, ∀ d o, old[u]? = some (some (d, o)) → o = false ∧ ∃ w, σ[u]? = some (some w) ∧ Rep K M F0 d w := fun u hu => k u (by simp [hu])
    have hlen := st.len
    rw [List.length_append, List.length_append, wipe_length] at hlen
    -- the slot v is put back
    have step : Sta K M F H (A ++ e.set v (old[v]?.getD none)) (B ++ wipe σ L) := by
      by_cases hv : ∃ d o, old[v]? = some (some (d, o))
      · obtain ⟨d, o, q⟩ := hv
        obtain ⟨rfl, w, hw, r⟩ := k v (by simp) d o q
        have q1 := sta_put (i := v) (st.push (r.mono s)) hl
        have e1 : (wipe σ (v :: L)).set v (some w) = wipe σ L := by
          apply List.ext_getElem?
          intro j
          show ((((wipe σ L).set v none).set v (some w))[j]?) = _
          rw [List.set_set]
          by_cases z : v = j
          · subst z
            have hv2 : v < σ.length := (List.getElem?_eq_some_iff.mp hw).1
            rw [List.getElem?_set_self (by rw [wipe_length]; exact hv2), wipe_get, if_neg (fun z => nv z.1), hw]
          · rw [List.getElem?_set_ne z]
        rw [e1] at q1
        rw [q]
        exact q1
      · have e0 : old[v]?.getD none = none := by
          cases q : old[v]? with
          | none => rfl
          | some z =>
            cases z with
            | none => rfl
            | some p => exact (hv ⟨p.1, p.2, q⟩).elim
        rw [e0]
        have q1 := st.wipe (i := A.length + v)
        rw [set_app] at q1
        have q2 := q1.setv (i := A.length + v) (w := (wipe σ L)[v]?.getD none) (by
          intro p
          rw [← set_app]
          by_cases h : A.length + v < (A ++ e).length
          · rw [List.getElem?_set_self h]
            simp
          · rw [List.getElem?_eq_none (by rw [List.length_set]; omega)]
            simp)
        rw [hl, set_app] at q2
        have e1 : (wipe σ (v :: L)).set v ((wipe σ L)[v]?.getD none) = wipe σ L := by
          show ((wipe σ L).set v none).set v _ = _
          rw [List.set_set]
          cases z : (wipe σ L)[v]? with
          | none =>
            rw [List.set_eq_of_length_le]
            exact List.getElem?_eq_none_iff.mp z
          | some y => exact set_same_of z
        rw [e1] at q2
        exact q2
    have fin := sta_rst s hl ho nd k' step
    rw [rst_set nv] at fin
    exact fin
end
section
variable {X : Cx} {M : Nm} {T : Ns} {L : Lk} {Γ : Ctx} {call : Nat → List (D × Bool) → CRes} {N : List Str} {sc so : Scope} {k : Nat} {W : WX}
theorem xc_blk (C : XC X M T L Γ call N sc so k W) {scope : Scope} {own : List (Str × Nat)} (ok : BlkOk N sc scope own) (s : Shared) (H : Hp) (c : Addr) (cl : List (Str × Addr)) (fp : List Addr) (hnl : lamB T (relS scope sc) = false) :
    XC (X.blk s H scope (compEnvC scope cl c X.env) fp) M T L Γ call N (relS scope sc) scope k WF where
  hN := C.hN
  nd := C.nd
  scp := by
    rw [← C.scp]
    rfl
  kind := ok.kind
  sto := fun x hx => by
    have q : ∀ kd : NameKind, kd ≠ .free → scope.names.lookup x = some kd → (relS scope X.env.scope).names.lookup x = some kd := fun kd h e => lookup_relS_keep h e
    unfold stoB at hx
    split at hx
    · rename_i e
      have q1 := q _ (by decide) e
      exact ⟨.inl q1, .inr q1⟩
    · rename_i e
      have q1 := q _ (by decide) e
      refine ⟨.inr q1, .inl ?_⟩
      show (scope.names.lookup x == some NameKind.cell) = true
      rw [e]
      rfl
    · cases hx
  calm := C.calm
  own := .never
  tk := takes0
  room := C.room
  top := C.top
  ar := C.ar
  fns := C.fns
  lam := fun z => by
    rw [hnl] at z
    cases z
/-- what is walked, with its pairs -/
theorem wk_zip {K : PySem.W.Frag} {F : Hp} {b1 b2 : Bool} {a1 a2 : Addr} {l m : List D} {vs ws : List V} (h1 : SqA K b1 F a1 vs) (h2 : SqA K b2 F a2 ws) (m1 : ∀ H, Same F H → SqA K b1 H a1 vs) (m2 : ∀ H, Same F H → SqA K b2 H a2 ws) (r1 : Reps K M F l vs) (r2 : Reps K M F m ws) :
    Wk K M (JZ K b1 b2 a1 a2) (l.zipWith (fun a b => .tup [a, b]) m) F where
  go := fun i H e hi => ⟨vs, ws, m1 H e, m2 H e, by rw [List.length_zipWith, r1.len, r2.len] at hi; exact hi⟩
  stop := fun H e => ⟨vs, ws, m1 H e, m2 H e, by rw [List.length_zipWith, r1.len, r2.len]⟩
  yld := fun i H x H' e hi y => by
    obtain ⟨Ta, v, w, rfl, hT, rfl, y1, y2⟩ := y
    rw [List.length_zipWith] at hi
    have e1 : l[i]? = some l[i] := by simp
    have e2 : m[i]? = some m[i] := by simp
    obtain ⟨v', hv, rv⟩ := r1.get e1
    obtain ⟨w', hw, rw'⟩ := r2.get e2
    rw [y1 _ (m1 H e)] at hv
    rw [y2 _ (m2 H e)] at hw
    cases hv
    cases hw
    refine ⟨.tup [l[i], m[i]], ?_, .inr ⟨Ta, v, w, _, _, rfl, hT, rfl, rfl, rv, rw'⟩⟩
    rw [List.getElem?_zipWith, e1, e2]
theorem wk_enm {K : PySem.W.Frag} {F : Hp} {b : Bool} {a : Addr} {l : List D} {vs : List V} (m1 : ∀ H, Same F H → SqA K b H a vs) (r1 : Reps K M F l vs) : Wk K M (JE K b a) ((rgD 0 l.length).zipWith (fun a b => .tup [a, b]) l) F where
  go := fun i H e hi => ⟨vs, m1 H e, by
    rw [List.length_zipWith] at hi
    have := r1.len
    omega⟩
  stop := fun H e => ⟨vs, m1 H e, by
    rw [List.length_zipWith, ← r1.len]
    unfold rgD
    simp⟩
  yld := fun i H x H' e hi y => by
    obtain ⟨Ta, v, rfl, hT, rfl, y1⟩ := y
    rw [List.length_zipWith] at hi
    have e1 : l[i]? = some l[i] := by simp
    obtain ⟨v', hv, rv⟩ := r1.get e1
    rw [y1 _ (m1 H e)] at hv
    cases hv
    refine ⟨.tup [.int i, l[i]], ?_, .inr ⟨Ta, .int i, v, _, _, rfl, hT, rfl, rfl, .int _, rv⟩⟩
    have e2 : (rgD 0 l.length)[i]? = some (.int i) := by
      unfold rgD
      rw [List.getElem?_map, List.getElem?_range (by omega)]
      simp
    rw [List.getElem?_zipWith, e1, e2]
/-- what a row or a tuple is, for the walk -/
theorem sq_of {K : PySem.W.Frag} {F : Hp} {d : D} {l : List D} {v : V} (h : d = .lst l ∨ d = .tup l) (r : Rep K M F d v) : ∃ b a vs, v = .ref a ∧ (∀ H, Same F H → SqA K b H a vs) ∧ Reps K M F l vs := by
  rcases h with rfl | rfl
  · obtain ⟨a, ws, rfl, h1, _, r1⟩ := rep_lst r
    exact ⟨false, a, ws, rfl, fun H e => .inl (.inl (e _ _ h1)), r1⟩
  · obtain ⟨a, ws, rfl, h1, _, r1⟩ := rep_tup r
    exact ⟨true, a, ws, rfl, fun H e => same_sqT e h1, r1⟩
theorem i_enm (C : XC X M T L Γ call N sc so k W) {elts : List Expr} {kk : Nat} {tp : Pos} {e : E} {x : Expr} {p pos : Pos} (hg : glB sc "enumerate" = true) (ha : PE X x ((TEv X.K M Γ call W) e)) (hp : plain x = true) : PI X (.Tuple elts kk tp) (.Call (.Name "enumerate" p) [x] [] pos) ((TIt X.K M Γ call) (.enm e)) := by
  refine (pi_E (gl_of (by rw [C.scp]; exact hg)) C.top.enu (pa_cons ha pa_nil (plain_star hp)) (plain_star hp)).imp fun σ H R h => ?_
  obtain ⟨F, ext, xv, env, st, hl, post⟩ := h
  simp only [evi] at post
  obtain ⟨r, e1, h1, post⟩ := i_bind post
  obtain ⟨d, o⟩ := r
  have go : ∀ l, (d = .lst l ∨ d = .tup l) → (∀ J F' H', Same F F' → Sta X.K M F' H' (ext ++ e1) (xv ++ σ) → Wk X.K M J ((rgD 0 l.length).zipWith (fun a b => .tup [a, b]) l) F' → R J H') → TEv X.K M Γ call W e σ H fun v H1 => ∃ b a xs, [v] = [V.ref a] ∧ SqA X.K b H1 a xs ∧ R (JE X.K b a) H1 := fun l hd post => by
    refine T_sub st hl h1 fun v F1 H1 s1 r1 st1 => ?_
    obtain ⟨b, a, vs, rfl, m1, r2⟩ := sq_of hd r1
    exact ⟨b, a, vs, rfl, m1 _ st1.same, post _ F1 H1 s1 st1 (wk_enm m1 r2)⟩
  cases d <;> simp only at post <;> try exact post.elim
  · exact go _ (.inr rfl) post
  · exact go _ (.inl rfl) post
theorem i_zip (C : XC X M T L Γ call N sc so k W) {elts : List Expr} {kk : Nat} {tp : Pos} {a b : E} {x y : Expr} {p pos : Pos} (hg : glB sc "zip" = true) (ha : PE X x ((TEv X.K M Γ call W) a)) (hb : PE X y ((TEv X.K M Γ call W) b)) (hp : plain x = true) (hq : plain y = true) :
    PI X (.Tuple elts kk tp) (.Call (.Name "zip" p) [x, y] [] pos) ((TIt X.K M Γ call) (.zip a b)) := by
  have e2 : starEach [y] X.env = [(false, eval y X.env)] := plain_star hq
  refine (pi_Z (gl_of (by rw [C.scp]; exact hg)) C.top.zip (pa_cons ha (pa_cons hb pa_nil (plain_star hq)) (plain_star hp)) (plain_star hp) (stars_none (by simp [hq]))).imp fun σ H R h => ?_
  obtain ⟨F, ext, xv, env, st, hl, post⟩ := h
  simp only [evi] at post
  obtain ⟨r, e1, h1, post⟩ := i_bind post
  obtain ⟨r', e2, h2, post⟩ := i_bind post
  obtain ⟨d, o⟩ := r
  obtain ⟨d', o'⟩ := r'
  have go : ∀ l m, (d = .lst l ∨ d = .tup l) → (d' = .lst m ∨ d' = .tup m) → (∀ J F' H', Same F F' → Sta X.K M F' H' (ext ++ e2) (xv ++ σ) → Wk X.K M J (l.zipWith (fun a b => .tup [a, b]) m) F' → R J H') →
      TEv X.K M Γ call W a σ H fun v H1 => TEv X.K M Γ call W b σ H1 fun w H2 => ∃ b1 b2 a1 a2 xs ys, [v, w] = [V.ref a1, V.ref a2] ∧ SqA X.K b1 H2 a1 xs ∧ SqA X.K b2 H2 a2 ys ∧ R (JZ X.K b1 b2 a1 a2) H2 := fun l m hd hd' post => by
    refine T_sub st hl h1 fun v F1 H1 s1 r1 st1 => T_sub st1 hl h2 fun w F2 H2 s2 r2 st2 => ?_
    obtain ⟨b1, a1, vs, rfl, m1, q1⟩ := sq_of hd (r1.mono s2)
    obtain ⟨b2, a2, ws, rfl, m2, q2⟩ := sq_of hd' r2
    exact ⟨b1, b2, a1, a2, vs, ws, rfl, m1 _ st2.same, m2 _ st2.same, post _ F2 H2 (s1.trans s2) st2 (wk_zip (m1 _ (Same.refl _)) (m2 _ (Same.refl _)) m1 m2 q1 q2)⟩
  cases d <;> cases d' <;> simp only at post <;> try exact post.elim
  · exact go _ _ (.inr rfl) (.inr rfl) post
  · exact go _ _ (.inr rfl) (.inl rfl) post
  · exact go _ _ (.inl rfl) (.inr rfl) post
  · exact go _ _ (.inl rfl) (.inl rfl) post
/-- a comprehension's tests -/
def ttC (K : PySem.W.Frag) (M : Nm) (Γ : Ctx) (call : Nat → List (D × Bool) → CRes) : O → TT
  | .none => tYes
  | .some c => TTt K M Γ call c
noncomputable def cndF (Γ : Ctx) (call : Nat → List (D × Bool) → CRes) (c : O) (e : PL.Fm) : Res Bool := match c with
          | .none => .ok true e
          | .some c => (ev Γ call c e).bind fun x e => match x.1 with | .bl b => .ok b e | _ => .err
theorem ttC_sub {c : O} {F H : Hp} {ext : List Sl} {xv : List (Option V)} {σ : L2.St} {env e1 : PL.Fm} {b : Bool} {R : Bool → Hp → Prop} (st : Sta X.K M F H (ext ++ env) (xv ++ σ)) (hl : ext.length = xv.length) (h1 : cndF Γ call c env = .ok b e1)
    (k : ∀ F' H', Same F F' → Sta X.K M F' H' (ext ++ e1) (xv ++ σ) → R b H') : ttC X.K M Γ call c σ H R := by
  cases c with
  | none =>
    cases h1
    exact k F H (Same.refl F) st
  | some c =>
    simp only [cndF] at h1
    cases he : ev Γ call c env with
    | ok x e =>
      rw [he] at h1
      obtain ⟨d, o⟩ := x
      cases d <;> simp only [Res.bind_ok, reduceCtorEq] at h1
      cases h1
      exact Tt_sub st hl he k
    | exc x e =>
      rw [he] at h1
      cases h1
    | err =>
      rw [he] at h1
      cases h1
theorem lc_in {it : PL.Src} {tg : Tg} {c : O} {body : E} {σ : L2.St} {H : Hp} {Q : VK} (nd : tg.ixs.Nodup) (h : (TEv X.K M Γ call W) (.lc it tg c body) σ H Q) : tLc ((TIt X.K M Γ call) it) (gOf X.K tg) (ttC X.K M Γ call c) (TEv X.K M Γ call WF body) tg.ixs σ H Q := by
  obtain ⟨F, ext, xv, env, st, hl, post⟩ := h
  simp only [ev] at post
  obtain ⟨items, e1, h1, post⟩ := post_bind post
  refine ⟨F, ext, xv, env, st, hl, ?_⟩
  rw [h1]
  intro J F1 H1 s1 st1 wk Da hD
  obtain ⟨F2, s2, st2, own⟩ := sta_frs st1 hl tg.ixs
  generalize hold : frs e1 tg.ixs = old at *
  have hlo : old.length = σ.length := by
    have := st2.len
    rw [List.length_append, List.length_append] at this
    omega
  have st3 := Sta.newL (l := []) (ws := []) st2 hD .nil (by show 0 ≤ LIM; decide)
  have st4 := sta_wip (A := some (.lst [], true) :: ext) (B := some (.ref Da) :: xv) st3 (by simp [hl]) tg.ixs
  have post : PostE X.K M W F ext xv σ ((lcF (fun d e => bnd false tg (d, false) e) (fun e => wip e tg.ixs) (cndF Γ call c) (fun e => (ev Γ call body e).bind fun x e => .ok x.1 e) items (wip old tg.ixs) []).bind fun ds e => .ok (.lst ds, true) (rst e old tg.ixs)) Q := by
    cases c <;> exact post
  generalize hbd : (fun d e => bnd false tg (d, false) e : D → PL.Fm → Option PL.Fm) = bd at post
  generalize hwp : (fun e => wip e tg.ixs : PL.Fm → PL.Fm) = wp at post
  generalize hby : (fun e => (ev Γ call body e).bind fun x e => .ok x.1 e : PL.Fm → Res D) = by_ at post
  refine ⟨fun i m H' => m = items.length - i ∧ i ≤ items.length ∧ ∃ F' acc env', Same F2 F' ∧ Sta X.K M F' H' (some (.lst acc, true) :: (ext ++ env')) (some (.ref Da) :: (xv ++ wipe σ tg.ixs)) ∧
      PostE X.K M W F ext xv σ ((lcF bd wp (cndF Γ call c) by_ (items.drop i) env' acc).bind fun ds e => .ok (.lst ds, true) (rst e old tg.ixs)) Q,
    ⟨_, rfl, Nat.zero_le _, F2, [], wip old tg.ixs, Same.refl _, st4, post⟩, ?_⟩
  rintro i m H' ⟨rfl, hi, F', acc, env', s', st', post'⟩
  have sFH : Same F1 H' := (s2.trans s').trans st'.same
  by_cases hlt : i < items.length
  · refine .inr ⟨wk.go i H' sFH hlt, fun H2 => i + 1 ≤ items.length ∧ ∃ F' acc env', Same F2 F' ∧ Sta X.K M F' H2 (some (.lst acc, true) :: (ext ++ env')) (some (.ref Da) :: (xv ++ wipe σ tg.ixs)) ∧
      PostE X.K M W F ext xv σ ((lcF bd wp (cndF Γ call c) by_ (items.drop (i + 1)) env' acc).bind fun ds e => .ok (.lst ds, true) (rst e old tg.ixs)) Q,
      fun H2 ⟨hn, q⟩ => ⟨items.length - (i + 1), by omega, rfl, hn, q⟩, fun y H2 hy => ?_⟩
    obtain ⟨d, hd, hh⟩ := wk.yld i H' y H2 sFH hlt hy
    have hdr : items.drop i = d :: items.drop (i + 1) := by
      have e := List.getElem?_eq_some_iff.mp hd
      rw [List.drop_eq_getElem_cons hlt, e.2]
    rw [hdr] at post'
    have item : ∃ F3, Same F2 F3 ∧ Sta X.K M F3 H2 (some (d, false) :: ((some (.lst acc, true) :: ext) ++ env')) (some y :: ((some (.ref Da) :: xv) ++ wipe σ tg.ixs)) := by
      rcases hh with ⟨rfl, rd⟩ | ⟨Ta, v, w, a, c, rfl, hT, rfl, rfl, ra, rc⟩
      · exact ⟨F', s', st'.push (rd.mono (s2.trans s'))⟩
      · have sn := st'.new (ob := .tup [v, w]) hT
        have sf : Same F' (upd F' Ta (.tup [v, w])) := same_new (st'.free hT)
        exact ⟨_, s'.trans sf, sn.push (.tup (.inl (.inl upd_same)) (by show 2 ≤ LIM; decide) (.cons ((ra.mono (s2.trans s')).mono sf) (.cons ((rc.mono (s2.trans s')).mono sf) .nil)))⟩
    obtain ⟨F3, s3, st5⟩ := item
    have hl' : (some (D.lst acc, true) :: ext).length = (some (V.ref Da) :: xv).length := by simp [hl]
    simp only [lcF] at post'
    split at post'
    · rename_i env1 hb1
      rw [← hbd] at hb1
      have g := bnd_ok (io := false) (v0 := none) (R := fun σ2 H2' => ∃ F4, Same F3 F4 ∧ Sta X.K M F4 H2' ((some (.lst acc, true) :: ext) ++ env1) ((some (.ref Da) :: xv) ++ σ2)) hl' st5 (fun z => nomatch z) hb1 fun F4 σ2 s4 st6 _ => ⟨F4, s4, st6⟩
      have g2 := gOf_wipe g
      rw [wipe_wipe] at g2
      have gm : ∀ {R R' : L2.St → Hp → Prop}, (∀ σ2 H2, R σ2 H2 → R' σ2 H2) → ∀ {σ : L2.St} {H : Hp}, gOf X.K tg y σ H R → gOf X.K tg y σ H R' := by
        intro R R' hm σ H h
        have gn : ∀ {is : List Nat} {vs : List V} {σ : L2.St}, gNs is vs σ H R → gNs is vs σ H R' := by
          intro is
          induction is with
          | nil => exact fun ⟨a, b⟩ => ⟨a, hm _ _ b⟩
          | cons i is ih => exact fun ⟨v, r, e, h⟩ => ⟨v, r, e, ih h⟩
        cases tg with
        | one i => exact hm _ _ h
        | many is =>
          obtain ⟨a, ws, q1, q2, q3, h⟩ := h
          exact ⟨a, ws, q1, q2, q3, gn h⟩
      refine gm (fun σ2 H3 hq => ?_) g2
      obtain ⟨hw, F4, s4, st6⟩ := hq
      refine ⟨hw, ?_⟩
      cases hc2 : cndF Γ call c env1 with
      | exc x e =>
        rw [hc2] at post'
        exact post'.elim
      | err =>
        rw [hc2] at post'
        exact post'.elim
      | ok b e2 =>
        rw [hc2] at post'
        simp only [Res.bind_ok] at post'
        refine ttC_sub st6 hl' hc2 fun F5 H5 s5 st7 => ?_
        cases b with
        | false =>
          rw [if_neg Bool.false_ne_true] at post' ⊢
          have st8 := sta_wip st7 hl' tg.ixs
          rw [hw] at st8
          rw [← hwp] at post'
          exact ⟨hlt, F5, acc, _, (s3.trans s4).trans s5, st8, by rw [← hwp]; exact post'⟩
        | true =>
          rw [if_pos rfl] at post' ⊢
          rw [← hby] at post'
          cases hb2 : ev Γ call body e2 with
          | exc x e =>
            simp only [hb2] at post'
            exact post'.elim
          | err =>
            simp only [hb2] at post'
            exact post'.elim
          | ok x e3 =>
            simp only [hb2, Res.bind_ok] at post'
            refine T_sub st7 hl' hb2 fun v F6 H6 s6 r6 st8 => ?_
            by_cases hz : acc.length < LIM
            · rw [if_pos hz] at post'
              obtain ⟨a, ws, ea, ha, z1, r1⟩ := Sta.headL st8
              cases ea
              have hlen := r1.len
              refine ⟨ws, ha, lim_lt (by omega), hlt, F6, acc ++ [x.1], wip e3 tg.ixs, ((s3.trans s4).trans s5).trans s6, ?_, ?_⟩
              · have st9 := Sta.mut (l' := acc ++ [x.1]) st8 (r1.snoc r6) (by rw [List.length_append, List.length_singleton]; omega)
                have st10 := sta_wip (A := some (.lst (acc ++ [x.1]), true) :: ext) (B := some (.ref Da) :: xv) st9 (by simp [hl]) tg.ixs
                rw [hw] at st10
                exact st10
              · rw [← hby]
                rw [← hwp] at post' ⊢
                exact post'
            · rw [if_neg hz] at post'
              exact post'.elim
    · exact post'.elim
  · have e : i = items.length := by omega
    subst e
    rw [List.drop_length] at post'
    refine .inl ⟨wk.stop H' sFH, ?_⟩
    have st5 := sta_rst (F0 := F2) (A := some (.lst acc, true) :: ext) (B := some (.ref Da) :: xv) s' (by simp [hl]) hlo nd own st'
    exact post' _ F' H' ((s1.trans s2).trans s') st5
theorem ownT_map (N : List Str) (is : List Nat) : (ownT N is).map (·.2) = is := by
  unfold ownT
  rw [List.map_map]
  exact List.map_id is
theorem fo_of {x : Expr} {env : PySem.Env} (hs : plain x = true) : ∀ v, foldedSetIterable x env v = pure v := fun v => by
  cases x <;> first | rfl | (simp [plain] at hs; done)
theorem s_lc (C : XC X M T L Γ call N sc so k W) {it : PL.Src} {tg : Tg} {c : O} {body : E} {el t x : Expr} {ifs : List Expr} {scope : Scope} {pos : Pos} (hs : plain x = true) (hi : PI X t x ((TIt X.K M Γ call) it)) (hb : blkC N sc scope (ownT N tg.ixs) = true) (nd : tg.ixs.Nodup) (hnl : lamB T (relS scope sc) = false) (hg : mT N scope tg t = true)
    (ht : ∀ X', XC X' M T L Γ call N (relS scope sc) scope k WF → X'.K = X.K → PTs X' ifs (ttC X'.K M Γ call c)) (he : ∀ X', XC X' M T L Γ call N (relS scope sc) scope k WF → X'.K = X.K → PE X' el (TEv X'.K M Γ call WF body)) :
    PE X (.ListComp el [⟨t, x, ifs, 0⟩] scope pos) ((TEv X.K M Γ call W) (.lc it tg c body)) := by
  have ok := blkOk_by hb
  have ok' : BlkOk X.N X.env.scope scope (ownT N tg.ixs) := by
    rw [C.hN, C.scp]
    exact ok
  refine (pe_lc (own := ownT N tg.ixs) (g := gOf X.K tg) (tt := ttC X.K M Γ call c) (te := TEv X.K M Γ call WF body) C.calm (by rw [C.hN]; exact C.nd) hi ok' (fun s H c' cl fp => ?_) (fun s H c' cl fp => ?_) (fun s H c' cl fp => ?_) (hs := fo_of hs)).imp fun σ H Q h => ?_
  · exact g_of (xc_blk C ok s H c' cl fp hnl) hg
  · exact ht _ (xc_blk C ok s H c' cl fp hnl) rfl
  · exact he _ (xc_blk C ok s H c' cl fp hnl) rfl
  · rw [ownT_map]
    exact lc_in nd h
theorem x_setLc (C : XC X M T L Γ call N sc so k W) {io : Bool} {v0 : Option V} {i : Nat} {y : Str} {py spos : Pos} {it : PL.Src} {tg : Tg} {c : O} {body : E} {el t x : Expr} {ifs : List Expr} {scope : Scope} {pos : Pos} (h1 : N[i]? = some y) (h2 : sc.names.lookup y = some .local) (hln : (py.line == pos.line) = true)
    (hany : (scope.names.any fun (n, k) => n == y && (k == .local || k == .cell)) = false) (hs : plain x = true) (hi : PI X t x ((TIt X.K M Γ call) it)) (hb : blkC N sc scope (ownT N tg.ixs) = true) (nd : tg.ixs.Nodup) (hnl : lamB T (relS scope sc) = false) (hg : mT N scope tg t = true)
    (ht : ∀ X', XC X' M T L Γ call N (relS scope sc) scope k WF → X'.K = X.K → PTs X' ifs (ttC X'.K M Γ call c)) (he : ∀ X', XC X' M T L Γ call N (relS scope sc) scope k WF → X'.K = X.K → PE X' el (TEv X'.K M Γ call WF body)) :
    PS X (.Assign [.Name y py] (.ListComp el [⟨t, x, ifs, 0⟩] scope pos) spos) (TSt X.K M Γ call io v0 W (.asg (.one i) (.lc it tg c body))) := by
  have ok := blkOk_by hb
  have ok' : BlkOk X.N X.env.scope scope (ownT N tg.ixs) := by
    rw [C.hN, C.scp]
    exact ok
  refine (ps_setLc (i := i) (own := ownT N tg.ixs) (g := gOf X.K tg) (tt := ttC X.K M Γ call c) (te := TEv X.K M Γ call WF body) C.calm (by rw [C.hN]; exact C.nd) (by rw [C.hN]; exact h1) (by rw [C.scp]; exact h2)
    (sw_true (by rw [C.scp]; exact C.kind) (by rw [C.scp]; exact h2) hln hany) hi ok' (fun s H c' cl fp => ?_) (fun s H c' cl fp => ?_) (fun s H c' cl fp => ?_) (hs := fo_of hs)).imp fun D σ H h => ?_
  · exact g_of (xc_blk C ok s H c' cl fp hnl) hg
  · exact ht _ (xc_blk C ok s H c' cl fp hnl) rfl
  · exact he _ (xc_blk C ok s H c' cl fp hnl) rfl
  · rw [ownT_map]
    obtain ⟨F, ext, xv, env, st, hl, pn, post⟩ := h
    simp only [ex] at post
    rcases postS_fl post with ⟨r, e1, h1, post⟩ | ⟨x, e1, h1, post⟩
    case inr => exact lc_in (W := W) nd (T_exc st hl pn h1 post)
    split at post
    · rename_i env1 hb
      exact lc_in (W := W) nd (T_keep st hl h1 fun v F1 H1 s1 st1 => bnd_ok (tg := .one i) hl st1 pn hb fun F2 σ2 s2 st2 p2 => post F2 H1 σ2 (s1.trans s2) st2 p2)
    · exact post.elim
end
end PL
/-! PLWrd: what is refused, as a word: the law's own try. -/
namespace PL
open PySem PySem.Spec PyProof.Rows L2

/-! ### how often a flat thing stands in a list -/
def rCntF (K : PySem.W.Frag) : V → List V → Hp → VK → Prop := fun x xs H Q => ∃ (a : Addr) (ys : List V) (y : V), x = .ref a ∧ xs = [y] ∧ SqL K H a ys ∧ flatV y = true ∧ ys.all flatV = true ∧ Q (.int ((ys.countP fun z => eqV z y : Nat) : Int)) H
theorem cnt_vals {y : V} : ∀ {ys : List V} {us : List Value}, Vals ys us → ys.all flatV = true → us.countP (eqU y) = ys.countP fun z => eqV z y
  | _, _, .nil, _ => rfl
  | z :: ys, u :: us, .cons r t, f => by
    rw [List.all_cons, Bool.and_eq_true] at f
    rw [List.countP_cons, List.countP_cons, cnt_vals t f.2, eqU_of r f.1]
theorem mt_countF {X : Cx} : MtR X "list.count" (rCntF X.K) := by
  intro pins s σ H x xs v us Q I rx rxs h
  obtain ⟨a, ys, y, rfl, rfl, hs, fy, fys, q⟩ := h
  cases rx
  cases rxs with
  | cons ry rt =>
    rename_i uy ut
    cases rt
    obtain ⟨its, rv, ⟨⟨cls, dd, data, sl⟩, n, ho, hc, hdn, hd⟩, hlen⟩ := I.list hs
    simp only at hc hd
    subst hc hd
    refine call_meets PySem.F.slot_list_count ⟨_, ho, rfl⟩ PySem.F.entry_list_count (PySem.F.args_list_count_2 _ _)
      (SeqAt.list_countAt a its.toArray n dd sl uy (eqU y)) ⟨ho, fun u' hu' => mem_eqAt ry fy rv fys u' (by simpa using hu'), ?_⟩
    have ec : its.toArray.toList.countP (eqU y) = ys.countP fun z => eqV z y := cnt_vals rv fys
    refine ⟨.int ((ys.countP fun z => eqV z y : Nat) : Int), H, I.tok _, ⟨s.toks, ?_⟩, q⟩
    show Value.int ((its.toArray.toList.countP (eqU y) : Nat) : Int) s.toks = Value.int ((ys.countP fun z => eqV z y : Nat) : Int) s.toks
    rw [ec]

/-! ### the text's own names -/
def wN : List Str := ["BadRows", "BadRight", "BadText", "BadPrime", "BadCount", "NotSquare", "Unfit", "BadPaper"]
def wW : List Str := ["rows", "right", "text", "prime", "count", "square", "unfit", "paper"]
def wX : List Str := ["LiftError", "ValueError", "isinstance"]
def wG (sg : Scope) : Bool := (wN ++ wX).all fun x => decide (sg.names.lookup x = some .globalImplicit)
/-- the classes, as the text's top has them -/
structure WdG (mg : Str → Option Value) (ks : Nat → Addr) (kL : Addr) : Prop where
  m : ∀ i x, wN[i]? = some x → mg x = some (.ref (ks i))
  mL : mg "LiftError" = some (.ref kL)
  mI : mg "isinstance" = none
  mV : mg "ValueError" = none
/-- a class among them: its place -/
structure WdC (K : PySem.W.Frag) (ks : Nat → Addr) (kL : Addr) (D : Addr) (j : Nat) : Prop where
  ec : ExcC K D
  ex : PySem.W.exmOne K (.ref D) (.ref kL) = some true
  kit : ∀ i, i < 8 → PySem.W.kitOne K (.ref D) (.ref (ks i)) = some (decide (i = j))
  kv : PySem.W.kitOne K (.ref D) (.type "ValueError") = some true
  hj : 3 ≤ j ∧ j < 8

/-! ### the handler's statements -/
def IsI (c : Str) (e : Expr) : Prop := ∃ p1 p2 p3 p4, e = .Call (.Name "isinstance" p1) [.Name "e" p2, .Name c p3] [] p4
def IsI2 (e : Expr) : Prop := IsI "ValueError" e
section
variable {X : Cx} {a D : Addr} {oe : Obj} {pn : List (Addr × Obj)} {ks : Nat → Addr} {kL : Addr} {sg : Scope}
theorem g_of_w {x : Str} (hs : X.env.scope = sg) (h : wG sg = true) (hx : x ∈ wN ++ wX) : Gl X x := by
  have q := List.all_eq_true.mp h x hx
  have q := of_decide_eq_true q
  unfold Gl PySem.Env.kindOf
  rw [hs]
  exact q
theorem pe_isx {c : Str} {e : Expr} {v : V} (C : ExcC X.K D) (hz : Zc (.ref D) none oe) (hf : ∃ vs, oe.data = .fields vs) (hi : X.N[1]? = some ("e" : Str)) (hv : Vis X.env.scope "e") (hg : Gl X "isinstance") (hm : X.mg "isinstance" = none)
    (hc : ∀ p, PE (X.suite a ((a, oe) :: pn)) (.Name c p) (tC v)) (h : IsI c e) : PE (X.suite a ((a, oe) :: pn)) e (tCB (rIsE X.K D a) (tCons (tVar 1) (tCons (tC v) tNil))) ∧ plain e = true := by
  obtain ⟨p1, p2, p3, p4, rfl⟩ := h
  refine ⟨pe_callB (call_isE C hz hf) hg hm (by decide +kernel) (pa_cons (pe_var hi hv (by decide) (by decide)) (pa_cons (hc p3) pa_nil (plain_star rfl)) (plain_star rfl)) (by decide) (by decide) (plain_star rfl) (stars_none rfl), rfl⟩
theorem pe_isk (i : Nat) {c : Str} {e : Expr} (hi8 : wN[i]? = some c) (G : WdG X.mg ks kL) (hs : X.env.scope = sg) (hw : wG sg = true) (C : ExcC X.K D) (hz : Zc (.ref D) none oe) (hf : ∃ vs, oe.data = .fields vs) (hi : X.N[1]? = some ("e" : Str)) (hv : Vis X.env.scope "e")
    (h : IsI c e) : PE (X.suite a ((a, oe) :: pn)) e (tCB (rIsE X.K D a) (tCons (tVar 1) (tCons (tC (.ref (ks i))) tNil))) ∧ plain e = true := by
  have hx : c ∈ wN := List.mem_of_getElem? hi8
  have hd : (c == ("__debug__" : Str)) = false := by
    have : ∀ c ∈ wN, (c == ("__debug__" : Str)) = false := by decide +kernel
    exact this c hx
  exact pe_isx C hz hf hi hv (g_of_w hs hw (by decide +kernel)) G.mI (fun p => pe_glob (X := X.suite a ((a, oe) :: pn)) (g_of_w hs hw (List.mem_append_left _ hx)) (G.m i c hi8) rfl hd) h
theorem pe_isv {e : Expr} (G : WdG X.mg ks kL) (hs : X.env.scope = sg) (hw : wG sg = true) (C : ExcC X.K D) (hz : Zc (.ref D) none oe) (hf : ∃ vs, oe.data = .fields vs) (hi : X.N[1]? = some ("e" : Str)) (hv : Vis X.env.scope "e")
    (h : IsI2 e) : PE (X.suite a ((a, oe) :: pn)) e (tCB (rIsE X.K D a) (tCons (tVar 1) (tCons (tC (.ty "ValueError")) tNil))) ∧ plain e = true :=
  pe_isx C hz hf hi hv (g_of_w hs hw (by decide +kernel)) G.mI (fun p => pe_bltn (X := X.suite a ((a, oe) :: pn)) (g_of_w hs hw (by decide +kernel)) G.mV (by decide +kernel) rfl (by decide) (by decide)) h
/-- what isinstance tells -/
theorem isk_run {K : PySem.W.Frag} {D a : Addr} {ks : Nat → Addr} {kL : Addr} {j i : Nat} {σ : L2.St} {H : Hp} {Q : VK} (W : WdC K ks kL D j) (hi : i < 8) (h1 : σ[1]? = some (some (V.ref a))) (q : Q (.bl (decide (i = j))) H) : tCB (rIsE K D a) (tCons (tVar 1) (tCons (tC (.ref (ks i))) tNil)) σ H Q :=
  ⟨_, h1, .ref (ks i), .ref (ks i), _, rfl, fun u r => r, W.kit i hi, q⟩
theorem isv_run {K : PySem.W.Frag} {D a : Addr} {ks : Nat → Addr} {kL : Addr} {j : Nat} {σ : L2.St} {H : Hp} {Q : VK} (W : WdC K ks kL D j) (h1 : σ[1]? = some (some (V.ref a))) (q : Q (.bl true) H) : tCB (rIsE K D a) (tCons (tVar 1) (tCons (tC (.ty "ValueError")) tNil)) σ H Q :=
  ⟨_, h1, .ty "ValueError", .type "ValueError", _, rfl, fun u r => r, W.kv, q⟩
end

/-- the truths, each for a class -/
def bL (j n : Nat) : List V := (List.range n).map fun i => V.bl (decide (i = j))
theorem bL_get {j n i : Nat} (h : i < n) : (bL j n)[i]? = some (.bl (decide (i = j))) := by
  unfold bL
  rw [List.getElem?_map, List.getElem?_range h]
  rfl
theorem bL_flat (j n : Nat) : (bL j n).all flatV = true := by
  rw [List.all_eq_true]
  intro x hx
  obtain ⟨i, _, rfl⟩ := List.mem_map.mp hx
  rfl
theorem bL_one : ∀ j, j < 8 → ((bL j 8).countP fun z => eqV z (.bl true)) = 1 := by decide
abbrev eN : Str := "e"
abbrev kN : Str := "_law_kinds"
abbrev atN : Str := "_law_at"
abbrev whN : Str := "_law_word_here"
structure SuN (X : Cx) (sg : Scope) (ks : Nat → Addr) (kL : Addr) : Prop where
  G : WdG X.mg ks kL
  hs : X.env.scope = sg
  hw : wG sg = true
  nd : X.N.Nodup
  n1 : X.N[1]? = some ("e" : Str)
  n2 : X.N[2]? = some kN
  n3 : X.N[3]? = some atN
  n4 : X.N[4]? = some whN
  l1 : sg.names.lookup eN = some .local
  l2 : sg.names.lookup kN = some .local
  l3 : sg.names.lookup atN = some .local
  l4 : sg.names.lookup whN = some .local
section
variable {X : Cx} {a D : Addr} {oe : Obj} {pn : List (Addr × Obj)} {ks : Nat → Addr} {kL : Addr} {sg : Scope} {j : Nat}
theorem SuN.v (S : SuN X sg ks kL) {x : Str} (h : sg.names.lookup x = some .local) : Vis X.env.scope x := by
  rw [S.hs]
  exact .inl h
theorem SuN.o (S : SuN X sg ks kL) {x : Str} (h : sg.names.lookup x = some .local) : L2.Loc X.env.scope x := by
  rw [S.hs]
  exact .inl h
theorem su_var (S : SuN X sg ks kL) {i : Nat} {x : Str} (hi : X.N[i]? = some x) (h : sg.names.lookup x = some .local) (h1 : (x == ("__debug__" : Str)) = false) (h2 : (x == ("__classdict__" : Str)) = false) (p : Pos) : PE (Cx.suite X a ((a, oe) :: pn)) (.Name x p) (tVar i) :=
  pe_var (X := (Cx.suite X a ((a, oe) :: pn))) hi (S.v h) h1 h2
theorem su_to (S : SuN X sg ks kL) {i : Nat} {x : Str} (hi : X.N[i]? = some x) (h : sg.names.lookup x = some .local) (p : Pos) : PG (Cx.suite X a ((a, oe) :: pn)) (.Name x p) (gName i) :=
  pg_name (X := (Cx.suite X a ((a, oe) :: pn))) S.nd hi (S.o h) (.inr (by show X.env.scope.names.lookup x = some .local; rw [S.hs]; exact h))
def IsS1 (s : Stmt) : Prop := ∃ e0 e1 e2 e3 p q r, s = .Assign [.Name kN p] (.List [e0, e1, e2, e3] q) r ∧ IsI "BadRows" e0 ∧ IsI "BadRight" e1 ∧ IsI "BadText" e2 ∧ IsI "BadPrime" e3
theorem su_1 (S : SuN X sg ks kL) (W : WdC X.K ks kL D j) (hz : Zc (.ref D) none oe) (hf : ∃ vs, oe.data = .fields vs) {s : Stmt} (h : IsS1 s) :
    ∃ t, PS (Cx.suite X a ((a, oe) :: pn)) s t ∧ ∀ E σ H, σ[1]? = some (some (V.ref a)) → (∀ p, H p = none → E.nx (σ.set 2 (some (.ref p))) (upd H p (.lst (bL j 4)))) → t E σ H := by
  obtain ⟨e0, e1, e2, e3, p, q, r, rfl, i0, i1, i2, i3⟩ := h
  obtain ⟨a0, b0⟩ := pe_isk (a := a) (oe := oe) (pn := pn) 0 rfl S.G S.hs S.hw W.ec hz hf S.n1 (S.v S.l1) i0
  obtain ⟨a1, b1⟩ := pe_isk (a := a) (oe := oe) (pn := pn) 1 rfl S.G S.hs S.hw W.ec hz hf S.n1 (S.v S.l1) i1
  obtain ⟨a2, b2⟩ := pe_isk (a := a) (oe := oe) (pn := pn) 2 rfl S.G S.hs S.hw W.ec hz hf S.n1 (S.v S.l1) i2
  obtain ⟨a3, b3⟩ := pe_isk (a := a) (oe := oe) (pn := pn) 3 rfl S.G S.hs S.hw W.ec hz hf S.n1 (S.v S.l1) i3
  refine ⟨_, ps_asg (pe_lst (pa_cons a0 (pa_cons a1 (pa_cons a2 (pa_cons a3 pa_nil (plain_star b3)) (plain_star b2)) (plain_star b1)) (plain_star b0))) (su_to S S.n2 S.l2 p) (swapsSole_no rfl) (stores_no rfl) rfl, fun E σ H h1 hk => ?_⟩
  refine isk_run W (by omega) h1 (isk_run W (by omega) h1 (isk_run W (by omega) h1 (isk_run W (by omega) h1 ?_)))
  exact ⟨by show 4 ≤ sizeLine; decide, fun p hp => hk p hp⟩
def IsS2 (s : Stmt) : Prop := ∃ e0 e1 e2 p p2 q r u, s = .Assign [.Name kN p] (.BinOp (.Name kN p2) .Add (.List [e0, e1, e2] q) u) r ∧ IsI "BadCount" e0 ∧ IsI "NotSquare" e1 ∧ IsI "Unfit" e2
theorem su_2 (S : SuN X sg ks kL) (W : WdC X.K ks kL D j) (hz : Zc (.ref D) none oe) (hf : ∃ vs, oe.data = .fields vs) {s : Stmt} (h : IsS2 s) :
    ∃ t, PS (Cx.suite X a ((a, oe) :: pn)) s t ∧ ∀ E σ H p, σ[1]? = some (some (V.ref a)) → σ[2]? = some (some (V.ref p)) → H p = some (.lst (bL j 4)) →
      (∀ p2 p3, H p2 = none → upd H p2 (.lst [.bl (decide (4 = j)), .bl (decide (5 = j)), .bl (decide (6 = j))]) p3 = none → E.nx (σ.set 2 (some (.ref p3))) (upd (upd H p2 (.lst [.bl (decide (4 = j)), .bl (decide (5 = j)), .bl (decide (6 = j))])) p3 (.lst (bL j 7)))) → t E σ H := by
  obtain ⟨e0, e1, e2, p, p2, q, r, u, rfl, i0, i1, i2⟩ := h
  obtain ⟨a0, b0⟩ := pe_isk (a := a) (oe := oe) (pn := pn) 4 rfl S.G S.hs S.hw W.ec hz hf S.n1 (S.v S.l1) i0
  obtain ⟨a1, b1⟩ := pe_isk (a := a) (oe := oe) (pn := pn) 5 rfl S.G S.hs S.hw W.ec hz hf S.n1 (S.v S.l1) i1
  obtain ⟨a2, b2⟩ := pe_isk (a := a) (oe := oe) (pn := pn) 6 rfl S.G S.hs S.hw W.ec hz hf S.n1 (S.v S.l1) i2
  refine ⟨_, ps_asg (pe_op op_cat (su_var S S.n2 S.l2 (by decide) (by decide) p2) (pe_lst (pa_cons a0 (pa_cons a1 (pa_cons a2 pa_nil (plain_star b2)) (plain_star b1)) (plain_star b0)))) (su_to S S.n2 S.l2 p) (swapsSole_no rfl) (stores_no rfl) rfl, fun E σ H pp h1 h2 h3 hk => ?_⟩
  refine ⟨_, h2, ?_⟩
  refine isk_run W (by omega) h1 (isk_run W (by omega) h1 (isk_run W (by omega) h1 ?_))
  refine ⟨by show 3 ≤ sizeLine; decide, fun p2 hp2 => ⟨pp, p2, bL j 4, _, rfl, rfl, ?_, upd_same, ?_, fun p3 hp3 => hk p2 p3 hp2 hp3⟩⟩
  · rw [upd_ne fun z => by rw [z, hp2] at h3; cases h3]
    exact h3
  · show (bL j 4).length + 3 ≤ sizeLine
    unfold bL
    simp only [List.length_map, List.length_range]
    decide
def IsS3 (s : Stmt) : Prop := ∃ e p ap cp r, s = .Expr (.Call (.Attribute (.Name kN p) "append" ap) [e] [] cp) r ∧ IsI "BadPaper" e ∧ (ap.endLine == cp.line) = true
theorem su_3 (S : SuN X sg ks kL) (W : WdC X.K ks kL D j) (hz : Zc (.ref D) none oe) (hf : ∃ vs, oe.data = .fields vs) {s : Stmt} (h : IsS3 s) :
    ∃ t, PS (Cx.suite X a ((a, oe) :: pn)) s t ∧ ∀ E σ H p, σ[1]? = some (some (V.ref a)) → σ[2]? = some (some (V.ref p)) → H p = some (.lst (bL j 7)) → E.nx σ (upd H p (.lst (bL j 8))) → t E σ H := by
  obtain ⟨e, p, ap, cp, r, rfl, i0, hl⟩ := h
  obtain ⟨a0, b0⟩ := pe_isk (a := a) (oe := oe) (pn := pn) 7 rfl S.G S.hs S.hw W.ec hz hf S.n1 (S.v S.l1) i0
  have few : ((backTo cp (starEach [e] X.env)).all (fun x => !x.1) && (backToKw cp (keywordEach [] X.env)).all (fun x => x.1.isSome) && decide ([e].length + ([] : List Keyword).length + (if ([] : List Keyword).isEmpty then 0 else 1) < 30)) = true := by
    rw [plain_star b0]
    rfl
  refine ⟨_, ps_expr (L2.pe_bm (X := (Cx.suite X a ((a, oe) :: pn))) (T := "list") PySem.F.plainAttrs_list PySem.F.slot_list_append PySem.F.type_list_append (r := rAppend) mt_append (su_var S S.n2 S.l2 (by decide) (by decide) p) (pa_cons a0 pa_nil (plain_star b0)) rfl few hl (plain_star b0) rfl) (by rfl), fun E σ H pp h1 h2 h3 hk => ?_⟩
  refine ⟨_, h2, .inl ⟨rfl, _, .inl (.inl h3)⟩, isk_run W (by omega) h1 ⟨pp, bL j 7, _, rfl, rfl, h3, ?_, ?_⟩⟩
  · unfold bL
    rw [List.length_map, List.length_range]
    decide
  · have e : bL j 8 = bL j 7 ++ [.bl (decide (7 = j))] := by
      unfold bL
      rw [List.range_succ, List.map_append]
      rfl
    rw [← e]
    exact hk
theorem few1 {X : Cx} {e : Expr} {cp : Pos} (h : plain e = true) : ((backTo cp (starEach [e] X.env)).all (fun x => !x.1) && (backToKw cp (keywordEach [] X.env)).all (fun x => x.1.isSome) && decide ([e].length + ([] : List Keyword).length + (if ([] : List Keyword).isEmpty then 0 else 1) < 30)) = true := by
  rw [plain_star h]
  rfl
def IsS4 (s : Stmt) : Prop := ∃ e p ap cp r j1 q1 j2 q2 q3 q4 q5 st, s = .If (.BoolOp .Or [.Compare (.Call (.Attribute (.Name kN p) "count" ap) [.Constant (.bool true) j1 q1] [] cp) [.NotEq] [.Constant (.int 1) j2 q2] q3, .UnaryOp .Not e q4] q5) [st] [] r ∧ IsI2 e ∧ (ap.endLine == cp.line) = true
theorem su_4 (S : SuN X sg ks kL) (W : WdC X.K ks kL D j) (hz : Zc (.ref D) none oe) (hf : ∃ vs, oe.data = .fields vs) {s : Stmt} (h : IsS4 s) :
    ∃ t, PS (Cx.suite X a ((a, oe) :: pn)) s t ∧ ∀ E σ H p, σ[1]? = some (some (V.ref a)) → σ[2]? = some (some (V.ref p)) → H p = some (.lst (bL j 8)) → E.nx σ H → t E σ H := by
  obtain ⟨e, p, ap, cp, r, j1, q1, j2, q2, q3, q4, q5, st, rfl, i0, hl⟩ := h
  have i0' := i0
  obtain ⟨a0, b0⟩ := pe_isv (a := a) (oe := oe) (pn := pn) S.G S.hs S.hw W.ec hz hf S.n1 (S.v S.l1) i0
  obtain ⟨_, _, _, _, rfl⟩ := i0'
  refine ⟨_, ps_if (pw_or (pt_cmpR op_ne (L2.pe_bm (X := (Cx.suite X a ((a, oe) :: pn))) (T := "list") PySem.F.plainAttrs_list PySem.F.slot_list_count PySem.F.type_list_count (r := rCntF X.K) mt_countF (su_var S S.n2 S.l2 (by decide) (by decide) p) (pa_cons pe_bl pa_nil (plain_star rfl)) rfl (few1 rfl) hl (plain_star rfl) rfl) pe_int rfl) (pw_or1 (pt_not (pt_val a0 fun _ => rfl)))).pt (pss_one ps_never) pss_nil, fun E σ H pp h1 h2 h3 hk => ?_⟩
  refine ⟨_, h2, .inl ⟨rfl, _, .inl (.inl h3)⟩, pp, bL j 8, .bl true, rfl, rfl, .inl (.inl h3), rfl, bL_flat _ _, ?_⟩
  rw [bL_one j W.hj.2]
  refine ⟨rfl, false, rfl, ?_⟩
  show (if false = true then _ else _)
  rw [if_neg Bool.false_ne_true]
  exact isv_run W h1 ⟨true, rfl, hk⟩
def IsS5 (s : Stmt) : Prop := ∃ p p2 ap cp j1 q1 r, s = .Assign [.Name atN p] (.Call (.Attribute (.Name kN p2) "index" ap) [.Constant (.bool true) j1 q1] [] cp) r ∧ (ap.endLine == cp.line) = true
theorem su_5 (S : SuN X sg ks kL) (W : WdC X.K ks kL D j) {s : Stmt} (h : IsS5 s) :
    ∃ t, PS (Cx.suite X a ((a, oe) :: pn)) s t ∧ ∀ E σ H p, σ[2]? = some (some (V.ref p)) → H p = some (.lst (bL j 8)) → E.nx (σ.set 3 (some (.int (j : Int)))) H → t E σ H := by
  obtain ⟨p, p2, ap, cp, j1, q1, r, rfl, hl⟩ := h
  refine ⟨_, ps_asg (L2.pe_bm (X := (Cx.suite X a ((a, oe) :: pn))) (T := "list") PySem.F.plainAttrs_list PySem.F.slot_list_index PySem.F.type_list_index (r := rIndex X.K) mt_index (su_var S S.n2 S.l2 (by decide) (by decide) p2) (pa_cons pe_bl pa_nil (plain_star rfl)) rfl (few1 rfl) hl (plain_star rfl) rfl) (su_to S S.n3 S.l3 p) (swapsSole_no rfl) (stores_no rfl) rfl, fun E σ H pp h2 h3 hk => ?_⟩
  refine ⟨_, h2, .inl ⟨rfl, _, .inl (.inl h3)⟩, pp, bL j 8, .bl true, j, _, rfl, rfl, .inl (.inl h3), rfl, bL_flat _ _, bL_get W.hj.2, ?_, fun m z hm hz => ?_, hk⟩
  · show (decide (j = j) == true) = true
    rw [decide_eq_true rfl] <;> rfl
  · have h8 := W.hj.2
    rw [bL_get (by omega)] at hz
    cases hz
    show (decide (m = j) == true) = false
    rw [decide_eq_false (by omega)] <;> rfl
def IsStr (x : Str) (e : Expr) : Prop := ∃ j p, e = .Constant (.str x) j p
def AreStr : List Str → List Expr → Prop
  | [], [] => True
  | x :: xs, e :: es => IsStr x e ∧ AreStr xs es
  | _, _ => False
theorem pa_strs {X : Cx} : ∀ {xs : List Str} {es : List Expr}, AreStr xs es → PA X es (fun _ H Q => Q (xs.map V.str) H) ∧ es.all plain = true
  | [], [], _ => ⟨pa_nil.imp fun σ H Q q => q, rfl⟩
  | x :: xs, e :: es, h => by
    obtain ⟨⟨j, p, rfl⟩, r⟩ := h
    obtain ⟨a, b⟩ := pa_strs (X := X) r
    exact ⟨(pa_cons pe_str a (plain_star rfl)).imp fun σ H Q q => q, by simp only [List.all_cons, b]; rfl⟩
  | [], _ :: _, h => h.elim
  | _ :: _, [], h => h.elim
def IsS6 (s : Stmt) : Prop := ∃ p p2 es q r u, s = .Assign [.Name whN p] (.Subscript (.List es q) (.Name atN p2) r) u ∧ AreStr wW es
theorem su_6 (S : SuN X sg ks kL) {s : Stmt} (h : IsS6 s) {w : Str} (hw : wW[j]? = some w) (hj : j < 8) :
    ∃ t, PS (Cx.suite X a ((a, oe) :: pn)) s t ∧ ∀ E σ H, σ[3]? = some (some (V.int (j : Int))) → (∀ p, H p = none → E.nx (σ.set 4 (some (.str w))) (upd H p (.lst (wW.map V.str)))) → t E σ H := by
  obtain ⟨p, p2, es, q, r, u, rfl, hes⟩ := h
  obtain ⟨a, b⟩ := pa_strs (X := (Cx.suite X a ((a, oe) :: pn))) hes
  refine ⟨_, ps_asg (pe_ix ix_seq (pe_lst a) (su_var S S.n3 S.l3 (by decide) (by decide) p2) (plain_ix rfl)) (su_to S S.n4 S.l4 p) (swapsSole_no rfl) (stores_no rfl) rfl, fun E σ H h3 hk => ?_⟩
  refine ⟨by decide, fun p4 hp4 => ⟨_, h3, .inl ⟨p4, wW.map V.str, (j : Int), .str w, rfl, rfl, .inl (.inl upd_same), ?_, hk p4 hp4⟩⟩⟩
  have e : ∀ j : Nat, j < 8 → atI (wW.map V.str) (j : Int) = (wW[j]?).map V.str := by
    intro j hj
    have : j = 0 ∨ j = 1 ∨ j = 2 ∨ j = 3 ∨ j = 4 ∨ j = 5 ∨ j = 6 ∨ j = 7 := by omega
    rcases this with rfl | rfl | rfl | rfl | rfl | rfl | rfl | rfl <;> rfl
  rw [e j hj, hw]
  rfl
def IsS7 (s : Stmt) : Prop := ∃ p j1 q1 q2 st r, s = .If (.Compare (.Name whN p) [.Eq] [.Constant (.str "text") j1 q1] q2) [st] [] r
theorem su_7 (S : SuN X sg ks kL) {s : Stmt} (h : IsS7 s) {w : Str} (hw : w ≠ "text") :
    ∃ t, PS (Cx.suite X a ((a, oe) :: pn)) s t ∧ ∀ E σ H, σ[4]? = some (some (V.str w)) → E.nx σ H → t E σ H := by
  obtain ⟨p, j1, q1, q2, st, r, rfl⟩ := h
  refine ⟨_, ps_if (pt_cmpR op_eq (su_var S S.n4 S.l4 (by decide) (by decide) p) pe_str rfl) (pss_one ps_never) pss_nil, fun E σ H h4 hk => ?_⟩
  refine ⟨_, h4, rfl, false, ?_, hk⟩
  rw [decide_eq_false]
  intro z
  cases z
  exact hw rfl
theorem pe_never {X : Cx} {e : Expr} : PE X e (fun _ _ _ => False) := ⟨fun _ _ _ _ _ _ h => h.elim⟩
def IsS8 (s : Stmt) : Prop := ∃ p j1 q1 q2 t0 p2 j2 q3 q4 t1 p3 j3 q5 q6 q7 r, s = .Return (some (.IfExp (.Compare (.Name atN p) [.Eq] [.Constant (.int 0) j1 q1] q2) t0 (.IfExp (.Compare (.Name atN p2) [.Eq] [.Constant (.int 1) j2 q3] q4) t1 (.Tuple [.Name whN p3] j3 q5) q6) q7)) r
theorem su_8 (S : SuN X sg ks kL) {s : Stmt} (h : IsS8 s) {w : Str} (hj : 2 ≤ j) :
    ∃ t, PS (Cx.suite X a ((a, oe) :: pn)) s t ∧ ∀ E σ H, σ[3]? = some (some (V.int (j : Int))) → σ[4]? = some (some (V.str w)) → (∀ p, H p = none → E.rt (.ref p) (upd H p (.tup [.str w]))) → t E σ H := by
  obtain ⟨p, j1, q1, q2, t0, p2, j2, q3, q4, t1, p3, j3, q5, q6, q7, r, rfl⟩ := h
  refine ⟨_, ps_ret (pe_ifExp (pt_cmpR op_eq (su_var S S.n3 S.l3 (by decide) (by decide) p) pe_int rfl) pe_never (pe_ifExp (pt_cmpR op_eq (su_var S S.n3 S.l3 (by decide) (by decide) p2) pe_int rfl) pe_never (pe_tup (pa_cons (su_var S S.n4 S.l4 (by decide) (by decide) p3) pa_nil (plain_star rfl))))), fun E σ H h3 h4 hk => ?_⟩
  refine ⟨_, h3, rfl, false, ?_, ?_⟩
  · rw [decide_eq_false]
    intro z
    have z2 : ((j : Nat) : Int) = 0 := V.int.inj z
    omega
  · refine ⟨_, h3, rfl, false, ?_, ?_⟩
    · rw [decide_eq_false]
      intro z
      have z2 : ((j : Nat) : Int) = 1 := V.int.inj z
      omega
    · exact ⟨_, h4, by show 1 ≤ sizeLine; decide, hk⟩
end

/-! ### the def that tells the word -/
def IsW (bg : List Stmt) : Prop := ∃ s1 s2 s3 s4 s5 s6 s7 s8 p1 p2 p3 p4 p5 p6 j7 p7 p8,
  bg = [.Try [.Expr (.Call (.Name "_law_work" p1) [] [] p2) p3] [.ExceptHandler (some (.Name "LiftError" p4)) (some eN) [s1, s2, s3, s4, s5, s6, s7, s8] p5] [] [] p6, .Return (some (.Constant .none j7 p7)) p8] ∧
  IsS1 s1 ∧ IsS2 s2 ∧ IsS3 s3 ∧ IsS4 s4 ∧ IsS5 s5 ∧ IsS6 s6 ∧ IsS7 s7 ∧ IsS8 s8
def wdN : List Str := ["_law_work", "e", "_law_kinds", "_law_at", "_law_word_here"]
/-- the word of a class -/
structure WdM (K : PySem.W.Frag) (M : Nm) (Γ : Ctx) (cs : List Nat) (ks : Nat → Addr) (kL : Addr) : Prop where
  c : ∀ c ∈ cs, ∃ j w, WdC K ks kL (M.cl c) j ∧ wW[j]? = some w ∧ Γ.wd ⟨c, .non⟩ = some (.tup [.str w])
structure SgO (sg : Scope) : Prop where
  hw : wG sg = true
  l0 : Vis sg "_law_work"
  l1 : sg.names.lookup eN = some .local
  l2 : sg.names.lookup kN = some .local
  l3 : sg.names.lookup atN = some .local
  l4 : sg.names.lookup whN = some .local
theorem word_ne {j : Nat} {w : Str} (h : wW[j]? = some w) (h3 : 3 ≤ j) : w ≠ "text" := by
  rintro rfl
  have hj : j < 8 := (List.getElem?_eq_some_iff.mp h).1
  have : j = 3 ∨ j = 4 ∨ j = 5 ∨ j = 6 ∨ j = 7 := by omega
  rcases this with rfl | rfl | rfl | rfl | rfl <;> (revert h; decide +kernel)
def tSu (K : PySem.W.Frag) (M : Nm) (Γ : Ctx) (cs : List Nat) (a : Addr) (cls : Value) (d : Option Addr) : TS := fun D σ H =>
  (∃ c, c ∈ cs ∧ cls = .ref (M.cl c) ∧ d = none ∧ ∃ F es vs dw, Sta K M F H es vs ∧ Γ.wd ⟨c, .non⟩ = some dw ∧ ∀ v F' H', Same F F' → Rep K M F' dw v → Sta K M F' H' es vs → D.rt v H') ∧ ∃ σ0 : L2.St, σ = σ0.set 1 (some (.ref a))
theorem set_get {α : Type} {l : List α} {i j : Nat} {x : α} {y : Option α} (h : i ≠ j) (e : l[j]? = y) : (l.set i x)[j]? = y := by
  rw [List.getElem?_set_ne h]
  exact e
theorem su_all {X : Cx} {M : Nm} {Γ : Ctx} {cs : List Nat} {ks : Nat → Addr} {kL : Addr} {sg : Scope} (S : SuN X sg ks kL) (hN : X.N = wdN) (W : WdM X.K M Γ cs ks kL) {s1 s2 s3 s4 s5 s6 s7 s8 : Stmt} (h1 : IsS1 s1) (h2 : IsS2 s2) (h3 : IsS3 s3) (h4 : IsS4 s4) (h5 : IsS5 s5) (h6 : IsS6 s6) (h7 : IsS7 s7) (h8 : IsS8 s8)
    (a : Addr) (oe : Obj) (cls : Value) (d : Option Addr) (pn : List (Addr × Obj)) (hz : Zc cls d oe) (hf : ∃ vs, oe.data = .fields vs) : PSs (Cx.suite X a ((a, oe) :: pn)) [s1, s2, s3, s4, s5, s6, s7, s8] (tSu X.K M Γ cs a cls d) := by
  refine ⟨fun pins s σ H E I h => ?_⟩
  obtain ⟨⟨c, hc, rfl, rfl, F, es, vs, dw, st, hd, k⟩, σ0, rfl⟩ := h
  obtain ⟨j, w, C, hw, hw2⟩ := W.c c hc
  rw [hw2] at hd
  cases hd
  have len : (σ0.set 1 (some (V.ref a))).length = 5 := by
    have := I.len
    rw [this]
    show X.N.length = 5
    rw [hN]
    rfl
  obtain ⟨t1, p1, r1⟩ := su_1 (a := a) (oe := oe) (pn := pn) S C hz hf h1
  obtain ⟨t2, p2, r2⟩ := su_2 (a := a) (oe := oe) (pn := pn) S C hz hf h2
  obtain ⟨t3, p3, r3⟩ := su_3 (a := a) (oe := oe) (pn := pn) S C hz hf h3
  obtain ⟨t4, p4, r4⟩ := su_4 (a := a) (oe := oe) (pn := pn) S C hz hf h4
  obtain ⟨t5, p5, r5⟩ := su_5 (a := a) (oe := oe) (pn := pn) S C h5
  obtain ⟨t6, p6, r6⟩ := su_6 (a := a) (oe := oe) (pn := pn) S h6 hw C.hj.2
  obtain ⟨t7, p7, r7⟩ := su_7 (a := a) (oe := oe) (pn := pn) S h7 (word_ne hw C.hj.1)
  obtain ⟨t8, p8, r8⟩ := su_8 (a := a) (oe := oe) (pn := pn) S h8 (w := w) (j := j) (by have := C.hj.1; omega)
  refine (pss_cons p1 (pss_cons p2 (pss_cons p3 (pss_cons p4 (pss_cons p5 (pss_cons p6 (pss_cons p7 (pss_one p8)))))))).run pins s _ H E I ?_
  generalize hσ : σ0.set 1 (some (V.ref a)) = σ at *
  have g1 : σ[1]? = some (some (V.ref a)) := by
    rw [← hσ, List.getElem?_set_self]
    rw [← hσ, List.length_set] at len
    omega
  refine r1 _ _ _ g1 fun q hq => ?_
  have st1 := st.new (ob := .lst (bL j 4)) hq
  have len2 : (σ.set 2 (some (V.ref q))).length = 5 := by rw [List.length_set, len]
  refine r2 _ _ _ q (set_get (by omega) g1) (by rw [List.getElem?_set_self]; omega) upd_same fun q2 q3 hq2 hq3 => ?_
  rw [List.set_set]
  have st2 := st1.new (ob := .lst [.bl (decide (4 = j)), .bl (decide (5 = j)), .bl (decide (6 = j))]) hq2
  have bR : ∀ n F, Reps X.K M F ((List.range n).map fun i => D.bl (decide (i = j))) (bL j n) := by
    intro n F
    unfold bL
    induction (List.range n) with
    | nil => exact .nil
    | cons x r ih => exact .cons (.bl _) ih
  have bl : ∀ n, n ≤ 8 → (bL j n).length ≤ LIM := by
    intro n hn
    unfold bL LIM
    rw [List.length_map, List.length_range]
    omega
  have st3 := st2.newL hq3 (bR 7 _) (bl 7 (by omega))
  refine r3 _ _ _ q3 (set_get (by omega) g1) (by rw [List.getElem?_set_self]; omega) upd_same ?_
  have st4 := (st3.mut (bR 8 _) (bl 8 (by omega))).drop
  refine r4 _ _ _ q3 (set_get (by omega) g1) (by rw [List.getElem?_set_self]; omega) upd_same ?_
  refine r5 _ _ _ q3 (by rw [List.getElem?_set_self]; omega) upd_same ?_
  have len3 : ((σ.set 2 (some (V.ref q3))).set 3 (some (V.int (j : Int)))).length = 5 := by rw [List.length_set, List.length_set, len]
  refine r6 _ _ _ (by rw [List.getElem?_set_self]; rw [List.length_set]; omega) fun q4 hq4 => ?_
  have st5 := st4.new (ob := .lst (wW.map V.str)) hq4
  have g4 : (((σ.set 2 (some (V.ref q3))).set 3 (some (V.int (j : Int)))).set 4 (some (V.str w)))[4]? = some (some (V.str w)) := by
    rw [List.getElem?_set_self]
    omega
  refine r7 _ _ _ g4 ?_
  refine r8 _ _ _ (set_get (by omega) (by rw [List.getElem?_set_self]; rw [List.length_set]; omega)) g4 fun q5 hq5 => ?_
  have st6 := st5.new (ob := .tup [.str w]) hq5
  refine k (.ref q5) _ _ ?_ (.tup (.inl (.inl upd_same)) (by show 1 ≤ LIM; decide) (.cons (.str w) .nil)) st6
  exact ((same_new (st.free hq)).trans (same_new (st1.free hq2))).trans ((same_new (st4.free hq4)).trans (same_new (st5.free hq5)))
theorem word_gives {X : Cx} {M : Nm} {Γ : Ctx} {cs : List Nat} {ks : Nat → Addr} {kL : Addr} {sg : Scope} {x q : Str} {g : Addr} {cdg : Value} {bg : List Stmt} (G : WdG X.mg ks kL) (Sg : SgO sg) (W : WdM X.K M Γ cs ks kL) (h : IsW bg) :
    LamX.GivesTo X wdN x sg g cdg bg "_law_work" q (TTw X.K M Γ cs) := by
  obtain ⟨s1, s2, s3, s4, s5, s6, s7, s8, p1, p2, p3, p4, p5, p6, j7, p7, p8, rfl, h1, h2, h3, h4, h5, h6, h7, h8⟩ := h
  intro f c' s H Q tl act hc h
  let Z : Cx := (cxOf C8.CX0 X.prog X.w X.K X.mg X.base wdN x sg g cdg X.A X.stack s H C8.E0).nox
  have S : SuN Z sg ks kL := ⟨G, rfl, Sg.hw, by show wdN.Nodup; decide, rfl, rfl, rfl, rfl, Sg.l1, Sg.l2, Sg.l3, Sg.l4⟩
  have hL : Gl Z "LiftError" := g_of_w (X := Z) rfl Sg.hw (by decide +kernel)
  refine ⟨_, pss_cons (ps_try_as (X := Z) (i := 1) (n := eN) (c := .ref kL) (Wout := fun _ _ _ _ => False)
      (tb := fun W D σ H => ∃ Ech : XK, (∀ cls d σ' H', Ech cls d H' → W cls d σ' H') ∧ σ[0]? = some (some (.ref f)) ∧ H c' = some (LamX.CodeO c' q) ∧ tl Ech H fun _ H' => D.nx σ H')
      (ts := fun a cls d => tSu X.K M Γ cs a cls d)
      rfl rfl (by show wdN.Nodup; decide) rfl Sg.l1 ⟨hL, by decide, .inl G.mL⟩ L2.takes0 (fun W pn xe tk _ => ?_) (fun a oe cls d pn hz hf => su_all S rfl W h1 h2 h3 h4 h5 h6 h7 h8 a oe cls d pn hz hf)) (pss_one (ps_ret pe_non)), ?_⟩
  · refine ⟨fun pins s' σ H' D I h' => ?_⟩
    obtain ⟨Ech, hW, g1, g2, g3⟩ := h'
    have hp := act W pn xe Ech p1 p2 tk hW
    exact (pss_one (ps_expr (pos := p3) hp (by rfl))).run pins s' σ H' D I ⟨g1, g2, g3⟩
  · refine ⟨EW X.K M Γ cs Q, fun cls d σ' H' hE => ?_, rfl, hc, h⟩
    obtain ⟨c, hc', rfl, rfl, F, es, vs, dw, st, hd, k⟩ := hE
    obtain ⟨j, w, C, hw, hw2⟩ := W.c c hc'
    exact ⟨true, C.ex, fun _ a _ => ⟨⟨c, hc', rfl, rfl, F, es, vs, dw, st, hd, k⟩, σ', rfl⟩, fun z => nomatch z⟩

section
variable {X : Cx} {M : Nm} {T : Ns} {L : Lk} {Γ : Ctx} {call : Nat → List (D × Bool) → CRes} {N : List Str} {sc so : Scope} {k : Nat} {W : WX}
theorem xc_lam (C : XC X M T L Γ call N sc so k W) {scope : Scope} (Lm : LamX.LamS X.env.scope scope) (hn : lamB T scope = false) {A : Around} {outer : List Env} {s : Shared} {H : Hp} {E : XK} {f c' : Addr} (hr : Room (k + 1) (A.deeper (LamX.lamEnv X scope s.heap.objs.size f c'))) :
    XC (LamX.lamCx X A outer s H E scope f c') M T L Γ call N scope scope k (fun cls d _ H => E cls d H) where
  hN := C.hN
  nd := C.nd
  scp := rfl
  kind := Lm.kind
  sto := fun x hx => by
    unfold stoB at hx
    split at hx
    · rename_i e
      exact absurd rfl (Lm.own _ (PySem.mem_of_lookup e)).1
    · rename_i e
      exact absurd rfl (Lm.own _ (PySem.mem_of_lookup e)).2
    · cases hx
  calm := rfl
  own := passes_of rfl
  tk := takes_of rfl rfl rfl rfl
  room := hr
  top := C.top
  ar := C.ar
  fns := C.fns
  lam := fun z => by
    rw [hn] at z
    cases z
/-- _law_word(lambda: ..) -/
theorem s_wrd (C : XC X M T L Γ call N sc so k W) {e : E} {w : Str} {body : Expr} {scope : Scope} {p lpos pos : Pos} (hw : w = "_law_word") (hg : glB sc w = true) (hl : lamB T sc = true) (hs : LamX.lamSB sc scope = true) (hn : lamB T scope = false)
    (he : ∀ X' W', XC X' M T L Γ call N scope scope k W' → X'.K = X.K → PE X' body (TEv X'.K M Γ call W' e)) :
    PE X (.Call (.Name w p) [.Lambda ⟨[], [], none, [], [], none, []⟩ body scope lpos] [] pos) ((TEv X.K M Γ call W) (.wrd e)) := by
  subst hw
  obtain ⟨⟨g, c, P, pg, bg, sg, dV, kV, doc, pm, cdv, ct, oc, an, od, osl, Ng, f1, f2, f3, f4, f5, f6, f7, f8, f9, f10, f11, f12, f13⟩, room⟩ := C.lam hl
  have Lm : LamX.LamS X.env.scope scope := LamX.lamS_by (by rw [C.scp]; exact hs)
  have ht : M.tb ≠ [] := fun z => by
    rw [z] at f12
    cases f12
  refine (LamX.pe_lamcall (X := X) (T := M.tb) (k := k + 1) (t := fun E => TEv X.K M Γ call (fun cls d _ H => E cls d H) e) (gl_of (by rw [C.scp]; exact hg)) f1 f2 f3 f4 f5 f6 f7 f8 f9 f10 f11 f12 f13 room Lm rfl (fun _ _ _ _ _ => rfl) (fun A outer s H E f c' hr => he _ _ (xc_lam C Lm hn hr) rfl) (by decide) (by decide) (by decide)).imp fun σ H Q h => ?_
  obtain ⟨F, ext, xv, env, st, hl', post⟩ := h
  simp only [ev] at post
  refine ⟨(st.sm.tb ht).1, fun H1 eN hT => ?_⟩
  have st1 := st.lam eN hT ht
  show TEv X.K M Γ call (fun cls d _ H => EW X.K M Γ T.xs Q cls d H) e σ H1 fun _ H' => Q .non H'
  refine ⟨F, ext, xv, env, st1, hl', ?_⟩
  revert post
  cases ev Γ call e env with
  | ok r e1 => exact fun post v F' H' s st' => post .non F' H' s (st'.drop.push .non)
  | err => exact fun post => post.elim
  | exc x e1 =>
    intro post
    obtain ⟨a, ha, post2⟩ := post_lift post
    cases hd : Γ.wd x with
    | none =>
      rw [hd] at ha
      cases ha
    | some dw =>
      rw [hd] at ha
      cases ha
      intro cls d F' H' s rx st'
      obtain ⟨xc, xv'⟩ := x
      obtain ⟨rx1, rx2⟩ := rx
      have hm := C.top.wdx xc xv' dw hd
      obtain ⟨hm1, hm2⟩ := hm
      simp only at rx1 rx2
      subst hm2
      rcases rx2 with ⟨_, rfl⟩ | ⟨dd, fs, v, ne, _⟩
      · exact ⟨xc, hm1, rx1, rfl, F', _, _, dw, st', hd, fun v F2 H2 s2 r2 st2 => post2 v F2 H2 (s.trans s2) (st2.push r2)⟩
      · exact (ne rfl).elim
end

theorem kit_ne {K : PySem.W.Frag} {D C : Addr} {b : Bool} (h1 : PySem.W.isClsIn K C = true) (h2 : PySem.W.typeIn K (.ref C) = some (.type "type")) (h3 : PySem.W.subIn K (.ref D) (.ref C) = some b) (hb : D = C → b = true) : PySem.W.kitOne K (.ref D) (.ref C) = some b := by
  unfold PySem.W.kitOne
  split
  · rename_i e
    have e : D = C := Value.ref.inj (beq_iff_eq.mp e)
    rw [hb e]
  · show (if ((PySem.W.clsIn K C).isSome && PySem.W.typeIn K (.ref C) == some (.type "type")) = true then PySem.W.subIn K (.ref D) (.ref C) else none) = some b
    rw [if_pos, h3]
    have h1 : (PySem.W.clsIn K C).isSome = true := h1
    rw [h1, h2] <;> rfl
theorem exm_ne {K : PySem.W.Frag} {D C : Addr} {b : Bool} (h0 : PySem.W.subIn K (.ref C) (.type "BaseException") = some true) (h1 : PySem.W.isClsIn K C = true) (h2 : PySem.W.typeIn K (.ref C) = some (.type "type")) (h3 : PySem.W.subIn K (.ref D) (.ref C) = some b) : PySem.W.exmOne K (.ref D) (.ref C) = some b := by
  unfold PySem.W.exmOne
  rw [h0]
  show (if ((PySem.W.clsIn K C).isSome && PySem.W.typeIn K (.ref C) == some (.type "type")) = true then PySem.W.subIn K (.ref D) (.ref C) else none) = some b
  rw [if_pos, h3]
  have h1 : (PySem.W.clsIn K C).isSome = true := h1
  rw [h1, h2] <;> rfl
theorem kit_VE {K : PySem.W.Frag} {D : Addr} {b : Bool} (h3 : PySem.W.subIn K (.ref D) (.type "ValueError") = some b) : PySem.W.kitOne K (.ref D) (.type "ValueError") = some b := by
  unfold PySem.W.kitOne
  split
  · rename_i e
    cases beq_iff_eq.mp e
  · show (if PySem.W.kitMeta "ValueError" = true then PySem.W.subIn K (.ref D) (.type "ValueError") else none) = some b
    rw [if_pos (by decide +kernel), h3]
/-- eight things by their places -/
def at8 {α : Type} (a0 a1 a2 a3 a4 a5 a6 a7 : α) : Nat → α
  | 0 => a0 | 1 => a1 | 2 => a2 | 3 => a3 | 4 => a4 | 5 => a5 | 6 => a6 | _ => a7
theorem lt8 {p : Nat → Prop} (h0 : p 0) (h1 : p 1) (h2 : p 2) (h3 : p 3) (h4 : p 4) (h5 : p 5) (h6 : p 6) (h7 : p 7) : ∀ i, i < 8 → p i := by
  intro i hi
  have : i = 0 ∨ i = 1 ∨ i = 2 ∨ i = 3 ∨ i = 4 ∨ i = 5 ∨ i = 6 ∨ i = 7 := by omega
  rcases this with rfl | rfl | rfl | rfl | rfl | rfl | rfl | rfl <;> assumption
end PL
/-! PLMain: every matched text keeps its reckoning. -/
set_option maxHeartbeats 2000000
namespace PL
open PySem PySem.Spec PyProof.Rows L2

theorem plainT_of {e : Expr} {env : PySem.Env} (h : plainT e = true) : ∀ whole, isTrue e env whole = (do let v ← whole; standAt e.pos; holding [v] (truthy v)) := by
  intro w
  cases e <;> first | rfl | (simp [plainT] at h; done)
section
variable {X : Cx} {M : Nm} {T : Ns} {L : Lk} {Γ : Ctx} {call : Nat → List (D × Bool) → CRes} {N : List Str} {sc so : Scope} {k : Nat} {W : WX} {io : Bool} {v0 : Option V}

/-- what holds of a matched expression -/
structure Sx (X : Cx) (M : Nm) (Γ : Ctx) (call : Nat → List (D × Bool) → CRes) (W : WX) (e : E) (pe : Expr) : Prop where
  v : PE X pe (TEv X.K M Γ call W e)
  t : plainT pe = true ∨ (∃ a b c d, pe = .Compare a b c d) ∨ (∃ a b c, pe = .BoolOp a b c) ∨ (∃ a b, pe = .UnaryOp .Not a b) → PT X pe (TTt X.K M Γ call e)
  w : (∃ a b c, pe = .BoolOp a b c) → PW X pe (TTt X.K M Γ call e)
theorem sx_plain {e : E} {pe : Expr} (h : PE X pe ((TEv X.K M Γ call W) e)) (hp : plainT pe = true) : Sx X M Γ call W e pe :=
  ⟨h, fun _ => t_val h (plainT_of hp), fun ⟨a, b, c, e⟩ => by rw [e] at hp; simp [plainT] at hp⟩
theorem sx_other {e : E} {pe : Expr} (h : PE X pe ((TEv X.K M Γ call W) e)) (hp : plainT pe = false) (h1 : ∀ a b c d, pe ≠ .Compare a b c d) (h2 : ∀ a b c, pe ≠ .BoolOp a b c) (h3 : ∀ a b, pe ≠ .UnaryOp .Not a b) : Sx X M Γ call W e pe :=
  ⟨h, fun z => by
    rcases z with z | ⟨a, b, c, d, z⟩ | ⟨a, b, c, z⟩ | ⟨a, b, z⟩
    · rw [hp] at z
      cases z
    · exact (h1 _ _ _ _ z).elim
    · exact (h2 _ _ _ z).elim
    · exact (h3 _ _ z).elim, fun ⟨a, b, c, z⟩ => (h2 _ _ _ z).elim⟩
theorem tOk_of {pe : Expr} (h : tOk pe = true) : plainT pe = true ∨ (∃ a b c d, pe = .Compare a b c d) ∨ (∃ a b c, pe = .BoolOp a b c) ∨ (∃ a b, pe = .UnaryOp .Not a b) := by
  unfold tOk at h
  rw [Bool.or_eq_true] at h
  rcases h with h | h
  · exact .inl h
  · split at h <;> first | cases h | skip
    · exact .inr (.inl ⟨_, _, _, _, rfl⟩)
    · exact .inr (.inr (.inl ⟨_, _, _, rfl⟩))
    · exact .inr (.inr (.inr ⟨_, _, rfl⟩))

theorem mTy_one {sc : Scope} : ∀ {ts : List Ty} {y : Expr}, mTy sc ts [y] = true → ∃ t x p, ts = [t] ∧ y = .Name x p ∧ x = tyN t ∧ glB sc x = true
  | [], y, h => by simp [mTy] at h
  | [t], y, h => by
    cases y with
    | Name x p =>
      simp only [mTy, Bool.and_eq_true] at h
      exact ⟨t, x, p, rfl, rfl, of_decide_eq_true h.1.1, h.1.2⟩
    | _ => simp [mTy] at h
  | _ :: _ :: _, y, h => by
    cases y with
    | Name x p => simp [mTy] at h
    | _ => simp [mTy] at h
mutual
theorem snd_E : ∀ (e : E) (pe : Expr) (X : Cx) (sc so : Scope) (W : WX), XC X M T L Γ call N sc so k W → mE T N sc e pe = true → Sx X M Γ call W e pe
  | .var i, pe, X, sc, so, W, C, h => by
    simp only [mE, Bool.and_eq_true] at h
    obtain ⟨_, h⟩ := h
    cases pe <;> simp only [Bool.false_eq_true] at h
    simp only [Bool.and_eq_true] at h
    exact sx_plain (s_var C (of_decide_eq_true h.1.1) h.1.2 h.2) rfl
  | .cst d, pe, X, sc, so, W, C, h => by
    simp only [mE, Bool.and_eq_true] at h
    obtain ⟨_, h⟩ := h
    cases pe <;> simp only [Bool.false_eq_true] at h
    exact sx_other (s_cst h) rfl (fun _ _ _ _ z => nomatch z) (fun _ _ _ z => nomatch z) fun _ _ z => nomatch z
  | .glb g, pe, X, sc, so, W, C, h => by
    simp only [mE, Bool.and_eq_true] at h
    obtain ⟨_, h⟩ := h
    cases pe <;> simp only [Bool.false_eq_true] at h
    simp only [Bool.and_eq_true] at h
    obtain ⟨⟨⟨h1, h2⟩, h3⟩, h4⟩ := h
    obtain rfl := of_decide_eq_true h1
    exact sx_plain (s_glb C h2 h3 (by simpa using h4)) rfl
  | .bin op a b, pe, X, sc, so, W, C, h => by
    simp only [mE, Bool.and_eq_true] at h
    obtain ⟨_, h⟩ := h
    cases pe <;> simp only [Bool.false_eq_true] at h
    simp only [Bool.and_eq_true] at h
    obtain ⟨⟨h1, h2⟩, h3⟩ := h
    obtain rfl := of_decide_eq_true h1
    exact sx_other (s_bin C (snd_E a _ X sc so W C h2).v (snd_E b _ X sc so W C h3).v) rfl (fun _ _ _ _ z => nomatch z) (fun _ _ _ z => nomatch z) fun _ _ z => nomatch z
  | .neg a, pe, X, sc, so, W, C, h => by
    simp only [mE, Bool.and_eq_true] at h
    obtain ⟨_, h⟩ := h
    split at h <;> first | cases h | skip
    exact sx_other (s_neg C (snd_E a _ X sc so W C h).v) rfl (fun _ _ _ _ z => nomatch z) (fun _ _ _ z => nomatch z) fun _ _ z => nomatch z
  | .cmp op a b, pe, X, sc, so, W, C, h => by
    simp only [mE, Bool.and_eq_true] at h
    obtain ⟨_, h⟩ := h
    split at h <;> first | cases h | skip
    simp only [Bool.and_eq_true] at h
    obtain ⟨⟨h1, h2⟩, h3⟩ := h
    obtain rfl := of_decide_eq_true h1
    have A := (snd_E a _ X sc so W C h2).v
    have B := (snd_E b _ X sc so W C h3).v
    exact ⟨s_cmp C A B (mE_plain T N h3), fun _ => t_cmp C A B (mE_plain T N h3), fun ⟨_, _, _, z⟩ => nomatch z⟩
  | .cmpv op v b, pe, X, sc, so, W, C, h => by
    simp only [mE, Bool.and_eq_true] at h
    obtain ⟨_, h⟩ := h
    split at h <;> first | cases h | skip
    simp only [Bool.and_eq_true] at h
    obtain ⟨⟨⟨⟨h1, h2⟩, h3⟩, h4⟩, h5⟩ := h
    obtain rfl := of_decide_eq_true h1
    have B := (snd_E b _ X sc so W C h5).v
    exact ⟨s_cmpv C (of_decide_eq_true h2) h3 h4 B (mE_plain T N h5), fun _ => t_cmpv C (of_decide_eq_true h2) h3 h4 B (mE_plain T N h5), fun ⟨_, _, _, z⟩ => nomatch z⟩
  | .chn o p a b c, pe, X, sc, so, W, C, h => by
    simp only [mE, Bool.and_eq_true] at h
    obtain ⟨_, h⟩ := h
    split at h <;> first | cases h | skip
    simp only [Bool.and_eq_true] at h
    obtain ⟨⟨⟨⟨h1, h2⟩, h3⟩, h4⟩, h5⟩ := h
    obtain rfl := of_decide_eq_true h1
    obtain rfl := of_decide_eq_true h2
    have A := (snd_E a _ X sc so W C h3).v
    have B := (snd_E b _ X sc so W C h4).v
    have D := (snd_E c _ X sc so W C h5).v
    exact ⟨s_chn C A B D (mE_plain T N h5), fun _ => t_chn C A B D (mE_plain T N h5), fun ⟨_, _, _, z⟩ => nomatch z⟩
  | .din neg a b, pe, X, sc, so, W, C, h => by simp [mE] at h
  | .and a b, pe, X, sc, so, W, C, h => by
    simp only [mE, Bool.and_eq_true] at h
    obtain ⟨_, h⟩ := h
    split at h <;> first | cases h | skip
    · simp only [Bool.and_eq_true] at h
      have A := snd_E a _ X sc so W C h.1.1
      have B := snd_E b _ X sc so W C h.1.2
      rename_i x y pos _
      have W : PW X (.BoolOp .And [x, y] pos) (TTt X.K M Γ call (.and a b)) := (pw_and (A.t (tOk_of h.2.1)) (pw_and1 (B.t (tOk_of h.2.2)))).imp fun σ H Q q => andT_in q
      exact ⟨(pe_and A.v (pe_one B.v)).imp fun σ H Q q => and_in q, fun _ => W.pt, fun _ => W⟩
    · simp only [Bool.and_eq_true] at h
      have A := snd_E a _ X sc so W C h.1.1
      have B := snd_E b _ X sc so W C h.1.2
      have W := (pw_and (A.t (tOk_of h.2)) (B.w ⟨_, _, _, rfl⟩)).imp fun σ H Q q => andT_in q
      exact ⟨(pe_and A.v B.v).imp fun σ H Q q => and_in q, fun _ => W.pt, fun _ => W⟩
  | .or a b, pe, X, sc, so, W, C, h => by
    simp only [mE, Bool.and_eq_true] at h
    obtain ⟨_, h⟩ := h
    split at h <;> first | cases h | skip
    · simp only [Bool.and_eq_true] at h
      have A := snd_E a _ X sc so W C h.1.1
      have B := snd_E b _ X sc so W C h.1.2
      rename_i x y pos _
      have W : PW X (.BoolOp .Or [x, y] pos) (TTt X.K M Γ call (.or a b)) := (pw_or (A.t (tOk_of h.2.1)) (pw_or1 (B.t (tOk_of h.2.2)))).imp fun σ H Q q => orT_in q
      exact ⟨(pe_or A.v (pe_one B.v)).imp fun σ H Q q => or_in q, fun _ => W.pt, fun _ => W⟩
    · simp only [Bool.and_eq_true] at h
      have A := snd_E a _ X sc so W C h.1.1
      have B := snd_E b _ X sc so W C h.1.2
      have W := (pw_or (A.t (tOk_of h.2)) (B.w ⟨_, _, _, rfl⟩)).imp fun σ H Q q => orT_in q
      exact ⟨(pe_or A.v B.v).imp fun σ H Q q => or_in q, fun _ => W.pt, fun _ => W⟩
  | .not a, pe, X, sc, so, W, C, h => by
    simp only [mE, Bool.and_eq_true] at h
    obtain ⟨_, h⟩ := h
    split at h <;> first | cases h | skip
    simp only [Bool.and_eq_true] at h
    have A := snd_E a _ X sc so W C h.1
    exact ⟨(pe_not A.v).imp fun σ H Q q => not_in q, fun _ => (pt_not (A.t (tOk_of h.2))).imp fun σ H Q q => notT_in q, fun ⟨_, _, _, z⟩ => nomatch z⟩
  | .ifx c a b, pe, X, sc, so, W, C, h => by
    simp only [mE, Bool.and_eq_true] at h
    obtain ⟨_, h⟩ := h
    split at h <;> first | cases h | skip
    simp only [Bool.and_eq_true] at h
    obtain ⟨⟨⟨h1, h2⟩, h3⟩, h4⟩ := h
    exact sx_other ((pe_ifExp ((snd_E c _ X sc so W C h1).t (tOk_of h4)) (snd_E a _ X sc so W C h2).v (snd_E b _ X sc so W C h3).v).imp fun σ H Q q => ifx_in q) rfl (fun _ _ _ _ z => nomatch z) (fun _ _ _ z => nomatch z) fun _ _ z => nomatch z
  | .tup es, pe, X, sc, so, W, C, h => by
    simp only [mE, Bool.and_eq_true] at h
    obtain ⟨_, h⟩ := h
    split at h <;> first | cases h | skip
    exact sx_other (s_tup (snd_Es es _ X sc so W C h).1) rfl (fun _ _ _ _ z => nomatch z) (fun _ _ _ z => nomatch z) fun _ _ z => nomatch z
  | .lst es, pe, X, sc, so, W, C, h => by
    simp only [mE, Bool.and_eq_true] at h
    obtain ⟨_, h⟩ := h
    split at h <;> first | cases h | skip
    exact sx_other (s_lst (snd_Es es _ X sc so W C h).1) rfl (fun _ _ _ _ z => nomatch z) (fun _ _ _ z => nomatch z) fun _ _ z => nomatch z
  | .idx a i, pe, X, sc, so, W, C, h => by
    simp only [mE, Bool.and_eq_true] at h
    obtain ⟨_, h⟩ := h
    split at h <;> first | cases h | skip
    simp only [Bool.and_eq_true] at h
    exact sx_plain (s_idx (snd_E a _ X sc so W C h.1).v (snd_E i _ X sc so W C h.2).v (mE_plain T N h.2)) rfl
  | .idxv v i, pe, X, sc, so, W, C, h => by
    simp only [mE, Bool.and_eq_true] at h
    obtain ⟨_, h⟩ := h
    split at h <;> first | cases h | skip
    simp only [Bool.and_eq_true] at h
    obtain ⟨⟨⟨h2, h3⟩, h4⟩, h5⟩ := h
    exact sx_plain (s_idxv C (of_decide_eq_true h2) h3 h4 (snd_E i _ X sc so W C h5).v (mE_plain T N h5)) rfl
  | .slc a lo hi, pe, X, sc, so, W, C, h => by
    simp only [mE, Bool.and_eq_true] at h
    obtain ⟨_, h⟩ := h
    split at h <;> first | cases h | skip
    simp only [Bool.and_eq_true] at h
    exact sx_plain (s_slc (snd_E a _ X sc so W C h.1.1).v (snd_O lo _ X sc so W C h.1.2) (snd_O hi _ X sc so W C h.2)) rfl
  | .atr p f, pe, X, sc, so, W, C, h => by simp [mE] at h
  | .isI a ts, pe, X, sc, so, W, C, h => by
    simp only [mE, Bool.and_eq_true] at h
    obtain ⟨_, h⟩ := h
    split at h <;> first | cases h | skip
    · simp only [Bool.and_eq_true] at h
      obtain ⟨⟨⟨⟨h1, h2⟩, h3⟩, h4⟩, h5⟩ := h
      obtain rfl := of_decide_eq_true h1
      exact sx_plain (s_isiT C h2 (snd_E a _ X sc so W C h3).v (mE_plain T N h3) h4 (of_decide_eq_true h5)) rfl
    · simp only [Bool.and_eq_true] at h
      obtain ⟨⟨⟨h1, h2⟩, h3⟩, h4⟩ := h
      obtain rfl := of_decide_eq_true h1
      obtain ⟨t, z, p, rfl, rfl, h5, h6⟩ := mTy_one h4
      exact sx_plain (s_isi1 C h2 (snd_E a _ X sc so W C h3).v (mE_plain T N h3) h5 h6) rfl
  | .bi b es, pe, X, sc, so, W, C, h => by
    simp only [mE, Bool.and_eq_true] at h
    obtain ⟨_, h⟩ := h
    split at h <;> first | cases h | skip
    simp only [Bool.and_eq_true] at h
    obtain ⟨⟨⟨h1, h2⟩, h3⟩, h4⟩ := h
    obtain rfl := of_decide_eq_true h1
    obtain ⟨A, B⟩ := snd_Es es _ X sc so W C h4
    exact sx_plain (s_bi C h2 h3 A B) rfl
  | .lenp p, pe, X, sc, so, W, C, h => by simp [mE] at h
  | .bm m o a, pe, X, sc, so, W, C, h => by
    simp only [mE, Bool.and_eq_true] at h
    obtain ⟨_, h⟩ := h
    split at h <;> first | cases h | skip
    simp only [Bool.and_eq_true] at h
    obtain ⟨⟨⟨⟨⟨h1, h2⟩, h3⟩, h4⟩, h5⟩, h6⟩ := h
    obtain rfl := of_decide_eq_true h1
    exact sx_plain (s_bm h2 h3 h4 (snd_E o _ X sc so W C h5).v (snd_E a _ X sc so W C h6).v (mE_plain T N h6)) rfl
  | .fn f es, pe, X, sc, so, W, C, h => by
    simp only [mE, Bool.and_eq_true] at h
    obtain ⟨_, h⟩ := h
    split at h <;> first | cases h | skip
    simp only [Bool.and_eq_true] at h
    obtain ⟨⟨⟨⟨h1, h2⟩, h3⟩, h4⟩, h5⟩ := h
    obtain rfl := of_decide_eq_true h1
    obtain ⟨A, B⟩ := snd_Es es _ X sc so W C h5
    refine sx_plain (s_fn C h2 h3 (by simpa using h4) A B fun e => ?_) rfl
    subst e
    cases es with
    | nil => rfl
    | cons _ _ => simp [mEs] at h5
  | .fnv f v es, pe, X, sc, so, W, C, h => by
    simp only [mE, Bool.and_eq_true] at h
    obtain ⟨_, h⟩ := h
    split at h <;> first | cases h | skip
    simp only [Bool.and_eq_true] at h
    obtain ⟨⟨⟨⟨⟨⟨⟨h1, h2⟩, h3⟩, h4⟩, h5⟩, h6⟩, h7⟩, h8⟩ := h
    obtain rfl := of_decide_eq_true h1
    obtain ⟨A, B⟩ := snd_Es es _ X sc so W C h8
    exact sx_plain (s_fnv C h2 h3 (by simpa using h4) (of_decide_eq_true h5) h6 h7 A B) rfl
  | .fnk f es k, pe, X, sc, so, W, C, h => by simp [mE] at h
  | .mth o m es, pe, X, sc, so, W, C, h => by simp [mE] at h
  | .mthp p m es, pe, X, sc, so, W, C, h => by simp [mE] at h
  | .new c es, pe, X, sc, so, W, C, h => by simp [mE] at h
  | .wrd e, pe, X, sc, so, W, C, h => by
    simp only [mE, Bool.and_eq_true] at h
    obtain ⟨_, h⟩ := h
    split at h <;> first | cases h | skip
    simp only [Bool.and_eq_true] at h
    obtain ⟨⟨⟨⟨⟨h1, h2⟩, h3⟩, h4⟩, h5⟩, h6⟩ := h
    exact sx_plain (s_wrd C (of_decide_eq_true h1) h2 h3 h4 (by simpa using h5) fun X' W' C' _ => (snd_E e _ X' _ _ W' C' h6).v) rfl
  | .pop x i, pe, X, sc, so, W, C, h => by simp [mE] at h
  | .lc it tg c body, pe, X, sc, so, W, C, h => by
    simp only [mE, Bool.and_eq_true] at h
    obtain ⟨_, h⟩ := h
    split at h <;> first | cases h | skip
    rename_i el t x ifs ab scope pos _
    simp only [Bool.and_eq_true] at h
    obtain ⟨⟨⟨⟨⟨h0, h1⟩, ⟨h2, h3⟩, hnl⟩, h4⟩, h5⟩, h6⟩ := h
    obtain rfl := of_decide_eq_true h0
    refine sx_other (s_lc C (mI_plain T N h1) (snd_I it x X sc so W C h1) h2 (of_decide_eq_true h3) (by simpa using hnl) h4 (fun X' C' _ => snd_If c ifs X' _ _ WF C' h5) fun X' C' _ => (snd_E body el X' _ _ WF C' h6).v) rfl (fun _ _ _ _ z => nomatch z) (fun _ _ _ z => nomatch z) fun _ _ z => nomatch z
  | .lc2 it tg it2 tg2 body, pe, X, sc, so, W, C, h => by simp [mE] at h
  | .dc it tg k v, pe, X, sc, so, W, C, h => by simp [mE] at h
theorem snd_Es : ∀ (es : Es) (pe : List Expr) (X : Cx) (sc so : Scope) (W : WX), XC X M T L Γ call N sc so k W → mEs T N sc es pe = true → PA X pe (TEs X.K M Γ call es) ∧ pe.all plain = true
  | .nil, pe, X, sc, so, W, C, h => by
    simp only [mEs] at h
    split at h <;> first | cases h | skip
    exact ⟨s_nil, rfl⟩
  | .cons a r, pe, X, sc, so, W, C, h => by
    have hp := mEs_plain T N h
    simp only [mEs] at h
    split at h <;> first | cases h | skip
    simp only [Bool.and_eq_true] at h
    exact ⟨s_cons (snd_E a _ X sc so W C h.1).v (snd_Es r _ X sc so W C h.2).1 (mE_plain T N h.1), hp⟩
theorem snd_O : ∀ (o : O) (pe : Option Expr) (X : Cx) (sc so : Scope) (W : WX), XC X M T L Γ call N sc so k W → mO T N sc o pe = true → PO X pe (TOo X.K M Γ call o)
  | .none, pe, X, sc, so, W, C, h => by
    simp only [mO] at h
    split at h <;> first | cases h | skip
    exact s_onone
  | .some a, pe, X, sc, so, W, C, h => by
    simp only [mO] at h
    split at h <;> first | cases h | skip
    exact s_osome (snd_E a _ X sc so W C h).v
theorem snd_If : ∀ (o : O) (pe : List Expr) (X : Cx) (sc so : Scope) (W : WX), XC X M T L Γ call N sc so k W → mIf T N sc o pe = true → PTs X pe (ttC X.K M Γ call o)
  | .none, pe, X, sc, so, W, C, h => by
    simp only [mIf] at h
    split at h <;> first | cases h | skip
    exact pts_nil
  | .some a, pe, X, sc, so, W, C, h => by
    simp only [mIf] at h
    split at h <;> first | cases h | skip
    simp only [Bool.and_eq_true] at h
    exact pts_one ((snd_E a _ X sc so W C h.1).t (tOk_of h.2))
theorem snd_I : ∀ (it : PL.Src) (x : Expr) (X : Cx) (sc so : Scope) (W : WX), XC X M T L Γ call N sc so k W → ∀ {tg : Expr}, mI T N sc it tg x = true → PI X tg x (TIt X.K M Γ call it)
  | .seq e, x, X, sc, so, W, C, tg, h => i_seq (snd_E e x X sc so W C h).v
  | .rng1 e, x, X, sc, so, W, C, tg, h => by
    simp only [mI] at h
    split at h <;> first | cases h | skip
    simp only [Bool.and_eq_true] at h
    obtain ⟨⟨h1, h2⟩, h3⟩ := h
    obtain rfl := of_decide_eq_true h1
    exact i_rng1 C h2 C.top.rng (snd_E e _ X sc so W C h3).v (mE_plain T N h3)
  | .rng2 a b, x, X, sc, so, W, C, tg, h => by
    simp only [mI] at h
    split at h <;> first | cases h | skip
    simp only [Bool.and_eq_true] at h
    obtain ⟨⟨⟨h1, h2⟩, h3⟩, h4⟩ := h
    obtain rfl := of_decide_eq_true h1
    exact i_rng2 C h2 C.top.rng (snd_E a _ X sc so W C h3).v (snd_E b _ X sc so W C h4).v (mE_plain T N h3) (mE_plain T N h4)
  | .pek p, x, X, sc, so, W, C, tg, h => by simp [mI] at h
  | .enm e, x, X, sc, so, W, C, tg, h => by
    simp only [mI] at h
    split at h <;> first | cases h | skip
    simp only [Bool.and_eq_true] at h
    obtain ⟨⟨h1, h2⟩, h3⟩ := h
    obtain rfl := of_decide_eq_true h1
    exact i_enm C h2 (snd_E e _ X sc so W C h3).v (mE_plain T N h3)
  | .zip a b, x, X, sc, so, W, C, tg, h => by
    simp only [mI] at h
    split at h <;> first | cases h | skip
    simp only [Bool.and_eq_true] at h
    obtain ⟨⟨⟨h1, h2⟩, h3⟩, h4⟩ := h
    obtain rfl := of_decide_eq_true h1
    exact i_zip C h2 (snd_E a _ X sc so W C h3).v (snd_E b _ X sc so W C h4).v (mE_plain T N h3) (mE_plain T N h4)
  | .vals e, x, X, sc, so, W, C, tg, h => by simp [mI] at h
end
end
end PL
/-! PLSw: how several stores at once are made; the statements' matching; every matched block keeps its reckoning. -/
namespace PL
open PySem PySem.Spec PyProof.Rows L2
def swN (sc : Scope) (ts : List Expr) : List Str := ts.filterMap fun
    | .Name id pos => if sc.names.lookup id == some .local && pos.line == (ts.head?.map (·.pos.line)).getD 0 then some id else none
    | _ => none
/-- some true: the names at once; some false: by way of a pair; none: not carried -/
def swv (sc : Scope) (ts vs : List Expr) : Option Bool :=
  if (!(ts.length == 2 || ts.length == 3) || vs.length != ts.length) = true then some false
  else if vs.all plain = false then none
  else if ((swN sc ts).length != ts.length || (swN sc ts).eraseDups.length != (swN sc ts).length) = true then some false
  else if vs.all (foldedForSure 8) = true then some false
  else if vs.all (constantsAlone 8) = true then none
  else some true
theorem swN_env {env : PySem.Env} {ts : List Expr} : (ts.filterMap fun
    | .Name id pos => if env.kindOf id == some .local && pos.line == (ts.head?.map (·.pos.line)).getD 0 then some id else none
    | _ => none) = swN env.scope ts := rfl
theorem sw_none {ts vs : List Expr} {j j' : Nat} {p p' : Pos} {env : PySem.Env} (hk : env.scope.kind = .function) (h : swv env.scope ts vs = some false) : swappedStores [.Tuple ts j p] (.Tuple vs j' p') env = pure none := by
  have hb : (env.blockKind != .function) = false := by
    unfold Env.blockKind
    rw [hk]
    rfl
  unfold swv at h
  unfold swappedStores
  simp only [hb, Bool.or_false]
  split at h
  · rename_i h1
    rw [if_pos h1]
  · rename_i h1
    rw [if_neg h1]
    split at h
    · cases h
    · rename_i h2
      have h2' : vs.all plain = true := by simpa using h2
      refine (if_neg ?_).trans ?_
      · exact fun z => Bool.false_ne_true ((noStars_of h2').symm.trans z)
      split at h
      · rename_i h3
        exact if_pos h3
      · rename_i h3
        refine (if_neg h3).trans ?_
        split at h
        · rename_i h4
          exact if_pos h4
        · split at h
          · cases h
          · cases h
theorem sw_some {ts vs : List Expr} {j j' : Nat} {p p' : Pos} {env : PySem.Env} (hk : env.scope.kind = .function) (h : swv env.scope ts vs = some true) : swappedStores [.Tuple ts j p] (.Tuple vs j' p') env = pure (some (swN env.scope ts)) := by
  have hb : (env.blockKind != .function) = false := by
    unfold Env.blockKind
    rw [hk]
    rfl
  unfold swv at h
  unfold swappedStores
  simp only [hb, Bool.or_false]
  split at h
  · cases h
  · rename_i h1
    rw [if_neg h1]
    split at h
    · cases h
    · rename_i h2
      have h2' : vs.all plain = true := by simpa using h2
      refine (if_neg ?_).trans ?_
      · exact fun z => Bool.false_ne_true ((noStars_of h2').symm.trans z)
      split at h
      · cases h
      · rename_i h3
        refine (if_neg h3).trans ?_
        split at h
        · cases h
        · rename_i h4
          refine (if_neg h4).trans ?_
          split at h
          · cases h
          · rename_i h5
            exact if_neg h5

section
variable (T : Ns) (N : List Str)
def mEs2 (sc : Scope) (es : Es) (xs : List Expr) : Bool := mEs T N sc es xs
def locB (sc : Scope) (x : Str) : Bool := match sc.names.lookup x with | some .local => true | _ => false
def swYes (sc : Scope) (y : Str) (py : Pos) (scope : Scope) (pos : Pos) : Bool := locB sc y && (py.line == pos.line) && !(scope.names.any fun (n, k) => n == y && (k == .local || k == .cell))
def swNo (sc : Scope) (t x : Expr) : Bool :=
  match x with
  | .ListComp _ _ scope pos => (match t with | .Name y py => !(swYes sc y py scope pos) | _ => true)
  | _ => noComp x
def setLc (sc : Scope) (tg : Tg) (e : E) (t x : Expr) : Bool :=
  match tg, e, t, x with
  | .one i, .lc _ _ _ _, .Name y py, .ListComp _ _ scope pos => decide (N[i]? = some y) && swYes sc y py scope pos
  | _, _, _, _ => false
mutual
def mS (sc so : Scope) : S → Stmt → Bool
  | .asg tg e, st => match st with | .Assign [t] x _ => (mE T N sc e x) && (setLc N sc tg e t x || (mT N so tg t && swNo sc t x && (noTup x || isNm t))) | _ => false
  | .par is es, st => match st with
      | .Assign [.Tuple ts _ _] (.Tuple xs _ _) _ => nmT N so is ts && mEs T N sc es xs && decide (is.length ≤ 100) &&
        (match swv sc ts xs with
         | some false => true
         | some true => (match is, ts, xs with
            | [i, j], [.Name x _, .Name y _], [_, _] => decide (i ≠ j) && decide (swN sc ts = [x, y]) && locB sc x && locB sc y
            | [i, j, l], [.Name x _, .Name y _, .Name z _], [_, _, _] => decide (i ≠ j) && decide (i ≠ l) && decide (j ≠ l) && decide (swN sc ts = [x, y, z]) && locB sc x && locB sc y && locB sc z
            | _, _, _ => false)
         | none => false)
      | _ => false
  | .aug i sb e, st => match st with | .AugAssign (.Name x _) o y _ => decide (N[i]? = some x) && stoB so x && decide (o = aop sb) && mE T N sc e y | _ => false
  | .sub v i e, st => match st with | .Assign [.Subscript (.Name x _) z _] y _ => decide (N[v]? = some x) && visB sc x && nmOk x && mE T N sc e y && mE T N sc i z && noComp y && noTup y | _ => false
  | .app (.var i) e, st => match st with | .Expr (.Call (.Attribute (.Name x _) m ap) [y] [] cp) _ => decide (N[i]? = some x) && visB sc x && nmOk x && decide (m = "append") && mE T N sc e y && (ap.endLine == cp.line) | _ => false
  | .exp e, st => match st with | .Expr x _ => mE T N sc e x && noComp x | _ => false
  | .ret e, st => match st with | .Return (some x) _ => mE T N sc e x | _ => false
  | .retN, st => match st with | .Return none _ => true | _ => false
  | .ifs c a b, st => match st with | .If x p q _ => mE T N sc c x && tOk x && mSs sc so a p && mSs sc so b q | _ => false
  | .whl c b, st => match st with | .While x p [] _ => mE T N sc c x && tOk x && mSs sc so b p | _ => false
  | .for it tg b, st => match st with | .For t x p [] _ => mI T N sc it t x && mT N so tg t && mSs sc so b p && plain x | _ => false
  | .rse c o, st => match o, st with | .none, .Raise (some (.Call (.Name x _) [.Constant (.str _) _ _] [] _)) none _ => decide (x = T.cN c) && T.xs.contains c && glB sc x && nmOk x | _, _ => false
  | .nev, st => match st with | .Raise _ _ _ => true | _ => false
  | .pas, st => match st with | .Pass _ => true | _ => false
  | _, _ => false
def mSs (sc so : Scope) : Ss → List Stmt → Bool
  | .nil, l => match l with | [] => true | _ => false
  | .cons s r, l => match l with | st :: sts => mS sc so s st && mSs sc so r sts | _ => false
end
end

section
variable {X : Cx} {M : Nm} {T : Ns} {L : Lk} {Γ : Ctx} {call : Nat → List (D × Bool) → CRes} {N : List Str} {sc so : Scope} {k : Nat} {W : WX} {io : Bool} {v0 : Option V}

theorem snd_P (C : XC X M T L Γ call N sc so k W) : ∀ (es : Es) (pe : List Expr), mEs T N sc es pe = true → PA X pe ((TEp X.K M Γ call) es)
  | .nil, pe, h => by
    simp only [mEs] at h
    split at h <;> first | cases h | skip
    exact p_nil
  | .cons a r, pe, h => by
    simp only [mEs] at h
    split at h <;> first | cases h | skip
    simp only [Bool.and_eq_true] at h
    exact p_cons (snd_E a _ X sc so W C h.1).v (snd_P C r _ h.2) (mE_plain T N h.1)
theorem sole_no {t x : Expr} {l : Nat} {env : PySem.Env} (hk : env.scope.kind = .function) (h : swNo env.scope t x = true) : swapsWithSole [t] x l env = pure false := by
  unfold swNo at h
  split at h
  · rename_i a b scope pos
    split at h
    · rename_i y py
      have hb : (env.blockKind == .function) = true := by
        unfold Env.blockKind
        rw [hk]
        rfl
      have e : ((env.kindOf y == some .local) && (py.line == pos.line) && !(scope.names.any fun (n, k) => n == y && (k == .local || k == .cell))) = false := by
        rw [Bool.not_eq_true'] at h
        rw [← h]
        unfold swYes locB Env.kindOf
        congr 2
        split
        · rename_i q
          rw [q]
          rfl
        · rename_i q
          cases z : List.lookup y env.scope.names with
          | none => rfl
          | some v => cases v <;> first | rfl | exact (q z).elim
      show swapsWith (.ListComp a b scope pos) (some (.Name y py)) l env = pure false
      unfold swapsWith
      simp only [hb, Bool.true_and]
      show (pure _ : Sem Bool) = _
      rw [show (Expr.ListComp a b scope pos).pos = pos from rfl, e]
    · rename_i hn
      cases t <;> first | rfl | exact (hn _ _ rfl).elim
  · exact swaps_no h
theorem loc_sc {x : Str} (h : locB sc x = true) : sc.names.lookup x = some .local := by
  unfold locB at h
  split at h
  · assumption
  · cases h
mutual
theorem snd_S (C : XC X M T L Γ call N sc so k W) : ∀ (s : S) (st : Stmt), mS T N sc so s st = true → PS X st ((TSt X.K M Γ call io v0 W) s)
  | .asg tg e, st, h => by
    simp only [mS] at h
    split at h <;> first | cases h | skip
    simp only [Bool.and_eq_true] at h
    obtain ⟨h2, h⟩ := h
    have hk : X.env.scope.kind = .function := by rw [C.scp]; exact C.kind
    rw [Bool.or_eq_true] at h
    rcases h with h | h
    · unfold setLc at h
      split at h <;> first | cases h | skip
      simp only [Bool.and_eq_true, swYes, Bool.not_eq_true'] at h
      obtain ⟨g1, ⟨g2, g3⟩, g4⟩ := h
      simp only [mE, Bool.and_eq_true] at h2
      obtain ⟨_, h2⟩ := h2
      split at h2 <;> first | cases h2 | skip
      rename_i q
      cases q
      simp only [Bool.and_eq_true] at h2
      obtain ⟨⟨⟨⟨⟨k0, k1⟩, ⟨k2, k3⟩, knl⟩, k4⟩, k5⟩, k6⟩ := h2
      obtain rfl := of_decide_eq_true k0
      exact x_setLc C (of_decide_eq_true g1) (loc_sc g2) g3 g4 (mI_plain T N k1) (snd_I _ _ X sc so W C k1) k2 (of_decide_eq_true k3) (by simpa using knl) k4 (fun X' C' _ => snd_If _ _ X' _ _ WF C' k5) fun X' C' _ => (snd_E _ _ X' _ _ WF C' k6).v
    · simp only [Bool.and_eq_true] at h
      obtain ⟨⟨h1, h3⟩, h4⟩ := h
      exact x_asg C (snd_E e _ X sc so W C h2).v h1 (fun l => sole_no hk (by rw [C.scp]; exact h3)) (stores_nm h4)
  | .par is es, st, h => by
    simp only [mS] at h
    split at h <;> first | cases h | skip
    simp only [Bool.and_eq_true] at h
    obtain ⟨⟨⟨h1, h2⟩, h3⟩, h4⟩ := h
    have hk : X.env.scope.kind = .function := by rw [C.scp]; exact C.kind
    split at h4
    · rename_i hs
      exact x_parT C (snd_P C es _ h2) h1 (of_decide_eq_true h3) (sw_none hk (by rw [C.scp]; exact hs))
    · rename_i hs
      have hw : ∀ j1 p1 j2 p2, _ := fun j1 p1 j2 p2 => sw_some (j := j1) (p := p1) (j' := j2) (p' := p2) hk (by rw [C.scp]; exact hs)
      split at h4
      · simp only [Bool.and_eq_true] at h4
        obtain ⟨⟨⟨a, b⟩, c⟩, d⟩ := h4
        simp only [nmT, Bool.and_eq_true] at h1
        refine x_par2 C (snd_P C es _ h2) (of_decide_eq_true h1.1.1) (of_decide_eq_true h1.2.1.1) (of_decide_eq_true a) (loc_sc c) (loc_sc d) ?_
        rw [hw, C.scp, of_decide_eq_true b]
      · simp only [Bool.and_eq_true] at h4
        obtain ⟨⟨⟨⟨⟨⟨a, a2⟩, a3⟩, b⟩, c⟩, d⟩, e⟩ := h4
        simp only [nmT, Bool.and_eq_true] at h1
        refine x_par3 C (snd_P C es _ h2) (of_decide_eq_true h1.1.1) (of_decide_eq_true h1.2.1.1) (of_decide_eq_true h1.2.2.1.1) (of_decide_eq_true a) (of_decide_eq_true a2) (of_decide_eq_true a3) (loc_sc c) (loc_sc d) (loc_sc e) ?_
        rw [hw, C.scp, of_decide_eq_true b]
      · cases h4
    · cases h4
  | .aug i sb e, st, h => by
    simp only [mS] at h
    split at h <;> first | cases h | skip
    simp only [Bool.and_eq_true] at h
    obtain ⟨⟨⟨h1, h2⟩, h3⟩, h4⟩ := h
    obtain rfl := of_decide_eq_true h3
    exact x_aug C (snd_E e _ X sc so W C h4).v (of_decide_eq_true h1) h2
  | .sub v i e, st, h => by
    simp only [mS] at h
    split at h <;> first | cases h | skip
    simp only [Bool.and_eq_true] at h
    obtain ⟨⟨⟨⟨⟨⟨h1, h2⟩, h3⟩, h4⟩, h5⟩, h6⟩, h7⟩ := h
    exact x_sub C (of_decide_eq_true h1) h2 h3 (snd_E e _ X sc so W C h4).v (snd_E i _ X sc so W C h5).v (mE_plain T N h5) h6 h7
  | .swp x i j a b, st, h => by simp [mS] at h
  | .fld f e, st, h => by simp [mS] at h
  | .fld2 f g e, st, h => by simp [mS] at h
  | .app p e, st, h => by
    cases p <;> simp only [mS, Bool.false_eq_true] at h
    split at h <;> first | cases h | skip
    simp only [Bool.and_eq_true] at h
    obtain ⟨⟨⟨⟨⟨h1, h2⟩, h3⟩, h4⟩, h5⟩, h6⟩ := h
    obtain rfl := of_decide_eq_true h4
    exact x_app C (of_decide_eq_true h1) h2 h3 (snd_E e _ X sc so W C h5).v (mE_plain T N h5) h6
  | .exp e, st, h => by
    simp only [mS] at h
    split at h <;> first | cases h | skip
    simp only [Bool.and_eq_true] at h
    exact x_exp (snd_E e _ X sc so W C h.1).v h.2
  | .ret e, st, h => by
    simp only [mS] at h
    split at h <;> first | cases h | skip
    exact x_ret (snd_E e _ X sc so W C h).v
  | .retN, st, h => by
    simp only [mS] at h
    split at h <;> first | cases h | skip
    exact x_retN
  | .ifs c a b, st, h => by
    simp only [mS] at h
    split at h <;> first | cases h | skip
    simp only [Bool.and_eq_true] at h
    obtain ⟨⟨⟨h1, h2⟩, h3⟩, h4⟩ := h
    exact x_ifs ((snd_E c _ X sc so W C h1).t (tOk_of h2)) (snd_Ss C a _ h3) (snd_Ss C b _ h4)
  | .whl c b, st, h => by
    simp only [mS] at h
    split at h <;> first | cases h | skip
    simp only [Bool.and_eq_true] at h
    obtain ⟨⟨h1, h2⟩, h3⟩ := h
    exact x_whl C.own ((snd_E c _ X sc so W C h1).t (tOk_of h2)) (snd_Ss C b _ h3)
  | .for it tg b, st, h => by
    simp only [mS] at h
    split at h <;> first | cases h | skip
    simp only [Bool.and_eq_true] at h
    obtain ⟨⟨⟨h1, h2⟩, h3⟩, h4⟩ := h
    exact x_for C C.own (snd_I it _ X sc so W C h1) h2 (snd_Ss C b _ h3) h4
  | .rse c o, st, h => by
    simp only [mS] at h
    split at h <;> first | cases h | skip
    simp only [Bool.and_eq_true] at h
    obtain ⟨⟨⟨h1, h2⟩, h3⟩, h4⟩ := h
    exact x_rse0 C (of_decide_eq_true h1) (by simpa using h2) h3 h4
  | .nev, st, h => x_nev
  | .pas, st, h => by
    simp only [mS] at h
    split at h <;> first | cases h | skip
    exact x_pas
theorem snd_Ss (C : XC X M T L Γ call N sc so k W) : ∀ (s : Ss) (st : List Stmt), mSs T N sc so s st = true → PSs X st ((TSs X.K M Γ call io v0 W) s)
  | .nil, st, h => by
    simp only [mSs] at h
    split at h <;> first | cases h | skip
    exact x_nil
  | .cons s r, st, h => by
    simp only [mSs] at h
    split at h <;> first | cases h | skip
    simp only [Bool.and_eq_true] at h
    exact x_cons (snd_S C s _ h.1) (snd_Ss C r _ h.2)
end
end
end PL
/-! PLFn: a def keeps the promise of its reckoning, at every depth; a law's end. -/
namespace PL
open PySem PySem.Spec PyProof.Rows L2

/-- what is known of a def of the text -/
structure FnI (K : PySem.W.Frag) (T : Ns) (L : Lk) (Γ : Ctx) (f : Nat) : Prop where
  ex : ∃ (Fe : FnE) (N : List Str) (st : Stmt) (name qual : Str), Γ.fn f = some Fe ∧ Fun K name qual st (L.fa f) (L.fd f) ∧ FnScope N (L.ps f) (defScope st) ∧ mSs T N (defScope st) (defScope st) Fe.body (defBody st) = true ∧ Fe.np = (L.ps f).length ∧ Fe.ns = N.length ∧ (lamB T (defScope st) = true → (L.fd f).code = L.cw ∧ qual = "law")
/-- in the frame that holds lambdas -/
def LamH (base : Heap) (K : PySem.W.Frag) (mg : Str → Option Value) (M : Nm) (T : Ns) (L : Lk) (Γ : Ctx) : Prop := T.lns ≠ [] → ∀ X : Cx, X.K = K → X.mg = mg → X.base = base → X.env.code = L.cw → X.env.qual = "law" ++ ".<locals>." → LamF X M T Γ
section
variable {P : Program} {w : World} {K : PySem.W.Frag} {mg : Str → Option Value} {base : Heap} {M : Nm} {T : Ns} {L : Lk} {Γ : Ctx}
theorem callN_ar (h : ∀ f ∈ T.fs, FnI K T L Γ f) (n : Nat) : ∀ f ∈ T.fs, ∀ args, callN Γ n f args ≠ .err → args.length = (L.ps f).length := by
  intro f hf args hn
  obtain ⟨Fe, N, st, name, qual, h1, _, _, _, h5, _, _⟩ := (h f hf).ex
  cases n with
  | zero => exact (hn rfl).elim
  | succ n =>
    by_cases e : args.length = Fe.np
    · rw [← h5]
      exact e
    · refine (hn ?_).elim
      show (match Γ.fn f with | some F => body Γ (callN Γ n) F args | none => .err) = .err
      rw [h1]
      show (if args.length = Fe.np then _ else _) = _
      rw [if_neg e]
theorem fn_ok (top : Top K mg M T L Γ) (lh : LamH base K mg M T L Γ) (h : ∀ f ∈ T.fs, FnI K T L Γ f) {n k : Nat} (ih : ∀ f ∈ T.fs, FnOk P w K mg base (L2.CX P w) k (L.fa f) (L.fd f) (L.ps f) (spF K M (callN Γ n) f (L.ps f).length)) {f : Nat} (hf : f ∈ T.fs) :
    FnOk P w K mg base (L2.CX P w) (k + 4) (L.fa f) (L.fd f) (L.ps f) (spF K M (callN Γ (n + 1)) f (L.ps f).length) := by
  obtain ⟨Fe, N, st, name, qual, h1, h2, h3, h4, h5, h6, h7⟩ := (h f hf).ex
  obtain ⟨oc, od, kV, doc, pm, an, cdv, ct, osl, efd, lk, hcd⟩ := h2.ex
  rw [efd] at lk h7 ⊢
  refine fn_of lk hcd h3 (fun vs H Q E q => q.1) fun A outer s H vs Q E hr hsp => ?_
  obtain ⟨hn, F, ext, xv, args, hl, ha, sta, m⟩ := hsp
  have C : XC (cxOf (L2.CX P w) P w K mg base N qual (defScope st) (L.fa f) cdv A outer s H E) M T L Γ (callN Γ n) N (defScope st) (defScope st) k (fun cls d _ H => E cls d H) := by
    refine ⟨rfl, h3.nd, rfl, h3.kind, fun x hx => ⟨loc_of hx, .inl rfl⟩, rfl, passes_of rfl, takes_of rfl rfl rfl rfl, hr.mono (by omega), top, callN_ar h n, ih, fun z => ⟨?_, hr⟩⟩
    obtain ⟨e1, e2⟩ := h7 z
    subst e2
    refine lh (fun e => ?_) _ rfl rfl rfl e1 rfl
    unfold lamB at z
    rw [e] at z
    cases z
  refine ⟨_, snd_Ss (io := Fe.io) (v0 := vs.head?) C Fe.body _ h4, ?_⟩
  have e0 : callN Γ (n + 1) f args = body Γ (callN Γ n) Fe args := by
    show (match Γ.fn f with | some F => body Γ (callN Γ n) F args | none => .err) = _
    rw [h1]
  rw [e0] at m
  unfold body at m
  rw [if_pos (by rw [ha, h5])] at m
  have hst : Sta K M F H (ext ++ (args.map some ++ List.replicate (Fe.ns - Fe.np) none)) (xv ++ L2.start N vs) := by
    unfold L2.start
    rw [h6, h5, hn, ← List.append_assoc, ← List.append_assoc]
    exact sta.nones _
  -- the first argument, where it is changed in place
  have hpin : ∀ {env : PL.Fm} {r : D × Bool}, (match (match (if Fe.io = true then (match env[(0 : Nat)]? with | some (some (d, true)) => some (some d) | _ => none) else some none : Option (Option D)) with | some p => CRes.ret r p | none => .err) with
      | .ret r none => ∀ v F' H', Same F F' → Sta K M F' H' (some r :: ext) (some v :: xv) → Q v H'
      | .ret r (some d) => (∃ d0 rr, args = (d0, true) :: rr) ∧ ∀ v F' H', Same F F' → Sta K M F' H' (some r :: some (d, true) :: ext) (some v :: vs.head? :: xv) → Q v H'
      | .exc x none => ∀ cls d F' H', Same F F' → RepX K M F' x cls d → Sta K M F' H' ext xv → E cls d H'
      | .exc x (some d) => (∃ d0 rr, args = (d0, true) :: rr) ∧ ∀ cls dx F' H', Same F F' → RepX K M F' x cls dx → Sta K M F' H' (some (d, true) :: ext) (vs.head? :: xv) → E cls dx H'
      | .err => False) → Pin Fe.io vs.head? (L2.start N vs) ∧ ∀ v F' H' σ', Same F F' → Sta K M F' H' (some r :: (ext ++ env)) (some v :: (xv ++ σ')) → Pin Fe.io vs.head? σ' → Q v H' := by
    intro env r hm
    cases hio : Fe.io with
    | false =>
      rw [hio, if_neg Bool.false_ne_true] at hm
      simp only at hm
      refine ⟨(fun z => nomatch z), fun v F' H' σ' s' st' _ => ?_⟩
      exact hm v F' H' s' (Sta.cut (es := some r :: ext) (vs := some v :: xv) st' (by simp [hl]))
    | true =>
      rw [hio, if_pos rfl] at hm
      split at hm
      · rename_i hq
        split at hq
        · rename_i p hp
          split at hp
          · cases hp
            cases hq
          · cases hp
        · cases hq
      · rename_i r' d hq
        split at hq
        · rename_i p hp
          split at hp
          · rename_i d' he
            cases hp
            cases hq
            obtain ⟨⟨d0, rr, ea⟩, hm⟩ := hm
            have hv : ∃ v r, vs = v :: r := by
              cases vs with
              | nil =>
                subst ea
                rw [List.length_cons] at ha
                simp at hn
                omega
              | cons v r => exact ⟨v, r, rfl⟩
            obtain ⟨v1, r1, rfl⟩ := hv
            refine ⟨fun _ => rfl, fun v F' H' σ' s' st' pn => ?_⟩
            obtain ⟨x, hx, st2⟩ := sta_out (ext := some r :: ext) (xv := some v :: xv) st' (by simp [hl]) he
            have := pn rfl
            rw [hx] at this
            cases this
            obtain ⟨ra, rb⟩ := r
            refine hm v F' H' s' (Sta.cut (es := some (ra, rb) :: some (d, true) :: ext) (vs := some v :: some v1 :: xv) st2.swap (by simp [hl]))
          · cases hp
        · cases hq
      · rename_i hq
        split at hq <;> cases hq
      · rename_i hq
        split at hq <;> cases hq
      · exact hm.elim
  have hpinX : ∀ {env : PL.Fm} {x : Exn}, (match (match (if Fe.io = true then (match env[(0 : Nat)]? with | some (some (d, true)) => some (some d) | _ => none) else some none : Option (Option D)) with | some p => CRes.exc x p | none => .err) with
      | .ret r none => ∀ v F' H', Same F F' → Sta K M F' H' (some r :: ext) (some v :: xv) → Q v H'
      | .ret r (some d) => (∃ d0 rr, args = (d0, true) :: rr) ∧ ∀ v F' H', Same F F' → Sta K M F' H' (some r :: some (d, true) :: ext) (some v :: vs.head? :: xv) → Q v H'
      | .exc x none => ∀ cls d F' H', Same F F' → RepX K M F' x cls d → Sta K M F' H' ext xv → E cls d H'
      | .exc x (some d) => (∃ d0 rr, args = (d0, true) :: rr) ∧ ∀ cls dx F' H', Same F F' → RepX K M F' x cls dx → Sta K M F' H' (some (d, true) :: ext) (vs.head? :: xv) → E cls dx H'
      | .err => False) → Pin Fe.io vs.head? (L2.start N vs) ∧ ∀ cls dx F' H' σ', Same F F' → RepX K M F' x cls dx → Sta K M F' H' (ext ++ env) (xv ++ σ') → Pin Fe.io vs.head? σ' → E cls dx H' := by
    intro env x hm
    cases hio : Fe.io with
    | false =>
      rw [hio, if_neg Bool.false_ne_true] at hm
      simp only at hm
      refine ⟨(fun z => nomatch z), fun cls dx F' H' σ' s' rx st' _ => ?_⟩
      exact hm cls dx F' H' s' rx (Sta.cut (es := ext) (vs := xv) st' (by simp [hl]))
    | true =>
      rw [hio, if_pos rfl] at hm
      split at hm
      · rename_i hq
        split at hq <;> cases hq
      · rename_i hq
        split at hq <;> cases hq
      · rename_i hq
        split at hq
        · rename_i p hp
          split at hp
          · cases hp
            cases hq
          · cases hp
        · cases hq
      · rename_i x' d hq
        split at hq
        · rename_i p hp
          split at hp
          · rename_i d' he
            cases hp
            cases hq
            obtain ⟨⟨d0, rr, ea⟩, hm⟩ := hm
            have hv : ∃ v r, vs = v :: r := by
              cases vs with
              | nil =>
                subst ea
                rw [List.length_cons] at ha
                simp at hn
                omega
              | cons v r => exact ⟨v, r, rfl⟩
            obtain ⟨v1, r1, rfl⟩ := hv
            refine ⟨fun _ => rfl, fun cls dx F' H' σ' s' rx st' pn => ?_⟩
            obtain ⟨x, hx, st2⟩ := sta_out (ext := ext) (xv := xv) st' hl he
            have := pn rfl
            rw [hx] at this
            cases this
            refine hm cls dx F' H' s' rx (Sta.cut (es := some (d, true) :: ext) (vs := some v1 :: xv) st2 (by simp [hl]))
          · cases hp
        · cases hq
      · exact hm.elim
  have pin0 : Pin Fe.io vs.head? (L2.start N vs) := by
    revert m
    cases exs Γ (callN Γ n) Fe.io Fe.body (args.map some ++ List.replicate (Fe.ns - Fe.np) none) with
    | nx env => exact fun m => (hpin m).1
    | rt r env => exact fun m => (hpin m).1
    | exc x env => exact fun m => (hpinX m).1
    | err => exact fun m => m.elim
  refine ⟨F, ext, xv, _, hst, hl, pin0, ?_⟩
  revert m
  cases exs Γ (callN Γ n) Fe.io Fe.body (args.map some ++ List.replicate (Fe.ns - Fe.np) none) with
  | nx env => exact fun m F' H' σ' s' st' p' => (hpin m).2 .non F' H' σ' s' (st'.push .non) p'
  | rt r env => exact fun m v F' H' σ' s' st' p' => (hpin m).2 v F' H' σ' s' st' p'
  | exc x env => exact fun m cls d F' H' σ' s' rx st' p' => (hpinX m).2 cls d F' H' σ' s' rx st' p'
  | err => exact fun m => m.elim
theorem all_ok (top : Top K mg M T L Γ) (lh : LamH base K mg M T L Γ) (h : ∀ f ∈ T.fs, FnI K T L Γ f) : ∀ n, ∀ f ∈ T.fs, FnOk P w K mg base (L2.CX P w) (4 * n) (L.fa f) (L.fd f) (L.ps f) (spF K M (callN Γ n) f (L.ps f).length)
  | 0, f, hf => ⟨fun vs H Q E q => q.1, fun A outer s H args us vs Q E hr e0 hb r hsp => by
      obtain ⟨_, F, ext, xv, args, _, _, _, m⟩ := hsp
      exact m.elim⟩
  | n + 1, f, hf => fn_ok top lh h (all_ok top lh h n) hf
/-- a law: of the script's ints it tells True -/
def spLaw (K : PySem.W.Frag) : Sp := fun vs H Q _ => ∃ (a : Addr) (ns : List Int), vs = [.ref a] ∧ SqL K H a (ns.map V.int) ∧ ns.length ≤ 63 ∧ ∀ H', Q (.bl true) H'
theorem law_ok (htb : M.tb = []) (hlns : T.lns = []) (top : Top K mg M T L Γ) (h : ∀ f ∈ T.fs, FnI K T L Γ f) {n f : Nat} (hf : f ∈ T.fs) {p : Str} (hp : L.ps f = [p]) (PT : List Int → Prop) (law : ∀ ns : List Int, ns.length ≤ 63 → PT ns → callN Γ n f [(.scr ns, false)] = .ret (.bl true, false) none) :
    FnOk P w K mg base (L2.CX P w) (4 * n) (L.fa f) (L.fd f) [p] (fun vs H Q E => ∃ (a : Addr) (ns : List Int), vs = [.ref a] ∧ SqL K H a (ns.map V.int) ∧ ns.length ≤ 63 ∧ PT ns ∧ ∀ H', Q (.bl true) H') := by
  have F := all_ok (P := P) (w := w) (base := base) top (fun z => absurd hlns z) h n f hf
  rw [hp] at F
  refine F.imp fun vs H Q E hsp => ?_
  obtain ⟨a, ns, rfl, hS, hl, pt, q⟩ := hsp
  refine ⟨rfl, H, [], [], [(.scr ns, false)], rfl, rfl, ⟨[] ++ [], .slot (.fz (.scr hS (by unfold LIM; omega))) .nil, by simp, by simp, ⟨Same.refl H, fun z => absurd htb z⟩⟩, ?_⟩
  rw [law ns hl pt]
  intro v F' H' s' st'
  have r := st'.headF
  rw [rep_bl r]
  exact q H'
end

/-! ### laws that hand lambdas -/
section
variable {P : Program} {w : World} {K : PySem.W.Frag} {mg : Str → Option Value} {base : Heap} {M : Nm} {T : Ns} {L : Lk} {Γ : Ctx}
abbrev lamQ : Str := "law" ++ ".<locals>." ++ "<lambda>"
theorem lamH_mk {ks : Nat → Addr} {kL g c P : Addr} {st : Stmt} {dV kV doc pm cdv ct oc : Value} {an od : Option Addr} {osl : Array (Option Value)}
    (hm : mg "_law_word" = some (.ref g)) (hk : PySem.W.keepIn K (.ref g) = true) (lk : K.lookup g = some ⟨oc, od, .func (PySem.W.fnOf "_law_word" "_law_word" (defArgs st) (defBody st) (defScope st) dV kV doc pm an cdv ct), osl⟩) (hc : PySem.W.codeIn K cdv "_law_word" = true)
    (hb : Binds K (PySem.W.fnOf "_law_word" "_law_word" (defArgs st) (defBody st) (defScope st) dV kV doc pm an cdv ct) ["_law_work"] []) (hS : FnScope wdN ["_law_work"] (defScope st)) (Sg : SgO (defScope st)) (h : IsW (defBody st)) (G : WdG mg ks kL) (W : WdM K M Γ T.xs ks kL)
    (TB : LamX.TabB base mg c P) (hcw : L.cw = .ref c) (htb : M.tb = [(P, lamQ)]) : LamH base K mg M T L Γ := by
  intro _ X e1 e2 e3 e4 e5
  subst e1 e2 e3
  refine ⟨g, c, P, _, _, _, _, _, _, _, _, _, _, _, _, _, wdN, hm, hk, lk, hc, hb, hS, rfl, Sg.l0, word_gives G Sg W h, TB, by rw [e4, hcw], ?_, ?_⟩
  · rw [htb, e5]
    exact List.mem_singleton.mpr rfl
  · rw [htb, e5]
    intro p hp _
    rw [List.mem_singleton.mp hp]
/-- all but the tables -/
def noTbH (H : Hp) : Hp := fun a => match H a with
  | some (.tbl _) => none
  | o => o
theorem noTb_some {H : Hp} {a : Addr} {o : HO} (h : noTbH H a = some o) : H a = some o ∧ NoTb o := by
  unfold noTbH at h
  split at h
  · cases h
  · rename_i o' hne
    refine ⟨h, fun ps z => ?_⟩
    subst z
    exact hne _ h
theorem noTb_keep {H : Hp} {a : Addr} {o : HO} (h : H a = some o) (n : NoTb o) : noTbH H a = some o := by
  unfold noTbH
  split
  · rename_i ps e
    rw [h] at e
    cases e
    exact (n ps rfl).elim
  · exact h
theorem law_okL (lh : LamH base K mg M T L Γ) {Pt : Addr} (htb : M.tb = [(Pt, lamQ)]) (top : Top K mg M T L Γ) (h : ∀ f ∈ T.fs, FnI K T L Γ f) {n f : Nat} (hf : f ∈ T.fs) {p : Str} (hp : L.ps f = [p]) (law : ∀ ns : List Int, ns.length ≤ 63 → callN Γ n f [(.scr ns, false)] = .ret (.bl true, false) none) :
    FnOk P w K mg base (L2.CX P w) (4 * n) (L.fa f) (L.fd f) [p] (fun vs H Q E => ∃ (a : Addr) (ns : List Int), vs = [.ref a] ∧ SqL K H a (ns.map V.int) ∧ ns.length ≤ 63 ∧ H Pt = some (.tbl #[]) ∧ ∀ H', Q (.bl true) H') := by
  have F := all_ok (P := P) (w := w) (base := base) top lh h n f hf
  rw [hp] at F
  refine F.imp fun vs H Q E hsp => ?_
  obtain ⟨a, ns, rfl, hS, hl, pt, q⟩ := hsp
  have hS' : SqL K (noTbH H) a (ns.map V.int) := by
    rcases hS with (hS | ⟨o, hS⟩) | hS
    · exact .inl (.inl (noTb_keep hS fun ps z => nomatch z))
    · exact .inl (.inr ⟨o, noTb_keep hS fun ps z => nomatch z⟩)
    · exact .inr hS
  refine ⟨rfl, noTbH H, [], [], [(.scr ns, false)], rfl, rfl, ⟨[] ++ [], .slot (.fz (.scr hS' (by unfold LIM; omega))) .nil, by simp, by simp, ⟨fun a u e => (noTb_some e).1, fun _ => ⟨?_, fun a o e => (noTb_some e).2⟩⟩⟩, ?_⟩
  · rw [htb]
    intro x hx
    rw [List.mem_singleton.mp hx]
    exact LamX.TabS.nil pt
  · rw [law ns hl]
    intro v F' H' s' st'
    have r := st'.headF
    rw [rep_bl r]
    exact q H'
/-- a law's own code object and its table -/
structure CodK (K : PySem.W.Frag) (fa c P : Addr) : Prop where
  ex : ∃ (o : Obj) (fd : FuncData) (dd : Option Addr) (vs : Array Value) (sl : Array (Option Value)) (file : Str) (tf : Tok) (flags : Int) (tg : Tok) (inF : Bool) (text : Int) (tt : Tok),
    K.lookup fa = some o ∧ o.data = .func fd ∧ fd.code = .ref c ∧ K.lookup c = some ⟨.type "code", dd, .fields vs, sl⟩ ∧ vs[11]? = some (.ref P) ∧ vs.getD 11 .none = .ref P ∧ vs.getD 18 .none = .str file tf ∧ vs.getD 7 .none = .int flags tg ∧ vs.getD 9 .none = .bool inF ∧ vs.getD 10 .none = .int text tt ∧ c ≠ P
  no : K.lookup P = none
theorem CodK.hd {fa c P : Addr} {h : Heap} (C : CodK K fa c P) (X : K.In h) : PySem.W.CodeHd h c P := by
  obtain ⟨o, fd, dd, vs, sl, file, tf, flags, tg, inF, text, tt, h1, h2, h3, h4, h5, h6, h7, h8, h9, h10, h11⟩ := C.ex
  exact ⟨_, vs, file, tf, flags, tg, inF, text, tt, X _ _ h4, rfl, rfl, h5, h6, h7, h8, h9, h10, h11⟩
theorem CodK.tab {fa c P : Addr} {h : Heap} (C : CodK K fa c P) (O : LamX.OwnTab K fa h) : h.get? P = some { cls := .none, data := .fields #[] } := by
  obtain ⟨o, fd, dd, vs, sl, file, tf, flags, tg, inF, text, tt, h1, h2, h3, h4, h5, h6, h7, h8, h9, h10, h11⟩ := C.ex
  exact O c P o fd _ dd vs sl h1 h2 h3 h4 h5
end
end PL
/-! PLEq: the reckoning by equations (printed by wip/gen/eqs.py); loops stay folded. -/
namespace PL
open PySem
section

/-- while, folded -/
noncomputable def whl (Γ : Ctx) (call : Nat → List (D × Bool) → CRes) (io : Bool) (c : E) (b : Ss) (env : Fm) : Fl := whlG (fun e => ev Γ call c e) (fun e => exs Γ call io b e) env
/-- for, folded -/
noncomputable def frl (Γ : Ctx) (call : Nat → List (D × Bool) → CRes) (io : Bool) (tg : Tg) (b : Ss) (ds : List D) (env : Fm) : Fl := forF (fun d e => bnd io tg (d, false) e) (fun e => exs Γ call io b e) ds env
/-- a comprehension, folded -/
noncomputable def lcl (Γ : Ctx) (call : Nat → List (D × Bool) → CRes) (tg : Tg) (c : O) (body : E) (ds : List D) (env : Fm) (acc : List D) : Res (List D) := lcF (fun d e => bnd false tg (d, false) e) (fun e => wip e tg.ixs)
        (fun e => match c with
          | .none => .ok true e
          | .some c => (ev Γ call c e).bind fun x e => match x.1 with | .bl b => .ok b e | _ => .err)
        (fun e => (ev Γ call body e).bind fun x e => .ok x.1 e) ds env acc
@[simp] theorem ev_var (Γ : Ctx) (call : Nat → List (D × Bool) → CRes) (i : Nat) (env : Fm) : ev Γ call (.var i) env =
    match env[i]? with
    | some (some (d, o)) => .ok (d, false) (if o = true then env.set i (some (d, false)) else env)
    | _ => .err := by
  first | rfl | (simp only [ev]; done) | (simp only [ev]; rfl)
@[simp] theorem ev_cst (Γ : Ctx) (call : Nat → List (D × Bool) → CRes) (d : D) (env : Fm) : ev Γ call (.cst d) env = .ok (d, false) env := by
  first | rfl | (simp only [ev]; done) | (simp only [ev]; rfl)
@[simp] theorem ev_glb (Γ : Ctx) (call : Nat → List (D × Bool) → CRes) (g : Nat) (env : Fm) : ev Γ call (.glb g) env = Res.lift ((Γ.glb g).map fun d => (d, false)) env := by
  first | rfl | (simp only [ev]; done) | (simp only [ev]; rfl)
noncomputable def k_ev_bin2 (Γ : Ctx) (call : Nat → List (D × Bool) → CRes) (op : BOp) (x : D × Bool) (r_ : Res (D × Bool)) : Res (D × Bool) := r_.bind fun y (env : Fm) => Res.lift (biD op x.1 y.1) env
@[simp] theorem k_ev_bin2_k (Γ : Ctx) (call : Nat → List (D × Bool) → CRes) (op : BOp) (x : D × Bool) (y : D × Bool) (env : Fm) : k_ev_bin2 Γ call op x (.ok y env) = Res.lift (biD op x.1 y.1) env := rfl
@[simp] theorem k_ev_bin2_x (Γ : Ctx) (call : Nat → List (D × Bool) → CRes) (op : BOp) (x : D × Bool) (z_ : Exn) (env : Fm) : k_ev_bin2 Γ call op x (.exc z_ env) = .err := rfl
@[simp] theorem k_ev_bin2_e (Γ : Ctx) (call : Nat → List (D × Bool) → CRes) (op : BOp) (x : D × Bool) : k_ev_bin2 Γ call op x .err = .err := rfl
noncomputable def k_ev_bin1 (Γ : Ctx) (call : Nat → List (D × Bool) → CRes) (op : BOp) (b : E) (r_ : Res (D × Bool)) : Res (D × Bool) := r_.bind fun x (env : Fm) =>  k_ev_bin2 Γ call op x (ev Γ call b env)
@[simp] theorem k_ev_bin1_k (Γ : Ctx) (call : Nat → List (D × Bool) → CRes) (op : BOp) (b : E) (x : D × Bool) (env : Fm) : k_ev_bin1 Γ call op b (.ok x env) =  k_ev_bin2 Γ call op x (ev Γ call b env) := rfl
@[simp] theorem k_ev_bin1_x (Γ : Ctx) (call : Nat → List (D × Bool) → CRes) (op : BOp) (b : E) (z_ : Exn) (env : Fm) : k_ev_bin1 Γ call op b (.exc z_ env) = .err := rfl
@[simp] theorem k_ev_bin1_e (Γ : Ctx) (call : Nat → List (D × Bool) → CRes) (op : BOp) (b : E) : k_ev_bin1 Γ call op b .err = .err := rfl
@[simp] theorem ev_bin (Γ : Ctx) (call : Nat → List (D × Bool) → CRes) (op : BOp) (a : E) (b : E) (env : Fm) : ev Γ call (.bin op a b) env =  k_ev_bin1 Γ call op b (ev Γ call a env) := by
  first | rfl | (simp only [ev]; done) | (simp only [ev]; rfl)
noncomputable def k_ev_neg1 (Γ : Ctx) (call : Nat → List (D × Bool) → CRes) (r_ : Res (D × Bool)) : Res (D × Bool) := r_.bind fun x (env : Fm) => match x.1 with | .int i => .ok (.int (-i), false) env | _ => .err
@[simp] theorem k_ev_neg1_k (Γ : Ctx) (call : Nat → List (D × Bool) → CRes) (x : D × Bool) (env : Fm) : k_ev_neg1 Γ call (.ok x env) = match x.1 with | .int i => .ok (.int (-i), false) env | _ => .err := rfl
@[simp] theorem k_ev_neg1_x (Γ : Ctx) (call : Nat → List (D × Bool) → CRes) (z_ : Exn) (env : Fm) : k_ev_neg1 Γ call (.exc z_ env) = .err := rfl
@[simp] theorem k_ev_neg1_e (Γ : Ctx) (call : Nat → List (D × Bool) → CRes) : k_ev_neg1 Γ call .err = .err := rfl
@[simp] theorem ev_neg (Γ : Ctx) (call : Nat → List (D × Bool) → CRes) (a : E) (env : Fm) : ev Γ call (.neg a) env =  k_ev_neg1 Γ call (ev Γ call a env) := by
  first | rfl | (simp only [ev]; done) | (simp only [ev]; rfl)
noncomputable def k_ev_cmp2 (Γ : Ctx) (call : Nat → List (D × Bool) → CRes) (op : COp) (b : E) (x : D × Bool) (r_ : Res (D × Bool)) : Res (D × Bool) := r_.bind fun y (env : Fm) => Res.lift ((cmD op x.1 y.1).map fun b => (.bl b, false)) env
@[simp] theorem k_ev_cmp2_k (Γ : Ctx) (call : Nat → List (D × Bool) → CRes) (op : COp) (b : E) (x : D × Bool) (y : D × Bool) (env : Fm) : k_ev_cmp2 Γ call op b x (.ok y env) = Res.lift ((cmD op x.1 y.1).map fun b => (.bl b, false)) env := rfl
@[simp] theorem k_ev_cmp2_x (Γ : Ctx) (call : Nat → List (D × Bool) → CRes) (op : COp) (b : E) (x : D × Bool) (z_ : Exn) (env : Fm) : k_ev_cmp2 Γ call op b x (.exc z_ env) = .err := rfl
@[simp] theorem k_ev_cmp2_e (Γ : Ctx) (call : Nat → List (D × Bool) → CRes) (op : COp) (b : E) (x : D × Bool) : k_ev_cmp2 Γ call op b x .err = .err := rfl
noncomputable def k_ev_cmp1 (Γ : Ctx) (call : Nat → List (D × Bool) → CRes) (op : COp) (b : E) (r_ : Res (D × Bool)) : Res (D × Bool) := r_.bind fun x (env : Fm) =>  k_ev_cmp2 Γ call op b x (ev Γ call b env)
@[simp] theorem k_ev_cmp1_k (Γ : Ctx) (call : Nat → List (D × Bool) → CRes) (op : COp) (b : E) (x : D × Bool) (env : Fm) : k_ev_cmp1 Γ call op b (.ok x env) =  k_ev_cmp2 Γ call op b x (ev Γ call b env) := rfl
@[simp] theorem k_ev_cmp1_x (Γ : Ctx) (call : Nat → List (D × Bool) → CRes) (op : COp) (b : E) (z_ : Exn) (env : Fm) : k_ev_cmp1 Γ call op b (.exc z_ env) = .err := rfl
@[simp] theorem k_ev_cmp1_e (Γ : Ctx) (call : Nat → List (D × Bool) → CRes) (op : COp) (b : E) : k_ev_cmp1 Γ call op b .err = .err := rfl
@[simp] theorem ev_cmp (Γ : Ctx) (call : Nat → List (D × Bool) → CRes) (op : COp) (a : E) (b : E) (env : Fm) : ev Γ call (.cmp op a b) env =  k_ev_cmp1 Γ call op b (ev Γ call a env) := by
  first | rfl | (simp only [ev]; done) | (simp only [ev]; rfl)
noncomputable def k_ev_cmpv2 (Γ : Ctx) (call : Nat → List (D × Bool) → CRes) (op : COp) (x : Nat) (b : E) (r_ : Res (D × Bool)) : Res (D × Bool) := r_.bind fun y (env : Fm) => Res.lift ((rdv x env).bind fun d => (cmD op d y.1).map fun b => (.bl b, false)) env
@[simp] theorem k_ev_cmpv2_k (Γ : Ctx) (call : Nat → List (D × Bool) → CRes) (op : COp) (x : Nat) (b : E) (y : D × Bool) (env : Fm) : k_ev_cmpv2 Γ call op x b (.ok y env) = Res.lift ((rdv x env).bind fun d => (cmD op d y.1).map fun b => (.bl b, false)) env := rfl
@[simp] theorem k_ev_cmpv2_x (Γ : Ctx) (call : Nat → List (D × Bool) → CRes) (op : COp) (x : Nat) (b : E) (z_ : Exn) (env : Fm) : k_ev_cmpv2 Γ call op x b (.exc z_ env) = .err := rfl
@[simp] theorem k_ev_cmpv2_e (Γ : Ctx) (call : Nat → List (D × Bool) → CRes) (op : COp) (x : Nat) (b : E) : k_ev_cmpv2 Γ call op x b .err = .err := rfl
noncomputable def k_ev_cmpv1 (Γ : Ctx) (call : Nat → List (D × Bool) → CRes) (op : COp) (x : Nat) (b : E) (r_ : Res (D)) : Res (D × Bool) := r_.bind fun _ (env : Fm) =>  k_ev_cmpv2 Γ call op x b (ev Γ call b env)
@[simp] theorem k_ev_cmpv1_k (Γ : Ctx) (call : Nat → List (D × Bool) → CRes) (op : COp) (x : Nat) (b : E) (v_ : D) (env : Fm) : k_ev_cmpv1 Γ call op x b (.ok v_ env) =  k_ev_cmpv2 Γ call op x b (ev Γ call b env) := rfl
@[simp] theorem k_ev_cmpv1_x (Γ : Ctx) (call : Nat → List (D × Bool) → CRes) (op : COp) (x : Nat) (b : E) (z_ : Exn) (env : Fm) : k_ev_cmpv1 Γ call op x b (.exc z_ env) = .err := rfl
@[simp] theorem k_ev_cmpv1_e (Γ : Ctx) (call : Nat → List (D × Bool) → CRes) (op : COp) (x : Nat) (b : E) : k_ev_cmpv1 Γ call op x b .err = .err := rfl
@[simp] theorem ev_cmpv (Γ : Ctx) (call : Nat → List (D × Bool) → CRes) (op : COp) (x : Nat) (b : E) (env : Fm) : ev Γ call (.cmpv op x b) env =  k_ev_cmpv1 Γ call op x b (Res.lift (rdv x env) env) := by
  first | rfl | (simp only [ev]; done) | (simp only [ev]; rfl)
noncomputable def k_ev_chn3 (Γ : Ctx) (call : Nat → List (D × Bool) → CRes) (p : COp) (b : E) (y : D × Bool) (r_ : Res (D × Bool)) : Res (D × Bool) := r_.bind fun z (env : Fm) => Res.lift ((cmD p y.1 z.1).map fun b => (.bl b, false)) env
@[simp] theorem k_ev_chn3_k (Γ : Ctx) (call : Nat → List (D × Bool) → CRes) (p : COp) (b : E) (y : D × Bool) (z : D × Bool) (env : Fm) : k_ev_chn3 Γ call p b y (.ok z env) = Res.lift ((cmD p y.1 z.1).map fun b => (.bl b, false)) env := rfl
@[simp] theorem k_ev_chn3_x (Γ : Ctx) (call : Nat → List (D × Bool) → CRes) (p : COp) (b : E) (y : D × Bool) (z_ : Exn) (env : Fm) : k_ev_chn3 Γ call p b y (.exc z_ env) = .err := rfl
@[simp] theorem k_ev_chn3_e (Γ : Ctx) (call : Nat → List (D × Bool) → CRes) (p : COp) (b : E) (y : D × Bool) : k_ev_chn3 Γ call p b y .err = .err := rfl
noncomputable def k_ev_chn2 (Γ : Ctx) (call : Nat → List (D × Bool) → CRes) (o : COp) (p : COp) (b : E) (c : E) (x : D × Bool) (r_ : Res (D × Bool)) : Res (D × Bool) := r_.bind fun y (env : Fm) =>
      match cmD o x.1 y.1 with
      | some true =>  k_ev_chn3 Γ call p b y (ev Γ call c env)
      | some false => .ok (.bl false, false) env
      | none => .err
@[simp] theorem k_ev_chn2_k (Γ : Ctx) (call : Nat → List (D × Bool) → CRes) (o : COp) (p : COp) (b : E) (c : E) (x : D × Bool) (y : D × Bool) (env : Fm) : k_ev_chn2 Γ call o p b c x (.ok y env) =
      match cmD o x.1 y.1 with
      | some true =>  k_ev_chn3 Γ call p b y (ev Γ call c env)
      | some false => .ok (.bl false, false) env
      | none => .err := rfl
@[simp] theorem k_ev_chn2_x (Γ : Ctx) (call : Nat → List (D × Bool) → CRes) (o : COp) (p : COp) (b : E) (c : E) (x : D × Bool) (z_ : Exn) (env : Fm) : k_ev_chn2 Γ call o p b c x (.exc z_ env) = .err := rfl
@[simp] theorem k_ev_chn2_e (Γ : Ctx) (call : Nat → List (D × Bool) → CRes) (o : COp) (p : COp) (b : E) (c : E) (x : D × Bool) : k_ev_chn2 Γ call o p b c x .err = .err := rfl
noncomputable def k_ev_chn1 (Γ : Ctx) (call : Nat → List (D × Bool) → CRes) (o : COp) (p : COp) (b : E) (c : E) (r_ : Res (D × Bool)) : Res (D × Bool) := r_.bind fun x (env : Fm) =>  k_ev_chn2 Γ call o p b c x (ev Γ call b env)
@[simp] theorem k_ev_chn1_k (Γ : Ctx) (call : Nat → List (D × Bool) → CRes) (o : COp) (p : COp) (b : E) (c : E) (x : D × Bool) (env : Fm) : k_ev_chn1 Γ call o p b c (.ok x env) =  k_ev_chn2 Γ call o p b c x (ev Γ call b env) := rfl
@[simp] theorem k_ev_chn1_x (Γ : Ctx) (call : Nat → List (D × Bool) → CRes) (o : COp) (p : COp) (b : E) (c : E) (z_ : Exn) (env : Fm) : k_ev_chn1 Γ call o p b c (.exc z_ env) = .err := rfl
@[simp] theorem k_ev_chn1_e (Γ : Ctx) (call : Nat → List (D × Bool) → CRes) (o : COp) (p : COp) (b : E) (c : E) : k_ev_chn1 Γ call o p b c .err = .err := rfl
@[simp] theorem ev_chn (Γ : Ctx) (call : Nat → List (D × Bool) → CRes) (o : COp) (p : COp) (a : E) (b : E) (c : E) (env : Fm) : ev Γ call (.chn o p a b c) env =  k_ev_chn1 Γ call o p b c (ev Γ call a env) := by
  first | rfl | (simp only [ev]; done) | (simp only [ev]; rfl)
noncomputable def k_ev_din2 (Γ : Ctx) (call : Nat → List (D × Bool) → CRes) (neg : Bool) (x : D × Bool) (r_ : Res (D × Bool)) : Res (D × Bool) := r_.bind fun y (env : Fm) =>
      match x.1, y.1 with
      | .int k, .dic ks _ => .ok (.bl (if neg = true then !decide (k ∈ ks) else decide (k ∈ ks)), false) env
      | _, _ => .err
@[simp] theorem k_ev_din2_k (Γ : Ctx) (call : Nat → List (D × Bool) → CRes) (neg : Bool) (x : D × Bool) (y : D × Bool) (env : Fm) : k_ev_din2 Γ call neg x (.ok y env) =
      match x.1, y.1 with
      | .int k, .dic ks _ => .ok (.bl (if neg = true then !decide (k ∈ ks) else decide (k ∈ ks)), false) env
      | _, _ => .err := rfl
@[simp] theorem k_ev_din2_x (Γ : Ctx) (call : Nat → List (D × Bool) → CRes) (neg : Bool) (x : D × Bool) (z_ : Exn) (env : Fm) : k_ev_din2 Γ call neg x (.exc z_ env) = .err := rfl
@[simp] theorem k_ev_din2_e (Γ : Ctx) (call : Nat → List (D × Bool) → CRes) (neg : Bool) (x : D × Bool) : k_ev_din2 Γ call neg x .err = .err := rfl
noncomputable def k_ev_din1 (Γ : Ctx) (call : Nat → List (D × Bool) → CRes) (neg : Bool) (b : E) (r_ : Res (D × Bool)) : Res (D × Bool) := r_.bind fun x (env : Fm) =>  k_ev_din2 Γ call neg x (ev Γ call b env)
@[simp] theorem k_ev_din1_k (Γ : Ctx) (call : Nat → List (D × Bool) → CRes) (neg : Bool) (b : E) (x : D × Bool) (env : Fm) : k_ev_din1 Γ call neg b (.ok x env) =  k_ev_din2 Γ call neg x (ev Γ call b env) := rfl
@[simp] theorem k_ev_din1_x (Γ : Ctx) (call : Nat → List (D × Bool) → CRes) (neg : Bool) (b : E) (z_ : Exn) (env : Fm) : k_ev_din1 Γ call neg b (.exc z_ env) = .err := rfl
@[simp] theorem k_ev_din1_e (Γ : Ctx) (call : Nat → List (D × Bool) → CRes) (neg : Bool) (b : E) : k_ev_din1 Γ call neg b .err = .err := rfl
@[simp] theorem ev_din (Γ : Ctx) (call : Nat → List (D × Bool) → CRes) (neg : Bool) (a : E) (b : E) (env : Fm) : ev Γ call (.din neg a b) env =  k_ev_din1 Γ call neg b (ev Γ call a env) := by
  first | rfl | (simp only [ev]; done) | (simp only [ev]; rfl)
noncomputable def k_ev_and1 (Γ : Ctx) (call : Nat → List (D × Bool) → CRes) (b : E) (r_ : Res (D × Bool)) : Res (D × Bool) := r_.bind fun x (env : Fm) => match x.1 with | .bl true => ev Γ call b env | .bl false => .ok (.bl false, false) env | _ => .err
@[simp] theorem k_ev_and1_k (Γ : Ctx) (call : Nat → List (D × Bool) → CRes) (b : E) (x : D × Bool) (env : Fm) : k_ev_and1 Γ call b (.ok x env) = match x.1 with | .bl true => ev Γ call b env | .bl false => .ok (.bl false, false) env | _ => .err := rfl
@[simp] theorem k_ev_and1_x (Γ : Ctx) (call : Nat → List (D × Bool) → CRes) (b : E) (z_ : Exn) (env : Fm) : k_ev_and1 Γ call b (.exc z_ env) = .err := rfl
@[simp] theorem k_ev_and1_e (Γ : Ctx) (call : Nat → List (D × Bool) → CRes) (b : E) : k_ev_and1 Γ call b .err = .err := rfl
@[simp] theorem ev_and (Γ : Ctx) (call : Nat → List (D × Bool) → CRes) (a : E) (b : E) (env : Fm) : ev Γ call (.and a b) env =  k_ev_and1 Γ call b (ev Γ call a env) := by
  first | rfl | (simp only [ev]; done) | (simp only [ev]; rfl)
noncomputable def k_ev_or1 (Γ : Ctx) (call : Nat → List (D × Bool) → CRes) (b : E) (r_ : Res (D × Bool)) : Res (D × Bool) := r_.bind fun x (env : Fm) => match x.1 with | .bl true => .ok (.bl true, false) env | .bl false => ev Γ call b env | _ => .err
@[simp] theorem k_ev_or1_k (Γ : Ctx) (call : Nat → List (D × Bool) → CRes) (b : E) (x : D × Bool) (env : Fm) : k_ev_or1 Γ call b (.ok x env) = match x.1 with | .bl true => .ok (.bl true, false) env | .bl false => ev Γ call b env | _ => .err := rfl
@[simp] theorem k_ev_or1_x (Γ : Ctx) (call : Nat → List (D × Bool) → CRes) (b : E) (z_ : Exn) (env : Fm) : k_ev_or1 Γ call b (.exc z_ env) = .err := rfl
@[simp] theorem k_ev_or1_e (Γ : Ctx) (call : Nat → List (D × Bool) → CRes) (b : E) : k_ev_or1 Γ call b .err = .err := rfl
@[simp] theorem ev_or (Γ : Ctx) (call : Nat → List (D × Bool) → CRes) (a : E) (b : E) (env : Fm) : ev Γ call (.or a b) env =  k_ev_or1 Γ call b (ev Γ call a env) := by
  first | rfl | (simp only [ev]; done) | (simp only [ev]; rfl)
noncomputable def k_ev_not1 (Γ : Ctx) (call : Nat → List (D × Bool) → CRes) (r_ : Res (D × Bool)) : Res (D × Bool) := r_.bind fun x (env : Fm) => match x.1 with | .bl b => .ok (.bl (!b), false) env | _ => .err
@[simp] theorem k_ev_not1_k (Γ : Ctx) (call : Nat → List (D × Bool) → CRes) (x : D × Bool) (env : Fm) : k_ev_not1 Γ call (.ok x env) = match x.1 with | .bl b => .ok (.bl (!b), false) env | _ => .err := rfl
@[simp] theorem k_ev_not1_x (Γ : Ctx) (call : Nat → List (D × Bool) → CRes) (z_ : Exn) (env : Fm) : k_ev_not1 Γ call (.exc z_ env) = .err := rfl
@[simp] theorem k_ev_not1_e (Γ : Ctx) (call : Nat → List (D × Bool) → CRes) : k_ev_not1 Γ call .err = .err := rfl
@[simp] theorem ev_not (Γ : Ctx) (call : Nat → List (D × Bool) → CRes) (a : E) (env : Fm) : ev Γ call (.not a) env =  k_ev_not1 Γ call (ev Γ call a env) := by
  first | rfl | (simp only [ev]; done) | (simp only [ev]; rfl)
noncomputable def k_ev_ifx1 (Γ : Ctx) (call : Nat → List (D × Bool) → CRes) (a : E) (b : E) (r_ : Res (D × Bool)) : Res (D × Bool) := r_.bind fun x (env : Fm) => match x.1 with | .bl true => ev Γ call a env | .bl false => ev Γ call b env | _ => .err
@[simp] theorem k_ev_ifx1_k (Γ : Ctx) (call : Nat → List (D × Bool) → CRes) (a : E) (b : E) (x : D × Bool) (env : Fm) : k_ev_ifx1 Γ call a b (.ok x env) = match x.1 with | .bl true => ev Γ call a env | .bl false => ev Γ call b env | _ => .err := rfl
@[simp] theorem k_ev_ifx1_x (Γ : Ctx) (call : Nat → List (D × Bool) → CRes) (a : E) (b : E) (z_ : Exn) (env : Fm) : k_ev_ifx1 Γ call a b (.exc z_ env) = .err := rfl
@[simp] theorem k_ev_ifx1_e (Γ : Ctx) (call : Nat → List (D × Bool) → CRes) (a : E) (b : E) : k_ev_ifx1 Γ call a b .err = .err := rfl
@[simp] theorem ev_ifx (Γ : Ctx) (call : Nat → List (D × Bool) → CRes) (c : E) (a : E) (b : E) (env : Fm) : ev Γ call (.ifx c a b) env =  k_ev_ifx1 Γ call a b (ev Γ call c env) := by
  first | rfl | (simp only [ev]; done) | (simp only [ev]; rfl)
noncomputable def k_ev_tup1 (Γ : Ctx) (call : Nat → List (D × Bool) → CRes) (r_ : Res (List D)) : Res (D × Bool) := r_.bind fun ds (env : Fm) => if ds.length ≤ LIM then .ok (.tup ds, false) env else .err
@[simp] theorem k_ev_tup1_k (Γ : Ctx) (call : Nat → List (D × Bool) → CRes) (ds : List D) (env : Fm) : k_ev_tup1 Γ call (.ok ds env) = if ds.length ≤ LIM then .ok (.tup ds, false) env else .err := rfl
@[simp] theorem k_ev_tup1_x (Γ : Ctx) (call : Nat → List (D × Bool) → CRes) (z_ : Exn) (env : Fm) : k_ev_tup1 Γ call (.exc z_ env) = .err := rfl
@[simp] theorem k_ev_tup1_e (Γ : Ctx) (call : Nat → List (D × Bool) → CRes) : k_ev_tup1 Γ call .err = .err := rfl
@[simp] theorem ev_tup (Γ : Ctx) (call : Nat → List (D × Bool) → CRes) (es : Es) (env : Fm) : ev Γ call (.tup es) env =  k_ev_tup1 Γ call (evs Γ call es env) := by
  first | rfl | (simp only [ev]; done) | (simp only [ev]; rfl)
noncomputable def k_ev_lst1 (Γ : Ctx) (call : Nat → List (D × Bool) → CRes) (r_ : Res (List D)) : Res (D × Bool) := r_.bind fun ds (env : Fm) => if ds.length ≤ LIM then .ok (.lst ds, true) env else .err
@[simp] theorem k_ev_lst1_k (Γ : Ctx) (call : Nat → List (D × Bool) → CRes) (ds : List D) (env : Fm) : k_ev_lst1 Γ call (.ok ds env) = if ds.length ≤ LIM then .ok (.lst ds, true) env else .err := rfl
@[simp] theorem k_ev_lst1_x (Γ : Ctx) (call : Nat → List (D × Bool) → CRes) (z_ : Exn) (env : Fm) : k_ev_lst1 Γ call (.exc z_ env) = .err := rfl
@[simp] theorem k_ev_lst1_e (Γ : Ctx) (call : Nat → List (D × Bool) → CRes) : k_ev_lst1 Γ call .err = .err := rfl
@[simp] theorem ev_lst (Γ : Ctx) (call : Nat → List (D × Bool) → CRes) (es : Es) (env : Fm) : ev Γ call (.lst es) env =  k_ev_lst1 Γ call (evs Γ call es env) := by
  first | rfl | (simp only [ev]; done) | (simp only [ev]; rfl)
noncomputable def k_ev_idx2 (Γ : Ctx) (call : Nat → List (D × Bool) → CRes) (x : D × Bool) (r_ : Res (D × Bool)) : Res (D × Bool) := r_.bind fun y (env : Fm) => Res.lift ((ixD x.1 y.1).map fun d => (d, false)) env
@[simp] theorem k_ev_idx2_k (Γ : Ctx) (call : Nat → List (D × Bool) → CRes) (x : D × Bool) (y : D × Bool) (env : Fm) : k_ev_idx2 Γ call x (.ok y env) = Res.lift ((ixD x.1 y.1).map fun d => (d, false)) env := rfl
@[simp] theorem k_ev_idx2_x (Γ : Ctx) (call : Nat → List (D × Bool) → CRes) (x : D × Bool) (z_ : Exn) (env : Fm) : k_ev_idx2 Γ call x (.exc z_ env) = .err := rfl
@[simp] theorem k_ev_idx2_e (Γ : Ctx) (call : Nat → List (D × Bool) → CRes) (x : D × Bool) : k_ev_idx2 Γ call x .err = .err := rfl
noncomputable def k_ev_idx1 (Γ : Ctx) (call : Nat → List (D × Bool) → CRes) (i : E) (r_ : Res (D × Bool)) : Res (D × Bool) := r_.bind fun x (env : Fm) =>  k_ev_idx2 Γ call x (ev Γ call i env)
@[simp] theorem k_ev_idx1_k (Γ : Ctx) (call : Nat → List (D × Bool) → CRes) (i : E) (x : D × Bool) (env : Fm) : k_ev_idx1 Γ call i (.ok x env) =  k_ev_idx2 Γ call x (ev Γ call i env) := rfl
@[simp] theorem k_ev_idx1_x (Γ : Ctx) (call : Nat → List (D × Bool) → CRes) (i : E) (z_ : Exn) (env : Fm) : k_ev_idx1 Γ call i (.exc z_ env) = .err := rfl
@[simp] theorem k_ev_idx1_e (Γ : Ctx) (call : Nat → List (D × Bool) → CRes) (i : E) : k_ev_idx1 Γ call i .err = .err := rfl
@[simp] theorem ev_idx (Γ : Ctx) (call : Nat → List (D × Bool) → CRes) (a : E) (i : E) (env : Fm) : ev Γ call (.idx a i) env =  k_ev_idx1 Γ call i (ev Γ call a env) := by
  first | rfl | (simp only [ev]; done) | (simp only [ev]; rfl)
noncomputable def k_ev_idxv2 (Γ : Ctx) (call : Nat → List (D × Bool) → CRes) (x : Nat) (r_ : Res (D × Bool)) : Res (D × Bool) := r_.bind fun y (env : Fm) => Res.lift ((rdv x env).bind fun d => (ixD d y.1).map fun d => (d, false)) env
@[simp] theorem k_ev_idxv2_k (Γ : Ctx) (call : Nat → List (D × Bool) → CRes) (x : Nat) (y : D × Bool) (env : Fm) : k_ev_idxv2 Γ call x (.ok y env) = Res.lift ((rdv x env).bind fun d => (ixD d y.1).map fun d => (d, false)) env := rfl
@[simp] theorem k_ev_idxv2_x (Γ : Ctx) (call : Nat → List (D × Bool) → CRes) (x : Nat) (z_ : Exn) (env : Fm) : k_ev_idxv2 Γ call x (.exc z_ env) = .err := rfl
@[simp] theorem k_ev_idxv2_e (Γ : Ctx) (call : Nat → List (D × Bool) → CRes) (x : Nat) : k_ev_idxv2 Γ call x .err = .err := rfl
noncomputable def k_ev_idxv1 (Γ : Ctx) (call : Nat → List (D × Bool) → CRes) (x : Nat) (i : E) (r_ : Res (D)) : Res (D × Bool) := r_.bind fun _ (env : Fm) =>  k_ev_idxv2 Γ call x (ev Γ call i env)
@[simp] theorem k_ev_idxv1_k (Γ : Ctx) (call : Nat → List (D × Bool) → CRes) (x : Nat) (i : E) (v_ : D) (env : Fm) : k_ev_idxv1 Γ call x i (.ok v_ env) =  k_ev_idxv2 Γ call x (ev Γ call i env) := rfl
@[simp] theorem k_ev_idxv1_x (Γ : Ctx) (call : Nat → List (D × Bool) → CRes) (x : Nat) (i : E) (z_ : Exn) (env : Fm) : k_ev_idxv1 Γ call x i (.exc z_ env) = .err := rfl
@[simp] theorem k_ev_idxv1_e (Γ : Ctx) (call : Nat → List (D × Bool) → CRes) (x : Nat) (i : E) : k_ev_idxv1 Γ call x i .err = .err := rfl
@[simp] theorem ev_idxv (Γ : Ctx) (call : Nat → List (D × Bool) → CRes) (x : Nat) (i : E) (env : Fm) : ev Γ call (.idxv x i) env =  k_ev_idxv1 Γ call x i (Res.lift (rdv x env) env) := by
  first | rfl | (simp only [ev]; done) | (simp only [ev]; rfl)
noncomputable def k_ev_slc3 (Γ : Ctx) (call : Nat → List (D × Bool) → CRes) (x : D × Bool) (l : Option Int) (r_ : Res (Option Int)) : Res (D × Bool) := r_.bind fun h (env : Fm) => Res.lift (slD x.1 l h) env
@[simp] theorem k_ev_slc3_k (Γ : Ctx) (call : Nat → List (D × Bool) → CRes) (x : D × Bool) (l : Option Int) (h : Option Int) (env : Fm) : k_ev_slc3 Γ call x l (.ok h env) = Res.lift (slD x.1 l h) env := rfl
@[simp] theorem k_ev_slc3_x (Γ : Ctx) (call : Nat → List (D × Bool) → CRes) (x : D × Bool) (l : Option Int) (z_ : Exn) (env : Fm) : k_ev_slc3 Γ call x l (.exc z_ env) = .err := rfl
@[simp] theorem k_ev_slc3_e (Γ : Ctx) (call : Nat → List (D × Bool) → CRes) (x : D × Bool) (l : Option Int) : k_ev_slc3 Γ call x l .err = .err := rfl
noncomputable def k_ev_slc2 (Γ : Ctx) (call : Nat → List (D × Bool) → CRes) (hi : O) (x : D × Bool) (r_ : Res (Option Int)) : Res (D × Bool) := r_.bind fun l (env : Fm) =>  k_ev_slc3 Γ call x l (evo Γ call hi env)
@[simp] theorem k_ev_slc2_k (Γ : Ctx) (call : Nat → List (D × Bool) → CRes) (hi : O) (x : D × Bool) (l : Option Int) (env : Fm) : k_ev_slc2 Γ call hi x (.ok l env) =  k_ev_slc3 Γ call x l (evo Γ call hi env) := rfl
@[simp] theorem k_ev_slc2_x (Γ : Ctx) (call : Nat → List (D × Bool) → CRes) (hi : O) (x : D × Bool) (z_ : Exn) (env : Fm) : k_ev_slc2 Γ call hi x (.exc z_ env) = .err := rfl
@[simp] theorem k_ev_slc2_e (Γ : Ctx) (call : Nat → List (D × Bool) → CRes) (hi : O) (x : D × Bool) : k_ev_slc2 Γ call hi x .err = .err := rfl
noncomputable def k_ev_slc1 (Γ : Ctx) (call : Nat → List (D × Bool) → CRes) (lo : O) (hi : O) (r_ : Res (D × Bool)) : Res (D × Bool) := r_.bind fun x (env : Fm) =>  k_ev_slc2 Γ call hi x (evo Γ call lo env)
@[simp] theorem k_ev_slc1_k (Γ : Ctx) (call : Nat → List (D × Bool) → CRes) (lo : O) (hi : O) (x : D × Bool) (env : Fm) : k_ev_slc1 Γ call lo hi (.ok x env) =  k_ev_slc2 Γ call hi x (evo Γ call lo env) := rfl
@[simp] theorem k_ev_slc1_x (Γ : Ctx) (call : Nat → List (D × Bool) → CRes) (lo : O) (hi : O) (z_ : Exn) (env : Fm) : k_ev_slc1 Γ call lo hi (.exc z_ env) = .err := rfl
@[simp] theorem k_ev_slc1_e (Γ : Ctx) (call : Nat → List (D × Bool) → CRes) (lo : O) (hi : O) : k_ev_slc1 Γ call lo hi .err = .err := rfl
@[simp] theorem ev_slc (Γ : Ctx) (call : Nat → List (D × Bool) → CRes) (a : E) (lo : O) (hi : O) (env : Fm) : ev Γ call (.slc a lo hi) env =  k_ev_slc1 Γ call lo hi (ev Γ call a env) := by
  first | rfl | (simp only [ev]; done) | (simp only [ev]; rfl)
@[simp] theorem ev_atr (Γ : Ctx) (call : Nat → List (D × Bool) → CRes) (p : E) (f : Nat) (env : Fm) : ev Γ call (.atr p f) env =
    match pth Γ (.atr p f) env with
    | some (d, false) => .ok (d, false) env
    | _ => .err := by
  first | rfl | (simp only [ev]; done) | (simp only [ev]; rfl)
noncomputable def k_ev_isI1 (Γ : Ctx) (call : Nat → List (D × Bool) → CRes) (ts : List Ty) (r_ : Res (D × Bool)) : Res (D × Bool) := r_.bind fun x (env : Fm) => Res.lift ((tyD x.1).map fun l => (.bl (ts.any fun t => l.contains t), false)) env
@[simp] theorem k_ev_isI1_k (Γ : Ctx) (call : Nat → List (D × Bool) → CRes) (ts : List Ty) (x : D × Bool) (env : Fm) : k_ev_isI1 Γ call ts (.ok x env) = Res.lift ((tyD x.1).map fun l => (.bl (ts.any fun t => l.contains t), false)) env := rfl
@[simp] theorem k_ev_isI1_x (Γ : Ctx) (call : Nat → List (D × Bool) → CRes) (ts : List Ty) (z_ : Exn) (env : Fm) : k_ev_isI1 Γ call ts (.exc z_ env) = .err := rfl
@[simp] theorem k_ev_isI1_e (Γ : Ctx) (call : Nat → List (D × Bool) → CRes) (ts : List Ty) : k_ev_isI1 Γ call ts .err = .err := rfl
@[simp] theorem ev_isI (Γ : Ctx) (call : Nat → List (D × Bool) → CRes) (a : E) (ts : List Ty) (env : Fm) : ev Γ call (.isI a ts) env =  k_ev_isI1 Γ call ts (ev Γ call a env) := by
  first | rfl | (simp only [ev]; done) | (simp only [ev]; rfl)
noncomputable def k_ev_bi1 (Γ : Ctx) (call : Nat → List (D × Bool) → CRes) (b : Bi) (r_ : Res (List D)) : Res (D × Bool) := r_.bind fun ds (env : Fm) => Res.lift (biF b ds) env
@[simp] theorem k_ev_bi1_k (Γ : Ctx) (call : Nat → List (D × Bool) → CRes) (b : Bi) (ds : List D) (env : Fm) : k_ev_bi1 Γ call b (.ok ds env) = Res.lift (biF b ds) env := rfl
@[simp] theorem k_ev_bi1_x (Γ : Ctx) (call : Nat → List (D × Bool) → CRes) (b : Bi) (z_ : Exn) (env : Fm) : k_ev_bi1 Γ call b (.exc z_ env) = .err := rfl
@[simp] theorem k_ev_bi1_e (Γ : Ctx) (call : Nat → List (D × Bool) → CRes) (b : Bi) : k_ev_bi1 Γ call b .err = .err := rfl
@[simp] theorem ev_bi (Γ : Ctx) (call : Nat → List (D × Bool) → CRes) (b : Bi) (es : Es) (env : Fm) : ev Γ call (.bi b es) env =  k_ev_bi1 Γ call b (evs Γ call es env) := by
  first | rfl | (simp only [ev]; done) | (simp only [ev]; rfl)
@[simp] theorem ev_lenp (Γ : Ctx) (call : Nat → List (D × Bool) → CRes) (p : E) (env : Fm) : ev Γ call (.lenp p) env = Res.lift ((pth Γ p env).bind fun x => biF .len [x.1]) env := by
  first | rfl | (simp only [ev]; done) | (simp only [ev]; rfl)
noncomputable def k_ev_bm2 (Γ : Ctx) (call : Nat → List (D × Bool) → CRes) (m : Bm) (x : D × Bool) (r_ : Res (D × Bool)) : Res (D × Bool) := r_.bind fun y (env : Fm) => Res.lift (bmF m x.1 [y.1]) env
@[simp] theorem k_ev_bm2_k (Γ : Ctx) (call : Nat → List (D × Bool) → CRes) (m : Bm) (x : D × Bool) (y : D × Bool) (env : Fm) : k_ev_bm2 Γ call m x (.ok y env) = Res.lift (bmF m x.1 [y.1]) env := rfl
@[simp] theorem k_ev_bm2_x (Γ : Ctx) (call : Nat → List (D × Bool) → CRes) (m : Bm) (x : D × Bool) (z_ : Exn) (env : Fm) : k_ev_bm2 Γ call m x (.exc z_ env) = .err := rfl
@[simp] theorem k_ev_bm2_e (Γ : Ctx) (call : Nat → List (D × Bool) → CRes) (m : Bm) (x : D × Bool) : k_ev_bm2 Γ call m x .err = .err := rfl
noncomputable def k_ev_bm1 (Γ : Ctx) (call : Nat → List (D × Bool) → CRes) (m : Bm) (a : E) (r_ : Res (D × Bool)) : Res (D × Bool) := r_.bind fun x (env : Fm) =>  k_ev_bm2 Γ call m x (ev Γ call a env)
@[simp] theorem k_ev_bm1_k (Γ : Ctx) (call : Nat → List (D × Bool) → CRes) (m : Bm) (a : E) (x : D × Bool) (env : Fm) : k_ev_bm1 Γ call m a (.ok x env) =  k_ev_bm2 Γ call m x (ev Γ call a env) := rfl
@[simp] theorem k_ev_bm1_x (Γ : Ctx) (call : Nat → List (D × Bool) → CRes) (m : Bm) (a : E) (z_ : Exn) (env : Fm) : k_ev_bm1 Γ call m a (.exc z_ env) = .err := rfl
@[simp] theorem k_ev_bm1_e (Γ : Ctx) (call : Nat → List (D × Bool) → CRes) (m : Bm) (a : E) : k_ev_bm1 Γ call m a .err = .err := rfl
@[simp] theorem ev_bm (Γ : Ctx) (call : Nat → List (D × Bool) → CRes) (m : Bm) (o : E) (a : E) (env : Fm) : ev Γ call (.bm m o a) env =  k_ev_bm1 Γ call m a (ev Γ call o env) := by
  first | rfl | (simp only [ev]; done) | (simp only [ev]; rfl)
noncomputable def k_ev_fn1 (Γ : Ctx) (call : Nat → List (D × Bool) → CRes) (f : Nat) (r_ : Res (List D)) : Res (D × Bool) := r_.bind fun ds (env : Fm) =>
      match call f ((ds ++ Γ.dfl f).map fun d => (d, false)) with
      | .ret r none => .ok r env
      | .exc x none => .exc x env
      | _ => .err
@[simp] theorem k_ev_fn1_k (Γ : Ctx) (call : Nat → List (D × Bool) → CRes) (f : Nat) (ds : List D) (env : Fm) : k_ev_fn1 Γ call f (.ok ds env) =
      match call f ((ds ++ Γ.dfl f).map fun d => (d, false)) with
      | .ret r none => .ok r env
      | .exc x none => .exc x env
      | _ => .err := rfl
@[simp] theorem k_ev_fn1_x (Γ : Ctx) (call : Nat → List (D × Bool) → CRes) (f : Nat) (z_ : Exn) (env : Fm) : k_ev_fn1 Γ call f (.exc z_ env) = .err := rfl
@[simp] theorem k_ev_fn1_e (Γ : Ctx) (call : Nat → List (D × Bool) → CRes) (f : Nat) : k_ev_fn1 Γ call f .err = .err := rfl
@[simp] theorem ev_fn (Γ : Ctx) (call : Nat → List (D × Bool) → CRes) (f : Nat) (es : Es) (env : Fm) : ev Γ call (.fn f es) env =  k_ev_fn1 Γ call f (evs Γ call es env) := by
  first | rfl | (simp only [ev]; done) | (simp only [ev]; rfl)
noncomputable def k_ev_fnv2 (Γ : Ctx) (call : Nat → List (D × Bool) → CRes) (f : Nat) (x : Nat) (r_ : Res (List D)) : Res (D × Bool) := r_.bind fun ds (env : Fm) =>
      match env[x]? with
      | some (some (d, true)) =>
        match call f ((d, true) :: (ds ++ Γ.dfl f).map fun d => (d, false)) with
        | .ret r (some d') => .ok r (env.set x (some (d', true)))
        | .exc z (some d') => .exc z (env.set x (some (d', true)))
        | _ => .err
      | _ => .err
@[simp] theorem k_ev_fnv2_k (Γ : Ctx) (call : Nat → List (D × Bool) → CRes) (f : Nat) (x : Nat) (ds : List D) (env : Fm) : k_ev_fnv2 Γ call f x (.ok ds env) =
      match env[x]? with
      | some (some (d, true)) =>
        match call f ((d, true) :: (ds ++ Γ.dfl f).map fun d => (d, false)) with
        | .ret r (some d') => .ok r (env.set x (some (d', true)))
        | .exc z (some d') => .exc z (env.set x (some (d', true)))
        | _ => .err
      | _ => .err := rfl
@[simp] theorem k_ev_fnv2_x (Γ : Ctx) (call : Nat → List (D × Bool) → CRes) (f : Nat) (x : Nat) (z_ : Exn) (env : Fm) : k_ev_fnv2 Γ call f x (.exc z_ env) = .err := rfl
@[simp] theorem k_ev_fnv2_e (Γ : Ctx) (call : Nat → List (D × Bool) → CRes) (f : Nat) (x : Nat) : k_ev_fnv2 Γ call f x .err = .err := rfl
noncomputable def k_ev_fnv1 (Γ : Ctx) (call : Nat → List (D × Bool) → CRes) (f : Nat) (x : Nat) (es : Es) (r_ : Res (D)) : Res (D × Bool) := r_.bind fun _ (env : Fm) =>  k_ev_fnv2 Γ call f x (evs Γ call es env)
@[simp] theorem k_ev_fnv1_k (Γ : Ctx) (call : Nat → List (D × Bool) → CRes) (f : Nat) (x : Nat) (es : Es) (v_ : D) (env : Fm) : k_ev_fnv1 Γ call f x es (.ok v_ env) =  k_ev_fnv2 Γ call f x (evs Γ call es env) := rfl
@[simp] theorem k_ev_fnv1_x (Γ : Ctx) (call : Nat → List (D × Bool) → CRes) (f : Nat) (x : Nat) (es : Es) (z_ : Exn) (env : Fm) : k_ev_fnv1 Γ call f x es (.exc z_ env) = .err := rfl
@[simp] theorem k_ev_fnv1_e (Γ : Ctx) (call : Nat → List (D × Bool) → CRes) (f : Nat) (x : Nat) (es : Es) : k_ev_fnv1 Γ call f x es .err = .err := rfl
@[simp] theorem ev_fnv (Γ : Ctx) (call : Nat → List (D × Bool) → CRes) (f : Nat) (x : Nat) (es : Es) (env : Fm) : ev Γ call (.fnv f x es) env =  k_ev_fnv1 Γ call f x es (Res.lift (rdv x env) env) := by
  first | rfl | (simp only [ev]; done) | (simp only [ev]; rfl)
noncomputable def k_ev_fnk2 (Γ : Ctx) (call : Nat → List (D × Bool) → CRes) (f : Nat) (ds : List D) (r_ : Res (D × Bool)) : Res (D × Bool) := r_.bind fun y (env : Fm) =>
      match call f ((ds ++ [y.1]).map fun d => (d, false)) with
      | .ret r none => .ok r env
      | .exc x none => .exc x env
      | _ => .err
@[simp] theorem k_ev_fnk2_k (Γ : Ctx) (call : Nat → List (D × Bool) → CRes) (f : Nat) (ds : List D) (y : D × Bool) (env : Fm) : k_ev_fnk2 Γ call f ds (.ok y env) =
      match call f ((ds ++ [y.1]).map fun d => (d, false)) with
      | .ret r none => .ok r env
      | .exc x none => .exc x env
      | _ => .err := rfl
@[simp] theorem k_ev_fnk2_x (Γ : Ctx) (call : Nat → List (D × Bool) → CRes) (f : Nat) (ds : List D) (z_ : Exn) (env : Fm) : k_ev_fnk2 Γ call f ds (.exc z_ env) = .err := rfl
@[simp] theorem k_ev_fnk2_e (Γ : Ctx) (call : Nat → List (D × Bool) → CRes) (f : Nat) (ds : List D) : k_ev_fnk2 Γ call f ds .err = .err := rfl
noncomputable def k_ev_fnk1 (Γ : Ctx) (call : Nat → List (D × Bool) → CRes) (f : Nat) (k : E) (r_ : Res (List D)) : Res (D × Bool) := r_.bind fun ds (env : Fm) =>  k_ev_fnk2 Γ call f ds (ev Γ call k env)
@[simp] theorem k_ev_fnk1_k (Γ : Ctx) (call : Nat → List (D × Bool) → CRes) (f : Nat) (k : E) (ds : List D) (env : Fm) : k_ev_fnk1 Γ call f k (.ok ds env) =  k_ev_fnk2 Γ call f ds (ev Γ call k env) := rfl
@[simp] theorem k_ev_fnk1_x (Γ : Ctx) (call : Nat → List (D × Bool) → CRes) (f : Nat) (k : E) (z_ : Exn) (env : Fm) : k_ev_fnk1 Γ call f k (.exc z_ env) = .err := rfl
@[simp] theorem k_ev_fnk1_e (Γ : Ctx) (call : Nat → List (D × Bool) → CRes) (f : Nat) (k : E) : k_ev_fnk1 Γ call f k .err = .err := rfl
@[simp] theorem ev_fnk (Γ : Ctx) (call : Nat → List (D × Bool) → CRes) (f : Nat) (es : Es) (k : E) (env : Fm) : ev Γ call (.fnk f es k) env =  k_ev_fnk1 Γ call f k (evs Γ call es env) := by
  first | rfl | (simp only [ev]; done) | (simp only [ev]; rfl)
noncomputable def k_ev_mth2 (Γ : Ctx) (call : Nat → List (D × Bool) → CRes) (m : Nat) (x : D × Bool) (r_ : Res (List D)) : Res (D × Bool) := r_.bind fun ds (env : Fm) =>
      match x.1 with
      | .ins c fs vs =>
        match Γ.meth c m with
        | some f =>
          match call f ((.ins c fs vs, false) :: ds.map fun d => (d, false)) with
          | .ret r none => .ok r env
          | .exc x none => .exc x env
          | _ => .err
        | none => .err
      | _ => .err
@[simp] theorem k_ev_mth2_k (Γ : Ctx) (call : Nat → List (D × Bool) → CRes) (m : Nat) (x : D × Bool) (ds : List D) (env : Fm) : k_ev_mth2 Γ call m x (.ok ds env) =
      match x.1 with
      | .ins c fs vs =>
        match Γ.meth c m with
        | some f =>
          match call f ((.ins c fs vs, false) :: ds.map fun d => (d, false)) with
          | .ret r none => .ok r env
          | .exc x none => .exc x env
          | _ => .err
        | none => .err
      | _ => .err := rfl
@[simp] theorem k_ev_mth2_x (Γ : Ctx) (call : Nat → List (D × Bool) → CRes) (m : Nat) (x : D × Bool) (z_ : Exn) (env : Fm) : k_ev_mth2 Γ call m x (.exc z_ env) = .err := rfl
@[simp] theorem k_ev_mth2_e (Γ : Ctx) (call : Nat → List (D × Bool) → CRes) (m : Nat) (x : D × Bool) : k_ev_mth2 Γ call m x .err = .err := rfl
noncomputable def k_ev_mth1 (Γ : Ctx) (call : Nat → List (D × Bool) → CRes) (m : Nat) (es : Es) (r_ : Res (D × Bool)) : Res (D × Bool) := r_.bind fun x (env : Fm) =>  k_ev_mth2 Γ call m x (evs Γ call es env)
@[simp] theorem k_ev_mth1_k (Γ : Ctx) (call : Nat → List (D × Bool) → CRes) (m : Nat) (es : Es) (x : D × Bool) (env : Fm) : k_ev_mth1 Γ call m es (.ok x env) =  k_ev_mth2 Γ call m x (evs Γ call es env) := rfl
@[simp] theorem k_ev_mth1_x (Γ : Ctx) (call : Nat → List (D × Bool) → CRes) (m : Nat) (es : Es) (z_ : Exn) (env : Fm) : k_ev_mth1 Γ call m es (.exc z_ env) = .err := rfl
@[simp] theorem k_ev_mth1_e (Γ : Ctx) (call : Nat → List (D × Bool) → CRes) (m : Nat) (es : Es) : k_ev_mth1 Γ call m es .err = .err := rfl
@[simp] theorem ev_mth (Γ : Ctx) (call : Nat → List (D × Bool) → CRes) (o : E) (m : Nat) (es : Es) (env : Fm) : ev Γ call (.mth o m es) env =  k_ev_mth1 Γ call m es (ev Γ call o env) := by
  first | rfl | (simp only [ev]; done) | (simp only [ev]; rfl)
noncomputable def k_ev_mthp1 (Γ : Ctx) (call : Nat → List (D × Bool) → CRes) (p : E) (m : Nat) (r_ : Res (List D)) : Res (D × Bool) := r_.bind fun ds (env : Fm) =>
      match pth Γ p env with
      | some (.ins c fs vs, true) =>
        match Γ.meth c m with
        | some f =>
          match call f ((.ins c fs vs, true) :: ds.map fun d => (d, false)) with
          | .ret r (some d') => .ok r (setP Γ p d' env)
          | .exc x (some d') => .exc x (setP Γ p d' env)
          | _ => .err
        | none => .err
      | _ => .err
@[simp] theorem k_ev_mthp1_k (Γ : Ctx) (call : Nat → List (D × Bool) → CRes) (p : E) (m : Nat) (ds : List D) (env : Fm) : k_ev_mthp1 Γ call p m (.ok ds env) =
      match pth Γ p env with
      | some (.ins c fs vs, true) =>
        match Γ.meth c m with
        | some f =>
          match call f ((.ins c fs vs, true) :: ds.map fun d => (d, false)) with
          | .ret r (some d') => .ok r (setP Γ p d' env)
          | .exc x (some d') => .exc x (setP Γ p d' env)
          | _ => .err
        | none => .err
      | _ => .err := rfl
@[simp] theorem k_ev_mthp1_x (Γ : Ctx) (call : Nat → List (D × Bool) → CRes) (p : E) (m : Nat) (z_ : Exn) (env : Fm) : k_ev_mthp1 Γ call p m (.exc z_ env) = .err := rfl
@[simp] theorem k_ev_mthp1_e (Γ : Ctx) (call : Nat → List (D × Bool) → CRes) (p : E) (m : Nat) : k_ev_mthp1 Γ call p m .err = .err := rfl
@[simp] theorem ev_mthp (Γ : Ctx) (call : Nat → List (D × Bool) → CRes) (p : E) (m : Nat) (es : Es) (env : Fm) : ev Γ call (.mthp p m es) env = if es.simple = true then  k_ev_mthp1 Γ call p m (evs Γ call es env) else .err := by
  first | rfl | (simp only [ev]; done) | (simp only [ev]; rfl)
noncomputable def k_ev_new1 (Γ : Ctx) (call : Nat → List (D × Bool) → CRes) (c : Nat) (r_ : Res (List D)) : Res (D × Bool) := r_.bind fun ds (env : Fm) =>
      match Γ.init c with
      | some f =>
        match call f ((.ins c [] [], true) :: ds.map fun d => (d, false)) with
        | .ret (.non, _) (some d') => .ok (d', true) env
        | .exc x (some _) => .exc x env
        | _ => .err
      | none => .err
@[simp] theorem k_ev_new1_k (Γ : Ctx) (call : Nat → List (D × Bool) → CRes) (c : Nat) (ds : List D) (env : Fm) : k_ev_new1 Γ call c (.ok ds env) =
      match Γ.init c with
      | some f =>
        match call f ((.ins c [] [], true) :: ds.map fun d => (d, false)) with
        | .ret (.non, _) (some d') => .ok (d', true) env
        | .exc x (some _) => .exc x env
        | _ => .err
      | none => .err := rfl
@[simp] theorem k_ev_new1_x (Γ : Ctx) (call : Nat → List (D × Bool) → CRes) (c : Nat) (z_ : Exn) (env : Fm) : k_ev_new1 Γ call c (.exc z_ env) = .err := rfl
@[simp] theorem k_ev_new1_e (Γ : Ctx) (call : Nat → List (D × Bool) → CRes) (c : Nat) : k_ev_new1 Γ call c .err = .err := rfl
@[simp] theorem ev_new (Γ : Ctx) (call : Nat → List (D × Bool) → CRes) (c : Nat) (es : Es) (env : Fm) : ev Γ call (.new c es) env =  k_ev_new1 Γ call c (evs Γ call es env) := by
  first | rfl | (simp only [ev]; done) | (simp only [ev]; rfl)
noncomputable def k_ev_pop1 (Γ : Ctx) (call : Nat → List (D × Bool) → CRes) (x : Nat) (i : E) (r_ : Res (D × Bool)) : Res (D × Bool) := r_.bind fun y (env : Fm) =>
      match env[x]?, y.1 with
      | some (some (.lst l, true)), .int i =>
        match ixn l.length i with
        | some j =>
          match l[j]? with
          | some d => .ok (d, false) (env.set x (some (.lst (l.eraseIdx j), true)))
          | none => .err
        | none => .err
      | _, _ => .err
@[simp] theorem k_ev_pop1_k (Γ : Ctx) (call : Nat → List (D × Bool) → CRes) (x : Nat) (i : E) (y : D × Bool) (env : Fm) : k_ev_pop1 Γ call x i (.ok y env) =
      match env[x]?, y.1 with
      | some (some (.lst l, true)), .int i =>
        match ixn l.length i with
        | some j =>
          match l[j]? with
          | some d => .ok (d, false) (env.set x (some (.lst (l.eraseIdx j), true)))
          | none => .err
        | none => .err
      | _, _ => .err := rfl
@[simp] theorem k_ev_pop1_x (Γ : Ctx) (call : Nat → List (D × Bool) → CRes) (x : Nat) (i : E) (z_ : Exn) (env : Fm) : k_ev_pop1 Γ call x i (.exc z_ env) = .err := rfl
@[simp] theorem k_ev_pop1_e (Γ : Ctx) (call : Nat → List (D × Bool) → CRes) (x : Nat) (i : E) : k_ev_pop1 Γ call x i .err = .err := rfl
@[simp] theorem ev_pop (Γ : Ctx) (call : Nat → List (D × Bool) → CRes) (x : Nat) (i : E) (env : Fm) : ev Γ call (.pop x i) env =  k_ev_pop1 Γ call x i (ev Γ call i env) := by
  first | rfl | (simp only [ev]; done) | (simp only [ev]; rfl)
@[simp] theorem ev_wrd (Γ : Ctx) (call : Nat → List (D × Bool) → CRes) (e : E) (env : Fm) : ev Γ call (.wrd e) env =
    match (ev Γ call e env) with
    | .ok _ env => .ok (.non, false) env
    | .exc x env => Res.lift ((Γ.wd x).map fun d => (d, false)) env
    | .err => .err := by
  first | rfl | (simp only [ev]; done) | (simp only [ev]; rfl)
noncomputable def k_ev_lc2 (Γ : Ctx) (call : Nat → List (D × Bool) → CRes) (tg : Tg) (env : Fm) (r_ : Res (List D)) : Res (D × Bool) := r_.bind fun ds (e : Fm) => .ok (.lst ds, true) (rst e (frs env tg.ixs) tg.ixs)
@[simp] theorem k_ev_lc2_k (Γ : Ctx) (call : Nat → List (D × Bool) → CRes) (tg : Tg) (env : Fm) (ds : List D) (e : Fm) : k_ev_lc2 Γ call tg env (.ok ds e) = .ok (.lst ds, true) (rst e (frs env tg.ixs) tg.ixs) := rfl
@[simp] theorem k_ev_lc2_x (Γ : Ctx) (call : Nat → List (D × Bool) → CRes) (tg : Tg) (env : Fm) (z_ : Exn) (e : Fm) : k_ev_lc2 Γ call tg env (.exc z_ e) = .err := rfl
@[simp] theorem k_ev_lc2_e (Γ : Ctx) (call : Nat → List (D × Bool) → CRes) (tg : Tg) (env : Fm) : k_ev_lc2 Γ call tg env .err = .err := rfl
noncomputable def k_ev_lc1 (Γ : Ctx) (call : Nat → List (D × Bool) → CRes) (tg : Tg) (c : O) (body : E) (r_ : Res (List D)) : Res (D × Bool) := r_.bind fun items (env : Fm) =>  k_ev_lc2 Γ call tg env (lcl Γ call tg c body items (wip (frs env tg.ixs) tg.ixs) [])
@[simp] theorem k_ev_lc1_k (Γ : Ctx) (call : Nat → List (D × Bool) → CRes) (tg : Tg) (c : O) (body : E) (items : List D) (env : Fm) : k_ev_lc1 Γ call tg c body (.ok items env) =  k_ev_lc2 Γ call tg env (lcl Γ call tg c body items (wip (frs env tg.ixs) tg.ixs) []) := rfl
@[simp] theorem k_ev_lc1_x (Γ : Ctx) (call : Nat → List (D × Bool) → CRes) (tg : Tg) (c : O) (body : E) (z_ : Exn) (env : Fm) : k_ev_lc1 Γ call tg c body (.exc z_ env) = .err := rfl
@[simp] theorem k_ev_lc1_e (Γ : Ctx) (call : Nat → List (D × Bool) → CRes) (tg : Tg) (c : O) (body : E) : k_ev_lc1 Γ call tg c body .err = .err := rfl
@[simp] theorem ev_lc (Γ : Ctx) (call : Nat → List (D × Bool) → CRes) (it : Src) (tg : Tg) (c : O) (body : E) (env : Fm) : ev Γ call (.lc it tg c body) env =  k_ev_lc1 Γ call tg c body (evi Γ call it env) := by
  first | rfl | (simp only [ev]; done) | (simp only [ev]; rfl)
@[simp] theorem ev_lc2 (Γ : Ctx) (call : Nat → List (D × Bool) → CRes) (it : Src) (tg : Tg) (it2 : Src) (tg2 : Tg) (body : E) (env : Fm) : ev Γ call (.lc2 it tg it2 tg2 body) env = .err := by
  first | rfl | (simp only [ev]; done) | (simp only [ev]; rfl)
@[simp] theorem ev_dc (Γ : Ctx) (call : Nat → List (D × Bool) → CRes) (it : Src) (tg : Tg) (k : E) (v : E) (env : Fm) : ev Γ call (.dc it tg k v) env = .err := by
  first | rfl | (simp only [ev]; done) | (simp only [ev]; rfl)
@[simp] theorem evs_nil (Γ : Ctx) (call : Nat → List (D × Bool) → CRes) (env : Fm) : evs Γ call .nil env = .ok [] env := by
  first | rfl | (simp only [evs]; done) | (simp only [evs]; rfl)
noncomputable def k_evs_cons2 (Γ : Ctx) (call : Nat → List (D × Bool) → CRes) (x : D × Bool) (r_ : Res (List D)) : Res (List D) := r_.bind fun ds (env : Fm) => .ok (x.1 :: ds) env
@[simp] theorem k_evs_cons2_k (Γ : Ctx) (call : Nat → List (D × Bool) → CRes) (x : D × Bool) (ds : List D) (env : Fm) : k_evs_cons2 Γ call x (.ok ds env) = .ok (x.1 :: ds) env := rfl
@[simp] theorem k_evs_cons2_x (Γ : Ctx) (call : Nat → List (D × Bool) → CRes) (x : D × Bool) (z_ : Exn) (env : Fm) : k_evs_cons2 Γ call x (.exc z_ env) = .err := rfl
@[simp] theorem k_evs_cons2_e (Γ : Ctx) (call : Nat → List (D × Bool) → CRes) (x : D × Bool) : k_evs_cons2 Γ call x .err = .err := rfl
noncomputable def k_evs_cons1 (Γ : Ctx) (call : Nat → List (D × Bool) → CRes) (es : Es) (r_ : Res (D × Bool)) : Res (List D) := r_.bind fun x (env : Fm) =>  k_evs_cons2 Γ call x (evs Γ call es env)
@[simp] theorem k_evs_cons1_k (Γ : Ctx) (call : Nat → List (D × Bool) → CRes) (es : Es) (x : D × Bool) (env : Fm) : k_evs_cons1 Γ call es (.ok x env) =  k_evs_cons2 Γ call x (evs Γ call es env) := rfl
@[simp] theorem k_evs_cons1_x (Γ : Ctx) (call : Nat → List (D × Bool) → CRes) (es : Es) (z_ : Exn) (env : Fm) : k_evs_cons1 Γ call es (.exc z_ env) = .err := rfl
@[simp] theorem k_evs_cons1_e (Γ : Ctx) (call : Nat → List (D × Bool) → CRes) (es : Es) : k_evs_cons1 Γ call es .err = .err := rfl
@[simp] theorem evs_cons (Γ : Ctx) (call : Nat → List (D × Bool) → CRes) (e : E) (es : Es) (env : Fm) : evs Γ call (.cons e es) env =  k_evs_cons1 Γ call es (ev Γ call e env) := by
  first | rfl | (simp only [evs]; done) | (simp only [evs]; rfl)
@[simp] theorem evo_none (Γ : Ctx) (call : Nat → List (D × Bool) → CRes) (env : Fm) : evo Γ call .none env = .ok none env := by
  first | rfl | (simp only [evo]; done) | (simp only [evo]; rfl)
noncomputable def k_evo_some1 (Γ : Ctx) (call : Nat → List (D × Bool) → CRes) (r_ : Res (D × Bool)) : Res (Option Int) := r_.bind fun x (env : Fm) => match x.1 with | .int i => .ok (some i) env | _ => .err
@[simp] theorem k_evo_some1_k (Γ : Ctx) (call : Nat → List (D × Bool) → CRes) (x : D × Bool) (env : Fm) : k_evo_some1 Γ call (.ok x env) = match x.1 with | .int i => .ok (some i) env | _ => .err := rfl
@[simp] theorem k_evo_some1_x (Γ : Ctx) (call : Nat → List (D × Bool) → CRes) (z_ : Exn) (env : Fm) : k_evo_some1 Γ call (.exc z_ env) = .err := rfl
@[simp] theorem k_evo_some1_e (Γ : Ctx) (call : Nat → List (D × Bool) → CRes) : k_evo_some1 Γ call .err = .err := rfl
@[simp] theorem evo_some (Γ : Ctx) (call : Nat → List (D × Bool) → CRes) (e : E) (env : Fm) : evo Γ call (.some e) env =  k_evo_some1 Γ call (ev Γ call e env) := by
  first | rfl | (simp only [evo]; done) | (simp only [evo]; rfl)
noncomputable def k_evi_seq1 (Γ : Ctx) (call : Nat → List (D × Bool) → CRes) (r_ : Res (D × Bool)) : Res (List D) := r_.bind fun x (env : Fm) => match x.1 with | .lst l => .ok l env | .tup l => .ok l env | .str s => .ok (s.cps.toList.map fun c => .str ⟨#[c]⟩) env | _ => .err
@[simp] theorem k_evi_seq1_k (Γ : Ctx) (call : Nat → List (D × Bool) → CRes) (x : D × Bool) (env : Fm) : k_evi_seq1 Γ call (.ok x env) = match x.1 with | .lst l => .ok l env | .tup l => .ok l env | .str s => .ok (s.cps.toList.map fun c => .str ⟨#[c]⟩) env | _ => .err := rfl
@[simp] theorem k_evi_seq1_x (Γ : Ctx) (call : Nat → List (D × Bool) → CRes) (z_ : Exn) (env : Fm) : k_evi_seq1 Γ call (.exc z_ env) = .err := rfl
@[simp] theorem k_evi_seq1_e (Γ : Ctx) (call : Nat → List (D × Bool) → CRes) : k_evi_seq1 Γ call .err = .err := rfl
@[simp] theorem evi_seq (Γ : Ctx) (call : Nat → List (D × Bool) → CRes) (e : E) (env : Fm) : evi Γ call (.seq e) env =  k_evi_seq1 Γ call (ev Γ call e env) := by
  first | rfl | (simp only [evi]; done) | (simp only [evi]; rfl)
@[simp] theorem evi_pek (Γ : Ctx) (call : Nat → List (D × Bool) → CRes) (p : E) (env : Fm) : evi Γ call (.pek p) env = .err := by
  first | rfl | (simp only [evi]; done) | (simp only [evi]; rfl)
noncomputable def k_evi_rng11 (Γ : Ctx) (call : Nat → List (D × Bool) → CRes) (r_ : Res (D × Bool)) : Res (List D) := r_.bind fun x (env : Fm) => match x.1 with | .int n => if -100000000 ≤ n ∧ n ≤ 100000000 then .ok (rgD 0 n) env else .err | _ => .err
@[simp] theorem k_evi_rng11_k (Γ : Ctx) (call : Nat → List (D × Bool) → CRes) (x : D × Bool) (env : Fm) : k_evi_rng11 Γ call (.ok x env) = match x.1 with | .int n => if -100000000 ≤ n ∧ n ≤ 100000000 then .ok (rgD 0 n) env else .err | _ => .err := rfl
@[simp] theorem k_evi_rng11_x (Γ : Ctx) (call : Nat → List (D × Bool) → CRes) (z_ : Exn) (env : Fm) : k_evi_rng11 Γ call (.exc z_ env) = .err := rfl
@[simp] theorem k_evi_rng11_e (Γ : Ctx) (call : Nat → List (D × Bool) → CRes) : k_evi_rng11 Γ call .err = .err := rfl
@[simp] theorem evi_rng1 (Γ : Ctx) (call : Nat → List (D × Bool) → CRes) (e : E) (env : Fm) : evi Γ call (.rng1 e) env =  k_evi_rng11 Γ call (ev Γ call e env) := by
  first | rfl | (simp only [evi]; done) | (simp only [evi]; rfl)
noncomputable def k_evi_rng22 (Γ : Ctx) (call : Nat → List (D × Bool) → CRes) (x : D × Bool) (r_ : Res (D × Bool)) : Res (List D) := r_.bind fun y (env : Fm) => match x.1, y.1 with
      | .int i, .int j => if -100000000 ≤ i ∧ i ≤ 100000000 ∧ -100000000 ≤ j ∧ j ≤ 100000000 then .ok (rgD i j) env else .err
      | _, _ => .err
@[simp] theorem k_evi_rng22_k (Γ : Ctx) (call : Nat → List (D × Bool) → CRes) (x : D × Bool) (y : D × Bool) (env : Fm) : k_evi_rng22 Γ call x (.ok y env) = match x.1, y.1 with
      | .int i, .int j => if -100000000 ≤ i ∧ i ≤ 100000000 ∧ -100000000 ≤ j ∧ j ≤ 100000000 then .ok (rgD i j) env else .err
      | _, _ => .err := rfl
@[simp] theorem k_evi_rng22_x (Γ : Ctx) (call : Nat → List (D × Bool) → CRes) (x : D × Bool) (z_ : Exn) (env : Fm) : k_evi_rng22 Γ call x (.exc z_ env) = .err := rfl
@[simp] theorem k_evi_rng22_e (Γ : Ctx) (call : Nat → List (D × Bool) → CRes) (x : D × Bool) : k_evi_rng22 Γ call x .err = .err := rfl
noncomputable def k_evi_rng21 (Γ : Ctx) (call : Nat → List (D × Bool) → CRes) (b : E) (r_ : Res (D × Bool)) : Res (List D) := r_.bind fun x (env : Fm) =>  k_evi_rng22 Γ call x (ev Γ call b env)
@[simp] theorem k_evi_rng21_k (Γ : Ctx) (call : Nat → List (D × Bool) → CRes) (b : E) (x : D × Bool) (env : Fm) : k_evi_rng21 Γ call b (.ok x env) =  k_evi_rng22 Γ call x (ev Γ call b env) := rfl
@[simp] theorem k_evi_rng21_x (Γ : Ctx) (call : Nat → List (D × Bool) → CRes) (b : E) (z_ : Exn) (env : Fm) : k_evi_rng21 Γ call b (.exc z_ env) = .err := rfl
@[simp] theorem k_evi_rng21_e (Γ : Ctx) (call : Nat → List (D × Bool) → CRes) (b : E) : k_evi_rng21 Γ call b .err = .err := rfl
@[simp] theorem evi_rng2 (Γ : Ctx) (call : Nat → List (D × Bool) → CRes) (a : E) (b : E) (env : Fm) : evi Γ call (.rng2 a b) env =  k_evi_rng21 Γ call b (ev Γ call a env) := by
  first | rfl | (simp only [evi]; done) | (simp only [evi]; rfl)
noncomputable def k_evi_enm1 (Γ : Ctx) (call : Nat → List (D × Bool) → CRes) (r_ : Res (D × Bool)) : Res (List D) := r_.bind fun x (env : Fm) =>
      match x.1 with
      | .lst l => .ok ((rgD 0 l.length).zipWith (fun a b => .tup [a, b]) l) env
      | .tup l => .ok ((rgD 0 l.length).zipWith (fun a b => .tup [a, b]) l) env
      | _ => .err
@[simp] theorem k_evi_enm1_k (Γ : Ctx) (call : Nat → List (D × Bool) → CRes) (x : D × Bool) (env : Fm) : k_evi_enm1 Γ call (.ok x env) =
      match x.1 with
      | .lst l => .ok ((rgD 0 l.length).zipWith (fun a b => .tup [a, b]) l) env
      | .tup l => .ok ((rgD 0 l.length).zipWith (fun a b => .tup [a, b]) l) env
      | _ => .err := rfl
@[simp] theorem k_evi_enm1_x (Γ : Ctx) (call : Nat → List (D × Bool) → CRes) (z_ : Exn) (env : Fm) : k_evi_enm1 Γ call (.exc z_ env) = .err := rfl
@[simp] theorem k_evi_enm1_e (Γ : Ctx) (call : Nat → List (D × Bool) → CRes) : k_evi_enm1 Γ call .err = .err := rfl
@[simp] theorem evi_enm (Γ : Ctx) (call : Nat → List (D × Bool) → CRes) (e : E) (env : Fm) : evi Γ call (.enm e) env =  k_evi_enm1 Γ call (ev Γ call e env) := by
  first | rfl | (simp only [evi]; done) | (simp only [evi]; rfl)
noncomputable def k_evi_zip2 (Γ : Ctx) (call : Nat → List (D × Bool) → CRes) (a : E) (b : E) (x : D × Bool) (r_ : Res (D × Bool)) : Res (List D) := r_.bind fun y (env : Fm) =>
      match x.1, y.1 with
      | .lst l, .lst m => .ok (l.zipWith (fun a b => .tup [a, b]) m) env
      | .tup l, .tup m => .ok (l.zipWith (fun a b => .tup [a, b]) m) env
      | .lst l, .tup m => .ok (l.zipWith (fun a b => .tup [a, b]) m) env
      | .tup l, .lst m => .ok (l.zipWith (fun a b => .tup [a, b]) m) env
      | _, _ => .err
@[simp] theorem k_evi_zip2_k (Γ : Ctx) (call : Nat → List (D × Bool) → CRes) (a : E) (b : E) (x : D × Bool) (y : D × Bool) (env : Fm) : k_evi_zip2 Γ call a b x (.ok y env) =
      match x.1, y.1 with
      | .lst l, .lst m => .ok (l.zipWith (fun a b => .tup [a, b]) m) env
      | .tup l, .tup m => .ok (l.zipWith (fun a b => .tup [a, b]) m) env
      | .lst l, .tup m => .ok (l.zipWith (fun a b => .tup [a, b]) m) env
      | .tup l, .lst m => .ok (l.zipWith (fun a b => .tup [a, b]) m) env
      | _, _ => .err := rfl
@[simp] theorem k_evi_zip2_x (Γ : Ctx) (call : Nat → List (D × Bool) → CRes) (a : E) (b : E) (x : D × Bool) (z_ : Exn) (env : Fm) : k_evi_zip2 Γ call a b x (.exc z_ env) = .err := rfl
@[simp] theorem k_evi_zip2_e (Γ : Ctx) (call : Nat → List (D × Bool) → CRes) (a : E) (b : E) (x : D × Bool) : k_evi_zip2 Γ call a b x .err = .err := rfl
noncomputable def k_evi_zip1 (Γ : Ctx) (call : Nat → List (D × Bool) → CRes) (a : E) (b : E) (r_ : Res (D × Bool)) : Res (List D) := r_.bind fun x (env : Fm) =>  k_evi_zip2 Γ call a b x (ev Γ call b env)
@[simp] theorem k_evi_zip1_k (Γ : Ctx) (call : Nat → List (D × Bool) → CRes) (a : E) (b : E) (x : D × Bool) (env : Fm) : k_evi_zip1 Γ call a b (.ok x env) =  k_evi_zip2 Γ call a b x (ev Γ call b env) := rfl
@[simp] theorem k_evi_zip1_x (Γ : Ctx) (call : Nat → List (D × Bool) → CRes) (a : E) (b : E) (z_ : Exn) (env : Fm) : k_evi_zip1 Γ call a b (.exc z_ env) = .err := rfl
@[simp] theorem k_evi_zip1_e (Γ : Ctx) (call : Nat → List (D × Bool) → CRes) (a : E) (b : E) : k_evi_zip1 Γ call a b .err = .err := rfl
@[simp] theorem evi_zip (Γ : Ctx) (call : Nat → List (D × Bool) → CRes) (a : E) (b : E) (env : Fm) : evi Γ call (.zip a b) env =  k_evi_zip1 Γ call a b (ev Γ call a env) := by
  first | rfl | (simp only [evi]; done) | (simp only [evi]; rfl)
@[simp] theorem evi_vals (Γ : Ctx) (call : Nat → List (D × Bool) → CRes) (e : E) (env : Fm) : evi Γ call (.vals e) env = .err := by
  first | rfl | (simp only [evi]; done) | (simp only [evi]; rfl)
@[simp] theorem evp_nil (Γ : Ctx) (call : Nat → List (D × Bool) → CRes) (env : Fm) : evp Γ call .nil env = .ok [] env := by
  first | rfl | (simp only [evp]; done) | (simp only [evp]; rfl)
noncomputable def k_evp_cons2 (Γ : Ctx) (call : Nat → List (D × Bool) → CRes) (x : D × Bool) (r_ : Res (List (D × Bool))) : Res (List (D × Bool)) := r_.bind fun ds (env : Fm) => .ok (x :: ds) env
@[simp] theorem k_evp_cons2_k (Γ : Ctx) (call : Nat → List (D × Bool) → CRes) (x : D × Bool) (ds : List (D × Bool)) (env : Fm) : k_evp_cons2 Γ call x (.ok ds env) = .ok (x :: ds) env := rfl
@[simp] theorem k_evp_cons2_x (Γ : Ctx) (call : Nat → List (D × Bool) → CRes) (x : D × Bool) (z_ : Exn) (env : Fm) : k_evp_cons2 Γ call x (.exc z_ env) = .err := rfl
@[simp] theorem k_evp_cons2_e (Γ : Ctx) (call : Nat → List (D × Bool) → CRes) (x : D × Bool) : k_evp_cons2 Γ call x .err = .err := rfl
noncomputable def k_evp_cons1 (Γ : Ctx) (call : Nat → List (D × Bool) → CRes) (es : Es) (r_ : Res (D × Bool)) : Res (List (D × Bool)) := r_.bind fun x (env : Fm) =>  k_evp_cons2 Γ call x (evp Γ call es env)
@[simp] theorem k_evp_cons1_k (Γ : Ctx) (call : Nat → List (D × Bool) → CRes) (es : Es) (x : D × Bool) (env : Fm) : k_evp_cons1 Γ call es (.ok x env) =  k_evp_cons2 Γ call x (evp Γ call es env) := rfl
@[simp] theorem k_evp_cons1_x (Γ : Ctx) (call : Nat → List (D × Bool) → CRes) (es : Es) (z_ : Exn) (env : Fm) : k_evp_cons1 Γ call es (.exc z_ env) = .err := rfl
@[simp] theorem k_evp_cons1_e (Γ : Ctx) (call : Nat → List (D × Bool) → CRes) (es : Es) : k_evp_cons1 Γ call es .err = .err := rfl
@[simp] theorem evp_cons (Γ : Ctx) (call : Nat → List (D × Bool) → CRes) (e : E) (es : Es) (env : Fm) : evp Γ call (.cons e es) env =  k_evp_cons1 Γ call es (ev Γ call e env) := by
  first | rfl | (simp only [evp]; done) | (simp only [evp]; rfl)
noncomputable def k_ex_asg1 (Γ : Ctx) (call : Nat → List (D × Bool) → CRes) (io : Bool) (tg : Tg) (r_ : Res (D × Bool)) : Fl := r_.fl fun r (env : Fm) =>
      match bnd io tg r env with
      | some env => .nx env
      | none => .err
@[simp] theorem k_ex_asg1_k (Γ : Ctx) (call : Nat → List (D × Bool) → CRes) (io : Bool) (tg : Tg) (r : D × Bool) (env : Fm) : k_ex_asg1 Γ call io tg (.ok r env) =
      match bnd io tg r env with
      | some env => .nx env
      | none => .err := rfl
@[simp] theorem k_ex_asg1_x (Γ : Ctx) (call : Nat → List (D × Bool) → CRes) (io : Bool) (tg : Tg) (z_ : Exn) (env : Fm) : k_ex_asg1 Γ call io tg (.exc z_ env) = .exc z_ env := rfl
@[simp] theorem k_ex_asg1_e (Γ : Ctx) (call : Nat → List (D × Bool) → CRes) (io : Bool) (tg : Tg) : k_ex_asg1 Γ call io tg .err = .err := rfl
@[simp] theorem ex_asg (Γ : Ctx) (call : Nat → List (D × Bool) → CRes) (io : Bool) (tg : Tg) (e : E) (env : Fm) : ex Γ call io (.asg tg e) env =  k_ex_asg1 Γ call io tg (ev Γ call e env) := by
  first | rfl | (simp only [ex]; done) | (simp only [ex]; rfl)
noncomputable def k_ex_par1 (Γ : Ctx) (call : Nat → List (D × Bool) → CRes) (io : Bool) (is : List Nat) (r_ : Res (List (D × Bool))) : Fl := r_.flN fun rs (env : Fm) =>
      if rs.length = is.length ∧ (io = true → 0 ∉ is) then .nx ((is.zip rs).foldl (fun e p => e.set p.1 (some p.2)) env) else .err
@[simp] theorem k_ex_par1_k (Γ : Ctx) (call : Nat → List (D × Bool) → CRes) (io : Bool) (is : List Nat) (rs : List (D × Bool)) (env : Fm) : k_ex_par1 Γ call io is (.ok rs env) =
      if rs.length = is.length ∧ (io = true → 0 ∉ is) then .nx ((is.zip rs).foldl (fun e p => e.set p.1 (some p.2)) env) else .err := rfl
@[simp] theorem k_ex_par1_x (Γ : Ctx) (call : Nat → List (D × Bool) → CRes) (io : Bool) (is : List Nat) (z_ : Exn) (env : Fm) : k_ex_par1 Γ call io is (.exc z_ env) = .err := rfl
@[simp] theorem k_ex_par1_e (Γ : Ctx) (call : Nat → List (D × Bool) → CRes) (io : Bool) (is : List Nat) : k_ex_par1 Γ call io is .err = .err := rfl
@[simp] theorem ex_par (Γ : Ctx) (call : Nat → List (D × Bool) → CRes) (io : Bool) (is : List Nat) (es : Es) (env : Fm) : ex Γ call io (.par is es) env =  k_ex_par1 Γ call io is (evp Γ call es env) := by
  first | rfl | (simp only [ex]; done) | (simp only [ex]; rfl)
noncomputable def k_ex_aug1 (Γ : Ctx) (call : Nat → List (D × Bool) → CRes) (io : Bool) (i : Nat) (sb : Bool) (a : Int) (r_ : Res (D × Bool)) : Fl := r_.flN fun r (env : Fm) =>
        match r.1 with
        | .int b => if io = true ∧ i = 0 then .err else .nx (env.set i (some (.int (if sb = true then a - b else a + b), false)))
        | _ => .err
@[simp] theorem k_ex_aug1_k (Γ : Ctx) (call : Nat → List (D × Bool) → CRes) (io : Bool) (i : Nat) (sb : Bool) (a : Int) (r : D × Bool) (env : Fm) : k_ex_aug1 Γ call io i sb a (.ok r env) =
        match r.1 with
        | .int b => if io = true ∧ i = 0 then .err else .nx (env.set i (some (.int (if sb = true then a - b else a + b), false)))
        | _ => .err := rfl
@[simp] theorem k_ex_aug1_x (Γ : Ctx) (call : Nat → List (D × Bool) → CRes) (io : Bool) (i : Nat) (sb : Bool) (a : Int) (z_ : Exn) (env : Fm) : k_ex_aug1 Γ call io i sb a (.exc z_ env) = .err := rfl
@[simp] theorem k_ex_aug1_e (Γ : Ctx) (call : Nat → List (D × Bool) → CRes) (io : Bool) (i : Nat) (sb : Bool) (a : Int) : k_ex_aug1 Γ call io i sb a .err = .err := rfl
@[simp] theorem ex_aug (Γ : Ctx) (call : Nat → List (D × Bool) → CRes) (io : Bool) (i : Nat) (sb : Bool) (e : E) (env : Fm) : ex Γ call io (.aug i sb e) env =
    match rdv i env with
    | some (.int a) =>  k_ex_aug1 Γ call io i sb a (ev Γ call e env)
    | _ => .err := by
  first | rfl | (simp only [ex]; done) | (simp only [ex]; rfl)
noncomputable def k_ex_sub2 (Γ : Ctx) (call : Nat → List (D × Bool) → CRes) (io : Bool) (x : Nat) (i : E) (r : D × Bool) (r_ : Res (D × Bool)) : Fl := r_.flN fun y (env : Fm) =>
        match env[x]?, y.1 with
        | some (some (.lst l, true)), .int i =>
          match setI l i r.1 with
          | some l' => .nx (env.set x (some (.lst l', true)))
          | none => .err
        | _, _ => .err
@[simp] theorem k_ex_sub2_k (Γ : Ctx) (call : Nat → List (D × Bool) → CRes) (io : Bool) (x : Nat) (i : E) (r : D × Bool) (y : D × Bool) (env : Fm) : k_ex_sub2 Γ call io x i r (.ok y env) =
        match env[x]?, y.1 with
        | some (some (.lst l, true)), .int i =>
          match setI l i r.1 with
          | some l' => .nx (env.set x (some (.lst l', true)))
          | none => .err
        | _, _ => .err := rfl
@[simp] theorem k_ex_sub2_x (Γ : Ctx) (call : Nat → List (D × Bool) → CRes) (io : Bool) (x : Nat) (i : E) (r : D × Bool) (z_ : Exn) (env : Fm) : k_ex_sub2 Γ call io x i r (.exc z_ env) = .err := rfl
@[simp] theorem k_ex_sub2_e (Γ : Ctx) (call : Nat → List (D × Bool) → CRes) (io : Bool) (x : Nat) (i : E) (r : D × Bool) : k_ex_sub2 Γ call io x i r .err = .err := rfl
noncomputable def k_ex_sub1 (Γ : Ctx) (call : Nat → List (D × Bool) → CRes) (io : Bool) (x : Nat) (i : E) (r_ : Res (D × Bool)) : Fl := r_.flN fun r (env : Fm) =>
      match rdv x env with
      | some _ =>  k_ex_sub2 Γ call io x i r (ev Γ call i env)
      | none => .err
@[simp] theorem k_ex_sub1_k (Γ : Ctx) (call : Nat → List (D × Bool) → CRes) (io : Bool) (x : Nat) (i : E) (r : D × Bool) (env : Fm) : k_ex_sub1 Γ call io x i (.ok r env) =
      match rdv x env with
      | some _ =>  k_ex_sub2 Γ call io x i r (ev Γ call i env)
      | none => .err := rfl
@[simp] theorem k_ex_sub1_x (Γ : Ctx) (call : Nat → List (D × Bool) → CRes) (io : Bool) (x : Nat) (i : E) (z_ : Exn) (env : Fm) : k_ex_sub1 Γ call io x i (.exc z_ env) = .err := rfl
@[simp] theorem k_ex_sub1_e (Γ : Ctx) (call : Nat → List (D × Bool) → CRes) (io : Bool) (x : Nat) (i : E) : k_ex_sub1 Γ call io x i .err = .err := rfl
@[simp] theorem ex_sub (Γ : Ctx) (call : Nat → List (D × Bool) → CRes) (io : Bool) (x : Nat) (i : E) (e : E) (env : Fm) : ex Γ call io (.sub x i e) env =  k_ex_sub1 Γ call io x i (ev Γ call e env) := by
  first | rfl | (simp only [ex]; done) | (simp only [ex]; rfl)
@[simp] theorem ex_swp (Γ : Ctx) (call : Nat → List (D × Bool) → CRes) (io : Bool) (x : Nat) (i : E) (j : E) (a : E) (b : E) (env : Fm) : ex Γ call io (.swp x i j a b) env = .err := by
  first | rfl | (simp only [ex]; done) | (simp only [ex]; rfl)
noncomputable def k_ex_fld1 (Γ : Ctx) (call : Nat → List (D × Bool) → CRes) (io : Bool) (f : Nat) (r_ : Res (D × Bool)) : Fl := r_.fl fun r (env : Fm) =>
      match env[(0 : Nat)]? with
      | some (some (.ins c fs vs, true)) =>
        if fs.length < 100 ∧ (Γ.om c f = true → r.2 = true) then .nx (env.set 0 (some (.ins c (fput f r.1 fs vs).1 (fput f r.1 fs vs).2, true))) else .err
      | _ => .err
@[simp] theorem k_ex_fld1_k (Γ : Ctx) (call : Nat → List (D × Bool) → CRes) (io : Bool) (f : Nat) (r : D × Bool) (env : Fm) : k_ex_fld1 Γ call io f (.ok r env) =
      match env[(0 : Nat)]? with
      | some (some (.ins c fs vs, true)) =>
        if fs.length < 100 ∧ (Γ.om c f = true → r.2 = true) then .nx (env.set 0 (some (.ins c (fput f r.1 fs vs).1 (fput f r.1 fs vs).2, true))) else .err
      | _ => .err := rfl
@[simp] theorem k_ex_fld1_x (Γ : Ctx) (call : Nat → List (D × Bool) → CRes) (io : Bool) (f : Nat) (z_ : Exn) (env : Fm) : k_ex_fld1 Γ call io f (.exc z_ env) = .exc z_ env := rfl
@[simp] theorem k_ex_fld1_e (Γ : Ctx) (call : Nat → List (D × Bool) → CRes) (io : Bool) (f : Nat) : k_ex_fld1 Γ call io f .err = .err := rfl
@[simp] theorem ex_fld (Γ : Ctx) (call : Nat → List (D × Bool) → CRes) (io : Bool) (f : Nat) (e : E) (env : Fm) : ex Γ call io (.fld f e) env =  k_ex_fld1 Γ call io f (ev Γ call e env) := by
  first | rfl | (simp only [ex]; done) | (simp only [ex]; rfl)
@[simp] theorem ex_fld2 (Γ : Ctx) (call : Nat → List (D × Bool) → CRes) (io : Bool) (f : Nat) (g : Nat) (e : E) (env : Fm) : ex Γ call io (.fld2 f g e) env = .err := by
  first | rfl | (simp only [ex]; done) | (simp only [ex]; rfl)
noncomputable def k_ex_app1 (Γ : Ctx) (call : Nat → List (D × Bool) → CRes) (io : Bool) (p : E) (r_ : Res (D × Bool)) : Fl := r_.flN fun r (env : Fm) =>
      match pth Γ p env with
      | some (.lst l, true) => if l.length < LIM then .nx (setP Γ p (.lst (l ++ [r.1])) env) else .err
      | _ => .err
@[simp] theorem k_ex_app1_k (Γ : Ctx) (call : Nat → List (D × Bool) → CRes) (io : Bool) (p : E) (r : D × Bool) (env : Fm) : k_ex_app1 Γ call io p (.ok r env) =
      match pth Γ p env with
      | some (.lst l, true) => if l.length < LIM then .nx (setP Γ p (.lst (l ++ [r.1])) env) else .err
      | _ => .err := rfl
@[simp] theorem k_ex_app1_x (Γ : Ctx) (call : Nat → List (D × Bool) → CRes) (io : Bool) (p : E) (z_ : Exn) (env : Fm) : k_ex_app1 Γ call io p (.exc z_ env) = .err := rfl
@[simp] theorem k_ex_app1_e (Γ : Ctx) (call : Nat → List (D × Bool) → CRes) (io : Bool) (p : E) : k_ex_app1 Γ call io p .err = .err := rfl
@[simp] theorem ex_app (Γ : Ctx) (call : Nat → List (D × Bool) → CRes) (io : Bool) (p : E) (e : E) (env : Fm) : ex Γ call io (.app p e) env =
    match pth Γ p env with
    | some (.lst _, true) =>  k_ex_app1 Γ call io p (ev Γ call e env)
    | _ => .err := by
  first | rfl | (simp only [ex]; done) | (simp only [ex]; rfl)
noncomputable def k_ex_exp1 (Γ : Ctx) (call : Nat → List (D × Bool) → CRes) (io : Bool) (r_ : Res (D × Bool)) : Fl := r_.fl fun _ (env : Fm) => .nx env
@[simp] theorem k_ex_exp1_k (Γ : Ctx) (call : Nat → List (D × Bool) → CRes) (io : Bool) (v_ : D × Bool) (env : Fm) : k_ex_exp1 Γ call io (.ok v_ env) = .nx env := rfl
@[simp] theorem k_ex_exp1_x (Γ : Ctx) (call : Nat → List (D × Bool) → CRes) (io : Bool) (z_ : Exn) (env : Fm) : k_ex_exp1 Γ call io (.exc z_ env) = .exc z_ env := rfl
@[simp] theorem k_ex_exp1_e (Γ : Ctx) (call : Nat → List (D × Bool) → CRes) (io : Bool) : k_ex_exp1 Γ call io .err = .err := rfl
@[simp] theorem ex_exp (Γ : Ctx) (call : Nat → List (D × Bool) → CRes) (io : Bool) (e : E) (env : Fm) : ex Γ call io (.exp e) env =  k_ex_exp1 Γ call io (ev Γ call e env) := by
  first | rfl | (simp only [ex]; done) | (simp only [ex]; rfl)
noncomputable def k_ex_ret1 (Γ : Ctx) (call : Nat → List (D × Bool) → CRes) (io : Bool) (r_ : Res (D × Bool)) : Fl := r_.fl fun r (env : Fm) => .rt r env
@[simp] theorem k_ex_ret1_k (Γ : Ctx) (call : Nat → List (D × Bool) → CRes) (io : Bool) (r : D × Bool) (env : Fm) : k_ex_ret1 Γ call io (.ok r env) = .rt r env := rfl
@[simp] theorem k_ex_ret1_x (Γ : Ctx) (call : Nat → List (D × Bool) → CRes) (io : Bool) (z_ : Exn) (env : Fm) : k_ex_ret1 Γ call io (.exc z_ env) = .exc z_ env := rfl
@[simp] theorem k_ex_ret1_e (Γ : Ctx) (call : Nat → List (D × Bool) → CRes) (io : Bool) : k_ex_ret1 Γ call io .err = .err := rfl
@[simp] theorem ex_ret (Γ : Ctx) (call : Nat → List (D × Bool) → CRes) (io : Bool) (e : E) (env : Fm) : ex Γ call io (.ret e) env =  k_ex_ret1 Γ call io (ev Γ call e env) := by
  first | rfl | (simp only [ex]; done) | (simp only [ex]; rfl)
@[simp] theorem ex_retN (Γ : Ctx) (call : Nat → List (D × Bool) → CRes) (io : Bool) (env : Fm) : ex Γ call io .retN env = .rt (.non, false) env := by
  first | rfl | (simp only [ex]; done) | (simp only [ex]; rfl)
noncomputable def k_ex_ifs1 (Γ : Ctx) (call : Nat → List (D × Bool) → CRes) (io : Bool) (a : Ss) (b : Ss) (r_ : Res (D × Bool)) : Fl := r_.flN fun r (env : Fm) => match r.1 with | .bl true => exs Γ call io a env | .bl false => exs Γ call io b env | _ => .err
@[simp] theorem k_ex_ifs1_k (Γ : Ctx) (call : Nat → List (D × Bool) → CRes) (io : Bool) (a : Ss) (b : Ss) (r : D × Bool) (env : Fm) : k_ex_ifs1 Γ call io a b (.ok r env) = match r.1 with | .bl true => exs Γ call io a env | .bl false => exs Γ call io b env | _ => .err := rfl
@[simp] theorem k_ex_ifs1_x (Γ : Ctx) (call : Nat → List (D × Bool) → CRes) (io : Bool) (a : Ss) (b : Ss) (z_ : Exn) (env : Fm) : k_ex_ifs1 Γ call io a b (.exc z_ env) = .err := rfl
@[simp] theorem k_ex_ifs1_e (Γ : Ctx) (call : Nat → List (D × Bool) → CRes) (io : Bool) (a : Ss) (b : Ss) : k_ex_ifs1 Γ call io a b .err = .err := rfl
@[simp] theorem ex_ifs (Γ : Ctx) (call : Nat → List (D × Bool) → CRes) (io : Bool) (c : E) (a : Ss) (b : Ss) (env : Fm) : ex Γ call io (.ifs c a b) env =  k_ex_ifs1 Γ call io a b (ev Γ call c env) := by
  first | rfl | (simp only [ex]; done) | (simp only [ex]; rfl)
@[simp] theorem ex_whl (Γ : Ctx) (call : Nat → List (D × Bool) → CRes) (io : Bool) (c : E) (b : Ss) (env : Fm) : ex Γ call io (.whl c b) env = whl Γ call io c b env := by
  first | rfl | (simp only [ex]; done) | (simp only [ex]; rfl)
noncomputable def k_ex_for1 (Γ : Ctx) (call : Nat → List (D × Bool) → CRes) (io : Bool) (tg : Tg) (b : Ss) (r_ : Res (List D)) : Fl := r_.flN fun items (env : Fm) => frl Γ call io tg b items env
@[simp] theorem k_ex_for1_k (Γ : Ctx) (call : Nat → List (D × Bool) → CRes) (io : Bool) (tg : Tg) (b : Ss) (items : List D) (env : Fm) : k_ex_for1 Γ call io tg b (.ok items env) = frl Γ call io tg b items env := rfl
@[simp] theorem k_ex_for1_x (Γ : Ctx) (call : Nat → List (D × Bool) → CRes) (io : Bool) (tg : Tg) (b : Ss) (z_ : Exn) (env : Fm) : k_ex_for1 Γ call io tg b (.exc z_ env) = .err := rfl
@[simp] theorem k_ex_for1_e (Γ : Ctx) (call : Nat → List (D × Bool) → CRes) (io : Bool) (tg : Tg) (b : Ss) : k_ex_for1 Γ call io tg b .err = .err := rfl
@[simp] theorem ex_for (Γ : Ctx) (call : Nat → List (D × Bool) → CRes) (io : Bool) (it : Src) (tg : Tg) (b : Ss) (env : Fm) : ex Γ call io (.for it tg b) env =  k_ex_for1 Γ call io tg b (evi Γ call it env) := by
  first | rfl | (simp only [ex]; done) | (simp only [ex]; rfl)
noncomputable def k_ex_rse1 (Γ : Ctx) (call : Nat → List (D × Bool) → CRes) (io : Bool) (c : Nat) (r_ : Res (D × Bool)) : Fl := r_.flN fun r (env : Fm) => .exc ⟨c, r.1⟩ env
@[simp] theorem k_ex_rse1_k (Γ : Ctx) (call : Nat → List (D × Bool) → CRes) (io : Bool) (c : Nat) (r : D × Bool) (env : Fm) : k_ex_rse1 Γ call io c (.ok r env) = .exc ⟨c, r.1⟩ env := rfl
@[simp] theorem k_ex_rse1_x (Γ : Ctx) (call : Nat → List (D × Bool) → CRes) (io : Bool) (c : Nat) (z_ : Exn) (env : Fm) : k_ex_rse1 Γ call io c (.exc z_ env) = .err := rfl
@[simp] theorem k_ex_rse1_e (Γ : Ctx) (call : Nat → List (D × Bool) → CRes) (io : Bool) (c : Nat) : k_ex_rse1 Γ call io c .err = .err := rfl
@[simp] theorem ex_rse (Γ : Ctx) (call : Nat → List (D × Bool) → CRes) (io : Bool) (c : Nat) (e : O) (env : Fm) : ex Γ call io (.rse c e) env =
    match e with
    | .none => .exc ⟨c, .non⟩ env
    | .some e =>  k_ex_rse1 Γ call io c (ev Γ call e env) := by
  first | rfl | (simp only [ex]; done) | (simp only [ex]; rfl)
@[simp] theorem ex_nev (Γ : Ctx) (call : Nat → List (D × Bool) → CRes) (io : Bool) (env : Fm) : ex Γ call io .nev env = .err := by
  first | rfl | (simp only [ex]; done) | (simp only [ex]; rfl)
@[simp] theorem ex_pas (Γ : Ctx) (call : Nat → List (D × Bool) → CRes) (io : Bool) (env : Fm) : ex Γ call io .pas env = .nx env := by
  first | rfl | (simp only [ex]; done) | (simp only [ex]; rfl)
@[simp] theorem exs_nil (Γ : Ctx) (call : Nat → List (D × Bool) → CRes) (io : Bool) (env : Fm) : exs Γ call io .nil env = .nx env := by
  first | rfl | (simp only [exs]; done) | (simp only [exs]; rfl)
noncomputable def k_exs_cons1 (Γ : Ctx) (call : Nat → List (D × Bool) → CRes) (io : Bool) (r : Ss) (r_ : Fl) : Fl := r_.bind fun (env : Fm) => exs Γ call io r env
@[simp] theorem k_exs_cons1_k (Γ : Ctx) (call : Nat → List (D × Bool) → CRes) (io : Bool) (r : Ss) (env : Fm) : k_exs_cons1 Γ call io r (.nx env) = exs Γ call io r env := rfl
@[simp] theorem k_exs_cons1_r (Γ : Ctx) (call : Nat → List (D × Bool) → CRes) (io : Bool) (r : Ss) (z_ : D × Bool) (env : Fm) : k_exs_cons1 Γ call io r (.rt z_ env) = .rt z_ env := rfl
@[simp] theorem k_exs_cons1_x (Γ : Ctx) (call : Nat → List (D × Bool) → CRes) (io : Bool) (r : Ss) (z_ : Exn) (env : Fm) : k_exs_cons1 Γ call io r (.exc z_ env) = .exc z_ env := rfl
@[simp] theorem k_exs_cons1_e (Γ : Ctx) (call : Nat → List (D × Bool) → CRes) (io : Bool) (r : Ss) : k_exs_cons1 Γ call io r .err = .err := rfl
@[simp] theorem exs_cons (Γ : Ctx) (call : Nat → List (D × Bool) → CRes) (io : Bool) (s : S) (r : Ss) (env : Fm) : exs Γ call io (.cons s r) env =  k_exs_cons1 Γ call io r (ex Γ call io s env) := by
  first | rfl | (simp only [exs]; done) | (simp only [exs]; rfl)
end
end PL
/-! PLRun: tools for the pure part: loops and comprehensions by invariants; sizes. -/
namespace PL
open PySem
@[simp] theorem eqb_non_non   : eqb .non .non = true := by simp only [eqb]
@[simp] theorem eqb_non_bl  (b : Bool) : eqb .non (.bl b) = false := by simp only [eqb]
@[simp] theorem eqb_non_int  (b : Int) : eqb .non (.int b) = false := by simp only [eqb]
@[simp] theorem eqb_non_str  (b : Str) : eqb .non (.str b) = false := by simp only [eqb]
@[simp] theorem eqb_non_lst  (b : List D) : eqb .non (.lst b) = false := by simp only [eqb]
@[simp] theorem eqb_non_tup  (b : List D) : eqb .non (.tup b) = false := by simp only [eqb]
@[simp] theorem eqb_bl_non (a : Bool)  : eqb (.bl a) .non = false := by simp only [eqb]
@[simp] theorem eqb_bl_bl (a : Bool) (b : Bool) : eqb (.bl a) (.bl b) = (a == b) := by simp only [eqb]
@[simp] theorem eqb_bl_int (a : Bool) (b : Int) : eqb (.bl a) (.int b) = ((if a then 1 else 0) == b) := by simp only [eqb]
@[simp] theorem eqb_bl_str (a : Bool) (b : Str) : eqb (.bl a) (.str b) = false := by simp only [eqb]
@[simp] theorem eqb_bl_lst (a : Bool) (b : List D) : eqb (.bl a) (.lst b) = false := by simp only [eqb]
@[simp] theorem eqb_bl_tup (a : Bool) (b : List D) : eqb (.bl a) (.tup b) = false := by simp only [eqb]
@[simp] theorem eqb_int_non (a : Int)  : eqb (.int a) .non = false := by simp only [eqb]
@[simp] theorem eqb_int_bl (a : Int) (b : Bool) : eqb (.int a) (.bl b) = (a == (if b then 1 else 0)) := by simp only [eqb]
@[simp] theorem eqb_int_int (a : Int) (b : Int) : eqb (.int a) (.int b) = (a == b) := by simp only [eqb]
@[simp] theorem eqb_int_str (a : Int) (b : Str) : eqb (.int a) (.str b) = false := by simp only [eqb]
@[simp] theorem eqb_int_lst (a : Int) (b : List D) : eqb (.int a) (.lst b) = false := by simp only [eqb]
@[simp] theorem eqb_int_tup (a : Int) (b : List D) : eqb (.int a) (.tup b) = false := by simp only [eqb]
@[simp] theorem eqb_str_non (a : Str)  : eqb (.str a) .non = false := by simp only [eqb]
@[simp] theorem eqb_str_bl (a : Str) (b : Bool) : eqb (.str a) (.bl b) = false := by simp only [eqb]
@[simp] theorem eqb_str_int (a : Str) (b : Int) : eqb (.str a) (.int b) = false := by simp only [eqb]
@[simp] theorem eqb_str_str (a : Str) (b : Str) : eqb (.str a) (.str b) = (a == b) := by simp only [eqb]
@[simp] theorem eqb_str_lst (a : Str) (b : List D) : eqb (.str a) (.lst b) = false := by simp only [eqb]
@[simp] theorem eqb_str_tup (a : Str) (b : List D) : eqb (.str a) (.tup b) = false := by simp only [eqb]
@[simp] theorem eqb_lst_non (a : List D)  : eqb (.lst a) .non = false := by simp only [eqb]
@[simp] theorem eqb_lst_bl (a : List D) (b : Bool) : eqb (.lst a) (.bl b) = false := by simp only [eqb]
@[simp] theorem eqb_lst_int (a : List D) (b : Int) : eqb (.lst a) (.int b) = false := by simp only [eqb]
@[simp] theorem eqb_lst_str (a : List D) (b : Str) : eqb (.lst a) (.str b) = false := by simp only [eqb]
@[simp] theorem eqb_lst_lst (a : List D) (b : List D) : eqb (.lst a) (.lst b) = eqbs a b := by simp only [eqb]
@[simp] theorem eqb_lst_tup (a : List D) (b : List D) : eqb (.lst a) (.tup b) = false := by simp only [eqb]
@[simp] theorem eqb_tup_non (a : List D)  : eqb (.tup a) .non = false := by simp only [eqb]
@[simp] theorem eqb_tup_bl (a : List D) (b : Bool) : eqb (.tup a) (.bl b) = false := by simp only [eqb]
@[simp] theorem eqb_tup_int (a : List D) (b : Int) : eqb (.tup a) (.int b) = false := by simp only [eqb]
@[simp] theorem eqb_tup_str (a : List D) (b : Str) : eqb (.tup a) (.str b) = false := by simp only [eqb]
@[simp] theorem eqb_tup_lst (a : List D) (b : List D) : eqb (.tup a) (.lst b) = false := by simp only [eqb]
@[simp] theorem eqb_tup_tup (a : List D) (b : List D) : eqb (.tup a) (.tup b) = eqbs a b := by simp only [eqb]
@[simp] theorem eqbs_nn : eqbs [] [] = true := by simp only [eqbs]
@[simp] theorem eqbs_nc (y : D) (ys : List D) : eqbs [] (y :: ys) = false := by simp only [eqbs]
@[simp] theorem eqbs_cn (y : D) (ys : List D) : eqbs (y :: ys) [] = false := by simp only [eqbs]
@[simp] theorem eqbs_cc (x y : D) (xs ys : List D) : eqbs (x :: xs) (y :: ys) = (eqb x y && eqbs xs ys) := by simp only [eqbs]
theorem dpk_int (n : Nat) (i : Int) : Dpk n (.int i) := by
  cases n <;> trivial
theorem dpk_non (n : Nat) : Dpk n .non := by
  cases n <;> trivial
theorem dpk_bl (n : Nat) (b : Bool) : Dpk n (.bl b) := by
  cases n <;> trivial
theorem natAbs_log2_lt {a : Int} {k : Nat} (h : a.natAbs < 2 ^ k) (hk : 0 < k) : a.natAbs.log2 < k := by
  by_cases z : a.natAbs = 0
  · rw [z]
    simpa using hk
  · exact (Nat.log2_lt z).2 h
theorem log2_le_of {a b : Nat} (h : a ≤ b) : a.log2 ≤ b.log2 := by
  by_cases z : a = 0
  · subst z
    simp
  · exact (Nat.le_log2 (by omega)).2 (Nat.le_trans (Nat.log2_self_le z) h)
theorem mulOk_of {m a b : Int} (hm : m.natAbs.log2 < 9000) (ha : -m ≤ a ∧ a ≤ m) (hb : -m ≤ b ∧ b ≤ m) : MulOk a b := by
  right; right
  have h1 := log2_le_of (show a.natAbs ≤ m.natAbs by omega)
  have h2 := log2_le_of (show b.natAbs ≤ m.natAbs by omega)
  omega
theorem mulOk_l {a b : Int} (h : -(2 ^ 64) < a ∧ a < 2 ^ 64) : MulOk a b := .inl h
theorem mulOk_r {a b : Int} (h : -(2 ^ 64) < b ∧ b < 2 ^ 64) : MulOk a b := .inr (.inl h)
theorem abs_if (a : Int) : (if a < 0 then -a else a) = (a.natAbs : Int) := by
  split <;> omega
section
variable (Γ : Ctx) (call : Nat → List (D × Bool) → CRes)
/-- for, by an invariant -/
theorem frl_inv {io : Bool} {tg : Tg} {b : Ss} (P : Nat → Fm → Prop) : ∀ (ds : List D) (k : Nat) (env : Fm), P k env → (∀ i d env, ds[i]? = some d → P (k + i) env → ∃ env1 env2, bnd io tg (d, false) env = some env1 ∧ exs Γ call io b env1 = .nx env2 ∧ P (k + i + 1) env2) →
    ∃ env', frl Γ call io tg b ds env = .nx env' ∧ P (k + ds.length) env'
  | [], k, env, h, _ => ⟨env, rfl, h⟩
  | d :: ds, k, env, h, st => by
    obtain ⟨env1, env2, h1, h2, h3⟩ := st 0 d env rfl h
    obtain ⟨env', h4, h5⟩ := frl_inv P ds (k + 1) env2 h3 fun i d env hd hp => by
      have q := st (i + 1) d env (by simpa using hd) (by rw [show k + (i + 1) = k + 1 + i by omega]; exact hp)
      rw [show k + (i + 1) = k + 1 + i by omega] at q
      exact q
    refine ⟨env', ?_, by rw [List.length_cons, show k + (ds.length + 1) = k + 1 + ds.length by omega]; exact h5⟩
    rw [← h4]
    simp only [frl, forF] at h1 ⊢
    rw [h1]
    simp only
    rw [h2]
theorem lcl_nil {tg : Tg} {c : O} {body : E} {env : Fm} {acc : List D} : lcl Γ call tg c body [] env acc = .ok acc env := rfl
theorem lcl_cons {tg : Tg} {body : E} {d : D} {ds : List D} {env env1 env2 : Fm} {acc : List D} {x : D} {o : Bool} (h1 : bnd false tg (d, false) env = some env1) (h2 : ev Γ call body env1 = .ok (x, o) env2) (hz : acc.length < LIM) :
    lcl Γ call tg .none body (d :: ds) env acc = lcl Γ call tg .none body ds (wip env2 tg.ixs) (acc ++ [x]) := by
  simp only [lcl, lcF]
  rw [h1]
  simp only [Res.bind_ok, if_true]
  rw [h2]
  simp only [Res.bind_ok]
  rw [if_pos hz]
/-- each item by f, the slots as they were -/
theorem lcl_map {tg : Tg} {body : E} (f : D → D) : ∀ (ds : List D) (env : Fm) (acc : List D), acc.length + ds.length ≤ LIM →
    (∀ d ∈ ds, ∃ env1 env2 o, bnd false tg (d, false) env = some env1 ∧ ev Γ call body env1 = .ok (f d, o) env2 ∧ wip env2 tg.ixs = env) → lcl Γ call tg .none body ds env acc = .ok (acc ++ ds.map f) env
  | [], env, acc, _, _ => by simp [lcl_nil]
  | d :: ds, env, acc, hz, h => by
    obtain ⟨env1, env2, o, h1, h2, h3⟩ := h d (by simp)
    rw [List.length_cons] at hz
    rw [lcl_cons Γ call h1 h2 (by omega), h3, lcl_map f ds env (acc ++ [f d]) (by simp; omega) fun d hd => h d (by simp [hd])]
    simp
/-- the same, over what a list's things are made to -/
theorem lcl_mapA {α : Type} {tg : Tg} {body : E} (g f : α → D) : ∀ (l : List α) (env : Fm) (acc : List D), acc.length + l.length ≤ LIM →
    (∀ a ∈ l, ∃ env1 env2 o, bnd false tg (g a, false) env = some env1 ∧ ev Γ call body env1 = .ok (f a, o) env2 ∧ wip env2 tg.ixs = env) → lcl Γ call tg .none body (l.map g) env acc = .ok (acc ++ l.map f) env
  | [], env, acc, _, _ => by simp [lcl_nil]
  | a :: l, env, acc, hz, h => by
    obtain ⟨env1, env2, o, h1, h2, h3⟩ := h a (by simp)
    rw [List.length_cons] at hz
    rw [List.map_cons, lcl_cons Γ call h1 h2 (by omega), h3, lcl_mapA g f l env (acc ++ [f a]) (by simp; omega) fun a ha => h a (by simp [ha])]
    simp
/-- by an invariant of the slots -/
theorem lcl_inv {tg : Tg} {body : E} (P : Fm → Prop) (Q : D → Prop) : ∀ (ds : List D) (env : Fm) (acc : List D), acc.length + ds.length ≤ LIM → P env →
    (∀ d ∈ ds, ∀ env, P env → ∃ env1 env2 x o, bnd false tg (d, false) env = some env1 ∧ ev Γ call body env1 = .ok (x, o) env2 ∧ P (wip env2 tg.ixs) ∧ Q x) →
    ∃ xs env', lcl Γ call tg .none body ds env acc = .ok (acc ++ xs) env' ∧ xs.length = ds.length ∧ P env' ∧ ∀ x ∈ xs, Q x
  | [], env, acc, _, hp, _ => ⟨[], env, by simp [lcl_nil], rfl, hp, by simp⟩
  | d :: ds, env, acc, hz, hp, h => by
    obtain ⟨env1, env2, x, o, h1, h2, h3, h4⟩ := h d (by simp) env hp
    rw [List.length_cons] at hz
    obtain ⟨xs, env', k1, k2, k3, k4⟩ := lcl_inv P Q ds (wip env2 tg.ixs) (acc ++ [x]) (by simp; omega) h3 fun d hd => h d (by simp [hd])
    refine ⟨x :: xs, env', ?_, by simp [k2], k3, ?_⟩
    · rw [lcl_cons Γ call h1 h2 (by omega), k1]
      simp
    · intro y hy
      rcases List.mem_cons.mp hy with rfl | hy
      · exact h4
      · exact k4 y hy
/-- with a test: those that pass, as they come -/
theorem lcl_filter {tg : Tg} {c body : E} (p : D → Bool) (f : D → D) : ∀ (ds : List D) (env : Fm) (acc : List D), acc.length + ds.length ≤ LIM →
    (∀ d ∈ ds, ∃ env1 env2 o, bnd false tg (d, false) env = some env1 ∧ ev Γ call c env1 = .ok (.bl (p d), o) env2 ∧ (p d = false → wip env2 tg.ixs = env) ∧ (p d = true → ∃ env3 o, ev Γ call body env2 = .ok (f d, o) env3 ∧ wip env3 tg.ixs = env)) →
    lcl Γ call tg (.some c) body ds env acc = .ok (acc ++ (ds.filter p).map f) env
  | [], env, acc, _, _ => by simp [lcl_nil]
  | d :: ds, env, acc, hz, h => by
    obtain ⟨env1, env2, o, h1, h2, h3, h4⟩ := h d (by simp)
    rw [List.length_cons] at hz
    simp only [lcl, lcF]
    rw [h1]
    simp only
    rw [h2]
    simp only [Res.bind_ok]
    cases e : p d with
    | false =>
      rw [if_neg Bool.false_ne_true, h3 e]
      have q := lcl_filter p f ds env acc (by omega) fun d hd => h d (by simp [hd])
      simp only [lcl] at q
      rw [q]
      simp [e]
    | true =>
      obtain ⟨env3, o3, h5, h6⟩ := h4 e
      rw [if_pos rfl, h5]
      simp only [Res.bind_ok]
      rw [if_pos (by omega), h6]
      have q := lcl_filter p f ds env (acc ++ [f d]) (by simp; omega) fun d hd => h d (by simp [hd])
      simp only [lcl] at q
      rw [q]
      simp [e]
/-- what stands in a comprehension's slot behind it -/
def fz1 (env : Fm) (i : Nat) : Sl := (frs env [i])[i]?.getD none
theorem frs_one (env : Fm) (i : Nat) : (frs env [i]).set i none = env.set i none := by
  simp only [frs]
  split
  · rw [List.set_set]
  · rfl
theorem lc1 {it : Src} {i : Nat} {c : O} {body : E} {env e1 e2 : Fm} {items ds : List D} (h1 : evi Γ call it env = .ok items e1) (h2 : lcl Γ call (.one i) c body items (e1.set i none) [] = .ok ds e2) :
    ev Γ call (.lc it (.one i) c body) env = .ok (.lst ds, true) (e2.set i (fz1 e1 i)) := by
  rw [ev_lc, h1]
  have e : wip (frs e1 (Tg.one i).ixs) (Tg.one i).ixs = e1.set i none := frs_one e1 i
  rw [k_ev_lc1_k, e, h2]
  rfl
theorem frs_two (env : Fm) (i j : Nat) : ((frs env [i, j]).set j none).set i none = (env.set j none).set i none := by
  have h1 : ∀ env : Fm, (frs env [i, j]) = (match (frs env [j])[i]? with | some (some (d, _)) => (frs env [j]).set i (some (d, false)) | _ => frs env [j]) := fun _ => rfl
  rw [h1]
  split
  · by_cases e : i = j
    · subst e
      simp only [List.set_set, frs_one]
    · rw [List.set_comm _ _ e, List.set_set, frs_one]
  · rw [frs_one]
theorem lc2t {it : Src} {i j : Nat} {c : O} {body : E} {env e1 e2 : Fm} {items ds : List D} (h1 : evi Γ call it env = .ok items e1) (h2 : lcl Γ call (.many [i, j]) c body items ((e1.set j none).set i none) [] = .ok ds e2) :
    ∃ s t, ev Γ call (.lc it (.many [i, j]) c body) env = .ok (.lst ds, true) ((e2.set j t).set i s) := by
  rw [ev_lc, h1]
  have e : wip (frs e1 (Tg.many [i, j]).ixs) (Tg.many [i, j]).ixs = (e1.set j none).set i none := frs_two e1 i j
  rw [k_ev_lc1_k, e, h2]
  exact ⟨_, _, rfl⟩
end
end PL
/-! PMath: plain laws of whole numbers: the greatest common divisor, fractions led back. No program in sight. -/
namespace PL
theorem gcd_step (x y : Int) : Int.gcd x y = Int.gcd y (x % y) := by
  have e : x % y = x - (x / y) * y := by rw [Int.emod_def, Int.mul_comm]
  rw [e, Int.gcd_sub_mul_right_right, Int.gcd_comm]
/-- the fraction a by b is within the bounds and has the rest -/
structure IsSol (rest m top bottom a b : Int) : Prop where
  b0 : 0 < b
  b1 : b ≤ bottom
  a0 : -top ≤ a
  a1 : a ≤ top
  dv : m ∣ b * rest - a
  co : Int.gcd a b = 1
structure RbI (m rest r0 t0 r1 t1 s : Int) : Prop where
  hs : s = 1 ∨ s = -1
  h1 : 0 ≤ r1
  h2 : r1 < r0
  ht1 : 0 < s * t1
  ht0 : s * t0 ≤ 0
  hle : -(s * t0) ≤ s * t1
  det : r0 * t1 - r1 * t0 = s * m
  c0 : m ∣ r0 - t0 * rest
  c1 : m ∣ r1 - t1 * rest
theorem RbI.start {m rest : Int} (hm : 0 < m) : RbI m rest m 0 (rest % m) 1 1 where
  hs := .inl rfl
  h1 := Int.emod_nonneg _ (by omega)
  h2 := Int.emod_lt_of_pos _ hm
  ht1 := by omega
  ht0 := by omega
  hle := by omega
  det := by simp
  c0 := by simp
  c1 := ⟨-(rest / m), by have := Int.emod_def rest m; grind⟩
theorem RbI.step {m rest r0 t0 r1 t1 s : Int} (h : RbI m rest r0 t0 r1 t1 s) (hr : 0 < r1) : RbI m rest r1 t1 (r0 - r0 / r1 * r1) (t0 - r0 / r1 * t1) (-s) := by
  have hq : 1 ≤ r0 / r1 := (Int.le_ediv_iff_mul_le hr).2 (by have := h.h2; omega)
  have e : r0 - r0 / r1 * r1 = r0 % r1 := by rw [Int.emod_def, Int.mul_comm]
  obtain ⟨hs, h1, h2, ht1, ht0, hle, det, ⟨k0, c0⟩, ⟨k1, c1⟩⟩ := h
  have hp : s * t1 ≤ r0 / r1 * (s * t1) := by
    have := Int.mul_le_mul_of_nonneg_right hq (show 0 ≤ s * t1 by omega)
    omega
  refine ⟨by rcases hs with h | h <;> simp [h], ?_, ?_, ?_, ?_, ?_, ?_, ⟨k1, c1⟩, ⟨k0 - r0 / r1 * k1, by grind⟩⟩
  · rw [e]
    exact Int.emod_nonneg _ (by omega)
  · rw [e]
    exact Int.emod_lt_of_pos _ hr
  · have : -s * (t0 - r0 / r1 * t1) = r0 / r1 * (s * t1) - s * t0 := by grind
    omega
  · have : -s * t1 = -(s * t1) := by grind
    omega
  · have : -s * t1 = -(s * t1) := by grind
    have : -s * (t0 - r0 / r1 * t1) = r0 / r1 * (s * t1) - s * t0 := by grind
    omega
  · grind
theorem RbI.size {m rest r0 t0 r1 t1 s : Int} (h : RbI m rest r0 t0 r1 t1 s) : -m ≤ t1 ∧ t1 ≤ m ∧ -m ≤ t0 ∧ t0 ≤ m ∧ r0 ≤ m := by
  obtain ⟨hs, h1, h2, ht1, ht0, hle, det, c0, c1⟩ := h
  have d : r0 * (s * t1) + r1 * (-(s * t0)) = m := by
    rcases hs with h | h <;> subst h <;> grind
  have a := Int.mul_nonneg h1 (show 0 ≤ -(s * t0) by omega)
  have b : s * t1 ≤ r0 * (s * t1) := by
    have := Int.mul_le_mul_of_nonneg_right (show 1 ≤ r0 by omega) (show 0 ≤ s * t1 by omega)
    omega
  have b' : r0 ≤ r0 * (s * t1) := by
    have := Int.mul_le_mul_of_nonneg_left (show 1 ≤ s * t1 by omega) (show 0 ≤ r0 by omega)
    omega
  rcases hs with h | h <;> subst h <;> omega
theorem rb_core {m r0 r1 T0 T1 top bottom x b u v : Int} (det : r0 * T1 + r1 * T0 = m) (h1 : 0 ≤ r1) (h2 : r1 ≤ top) (h3 : top < r0) (hT : 0 < T1) (hT0 : 0 ≤ T0) (b0 : 0 < b) (b1 : b ≤ bottom) (x0 : -top ≤ x) (x1 : x ≤ top) (hm : 2 * top * bottom < m) (hu : x * T1 - b * r1 = u * m) (hv : b * r0 + x * T0 = v * m) : x = v * r1 ∧ b = v * T1 := by
  have m0 : 0 < m := by
    have a := Int.mul_nonneg h1 hT0
    have b := Int.mul_pos (show 0 < r0 by omega) hT
    omega
  have ex : x = u * r0 + v * r1 := Int.eq_of_mul_eq_mul_right (show m ≠ 0 by omega) (by grind)
  have eb : b = v * T1 - u * T0 := Int.eq_of_mul_eq_mul_right (show m ≠ 0 by omega) (by grind)
  suffices hu0 : u = 0 by
    subst hu0
    simp at ex eb
    exact ⟨ex, eb⟩
  rcases Int.lt_trichotomy u 0 with hn | hz | hp
  · exfalso
    rcases Int.lt_or_le 0 v with hv0 | hv0
    · have i1 := Int.mul_nonneg (show 0 ≤ -u by omega) hT0
      have i2 : T1 ≤ v * T1 := by
        have := Int.mul_le_mul_of_nonneg_right (show 1 ≤ v by omega) (show 0 ≤ T1 by omega)
        omega
      have e1 : -u * T0 = -(u * T0) := by grind
      have hb : T1 ≤ bottom := by omega
      have j1 : b * r1 ≤ bottom * top := Int.mul_le_mul b1 h2 h1 (by omega)
      have j2 : -x * T1 ≤ top * bottom := by
        refine Int.le_trans (Int.mul_le_mul_of_nonneg_right (show -x ≤ top by omega) (by omega)) (Int.mul_le_mul_of_nonneg_left hb (by omega))
      have j3 : m ≤ -u * m := by
        have := Int.mul_le_mul_of_nonneg_right (show 1 ≤ -u by omega) (show 0 ≤ m by omega)
        omega
      grind
    · have i1 : r0 ≤ -u * r0 := by
        have := Int.mul_le_mul_of_nonneg_right (show 1 ≤ -u by omega) (show 0 ≤ r0 by omega)
        omega
      have i2 := Int.mul_nonneg (show 0 ≤ -v by omega) h1
      grind
  · exact hz
  · exfalso
    rcases Int.lt_or_le v 0 with hv0 | hv0
    · have i1 := Int.mul_nonneg (show 0 ≤ u by omega) hT0
      have i2 := Int.mul_pos (show 0 < -v by omega) hT
      grind
    · have i1 : r0 ≤ u * r0 := by
        have := Int.mul_le_mul_of_nonneg_right (show 1 ≤ u by omega) (show 0 ≤ r0 by omega)
        omega
      have i2 := Int.mul_nonneg hv0 h1
      grind
theorem rb_only {m rest r0 t0 r1 t1 s top bottom a b : Int} (h : RbI m rest r0 t0 r1 t1 s) (h2 : r1 ≤ top) (h3 : top < r0) (hm : 2 * top * bottom < m) (k : IsSol rest m top bottom a b) : a = s * r1 ∧ b = s * t1 := by
  obtain ⟨hs, h1, _, ht1, ht0, hle, det, ⟨k0, c0⟩, ⟨k1, c1⟩⟩ := h
  obtain ⟨b0, b1, a0, a1, ⟨kd, hd⟩, co⟩ := k
  have ss : s * s = 1 := by rcases hs with h | h <;> subst h <;> rfl
  obtain ⟨e1, e2⟩ := rb_core (m := m) (r0 := r0) (r1 := r1) (T0 := -(s * t0)) (T1 := s * t1) (top := top) (bottom := bottom) (x := s * a) (b := b) (u := -(kd * t1) - b * k1) (v := b * k0 + kd * t0)
    (by grind) h1 h2 h3 ht1 (by omega) b0 b1 (by rcases hs with h | h <;> subst h <;> omega) (by rcases hs with h | h <;> subst h <;> omega) hm (by grind) (by grind)
  have dv : b * k0 + kd * t0 ∣ 1 := by
    refine Int.gcd_eq_one_iff.1 co _ ?_ ⟨_, e2⟩
    exact ⟨s * r1, by grind⟩
  have dp : 0 < b * k0 + kd * t0 := by
    rcases Int.lt_or_le 0 (b * k0 + kd * t0) with h | h
    · exact h
    · have := Int.mul_nonneg (show 0 ≤ -(b * k0 + kd * t0) by omega) (show 0 ≤ s * t1 by omega)
      grind
  have d1 := Int.le_of_dvd (by omega) dv
  have d2 : b * k0 + kd * t0 = 1 := by omega
  rw [d2] at e1 e2
  exact ⟨by grind, by omega⟩
/-- what is told of the end of the row -/
theorem rb_is {m rest r0 t0 r1 t1 s top bottom : Int} (h : RbI m rest r0 t0 r1 t1 s) (h2 : r1 ≤ top) (hb : s * t1 ≤ bottom) (co : Int.gcd r1 t1 = 1) : IsSol rest m top bottom (s * r1) (s * t1) := by
  obtain ⟨hs, h1, _, ht1, ht0, hle, det, ⟨k0, c0⟩, ⟨k1, c1⟩⟩ := h
  refine ⟨ht1, hb, ?_, ?_, ⟨-s * k1, by grind⟩, ?_⟩
  · rcases hs with h | h <;> subst h <;> omega
  · rcases hs with h | h <;> subst h <;> omega
  · rcases hs with h | h <;> subst h <;> simpa using co
/-- what leading back tells -/
inductive LB (rest m top bottom : Int) : Option (Int × Int) → Prop
  | no : (∀ a b, ¬ IsSol rest m top bottom a b) → LB rest m top bottom none
  | one (a b : Int) : IsSol rest m top bottom a b → (∀ a' b', IsSol rest m top bottom a' b' → a' = a ∧ b' = b) → LB rest m top bottom (some (a, b))
end PL
/-! the defs of the text as small syntax, their tables (printed by wip/gen/gen.py) -/
namespace PL
open PySem PySem.Spec PyProof.Rows L2
def b_is_whole : Ss :=
  (.cons (.ret (.and (.isI (.var 0) [.int]) (.not (.isI (.var 0) [.bool]))))
  .nil)
def b_is_number : Ss :=
  (.cons (.ret (.and (.fn 0 (.cons (.var 0) .nil)) (.chn .le .le (.var 1) (.var 0) (.var 2))))
  .nil)
def b_shared_2 : Ss :=
  (.cons (.par [0, 1] (.cons (.var 1) (.cons (.bin .mod (.var 0) (.var 1)) .nil)))
  .nil)
def b_shared_1 : Ss :=
  (.cons (.ret (.var 0))
  .nil)
def b_shared : Ss :=
  (.cons (.par [0, 1] (.cons (.bi .abs (.cons (.var 0) .nil)) (.cons (.bi .abs (.cons (.var 1) .nil)) .nil)))
  (.cons (.whl (.cmpv .ne 1 (.cst (.int 0))) b_shared_2)
  b_shared_1))
def b_reckoned_back_4 : Ss :=
  (.cons (.ret (.tup (.cons (.var 7) (.cons (.var 8) .nil))))
  .nil)
def b_reckoned_back_3 : Ss :=
  (.cons (.ifs (.or (.cmpv .gt 8 (.var 3)) (.or (.cmpv .eq 8 (.cst (.int 0))) (.cmp .gt (.fn 1 (.cons (.var 7) (.cons (.var 8) .nil))) (.cst (.int 1)))))
    (.cons (.ret (.cst .non))
    .nil)
    .nil)
  b_reckoned_back_4)
def b_reckoned_back_2 : Ss :=
  (.cons (.asg (.one 6) (.bin .div (.idxv 4 (.cst (.int 0))) (.idxv 5 (.cst (.int 0)))))
  (.cons (.par [4, 5] (.cons (.var 5) (.cons (.tup (.cons (.bin .sub (.idxv 4 (.cst (.int 0))) (.bin .mul (.var 6) (.idxv 5 (.cst (.int 0))))) (.cons (.bin .sub (.idxv 4 (.cst (.int 1))) (.bin .mul (.var 6) (.idxv 5 (.cst (.int 1))))) .nil))) .nil)))
  .nil))
def b_reckoned_back_1 : Ss :=
  (.cons (.asg (.many [7, 8]) (.var 5))
  (.cons (.ifs (.cmpv .lt 8 (.cst (.int 0)))
    (.cons (.par [7, 8] (.cons (.bin .sub (.cst (.int 0)) (.var 7)) (.cons (.bin .sub (.cst (.int 0)) (.var 8)) .nil)))
    .nil)
    .nil)
  b_reckoned_back_3))
def b_reckoned_back : Ss :=
  (.cons (.par [4, 5] (.cons (.tup (.cons (.var 1) (.cons (.cst (.int 0)) .nil))) (.cons (.tup (.cons (.bin .mod (.var 0) (.var 1)) (.cons (.cst (.int 1)) .nil))) .nil)))
  (.cons (.whl (.cmp .gt (.idxv 5 (.cst (.int 0))) (.var 2)) b_reckoned_back_2)
  b_reckoned_back_1))
def b_led_back_2 : Ss :=
  (.cons (.ret (.fn 3 (.cons (.var 0) (.cons (.var 1) (.cons (.var 2) (.cons (.var 3) .nil))))))
  .nil)
def b_led_back_1 : Ss :=
  (.cons (.ifs (.or (.not (.fn 0 (.cons (.var 2) .nil))) (.or (.not (.fn 0 (.cons (.var 3) .nil))) (.or (.cmpv .lt 2 (.cst (.int 0))) (.or (.cmpv .lt 3 (.cst (.int 1))) (.cmp .ge (.bin .mul (.bin .mul (.cst (.int 2)) (.var 2)) (.var 3)) (.var 1))))))
    (.cons (.rse 0 .none)
    .nil)
    .nil)
  b_led_back_2)
def b_led_back : Ss :=
  (.cons (.ifs (.or (.not (.fn 2 (.cons (.var 1) (.cons (.cst (.int 2)) (.cons (.glb 0) .nil))))) (.not (.fn 2 (.cons (.var 0) (.cons (.cst (.int 0)) (.cons (.bin .sub (.var 1) (.cst (.int 1))) .nil))))))
    (.cons (.rse 0 .none)
    .nil)
    .nil)
  b_led_back_1)
def b__law_taken_3 : Ss :=
  (.cons (.ret (.bin .mod (.var 3) (.var 1)))
  .nil)
def b__law_taken_2 : Ss :=
  (.cons (.asg (.one 3) (.idx (.idxv 0 (.cst (.int 0))) (.bin .sub (.idxv 0 (.cst (.int 1))) (.cst (.int 1)))))
  (.cons (.sub 0 (.cst (.int 2)) (.bin .mod (.bin .add (.bin .add (.bin .mul (.idxv 0 (.cst (.int 2))) (.cst (.int 48271))) (.var 3)) (.cst (.int 11))) (.cst (.int 2147483647))))
  (.cons (.ifs (.cmpv .ge 3 (.bin .pow (.cst (.int 10)) (.cst (.int 18))))
    (.cons (.sub 0 (.cst (.int 3)) (.bin .div (.var 3) (.var 1)))
    .nil)
    .nil)
  b__law_taken_3)))
def b__law_taken_1 : Ss :=
  (.cons (.sub 0 (.cst (.int 1)) (.bin .add (.idxv 0 (.cst (.int 1))) (.cst (.int 1))))
  (.cons (.ifs (.cmp .gt (.idxv 0 (.cst (.int 1))) (.bi .len (.cons (.idxv 0 (.cst (.int 0))) .nil)))
    (.cons (.sub 0 (.cst (.int 2)) (.bin .mod (.bin .add (.bin .mul (.idxv 0 (.cst (.int 2))) (.cst (.int 48271))) (.cst (.int 11))) (.cst (.int 2147483647))))
    (.cons (.ret (.bin .mod (.bin .div (.idxv 0 (.cst (.int 2))) (.cst (.int 7))) (.var 1)))
    .nil))
    .nil)
  b__law_taken_2))
def b__law_taken : Ss :=
  (.cons (.ifs (.cmp .gt (.idxv 0 (.cst (.int 3))) (.cst (.int 0)))
    (.cons (.asg (.one 2) (.bin .mod (.idxv 0 (.cst (.int 3))) (.var 1)))
    (.cons (.sub 0 (.cst (.int 3)) (.bin .div (.idxv 0 (.cst (.int 3))) (.var 1)))
    (.cons (.ret (.var 2))
    .nil)))
    .nil)
  b__law_taken_1)
def c__law_alike_1 : E :=
  .lc (.rng1 (.bi .len (.cons (.var 0) .nil))) (.one 2) (.some (.not (.fn 17 (.cons (.idxv 0 (.var 2)) (.cons (.idxv 1 (.var 2)) .nil))))) (.var 2)
def b__law_alike_2 : Ss :=
  (.cons (.ret (.cmp .eq (c__law_alike_1) (.lst .nil)))
  .nil)
def b__law_alike_1 : Ss :=
  (.cons (.ret (.and (.cmpv .eq 0 (.var 1)) (.cmp .eq (.isI (.var 0) [.bool]) (.isI (.var 1) [.bool]))))
  .nil)
def b__law_alike : Ss :=
  (.cons (.ifs (.and (.isI (.var 0) [.tuple, .list]) (.isI (.var 1) [.tuple, .list]))
    (.cons (.ifs (.or (.cmp .ne (.isI (.var 0) [.tuple]) (.isI (.var 1) [.tuple])) (.cmp .ne (.bi .len (.cons (.var 0) .nil)) (.bi .len (.cons (.var 1) .nil))))
      (.cons (.ret (.cst (.bl false)))
      .nil)
      .nil)
    b__law_alike_2)
    .nil)
  b__law_alike_1)
def b__law_shared_2 : Ss :=
  (.cons (.par [0, 1] (.cons (.var 1) (.cons (.bin .mod (.var 0) (.var 1)) .nil)))
  .nil)
def b__law_shared_1 : Ss :=
  (.cons (.ret (.var 0))
  .nil)
def b__law_shared : Ss :=
  (.cons (.par [0, 1] (.cons (.bi .abs (.cons (.var 0) .nil)) (.cons (.bi .abs (.cons (.var 1) .nil)) .nil)))
  (.cons (.whl (.cmpv .ne 1 (.cst (.int 0))) b__law_shared_2)
  b__law_shared_1))
def b_law_7 : Ss :=
  (.cons (.ifs (.cmp .ne (.wrd (.fn 8 (.cons (.idxv 12 (.cst (.int 0))) (.cons (.idxv 12 (.cst (.int 1))) (.cons (.idxv 12 (.cst (.int 2))) (.cons (.idxv 12 (.cst (.int 3))) .nil)))))) (.tup (.cons (.cst (.str "count")) .nil)))
    (.cons (.ret (.cst (.bl false)))
    .nil)
    .nil)
  .nil)
def b_law_6 : Ss :=
  (.cons (.asg (.one 10) (.bin .add (.bin .div (.var 3) (.cst (.int 2))) (.cst (.int 1))))
  (.cons (.asg (.one 11) (.lst (.cons (.tup (.cons (.var 3) (.cons (.var 3) (.cons (.cst (.int 0)) (.cons (.cst (.int 1)) .nil))))) (.cons (.tup (.cons (.bin .sub (.cst (.int 0)) (.cst (.int 1))) (.cons (.var 3) (.cons (.cst (.int 0)) (.cons (.cst (.int 1)) .nil))))) (.cons (.tup (.cons (.cst (.int 0)) (.cons (.cst (.int 1)) (.cons (.cst (.int 0)) (.cons (.cst (.int 1)) .nil))))) (.cons (.tup (.cons (.cst (.int 0)) (.cons (.bin .add (.bin .pow (.cst (.int 10)) (.cst (.int 60))) (.cst (.int 1))) (.cons (.cst (.int 0)) (.cons (.cst (.int 1)) .nil))))) .nil))))))
  (.cons (.asg (.one 11) (.bin .add (.var 11) (.lst (.cons (.tup (.cons (.cst (.int 0)) (.cons (.var 3) (.cons (.var 10) (.cons (.cst (.int 1)) .nil))))) (.cons (.tup (.cons (.cst (.int 0)) (.cons (.var 3) (.cons (.bin .div (.bin .add (.var 3) (.cst (.int 1))) (.cst (.int 2))) (.cons (.cst (.int 1)) .nil))))) .nil)))))
  (.cons (.asg (.one 11) (.bin .add (.var 11) (.lst (.cons (.tup (.cons (.cst (.int 0)) (.cons (.var 3) (.cons (.bin .sub (.cst (.int 0)) (.cst (.int 1))) (.cons (.cst (.int 1)) .nil))))) (.cons (.tup (.cons (.cst (.int 0)) (.cons (.var 3) (.cons (.cst (.int 0)) (.cons (.cst (.int 0)) .nil))))) (.cons (.tup (.cons (.cst (.bl true)) (.cons (.var 3) (.cons (.cst (.int 0)) (.cons (.cst (.int 1)) .nil))))) .nil))))))
  (.cons (.asg (.one 11) (.bin .add (.var 11) (.lst (.cons (.tup (.cons (.cst (.int 0)) (.cons (.var 3) (.cons (.cst .non) (.cons (.cst (.int 1)) .nil))))) (.cons (.tup (.cons (.cst (.int 0)) (.cons (.var 3) (.cons (.cst (.int 0)) (.cons (.cst (.str "1")) .nil))))) (.cons (.tup (.cons (.cst (.int 0)) (.cons (.cst .non) (.cons (.cst (.int 0)) (.cons (.cst (.int 1)) .nil))))) (.cons (.tup (.cons (.cst (.int 0)) (.cons (.var 3) (.cons (.cst (.int 1)) (.cons (.var 10) .nil))))) .nil)))))))
  (.cons (.for (.seq (.var 11)) (.one 12) b_law_7)
  .nil))))))
def b_law_5 : Ss :=
  (.cons (.ifs (.and (.cmp .eq (.bin .mod (.bin .sub (.bin .mul (.var 8) (.var 4)) (.var 9)) (.var 3)) (.cst (.int 0))) (.cmp .eq (.fn 4 (.cons (.var 9) (.cons (.var 8) .nil))) (.cst (.int 1))))
    (.cons (.asg (.one 7) (.tup (.cons (.var 9) (.cons (.var 8) .nil))))
    .nil)
    .nil)
  .nil)
def b_law_4 : Ss :=
  (.cons (.for (.rng2 (.bin .sub (.cst (.int 0)) (.var 6)) (.bin .add (.var 6) (.cst (.int 1)))) (.one 9) b_law_5)
  .nil)
def b_law_3 : Ss :=
  (.cons (.ifs (.and (.cmp .lt (.bin .mul (.bin .mul (.cst (.int 2)) (.var 6)) (.var 5)) (.var 3)) (.cmpv .le 5 (.var 3)))
    (.cons (.ifs (.not (.fn 17 (.cons (.fn 8 (.cons (.var 4) (.cons (.var 3) (.cons (.var 6) (.cons (.var 5) .nil))))) (.cons (.var 7) .nil))))
      (.cons (.ret (.cst (.bl false)))
      .nil)
      .nil)
    .nil)
    .nil)
  b_law_6)
def b_law_2 : Ss :=
  (.cons (.asg (.one 3) (.bin .add (.cst (.int 2)) (.fnv 5 1 (.cons (.idx (.lst (.cons (.cst (.int 20)) (.cons (.cst (.int 200)) (.cons (.cst (.int 1000)) .nil)))) (.fnv 5 1 (.cons (.cst (.int 3)) .nil))) .nil))))
  (.cons (.par [4, 5] (.cons (.fnv 5 1 (.cons (.var 3) .nil)) (.cons (.bin .add (.cst (.int 1)) (.fnv 5 1 (.cons (.cst (.int 14)) .nil))) .nil)))
  (.cons (.asg (.one 6) (.ifx (.cmp .lt (.bin .mul (.cst (.int 2)) (.var 5)) (.var 3)) (.fnv 5 1 (.cons (.bin .add (.cst (.int 1)) (.bin .div (.bin .sub (.var 3) (.cst (.int 1))) (.bin .mul (.cst (.int 2)) (.var 5)))) .nil)) (.cst (.int 0))))
  (.cons (.asg (.one 7) (.cst .non))
  (.cons (.for (.rng2 (.cst (.int 1)) (.bin .add (.var 5) (.cst (.int 1)))) (.one 8) b_law_4)
  b_law_3)))))
def b_law_1 : Ss :=
  (.cons (.ret (.cst (.bl true)))
  .nil)
def b_law : Ss :=
  (.cons (.asg (.one 1) (.lst (.cons (.var 0) (.cons (.cst (.int 0)) (.cons (.cst (.int 0)) (.cons (.cst (.int 0)) .nil))))))
  (.cons (.for (.rng1 (.cst (.int 8))) (.one 2) b_law_2)
  b_law_1))
def Γ : Ctx where
  glb := fun g => match g with
    | 0 => some (.int 1000000000000000000000000000000000000000000000000000000000000)
    | _ => none
  om := fun _ _ => false
  fn := fun f => match f with
    | 0 => some ⟨1, 1, false, b_is_whole⟩
    | 2 => some ⟨3, 3, false, b_is_number⟩
    | 1 => some ⟨2, 2, false, b_shared⟩
    | 3 => some ⟨4, 9, false, b_reckoned_back⟩
    | 8 => some ⟨4, 4, false, b_led_back⟩
    | 5 => some ⟨2, 4, true, b__law_taken⟩
    | 17 => some ⟨2, 3, false, b__law_alike⟩
    | 4 => some ⟨2, 2, false, b__law_shared⟩
    | 9 => some ⟨1, 13, false, b_law⟩
    | _ => none
  meth := fun _ _ => none
  init := fun _ => none
  dfl := fun _ => []
  kwd := fun _ => 0
  wd := wdOf [(0, "count")]
end PL
set_option maxRecDepth 100000
/-! the ties of the small syntax to the text, the end (printed by wip/gen/gen.py) -/
namespace PL
open PySem PySem.Spec PyProof.Rows L2
def top (i : Nat) : Stmt := PySem.Challenge.pw_powerlift_k04_led_back_by_trying.main.body.getD i (.Pass ⟨0, 0, 0, 0⟩)
abbrev s_is_whole : Stmt := top 12
abbrev s_is_number : Stmt := top 13
abbrev s_shared : Stmt := top 14
abbrev s_reckoned_back : Stmt := top 15
abbrev s_led_back : Stmt := top 16
abbrev s__law_taken : Stmt := top 18
abbrev s__law_alike : Stmt := top 19
abbrev s__law_shared : Stmt := top 21
abbrev s_law : Stmt := top 23
def TT : Ns where
  gN := fun i => match i with
    | 0 => "MOST_MODULUS"
    | 1 => "LEAST_PRIME"
    | 2 => "MOST_PRIME"
    | 3 => "MOST_ROWS"
    | 4 => "MOST_SIZE"
    | 5 => "SAME"
    | 6 => "LESS"
    | 7 => "FIGURES"
    | 8 => "MOST_FIGURES"
    | _ => ""
  fN := fun i => match i with
    | 0 => "is_whole"
    | 1 => "shared"
    | 2 => "is_number"
    | 3 => "reckoned_back"
    | 4 => "_law_shared"
    | 5 => "_law_taken"
    | 8 => "led_back"
    | 9 => "law"
    | 17 => "_law_alike"
    | _ => ""
  cN := fun i => match i with
    | 0 => "BadCount"
    | 1 => "BadPrime"
    | 2 => "BadRows"
    | 3 => "BadRight"
    | 4 => "NotSquare"
    | 5 => "BadText"
    | _ => ""
  mN := fun i => match i with
    | _ => ""
  fl := fun i => match i with
    | _ => ""
  fs := [0, 2, 1, 3, 8, 5, 17, 4, 9]
  gs := [0]
  cs := []
  xs := [0]
  lns := (defScope s_law).names
theorem sc_is_whole : FnScope ["thing"] ["thing"] (defScope s_is_whole) := ⟨rfl, rfl, rfl, by decide +kernel, rfl, by decide +kernel, by decide +kernel⟩
theorem m_is_whole : mSs TT ["thing"] (defScope s_is_whole) (defScope s_is_whole) b_is_whole (defBody s_is_whole) = true := by decide +kernel
theorem sc_is_number : FnScope ["thing", "low", "high"] ["thing", "low", "high"] (defScope s_is_number) := ⟨rfl, rfl, rfl, by decide +kernel, rfl, by decide +kernel, by decide +kernel⟩
theorem m_is_number : mSs TT ["thing", "low", "high"] (defScope s_is_number) (defScope s_is_number) b_is_number (defBody s_is_number) = true := by decide +kernel
theorem sc_shared : FnScope ["one", "other"] ["one", "other"] (defScope s_shared) := ⟨rfl, rfl, rfl, by decide +kernel, rfl, by decide +kernel, by decide +kernel⟩
theorem m_shared : mSs TT ["one", "other"] (defScope s_shared) (defScope s_shared) b_shared (defBody s_shared) = true := by decide +kernel
theorem sc_reckoned_back : FnScope ["rest", "modulus", "top", "bottom", "one", "other", "many", "above", "below"] ["rest", "modulus", "top", "bottom"] (defScope s_reckoned_back) := ⟨rfl, rfl, rfl, by decide +kernel, rfl, by decide +kernel, by decide +kernel⟩
theorem m_reckoned_back : mSs TT ["rest", "modulus", "top", "bottom", "one", "other", "many", "above", "below"] (defScope s_reckoned_back) (defScope s_reckoned_back) b_reckoned_back (defBody s_reckoned_back) = true := by decide +kernel
theorem sc_led_back : FnScope ["rest", "modulus", "top", "bottom"] ["rest", "modulus", "top", "bottom"] (defScope s_led_back) := ⟨rfl, rfl, rfl, by decide +kernel, rfl, by decide +kernel, by decide +kernel⟩
theorem m_led_back : mSs TT ["rest", "modulus", "top", "bottom"] (defScope s_led_back) (defScope s_led_back) b_led_back (defBody s_led_back) = true := by decide +kernel
theorem sc__law_taken : FnScope ["_law_row", "_law_many", "_law_found", "_law_cell"] ["_law_row", "_law_many"] (defScope s__law_taken) := ⟨rfl, rfl, rfl, by decide +kernel, rfl, by decide +kernel, by decide +kernel⟩
theorem m__law_taken : mSs TT ["_law_row", "_law_many", "_law_found", "_law_cell"] (defScope s__law_taken) (defScope s__law_taken) b__law_taken (defBody s__law_taken) = true := by decide +kernel
theorem sc__law_alike : FnScope ["_law_one", "_law_due", "_law_k"] ["_law_one", "_law_due"] (defScope s__law_alike) := ⟨rfl, rfl, rfl, by decide +kernel, rfl, by decide +kernel, by decide +kernel⟩
theorem m__law_alike : mSs TT ["_law_one", "_law_due", "_law_k"] (defScope s__law_alike) (defScope s__law_alike) b__law_alike (defBody s__law_alike) = true := by decide +kernel
theorem sc__law_shared : FnScope ["_law_one", "_law_two"] ["_law_one", "_law_two"] (defScope s__law_shared) := ⟨rfl, rfl, rfl, by decide +kernel, rfl, by decide +kernel, by decide +kernel⟩
theorem m__law_shared : mSs TT ["_law_one", "_law_two"] (defScope s__law_shared) (defScope s__law_shared) b__law_shared (defBody s__law_shared) = true := by decide +kernel
theorem sc_law : FnScope ["_law_script", "_law_row", "_law_turn", "_law_modulus", "_law_rest", "_law_bottom", "_law_top", "_law_due", "_law_below", "_law_above", "_law_high", "_law_some", "_law_one"] ["_law_script"] (defScope s_law) := ⟨rfl, rfl, rfl, by decide +kernel, rfl, by decide +kernel, by decide +kernel⟩
theorem m_law : mSs TT ["_law_script", "_law_row", "_law_turn", "_law_modulus", "_law_rest", "_law_bottom", "_law_top", "_law_due", "_law_below", "_law_above", "_law_high", "_law_some", "_law_one"] (defScope s_law) (defScope s_law) b_law (defBody s_law) = true := by decide +kernel
abbrev s__law_word : Stmt := top 20
theorem is_w : IsW (defBody s__law_word) := by
  unfold IsW IsS1 IsS2 IsS3 IsS4 IsS5 IsS6 IsS7 IsS8 IsI2 IsI
  refine ⟨_, _, _, _, _, _, _, _, _, _, _, _, _, _, _, _, _, rfl, ?_, ?_, ?_, ?_, ?_, ?_, ?_, ?_⟩
  · exact ⟨_, _, _, _, _, _, _, rfl, ⟨_, _, _, _, rfl⟩, ⟨_, _, _, _, rfl⟩, ⟨_, _, _, _, rfl⟩, ⟨_, _, _, _, rfl⟩⟩
  · exact ⟨_, _, _, _, _, _, _, _, rfl, ⟨_, _, _, _, rfl⟩, ⟨_, _, _, _, rfl⟩, ⟨_, _, _, _, rfl⟩⟩
  · exact ⟨_, _, _, _, _, rfl, ⟨_, _, _, _, rfl⟩, rfl⟩
  · exact ⟨_, _, _, _, _, _, _, _, _, _, _, _, _, rfl, ⟨_, _, _, _, rfl⟩, rfl⟩
  · exact ⟨_, _, _, _, _, _, _, rfl, rfl⟩
  · exact ⟨_, _, _, _, _, _, rfl, ⟨_, _, rfl⟩, ⟨_, _, rfl⟩, ⟨_, _, rfl⟩, ⟨_, _, rfl⟩, ⟨_, _, rfl⟩, ⟨_, _, rfl⟩, ⟨_, _, rfl⟩, ⟨_, _, rfl⟩, trivial⟩
  · exact ⟨_, _, _, _, _, _, rfl⟩
  · exact ⟨_, _, _, _, _, _, _, _, _, _, _, _, _, _, _, _, rfl⟩
section
variable {l : PySem.W.OpenLaw} {w : World} {K : PySem.W.Frag} {h : Heap} {mg : Str → Option Value}
set_option maxHeartbeats 0 in
theorem all_mk {fa : Addr} {f0 : Addr} {od0 an0 : Option Addr} {sl0 : Array (Option Value)} {oc0 kV0 dc0 pm0 cd0 ct0 : Value} {f1 : Addr} {od1 an1 : Option Addr} {sl1 : Array (Option Value)} {oc1 kV1 dc1 pm1 cd1 ct1 : Value} {f2 : Addr} {od2 an2 : Option Addr} {sl2 : Array (Option Value)} {oc2 kV2 dc2 pm2 cd2 ct2 : Value} {f3 : Addr} {od3 an3 : Option Addr} {sl3 : Array (Option Value)} {oc3 kV3 dc3 pm3 cd3 ct3 : Value} {f4 : Addr} {od4 an4 : Option Addr} {sl4 : Array (Option Value)} {oc4 kV4 dc4 pm4 cd4 ct4 : Value} {f5 : Addr} {od5 an5 : Option Addr} {sl5 : Array (Option Value)} {oc5 kV5 dc5 pm5 cd5 ct5 : Value} {f6 : Addr} {od6 an6 : Option Addr} {sl6 : Array (Option Value)} {oc6 kV6 dc6 pm6 cd6 ct6 : Value} {f7 : Addr} {od7 an7 : Option Addr} {sl7 : Array (Option Value)} {oc7 kV7 dc7 pm7 cd7 ct7 : Value} {f8 : Addr} {od8 an8 : Option Addr} {sl8 : Array (Option Value)} {oc8 kV8 dc8 pm8 ct8 : Value} {tg0 : Tok} {fw cA cP C0 C1 C2 C3 C4 C5 C6 C7 C8 : Addr} {odw anw cdd : Option Addr} {slw csl : Array (Option Value)} {ocw kVw dcw pmw cdw ctw : Value} {cvs : Array Value} {cfi : Str} {ctf ctg ctt : Tok} {cfl ctx : Int} {cin : Bool} (X : K.In h) (G : h.Ns mainGlobals mg) (hfa : mg "law" = some (.ref fa))
    (a0 : PySem.W.nsIn K mainGlobals "is_whole" = some (some (.ref f0)))
    (l0 : K.lookup f0 = some ⟨oc0, od0, .func (PySem.W.fnOf "is_whole" "is_whole" (defArgs s_is_whole) (defBody s_is_whole) (defScope s_is_whole) .none kV0 dc0 pm0 an0 cd0 ct0), sl0⟩)
    (c0 : PySem.W.codeIn K cd0 "is_whole" = true)
    (k0 : PySem.W.keepIn K (.ref f0) = true)
    (a1 : PySem.W.nsIn K mainGlobals "is_number" = some (some (.ref f1)))
    (l1 : K.lookup f1 = some ⟨oc1, od1, .func (PySem.W.fnOf "is_number" "is_number" (defArgs s_is_number) (defBody s_is_number) (defScope s_is_number) .none kV1 dc1 pm1 an1 cd1 ct1), sl1⟩)
    (c1 : PySem.W.codeIn K cd1 "is_number" = true)
    (k1 : PySem.W.keepIn K (.ref f1) = true)
    (a2 : PySem.W.nsIn K mainGlobals "shared" = some (some (.ref f2)))
    (l2 : K.lookup f2 = some ⟨oc2, od2, .func (PySem.W.fnOf "shared" "shared" (defArgs s_shared) (defBody s_shared) (defScope s_shared) .none kV2 dc2 pm2 an2 cd2 ct2), sl2⟩)
    (c2 : PySem.W.codeIn K cd2 "shared" = true)
    (k2 : PySem.W.keepIn K (.ref f2) = true)
    (a3 : PySem.W.nsIn K mainGlobals "reckoned_back" = some (some (.ref f3)))
    (l3 : K.lookup f3 = some ⟨oc3, od3, .func (PySem.W.fnOf "reckoned_back" "reckoned_back" (defArgs s_reckoned_back) (defBody s_reckoned_back) (defScope s_reckoned_back) .none kV3 dc3 pm3 an3 cd3 ct3), sl3⟩)
    (c3 : PySem.W.codeIn K cd3 "reckoned_back" = true)
    (k3 : PySem.W.keepIn K (.ref f3) = true)
    (a4 : PySem.W.nsIn K mainGlobals "led_back" = some (some (.ref f4)))
    (l4 : K.lookup f4 = some ⟨oc4, od4, .func (PySem.W.fnOf "led_back" "led_back" (defArgs s_led_back) (defBody s_led_back) (defScope s_led_back) .none kV4 dc4 pm4 an4 cd4 ct4), sl4⟩)
    (c4 : PySem.W.codeIn K cd4 "led_back" = true)
    (k4 : PySem.W.keepIn K (.ref f4) = true)
    (a5 : PySem.W.nsIn K mainGlobals "_law_taken" = some (some (.ref f5)))
    (l5 : K.lookup f5 = some ⟨oc5, od5, .func (PySem.W.fnOf "_law_taken" "_law_taken" (defArgs s__law_taken) (defBody s__law_taken) (defScope s__law_taken) .none kV5 dc5 pm5 an5 cd5 ct5), sl5⟩)
    (c5 : PySem.W.codeIn K cd5 "_law_taken" = true)
    (k5 : PySem.W.keepIn K (.ref f5) = true)
    (a6 : PySem.W.nsIn K mainGlobals "_law_alike" = some (some (.ref f6)))
    (l6 : K.lookup f6 = some ⟨oc6, od6, .func (PySem.W.fnOf "_law_alike" "_law_alike" (defArgs s__law_alike) (defBody s__law_alike) (defScope s__law_alike) .none kV6 dc6 pm6 an6 cd6 ct6), sl6⟩)
    (c6 : PySem.W.codeIn K cd6 "_law_alike" = true)
    (k6 : PySem.W.keepIn K (.ref f6) = true)
    (a7 : PySem.W.nsIn K mainGlobals "_law_shared" = some (some (.ref f7)))
    (l7 : K.lookup f7 = some ⟨oc7, od7, .func (PySem.W.fnOf "_law_shared" "_law_shared" (defArgs s__law_shared) (defBody s__law_shared) (defScope s__law_shared) .none kV7 dc7 pm7 an7 cd7 ct7), sl7⟩)
    (c7 : PySem.W.codeIn K cd7 "_law_shared" = true)
    (k7 : PySem.W.keepIn K (.ref f7) = true)
    (a8 : PySem.W.nsIn K mainGlobals "law" = some (some (.ref f8)))
    (l8 : K.lookup f8 = some ⟨oc8, od8, .func (PySem.W.fnOf "law" "law" (defArgs s_law) (defBody s_law) (defScope s_law) .none kV8 dc8 pm8 an8 (.ref cA) ct8), sl8⟩)
    (c8 : PySem.W.codeIn K (.ref cA) "law" = true)
    (k8 : PySem.W.keepIn K (.ref f8) = true)
    (u0 : PySem.W.nsIn K mainGlobals "MOST_MODULUS" = some (some (.int 1000000000000000000000000000000000000000000000000000000000000 tg0)))
    (z0 : PySem.W.nsIn K mainGlobals "ValueError" = some none)
    (z1 : PySem.W.nsIn K mainGlobals "len" = some none)
    (z2 : PySem.W.nsIn K mainGlobals "abs" = some none)
    (z3 : PySem.W.nsIn K mainGlobals "max" = some none)
    (z4 : PySem.W.nsIn K mainGlobals "min" = some none)
    (z5 : PySem.W.nsIn K mainGlobals "int" = some none)
    (z6 : PySem.W.nsIn K mainGlobals "str" = some none)
    (z7 : PySem.W.nsIn K mainGlobals "sum" = some none)
    (z8 : PySem.W.nsIn K mainGlobals "sorted" = some none)
    (z9 : PySem.W.nsIn K mainGlobals "list" = some none)
    (z10 : PySem.W.nsIn K mainGlobals "tuple" = some none)
    (z11 : PySem.W.nsIn K mainGlobals "any" = some none)
    (z12 : PySem.W.nsIn K mainGlobals "all" = some none)
    (z13 : PySem.W.nsIn K mainGlobals "bool" = some none)
    (z14 : PySem.W.nsIn K mainGlobals "isinstance" = some none)
    (z15 : PySem.W.nsIn K mainGlobals "range" = some none)
    (z16 : PySem.W.nsIn K mainGlobals "enumerate" = some none)
    (z17 : PySem.W.nsIn K mainGlobals "zip" = some none)
    (aw : PySem.W.nsIn K mainGlobals "_law_word" = some (some (.ref fw)))
    (lw : K.lookup fw = some ⟨ocw, odw, .func (PySem.W.fnOf "_law_word" "_law_word" (defArgs s__law_word) (defBody s__law_word) (defScope s__law_word) .none kVw dcw pmw anw cdw ctw), slw⟩)
    (cw : PySem.W.codeIn K cdw "_law_word" = true)
    (kw : PySem.W.keepIn K (.ref fw) = true)
    (xn0 : PySem.W.nsIn K mainGlobals "BadRows" = some (some (.ref C0)))
    (xi0 : PySem.W.isClsIn K C0 = true)
    (xt0 : PySem.W.typeIn K (.ref C0) = some (.type "type"))
    (xn1 : PySem.W.nsIn K mainGlobals "BadRight" = some (some (.ref C1)))
    (xi1 : PySem.W.isClsIn K C1 = true)
    (xt1 : PySem.W.typeIn K (.ref C1) = some (.type "type"))
    (xn2 : PySem.W.nsIn K mainGlobals "BadText" = some (some (.ref C2)))
    (xi2 : PySem.W.isClsIn K C2 = true)
    (xt2 : PySem.W.typeIn K (.ref C2) = some (.type "type"))
    (xn3 : PySem.W.nsIn K mainGlobals "BadPrime" = some (some (.ref C3)))
    (xi3 : PySem.W.isClsIn K C3 = true)
    (xt3 : PySem.W.typeIn K (.ref C3) = some (.type "type"))
    (xn4 : PySem.W.nsIn K mainGlobals "BadCount" = some (some (.ref C4)))
    (xi4 : PySem.W.isClsIn K C4 = true)
    (xt4 : PySem.W.typeIn K (.ref C4) = some (.type "type"))
    (xn5 : PySem.W.nsIn K mainGlobals "NotSquare" = some (some (.ref C5)))
    (xi5 : PySem.W.isClsIn K C5 = true)
    (xt5 : PySem.W.typeIn K (.ref C5) = some (.type "type"))
    (xn6 : PySem.W.nsIn K mainGlobals "Unfit" = some (some (.ref C6)))
    (xi6 : PySem.W.isClsIn K C6 = true)
    (xt6 : PySem.W.typeIn K (.ref C6) = some (.type "type"))
    (xn7 : PySem.W.nsIn K mainGlobals "BadPaper" = some (some (.ref C7)))
    (xi7 : PySem.W.isClsIn K C7 = true)
    (xt7 : PySem.W.typeIn K (.ref C7) = some (.type "type"))
    (xn8 : PySem.W.nsIn K mainGlobals "LiftError" = some (some (.ref C8)))
    (xi8 : PySem.W.isClsIn K C8 = true)
    (xt8 : PySem.W.typeIn K (.ref C8) = some (.type "type"))
    (xb8 : PySem.W.subIn K (.ref C8) (.type "BaseException") = some true)
    (xg : PySem.W.specialIn K (.builtin "object.__class__") "__get__" = some (some (.builtin "getset_descriptor.__get__")))
    (xk : PySem.W.takesIn K (.builtin "object.__class__") = some true)
    (yk4 : PySem.W.keepIn K (.ref C4) = true)
    (yb4 : PySem.W.subIn K (.ref C4) (.type "BaseException") = some true)
    (yg4 : PySem.W.findIn K (.ref C4) "__getattribute__" = some (some (.builtin "BaseException.__getattribute__")))
    (ya4 : PySem.W.findIn K (.ref C4) "__getattr__" = some none)
    (yd4 : PySem.W.hasDictIn K C4 = true)
    (yc4 : PySem.W.findIn K (.ref C4) "__class__" = some (some (.builtin "object.__class__")))
    (yo4 : PySem.W.mroIn K C4 (.type "object") = some true)
    (yv4 : PySem.W.subIn K (.ref C4) (.type "ValueError") = some true)
    (yl4 : PySem.W.subIn K (.ref C4) (.ref C8) = some true)
    (ye4 : PySem.W.excIn K C4 veL "ValueError.__new__" = true)
    (ys0_4 : PySem.W.subIn K (.ref C4) (.ref C0) = some false)
    (ys1_4 : PySem.W.subIn K (.ref C4) (.ref C1) = some false)
    (ys2_4 : PySem.W.subIn K (.ref C4) (.ref C2) = some false)
    (ys3_4 : PySem.W.subIn K (.ref C4) (.ref C3) = some false)
    (ys4_4 : PySem.W.subIn K (.ref C4) (.ref C4) = some true)
    (ys5_4 : PySem.W.subIn K (.ref C4) (.ref C5) = some false)
    (ys6_4 : PySem.W.subIn K (.ref C4) (.ref C6) = some false)
    (ys7_4 : PySem.W.subIn K (.ref C4) (.ref C7) = some false)
    (q0 : K.lookup cA = some ⟨.type "code", cdd, .fields cvs, csl⟩)
    (q1 : cvs[11]? = some (.ref cP))
    (q2 : cvs.getD 11 .none = .ref cP)
    (q3 : cvs.getD 18 .none = .str cfi ctf)
    (q4 : cvs.getD 7 .none = .int cfl ctg)
    (q5 : cvs.getD 9 .none = .bool cin)
    (q6 : cvs.getD 10 .none = .int ctx ctt)
    (q7 : cA ≠ cP)
    (q8 : K.lookup cP = none) :
    ∃ (M : Nm) (L : Lk), Top K mg M TT L Γ ∧ (∀ f ∈ TT.fs, FnI K TT L Γ f) ∧ L.fa 9 = fa ∧ L.ps 9 = (["_law_script"] : List Str) ∧ (∀ (s : Shared) (v : Value), BindsTo s (L.fd 9) ⟨[v], []⟩ [("_law_script", v)]) ∧ ∃ cA cP, M.tb = [(cP, lamQ)] ∧ CodK K fa cA cP ∧ ∀ base, LamX.TabB base mg cA cP → LamH base K mg M TT L Γ := by
  have e := hfa.symm.trans (PySem.W.mg_of X G a8)
  cases e
  have F0 := fun_mk (st := s_is_whole) l0 c0 k0
  have b0 := F0.binds (ps := ["thing"]) fun _ _ _ _ _ _ us hl => match us, hl with | [_], _ => rfl
  have F1 := fun_mk (st := s_is_number) l1 c1 k1
  have b1 := F1.binds (ps := ["thing", "low", "high"]) fun _ _ _ _ _ _ us hl => match us, hl with | [_, _, _], _ => rfl
  have F2 := fun_mk (st := s_shared) l2 c2 k2
  have b2 := F2.binds (ps := ["one", "other"]) fun _ _ _ _ _ _ us hl => match us, hl with | [_, _], _ => rfl
  have F3 := fun_mk (st := s_reckoned_back) l3 c3 k3
  have b3 := F3.binds (ps := ["rest", "modulus", "top", "bottom"]) fun _ _ _ _ _ _ us hl => match us, hl with | [_, _, _, _], _ => rfl
  have F4 := fun_mk (st := s_led_back) l4 c4 k4
  have b4 := F4.binds (ps := ["rest", "modulus", "top", "bottom"]) fun _ _ _ _ _ _ us hl => match us, hl with | [_, _, _, _], _ => rfl
  have F5 := fun_mk (st := s__law_taken) l5 c5 k5
  have b5 := F5.binds (ps := ["_law_row", "_law_many"]) fun _ _ _ _ _ _ us hl => match us, hl with | [_, _], _ => rfl
  have F6 := fun_mk (st := s__law_alike) l6 c6 k6
  have b6 := F6.binds (ps := ["_law_one", "_law_due"]) fun _ _ _ _ _ _ us hl => match us, hl with | [_, _], _ => rfl
  have F7 := fun_mk (st := s__law_shared) l7 c7 k7
  have b7 := F7.binds (ps := ["_law_one", "_law_two"]) fun _ _ _ _ _ _ us hl => match us, hl with | [_, _], _ => rfl
  have F8 := fun_mk (st := s_law) l8 c8 k8
  have b8 := F8.binds (ps := ["_law_script"]) fun _ _ _ _ _ _ us hl => match us, hl with | [_], _ => rfl

  refine ⟨⟨fun c => match c with
    | 0 => C4
    | _ => 0, TT.fl, Γ.om, [(cP, lamQ)], fun _ => ""⟩, ⟨fun i => match i with
    | 0 => f0
    | 2 => f1
    | 1 => f2
    | 3 => f3
    | 8 => f4
    | 5 => f5
    | 17 => f6
    | 4 => f7
    | 9 => fa
    | _ => 0, fun i => match i with
    | 0 => PySem.W.fnOf "is_whole" "is_whole" (defArgs s_is_whole) (defBody s_is_whole) (defScope s_is_whole) .none kV0 dc0 pm0 an0 cd0 ct0
    | 2 => PySem.W.fnOf "is_number" "is_number" (defArgs s_is_number) (defBody s_is_number) (defScope s_is_number) .none kV1 dc1 pm1 an1 cd1 ct1
    | 1 => PySem.W.fnOf "shared" "shared" (defArgs s_shared) (defBody s_shared) (defScope s_shared) .none kV2 dc2 pm2 an2 cd2 ct2
    | 3 => PySem.W.fnOf "reckoned_back" "reckoned_back" (defArgs s_reckoned_back) (defBody s_reckoned_back) (defScope s_reckoned_back) .none kV3 dc3 pm3 an3 cd3 ct3
    | 8 => PySem.W.fnOf "led_back" "led_back" (defArgs s_led_back) (defBody s_led_back) (defScope s_led_back) .none kV4 dc4 pm4 an4 cd4 ct4
    | 5 => PySem.W.fnOf "_law_taken" "_law_taken" (defArgs s__law_taken) (defBody s__law_taken) (defScope s__law_taken) .none kV5 dc5 pm5 an5 cd5 ct5
    | 17 => PySem.W.fnOf "_law_alike" "_law_alike" (defArgs s__law_alike) (defBody s__law_alike) (defScope s__law_alike) .none kV6 dc6 pm6 an6 cd6 ct6
    | 4 => PySem.W.fnOf "_law_shared" "_law_shared" (defArgs s__law_shared) (defBody s__law_shared) (defScope s__law_shared) .none kV7 dc7 pm7 an7 cd7 ct7
    | 9 => PySem.W.fnOf "law" "law" (defArgs s_law) (defBody s_law) (defScope s_law) .none kV8 dc8 pm8 an8 (.ref cA) ct8
    | _ => PySem.W.fnOf "law" "law" (defArgs s_law) (defBody s_law) (defScope s_law) .none kV8 dc8 pm8 an8 (.ref cA) ct8, fun i => match i with
    | 0 => ["thing"]
    | 2 => ["thing", "low", "high"]
    | 1 => ["one", "other"]
    | 3 => ["rest", "modulus", "top", "bottom"]
    | 8 => ["rest", "modulus", "top", "bottom"]
    | 5 => ["_law_row", "_law_many"]
    | 17 => ["_law_one", "_law_due"]
    | 4 => ["_law_one", "_law_two"]
    | 9 => ["_law_script"]
    | _ => [], .ref cA⟩, ?_, ?_, rfl, rfl, fun s v => .of_eq rfl, ?_⟩
  · refine ⟨rfl, ?_, ?_, ?_, PySem.W.mg_none_of X G z14, PySem.W.mg_none_of X G z15, PySem.W.mg_none_of X G z16, PySem.W.mg_none_of X G z17, ?_, fun c v dw h => wdOf_in h, ?_⟩
    · intro g hg d hd
      simp only [TT, List.mem_cons, List.not_mem_nil, or_false] at hg
      rcases hg with rfl
      · cases hd
        exact ⟨_, .int 1000000000000000000000000000000000000000000000000000000000000, PySem.W.mg_of X G u0, ⟨_, rfl⟩, fun F => .int _⟩
    · intro b hb
      cases b <;> first | (simp [okBi] at hb; done) | skip
      · exact PySem.W.mg_none_of X G z1
      · exact PySem.W.mg_none_of X G z2
      · exact PySem.W.mg_none_of X G z3
      · exact PySem.W.mg_none_of X G z4
      · exact PySem.W.mg_none_of X G z3
      · exact PySem.W.mg_none_of X G z4
      · exact PySem.W.mg_none_of X G z5
      · exact PySem.W.mg_none_of X G z6
      · exact PySem.W.mg_none_of X G z7
      · exact PySem.W.mg_none_of X G z8
      · exact PySem.W.mg_none_of X G z9
      · exact PySem.W.mg_none_of X G z10
      · exact PySem.W.mg_none_of X G z11
      · exact PySem.W.mg_none_of X G z12
    · intro t
      cases t
      · exact PySem.W.mg_none_of X G z5
      · exact PySem.W.mg_none_of X G z13
      · exact PySem.W.mg_none_of X G z6
      · exact PySem.W.mg_none_of X G z10
      · exact PySem.W.mg_none_of X G z9
    · intro c hc
      simp only [TT, List.mem_cons, List.not_mem_nil, or_false] at hc
      rcases hc with rfl
      · exact ⟨PySem.W.mg_of X G xn4, yk4, ye4, yb4, xt4⟩
    · intro f hf
      simp only [TT, List.mem_cons, List.not_mem_nil, or_false] at hf
      rcases hf with rfl | rfl | rfl | rfl | rfl | rfl | rfl | rfl | rfl
      · exact ⟨PySem.W.mg_of X G a0, k0, [], [], b0, .nil, fun F => .nil⟩
      · exact ⟨PySem.W.mg_of X G a1, k1, [], [], b1, .nil, fun F => .nil⟩
      · exact ⟨PySem.W.mg_of X G a2, k2, [], [], b2, .nil, fun F => .nil⟩
      · exact ⟨PySem.W.mg_of X G a3, k3, [], [], b3, .nil, fun F => .nil⟩
      · exact ⟨PySem.W.mg_of X G a4, k4, [], [], b4, .nil, fun F => .nil⟩
      · exact ⟨PySem.W.mg_of X G a5, k5, [], [], b5, .nil, fun F => .nil⟩
      · exact ⟨PySem.W.mg_of X G a6, k6, [], [], b6, .nil, fun F => .nil⟩
      · exact ⟨PySem.W.mg_of X G a7, k7, [], [], b7, .nil, fun F => .nil⟩
      · exact ⟨PySem.W.mg_of X G a8, k8, [], [], b8, .nil, fun F => .nil⟩
  · intro f hf
    simp only [TT, List.mem_cons, List.not_mem_nil, or_false] at hf
    rcases hf with rfl | rfl | rfl | rfl | rfl | rfl | rfl | rfl | rfl
    · exact ⟨_, _, _, _, _, rfl, F0, sc_is_whole, m_is_whole, rfl, rfl, fun z => absurd z (by decide +kernel)⟩
    · exact ⟨_, _, _, _, _, rfl, F1, sc_is_number, m_is_number, rfl, rfl, fun z => absurd z (by decide +kernel)⟩
    · exact ⟨_, _, _, _, _, rfl, F2, sc_shared, m_shared, rfl, rfl, fun z => absurd z (by decide +kernel)⟩
    · exact ⟨_, _, _, _, _, rfl, F3, sc_reckoned_back, m_reckoned_back, rfl, rfl, fun z => absurd z (by decide +kernel)⟩
    · exact ⟨_, _, _, _, _, rfl, F4, sc_led_back, m_led_back, rfl, rfl, fun z => absurd z (by decide +kernel)⟩
    · exact ⟨_, _, _, _, _, rfl, F5, sc__law_taken, m__law_taken, rfl, rfl, fun z => absurd z (by decide +kernel)⟩
    · exact ⟨_, _, _, _, _, rfl, F6, sc__law_alike, m__law_alike, rfl, rfl, fun z => absurd z (by decide +kernel)⟩
    · exact ⟨_, _, _, _, _, rfl, F7, sc__law_shared, m__law_shared, rfl, rfl, fun z => absurd z (by decide +kernel)⟩
    · exact ⟨_, _, _, _, _, rfl, F8, sc_law, m_law, rfl, rfl, fun z => ⟨rfl, rfl⟩⟩
  · refine ⟨cA, cP, rfl, ⟨⟨_, _, cdd, cvs, csl, cfi, ctf, cfl, ctg, cin, ctx, ctt, l8, rfl, rfl, q0, q1, q2, q3, q4, q5, q6, q7⟩, q8⟩, fun base TB => ?_⟩
    have GW : WdG mg (at8 C0 C1 C2 C3 C4 C5 C6 C7) C8 := by
      refine ⟨fun i x hx => ?_, PySem.W.mg_of X G xn8, PySem.W.mg_none_of X G z14, PySem.W.mg_none_of X G z0⟩
      have hi : i < 8 := (List.getElem?_eq_some_iff.mp hx).1
      revert i
      refine fun i hx hi => lt8 (p := fun i => wN[i]? = some x → mg x = some (.ref (at8 C0 C1 C2 C3 C4 C5 C6 C7 i))) ?_ ?_ ?_ ?_ ?_ ?_ ?_ ?_ i hi hx
      · rintro ⟨⟩
        exact PySem.W.mg_of X G xn0
      · rintro ⟨⟩
        exact PySem.W.mg_of X G xn1
      · rintro ⟨⟩
        exact PySem.W.mg_of X G xn2
      · rintro ⟨⟩
        exact PySem.W.mg_of X G xn3
      · rintro ⟨⟩
        exact PySem.W.mg_of X G xn4
      · rintro ⟨⟩
        exact PySem.W.mg_of X G xn5
      · rintro ⟨⟩
        exact PySem.W.mg_of X G xn6
      · rintro ⟨⟩
        exact PySem.W.mg_of X G xn7
    have WM : WdM K ⟨fun c => match c with
    | 0 => C4
    | _ => 0, TT.fl, Γ.om, [(cP, lamQ)], fun _ => ""⟩ Γ TT.xs (at8 C0 C1 C2 C3 C4 C5 C6 C7) C8 := by
      refine ⟨fun c hc => ?_⟩
      simp only [TT, List.mem_cons, List.not_mem_nil, or_false] at hc
      rcases hc with rfl
      · refine ⟨4, "count", ⟨⟨yg4, ya4, yb4, yd4, yc4, xg, xk, yo4⟩, exm_ne xb8 xi8 xt8 yl4, ?_, kit_VE yv4, by omega, by omega⟩, rfl, rfl⟩
        refine lt8 (kit_ne xi0 xt0 ys0_4 fun z => by have z : C4 = C0 := z; rw [← z] at ys0_4; rw [ys4_4] at ys0_4; cases ys0_4) (kit_ne xi1 xt1 ys1_4 fun z => by have z : C4 = C1 := z; rw [← z] at ys1_4; rw [ys4_4] at ys1_4; cases ys1_4) (kit_ne xi2 xt2 ys2_4 fun z => by have z : C4 = C2 := z; rw [← z] at ys2_4; rw [ys4_4] at ys2_4; cases ys2_4) (kit_ne xi3 xt3 ys3_4 fun z => by have z : C4 = C3 := z; rw [← z] at ys3_4; rw [ys4_4] at ys3_4; cases ys3_4) (kit_ne xi4 xt4 ys4_4 fun z => rfl) (kit_ne xi5 xt5 ys5_4 fun z => by have z : C4 = C5 := z; rw [← z] at ys5_4; rw [ys4_4] at ys5_4; cases ys5_4) (kit_ne xi6 xt6 ys6_4 fun z => by have z : C4 = C6 := z; rw [← z] at ys6_4; rw [ys4_4] at ys6_4; cases ys6_4) (kit_ne xi7 xt7 ys7_4 fun z => by have z : C4 = C7 := z; rw [← z] at ys7_4; rw [ys4_4] at ys7_4; cases ys7_4)
    refine lamH_mk (st := s__law_word) (PySem.W.mg_of X G aw) kw lw cw ?_ ?_ ?_ ?_ GW WM TB rfl rfl
    · exact (fun_mk (st := s__law_word) lw cw kw).binds (ps := ["_law_work"]) fun _ _ _ _ _ _ us hl => match us, hl with | [_], _ => rfl
    · exact ⟨rfl, rfl, rfl, by decide +kernel, rfl, by decide +kernel, by decide +kernel⟩
    · exact ⟨by decide +kernel, .inl rfl, rfl, rfl, rfl, rfl⟩
    · exact is_w
end
theorem walk_end {l : PySem.W.OpenLaw} {q : Program} {loose : List Str} {XP : (Str → Option Value) → Heap → Prop} {YP : World → Heap → Prop} {d : DefRec} {K : Params → PySem.W.Frag} {n : Nat} (law : ∀ ns : List Int, ns.length ≤ 63 → callN Γ n 9 [(.scr ns, false)] = .ret (.bl true, false) none)
    (hr : Room (4 * n) callerA) (hm : l.most = some 63) (hdf : d.params.defaults = []) (hrec : ((recsOf q).any fun e => e.name == d.name) = true)
    (hY : ∀ (w : World) (h : Heap), YP w h → (K w.params).In h)
    (A : ∀ (w : World) (mg : Str → Option Value) (fa : Addr) (h : Heap), (K w.params).In h → h.Ns mainGlobals mg → mg d.name = some (.ref fa) →
      ∃ (M : Nm) (L : Lk), Top (K w.params) mg M TT L Γ ∧ (∀ f ∈ TT.fs, FnI (K w.params) TT L Γ f) ∧ L.fa 9 = fa ∧ L.ps 9 = (["_law_script"] : List Str) ∧ (∀ (s : Shared) (v : Value), BindsTo s (L.fd 9) ⟨[v], []⟩ [("_law_script", v)]) ∧
        ∃ cA cP, M.tb = [(cP, lamQ)] ∧ CodK (K w.params) fa cA cP ∧ ∀ base, LamX.TabB base mg cA cP → LamH base (K w.params) mg M TT L Γ) :
    PySem.W.WalkO q loose XP YP l.row.toRowW d [] (fun f vs => PySem.call f vs) := by
  refine LamX.walk_ofOwn (n := 63) (k := 4 * n) (x := "_law_script") (CX := fun w => L2.CX l.prog w) hm (by decide) hdf hr hrec hY ?_ fun _ _ _ _ _ ⟨_, _, _, _, _, _, _, _, _, _, _, _, z⟩ => z
  intro w mg fa h Y KX G hmg own
  obtain ⟨M, L, t, hf, e1, e2, hb, cA, cP, htb, C, LH⟩ := A w mg fa h KX G hmg
  subst e1
  have one : ∀ {p : Addr × Addr}, p ∈ [(cA, cP)] → p = (cA, cP) := fun hp => List.mem_singleton.mp hp
  refine ⟨L.fd 9, [(cA, cP)], _, fun p hp => ?_, fun p hp => ?_, fun p hp => ?_, hb, ?_, fun base KB GB TBs => law_okL (LH base (TBs _ (List.mem_singleton.mpr rfl))) htb t hf (f := 9) (by decide) e2 law⟩
  · rw [one hp]
    exact C.tab own
  · rw [one hp]
    exact C.no
  · rw [one hp]
    exact C.hd KX
  · intro H a ns hl _ hT hS
    exact ⟨a, ns, rfl, hS, hl, hT _ (List.mem_singleton.mpr rfl), fun _ => rfl⟩
end PL
/-! RBase: calls; is_whole, is_number; the law's draws. (For any Γ with defs 0, 2, 5.) -/
namespace PL
open PySem
theorem callN_eq {n f : Nat} {F : FnE} {args : List (D × Bool)} (h : Γ.fn f = some F) : callN Γ (n + 1) f args = body Γ (callN Γ n) F args := by
  show (match Γ.fn f with | some F => body Γ (callN Γ n) F args | none => .err) = _
  rw [h]
theorem dfl_nil (f : Nat) : Γ.dfl f = [] := rfl
theorem r_is_whole (n : Nat) (i : Int) : callN Γ (n + 1) 0 [(.int i, false)] = .ret (.bl true, false) none := by
  rw [callN_eq rfl]
  simp [body, b_is_whole]
theorem r_is_number (n : Nat) (i a b : Int) : callN Γ (n + 2) 2 [(.int i, false), (.int a, false), (.int b, false)] = .ret (.bl (decide (a ≤ i) && decide (i ≤ b)), false) none := by
  rw [callN_eq rfl]
  by_cases h : a ≤ i <;> simp [body, b_is_number, h, r_is_whole, dfl_nil]
/-- the law's row: the script, how many are taken, two numbers -/
abbrev rwD (ns : List Int) (i x y : Int) : D := .lst [.scr ns, .int i, .int x, .int y]
theorem r_taken (n : Nat) (ns : List Int) (i x y m : Int) (hi : 0 ≤ i) (hm : 0 < m) (hl : m.natAbs.log2 < 9000) : ∃ v i' x' y', 0 ≤ i' ∧ 0 ≤ v ∧ v < m ∧ callN Γ (n + 1) 5 [(rwD ns i x y, true), (.int m, false)] = .ret (.int v, false) (some (rwD ns i' x' y')) := by
  rw [callN_eq rfl]
  have s1 : ∀ z : Int, MulOk z 48271 := fun z => mulOk_r (by omega)
  by_cases h1 : 0 < y
  · refine ⟨y % m, i, x, y / m, hi, Int.emod_nonneg _ (by omega), Int.emod_lt_of_pos _ hm, ?_⟩
    simp [body, b__law_taken, ixn, h1, hm, hl]
  · by_cases h2 : (ns.length : Int) < i + 1
    · refine ⟨(x * 48271 + 11) % 2147483647 / 7 % m, i + 1, (x * 48271 + 11) % 2147483647, y, by omega, Int.emod_nonneg _ (by omega), Int.emod_lt_of_pos _ hm, ?_⟩
      have l8 : Nat.log2 7 < 9000 := by decide
      simp [body, b__law_taken, b__law_taken_1, ixn, h1, hm, h2, s1, l8]
    · have hj : i.toNat < ns.length := by omega
      by_cases h3 : 1000000000000000000 ≤ ns[i.toNat]
      · refine ⟨ns[i.toNat] % m, i + 1, (x * 48271 + ns[i.toNat] + 11) % 2147483647, ns[i.toNat] / m, by omega, Int.emod_nonneg _ (by omega), Int.emod_lt_of_pos _ hm, ?_⟩
        simp [body, b__law_taken, b__law_taken_1, b__law_taken_2, b__law_taken_3, ixn, h1, hm, hl, h2, s1, hi, hj, show i < (ns.length : Int) by omega, h3, show i + 1 - 1 = i by omega]
      · refine ⟨ns[i.toNat] % m, i + 1, (x * 48271 + ns[i.toNat] + 11) % 2147483647, y, by omega, Int.emod_nonneg _ (by omega), Int.emod_lt_of_pos _ hm, ?_⟩
        simp [body, b__law_taken, b__law_taken_1, b__law_taken_2, b__law_taken_3, ixn, h1, hm, h2, s1, hi, hj, show i < (ns.length : Int) by omega, h3, show i + 1 - 1 = i by omega]
/-- a draw of a small number of things -/
theorem lg {z : Int} (h1 : 0 < z) (h2 : z ≤ 1000000000000000000000000) : z.natAbs.log2 < 9000 := by
  have := natAbs_log2_lt (a := z) (k := 200) (by omega) (by omega)
  omega
/-- a row that the law draws from -/
def RwD (ns : List Int) (d : D) : Prop := ∃ i x y, 0 ≤ i ∧ d = rwD ns i x y
theorem RwD.take {ns : List Int} {d : D} (h : RwD ns d) (n : Nat) {m : Int} (hm : 0 < m) (hl : m ≤ 1000000000000000000000000) : ∃ v d', RwD ns d' ∧ 0 ≤ v ∧ v < m ∧ callN Γ (n + 1) 5 [(d, true), (.int m, false)] = .ret (.int v, false) (some d') := by
  obtain ⟨i, x, y, hi, rfl⟩ := h
  obtain ⟨v, i', x', y', h1, h2, h3, h4⟩ := r_taken n ns i x y m hi hm (lg hm hl)
  exact ⟨v, _, ⟨i', x', y', h1, rfl⟩, h2, h3, h4⟩
theorem RwD.rdv {ns : List Int} {d : D} (h : RwD ns d) (env : Fm) (k : Nat) (o : Bool) (e : env[k]? = some (some (d, o))) : rdv k env = some d := by
  obtain ⟨i, x, y, hi, rfl⟩ := h
  simp only [PL.rdv]
  rw [e]
end PL
/-! RLst: rows as data; what is walked. -/
namespace PL
open PySem
/-! ### rows as data -/
abbrev vD (r : List Int) : List D := r.map .int
abbrev tD (r : List Int) : D := .tup (vD r)
abbrev lD (r : List Int) : D := .lst (vD r)
abbrev mD (m : List (List Int)) : D := .tup (m.map tD)
def Siz (x : Int) : Prop := -1000000000 ≤ x ∧ x ≤ 1000000000
structure RowsOk (m : List (List Int)) (w : Nat) : Prop where
  ne : m ≠ []
  few : m.length ≤ 8
  w1 : 1 ≤ w
  w8 : w ≤ 8
  len : ∀ r ∈ m, r.length = w
  siz : ∀ r ∈ m, ∀ x ∈ r, Siz x
theorem rgD_len (a b : Int) : (rgD a b).length = (b - a).toNat := by
  unfold rgD
  simp
theorem rgD_get {a b : Int} {i : Nat} {d : D} (h : (rgD a b)[i]? = some d) : d = .int (a + i) ∧ i < (b - a).toNat := by
  have hl := (List.getElem?_eq_some_iff.mp h).1
  rw [rgD_len] at hl
  refine ⟨?_, hl⟩
  unfold rgD at h
  rw [List.getElem?_map, List.getElem?_range hl] at h
  simpa using h.symm
/-- an item of enumerate -/
theorem enm_get {l : List D} {i : Nat} {d : D} (h : ((rgD 0 l.length).zipWith (fun a b => D.tup [a, b]) l)[i]? = some d) : ∃ x, l[i]? = some x ∧ d = .tup [.int i, x] := by
  rw [List.getElem?_zipWith] at h
  cases h1 : (rgD 0 l.length)[i]? with
  | none => rw [h1] at h; simp at h
  | some a =>
    cases h2 : l[i]? with
    | none => rw [h1, h2] at h; simp at h
    | some b =>
      rw [h1, h2] at h
      obtain ⟨rfl, _⟩ := rgD_get h1
      simp at h
      exact ⟨b, rfl, h.symm⟩
theorem enm_len (l : List D) : ((rgD 0 l.length).zipWith (fun a b => D.tup [a, b]) l).length = l.length := by
  rw [List.length_zipWith, rgD_len]
  omega
theorem zip_get {l m : List D} {i : Nat} {d : D} (h : (l.zipWith (fun a b => D.tup [a, b]) m)[i]? = some d) : ∃ x y, l[i]? = some x ∧ m[i]? = some y ∧ d = .tup [x, y] := by
  rw [List.getElem?_zipWith] at h
  cases h1 : l[i]? with
  | none => rw [h1] at h; simp at h
  | some a =>
    cases h2 : m[i]? with
    | none => rw [h1, h2] at h; simp at h
    | some b =>
      rw [h1, h2] at h
      simp at h
      exact ⟨a, b, rfl, rfl, h.symm⟩
end PL
/-! RAlike: the same, of the same kinds. (Def 17.) -/
namespace PL
open PySem
/-- of depth at most n, not too long -/
def Alk : Nat → D → Prop
  | _, .non => True
  | _, .bl _ => True
  | _, .int _ => True
  | _, .str s => s.cps.all (· < 0x110000) = true
  | n + 1, .tup l => l.length ≤ LIM ∧ ∀ x ∈ l, Alk n x
  | n + 1, .lst l => l.length ≤ LIM ∧ ∀ x ∈ l, Alk n x
  | _, _ => False
mutual
theorem eqb_refl : ∀ (d : D) (n : Nat), Dpk n d → eqb d d = true
  | .non, _, _ => by simp
  | .bl b, _, _ => by simp
  | .int i, _, _ => by simp
  | .str s, _, _ => by simp
  | .tup l, n, h => by
    cases n with
    | zero => exact h.elim
    | succ n =>
      rw [eqb_tup_tup]
      exact eqbs_refl l n h
  | .lst l, n, h => by
    cases n with
    | zero => exact h.elim
    | succ n =>
      rw [eqb_lst_lst]
      exact eqbs_refl l n h
  | .scr _, n, h => by cases n <;> exact h.elim
  | .dic _ _, n, h => by cases n <;> exact h.elim
  | .ins _ _ _, n, h => by cases n <;> exact h.elim
theorem eqbs_refl : ∀ (l : List D) (n : Nat), (∀ x ∈ l, Dpk n x) → eqbs l l = true
  | [], _, _ => by simp
  | d :: l, n, h => by
    rw [eqbs_cc, eqb_refl d n (h d (by simp)), eqbs_refl l n fun x hx => h x (by simp [hx])]
    rfl
end
theorem r_alike_flat (n : Nat) (d : D) (hf : flat d = true) (hd : Dpk 16 d) : callN Γ (n + 1) 17 [(d, false), (d, false)] = .ret (.bl true, false) none := by
  rw [callN_eq rfl]
  have e := eqb_refl d 16 hd
  cases d <;> first | (simp [flat] at hf; done) | (simp [body, b__law_alike, b__law_alike_1, hd, dpk_bl, dpk_int, dpk_non, e])
theorem alike_c (n : Nat) (l : List D) (t : Bool) (hz : l.length ≤ LIM) (h : ∀ x ∈ l, callN Γ n 17 [(x, false), (x, false)] = .ret (.bl true, false) none) (s2 : Sl) :
    ∃ s2', ev Γ (callN Γ n) c__law_alike_1 [some ((if t = true then D.tup l else D.lst l), false), some ((if t = true then D.tup l else D.lst l), false), s2] = .ok (.lst [], true) [some ((if t = true then D.tup l else D.lst l), false), some ((if t = true then D.tup l else D.lst l), false), s2'] := by
  unfold c__law_alike_1
  have e := lcl_filter Γ (callN Γ n) (tg := .one 2) (c := .not (.fn 17 (.cons (.idxv 0 (.var 2)) (.cons (.idxv 1 (.var 2)) .nil)))) (body := .var 2) (fun _ => false) id (rgD 0 l.length)
    [some ((if t = true then D.tup l else D.lst l), false), some ((if t = true then D.tup l else D.lst l), false), none] [] (by rw [rgD_len]; simp; omega) (by
      intro x hx
      obtain ⟨p, hp⟩ := List.mem_iff_getElem?.mp hx
      obtain ⟨rfl, hp2⟩ := rgD_get hp
      rw [Int.zero_add]
      have p1 : p < l.length := by omega
      have g1 : ixn l.length (p : Int) = some p := by
        simp only [ixn]
        rw [if_pos (by omega), if_pos (by omega)]
        simp
      have q := h _ (List.getElem_mem p1)
      refine ⟨_, [some ((if t = true then D.tup l else D.lst l), false), some ((if t = true then D.tup l else D.lst l), false), some (.int p, false)], false, rfl, ?_, fun _ => rfl, fun z => nomatch z⟩
      cases t <;> simp [g1, p1, q, dfl_nil])
  refine ⟨fz1 [some ((if t = true then D.tup l else D.lst l), false), some ((if t = true then D.tup l else D.lst l), false), s2] 2, ?_⟩
  rw [lc1 Γ _ (e1 := [some ((if t = true then D.tup l else D.lst l), false), some ((if t = true then D.tup l else D.lst l), false), s2]) (items := rgD 0 l.length) (by unfold LIM at hz; cases t <;> simp <;> omega) e]
  simp
theorem r_alike : ∀ (k n : Nat) (d : D), k ≤ 15 → Alk k d → callN Γ (n + k + 1) 17 [(d, false), (d, false)] = .ret (.bl true, false) none
  | k, n, .non, _, _ => r_alike_flat _ _ rfl (dpk_non _)
  | k, n, .bl b, _, _ => r_alike_flat _ _ rfl (dpk_bl _ _)
  | k, n, .int i, _, _ => r_alike_flat _ _ rfl (dpk_int _ _)
  | k, n, .str s, _, h => r_alike_flat _ _ rfl (by cases k <;> exact h)
  | 0, _, .tup _, _, h => h.elim
  | 0, _, .lst _, _, h => h.elim
  | k + 1, n, .tup l, hk, h => by
    rw [callN_eq rfl]
    obtain ⟨s2', e⟩ := alike_c (n + (k + 1)) l true h.1 (fun x hx => by
      have := r_alike k n x (by omega) (h.2 x hx)
      rw [show n + (k + 1) = n + k + 1 by omega]
      exact this) none
    simp at e
    simp [body, b__law_alike, b__law_alike_2, dpk_bl, dpk_int, e, Dpk, LIM]
  | k + 1, n, .lst l, hk, h => by
    rw [callN_eq rfl]
    obtain ⟨s2', e⟩ := alike_c (n + (k + 1)) l false h.1 (fun x hx => by
      have := r_alike k n x (by omega) (h.2 x hx)
      rw [show n + (k + 1) = n + k + 1 by omega]
      exact this) none
    simp at e
    simp [body, b__law_alike, b__law_alike_2, dpk_bl, dpk_int, e, Dpk, LIM]
  | 0, _, .scr _, _, h => h.elim
  | _ + 1, _, .scr _, _, h => h.elim
  | 0, _, .dic _ _, _, h => h.elim
  | _ + 1, _, .dic _ _, _, h => h.elim
  | 0, _, .ins _ _ _, _, h => h.elim
  | _ + 1, _, .ins _ _ _, _, h => h.elim
end PL
/-! RLed: the greatest number by which both go; fractions led back. (Defs 1, 3, 4, 8.) -/
namespace PL
open PySem
theorem glb0 : Γ.glb 0 = some (.int 1000000000000000000000000000000000000000000000000000000000000) := rfl
/-! ### the greatest number by which both go -/
theorem shared_loop {call : Nat → List (D × Bool) → CRes} : ∀ (k : Nat) (x y : Int), y.toNat ≤ k → 0 ≤ x → 0 ≤ y →
    whl Γ call false (.cmpv .ne 1 (.cst (.int 0))) b_shared_2 [some (.int x, false), some (.int y, false)] = .nx [some (.int (Int.gcd x y), false), some (.int 0, false)] := by
  intro k
  induction k with
  | zero =>
    intro x y hk hx hy
    have e : y = 0 := by omega
    subst e
    unfold whl
    rw [whlG_done (by simp [dpk_int]; exact ⟨rfl, rfl⟩)]
    simp
    omega
  | succ k ih =>
    intro x y hk hx hy
    by_cases e : y = 0
    · subst e
      unfold whl
      rw [whlG_done (by simp [dpk_int]; exact ⟨rfl, rfl⟩)]
      simp
      omega
    · have h1 := Int.emod_nonneg x e
      have h2 := Int.emod_lt_of_pos x (show 0 < y by omega)
      have z := ih y (x % y) (by omega) hy h1
      rw [← gcd_step] at z
      rw [← z]
      unfold whl
      rw [whlG_more (by simp [dpk_int, dpk_non, dfl_nil, glb0, e]; exact ⟨rfl, rfl⟩) (by simp [dpk_int, dpk_non, dfl_nil, glb0, b_shared_2, show 0 < y by omega]; rfl)]
theorem r_shared (n : Nat) (a b : Int) : callN Γ (n + 1) 1 [(.int a, false), (.int b, false)] = .ret (.int (Int.gcd a b), false) none := by
  rw [callN_eq rfl]
  simp [dpk_int, dpk_non, dfl_nil, glb0, body, b_shared, abs_if]
  rw [shared_loop b.natAbs a.natAbs b.natAbs (by omega) (by omega) (by omega)]
  simp [dpk_int, dpk_non, dfl_nil, glb0, Int.gcd, b_shared_1]
theorem r_law_shared (n : Nat) (a b : Int) : callN Γ (n + 1) 4 [(.int a, false), (.int b, false)] = .ret (.int (Int.gcd a b), false) none := by
  rw [callN_eq rfl]
  simp [dpk_int, dpk_non, dfl_nil, glb0, body, b__law_shared, abs_if]
  rw [show b__law_shared_2 = b_shared_2 from rfl, shared_loop b.natAbs a.natAbs b.natAbs (by omega) (by omega) (by omega)]
  simp [dpk_int, dpk_non, dfl_nil, glb0, Int.gcd, b__law_shared_1]
theorem rb_loop {n : Nat} {m rest top bottom : Int} (hm : m.natAbs.log2 < 9000) (ht : 0 ≤ top) : ∀ (k : Nat) (r0 t0 r1 t1 s : Int) (q x7 x8 : Sl), r1.toNat ≤ k → RbI m rest r0 t0 r1 t1 s → top < r0 →
    ∃ r0' t0' r1' t1' s' q', RbI m rest r0' t0' r1' t1' s' ∧ top < r0' ∧ r1' ≤ top ∧ whl Γ (callN Γ n) false (.cmp .gt (.idxv 5 (.cst (.int 0))) (.var 2)) b_reckoned_back_2
      [some (.int rest, false), some (.int m, false), some (.int top, false), some (.int bottom, false), some (.tup [.int r0, .int t0], false), some (.tup [.int r1, .int t1], false), q, x7, x8] =
     .nx [some (.int rest, false), some (.int m, false), some (.int top, false), some (.int bottom, false), some (.tup [.int r0', .int t0'], false), some (.tup [.int r1', .int t1'], false), q', x7, x8] := by
  intro k
  induction k with
  | zero =>
    intro r0 t0 r1 t1 s q x7 x8 hk h h3
    have := h.h1
    refine ⟨r0, t0, r1, t1, s, q, h, h3, by omega, ?_⟩
    unfold whl
    rw [whlG_done (by simp [dpk_int, dpk_non, dfl_nil, glb0, ixn, show ¬ top < r1 by omega]; exact ⟨rfl, rfl⟩)]
  | succ k ih =>
    intro r0 t0 r1 t1 s q x7 x8 hk h h3
    have h1 := h.h1
    have h2 := h.h2
    by_cases hr : top < r1
    · have sz := h.size
      have st := h.step (by omega)
      have e2 := st.h2
      have e1 := st.h1
      have hq0 : 0 ≤ r0 / r1 := Int.ediv_nonneg (by omega) h1
      have hq1 : r0 / r1 ≤ r0 := Int.ediv_le_self _ (by omega)
      obtain ⟨r0', t0', r1', t1', s', q', z1, z2, z3, z4⟩ := ih r1 t1 (r0 - r0 / r1 * r1) (t0 - r0 / r1 * t1) (-s) (some (.int (r0 / r1), false)) x7 x8 (by omega) st hr
      refine ⟨r0', t0', r1', t1', s', q', z1, z2, z3, ?_⟩
      rw [← z4]
      unfold whl
      rw [whlG_more (by simp [dpk_int, dpk_non, dfl_nil, glb0, ixn, hr]; exact ⟨rfl, rfl⟩) (by
        have l1 : r1.natAbs.log2 < 9000 := Nat.lt_of_le_of_lt (log2_le_of (show r1.natAbs ≤ m.natAbs by omega)) hm
        simp [dpk_int, dpk_non, dfl_nil, glb0, b_reckoned_back_2, ixn, show 0 < r1 by omega, l1, mulOk_of hm (a := r0 / r1) (b := r1) (by omega) (by omega), mulOk_of hm (a := r0 / r1) (b := t1) (by omega) (by omega), LIM]
        rfl)]
    · refine ⟨r0, t0, r1, t1, s, q, h, h3, by omega, ?_⟩
      unfold whl
      rw [whlG_done (by simp [dpk_int, dpk_non, dfl_nil, glb0, ixn, hr]; exact ⟨rfl, rfl⟩)]
def lbD : Option (Int × Int) → D
  | none => .non
  | some (a, b) => .tup [.int a, .int b]
theorem rb_tail {n : Nat} {bottom a b : Int} {x0 x1 x2 x4 x5 x6 : Sl} (hb : 0 < b) : ∃ env, exs Γ (callN Γ (n + 1)) false b_reckoned_back_3 [x0, x1, x2, some (.int bottom, false), x4, x5, x6, some (.int a, false), some (.int b, false)] = .rt (lbD (if b ≤ bottom ∧ Int.gcd a b = 1 then some (a, b) else none), false) env := by
  have hq : (b == 0) = false := by
    rw [beq_eq_false_iff_ne]
    omega
  by_cases h1 : bottom < b
  · rw [if_neg (by omega)]
    simp [dpk_int, dpk_non, dfl_nil, glb0, b_reckoned_back_3, h1, lbD]
  · by_cases h2 : Int.gcd a b = 1
    · rw [if_pos (by omega)]
      simp [dpk_int, dpk_non, dfl_nil, glb0, b_reckoned_back_3, b_reckoned_back_4, h1, hq, r_shared, h2, lbD, LIM]
    · have : Int.gcd a b ≠ 0 := by
        rw [Ne, Int.gcd_eq_zero_iff]
        omega
      rw [if_neg (by omega)]
      simp [dpk_int, dpk_non, dfl_nil, glb0, b_reckoned_back_3, h1, hq, r_shared, show (1 : Int) < (Int.gcd a b : Int) by omega, lbD]
theorem r_reckoned_back (n : Nat) (rest m top bottom : Int) (hm : m.natAbs.log2 < 9000) (ht : 0 ≤ top) (hb : 1 ≤ bottom) (hs : 2 * top * bottom < m) : ∃ o, LB rest m top bottom o ∧ callN Γ (n + 2) 3 [(.int rest, false), (.int m, false), (.int top, false), (.int bottom, false)] = .ret (lbD o, false) none := by
  have htb : top ≤ top * bottom := by
    have := Int.mul_le_mul_of_nonneg_left hb ht
    omega
  have e2 : 2 * top * bottom = 2 * (top * bottom) := by grind
  have m0 : top < m := by omega
  obtain ⟨r0, t0, r1, t1, s, q, h, h3, h2, e⟩ := rb_loop (n := n + 1) (m := m) (rest := rest) (top := top) (bottom := bottom) hm ht (rest % m).toNat m 0 (rest % m) 1 1 none none none (by omega) (RbI.start (by omega)) m0
  have hall := @rb_only m rest r0 t0 r1 t1 s top bottom
  have hp := h.ht1
  have hg : Int.gcd (s * r1) (s * t1) = Int.gcd r1 t1 := by
    rcases h.hs with z | z <;> subst z <;> simp
  refine ⟨if s * t1 ≤ bottom ∧ Int.gcd (s * r1) (s * t1) = 1 then some (s * r1, s * t1) else none, ?_, ?_⟩
  · by_cases c : s * t1 ≤ bottom ∧ Int.gcd (s * r1) (s * t1) = 1
    · rw [if_pos c]
      rw [hg] at c
      exact .one _ _ (rb_is h h2 c.1 c.2) fun a b k => hall h h2 h3 hs k
    · rw [if_neg c]
      refine .no fun a b k => c ?_
      obtain ⟨z1, z2⟩ := hall h h2 h3 hs k
      rw [← z1, ← z2]
      exact ⟨k.b1, k.co⟩
  · obtain ⟨env, z⟩ := rb_tail (n := n) (bottom := bottom) (a := s * r1) (b := s * t1) (x0 := some (.int rest, false)) (x1 := some (.int m, false)) (x2 := some (.int top, false)) (x4 := some (D.tup [D.int r0, D.int t0], false)) (x5 := some (D.tup [D.int r1, D.int t1], false)) (x6 := q) hp
    rw [callN_eq rfl]
    rcases h.hs with w | w
    · subst w
      rw [Int.one_mul, Int.one_mul] at *
      simp [dpk_int, dpk_non, dfl_nil, glb0, body, b_reckoned_back, b_reckoned_back_1, LIM, show 0 < m by omega, e, show ¬ t1 < 0 by omega, z]
    · subst w
      rw [show -1 * r1 = -r1 by omega, show -1 * t1 = -t1 by omega] at *
      simp [dpk_int, dpk_non, dfl_nil, glb0, body, b_reckoned_back, b_reckoned_back_1, LIM, show 0 < m by omega, e, show t1 < 0 by omega, z]
theorem r_led_back (n : Nat) (rest m top bottom : Int) (hm : m ≤ 1000000000000000000000000000000000000000000000000000000000000) (hr : 0 ≤ rest ∧ rest < m) (ht : 0 ≤ top) (hb : 1 ≤ bottom) (hs : 2 * top * bottom < m) (hm2 : 2 ≤ m) (hM : MulOk (2 * top) bottom) : ∃ o, LB rest m top bottom o ∧ callN Γ (n + 3) 8 [(.int rest, false), (.int m, false), (.int top, false), (.int bottom, false)] = .ret (lbD o, false) none := by
  obtain ⟨o, h1, h2⟩ := r_reckoned_back n rest m top bottom (by
    have := natAbs_log2_lt (a := m) (k := 200) (by omega) (by omega)
    omega) ht hb hs
  refine ⟨o, h1, ?_⟩
  have h2' : MulOk 2 top := mulOk_l (by omega)
  rw [callN_eq rfl]
  simp [dpk_int, dpk_non, dfl_nil, glb0, r_is_number, r_is_whole, body, b_led_back, b_led_back_1, b_led_back_2, hm2, hm, hr.1, show rest ≤ m - 1 by omega, show ¬ top < 0 by omega, show ¬ bottom < 1 by omega, h2', hM, show ¬ m ≤ 2 * top * bottom by omega, h2]
end PL
/-! K04R1: what leading back refuses. -/
namespace PL
open PySem
/-- whether a thing is a whole number -/
def isW : D → Bool
  | .int _ => true
  | _ => false
/-- no rows -/
def flt4 (d : D) : Prop := d = .non ∨ (∃ b, d = .bl b) ∨ (∃ i, d = .int i) ∨ ∃ s, d = .str s
theorem r_whole_D (n : Nat) {d : D} (h : flt4 d) : callN Γ (n + 1) 0 [(d, false)] = .ret (.bl (isW d), false) none := by
  rw [callN_eq rfl]
  rcases h with rfl | ⟨b, rfl⟩ | ⟨i, rfl⟩ | ⟨s, rfl⟩ <;> simp [body, b_is_whole, isW]
theorem r_number_no (n : Nat) {d : D} (h : flt4 d) (hw : isW d = false) (a b : D) : callN Γ (n + 2) 2 [(d, false), (a, false), (b, false)] = .ret (.bl false, false) none := by
  rw [callN_eq rfl]
  simp [body, b_is_number, r_whole_D _ h, hw, dfl_nil]
/-- refused -/
def LedX (n : Nat) (d : D) : Prop := ∃ d0 d1 d2 d3, d = .tup [d0, d1, d2, d3] ∧ callN Γ (n + 3) 8 [(d0, false), (d1, false), (d2, false), (d3, false)] = .exc ⟨0, .non⟩ none
theorem fi (i : Int) : flt4 (.int i) := .inr (.inr (.inl ⟨i, rfl⟩))
theorem led_x1 (n : Nat) {m r : Int} (h : ¬ (2 ≤ m ∧ m ≤ 1000000000000000000000000000000000000000000000000000000000000 ∧ 0 ≤ r ∧ r ≤ m - 1)) : LedX n (.tup [.int r, .int m, .int 0, .int 1]) := by
  refine ⟨_, _, _, _, rfl, ?_⟩
  rw [callN_eq rfl]
  by_cases h1 : 2 ≤ m
  · by_cases h2 : m ≤ 1000000000000000000000000000000000000000000000000000000000000
    · by_cases h3 : 0 ≤ r
      · have h4 : ¬ r ≤ m - 1 := fun z => h ⟨h1, h2, h3, z⟩
        simp [body, b_led_back, r_is_number, dfl_nil, glb0, h1, h2, h3, h4]
      · simp [body, b_led_back, r_is_number, dfl_nil, glb0, h1, h2, h3]
    · simp [body, b_led_back, r_is_number, dfl_nil, glb0, h1, h2]
  · simp [body, b_led_back, r_is_number, dfl_nil, glb0, h1]
theorem led_x2 (n : Nat) {m t b : Int} (h1 : 2 ≤ m) (h2 : m ≤ 2000) (ht : -2000 ≤ t ∧ t ≤ 2000) (hb : -2000 ≤ b ∧ b ≤ 2000) (h : t < 0 ∨ b < 1 ∨ m ≤ 2 * t * b) : LedX n (.tup [.int 0, .int m, .int t, .int b]) := by
  refine ⟨_, _, _, _, rfl, ?_⟩
  rw [callN_eq rfl]
  have h3 : m ≤ 1000000000000000000000000000000000000000000000000000000000000 := by omega
  have m1 : MulOk 2 t := mulOk_l (by omega)
  have m2 : MulOk (2 * t) b := mulOk_r (by omega)
  have h5 : (1 : Int) ≤ m := by omega
  by_cases k1 : t < 0
  · simp [body, b_led_back, b_led_back_1, r_is_number, r_is_whole, dfl_nil, glb0, h1, h3, h5, k1]
  · by_cases k2 : b < 1
    · simp [body, b_led_back, b_led_back_1, r_is_number, r_is_whole, dfl_nil, glb0, h1, h3, h5, k1, k2]
    · have k3 : m ≤ 2 * t * b := by
        rcases h with h | h | h
        · exact (k1 h).elim
        · exact (k2 h).elim
        · exact h
      simp [body, b_led_back, b_led_back_1, r_is_number, r_is_whole, dfl_nil, glb0, h1, h3, h5, k1, k2, m1, m2, k3]
theorem led_x3 (n : Nat) {m : Int} {t b : D} (h1 : 2 ≤ m) (h2 : m ≤ 2000) (ft : flt4 t) (fb : flt4 b) (h : isW t = false ∨ isW b = false) : LedX n (.tup [.int 0, .int m, t, b]) := by
  refine ⟨_, _, _, _, rfl, ?_⟩
  rw [callN_eq rfl]
  have h3 : m ≤ 1000000000000000000000000000000000000000000000000000000000000 := by omega
  have h5 : (1 : Int) ≤ m := by omega
  cases k1 : isW t with
  | false => simp [body, b_led_back, b_led_back_1, r_is_number, r_whole_D _ ft, k1, dfl_nil, glb0, h1, h3, h5]
  | true =>
    have k2 : isW b = false := by
      rcases h with h | h
      · rw [k1] at h
        cases h
      · exact h
    simp [body, b_led_back, b_led_back_1, r_is_number, r_whole_D _ ft, r_whole_D _ fb, k1, k2, dfl_nil, glb0, h1, h3, h5]
theorem led_x4 (n : Nat) {m : Int} (h1 : 2 ≤ m) (h2 : m ≤ 2000) : LedX n (.tup [.bl true, .int m, .int 0, .int 1]) := by
  refine ⟨_, _, _, _, rfl, ?_⟩
  rw [callN_eq rfl]
  have h3 : m ≤ 1000000000000000000000000000000000000000000000000000000000000 := by omega
  simp [body, b_led_back, r_is_number, r_number_no n (d := .bl true) (.inr (.inl ⟨_, rfl⟩)) rfl, dfl_nil, glb0, h1, h3]
theorem led_x5 (n : Nat) : LedX n (.tup [.int 0, .non, .int 0, .int 1]) := by
  refine ⟨_, _, _, _, rfl, ?_⟩
  rw [callN_eq rfl]
  simp [body, b_led_back, r_number_no n (d := .non) (.inl rfl) rfl, dfl_nil, glb0]
/-- the law's thirteen -/
def thirteen (m : Int) : List D := [.tup [.int m, .int m, .int 0, .int 1], .tup [.int (-1), .int m, .int 0, .int 1], .tup [.int 0, .int 1, .int 0, .int 1], .tup [.int 0, .int 1000000000000000000000000000000000000000000000000000000000001, .int 0, .int 1],
  .tup [.int 0, .int m, .int (m / 2 + 1), .int 1], .tup [.int 0, .int m, .int ((m + 1) / 2), .int 1], .tup [.int 0, .int m, .int (-1), .int 1], .tup [.int 0, .int m, .int 0, .int 0], .tup [.bl true, .int m, .int 0, .int 1],
  .tup [.int 0, .int m, .non, .int 1], .tup [.int 0, .int m, .int 0, .str "1"], .tup [.int 0, .non, .int 0, .int 1], .tup [.int 0, .int m, .int 1, .int (m / 2 + 1)]]
theorem thirteen_x (n : Nat) {m : Int} (h1 : 2 ≤ m) (h2 : m ≤ 2000) : ∀ d ∈ thirteen m, LedX n d := by
  intro d hd
  simp only [thirteen, List.mem_cons, List.not_mem_nil, or_false] at hd
  rcases hd with rfl | rfl | rfl | rfl | rfl | rfl | rfl | rfl | rfl | rfl | rfl | rfl | rfl
  · exact led_x1 n (by omega)
  · exact led_x1 n (by omega)
  · exact led_x1 n (by omega)
  · exact led_x1 n (by omega)
  · exact led_x2 n h1 h2 (by omega) (by omega) (.inr (.inr (by omega)))
  · exact led_x2 n h1 h2 (by omega) (by omega) (.inr (.inr (by omega)))
  · exact led_x2 n h1 h2 (by omega) (by omega) (.inl (by omega))
  · exact led_x2 n h1 h2 (by omega) (by omega) (.inr (.inl (by omega)))
  · exact led_x4 n h1 h2
  · exact led_x3 n h1 h2 (.inl rfl) (fi 1) (.inl rfl)
  · exact led_x3 n h1 h2 (fi 0) (.inr (.inr (.inr ⟨_, rfl⟩))) (.inr rfl)
  · exact led_x5 n
  · exact led_x2 n h1 h2 (by omega) (by omega) (.inr (.inr (by omega)))
end PL
/-! K04R2: the only fraction, by trying all. -/
namespace PL
open PySem
/-- the law's slots -/
abbrev jE (ns : List Int) (d : D) (s2 : Sl) (m r b t : Int) (du : D) (s8 s9 s10 s11 s12 : Sl) : Fm := [some (.scr ns, false), some (d, true), s2, some (.int m, false), some (.int r, false), some (.int b, false), some (.int t, false), some (du, false), s8, s9, s10, s11, s12]
/-- the fraction a by b has the rest, in least terms -/
def Okf (m r a b : Int) : Prop := (b * r - a) % m = 0 ∧ Int.gcd a b = 1
theorem try_5 (n : Nat) (ns : List Int) (d : D) (s2 : Sl) {m r b t x y : Int} (du : D) (s10 s11 s12 : Sl) (hm : 0 < m) (hx : -100000 ≤ x ∧ x ≤ 100000) (hr : -100000 ≤ r ∧ r ≤ 100000) :
    exs Γ (callN Γ (n + 1)) false b_law_5 (jE ns d s2 m r b t du (some (.int x, false)) (some (.int y, false)) s10 s11 s12) = .nx (jE ns d s2 m r b t (if (x * r - y) % m = 0 ∧ Int.gcd y x = 1 then .tup [.int y, .int x] else du) (some (.int x, false)) (some (.int y, false)) s10 s11 s12) := by
  have mo : MulOk x r := mulOk_l (by omega)
  by_cases h1 : (x * r - y) % m = 0
  · by_cases h2 : Int.gcd y x = 1
    · have q : ((Int.gcd y x : Int) == 1) = true := by rw [h2]; rfl
      rw [if_pos ⟨h1, h2⟩]
      simp [b_law_5, mo, hm, dpk_int, h1, r_law_shared, dfl_nil, q, LIM]
    · have q : ((Int.gcd y x : Int) == 1) = false := by
        rw [beq_eq_false_iff_ne]
        omega
      rw [if_neg fun z => h2 z.2]
      simp [b_law_5, mo, hm, dpk_int, h1, r_law_shared, dfl_nil, q]
  · have q : ((x * r - y) % m == 0) = false := by
      rw [beq_eq_false_iff_ne]
      exact h1
    rw [if_neg fun z => h1 z.1]
    simp [b_law_5, mo, hm, dpk_int, q]
/-- what is known of what was found -/
def Fnd (m r t : Int) (P : Int → Int → Prop) (du : D) : Prop := (du = .non ∧ ∀ a b, P a b → ¬ Okf m r a b) ∨ ∃ a b, P a b ∧ Okf m r a b ∧ du = .tup [.int a, .int b]
theorem Fnd.step {m r t x y : Int} {P P' : Int → Int → Prop} {du : D} (h : Fnd m r t P du) (hp : ∀ a b, P' a b ↔ P a b ∨ (a = y ∧ b = x)) : Fnd m r t P' (if (x * r - y) % m = 0 ∧ Int.gcd y x = 1 then .tup [.int y, .int x] else du) := by
  split
  · rename_i k
    exact .inr ⟨y, x, (hp _ _).mpr (.inr ⟨rfl, rfl⟩), k, rfl⟩
  · rename_i k
    rcases h with ⟨rfl, h⟩ | ⟨a, b, h1, h2, rfl⟩
    · refine .inl ⟨rfl, fun a b hab => ?_⟩
      rcases (hp a b).mp hab with z | ⟨rfl, rfl⟩
      · exact h a b z
      · exact fun z => k z
    · exact .inr ⟨a, b, (hp a b).mpr (.inl h1), h2, rfl⟩
theorem Fnd.congr {m r t : Int} {P P' : Int → Int → Prop} {du : D} (h : Fnd m r t P du) (hp : ∀ a b, P' a b ↔ P a b) : Fnd m r t P' du := by
  rcases h with ⟨rfl, h⟩ | ⟨a, b, h1, h2, rfl⟩
  · exact .inl ⟨rfl, fun a b hab => h a b ((hp a b).mp hab)⟩
  · exact .inr ⟨a, b, (hp a b).mpr h1, h2, rfl⟩
theorem try_4 (n : Nat) (ns : List Int) (d : D) (s2 : Sl) {m r b t x : Int} {du : D} (s9 s10 s11 s12 : Sl) (hm : 0 < m) (hx : -100000 ≤ x ∧ x ≤ 100000) (hr : -100000 ≤ r ∧ r ≤ 100000) (ht : 0 ≤ t ∧ t ≤ 10000) {P : Int → Int → Prop} (hP : ∀ a, ¬ P a x) (h : Fnd m r t P du) :
    ∃ du' s9', Fnd m r t (fun a c => P a c ∨ (-t ≤ a ∧ a ≤ t ∧ c = x)) du' ∧ exs Γ (callN Γ (n + 1)) false b_law_4 (jE ns d s2 m r b t du (some (.int x, false)) s9 s10 s11 s12) = .nx (jE ns d s2 m r b t du' (some (.int x, false)) s9' s10 s11 s12) := by
  obtain ⟨env', h1, du', s9', h2, h3⟩ := frl_inv Γ (callN Γ (n + 1)) (io := false) (tg := .one 9) (b := b_law_5)
    (fun k env => ∃ du' s9', Fnd m r t (fun a c => P a c ∨ (-t ≤ a ∧ a < -t + (k : Int) ∧ c = x)) du' ∧ env = jE ns d s2 m r b t du' (some (.int x, false)) s9' s10 s11 s12)
    (rgD (0 - t) (t + 1)) 0 (jE ns d s2 m r b t du (some (.int x, false)) s9 s10 s11 s12) ⟨du, s9, h.congr fun a c => ⟨fun z => by
      rcases z with z | z
      · exact z
      · omega, fun z => .inl z⟩, rfl⟩ (by
      rintro k dd env hd ⟨du', s9', hf, rfl⟩
      obtain ⟨rfl, hk⟩ := rgD_get hd
      refine ⟨_, _, rfl, try_5 n ns d s2 (y := 0 - t + (k : Int)) du' s10 s11 s12 hm hx hr, _, _, hf.step fun a c => ?_, rfl⟩
      constructor
      · rintro (z | ⟨z1, z2, z3⟩)
        · exact .inl (.inl z)
        · by_cases e : a = 0 - t + (k : Int)
          · exact .inr ⟨e, z3⟩
          · exact .inl (.inr ⟨z1, by omega, z3⟩)
      · rintro ((z | ⟨z1, z2, z3⟩) | ⟨z1, z2⟩)
        · exact .inl z
        · exact .inr ⟨z1, by omega, z3⟩
        · exact .inr ⟨by omega, by omega, z2⟩)
  subst h3
  refine ⟨du', s9', h2.congr fun a c => ?_, ?_⟩
  · rw [rgD_len]
    constructor
    · rintro (z | ⟨z1, z2, z3⟩)
      · exact .inl z
      · exact .inr ⟨z1, by omega, z3⟩
    · rintro (z | ⟨z1, z2, z3⟩)
      · exact .inl z
      · exact .inr ⟨z1, by omega, z3⟩
  · rw [Int.zero_sub] at h1
    have q : -100000000 ≤ -t ∧ -t ≤ 100000000 ∧ -100000000 ≤ t + 1 ∧ t + 1 ≤ 100000000 := by omega
    simp only [jE] at h1
    simp [b_law_4, q, h1]
theorem try_all (n : Nat) (ns : List Int) (d : D) (s2 : Sl) {m r b t : Int} (s8 s9 s10 s11 s12 : Sl) (hm : 0 < m) (hb : 0 ≤ b ∧ b ≤ 10000) (hr : -100000 ≤ r ∧ r ≤ 100000) (ht : 0 ≤ t ∧ t ≤ 10000) :
    ∃ du s8' s9', Fnd m r t (fun a c => -t ≤ a ∧ a ≤ t ∧ 1 ≤ c ∧ c ≤ b) du ∧ frl Γ (callN Γ (n + 1)) false (.one 8) b_law_4 (rgD 1 (b + 1)) (jE ns d s2 m r b t .non s8 s9 s10 s11 s12) = .nx (jE ns d s2 m r b t du s8' s9' s10 s11 s12) := by
  obtain ⟨env', h1, du', s8', s9', h2, h3⟩ := frl_inv Γ (callN Γ (n + 1)) (io := false) (tg := .one 8) (b := b_law_4)
    (fun k env => ∃ du' s8' s9', Fnd m r t (fun a c => -t ≤ a ∧ a ≤ t ∧ 1 ≤ c ∧ c < 1 + (k : Int)) du' ∧ env = jE ns d s2 m r b t du' s8' s9' s10 s11 s12)
    (rgD 1 (b + 1)) 0 (jE ns d s2 m r b t .non s8 s9 s10 s11 s12) ⟨.non, s8, s9, .inl ⟨rfl, fun a c z => by omega⟩, rfl⟩ (by
      rintro k dd env hd ⟨du', s8', s9', hf, rfl⟩
      obtain ⟨rfl, hk⟩ := rgD_get hd
      obtain ⟨du2, s92, hf2, e⟩ := try_4 n ns d s2 (b := b) (x := 1 + (k : Int)) s9' s10 s11 s12 hm (by omega) hr ht (fun a z => by omega) hf
      refine ⟨_, _, rfl, e, du2, _, s92, hf2.congr fun a c => ?_, rfl⟩
      constructor
      · rintro ⟨z1, z2, z3, z4⟩
        by_cases e : c = 1 + (k : Int)
        · exact .inr ⟨z1, z2, e⟩
        · exact .inl ⟨z1, z2, z3, by omega⟩
      · rintro (⟨z1, z2, z3, z4⟩ | ⟨z1, z2, z3⟩)
        · exact ⟨z1, z2, z3, by omega⟩
        · exact ⟨z1, z2, by omega, by omega⟩)
  subst h3
  refine ⟨du', s8', s9', h2.congr fun a c => ?_, h1⟩
  rw [rgD_len]
  constructor
  · rintro ⟨z1, z2, z3, z4⟩
    exact ⟨z1, z2, z3, by omega⟩
  · rintro ⟨z1, z2, z3, z4⟩
    exact ⟨z1, z2, z3, by omega⟩
/-- what was found is what leads back -/
theorem fnd_lb {m r t b : Int} {du : D} {o : Option (Int × Int)} (h : Fnd m r t (fun a c => -t ≤ a ∧ a ≤ t ∧ 1 ≤ c ∧ c ≤ b) du) (l : LB r m t b o) : du = lbD o := by
  have is : ∀ a c, (-t ≤ a ∧ a ≤ t ∧ 1 ≤ c ∧ c ≤ b) ∧ Okf m r a c ↔ IsSol r m t b a c := by
    intro a c
    constructor
    · rintro ⟨⟨z1, z2, z3, z4⟩, z5, z6⟩
      exact ⟨by omega, z4, z1, z2, Int.dvd_of_emod_eq_zero z5, z6⟩
    · intro k
      exact ⟨⟨k.a0, k.a1, by have := k.b0; omega, k.b1⟩, Int.emod_eq_zero_of_dvd k.dv, k.co⟩
  cases l with
  | no hn =>
    rcases h with ⟨rfl, _⟩ | ⟨a, c, h1, h2, _⟩
    · rfl
    · exact (hn a c ((is a c).mp ⟨h1, h2⟩)).elim
  | one a c hs hu =>
    rcases h with ⟨rfl, h⟩ | ⟨a', c', h1, h2, rfl⟩
    · obtain ⟨z1, z2⟩ := (is a c).mpr hs
      exact (h a c z1 z2).elim
    · obtain ⟨rfl, rfl⟩ := hu a' c' ((is a' c').mp ⟨h1, h2⟩)
      rfl
end PL
/-! K04R3: the turn, the law. -/
namespace PL
open PySem
theorem lb_alk (o : Option (Int × Int)) : Alk 1 (lbD o) := by
  cases o with
  | none => trivial
  | some p =>
    obtain ⟨a, b⟩ := p
    refine ⟨by show 2 ≤ LIM; decide, fun x hx => ?_⟩
    simp at hx
    rcases hx with rfl | rfl <;> trivial
/-- each refused -/
theorem law_7 (n : Nat) (ns : List Int) (d : D) (s2 : Sl) {m r b t : Int} (du : D) (s8 s9 s10 s11 s12 : Sl) : ∀ (l : List D), (∀ x ∈ l, LedX n x) →
    ∃ s12', frl Γ (callN Γ (n + 3)) false (.one 12) b_law_7 l (jE ns d s2 m r b t du s8 s9 s10 s11 s12) = .nx (jE ns d s2 m r b t du s8 s9 s10 s11 s12') := by
  intro l hl
  obtain ⟨env', h1, s12', h2⟩ := frl_inv Γ (callN Γ (n + 3)) (io := false) (tg := .one 12) (b := b_law_7) (fun _ env => ∃ s12, env = jE ns d s2 m r b t du s8 s9 s10 s11 s12) l 0 (jE ns d s2 m r b t du s8 s9 s10 s11 s12) ⟨s12, rfl⟩ (by
    rintro k x env hx ⟨s12, rfl⟩
    obtain ⟨d0, d1, d2, d3, rfl, e⟩ := hl x (List.mem_of_getElem? hx)
    refine ⟨_, _, rfl, ?_, some (.tup [d0, d1, d2, d3], false), rfl⟩
    have dp : Dpk 16 (.tup [.str "count"]) := fun x hx => by
      simp at hx
      subst hx
      show (("count" : Str).cps.all fun c => decide (c < 0x110000)) = true
      decide +kernel
    have w : Γ.wd ⟨0, .non⟩ = some (.tup [.str "count"]) := rfl
    simp [b_law_7, ixn, e, dfl_nil, w, dp, LIM])
  subst h2
  exact ⟨s12', h1⟩
theorem law_6 (n : Nat) (ns : List Int) (d : D) (s2 : Sl) {m r b t : Int} (du : D) (s8 s9 s10 s11 s12 : Sl) (h1 : 2 ≤ m) (h2 : m ≤ 2000) :
    ∃ s10' s11' s12', exs Γ (callN Γ (n + 3)) false b_law_6 (jE ns d s2 m r b t du s8 s9 s10 s11 s12) = .nx (jE ns d s2 m r b t du s8 s9 s10' s11' s12') := by
  obtain ⟨s12', e⟩ := law_7 n ns d s2 (m := m) (r := r) (b := b) (t := t) du s8 s9 (some (.int (m / 2 + 1), false)) (some (.lst (thirteen m), false)) s12 (thirteen m) (thirteen_x n h1 h2)
  refine ⟨some (.int (m / 2 + 1), false), some (.lst (thirteen m), false), s12', ?_⟩
  unfold thirteen at e ⊢
  have l2 : Nat.log2 2 < 9000 := by decide
  simp [b_law_6, LIM, l2, e]
theorem law_3 (n : Nat) (ns : List Int) (d : D) (s2 : Sl) {m r b t : Int} {du : D} (s8 s9 s10 s11 s12 : Sl) (h1 : 2 ≤ m) (h2 : m ≤ 2000) (hr : 0 ≤ r ∧ r < m) (hb : 1 ≤ b ∧ b ≤ 14) (ht : 0 ≤ t ∧ t ≤ 2000)
    (h : Fnd m r t (fun a c => -t ≤ a ∧ a ≤ t ∧ 1 ≤ c ∧ c ≤ b) du) :
    ∃ s10' s11' s12', exs Γ (callN Γ (n + 3)) false b_law_3 (jE ns d s2 m r b t du s8 s9 s10 s11 s12) = .nx (jE ns d s2 m r b t du s8 s9 s10' s11' s12') := by
  obtain ⟨s10', s11', s12', e⟩ := law_6 n ns d s2 (m := m) (r := r) (b := b) (t := t) du s8 s9 s10 s11 s12 h1 h2
  refine ⟨s10', s11', s12', ?_⟩
  have m1 : MulOk 2 t := mulOk_l (by omega)
  have m2 : MulOk (2 * t) b := mulOk_r (by omega)
  by_cases k : 2 * t * b < m ∧ b ≤ m
  · obtain ⟨o, lb, e2⟩ := r_led_back n r m t b (by omega) hr ht.1 hb.1 k.1 h1 m2
    have ed := fnd_lb h lb
    subst ed
    have e3 := r_alike 1 (n + 1) (lbD o) (by omega) (lb_alk o)
    simp only [jE] at e
    simp [b_law_3, m1, m2, k.1, k.2, dfl_nil, e2, e3, e]
  · simp only [jE] at e
    by_cases k1 : 2 * t * b < m
    · have k2 : ¬ b ≤ m := fun z => k ⟨k1, z⟩
      simp [b_law_3, m1, m2, k1, k2, e]
    · simp [b_law_3, m1, m2, k1, e]
theorem law_turn (n : Nat) {ns : List Int} {d : D} (hd : RwD ns d) (s2 s3 s4 s5 s6 s7 s8 s9 s10 s11 s12 : Sl) :
    ∃ d' s3' s4' s5' s6' s7' s8' s9' s10' s11' s12', RwD ns d' ∧ exs Γ (callN Γ (n + 3)) false b_law_2 [some (.scr ns, false), some (d, true), s2, s3, s4, s5, s6, s7, s8, s9, s10, s11, s12] =
      .nx [some (.scr ns, false), some (d', true), s2, s3', s4', s5', s6', s7', s8', s9', s10', s11', s12'] := by
  obtain ⟨v, d1, hd1, v0, v1, t1⟩ := hd.take (n + 2) (m := 3) (by omega) (by omega)
  obtain ⟨j, far, hj, hfar, f0, f1⟩ : ∃ j far, ixn 3 v = some j ∧ [D.int 20, D.int 200, D.int 1000][j]? = some (.int far) ∧ 1 ≤ far ∧ far ≤ 1000 := by
    have : v = 0 ∨ v = 1 ∨ v = 2 := by omega
    rcases this with rfl | rfl | rfl
    · exact ⟨0, 20, rfl, rfl, by omega, by omega⟩
    · exact ⟨1, 200, rfl, rfl, by omega, by omega⟩
    · exact ⟨2, 1000, rfl, rfl, by omega, by omega⟩
  obtain ⟨u, d2, hd2, u0, u1, t2⟩ := hd1.take (n + 2) (m := far) (by omega) (by omega)
  obtain ⟨r, d3, hd3, r0, r1, t3⟩ := hd2.take (n + 2) (m := 2 + u) (by omega) (by omega)
  obtain ⟨bb, d4, hd4, b0, b1, t4⟩ := hd3.take (n + 2) (m := 14) (by omega) (by omega)
  have mo : MulOk 2 (1 + bb) := mulOk_l (by omega)
  -- the upper bound
  obtain ⟨t, d5, hd5, ht0, ht1, t5⟩ : ∃ t d5, RwD ns d5 ∧ 0 ≤ t ∧ t ≤ 2000 ∧ ev Γ (callN Γ (n + 3)) (.ifx (.cmp .lt (.bin .mul (.cst (.int 2)) (.var 5)) (.var 3)) (.fnv 5 1 (.cons (.bin .add (.cst (.int 1)) (.bin .div (.bin .sub (.var 3) (.cst (.int 1))) (.bin .mul (.cst (.int 2)) (.var 5)))) .nil)) (.cst (.int 0)))
      [some (.scr ns, false), some (d4, true), s2, some (.int (2 + u), false), some (.int r, false), some (.int (1 + bb), false), s6, s7, s8, s9, s10, s11, s12] =
      .ok (.int t, false) [some (.scr ns, false), some (d5, true), s2, some (.int (2 + u), false), some (.int r, false), some (.int (1 + bb), false), s6, s7, s8, s9, s10, s11, s12] := by
    by_cases k : 2 * (1 + bb) < 2 + u
    · have q0 : 0 ≤ (2 + u - 1) / (2 * (1 + bb)) := Int.ediv_nonneg (by omega) (by omega)
      have q1 : (2 + u - 1) / (2 * (1 + bb)) ≤ 2 + u - 1 := Int.ediv_le_self _ (by omega)
      have lg : (2 * (1 + bb)).natAbs.log2 < 9000 := by
        have := natAbs_log2_lt (a := 2 * (1 + bb)) (k := 64) (by omega) (by omega)
        omega
      obtain ⟨t, d5, hd5, z0, z1, e⟩ := hd4.take (n + 2) (m := 1 + (2 + u - 1) / (2 * (1 + bb))) (by omega) (by omega)
      refine ⟨t, d5, hd5, z0, by omega, ?_⟩
      obtain ⟨w1, w2, w3, _, rfl⟩ := hd4
      obtain ⟨y1, y2, y3, _, rfl⟩ := hd5
      simp [mo, k, show 0 < 2 * (1 + bb) by omega, lg, dfl_nil, e]
    · refine ⟨0, d4, hd4, by omega, by omega, ?_⟩
      simp [mo, k]
  obtain ⟨du, s8', s9', hf, t6⟩ := try_all (n + 2) ns d5 s2 (m := 2 + u) (r := r) (b := 1 + bb) (t := t) s8 s9 s10 s11 s12 (by omega) (by omega) (by omega) (by omega)
  obtain ⟨s10', s11', s12', t7⟩ := law_3 n ns d5 s2 (m := 2 + u) (r := r) (b := 1 + bb) (t := t) s8' s9' s10 s11 s12 (by omega) (by omega) (by omega) (by omega) (by omega) hf
  refine ⟨d5, some (.int (2 + u), false), some (.int r, false), some (.int (1 + bb), false), some (.int t, false), some (du, false), s8', s9', s10', s11', s12', hd5, ?_⟩
  obtain ⟨z1, z2, z3, _, rfl⟩ := hd
  obtain ⟨z4, z5, z6, _, rfl⟩ := hd1
  obtain ⟨y1, y2, y3, _, rfl⟩ := hd2
  obtain ⟨x1, x2, x3, _, rfl⟩ := hd3
  obtain ⟨w1, w2, w3, _, rfl⟩ := hd4
  obtain ⟨v1', v2', v3', _, rfl⟩ := hd5
  simp only [jE] at t6 t7
  have q : -100000000 ≤ 1 + bb + 1 ∧ 1 + bb + 1 ≤ 100000000 := by omega
  simp [-ev_ifx, b_law_2, LIM, t1, hj, hfar, t2, t3, t4, t5, dfl_nil, q, t6]
  exact t7
theorem law_all (n : Nat) (ns : List Int) : ∀ (ds : List D) (d : D) (s2 s3 s4 s5 s6 s7 s8 s9 s10 s11 s12 : Sl), RwD ns d →
    ∃ env, frl Γ (callN Γ (n + 3)) false (.one 2) b_law_2 ds [some (.scr ns, false), some (d, true), s2, s3, s4, s5, s6, s7, s8, s9, s10, s11, s12] = .nx env := by
  intro ds
  induction ds with
  | nil =>
    intro d s2 s3 s4 s5 s6 s7 s8 s9 s10 s11 s12 hd
    exact ⟨_, rfl⟩
  | cons x ds ih =>
    intro d s2 s3 s4 s5 s6 s7 s8 s9 s10 s11 s12 hd
    obtain ⟨d', s3', s4', s5', s6', s7', s8', s9', s10', s11', s12', hd', e⟩ := law_turn n hd (some (x, false)) s3 s4 s5 s6 s7 s8 s9 s10 s11 s12
    obtain ⟨env, z⟩ := ih d' (some (x, false)) s3' s4' s5' s6' s7' s8' s9' s10' s11' s12' hd'
    refine ⟨env, ?_⟩
    rw [← z]
    simp only [frl, forF, bnd, List.set_cons_succ, List.set_cons_zero, Bool.false_eq_true, false_and, if_false]
    rw [e]
def depth : Nat := 4
theorem law_true : ∀ ns : List Int, ns.length ≤ 63 → callN Γ depth 9 [(.scr ns, false)] = .ret (.bl true, false) none := by
  intro ns _
  unfold depth
  rw [callN_eq rfl]
  obtain ⟨env, e⟩ := law_all 0 ns (rgD 0 8) (rwD ns 0 0 0) none none none none none none none none none none none ⟨0, 0, 0, by omega, rfl⟩
  simp only [Nat.reduceAdd] at e
  simp [body, b_law, b_law_1, LIM, e]
end PL
open PySem PySem.W PyProof.Rows
set_option maxRecDepth 100000 in
set_option maxHeartbeats 0 in
theorem PySem.Challenge.cw_powerlift_k04_led_back_by_trying_holds : PySem.Challenge.rw_powerlift_k04_led_back_by_trying.Holds := by
  w_on; o_law; k_head; (case hw => w_witness2)
  k_fill
  refine PL.walk_end (l := PySem.Challenge.rw_powerlift_k04_led_back_by_trying) (n := PL.depth) PL.law_true ⟨rfl, by decide, by decide⟩ rfl rfl (by decide +kernel) (fun w h Y => PySem.W.km_in_of Y) ?F
  case F =>
    intro w mg fa h KX G hmg
    refine' PL.all_mk KX G hmg ?a0 ?l0 ?c0 ?k0 ?a1 ?l1 ?c1 ?k1 ?a2 ?l2 ?c2 ?k2 ?a3 ?l3 ?c3 ?k3 ?a4 ?l4 ?c4 ?k4 ?a5 ?l5 ?c5 ?k5 ?a6 ?l6 ?c6 ?k6 ?a7 ?l7 ?c7 ?k7 ?a8 ?l8 ?c8 ?k8 ?u0 ?z0 ?z1 ?z2 ?z3 ?z4 ?z5 ?z6 ?z7 ?z8 ?z9 ?z10 ?z11 ?z12 ?z13 ?z14 ?z15 ?z16 ?z17 ?aw ?lw ?cw ?kw ?xn0 ?xi0 ?xt0 ?xn1 ?xi1 ?xt1 ?xn2 ?xi2 ?xt2 ?xn3 ?xi3 ?xt3 ?xn4 ?xi4 ?xt4 ?xn5 ?xi5 ?xt5 ?xn6 ?xi6 ?xt6 ?xn7 ?xi7 ?xt7 ?xn8 ?xi8 ?xt8 ?xb8 ?xg ?xk ?yk4 ?yb4 ?yg4 ?ya4 ?yd4 ?yc4 ?yo4 ?yv4 ?yl4 ?ye4 ?ys0_4 ?ys1_4 ?ys2_4 ?ys3_4 ?ys4_4 ?ys5_4 ?ys6_4 ?ys7_4 ?q0 ?q1 ?q2 ?q3 ?q4 ?q5 ?q6 ?q7 ?q8
    (case a0 => k_is); (case l0 => k_is); (case c0 => k_is); (case k0 => k_is); (case a1 => k_is); (case l1 => k_is); (case c1 => k_is); (case k1 => k_is); (case a2 => k_is); (case l2 => k_is); (case c2 => k_is); (case k2 => k_is); (case a3 => k_is); (case l3 => k_is); (case c3 => k_is); (case k3 => k_is); (case a4 => k_is); (case l4 => k_is); (case c4 => k_is); (case k4 => k_is); (case a5 => k_is); (case l5 => k_is); (case c5 => k_is); (case k5 => k_is); (case a6 => k_is); (case l6 => k_is); (case c6 => k_is); (case k6 => k_is); (case a7 => k_is); (case l7 => k_is); (case c7 => k_is); (case k7 => k_is); (case a8 => k_is); (case l8 => k_is); (case c8 => k_is); (case k8 => k_is); (case u0 => k_is); (case z0 => k_is); (case z1 => k_is); (case z2 => k_is); (case z3 => k_is); (case z4 => k_is); (case z5 => k_is); (case z6 => k_is); (case z7 => k_is); (case z8 => k_is); (case z9 => k_is); (case z10 => k_is); (case z11 => k_is); (case z12 => k_is); (case z13 => k_is); (case z14 => k_is); (case z15 => k_is); (case z16 => k_is); (case z17 => k_is); (case aw => k_is); (case lw => k_is); (case cw => k_is); (case kw => k_is); (case xn0 => k_is); (case xi0 => k_is); (case xt0 => k_is); (case xn1 => k_is); (case xi1 => k_is); (case xt1 => k_is); (case xn2 => k_is); (case xi2 => k_is); (case xt2 => k_is); (case xn3 => k_is); (case xi3 => k_is); (case xt3 => k_is); (case xn4 => k_is); (case xi4 => k_is); (case xt4 => k_is); (case xn5 => k_is); (case xi5 => k_is); (case xt5 => k_is); (case xn6 => k_is); (case xi6 => k_is); (case xt6 => k_is); (case xn7 => k_is); (case xi7 => k_is); (case xt7 => k_is); (case xn8 => k_is); (case xi8 => k_is); (case xt8 => k_is); (case xb8 => k_is); (case xg => k_is); (case xk => k_is); (case yk4 => k_is); (case yb4 => k_is); (case yg4 => k_is); (case ya4 => k_is); (case yd4 => k_is); (case yc4 => k_is); (case yo4 => k_is); (case yv4 => k_is); (case yl4 => k_is); (case ye4 => k_exc); (case ys0_4 => k_is); (case ys1_4 => k_is); (case ys2_4 => k_is); (case ys3_4 => k_is); (case ys4_4 => k_is); (case ys5_4 => k_is); (case ys6_4 => k_is); (case ys7_4 => k_is); (case q0 => k_is); (case q1 => rfl); (case q2 => rfl); (case q3 => rfl); (case q4 => rfl); (case q5 => rfl); (case q6 => rfl); (case q7 => decide); (case q8 => kernel_rfl)

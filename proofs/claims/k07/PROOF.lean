import PyProof.Rows.All
import Wide.All
import OpenK.AllK
import Wide.FinOn
import HandS.ForMost
import HandS.Wide
import HandS.TupAny
import HandS.TupMul
import HandS.Deep
import HandS.IsInst
import HandS.Style
import HandS.Conv
import HandS.Zip
import HandS.Flow
import HandS.Comp
import KE.GoesNew
import HandS.Lambda
import HandS.WordsExc
import HandS.CallSlots
import HandS.ExcIs
import HandS.ExcField
import HandS.EndOwn
import PySem.Challenge.RW_powerlift_k07_digits_of_the_solution
set_option Elab.async false
set_option linter.all false
/-! PLCore: data, a small syntax, its reckoning (no heap in sight). -/
namespace PL
open PySem

inductive D where
  | non | bl (b : Bool) | int (i : Int) | str (s : Str)
  | tup (l : List D) | lst (l : List D) | scr (l : List Int)
  | dic (ks : List Int) (vs : List D)
  | ins (c : Nat) (fs : List Nat) (vs : List D)
  | obj (a : PySem.Addr) (o : L2.HO)
  deriving Inhabited

abbrev Sl := Option (D × Bool)
abbrev Fm := List Sl
structure Exn where
  cls : Nat
  val : D
inductive Res (α : Type) where
  | ok (a : α) (e : Fm) | exc (x : Exn) (e : Fm) | err
inductive Fl where
  | nx (e : Fm) | rt (r : D × Bool) (e : Fm) | exc (x : Exn) (e : Fm) | err
inductive CRes where
  | ret (r : D × Bool) (p : Option D) | exc (x : Exn) (p : Option D) | err

def Res.bind {α β : Type} (r : Res α) (f : α → Fm → Res β) : Res β :=
  match r with
  | .ok a e => f a e
  | .exc _ _ => .err
  | .err => .err
@[simp] theorem Res.bind_ok {α β : Type} (a : α) (e : Fm) (f : α → Fm → Res β) : (Res.ok a e).bind f = f a e := rfl
@[simp] theorem Res.bind_exc {α β : Type} (x : Exn) (e : Fm) (f : α → Fm → Res β) : (Res.exc x e : Res α).bind f = .err := rfl
@[simp] theorem Res.bind_err {α β : Type} (f : α → Fm → Res β) : (Res.err : Res α).bind f = .err := rfl
def Res.lift {α : Type} (o : Option α) (e : Fm) : Res α :=
  match o with
  | some a => .ok a e
  | none => .err
@[simp] theorem Res.lift_some {α : Type} (a : α) (e : Fm) : Res.lift (some a) e = .ok a e := rfl
@[simp] theorem Res.lift_none {α : Type} (e : Fm) : (Res.lift none e : Res α) = .err := rfl

inductive BOp where | add | sub | mul | div | mod | pow
  deriving DecidableEq
inductive COp where | eq | ne | lt | le | gt | ge | isN | notN | inn | nin
  deriving DecidableEq
inductive Ty where | int | bool | str | tuple | list
  deriving DecidableEq
/-- built-in functions by values -/
inductive Bi where
  | len | abs | max2 | min2 | max1 | min1 | int1 | str1 | sum | sorted | list | tuple | any | all | listR | tupR | dictL | dictZ
  deriving DecidableEq
/-- methods of built-in types that change nothing -/
inductive Bm where
  | count | index | join | split | starts | get
  deriving DecidableEq
/-- what is stored to -/
inductive Tg where
  | one (i : Nat) | many (is : List Nat)

mutual
inductive E where
  | var (i : Nat)
  | cst (d : D)
  | glb (g : Nat)
  | bin (op : BOp) (a b : E)
  | neg (a : E)
  | cmp (op : COp) (a b : E)
  | cmpv (op : COp) (x : Nat) (b : E)
  | chn (o p : COp) (a b c : E)
  | din (neg : Bool) (a b : E)
  | and (a b : E) | or (a b : E) | not (a : E)
  | ifx (c a b : E)
  | tup (es : Es) | lst (es : Es)
  | idx (a i : E)
  | idxv (x : Nat) (i : E)
  | slc (a : E) (lo hi : O)
  | atr (p : E) (f : Nat)
  | isI (a : E) (ts : List Ty)
  | bi (b : Bi) (es : Es)
  | lenp (p : E)
  | bm (m : Bm) (o a : E)
  | fn (f : Nat) (es : Es)
  | fnv (f : Nat) (x : Nat) (es : Es)
  | fnk (f : Nat) (es : Es) (k : E)
  | mth (o : E) (m : Nat) (es : Es)
  | mthp (p : E) (m : Nat) (es : Es)
  | fnb (f : Nat) (x : Nat) (es : Es)
  | mtb (x : Nat) (m : Nat) (es : Es)
  | mthq (x : Nat) (g : Nat) (m : Nat) (j : Nat)
  | new (c : Nat) (es : Es)
  | pop (x : Nat) (i : E)
  | wrd (e : E)
  | lc (it : Src) (tg : Tg) (c : O) (body : E)
  | lc2 (it : Src) (tg : Tg) (it2 : Src) (tg2 : Tg) (body : E)
  | dc (it : Src) (tg : Tg) (k v : E)
inductive Es where
  | nil | cons (e : E) (es : Es)
inductive O where
  | none | some (e : E)
inductive Src where
  | seq (e : E) | pek (p : E) | rng1 (e : E) | rng2 (a b : E) | enm (e : E) | zip (a b : E) | vals (e : E)
end

mutual
inductive S where
  | asg (tg : Tg) (e : E)
  | par (is : List Nat) (es : Es)
  | aug (i : Nat) (sb : Bool) (e : E)
  | sub (x : Nat) (i e : E)
  | swp (x : Nat) (i j a b : E)
  | fld (f : Nat) (e : E)
  | fld2 (f g : Nat) (e : E)
  | app (p : E) (e : E)
  | exp (e : E)
  | ret (e : E) | retN | retv (i : Nat)
  | ifs (c : E) (a b : Ss)
  | whl (c : E) (b : Ss)
  | for (it : Src) (tg : Tg) (b : Ss)
  | rse (c : Nat) (e : O)
  | nev
  | pas
inductive Ss where
  | nil | cons (s : S) (r : Ss)
end

structure FnE where
  np : Nat
  ns : Nat
  io : Bool
  body : Ss
structure Ctx where
  glb : Nat → Option D
  om : Nat → Nat → Bool
  cf : Nat → Nat → Bool
  fn : Nat → Option FnE
  meth : Nat → Nat → Option Nat
  init : Nat → Option Nat
  dfl : Nat → List D
  kwd : Nat → Nat
  wd : Exn → Option D

/-- the word of what is refused, by its class -/
def wdOf (l : List (Nat × Str)) (x : Exn) : Option D :=
  match x.val with
  | .non => (l.lookup x.cls).map fun w => .tup [.str w]
  | _ => none
theorem lookup_mem {c : Nat} {w : Str} : ∀ {l : List (Nat × Str)}, l.lookup c = some w → (c, w) ∈ l
  | [], h => nomatch h
  | (a, b) :: r, h => by
    rw [List.lookup_cons] at h
    split at h
    · rename_i e
      have e : c = a := eq_of_beq e
      cases h
      rw [e]
      exact List.mem_cons_self
    · exact List.mem_cons_of_mem _ (lookup_mem h)
theorem wdOf_in {l : List (Nat × Str)} {c : Nat} {v dw : D} (h : wdOf l ⟨c, v⟩ = some dw) : c ∈ l.map (·.1) ∧ v = .non := by
  unfold wdOf at h
  split at h
  · rename_i e
    refine ⟨?_, e⟩
    cases z : l.lookup c with
    | none =>
      rw [z] at h
      cases h
    | some w => exact List.mem_map.mpr ⟨(c, w), lookup_mem z, rfl⟩
  · cases h
def LIM : Nat := 1000000

/-! ### data -/
/-- of nested depth at most n, without dicts and instances -/
def Dpk : Nat → D → Prop
  | _, .non => True
  | _, .bl _ => True
  | _, .int _ => True
  | _, .str s => s.cps.all (· < 0x110000) = true
  | n + 1, .tup l => ∀ x ∈ l, Dpk n x
  | n + 1, .lst l => ∀ x ∈ l, Dpk n x
  | _, _ => False
mutual
def eqb : D → D → Bool
  | .non, .non => true
  | .bl a, .bl b => a == b
  | .bl a, .int j => (if a then 1 else 0) == j
  | .int i, .bl b => i == (if b then 1 else 0)
  | .int i, .int j => i == j
  | .str x, .str y => x == y
  | .lst xs, .lst ys => eqbs xs ys
  | .tup xs, .tup ys => eqbs xs ys
  | _, _ => false
def eqbs : List D → List D → Bool
  | [], [] => true
  | x :: xs, y :: ys => eqb x y && eqbs xs ys
  | _, _ => false
end
@[simp] def flat : D → Bool
  | .non => true | .bl _ => true | .int _ => true | .str _ => true | _ => false

def MulOk (i j : Int) : Prop := (-(2 ^ 64) < i ∧ i < 2 ^ 64) ∨ (-(2 ^ 64) < j ∧ j < 2 ^ 64) ∨ i.natAbs.log2 + j.natAbs.log2 < 1000000
instance (i j : Int) : Decidable (MulOk i j) := by unfold MulOk; exact inferInstance

@[simp] def biD : BOp → D → D → Option (D × Bool)
  | .add, .int i, .int j => some (.int (i + j), false)
  | .add, .tup a, .tup b => if a.length + b.length ≤ LIM then some (.tup (a ++ b), false) else none
  | .add, .lst a, .lst b => if a.length + b.length ≤ LIM then some (.lst (a ++ b), true) else none
  | .sub, .int i, .int j => some (.int (i - j), false)
  | .mul, .int i, .int j => if MulOk i j then some (.int (i * j), false) else none
  | .mul, .lst a, .int k => if 0 ≤ k ∧ k ≤ 1000 ∧ a.length ≤ 1000 then some (.lst (List.replicate k.toNat a).flatten, true) else none
  | .mul, .tup a, .int k => if 1 ≤ k ∧ k ≤ 1000 ∧ a.length ≤ 1000 ∧ a ≠ [] then some (.tup (List.replicate k.toNat a).flatten, false) else none
  | .div, .int i, .int j => if 0 < j ∧ j.natAbs.log2 < 9000 then some (.int (i / j), false) else none
  | .mod, .int i, .int j => if 0 < j then some (.int (i % j), false) else none
  | .pow, .int i, .int j => if 0 ≤ j ∧ j ≤ 1000000 ∧ i.natAbs < 2 ^ 64 then some (.int (i ^ j.toNat), false) else none
  | _, _, _ => none

@[simp] def isNon : D → Bool
  | .non => true
  | _ => false
open Classical in
@[simp] noncomputable def cmD : COp → D → D → Option Bool
  | .eq, a, b => if Dpk 16 a ∧ Dpk 16 b then some (eqb a b) else none
  | .ne, a, b => if Dpk 16 a ∧ Dpk 16 b then some (!eqb a b) else none
  | .lt, .int i, .int j => some (decide (i < j))
  | .le, .int i, .int j => some (decide (i ≤ j))
  | .gt, .int i, .int j => some (decide (j < i))
  | .ge, .int i, .int j => some (decide (j ≤ i))
  | .isN, a, .non => some (isNon a)
  | .notN, a, .non => some (!isNon a)
  | .inn, a, .lst l => if Dpk 16 a ∧ Dpk 16 (.lst l) then some (l.any fun z => eqb z a) else none
  | .nin, a, .lst l => if Dpk 16 a ∧ Dpk 16 (.lst l) then some (!l.any fun z => eqb z a) else none
  | .inn, a, .tup l => if flat a = true ∧ l.all flat = true then some (l.any fun z => eqb z a) else none
  | .nin, a, .tup l => if flat a = true ∧ l.all flat = true then some (!l.any fun z => eqb z a) else none
  | .inn, .str a, .str z => (match a.cps.toList with | [c] => some (decide (c ∈ z.cps.toList)) | _ => none)
  | .nin, .str a, .str z => (match a.cps.toList with | [c] => some (!decide (c ∈ z.cps.toList)) | _ => none)
  | _, _, _ => none

/-- the place that a whole number names in a row of n -/
def ixn (n : Nat) (i : Int) : Option Nat := if 0 ≤ i then (if i < n then some i.toNat else none) else if -(n : Int) ≤ i then some (i + n).toNat else none
@[simp] def ixD : D → D → Option D
  | .lst l, .int i => (ixn l.length i).bind fun j => l[j]?
  | .tup l, .int i => (ixn l.length i).bind fun j => l[j]?
  | .scr l, .int i => ((ixn l.length i).bind fun j => l[j]?).map .int
  | .str s, .int i => if s.length ≤ LIM then ((ixn s.cps.toList.length i).bind fun j => s.cps.toList[j]?).map fun c => .str ⟨#[c]⟩ else none
  | _, _ => none
def clp (n d : Nat) : Option Int → Nat
  | none => d
  | some v => if v < 0 then (v + (n : Int)).toNat else min v.toNat n
def cut {α : Type} (l : List α) (lo hi : Option Int) : List α := (l.drop (clp l.length 0 lo)).take (clp l.length l.length hi - clp l.length 0 lo)
@[simp] def slD : D → Option Int → Option Int → Option (D × Bool)
  | .lst l, lo, hi => some (.lst (cut l lo hi), true)
  | .tup l, lo, hi => some (.tup (cut l lo hi), false)
  | .str s, lo, hi => if s.length ≤ LIM then some (.str (L2.cutS s lo hi), false) else none
  | _, _, _ => none

@[simp] def tyD : D → Option (List Ty)
  | .non => some []
  | .bl _ => some [.bool, .int]
  | .int _ => some [.int]
  | .str _ => some [.str]
  | .tup _ => some [.tuple]
  | .lst _ => some [.list]
  | _ => none

@[simp] def intsOf : List D → Option (List Int)
  | [] => some []
  | .int i :: r => (intsOf r).map (i :: ·)
  | _ => none
@[simp] def blsOf : List D → Option (List Bool)
  | [] => some []
  | .bl b :: r => (blsOf r).map (b :: ·)
  | _ => none
def maxL : List Int → Int
  | [] => 0
  | [a] => a
  | a :: r => max a (maxL r)
def minL : List Int → Int
  | [] => 0
  | [a] => a
  | a :: r => min a (minL r)
def insI (a : Int) : List Int → List Int
  | [] => [a]
  | b :: r => if a ≤ b then a :: b :: r else b :: insI a r
def srtI : List Int → List Int
  | [] => []
  | a :: r => insI a (srtI r)
def rgD (a b : Int) : List D := (List.range (b - a).toNat).map fun (i : Nat) => D.int (a + (i : Int))
def dput (ks : List Int) (vs : List D) (k : Int) (v : D) : List Int × List D :=
  match ks, vs with
  | [], _ => ([k], [v])
  | x :: xs, y :: ys => if x = k then (x :: xs, v :: ys) else ((x :: (dput xs ys k v).1), (y :: (dput xs ys k v).2))
  | x :: xs, [] => (x :: xs, [])
def dget (ks : List Int) (vs : List D) (k : Int) : Option D :=
  match ks, vs with
  | x :: xs, y :: ys => if x = k then some y else dget xs ys k
  | _, _ => none
def dicOf : List Int → List D → List Int → List D → List Int × List D
  | ks, vs, k :: r, v :: s => dicOf (dput ks vs k v).1 (dput ks vs k v).2 r s
  | ks, vs, _, _ => (ks, vs)

/-- a number's text -/
def numI (i : Int) : Str := Str.ofString (toString i)
@[simp] def biF : Bi → List D → Option (D × Bool)
  | .len, [.lst l] => some (.int l.length, false)
  | .len, [.tup l] => some (.int l.length, false)
  | .len, [.scr l] => some (.int l.length, false)
  | .abs, [.int i] => some (.int (if i < 0 then -i else i), false)
  | .max2, [.int i, .int j] => some (.int (if j > i then j else i), false)
  | .min2, [.int i, .int j] => some (.int (if j < i then j else i), false)
  | .max1, [.lst l] => (intsOf l).bind fun ns => if ns = [] then none else some (.int (maxL ns), false)
  | .min1, [.lst l] => (intsOf l).bind fun ns => if ns = [] then none else some (.int (minL ns), false)
  | .int1, [.int i] => some (.int i, false)
  | .int1, [.bl b] => some (.int (if b then 1 else 0), false)
  | .sum, [.lst l] => (intsOf l).map fun ns => (.int ns.sum, false)
  | .sorted, [.lst l] => (intsOf l).bind fun ns => if ns.length < 64 then some (.lst ((srtI ns).map .int), true) else none
  | .list, [.lst l] => some (.lst l, true)
  | .list, [.tup l] => some (.lst l, true)
  | .tuple, [.lst l] => some (.tup l, false)
  | .tuple, [.tup l] => some (.tup l, false)
  | .any, [.lst l] => (blsOf l).map fun bs => (.bl (bs.any id), false)
  | .all, [.lst l] => (blsOf l).map fun bs => (.bl (bs.all id), false)
  | .listR, [.int n] => if 0 ≤ n ∧ n ≤ 100000 then some (.lst (rgD 0 n), true) else none
  | .tupR, [.int n] => if 0 ≤ n ∧ n ≤ 100000 then some (.tup (rgD 0 n), false) else none
  | .dictZ, [.lst ks, .lst vs] => (intsOf ks).map fun ns => (.dic (dicOf [] [] ns vs).1 (dicOf [] [] ns vs).2, false)
  | .len, [.str s] => if s.length ≤ LIM then some (.int s.length, false) else none
  | .str1, [.int i] => if i.natAbs.log2 < 1920 then some (.str (numI i), false) else none
  | .int1, [.str s] => if s.length ≤ 640 then (PySem.intText? s).map fun n => (.int n, false) else none
  | .max1, [.tup l] => (intsOf l).bind fun ns => if ns = [] then none else some (.int (maxL ns), false)
  | .min1, [.tup l] => (intsOf l).bind fun ns => if ns = [] then none else some (.int (minL ns), false)
  | _, _ => none
@[simp] def strsOf : List D → Option (List Str)
  | [] => some []
  | .str s :: r => (strsOf r).map (s :: ·)
  | _ => none
@[simp] def bmF : Bm → D → List D → Option (D × Bool)
  | .get, .dic ks vs, [.int k, d] => some ((dget ks vs k).getD d, false)
  | .join, .str a, [.lst l] => (strsOf l).bind fun ys => if (ys.map (·.length)).sum + ys.length * a.length ≤ 1000000 then some (.str (Str.join a ys), false) else none
  | .split, .str a, [.str b] => if (b.length == 0) = false ∧ a.length + 2 ≤ LIM then some (.lst ((Txt.split a b).map .str), true) else none
  | .starts, .str a, [.str b] => some (.bl (Txt.startswith a b), false)
  | _, _, _ => none

/-! ### what is lent -/
mutual
/-- no list that may be one of those lent -/
def thw : D → Bool
  | .non => true | .bl _ => true | .int _ => true | .str _ => true
  | .tup l => thws l
  | .lst l => (match l with | .int _ :: _ => true | _ => false) && thws l
  | _ => false
def thws : List D → Bool
  | [] => true
  | x :: xs => thw x && thws xs
end
def thwR (r : D × Bool) : Bool :=
  match r with
  | (.lst l, true) => thws l
  | (d, false) => thw d
  | _ => false
def lenK : D → Bool
  | .tup _ => true | .lst _ => true | .scr _ => true | .ins _ _ _ => true | .dic _ _ => true
  | _ => false
mutual
/-- a thing of ours whose lists begin with no number -/
def unl (om : Nat → Nat → Bool) : D → Bool
  | .lst l => (match l with | [] => true | x :: _ => lenK x)
  | .ins c fs vs => unls om c fs vs
  | _ => false
def unls (om : Nat → Nat → Bool) (c : Nat) : List Nat → List D → Bool
  | f :: fs, v :: vs => (!om c f || unl om v) && unls om c fs vs
  | _, _ => true
end

/-! ### places -/
def fget : List Nat → List D → Nat → Option D
  | g :: gs, v :: vs, f => if g = f then some v else fget gs vs f
  | _, _, _ => none
def fput (f : Nat) (d : D) : List Nat → List D → List Nat × List D
  | g :: gs, v :: vs => if g = f then (g :: gs, d :: vs) else (g :: (fput f d gs vs).1, v :: (fput f d gs vs).2)
  | _, _ => ([f], [d])
@[simp] def rdv (x : Nat) (env : Fm) : Option D :=
  match env[x]? with
  | some (some (.ins _ _ _, _)) => none
  | some (some (.obj _ _, _)) => none
  | some (some (d, _)) => some d
  | _ => none
@[simp] def setI (l : List D) (i : Int) (d : D) : Option (List D) := (ixn l.length i).map fun j => l.set j d

/-! ### loops -/
def iter (step : Fm → Fm ⊕ Fl) : Nat → Fm → Option Fl
  | 0, _ => none
  | n + 1, env =>
    match step env with
    | .inl env' => iter step n env'
    | .inr r => some r
open Classical in
noncomputable def whileF (step : Fm → Fm ⊕ Fl) (env : Fm) : Fl := if h : ∃ r, ∃ n, iter step n env = some r then Classical.choose h else .err
theorem iter_mono {step : Fm → Fm ⊕ Fl} : ∀ {n m : Nat} {env : Fm} {r : Fl}, iter step n env = some r → n ≤ m → iter step m env = some r
  | 0, _, _, _, h, _ => by simp [iter] at h
  | n + 1, 0, _, _, _, hm => by omega
  | n + 1, m + 1, env, r, h, hm => by
    unfold iter at h ⊢
    cases e : step env with
    | inl env' =>
      rw [e] at h
      exact iter_mono h (by omega)
    | inr r' =>
      rw [e] at h
      exact h
theorem iter_inj {step : Fm → Fm ⊕ Fl} {n m : Nat} {env : Fm} {r r' : Fl} (h : iter step n env = some r) (h' : iter step m env = some r') : r = r' := by
  have a := iter_mono h (Nat.le_max_left n m)
  have b := iter_mono h' (Nat.le_max_right n m)
  rw [a] at b
  exact Option.some.inj b
theorem whileF_of {step : Fm → Fm ⊕ Fl} {n : Nat} {env : Fm} {r : Fl} (h : iter step n env = some r) : whileF step env = r := by
  have z : ∃ r, ∃ n, iter step n env = some r := ⟨r, n, h⟩
  unfold whileF
  rw [dif_pos z]
  obtain ⟨m, hm⟩ := Classical.choose_spec z
  exact iter_inj hm h
theorem whileF_or {step : Fm → Fm ⊕ Fl} {env : Fm} : (∃ n, iter step n env = some (whileF step env)) ∨ whileF step env = .err := by
  by_cases z : ∃ r, ∃ n, iter step n env = some r
  · obtain ⟨r, n, h⟩ := z
    left
    rw [whileF_of h]
    exact ⟨n, h⟩
  · right
    unfold whileF
    rw [dif_neg z]
theorem whileF_eq (step : Fm → Fm ⊕ Fl) (env : Fm) : whileF step env = match step env with
    | .inl env' => whileF step env'
    | .inr r => r := by
  cases e : step env with
  | inr r =>
    have h : iter step 1 env = some r := by
      unfold iter
      rw [e]
    exact whileF_of h
  | inl env' =>
    show whileF step env = whileF step env'
    have hs : ∀ n, iter step (n + 1) env = iter step n env' := fun n => by
      show (match step env with | .inl env' => iter step n env' | .inr r => some r) = _
      rw [e]
    by_cases z : ∃ r, ∃ n, iter step n env' = some r
    · obtain ⟨r, n, h⟩ := z
      rw [whileF_of h, whileF_of (n := n + 1) (by rw [hs, h])]
    · have z' : ¬ ∃ r, ∃ n, iter step n env = some r := by
        rintro ⟨r, n, h⟩
        cases n with
        | zero => simp [iter] at h
        | succ n => exact z ⟨r, n, by rw [← hs]; exact h⟩
      unfold whileF
      rw [dif_neg z, dif_neg z']

/-- while, by its test and its body -/
noncomputable def whlG (c : Fm → Res (D × Bool)) (b : Fm → Fl) (env : Fm) : Fl := whileF (fun env =>
  match c env with
  | .ok (.bl true, _) env =>
    match b env with
    | .nx env => .inl env
    | r => .inr r
  | .ok (.bl false, _) env => .inr (.nx env)
  | _ => .inr .err) env
theorem whlG_more {c : Fm → Res (D × Bool)} {b : Fm → Fl} {env e1 e2 : Fm} {o : Bool} (h1 : c env = .ok (.bl true, o) e1) (h2 : b e1 = .nx e2) : whlG c b env = whlG c b e2 := by
  unfold whlG
  rw [whileF_eq]
  simp only [h1, h2]
theorem whlG_done {c : Fm → Res (D × Bool)} {b : Fm → Fl} {env e1 : Fm} {o : Bool} (h1 : c env = .ok (.bl false, o) e1) : whlG c b env = .nx e1 := by
  unfold whlG
  rw [whileF_eq]
  simp only [h1]
theorem whlG_leave {c : Fm → Res (D × Bool)} {b : Fm → Fl} {env e1 e2 : Fm} {o : Bool} {r : D × Bool} (h1 : c env = .ok (.bl true, o) e1) (h2 : b e1 = .rt r e2) : whlG c b env = .rt r e2 := by
  unfold whlG
  rw [whileF_eq]
  simp only [h1, h2]
/-- a store -/
@[simp] def bnd (io : Bool) (tg : Tg) (r : D × Bool) (env : Fm) : Option Fm :=
  match tg with
  | .one i => if io = true ∧ i = 0 then none else some (env.set i (some r))
  | .many is =>
    match r with
    | (.tup l, _) => if l.length = is.length ∧ (io = true → 0 ∉ is) then some ((is.zip l).foldl (fun e p => e.set p.1 (some (p.2, false))) env) else none
    | _ => none
@[simp] def Tg.ixs : Tg → List Nat
  | .one i => [i]
  | .many is => is
@[simp] def wip (env : Fm) : List Nat → Fm
  | [] => env
  | v :: vs => (wip env vs).set v none
@[simp] def frs (env : Fm) : List Nat → Fm
  | [] => env
  | v :: vs =>
    match (frs env vs)[v]? with
    | some (some (d, _)) => (frs env vs).set v (some (d, false))
    | _ => frs env vs
@[simp] def rst (env old : Fm) : List Nat → Fm
  | [] => env
  | v :: vs => (rst env old vs).set v (old[v]?.getD none)

/-- a loop over items -/
def forF (bd : D → Fm → Option Fm) (body : Fm → Fl) : List D → Fm → Fl
  | [], env => .nx env
  | d :: ds, env =>
    match bd d env with
    | some env1 =>
      match body env1 with
      | .nx env2 => forF bd body ds env2
      | r => r
    | none => .err
/-- a comprehension -/
def lcF (bd : D → Fm → Option Fm) (wp : Fm → Fm) (cond : Fm → Res Bool) (body : Fm → Res D) : List D → Fm → List D → Res (List D)
  | [], env, acc => .ok acc env
  | d :: ds, env, acc =>
    match bd d env with
    | some env1 => (cond env1).bind fun b env2 =>
      if b = true then (body env2).bind fun x env3 => if acc.length < LIM then lcF bd wp cond body ds (wp env3) (acc ++ [x]) else .err
      else lcF bd wp cond body ds (wp env2) acc
    | none => .err

section
variable (Γ : Ctx) (call : Nat → List (D × Bool) → CRes)

/-- what stands at a path: the thing, and whether it is ours alone -/
@[simp] def pth : E → Fm → Option (D × Bool)
  | .var i, env =>
    match env[i]? with
    | some (some s) => some s
    | _ => none
  | .atr p f, env =>
    match pth p env with
    | some (.ins c fs vs, o) => if (fs.all (Γ.cf c) && Γ.cf c f) = true then (fget fs vs f).map fun d => (d, o && Γ.om c f) else none
    | _ => none
  | _, _ => none
@[simp] def rtP : E → Nat
  | .var i => i
  | .atr p _ => rtP p
  | _ => 0
/-- a slot's thing is settled -/
@[simp] def frzS (i : Nat) (env : Fm) : Fm :=
  match env[i]? with
  | some (some (d, _)) => env.set i (some (d, false))
  | _ => env
@[simp] def setP : E → D → Fm → Fm
  | .var i, d, env => env.set i (some (d, true))
  | .atr p f, d, env =>
    match pth Γ p env with
    | some (.ins c fs vs, _) => setP p (.ins c fs (fput f d fs vs).2) env
    | _ => env
  | _, _, env => env
@[simp] def Es.simple : Es → Bool
  | .nil => true
  | .cons (.var _) r => r.simple
  | .cons (.cst _) r => r.simple
  | .cons (.glb _) r => r.simple
  | _ => false

mutual
noncomputable def ev : E → Fm → Res (D × Bool)
  | .var i, env =>
    match env[i]? with
    | some (some (d, o)) => .ok (d, false) (if o = true then env.set i (some (d, false)) else env)
    | _ => .err
  | .cst d, env => .ok (d, false) env
  | .glb g, env => Res.lift ((Γ.glb g).map fun d => (d, false)) env
  | .bin op a b, env => (ev a env).bind fun x env => (ev b env).bind fun y env => Res.lift (biD op x.1 y.1) env
  | .neg a, env => (ev a env).bind fun x env => match x.1 with | .int i => .ok (.int (-i), false) env | _ => .err
  | .cmp op a b, env => (ev a env).bind fun x env => (ev b env).bind fun y env => Res.lift ((cmD op x.1 y.1).map fun b => (.bl b, false)) env
  | .cmpv op x b, env => (Res.lift (rdv x env) env).bind fun _ env => (ev b env).bind fun y env => Res.lift ((rdv x env).bind fun d => (cmD op d y.1).map fun b => (.bl b, false)) env
  | .chn o p a b c, env => (ev a env).bind fun x env => (ev b env).bind fun y env =>
      match cmD o x.1 y.1 with
      | some true => (ev c env).bind fun z env => Res.lift ((cmD p y.1 z.1).map fun b => (.bl b, false)) env
      | some false => .ok (.bl false, false) env
      | none => .err
  | .din neg a b, env => (ev a env).bind fun x env => (ev b env).bind fun y env =>
      match x.1, y.1 with
      | .int k, .dic ks _ => .ok (.bl (if neg = true then !decide (k ∈ ks) else decide (k ∈ ks)), false) env
      | _, _ => .err
  | .and a b, env => (ev a env).bind fun x env => match x.1 with | .bl true => ev b env | .bl false => .ok (.bl false, false) env | _ => .err
  | .or a b, env => (ev a env).bind fun x env => match x.1 with | .bl true => .ok (.bl true, false) env | .bl false => ev b env | _ => .err
  | .not a, env => (ev a env).bind fun x env => match x.1 with | .bl b => .ok (.bl (!b), false) env | _ => .err
  | .ifx c a b, env => (ev c env).bind fun x env => match x.1 with | .bl true => ev a env | .bl false => ev b env | _ => .err
  | .tup es, env => (evs es env).bind fun ds env => if ds.length ≤ LIM then .ok (.tup ds, false) env else .err
  | .lst es, env => (evs es env).bind fun ds env => if ds.length ≤ LIM then .ok (.lst ds, true) env else .err
  | .idx a i, env => (ev a env).bind fun x env => (ev i env).bind fun y env => Res.lift ((ixD x.1 y.1).map fun d => (d, false)) env
  | .idxv x i, env => (Res.lift (rdv x env) env).bind fun _ env => (ev i env).bind fun y env => Res.lift ((rdv x env).bind fun d => (ixD d y.1).map fun d => (d, false)) env
  | .slc a lo hi, env => (ev a env).bind fun x env => (evo lo env).bind fun l env => (evo hi env).bind fun h env => Res.lift (slD x.1 l h) env
  | .atr p f, env =>
    match pth Γ (.atr p f) env with
    | some (d, o) => .ok (d, false) (if o = true then frzS (rtP p) env else env)
    | none => .err
  | .isI a ts, env => (ev a env).bind fun x env => Res.lift ((tyD x.1).map fun l => (.bl (ts.any fun t => l.contains t), false)) env
  | .bi b es, env => (evs es env).bind fun ds env => Res.lift (biF b ds) env
  | .lenp p, env => Res.lift ((pth Γ p env).bind fun x => biF .len [x.1]) env
  | .bm m o a, env => (ev o env).bind fun x env => (ev a env).bind fun y env => Res.lift (bmF m x.1 [y.1]) env
  | .fn f es, env => (evs es env).bind fun ds env =>
      match call f ((ds ++ Γ.dfl f).map fun d => (d, false)) with
      | .ret r none => .ok r env
      | .exc x none => .exc x env
      | _ => .err
  | .fnv f x es, env => (Res.lift (rdv x env) env).bind fun _ env => (evs es env).bind fun ds env =>
      match env[x]? with
      | some (some (d, true)) =>
        match call f ((d, true) :: (ds ++ Γ.dfl f).map fun d => (d, false)) with
        | .ret r (some d') => .ok r (env.set x (some (d', true)))
        | .exc z (some d') => .exc z (env.set x (some (d', true)))
        | _ => .err
      | _ => .err
  | .fnk f es k, env => (evs es env).bind fun ds env => (ev k env).bind fun y env =>
      match call f ((ds ++ [y.1]).map fun d => (d, false)) with
      | .ret r none => .ok r env
      | .exc x none => .exc x env
      | _ => .err
  | .mth o m es, env => (ev o env).bind fun x env =>
      match x.1 with
      | .ins c fs vs =>
        if fs.all (Γ.cf c) = true then
        match Γ.meth c m with
        | some f => (evs es env).bind fun ds env =>
          match call f ((.ins c fs vs, false) :: ds.map fun d => (d, false)) with
          | .ret r none => .ok r env
          | .exc x none => .exc x env
          | _ => .err
        | none => .err
        else .err
      | _ => .err
  | .mthp p m es, env =>
    match p with
    | .var i =>
      match env[i]? with
      | some (some (.ins c fs _, true)) =>
        if fs.all (Γ.cf c) = true then
        match Γ.meth c m with
        | some f => (evs es env).bind fun ds env =>
          match env[i]? with
          | some (some (d, true)) =>
            match call f ((d, true) :: ds.map fun d => (d, false)) with
            | .ret r (some d') => .ok r (env.set i (some (d', true)))
            | .exc z (some d') => .exc z (env.set i (some (d', true)))
            | _ => .err
          | _ => .err
        | none => .err
        else .err
      | _ => .err
    | _ => .err
  | .fnb f x es, env => (Res.lift (rdv x env) env).bind fun _ env => (evs es env).bind fun ds env =>
      match env[x]? with
      | some (some (d, true)) =>
        if unl Γ.om d = true then
        match call f ((d, false) :: (ds ++ Γ.dfl f).map fun d => (d, false)) with
        | .ret r none => if thwR r = true then .ok r env else .err
        | .exc z none => if thw z.val = true then .exc z env else .err
        | _ => .err
        else .err
      | _ => .err
  | .mtb x m es, env =>
    match env[x]? with
    | some (some (.ins c fs _, true)) =>
      if fs.all (Γ.cf c) = true then
      match Γ.meth c m with
      | some f => (evs es env).bind fun ds env =>
        match env[x]? with
        | some (some (d, true)) =>
          if unl Γ.om d = true then
          match call f ((d, false) :: ds.map fun d => (d, false)) with
          | .ret r none => if thwR r = true then .ok r env else .err
          | .exc z none => if thw z.val = true then .exc z env else .err
          | _ => .err
          else .err
        | _ => .err
      | none => .err
      else .err
    | _ => .err
  | .mthq x g m j, env =>
    match env[x]?, env[j]? with
    | some (some (.ins c fs vs, true)), some (some (dj, false)) =>
      if (fs.all (Γ.cf c) && (Γ.cf c g && Γ.om c g)) = true then
      match fget fs vs g with
      | some (.ins c2 fs2 vs2) =>
        if fs2.all (Γ.cf c2) = true then
        match Γ.meth c2 m with
        | some f =>
          match call f [(.ins c2 fs2 vs2, true), (dj, false)] with
          | .ret r (some d') => .ok r (env.set x (some (.ins c fs (fput g d' fs vs).2, true)))
          | .exc z (some d') => .exc z (env.set x (some (.ins c fs (fput g d' fs vs).2, true)))
          | _ => .err
        | none => .err
        else .err
      | _ => .err
      else .err
    | _, _ => .err
  | .new c es, env => (evs es env).bind fun ds env =>
      match Γ.init c with
      | some f =>
        match call f ((.ins c [] [], true) :: ds.map fun d => (d, false)) with
        | .ret (.non, _) (some d') => .ok (d', true) env
        | .exc x (some _) => .exc x env
        | _ => .err
      | none => .err
  | .pop x i, env => (ev i env).bind fun y env =>
      match env[x]?, y.1 with
      | some (some (.lst l, true)), .int i =>
        match ixn l.length i with
        | some j =>
          match l[j]? with
          | some d => .ok (d, false) (env.set x (some (.lst (l.eraseIdx j), true)))
          | none => .err
        | none => .err
      | _, _ => .err
  | .wrd e, env =>
    match (ev e env) with
    | .ok _ env => .ok (.non, false) env
    | .exc x env => Res.lift ((Γ.wd x).map fun d => (d, false)) env
    | .err => .err
  | .lc it tg c body, env => (evi it env).bind fun items env =>
      (lcF (fun d e => bnd false tg (d, false) e) (fun e => wip e tg.ixs)
        (fun e => match c with
          | .none => .ok true e
          | .some c => (ev c e).bind fun x e => match x.1 with | .bl b => .ok b e | _ => .err)
        (fun e => (ev body e).bind fun x e => .ok x.1 e) items (wip (frs env tg.ixs) tg.ixs) []).bind fun ds e => .ok (.lst ds, true) (rst e (frs env tg.ixs) tg.ixs)
  | .lc2 it tg it2 tg2 body, env => .err
  | .dc it tg k v, env => .err
noncomputable def evs : Es → Fm → Res (List D)
  | .nil, env => .ok [] env
  | .cons e es, env => (ev e env).bind fun x env => (evs es env).bind fun ds env => .ok (x.1 :: ds) env
noncomputable def evo : O → Fm → Res (Option Int)
  | .none, env => .ok none env
  | .some e, env => (ev e env).bind fun x env => match x.1 with | .int i => .ok (some i) env | _ => .err
noncomputable def evi : Src → Fm → Res (List D)
  | .seq e, env => (ev e env).bind fun x env => match x.1 with | .lst l => .ok l env | .tup l => .ok l env | .str s => .ok (s.cps.toList.map fun c => .str ⟨#[c]⟩) env | _ => .err
  | .pek p, env => .err
  | .rng1 e, env => (ev e env).bind fun x env => match x.1 with | .int n => if -100000000 ≤ n ∧ n ≤ 100000000 then .ok (rgD 0 n) env else .err | _ => .err
  | .rng2 a b, env => (ev a env).bind fun x env => (ev b env).bind fun y env => match x.1, y.1 with
      | .int i, .int j => if -100000000 ≤ i ∧ i ≤ 100000000 ∧ -100000000 ≤ j ∧ j ≤ 100000000 then .ok (rgD i j) env else .err
      | _, _ => .err
  | .enm e, env => (ev e env).bind fun x env =>
      match x.1 with
      | .lst l => .ok ((rgD 0 l.length).zipWith (fun a b => .tup [a, b]) l) env
      | .tup l => .ok ((rgD 0 l.length).zipWith (fun a b => .tup [a, b]) l) env
      | _ => .err
  | .zip a b, env => (ev a env).bind fun x env => (ev b env).bind fun y env =>
      match x.1, y.1 with
      | .lst l, .lst m => .ok (l.zipWith (fun a b => .tup [a, b]) m) env
      | .tup l, .tup m => .ok (l.zipWith (fun a b => .tup [a, b]) m) env
      | .lst l, .tup m => .ok (l.zipWith (fun a b => .tup [a, b]) m) env
      | .tup l, .lst m => .ok (l.zipWith (fun a b => .tup [a, b]) m) env
      | _, _ => .err
  | .vals e, env => .err
end

/-- results that are kept as they come (a, b = x, y) -/
noncomputable def evp : Es → Fm → Res (List (D × Bool))
  | .nil, env => .ok [] env
  | .cons e es, env => (ev Γ call e env).bind fun x env => (evp es env).bind fun ds env => .ok (x :: ds) env

def Fl.bind (r : Fl) (f : Fm → Fl) : Fl :=
  match r with
  | .nx e => f e
  | r => r
def Res.fl {α : Type} (r : Res α) (f : α → Fm → Fl) : Fl :=
  match r with
  | .ok a e => f a e
  | .exc x e => .exc x e
  | .err => .err

def Res.flN {α : Type} (r : Res α) (f : α → Fm → Fl) : Fl :=
  match r with
  | .ok a e => f a e
  | .exc _ _ => .err
  | .err => .err

@[simp] theorem Fl.bind_nx (e : Fm) (f : Fm → Fl) : (Fl.nx e).bind f = f e := rfl
@[simp] theorem Fl.bind_rt (r : D × Bool) (e : Fm) (f : Fm → Fl) : (Fl.rt r e).bind f = .rt r e := rfl
@[simp] theorem Fl.bind_exc (x : Exn) (e : Fm) (f : Fm → Fl) : (Fl.exc x e).bind f = .exc x e := rfl
@[simp] theorem Fl.bind_err (f : Fm → Fl) : (Fl.err).bind f = .err := rfl
@[simp] theorem Res.fl_ok {α : Type} (a : α) (e : Fm) (f : α → Fm → Fl) : (Res.ok a e).fl f = f a e := rfl
@[simp] theorem Res.fl_exc {α : Type} (x : Exn) (e : Fm) (f : α → Fm → Fl) : (Res.exc x e : Res α).fl f = .exc x e := rfl
@[simp] theorem Res.flN_ok {α : Type} (a : α) (e : Fm) (f : α → Fm → Fl) : (Res.ok a e).flN f = f a e := rfl
@[simp] theorem Res.flN_exc {α : Type} (x : Exn) (e : Fm) (f : α → Fm → Fl) : (Res.exc x e : Res α).flN f = .err := rfl
@[simp] theorem Res.flN_err {α : Type} (f : α → Fm → Fl) : (Res.err : Res α).flN f = .err := rfl
@[simp] theorem Res.fl_err {α : Type} (f : α → Fm → Fl) : (Res.err : Res α).fl f = .err := rfl

/-- a thing is stored at a place of a list -/
noncomputable def sto (x : Nat) (i : E) (d : D) (env : Fm) : Fl :=
  match rdv x env with
  | some _ => (ev Γ call i env).flN fun y env =>
    match env[x]?, y.1 with
    | some (some (.lst l, true)), .int i =>
      match setI l i d with
      | some l' => .nx (env.set x (some (.lst l', true)))
      | none => .err
    | _, _ => .err
  | none => .err
mutual
noncomputable def ex (io : Bool) : S → Fm → Fl
  | .asg tg e, env => (ev Γ call e env).fl fun r env =>
      match bnd io tg r env with
      | some env => .nx env
      | none => .err
  | .par is es, env => (evp Γ call es env).flN fun rs env =>
      if rs.length = is.length ∧ (io = true → 0 ∉ is) then .nx ((is.zip rs).foldl (fun e p => e.set p.1 (some p.2)) env) else .err
  | .aug i sb e, env =>
    match rdv i env with
    | some (.int a) => (ev Γ call e env).flN fun r env =>
        match r.1 with
        | .int b => if io = true ∧ i = 0 then .err else .nx (env.set i (some (.int (if sb = true then a - b else a + b), false)))
        | _ => .err
    | _ => .err
  | .sub x i e, env => (ev Γ call e env).flN fun r env =>
      match rdv x env with
      | some _ => (ev Γ call i env).flN fun y env =>
        match env[x]?, y.1 with
        | some (some (.lst l, true)), .int i =>
          match setI l i r.1 with
          | some l' => .nx (env.set x (some (.lst l', true)))
          | none => .err
        | _, _ => .err
      | none => .err
  | .swp x i j a b, env => (evs Γ call (.cons (.idxv x a) (.cons (.idxv x b) .nil)) env).flN fun ds env =>
      match ds with
      | [d1, d2] => (sto Γ call x i d1 env).bind fun env => sto Γ call x j d2 env
      | _ => .err
  | .fld f e, env => (ev Γ call e env).fl fun r (env : Fm) =>
      match env[(0 : Nat)]? with
      | some (some (.ins c fs vs, true)) =>
        if (fs.all (Γ.cf c) && Γ.cf c f) = true ∧ fs.length < 100 ∧ fs.length = vs.length ∧ (Γ.om c f = true → r.2 = true) then .nx (env.set 0 (some (.ins c (fput f r.1 fs vs).1 (fput f r.1 fs vs).2, true))) else .err
      | _ => .err
  | .fld2 f g e, env => .err
  | .app p e, env =>
    match pth Γ p env with
    | some (.lst _, true) => (ev Γ call e env).flN fun r env =>
      match pth Γ p env with
      | some (.lst l, true) => if l.length < LIM then .nx (setP Γ p (.lst (l ++ [r.1])) env) else .err
      | _ => .err
    | _ => .err
  | .exp e, env => (ev Γ call e env).fl fun _ env => .nx env
  | .ret e, env => (ev Γ call e env).fl fun r env => .rt r env
  | .retN, env => .rt (.non, false) env
  | .retv i, env =>
    match env[i]? with
    | some (some r) => if io = true ∧ i = 0 then .err else .rt r (env.set i none)
    | _ => .err
  | .ifs c a b, env => (ev Γ call c env).flN fun r env => match r.1 with | .bl true => exs io a env | .bl false => exs io b env | _ => .err
  | .whl c b, env => whlG (fun e => ev Γ call c e) (fun e => exs io b e) env
  | .for it tg b, env => (evi Γ call it env).flN fun items env => forF (fun d e => bnd io tg (d, false) e) (fun e => exs io b e) items env
  | .rse c e, env =>
    match e with
    | .none => .exc ⟨c, .non⟩ env
    | .some e => (ev Γ call e env).flN fun r env => .exc ⟨c, r.1⟩ env
  | .nev, env => .err
  | .pas, env => .nx env
noncomputable def exs (io : Bool) : Ss → Fm → Fl
  | .nil, env => .nx env
  | .cons s r, env => (ex io s env).bind fun env => exs io r env
end
end

/-- a def's body at its arguments -/
noncomputable def body (Γ : Ctx) (call : Nat → List (D × Bool) → CRes) (F : FnE) (args : List (D × Bool)) : CRes :=
  if args.length = F.np then
    let p0 := fun (env : Fm) => if F.io = true then (match env[(0 : Nat)]? with | some (some (d, true)) => some (some d) | _ => none) else some none
    match exs Γ call F.io F.body (args.map some ++ List.replicate (F.ns - F.np) none) with
    | .nx env => (match p0 env with | some p => .ret (.non, false) p | none => .err)
    | .rt r env => (match p0 env with | some p => .ret r p | none => .err)
    | .exc x env => (match p0 env with | some p => .exc x p | none => .err)
    | .err => .err
  else .err
noncomputable def callN (Γ : Ctx) : Nat → Nat → List (D × Bool) → CRes
  | 0, _, _ => .err
  | n + 1, f, args =>
    match Γ.fn f with
    | some F => body Γ (callN Γ n) F args
    | none => .err
end PL
/-! PLRep: how data stand in the abstract heap; what a frame's slots hold. -/
namespace PL
open PySem L2

/-- what the text's names stand for -/
structure Nm where
  cl : Nat → Addr
  fl : Nat → Str
  om : Nat → Nat → Bool
  tb : List (Addr × Str)
  xf : Nat → Str

section
variable (K : PySem.W.Frag) (M : Nm)
mutual
inductive Rep (F : Hp) : D → V → Prop where
  | non : Rep F .non .non
  | bl (b : Bool) : Rep F (.bl b) (.bl b)
  | int (i : Int) : Rep F (.int i) (.int i)
  | str (s : Str) : Rep F (.str s) (.str s)
  | tup {a : Addr} {l : List D} {vs : List V} (h : SqT K F a vs) (z : vs.length ≤ LIM) (r : Reps F l vs) : Rep F (.tup l) (.ref a)
  | lst {a : Addr} {l : List D} {vs : List V} (h : F a = some (.lst vs)) (z : vs.length ≤ LIM) (r : Reps F l vs) : Rep F (.lst l) (.ref a)
  | scr {a : Addr} {l : List Int} (h : SqL K F a (l.map V.int)) (z : l.length ≤ LIM) : Rep F (.scr l) (.ref a)
  | dic {a : Addr} {ks : List Int} {ds : List D} {kvs : List (Key × V)} (h : F a = some (.dK kvs)) (e : kvs.map (·.1) = ks.map Sum.inl) (r : Reps F ds (kvs.map (·.2))) : Rep F (.dic ks ds) (.ref a)
  | ins {a dx : Addr} {c : Nat} {fs : List Nat} {ds : List D} {kvs : List (Str × V)} (h : F a = some (.ins (M.cl c) dx kvs)) (e : kvs.map (·.1) = fs.map M.fl) (r : Reps F ds (kvs.map (·.2))) : Rep F (.ins c fs ds) (.ref a)
  | obj {a : Addr} {o : HO} (h : F a = some o) : Rep F (.obj a o) (.ref a)
inductive Reps (F : Hp) : List D → List V → Prop where
  | nil : Reps F [] []
  | cons {d : D} {v : V} {ds : List D} {vs : List V} (h : Rep F d v) (r : Reps F ds vs) : Reps F (d :: ds) (v :: vs)
end
mutual
/-- ours alone: the thing's objects (fp) are in H, not among what is settled (F) -/
inductive RepO (F H : Hp) : D → Bool → V → List Addr → Prop where
  | fz {d : D} {v : V} (h : Rep K M F d v) : RepO F H d false v []
  | lst {a : Addr} {l : List D} {vs : List V} (h : H a = some (.lst vs)) (z : vs.length ≤ LIM) (r : Reps K M F l vs) : RepO F H (.lst l) true (.ref a) [a]
  | ins {a dx : Addr} {c : Nat} {fs : List Nat} {ds : List D} {kvs : List (Str × V)} {fp : List Addr} (h : H a = some (.ins (M.cl c) dx kvs)) (e : kvs.map (·.1) = fs.map M.fl) (r : RepOs F H (fs.map (M.om c)) ds (kvs.map (·.2)) fp) :
      RepO F H (.ins c fs ds) true (.ref a) (a :: fp)
  | obj {a : Addr} {o : HO} (h : H a = some o) (nt : ∀ ps, o ≠ .tbl ps) : RepO F H (.obj a o) true (.ref a) [a]
inductive RepOs (F H : Hp) : List Bool → List D → List V → List Addr → Prop where
  | nil : RepOs F H [] [] [] []
  | cons {o : Bool} {d : D} {v : V} {os : List Bool} {ds : List D} {vs : List V} {fp fq : List Addr} (h : RepO F H d o v fp) (r : RepOs F H os ds vs fq) : RepOs F H (o :: os) (d :: ds) (v :: vs) (fp ++ fq)
end
inductive RepE (F H : Hp) : List Sl → List (Option V) → List Addr → Prop where
  | nil : RepE F H [] [] []
  | skip {v : Option V} {es : List Sl} {vs : List (Option V)} {fq : List Addr} (r : RepE F H es vs fq) : RepE F H (none :: es) (v :: vs) fq
  | slot {d : D} {o : Bool} {v : V} {es : List Sl} {vs : List (Option V)} {fp fq : List Addr} (h : RepO K M F H d o v fp) (r : RepE F H es vs fq) : RepE F H (some (d, o) :: es) (some v :: vs) (fp ++ fq)
/-- no code object's table -/
def NoTb (o : HO) : Prop := ∀ ps, o ≠ .tbl ps
/-- what is settled stands; the tables of code objects are kept -/
structure Sm (M : Nm) (F H : Hp) : Prop where
  same : Same F H
  tb : M.tb ≠ [] → LamX.Tabs M.tb H ∧ ∀ a o, F a = some o → NoTb o
/-- the slots, at a state of the heap -/
def Sta (F H : Hp) (es : List Sl) (vs : List (Option V)) : Prop := ∃ fp, RepE K M F H es vs fp ∧ fp.Nodup ∧ (∀ a ∈ fp, F a = none) ∧ Sm M F H
end

section
variable {K : PySem.W.Frag} {M : Nm} {F F' H H' : Hp}

theorem same_sqT {a : Addr} {vs : List V} (e : Same F F') (h : SqT K F a vs) : SqT K F' a vs := by
  rcases h with (h | ⟨o, h⟩) | h
  · exact .inl (.inl (e _ _ h))
  · exact .inl (.inr ⟨o, e _ _ h⟩)
  · exact .inr h
theorem same_new {p : Addr} {o : HO} (h : F p = none) : Same F (upd F p o) := fun a u e => by
  rw [upd_ne (ne_of_none e h)]
  exact e
theorem same_upd {p : Addr} {o : HO} (e : Same F F') : Same (upd F p o) (upd F' p o) := fun a u h => by
  by_cases q : a = p
  · subst q
    rw [upd_same] at h ⊢
    exact h
  · rw [upd_ne q] at h ⊢
    exact e a u h

mutual
theorem Rep.mono (e : Same F F') : ∀ {d : D} {v : V}, Rep K M F d v → Rep K M F' d v
  | _, _, .non => .non
  | _, _, .bl b => .bl b
  | _, _, .int i => .int i
  | _, _, .str s => .str s
  | _, _, .tup h z r => .tup (same_sqT e h) z (Reps.mono e r)
  | _, _, .lst h z r => .lst (e _ _ h) z (Reps.mono e r)
  | _, _, .scr h z => .scr (e.seq h) z
  | _, _, .dic h q r => .dic (e _ _ h) q (Reps.mono e r)
  | _, _, .ins h q r => .ins (e _ _ h) q (Reps.mono e r)
  | _, _, .obj h => .obj (e _ _ h)
theorem Reps.mono (e : Same F F') : ∀ {ds : List D} {vs : List V}, Reps K M F ds vs → Reps K M F' ds vs
  | _, _, .nil => .nil
  | _, _, .cons h r => .cons (Rep.mono e h) (Reps.mono e r)
end
theorem Reps.len : ∀ {ds : List D} {vs : List V}, Reps K M F ds vs → ds.length = vs.length
  | _, _, .nil => rfl
  | _, _, .cons _ r => by rw [List.length_cons, List.length_cons, Reps.len r]
theorem Reps.get : ∀ {ds : List D} {vs : List V} {i : Nat} {d : D}, Reps K M F ds vs → ds[i]? = some d → ∃ v, vs[i]? = some v ∧ Rep K M F d v
  | _, _, _, _, .nil, h => by simp at h
  | _, _, 0, _, .cons h r, e => by
    simp at e
    subst e
    exact ⟨_, rfl, h⟩
  | _, _, i + 1, d, .cons h r, e => by
    obtain ⟨v, a, b⟩ := Reps.get (i := i) (d := d) r (by simpa using e)
    exact ⟨v, by simpa using a, b⟩
theorem Reps.set {d : D} {v : V} (h : Rep K M F d v) : ∀ {ds : List D} {vs : List V} (i : Nat), Reps K M F ds vs → Reps K M F (ds.set i d) (vs.set i v)
  | _, _, _, .nil => .nil
  | _, _, 0, .cons _ r => .cons h r
  | _, _, i + 1, .cons q r => .cons q (Reps.set h i r)
theorem Reps.app : ∀ {ds es : List D} {vs us : List V}, Reps K M F ds vs → Reps K M F es us → Reps K M F (ds ++ es) (vs ++ us)
  | _, _, _, _, .nil, s => s
  | _, _, _, _, .cons h r, s => .cons h (Reps.app r s)
theorem Reps.snoc {ds : List D} {vs : List V} {d : D} {v : V} (r : Reps K M F ds vs) (h : Rep K M F d v) : Reps K M F (ds ++ [d]) (vs ++ [v]) := r.app (.cons h .nil)
theorem Reps.take : ∀ {ds : List D} {vs : List V} (n : Nat), Reps K M F ds vs → Reps K M F (ds.take n) (vs.take n)
  | _, _, 0, _ => .nil
  | _, _, _ + 1, .nil => .nil
  | _, _, n + 1, .cons h r => .cons h (Reps.take n r)
theorem Reps.drop : ∀ {ds : List D} {vs : List V} (n : Nat), Reps K M F ds vs → Reps K M F (ds.drop n) (vs.drop n)
  | _, _, 0, r => r
  | _, _, _ + 1, .nil => .nil
  | _, _, n + 1, .cons _ r => Reps.drop n r
theorem Reps.erase : ∀ {ds : List D} {vs : List V} (n : Nat), Reps K M F ds vs → Reps K M F (ds.eraseIdx n) (vs.eraseIdx n)
  | _, _, _, .nil => .nil
  | _, _, 0, .cons _ r => r
  | _, _, n + 1, .cons h r => .cons h (Reps.erase n r)

mutual
theorem RepO.mono (e : Same F F') : ∀ {d : D} {o : Bool} {v : V} {fp : List Addr}, RepO K M F H d o v fp → (∀ a ∈ fp, ∀ u, H a = some u → H' a = some u) → RepO K M F' H' d o v fp
  | _, _, _, _, .fz h, _ => .fz (h.mono e)
  | _, _, _, _, .lst h z r, k => .lst (k _ (by simp) _ h) z (r.mono e)
  | _, _, _, _, .ins h q r, k => .ins (k _ (by simp) _ h) q (RepOs.mono e r fun a ha => k a (by simp [ha]))
  | _, _, _, _, .obj h nt, k => .obj (k _ (by simp) _ h) nt
theorem RepOs.mono (e : Same F F') : ∀ {os : List Bool} {ds : List D} {vs : List V} {fp : List Addr}, RepOs K M F H os ds vs fp → (∀ a ∈ fp, ∀ u, H a = some u → H' a = some u) → RepOs K M F' H' os ds vs fp
  | _, _, _, _, .nil, _ => .nil
  | _, _, _, _, .cons h r, k => .cons (RepO.mono e h fun a ha => k a (by simp [ha])) (RepOs.mono e r fun a ha => k a (by simp [ha]))
end
theorem RepE.mono (e : Same F F') : ∀ {es : List Sl} {vs : List (Option V)} {fp : List Addr}, RepE K M F H es vs fp → (∀ a ∈ fp, ∀ u, H a = some u → H' a = some u) → RepE K M F' H' es vs fp
  | _, _, _, .nil, _ => .nil
  | _, _, _, .skip r, k => .skip (RepE.mono e r k)
  | _, _, _, .slot h r, k => .slot (h.mono e fun a ha => k a (by simp [ha])) (RepE.mono e r fun a ha => k a (by simp [ha]))
mutual
theorem RepO.there : ∀ {d : D} {o : Bool} {v : V} {fp : List Addr}, RepO K M F H d o v fp → ∀ a ∈ fp, ∃ u, H a = some u
  | _, _, _, _, .fz _, a, h => by simp at h
  | _, _, _, _, .lst h _ _, a, ha => by
    simp at ha
    subst ha
    exact ⟨_, h⟩
  | _, _, _, _, .ins h _ r, a, ha => by
    simp at ha
    rcases ha with rfl | ha
    · exact ⟨_, h⟩
    · exact RepOs.there r a ha
  | _, _, _, _, .obj h _, a, ha => by
    simp at ha
    subst ha
    exact ⟨_, h⟩
theorem RepOs.there : ∀ {os : List Bool} {ds : List D} {vs : List V} {fp : List Addr}, RepOs K M F H os ds vs fp → ∀ a ∈ fp, ∃ u, H a = some u
  | _, _, _, _, .nil, a, h => by simp at h
  | _, _, _, _, .cons h r, a, ha => by
    rcases List.mem_append.mp ha with ha | ha
    · exact RepO.there h a ha
    · exact RepOs.there r a ha
end
theorem RepE.there : ∀ {es : List Sl} {vs : List (Option V)} {fp : List Addr}, RepE K M F H es vs fp → ∀ a ∈ fp, ∃ u, H a = some u
  | _, _, _, .nil, a, h => by simp at h
  | _, _, _, .skip r, a, h => RepE.there r a h
  | _, _, _, .slot h r, a, ha => by
    rcases List.mem_append.mp ha with ha | ha
    · exact RepO.there h a ha
    · exact RepE.there r a ha
theorem RepE.len : ∀ {es : List Sl} {vs : List (Option V)} {fp : List Addr}, RepE K M F H es vs fp → es.length = vs.length
  | _, _, _, .nil => rfl
  | _, _, _, .skip r => by rw [List.length_cons, List.length_cons, RepE.len r]
  | _, _, _, .slot _ r => by rw [List.length_cons, List.length_cons, RepE.len r]

mutual
theorem RepO.notb : ∀ {d : D} {o : Bool} {v : V} {fp : List Addr}, RepO K M F H d o v fp → ∀ a ∈ fp, ∀ u, H a = some u → NoTb u
  | _, _, _, _, .fz _, a, h, _, _ => by simp at h
  | _, _, _, _, .lst h _ _, a, ha, u, e => by
    simp at ha
    subst ha
    rw [h] at e
    cases e
    intro ps z
    cases z
  | _, _, _, _, .ins h _ r, a, ha, u, e => by
    simp at ha
    rcases ha with rfl | ha
    · rw [h] at e
      cases e
      intro ps z
      cases z
    · exact RepOs.notb r a ha u e
  | _, _, _, _, .obj h nt, a, ha, u, e => by
    simp at ha
    subst ha
    rw [h] at e
    cases e
    exact nt
theorem RepOs.notb : ∀ {os : List Bool} {ds : List D} {vs : List V} {fp : List Addr}, RepOs K M F H os ds vs fp → ∀ a ∈ fp, ∀ u, H a = some u → NoTb u
  | _, _, _, _, .nil, a, h, _, _ => by simp at h
  | _, _, _, _, .cons h r, a, ha, u, e => by
    rcases List.mem_append.mp ha with ha | ha
    · exact RepO.notb h a ha u e
    · exact RepOs.notb r a ha u e
end
/-- a list is changed: the tables are kept -/
theorem tabs_mut {T : List (Addr × Str)} {a : Addr} {xs ws : List V} (h : LamX.Tabs T H) (e : H a = some (.lst xs)) : LamX.Tabs T (upd H a (.lst ws)) := fun p hp => by
  obtain ⟨ps, h1, h2, h3⟩ := h p hp
  refine ⟨ps, ?_, h2, fun pos cv hc => ?_⟩
  · rw [upd_ne fun z => by rw [z, e] at h1; cases h1]
    exact h1
  · obtain ⟨c, e1, e2⟩ := h3 pos cv hc
    refine ⟨c, e1, ?_⟩
    rw [upd_ne fun z => by
      rw [z, e] at e2
      unfold LamX.CodeO at e2
      cases e2]
    exact e2
/-- settled from now on -/
def frz (F H : Hp) (fp : List Addr) : Hp := fun a => if a ∈ fp then H a else F a
theorem frz_same {fp : List Addr} (h : ∀ a ∈ fp, F a = none) : Same F (frz F H fp) := fun a u e => by
  unfold frz
  by_cases q : a ∈ fp
  · rw [h a q] at e
    cases e
  · rw [if_neg q]
    exact e
theorem frz_le {fp : List Addr} (h : Same F H) : Same (frz F H fp) H := fun a u e => by
  unfold frz at e
  split at e
  · exact e
  · exact h a u e
theorem frz_in {fp : List Addr} {a : Addr} (h : a ∈ fp) : frz F H fp a = H a := if_pos h
theorem frz_out {fp : List Addr} {a : Addr} (h : a ∉ fp) : frz F H fp a = F a := if_neg h
mutual
theorem RepO.settle (e : Same F F') : ∀ {d : D} {o : Bool} {v : V} {fp : List Addr}, RepO K M F H d o v fp → (∀ a ∈ fp, F' a = H a) → Rep K M F' d v
  | _, _, _, _, .fz h, _ => h.mono e
  | _, _, _, _, .lst h z r, k => .lst (by rw [k _ (by simp)]; exact h) z (r.mono e)
  | _, _, _, _, .ins h q r, k => .ins (by rw [k _ (by simp)]; exact h) q (RepOs.settle e r fun a ha => k a (by simp [ha]))
  | _, _, _, _, .obj h _, k => .obj (by rw [k _ (by simp)]; exact h)
theorem RepOs.settle (e : Same F F') : ∀ {os : List Bool} {ds : List D} {vs : List V} {fp : List Addr}, RepOs K M F H os ds vs fp → (∀ a ∈ fp, F' a = H a) → Reps K M F' ds vs
  | _, _, _, _, .nil, _ => .nil
  | _, _, _, _, .cons h r, k => .cons (RepO.settle e h fun a ha => k a (by simp [ha])) (RepOs.settle e r fun a ha => k a (by simp [ha]))
end

/-! ### the slots -/
variable {es : List Sl} {vs : List (Option V)} {d : D} {o : Bool} {v : V}
theorem Sta.same (h : Sta K M F H es vs) : Same F H := let ⟨_, _, _, _, e⟩ := h; e.same
theorem Sta.sm (h : Sta K M F H es vs) : Sm M F H := let ⟨_, _, _, _, e⟩ := h; e
theorem Sta.len (h : Sta K M F H es vs) : es.length = vs.length := let ⟨_, r, _⟩ := h; r.len
theorem Sta.drop {s : Sl} {w : Option V} (h : Sta K M F H (s :: es) (w :: vs)) : Sta K M F H es vs := by
  obtain ⟨fp, r, n, f, e⟩ := h
  cases r with
  | skip r => exact ⟨_, r, n, f, e⟩
  | slot a r => exact ⟨_, r, (List.nodup_append.mp n).2.1, fun x hx => f x (List.mem_append_right _ hx), e⟩
theorem Sta.push (h : Sta K M F H es vs) (r : Rep K M F d v) : Sta K M F H (some (d, false) :: es) (some v :: vs) := by
  obtain ⟨fp, q, n, f, e⟩ := h
  exact ⟨[] ++ fp, .slot (.fz r) q, n, f, e⟩
theorem Sta.pushN {w : Option V} (h : Sta K M F H es vs) : Sta K M F H (none :: es) (w :: vs) := by
  obtain ⟨fp, q, n, f, e⟩ := h
  exact ⟨fp, .skip q, n, f, e⟩
theorem Sta.head (h : Sta K M F H (some (d, o) :: es) (some v :: vs)) : ∃ fp, RepO K M F H d o v fp := by
  obtain ⟨fp, r, _⟩ := h
  cases r with
  | slot a _ => exact ⟨_, a⟩
theorem Sta.headF (h : Sta K M F H (some (d, false) :: es) (some v :: vs)) : Rep K M F d v := by
  obtain ⟨fp, r⟩ := h.head
  cases r with
  | fz q => exact q
/-- what comes first is settled -/
theorem Sta.settle (h : Sta K M F H (some (d, o) :: es) (some v :: vs)) : ∃ F', Same F F' ∧ Rep K M F' d v ∧ Sta K M F' H es vs := by
  obtain ⟨fp, r, n, f, e⟩ := h
  cases r with
  | slot a r =>
    rename_i fp fq
    have fa : ∀ x ∈ fp, F x = none := fun x hx => f x (List.mem_append_left _ hx)
    have s := frz_same (H := H) fa
    obtain ⟨n1, n2, n3⟩ := List.nodup_append.mp n
    refine ⟨frz F H fp, s, a.settle s fun x hx => frz_in hx, fq, r.mono s fun _ _ _ q => q, n2, fun x hx => ?_, ⟨frz_le e.same, fun z => ⟨(e.tb z).1, fun b o q => ?_⟩⟩⟩
    · rw [frz_out fun z => n3 x z x hx rfl]
      exact f x (List.mem_append_right _ hx)
    · by_cases w : b ∈ fp
      · rw [frz_in w] at q
        exact a.notb b w o q
      · rw [frz_out w] at q
        exact (e.tb z).2 b o q
/-- more is settled, all that is tracked stands -/
theorem Sta.mono (h : Sta K M F H es vs) (s : Same F F') (k : Same H H') (e : Sm M F' H') (new : ∀ a u, H a = some u → F a = none → F' a = none) : Sta K M F' H' es vs := by
  obtain ⟨fp, r, n, f, _⟩ := h
  refine ⟨fp, r.mono s fun a _ u q => k a u q, n, fun a ha => ?_, e⟩
  obtain ⟨u, q⟩ := r.there a ha
  exact new a u q (f a ha)
/-- a new object, settled at once -/
theorem Sta.new {p : Addr} {ob : HO} (h : Sta K M F H es vs) (hp : H p = none) (nt : NoTb ob := by intro ps z; cases z) : Sta K M (upd F p ob) (upd H p ob) es vs := by
  have fp : F p = none := by
    cases q : F p with
    | none => rfl
    | some u =>
      rw [h.same p u q] at hp
      cases hp
  refine h.mono (same_new fp) (same_new hp) ⟨same_upd h.same, fun z => ⟨(h.sm.tb z).1.ext fun b o q => same_new hp b o q, fun a o q => ?_⟩⟩ fun a u q z => ?_
  · by_cases w : a = p
    · subst w
      rw [upd_same] at q
      cases q
      exact nt
    · rw [upd_ne w] at q
      exact (h.sm.tb z).2 a o q
  rw [upd_ne (ne_of_none q hp)]
  exact z
theorem Sta.free {p : Addr} (h : Sta K M F H es vs) (hp : H p = none) : F p = none := by
  cases q : F p with
  | none => rfl
  | some u =>
    rw [h.same p u q] at hp
    cases hp
theorem RepE.notb : ∀ {es : List Sl} {vs : List (Option V)} {fp : List Addr}, RepE K M F H es vs fp → ∀ a ∈ fp, ∀ u, H a = some u → NoTb u
  | _, _, _, .nil, a, h, _, _ => by simp at h
  | _, _, _, .skip r, a, h, u, e => RepE.notb r a h u e
  | _, _, _, .slot h r, a, ha, u, e => by
    rcases List.mem_append.mp ha with ha | ha
    · exact h.notb a ha u e
    · exact RepE.notb r a ha u e
/-- a lambda is made -/
theorem Sta.lam {H1 : Hp} (h : Sta K M F H es vs) (eN : LamX.ExtN H H1) (hT : LamX.Tabs M.tb H1) (ht : M.tb ≠ []) : Sta K M F H1 es vs := by
  obtain ⟨fp, r, n, f, e⟩ := h
  have q := (e.tb ht).2
  exact ⟨fp, r.mono (Same.refl F) fun a ha u z => eN a u z (r.notb a ha u z), n, f, fun a u z => eN a u (e.same a u z) (q a u z), fun _ => ⟨hT, q⟩⟩
/-- a new list, ours -/
theorem Sta.newL {p : Addr} {l : List D} {ws : List V} (h : Sta K M F H es vs) (hp : H p = none) (r : Reps K M F l ws) (z : ws.length ≤ LIM) :
    Sta K M F (upd H p (.lst ws)) (some (.lst l, true) :: es) (some (.ref p) :: vs) := by
  obtain ⟨fp, q, n, f, e⟩ := h
  have np : ∀ a ∈ fp, a ≠ p := fun a ha z => by
    obtain ⟨u, w⟩ := q.there a ha
    rw [z, hp] at w
    cases w
  have hF : F p = none := by
    cases w : F p with
    | none => rfl
    | some u =>
      rw [e.same p u w] at hp
      cases hp
  refine ⟨[p] ++ fp, .slot (.lst upd_same z r) (q.mono (Same.refl F) fun a ha u w => ?_), ?_, fun a ha => ?_, ⟨fun a u w => ?_, fun z => ⟨(e.tb z).1.ext fun b o q => same_new hp b o q, (e.tb z).2⟩⟩⟩
  · rw [upd_ne (np a ha)]
    exact w
  · refine List.nodup_append.mpr ⟨(by simp), n, fun a ha b hb => ?_⟩
    simp at ha
    subst ha
    exact (np b hb).symm
  · rcases List.mem_append.mp ha with z | z
    · simp at z
      rw [z]
      exact hF
    · exact f a z
  · rw [upd_ne (ne_of_none w hF)]
    exact e.same a u w
/-- what comes first is a list of ours: it is changed -/
theorem Sta.mut {a : Addr} {l l' : List D} {ws : List V} (h : Sta K M F H (some (.lst l, true) :: es) (some (.ref a) :: vs)) (r : Reps K M F l' ws) (z : ws.length ≤ LIM) :
    Sta K M F (upd H a (.lst ws)) (some (.lst l', true) :: es) (some (.ref a) :: vs) := by
  obtain ⟨fp, q, n, f, e⟩ := h
  cases q with
  | slot b q =>
    cases b with
    | lst hb zb rb =>
      rename_i fq _
      obtain ⟨n1, n2, n3⟩ := List.nodup_append.mp n
      have na : ∀ x ∈ fq, x ≠ a := fun x hx w => n3 a (by simp) x hx w.symm
      refine ⟨[a] ++ fq, .slot (.lst upd_same z r) (q.mono (Same.refl F) fun x hx u w => ?_), n, f, ⟨fun x u w => ?_, fun z => ⟨tabs_mut (e.tb z).1 hb, (e.tb z).2⟩⟩⟩
      · rw [upd_ne (na x hx)]
        exact w
      · have hF : F a = none := f a (by simp)
        rw [upd_ne (ne_of_none w hF)]
        exact e.same x u w
theorem Sta.headL {l : List D} (h : Sta K M F H (some (.lst l, true) :: es) (some v :: vs)) : ∃ a ws, v = .ref a ∧ H a = some (.lst ws) ∧ ws.length ≤ LIM ∧ Reps K M F l ws := by
  obtain ⟨fp, r⟩ := h.head
  cases r with
  | lst hb zb rb => exact ⟨_, _, rfl, hb, zb, rb⟩

theorem RepE.take : ∀ {es : List Sl} {vs : List (Option V)} {fp : List Addr} {i : Nat} {d : D} {o : Bool}, RepE K M F H es vs fp → es[i]? = some (some (d, o)) →
    ∃ v fpR fq, vs[i]? = some (some v) ∧ RepO K M F H d o v fpR ∧ RepE K M F H (es.set i none) vs fq ∧ (fpR ++ fq).Perm fp
  | _, _, _, _, _, _, .nil, h => by simp at h
  | _, _, _, 0, _, _, .skip r, h => by simp at h
  | _, _, _, i + 1, d, o, .skip r, h => by
    obtain ⟨v, fpR, fq, e, a, b, c⟩ := RepE.take (i := i) (d := d) (o := o) r (by simpa using h)
    exact ⟨v, fpR, fq, by simpa using e, a, .skip b, c⟩
  | _, _, _, 0, _, _, .slot h r, e => by
    simp at e
    obtain ⟨rfl, rfl⟩ := e
    exact ⟨_, _, _, rfl, h, .skip r, .refl _⟩
  | _, _, _, i + 1, d, o, .slot h r, e => by
    obtain ⟨v, fpR, fq, e, a, b, c⟩ := RepE.take (i := i) (d := d) (o := o) r (by simpa using e)
    rename_i fp fq' _
    refine ⟨v, fpR, fp ++ fq, by simpa using e, a, .slot h b, ?_⟩
    refine (List.perm_append_comm_assoc fpR fp fq).trans ?_
    exact c.append_left fp
theorem RepE.put {d : D} {o : Bool} {v : V} {fpR : List Addr} (h : RepO K M F H d o v fpR) : ∀ {es : List Sl} {vs : List (Option V)} {fp : List Addr} {i : Nat}, RepE K M F H es vs fp → i < es.length →
    ∃ fq, RepE K M F H (es.set i (some (d, o))) (vs.set i (some v)) fq ∧ ∃ fx, (fq ++ fx).Perm (fpR ++ fp)
  | _, _, _, _, .nil, hi => by simp at hi
  | _, _, _, 0, .skip r, hi => ⟨_, .slot h r, [], by simp⟩
  | _, _, _, 0, .slot q r, hi => by
    rename_i fp fq
    refine ⟨_, .slot h r, fp, ?_⟩
    rw [List.append_assoc]
    exact (List.perm_append_comm (l₁ := fq) (l₂ := fp)).append_left fpR
  | _, _, _, i + 1, .skip r, hi => by
    obtain ⟨fq, a, fx, b⟩ := RepE.put h (i := i) r (by simpa using hi)
    exact ⟨fq, .skip a, fx, b⟩
  | _, _, _, i + 1, .slot q r, hi => by
    obtain ⟨fq, a, fx, b⟩ := RepE.put h (i := i) r (by simpa using hi)
    rename_i fp fq'
    refine ⟨fp ++ fq, .slot q a, fx, ?_⟩
    rw [List.append_assoc]
    exact (b.append_left fp).trans (List.perm_append_comm_assoc fp fpR fq')
theorem Sta.take {i : Nat} (h : Sta K M F H es vs) (e : es[i]? = some (some (d, o))) : ∃ v, vs[i]? = some (some v) ∧ Sta K M F H (some (d, o) :: es.set i none) (some v :: vs) := by
  obtain ⟨fp, r, n, f, q⟩ := h
  obtain ⟨v, fpR, fq, a, b, c, p⟩ := r.take e
  exact ⟨v, a, _, .slot b c, p.nodup_iff.mpr n, fun x hx => f x (p.mem_iff.mp hx), q⟩
theorem Sta.put {i : Nat} (h : Sta K M F H (some (d, o) :: es) (some v :: vs)) (hi : i < es.length) : Sta K M F H (es.set i (some (d, o))) (vs.set i (some v)) := by
  obtain ⟨fp, r, n, f, q⟩ := h
  cases r with
  | slot a r =>
    obtain ⟨fq, b, fx, p⟩ := RepE.put a r hi
    refine ⟨fq, b, ?_, fun x hx => f x (p.mem_iff.mp (List.mem_append_left _ hx)), q⟩
    exact (List.nodup_append.mp (p.nodup_iff.mpr n)).1
theorem Sta.wipe {i : Nat} (h : Sta K M F H es vs) : Sta K M F H (es.set i none) vs := by
  cases e : es[i]? with
  | none =>
    have : es.length ≤ i := List.getElem?_eq_none_iff.mp e
    rw [List.set_eq_of_length_le this]
    exact h
  | some s =>
    cases s with
    | none =>
      obtain ⟨hi, q⟩ := List.getElem?_eq_some_iff.mp e
      have : es.set i none = es := by rw [← q]; exact List.set_getElem_self hi
      rw [this]
      exact h
    | some p =>
      obtain ⟨d, o⟩ := p
      obtain ⟨v, _, z⟩ := h.take e
      exact z.drop
theorem Sta.at {i : Nat} (h : Sta K M F H es vs) (e : es[i]? = some (some (d, o))) : ∃ v fp, vs[i]? = some (some v) ∧ RepO K M F H d o v fp := by
  obtain ⟨v, a, z⟩ := h.take e
  obtain ⟨fp, r⟩ := z.head
  exact ⟨v, fp, a, r⟩
theorem set_same_of {α : Type} {l : List α} {i : Nat} {x : α} (h : l[i]? = some x) : l.set i x = l := by
  obtain ⟨hi, q⟩ := List.getElem?_eq_some_iff.mp h
  rw [← q]
  exact List.set_getElem_self hi
theorem RepE.app {es fs : List Sl} {vs ws : List (Option V)} {fp fq : List Addr} (h : RepE K M F H es vs fp) (r : RepE K M F H fs ws fq) : RepE K M F H (es ++ fs) (vs ++ ws) (fp ++ fq) := by
  induction h with
  | nil => exact r
  | skip _ ih => exact .skip ih
  | slot a _ ih =>
    rw [List.append_assoc]
    exact .slot a ih
theorem RepE.cut : ∀ {es fs : List Sl} {vs ws : List (Option V)} {fp : List Addr}, RepE K M F H (es ++ fs) (vs ++ ws) fp → es.length = vs.length → ∃ f1 f2, fp = f1 ++ f2 ∧ RepE K M F H es vs f1 ∧ RepE K M F H fs ws f2
  | [], _, [], _, fp, h, _ => ⟨[], fp, rfl, .nil, h⟩
  | _ :: _, _, [], _, _, _, h => by simp at h
  | [], _, _ :: _, _, _, _, h => by simp at h
  | e :: es, fs, v :: vs, ws, fp, h, hl => by
    cases h with
    | skip h =>
      obtain ⟨f1, f2, e, a, b⟩ := RepE.cut (es := es) (fs := fs) (vs := vs) (ws := ws) h (by simpa using hl)
      exact ⟨f1, f2, e, .skip a, b⟩
    | slot q h =>
      obtain ⟨f1, f2, e, a, b⟩ := RepE.cut (es := es) (fs := fs) (vs := vs) (ws := ws) h (by simpa using hl)
      exact ⟨_, f2, by rw [e, List.append_assoc], .slot q a, b⟩
theorem Sta.cut {es fs : List Sl} {vs ws : List (Option V)} (h : Sta K M F H (es ++ fs) (vs ++ ws)) (hl : es.length = vs.length) : Sta K M F H es vs := by
  obtain ⟨fp, r, n, f, e⟩ := h
  obtain ⟨f1, f2, rfl, a, b⟩ := r.cut hl
  exact ⟨f1, a, (List.nodup_append.mp n).1, fun x hx => f x (List.mem_append_left _ hx), e⟩
theorem Reps.slots : ∀ {ds : List D} {vs : List V}, Reps K M F ds vs → RepE K M F H ((ds.map fun d => (d, false)).map Option.some) (vs.map Option.some) []
  | _, _, .nil => .nil
  | _, _, .cons h r => .slot (.fz h) (Reps.slots r)
theorem Sta.args {es : List Sl} {vs : List (Option V)} {ds : List D} {ws : List V} (h : Sta K M F H es vs) (r : Reps K M F ds ws) : Sta K M F H (es ++ (ds.map fun d => (d, false)).map Option.some) (vs ++ ws.map Option.some) := by
  obtain ⟨fp, q, n, f, e⟩ := h
  exact ⟨fp ++ [], q.app r.slots, by simpa using n, by simpa using f, e⟩
theorem RepE.nones : ∀ n : Nat, RepE K M F H (List.replicate n Option.none) (List.replicate n Option.none) []
  | 0 => .nil
  | n + 1 => .skip (RepE.nones n)
theorem Sta.nones {es : List Sl} {vs : List (Option V)} (n : Nat) (h : Sta K M F H es vs) : Sta K M F H (es ++ List.replicate n Option.none) (vs ++ List.replicate n Option.none) := by
  obtain ⟨fp, q, k, f, e⟩ := h
  exact ⟨fp ++ [], q.app (.nones n), by simpa using k, by simpa using f, e⟩
theorem Sta.swap {d' : D} {o' : Bool} {v' : V} (h : Sta K M F H (some (d, o) :: some (d', o') :: es) (some v :: some v' :: vs)) : Sta K M F H (some (d', o') :: some (d, o) :: es) (some v' :: some v :: vs) := by
  obtain ⟨fp, r, n, f, e⟩ := h
  cases r with
  | slot a r =>
    cases r with
    | slot b r =>
      rename_i f1 f2 f3
      have p : (f2 ++ (f1 ++ f3)).Perm (f1 ++ (f2 ++ f3)) := List.perm_append_comm_assoc f2 f1 f3
      exact ⟨_, .slot b (.slot a r), p.nodup_iff.mpr n, fun x hx => f x (p.mem_iff.mp hx), e⟩
theorem Sta.last (h : Sta K M F H (some (d, o) :: es) (some v :: vs)) : Sta K M F H (es ++ [some (d, o)]) (vs ++ [some v]) := by
  obtain ⟨fp, r, n, f, e⟩ := h
  cases r with
  | slot a r =>
    rename_i f1 f2
    have p : (f2 ++ (f1 ++ [])).Perm (f1 ++ f2) := by
      rw [List.append_nil]
      exact List.perm_append_comm
    exact ⟨_, r.app (.slot a .nil), p.nodup_iff.mpr n, fun x hx => f x (p.mem_iff.mp hx), e⟩
theorem Sta.mid {as bs : List Sl} {us ws : List (Option V)} (h : Sta K M F H (as ++ Option.some (d, o) :: bs) (us ++ Option.some v :: ws)) (hl : as.length = us.length) : Sta K M F H (Option.some (d, o) :: (as ++ bs)) (Option.some v :: (us ++ ws)) := by
  obtain ⟨fp, r, n, f, e⟩ := h
  obtain ⟨f1, f2, rfl, a, b⟩ := r.cut hl
  cases b with
  | slot q b =>
    rename_i f3 f4
    have p : (f3 ++ (f1 ++ f4)).Perm (f1 ++ (f3 ++ f4)) := List.perm_append_comm_assoc f3 f1 f4
    exact ⟨_, .slot q (a.app b), p.nodup_iff.mpr n, fun x hx => f x (p.mem_iff.mp hx), e⟩
/-- a slot's thing is settled -/
theorem Sta.settleAt {i : Nat} (h : Sta K M F H es vs) (e : es[i]? = some (some (d, o))) : ∃ F' v, Same F F' ∧ vs[i]? = some (some v) ∧ Rep K M F' d v ∧ Sta K M F' H (es.set i (some (d, false))) vs := by
  obtain ⟨v, a, z⟩ := h.take e
  obtain ⟨F', s, r, z'⟩ := z.settle
  have hi : i < es.length := (List.getElem?_eq_some_iff.mp e).1
  have q := (z'.push r).put (i := i) (by simpa using hi)
  rw [List.set_set, set_same_of a] at q
  exact ⟨F', v, s, a, r, q⟩
end
end PL
/-! PLExp: what an expression's reckoning promises of the machine: words, and the operators by values. -/
namespace PL
open PySem PySem.Spec PyProof.Rows L2

theorem lim_line : LIM ≤ sizeLine := by decide
theorem lim_le {n : Nat} (h : n ≤ LIM) : n ≤ sizeLine := Nat.le_trans h lim_line
theorem lim_lt {n : Nat} (h : n < LIM) : n < sizeLine := Nat.lt_of_lt_of_le h lim_line

theorem _root_.L2.PE.imp {X : Cx} {e : Expr} {t t' : TE} (h : PE X e t) (k : ∀ σ H Q, t' σ H Q → t σ H Q) : PE X e t' := ⟨fun pins s σ H Q I q => h.run pins s σ H Q I (k _ _ _ q)⟩
theorem _root_.L2.PT.imp {X : Cx} {e : Expr} {t t' : TT} (h : PT X e t) (k : ∀ σ H Q, t' σ H Q → t σ H Q) : PT X e t' := ⟨fun pins s σ H Q I q => h.run pins s σ H Q I (k _ _ _ q)⟩
theorem _root_.L2.PW.imp {X : Cx} {e : Expr} {t t' : TT} (h : PW X e t) (k : ∀ σ H Q, t' σ H Q → t σ H Q) : PW X e t' := ⟨fun w pins s σ H Q I q => h.run w pins s σ H Q I (k _ _ _ q)⟩
theorem _root_.L2.PA.imp {X : Cx} {e : List Expr} {t t' : TA} (h : PA X e t) (k : ∀ σ H Q, t' σ H Q → t σ H Q) : PA X e t' := ⟨fun p pins s σ H Q I q => h.run p pins s σ H Q I (k _ _ _ q)⟩
theorem _root_.L2.PS.imp {X : Cx} {e : Stmt} {t t' : TS} (h : PS X e t) (k : ∀ D σ H, t' D σ H → t D σ H) : PS X e t' := ⟨fun pins s σ H D I q => h.run pins s σ H D I (k _ _ _ q)⟩
theorem _root_.L2.PSs.imp {X : Cx} {e : List Stmt} {t t' : TS} (h : PSs X e t) (k : ∀ D σ H, t' D σ H → t D σ H) : PSs X e t' := ⟨fun pins s σ H D I q => h.run pins s σ H D I (k _ _ _ q)⟩
theorem _root_.L2.PI.imp {X : Cx} {tg e : Expr} {t t' : TI} (h : PI X tg e t) (k : ∀ σ H Q, t' σ H Q → t σ H Q) : PI X tg e t' := ⟨fun pins s σ H Q I q => h.run pins s σ H Q I (k _ _ _ q)⟩
theorem _root_.L2.PO.imp {X : Cx} {e : Option Expr} {t t' : TO} (h : PO X e t) (k : ∀ σ H Q, t' σ H Q → t σ H Q) : PO X e t' := ⟨fun pins s σ H Q I q => h.run pins s σ H Q I (k _ _ _ q)⟩

section
variable (K : PySem.W.Frag) (M : Nm) (Γ : Ctx) (call : Nat → List (D × Bool) → CRes)

/-- an exception's class and dict, by what it is -/
def RepX (F : Hp) (x : Exn) (cls : Value) (d : Option Addr) : Prop :=
  cls = .ref (M.cl x.cls) ∧ ((x.val = .non ∧ d = none) ∨ ∃ (dd : Addr) (fs : List (Str × V)) (v : V), x.val ≠ .non ∧ d = some dd ∧ F dd = some (.xd fs) ∧ fs.lookup (M.xf x.cls) = some v ∧ Rep K M F x.val v)
/-- from a reckoning's result: what is then to hold -/
def PostE (W : WX) (F : Hp) (ext : List Sl) (xv : List (Option V)) (σ : L2.St) (r : Res (D × Bool)) (Q : VK) : Prop :=
  match r with
  | .ok r env' => ∀ v F' H', Same F F' → Sta K M F' H' (some r :: (ext ++ env')) (some v :: (xv ++ σ)) → Q v H'
  | .exc x env' => ∀ cls d F' H', Same F F' → RepX K M F' x cls d → Sta K M F' H' (ext ++ env') (xv ++ σ) → W cls d σ H'
  | .err => False
/-- nothing is let out -/
def WF : WX := fun _ _ _ _ => False
/-- the same, the result settled -/
def SetE {α : Type} (F : Hp) (ext : List Sl) (xv : List (Option V)) (σ : L2.St) (r : Res α) (g : α → D) (Q : VK) : Prop :=
  match r with
  | .ok r env' => ∀ v F' H', Same F F' → Rep K M F' (g r) v → Sta K M F' H' (ext ++ env') (xv ++ σ) → Q v H'
  | _ => False
def PostA (F : Hp) (ext : List Sl) (xv : List (Option V)) (σ : L2.St) (r : Res (List D)) (Q : List V → Hp → Prop) : Prop :=
  match r with
  | .ok ds env' => ∀ vs F' H', Same F F' → Reps K M F' ds vs → Sta K M F' H' (ext ++ env') (xv ++ σ) → Q vs H'
  | _ => False
def PostT (F : Hp) (ext : List Sl) (xv : List (Option V)) (σ : L2.St) (r : Res (D × Bool)) (Q : Bool → Hp → Prop) : Prop :=
  match r with
  | .ok (.bl b, _) env' => ∀ F' H', Same F F' → Sta K M F' H' (ext ++ env') (xv ++ σ) → Q b H'
  | _ => False
def PostO (F : Hp) (ext : List Sl) (xv : List (Option V)) (σ : L2.St) (r : Res (Option Int)) (Q : Option Int → Hp → Prop) : Prop :=
  match r with
  | .ok o env' => ∀ F' H', Same F F' → Sta K M F' H' (ext ++ env') (xv ++ σ) → Q o H'
  | _ => False

def TEv (W : WX) (e : E) : TE := fun σ H Q => ∃ F ext xv env, Sta K M F H (ext ++ env) (xv ++ σ) ∧ ext.length = xv.length ∧ PostE K M W F ext xv σ (ev Γ call e env) Q
def TEs (es : Es) : TA := fun σ H Q => ∃ F ext xv env, Sta K M F H (ext ++ env) (xv ++ σ) ∧ ext.length = xv.length ∧ PostA K M F ext xv σ (evs Γ call es env) Q
def TTt (e : E) : TT := fun σ H Q => ∃ F ext xv env, Sta K M F H (ext ++ env) (xv ++ σ) ∧ ext.length = xv.length ∧ PostT K M F ext xv σ (ev Γ call e env) Q
def TOo (o : O) : TO := fun σ H Q => ∃ F ext xv env, Sta K M F H (ext ++ env) (xv ++ σ) ∧ ext.length = xv.length ∧ PostO K M F ext xv σ (evo Γ call o env) Q
end

section
variable {K : PySem.W.Frag} {M : Nm} {Γ : Ctx} {call : Nat → List (D × Bool) → CRes} {F H : Hp} {ext : List Sl} {xv : List (Option V)} {σ : L2.St} {env : Fm} {W : WX}

theorem post_bind {α : Type} {r : Res α} {f : α → Fm → Res (D × Bool)} {Q : VK} (h : PostE K M W F ext xv σ (r.bind f) Q) : ∃ a e, r = .ok a e ∧ PostE K M W F ext xv σ (f a e) Q := by
  cases r with
  | ok a e => exact ⟨a, e, rfl, h⟩
  | exc x e => exact h.elim
  | err => exact h.elim
theorem postA_bind {α : Type} {r : Res α} {f : α → Fm → Res (List D)} {Q : List V → Hp → Prop} (h : PostA K M F ext xv σ (r.bind f) Q) : ∃ a e, r = .ok a e ∧ PostA K M F ext xv σ (f a e) Q := by
  cases r with
  | ok a e => exact ⟨a, e, rfl, h⟩
  | exc x e => exact h.elim
  | err => exact h.elim
theorem postT_bind {α : Type} {r : Res α} {f : α → Fm → Res (D × Bool)} {Q : Bool → Hp → Prop} (h : PostT K M F ext xv σ (r.bind f) Q) : ∃ a e, r = .ok a e ∧ PostT K M F ext xv σ (f a e) Q := by
  cases r with
  | ok a e => exact ⟨a, e, rfl, h⟩
  | exc x e => exact h.elim
  | err => exact h.elim
theorem postO_bind {α : Type} {r : Res α} {f : α → Fm → Res (Option Int)} {Q : Option Int → Hp → Prop} (h : PostO K M F ext xv σ (r.bind f) Q) : ∃ a e, r = .ok a e ∧ PostO K M F ext xv σ (f a e) Q := by
  cases r with
  | ok a e => exact ⟨a, e, rfl, h⟩
  | exc x e => exact h.elim
  | err => exact h.elim
theorem post_lift {o : Option (D × Bool)} {e : Fm} {Q : VK} (h : PostE K M W F ext xv σ (Res.lift o e) Q) : ∃ a, o = some a ∧ PostE K M W F ext xv σ (.ok a e) Q := by
  cases o with
  | some a => exact ⟨a, rfl, h⟩
  | none => exact h.elim

/-- a part is reckoned, its result settled -/
theorem T_sub {e : E} {R : VK} (st : Sta K M F H (ext ++ env) (xv ++ σ)) (hl : ext.length = xv.length) {x : D × Bool} {e1 : Fm} (h1 : ev Γ call e env = .ok x e1)
    (k : ∀ v F' H', Same F F' → Rep K M F' x.1 v → Sta K M F' H' (ext ++ e1) (xv ++ σ) → R v H') : TEv K M Γ call W e σ H R := by
  refine ⟨F, ext, xv, env, st, hl, ?_⟩
  rw [h1]
  intro v F' H' s st'
  obtain ⟨d, o⟩ := x
  obtain ⟨F'', s2, r, st2⟩ := st'.settle
  exact k v F'' H' (s.trans s2) r st2
theorem T_keep {e : E} {R : VK} (st : Sta K M F H (ext ++ env) (xv ++ σ)) (hl : ext.length = xv.length) {x : D × Bool} {e1 : Fm} (h1 : ev Γ call e env = .ok x e1)
    (k : ∀ v F' H', Same F F' → Sta K M F' H' (some x :: (ext ++ e1)) (some v :: (xv ++ σ)) → R v H') : TEv K M Γ call W e σ H R := by
  refine ⟨F, ext, xv, env, st, hl, ?_⟩
  rw [h1]
  exact k
theorem Ts_sub {es : Es} {R : List V → Hp → Prop} (st : Sta K M F H (ext ++ env) (xv ++ σ)) (hl : ext.length = xv.length) {x : List D} {e1 : Fm} (h1 : evs Γ call es env = .ok x e1)
    (k : ∀ vs F' H', Same F F' → Reps K M F' x vs → Sta K M F' H' (ext ++ e1) (xv ++ σ) → R vs H') : TEs K M Γ call es σ H R := by
  refine ⟨F, ext, xv, env, st, hl, ?_⟩
  rw [h1]
  exact k
theorem Tt_sub {e : E} {R : Bool → Hp → Prop} (st : Sta K M F H (ext ++ env) (xv ++ σ)) (hl : ext.length = xv.length) {b o : Bool} {e1 : Fm} (h1 : ev Γ call e env = .ok (.bl b, o) e1)
    (k : ∀ F' H', Same F F' → Sta K M F' H' (ext ++ e1) (xv ++ σ) → R b H') : TTt K M Γ call e σ H R := by
  refine ⟨F, ext, xv, env, st, hl, ?_⟩
  rw [h1]
  exact k
theorem To_sub {e : O} {R : Option Int → Hp → Prop} (st : Sta K M F H (ext ++ env) (xv ++ σ)) (hl : ext.length = xv.length) {b : Option Int} {e1 : Fm} (h1 : evo Γ call e env = .ok b e1)
    (k : ∀ F' H', Same F F' → Sta K M F' H' (ext ++ e1) (xv ++ σ) → R b H') : TOo K M Γ call e σ H R := by
  refine ⟨F, ext, xv, env, st, hl, ?_⟩
  rw [h1]
  exact k
end

/-! ### operators by values -/
section
variable {K : PySem.W.Frag} {M : Nm} {F H : Hp} {es : List Sl} {vs : List (Option V)}

theorem rep_int {i : Int} {v : V} (h : Rep K M F (.int i) v) : v = .int i := by
  cases h
  rfl
theorem rep_bl {i : Bool} {v : V} (h : Rep K M F (.bl i) v) : v = .bl i := by
  cases h
  rfl
theorem rep_non {v : V} (h : Rep K M F .non v) : v = .non := by
  cases h
  rfl
theorem rep_str {i : Str} {v : V} (h : Rep K M F (.str i) v) : v = .str i := by
  cases h
  rfl
theorem rep_tup {l : List D} {v : V} (h : Rep K M F (.tup l) v) : ∃ a ws, v = .ref a ∧ SqT K F a ws ∧ ws.length ≤ LIM ∧ Reps K M F l ws := by
  cases h with
  | tup a b c => exact ⟨_, _, rfl, a, b, c⟩
theorem rep_lst {l : List D} {v : V} (h : Rep K M F (.lst l) v) : ∃ a ws, v = .ref a ∧ F a = some (.lst ws) ∧ ws.length ≤ LIM ∧ Reps K M F l ws := by
  cases h with
  | lst a b c => exact ⟨_, _, rfl, a, b, c⟩

/-- what is wanted behind an operation -/
abbrev Aft (K : PySem.W.Frag) (M : Nm) (F : Hp) (es : List Sl) (vs : List (Option V)) (z : D × Bool) (Q : VK) : Prop := ∀ u F' H', Same F F' → Sta K M F' H' (some z :: es) (some u :: vs) → Q u H'
theorem aft_at {z : D} {u : V} {Q : VK} (st : Sta K M F H es vs) (r : Rep K M F z u) (k : Aft K M F es vs (z, false) Q) : Q u H := k u F H (Same.refl F) (st.push r)
theorem aft_tup {l : List D} {ws : List V} {Q : VK} (st : Sta K M F H es vs) (r : Reps K M F l ws) (z : ws.length ≤ LIM) (k : Aft K M F es vs (.tup l, false) Q) : ∀ p, H p = none → Q (.ref p) (upd H p (.tup ws)) := fun p hp => by
  have s := st.new (ob := .tup ws) hp
  have sf : Same F (upd F p (.tup ws)) := same_new (st.free hp)
  exact k _ _ _ sf (s.push (.tup (.inl (.inl upd_same)) z (r.mono sf)))
theorem aft_lst {l : List D} {ws : List V} {Q : VK} (st : Sta K M F H es vs) (r : Reps K M F l ws) (z : ws.length ≤ LIM) (k : Aft K M F es vs (.lst l, true) Q) : ∀ p, H p = none → Q (.ref p) (upd H p (.lst ws)) := fun p hp =>
  k _ _ _ (Same.refl F) (st.newL hp r z)

def bop : BOp → Operator
  | .add => .Add | .sub => .Sub | .mul => .Mult | .div => .FloorDiv | .mod => .Mod | .pow => .Pow
/-- a row, a text, a tuple one time is itself -/
def rB (K : PySem.W.Frag) : BOp → R2
  | .add => fun x y H Q => rI0 (fun i j => .int (i + j)) x y H Q ∨ rCatA K x y H Q ∨ rCat x y H Q
  | .sub => rI0 fun i j => .int (i - j)
  | .mul => fun x y H Q => rI CMul (fun i j => .int (i * j)) x y H Q ∨ rI CMulW (fun i j => .int (i * j)) x y H Q ∨ rRep x y H Q ∨ rRepT K x y H Q
  | .div => rI CDivW fun i j => .int (i / j)
  | .mod => rI (fun _ j => 0 < j) fun i j => .int (i % j)
  | .pow => rI CPow fun i j => .int (i ^ j.toNat)
theorem op_bin {X : Cx} : ∀ op, OpR X (binaryOp (bop op)) (rB X.K op)
  | .add => op_add.or (op_catA.or op_cat)
  | .sub => op_sub
  | .mul => op_mul.or (op_mulW.or (op_rep.or op_repT))
  | .div => op_fdivW
  | .mod => op_mod
  | .pow => op_pow

theorem Reps.rep {l : List D} {ws : List V} (h : Reps K M F l ws) : ∀ k : Nat, Reps K M F (List.replicate k l).flatten (List.replicate k ws).flatten
  | 0 => .nil
  | k + 1 => by
    rw [List.replicate_succ, List.replicate_succ, List.flatten_cons, List.flatten_cons]
    exact h.app (Reps.rep h k)
theorem Reps.nil_iff {l : List D} {ws : List V} (h : Reps K M F l ws) : l = [] ↔ ws = [] := by
  cases h with
  | nil => simp
  | cons _ _ => simp
theorem len_rep_flat {α : Type} (l : List α) : ∀ k : Nat, (List.replicate k l).flatten.length = k * l.length
  | 0 => by simp
  | k + 1 => by
    rw [List.replicate_succ, List.flatten_cons, List.length_append, len_rep_flat l k, Nat.succ_mul, Nat.add_comm]

theorem bin_ok {op : BOp} {x y : D} {z : D × Bool} {v w : V} {Q : VK} (st : Sta K M F H es vs) (rx : Rep K M F x v) (ry : Rep K M F y w) (h : biD op x y = some z) (k : Aft K M F es vs z Q) (k2 : op = .mul → ∀ l j, x = .tup l → y = .int j → 2 ≤ j) : rB K op v w H Q := by
  have sm := st.same
  cases op with
  | add =>
    cases x <;> cases y <;> simp only [biD, reduceCtorEq, Option.some.injEq] at h
    · subst h
      cases rep_int rx
      cases rep_int ry
      exact .inl ⟨_, _, rfl, rfl, aft_at st (.int _) k⟩
    · split at h
      · rename_i l m hl
        cases h
        obtain ⟨a, us, rfl, h1, z1, r1⟩ := rep_tup rx
        obtain ⟨b, ws, rfl, h2, z2, r2⟩ := rep_tup ry
        have e1 := r1.len
        have e2 := r2.len
        refine .inr (.inl ⟨a, b, us, ws, rfl, rfl, same_sqT sm h1, same_sqT sm h2, lim_le (by omega), fun e => ?_, fun e1 e2 => ?_, fun _ _ => ?_⟩)
        · have q := r1.nil_iff.mpr e
          subst q
          exact aft_at st ry k
        · have q := r2.nil_iff.mpr e2
          subst q
          rw [List.append_nil] at k
          exact aft_at st rx k
        · exact aft_tup st (r1.app r2) (by rw [List.length_append]; omega) k
      · cases h
    · split at h
      · rename_i l m hl
        cases h
        obtain ⟨a, us, rfl, h1, z1, r1⟩ := rep_lst rx
        obtain ⟨b, ws, rfl, h2, z2, r2⟩ := rep_lst ry
        have e1 := r1.len
        have e2 := r2.len
        exact .inr (.inr ⟨a, b, us, ws, rfl, rfl, sm _ _ h1, sm _ _ h2, lim_le (by omega), aft_lst st (r1.app r2) (by rw [List.length_append]; omega) k⟩)
      · cases h
  | sub =>
    cases x <;> cases y <;> simp only [biD, reduceCtorEq, Option.some.injEq] at h
    subst h
    cases rep_int rx
    cases rep_int ry
    exact ⟨_, _, rfl, rfl, aft_at st (.int _) k⟩
  | mul =>
    cases x <;> cases y <;> simp only [biD, reduceCtorEq, Option.some.injEq] at h
    · split at h
      · rename_i hm
        cases h
        cases rep_int rx
        cases rep_int ry
        have q := aft_at st (.int _) k
        rcases hm with hm | hm | hm
        · exact .inl ⟨_, _, rfl, rfl, .inl hm, q⟩
        · exact .inl ⟨_, _, rfl, rfl, .inr hm, q⟩
        · exact .inr (.inl ⟨_, _, rfl, rfl, hm, q⟩)
      · cases h
    · split at h
      · rename_i l m hl
        cases h
        obtain ⟨h0, h1, h2, h3⟩ := hl
        obtain ⟨a, us, rfl, h4, z1, r1⟩ := rep_tup rx
        cases rep_int ry
        have e1 := r1.len
        have hz : (List.replicate m.toNat us).flatten.length ≤ LIM := by
          rw [len_rep_flat]
          have : m.toNat * us.length ≤ 1000 * 1000 := Nat.mul_le_mul (by omega) (by omega)
          exact this
        exact .inr (.inr (.inr ⟨a, m, us, rfl, rfl, same_sqT sm h4, fun e => h3 (r1.nil_iff.mpr e), k2 rfl _ _ rfl rfl, h1, by omega, aft_tup st (r1.rep _) hz k⟩))
      · cases h
    · split at h
      · rename_i l m hl
        cases h
        obtain ⟨h0, h1, h2⟩ := hl
        obtain ⟨a, us, rfl, h4, z1, r1⟩ := rep_lst rx
        cases rep_int ry
        have e1 := r1.len
        have hz : (List.replicate m.toNat us).flatten.length ≤ LIM := by
          rw [len_rep_flat]
          have : m.toNat * us.length ≤ 1000 * 1000 := Nat.mul_le_mul (by omega) (by omega)
          exact this
        refine .inr (.inr (.inl ⟨a, m, us, rfl, rfl, sm _ _ h4, by omega, by omega, ?_, aft_lst st (r1.rep _) hz k⟩))
        rw [len_rep_flat, Nat.mul_comm] at hz
        exact lim_le hz
      · cases h
  | div =>
    cases x <;> cases y <;> simp only [biD, reduceCtorEq, Option.some.injEq] at h
    split at h
    · rename_i hm
      cases h
      cases rep_int rx
      cases rep_int ry
      exact ⟨_, _, rfl, rfl, hm, aft_at st (.int _) k⟩
    · cases h
  | mod =>
    cases x <;> cases y <;> simp only [biD, reduceCtorEq, Option.some.injEq] at h
    split at h
    · rename_i hm
      cases h
      cases rep_int rx
      cases rep_int ry
      exact ⟨_, _, rfl, rfl, hm, aft_at st (.int _) k⟩
    · cases h
  | pow =>
    cases x <;> cases y <;> simp only [biD, reduceCtorEq, Option.some.injEq] at h
    split at h
    · rename_i hm
      cases h
      cases rep_int rx
      cases rep_int ry
      exact ⟨_, _, rfl, rfl, hm, aft_at st (.int _) k⟩
    · cases h
end
end PL
/-! PLVal: comparisons, subscripts, slices, built-in functions, by values. -/
namespace PL
open PySem PySem.Spec PyProof.Rows L2

/-! ### data as the library's data -/
mutual
def toP : D → PyData
  | .non => .none
  | .bl b => .bool b
  | .int i => .int i
  | .str s => .str s
  | .tup l => .tuple (toPs l)
  | .lst l => .list (toPs l)
  | _ => .none
def toPs : List D → List PyData
  | [] => []
  | d :: r => toP d :: toPs r
end
section
variable {K : PySem.W.Frag} {M : Nm} {F H : Hp}
theorem Dpk.up : ∀ {n : Nat} {d : D}, Dpk n d → Dpk (n + 1) d
  | _, .non, _ => trivial
  | _, .bl _, _ => trivial
  | _, .int _, _ => trivial
  | n, .str s, h => by
    cases n <;> exact h
  | 0, .tup l, h => h.elim
  | 0, .lst l, h => h.elim
  | n + 1, .tup l, h => fun x hx => Dpk.up (h x hx)
  | n + 1, .lst l, h => fun x hx => Dpk.up (h x hx)
  | 0, .scr l, h => h.elim
  | n + 1, .scr l, h => h.elim
  | 0, .dic _ _, h => h.elim
  | n + 1, .dic _ _, h => h.elim
  | 0, .ins _ _ _, h => h.elim
  | n + 1, .ins _ _ _, h => h.elim
  | 0, .obj _ _, h => h.elim
  | n + 1, .obj _ _, h => h.elim
mutual
theorem dp_of (e : Same F H) : ∀ (n : Nat) {d : D} {v : V}, Dpk n d → Rep K M F d v → Dp K H v (toP d)
  | _, _, _, _, .non => .non
  | _, _, _, _, .bl b => .bl b
  | _, _, _, _, .int i => .int i
  | _, _, _, _, .str s => .str s
  | 0, _, _, h, .tup _ _ _ => h.elim
  | 0, _, _, h, .lst _ _ _ => h.elim
  | n + 1, _, _, h, .tup a _ r => .tup (same_sqT e a) (dps_of e n h r)
  | n + 1, _, _, h, .lst a _ r => .lst (.inl (.inl (e _ _ a))) (dps_of e n h r)
  | 0, _, _, h, .scr _ _ => h.elim
  | n + 1, _, _, h, .scr _ _ => h.elim
  | 0, _, _, h, .dic _ _ _ => h.elim
  | n + 1, _, _, h, .dic _ _ _ => h.elim
  | 0, _, _, h, .ins _ _ _ => h.elim
  | n + 1, _, _, h, .ins _ _ _ => h.elim
  | 0, _, _, h, .obj _ => h.elim
  | n + 1, _, _, h, .obj _ => h.elim
theorem dps_of (e : Same F H) : ∀ (n : Nat) {ds : List D} {vs : List V}, (∀ x ∈ ds, Dpk n x) → Reps K M F ds vs → DpAll K H vs (toPs ds)
  | _, _, _, _, .nil => .nil
  | n, _, _, h, .cons a r => .cons (dp_of e n (h _ (by simp)) a) (dps_of e n (fun x hx => h x (by simp [hx])) r)
end
mutual
theorem lay_of : ∀ (n : Nat) {d : D}, Dpk n d → (toP d).canLay0 = true ∧ (toP d).depth ≤ n
  | _, .non, _ => ⟨rfl, Nat.zero_le _⟩
  | _, .bl _, _ => ⟨rfl, Nat.zero_le _⟩
  | _, .int _, _ => ⟨rfl, Nat.zero_le _⟩
  | n, .str s, h => by
    refine ⟨?_, Nat.zero_le _⟩
    cases n <;> exact h
  | 0, .tup _, h => h.elim
  | 0, .lst _, h => h.elim
  | n + 1, .tup l, h => by
    obtain ⟨a, b⟩ := lays_of n (ds := l) h
    exact ⟨a, Nat.succ_le_succ b⟩
  | n + 1, .lst l, h => by
    obtain ⟨a, b⟩ := lays_of n (ds := l) h
    exact ⟨a, Nat.succ_le_succ b⟩
  | 0, .scr _, h => h.elim
  | n + 1, .scr _, h => h.elim
  | 0, .dic _ _, h => h.elim
  | n + 1, .dic _ _, h => h.elim
  | 0, .ins _ _ _, h => h.elim
  | n + 1, .ins _ _ _, h => h.elim
  | 0, .obj _ _, h => h.elim
  | n + 1, .obj _ _, h => h.elim
theorem lays_of : ∀ (n : Nat) {ds : List D}, (∀ x ∈ ds, Dpk n x) → PyData.canLayAll0 (toPs ds) = true ∧ PyData.depthAll (toPs ds) ≤ n
  | _, [], _ => ⟨rfl, Nat.zero_le _⟩
  | n, d :: r, h => by
    obtain ⟨a, b⟩ := lay_of n (h d (by simp))
    obtain ⟨a2, b2⟩ := lays_of n (ds := r) fun x hx => h x (by simp [hx])
    refine ⟨?_, ?_⟩
    · show ((toP d).canLay0 && PyData.canLayAll0 (toPs r)) = true
      rw [a, a2] <;> rfl
    · show max (toP d).depth (PyData.depthAll (toPs r)) ≤ n
      omega
end
theorem shaped_of {d : D} (h : Dpk 16 d) : SeqAt.shaped (toP d) = true := by
  obtain ⟨a, b⟩ := lay_of 16 h
  unfold SeqAt.shaped
  rw [a, decide_eq_true (Nat.le_trans b (by decide))] <;> rfl
mutual
theorem eqv_of : ∀ (n : Nat) {a b : D}, Dpk n a → Dpk n b → PyData.eqv (toP a) (toP b) = eqb a b
  | n, a, b, ha, hb => by
    cases n with
    | zero =>
      cases a <;> first | exact ha.elim | (cases b <;> first | exact hb.elim | rfl)
    | succ n =>
      cases a <;> first | exact ha.elim | (cases b <;> first | exact hb.elim | rfl | exact eqvs_of n ha hb)
theorem eqvs_of : ∀ (n : Nat) {a b : List D}, (∀ x ∈ a, Dpk n x) → (∀ x ∈ b, Dpk n x) → PyData.eqvAll (toPs a) (toPs b) = eqbs a b
  | _, [], [], _, _ => rfl
  | _, [], _ :: _, _, _ => rfl
  | _, _ :: _, [], _, _ => rfl
  | n, x :: xs, y :: ys, h, h' => by
    show (PyData.eqv (toP x) (toP y) && PyData.eqvAll (toPs xs) (toPs ys)) = (eqb x y && eqbs xs ys)
    rw [eqv_of n (h x (by simp)) (h' y (by simp)), eqvs_of n (fun z hz => h z (by simp [hz])) fun z hz => h' z (by simp [hz])]
end
theorem any_of {n : Nat} {a : D} (ha : Dpk n a) : ∀ {l : List D}, (∀ x ∈ l, Dpk n x) → ((toPs l).any fun z => PyData.eqv z (toP a)) = l.any fun z => eqb z a
  | [], _ => rfl
  | x :: r, h => by
    show (PyData.eqv (toP x) (toP a) || (toPs r).any _) = (eqb x a || r.any _)
    rw [eqv_of n (h x (by simp)) ha, any_of ha fun z hz => h z (by simp [hz])]

/-! ### comparisons -/
/-- a flat thing as a value -/
def flV : D → V
  | .non => .non
  | .bl b => .bl b
  | .int i => .int i
  | .str s => .str s
  | _ => .non
theorem rep_flat {d : D} {v : V} (h : Rep K M F d v) (f : flat d = true) : v = flV d ∧ flatV v = true := by
  cases h <;> first | exact ⟨rfl, rfl⟩ | cases f
theorem reps_flat : ∀ {ds : List D} {vs : List V}, Reps K M F ds vs → ds.all flat = true → vs.all flatV = true
  | _, _, .nil, _ => rfl
  | _, _, .cons h r, f => by
    simp only [List.all_cons, Bool.and_eq_true] at f ⊢
    exact ⟨(rep_flat h f.1).2, reps_flat r f.2⟩
theorem eqV_flat {a b : D} {v w : V} (ha : Rep K M F a v) (hb : Rep K M F b w) (fa : flat a = true) (fb : flat b = true) : eqV v w = eqb a b := by
  cases ha <;> first | (simp [flat] at fa; done) | (cases hb <;> first | (simp [flat] at fb; done) | rfl)
theorem inV_flat {a : D} {v : V} (ha : Rep K M F a v) (fa : flat a = true) : ∀ {ds : List D} {vs : List V}, Reps K M F ds vs → ds.all flat = true → inV v vs = ds.any fun z => eqb z a
  | _, _, .nil, _ => rfl
  | _, _, .cons h r, f => by
    simp only [List.all_cons, Bool.and_eq_true] at f
    have q := inV_flat ha fa r f.2
    unfold inV at q ⊢
    simp only [List.any_cons]
    rw [eqV_flat h ha f.1 fa, q]

def cop : COp → CmpOp
  | .eq => .Eq | .ne => .NotEq | .lt => .Lt | .le => .LtE | .gt => .Gt | .ge => .GtE | .isN => .Is | .notN => .IsNot | .inn => .In | .nin => .NotIn
def rC (K : PySem.W.Frag) : COp → R2
  | .eq => rEqD K
  | .ne => rNeD K
  | .lt => rI0 fun i j => .bl (decide (i < j))
  | .le => rI0 fun i j => .bl (decide (i ≤ j))
  | .gt => rI0 fun i j => .bl (decide (j < i))
  | .ge => rI0 fun i j => .bl (decide (j ≤ i))
  | .isN => fun x y H Q => y = .non ∧ Q (.bl (decide (x = .non))) H
  | .notN => fun x y H Q => y = .non ∧ Q (.bl (!decide (x = .non))) H
  | .inn => fun x y H Q => rInD K x y H Q ∨ rIn K false x y H Q ∨ ∃ (c : Nat) (z : Str), x = .str ⟨#[c]⟩ ∧ y = .str z ∧ Q (.bl (decide (c ∈ z.cps.toList))) H
  | .nin => fun x y H Q => rNotInD K x y H Q ∨ rIn K true x y H Q ∨ ∃ (c : Nat) (z : Str), x = .str ⟨#[c]⟩ ∧ y = .str z ∧ Q (.bl (!decide (c ∈ z.cps.toList))) H
theorem op_cop {X : Cx} (hu : X.A.units + 65 < cLine) : ∀ op, OpR X (compareOp (cop op)) (rC X.K op)
  | .eq => op_eqD (by omega)
  | .ne => op_neD (by omega)
  | .lt => op_lt
  | .le => op_le
  | .gt => op_gt
  | .ge => op_ge
  | .isN => op_isN
  | .notN => op_notN
  | .inn => (op_inD hu).or (op_in_seq.or op_in_sign)
  | .nin => (op_notInD hu).or (op_notIn_seq.or op_notIn_sign)
def isDic : D → Bool
  | .dic _ _ => true
  | _ => false
theorem non_iff {x : D} {v : V} (h : Rep K M F x v) : decide (v = .non) = isNon x := by
  cases h <;> simp [isNon]

/-- the left thing is to be read now (ours, or settled) -/
inductive Pk (K : PySem.W.Frag) (M : Nm) (F H : Hp) : D → V → Prop where
  | rep {d : D} {v : V} (h : Rep K M F d v) : Pk K M F H d v
  | lst {a : Addr} {l : List D} {vs : List V} (h : H a = some (.lst vs)) (z : vs.length ≤ LIM) (r : Reps K M F l vs) : Pk K M F H (.lst l) (.ref a)
theorem pk_of {d : D} {o : Bool} {v : V} {fp : List Addr} (h : RepO K M F H d o v fp) (hi : (∀ c fs vs, d ≠ .ins c fs vs) ∧ ∀ a o, d ≠ .obj a o) : Pk K M F H d v := by
  cases h with
  | fz h => exact .rep h
  | lst h z r => exact .lst h z r
  | ins h e r => exact (hi.1 _ _ _ rfl).elim
  | obj h e => exact (hi.2 _ _ rfl).elim
theorem pk_dp (e : Same F H) {d : D} {v : V} (h : Dpk 16 d) (p : Pk K M F H d v) : Dp K H v (toP d) := by
  cases p with
  | rep r => exact dp_of e 16 h r
  | lst a z r => exact .lst (.inl (.inl a)) (dps_of e 15 h r)
theorem str_one {a : Str} {c : Nat} (h : a.cps.toList = [c]) : a = ⟨#[c]⟩ := by
  cases a with
  | mk cps =>
    congr 1
    exact Array.toList_inj.mp h
theorem cmp_ok {op : COp} {x y : D} {b : Bool} {v w : V} {Q : VK} (e : Same F H) (rx : Pk K M F H x v) (ry : Rep K M F y w) (h : cmD op x y = some b) (hd : isDic y = false) (k : Q (.bl b) H) : rC K op v w H Q := by
  cases op with
  | eq =>
    simp only [cmD] at h
    split at h
    · rename_i hh
      cases h
      refine ⟨toP x, toP y, pk_dp e hh.1 rx, dp_of e 16 hh.2 ry, shaped_of hh.1, shaped_of hh.2, ?_⟩
      rw [eqv_of 16 hh.1 hh.2]
      exact k
    · cases h
  | ne =>
    simp only [cmD] at h
    split at h
    · rename_i hh
      cases h
      refine ⟨toP x, toP y, pk_dp e hh.1 rx, dp_of e 16 hh.2 ry, shaped_of hh.1, shaped_of hh.2, ?_⟩
      rw [eqv_of 16 hh.1 hh.2]
      exact k
    · cases h
  | lt =>
    cases x <;> cases y <;> simp only [cmD, reduceCtorEq, Option.some.injEq] at h
    subst h
    cases rx with
    | rep rx =>
      cases rep_int rx
      cases rep_int ry
      exact ⟨_, _, rfl, rfl, k⟩
  | le =>
    cases x <;> cases y <;> simp only [cmD, reduceCtorEq, Option.some.injEq] at h
    subst h
    cases rx with
    | rep rx =>
      cases rep_int rx
      cases rep_int ry
      exact ⟨_, _, rfl, rfl, k⟩
  | gt =>
    cases x <;> cases y <;> simp only [cmD, reduceCtorEq, Option.some.injEq] at h
    subst h
    cases rx with
    | rep rx =>
      cases rep_int rx
      cases rep_int ry
      exact ⟨_, _, rfl, rfl, k⟩
  | ge =>
    cases x <;> cases y <;> simp only [cmD, reduceCtorEq, Option.some.injEq] at h
    subst h
    cases rx with
    | rep rx =>
      cases rep_int rx
      cases rep_int ry
      exact ⟨_, _, rfl, rfl, k⟩
  | isN =>
    cases y <;> simp only [cmD, reduceCtorEq, Option.some.injEq] at h
    refine ⟨rep_non ry, ?_⟩
    cases rx with
    | rep rx =>
      rw [non_iff rx, h]
      exact k
    | lst a z r =>
      subst h
      exact k
  | notN =>
    cases y <;> simp only [cmD, reduceCtorEq, Option.some.injEq] at h
    refine ⟨rep_non ry, ?_⟩
    cases rx with
    | rep rx =>
      rw [non_iff rx, h]
      exact k
    | lst a z r =>
      subst h
      exact k
  | inn =>
    cases y with
    | dic _ _ => cases hd
    | tup l =>
      simp only [cmD] at h
      split at h
      · rename_i hh
        cases h
        refine .inr (.inl ?_)
        cases rx with
        | lst a z r => cases hh.1
        | rep rx =>
          obtain ⟨a, ws, rfl, h1, z1, r1⟩ := rep_tup ry
          refine ⟨a, ws, rfl, .inr (same_sqT e h1), (rep_flat rx hh.1).2, reps_flat r1 hh.2, ?_⟩
          rw [if_neg Bool.false_ne_true, inV_flat rx hh.1 r1 hh.2]
          exact k
      · cases h
    | lst l =>
      simp only [cmD] at h
      split at h
      · rename_i hh
        cases h
        refine .inl ⟨toP x, toPs l, pk_dp e hh.1 rx, dp_of e 16 hh.2 ry, shaped_of hh.1, shaped_of hh.2, ?_⟩
        rw [any_of (Dpk.up hh.1 : Dpk 17 x) (fun z hz => (show Dpk 15 z from hh.2 z hz).up.up)]
        exact k
      · cases h
    | str z =>
      cases x <;> simp only [cmD, reduceCtorEq] at h
      cases rx with
      | rep rx =>
      cases rep_str rx
      cases rep_str ry
      split at h
      · rename_i a c hc
        cases h
        obtain rfl := str_one hc
        exact .inr (.inr ⟨c, z, rfl, rfl, k⟩)
      · cases h
    | _ => cases x <;> simp only [cmD, reduceCtorEq] at h
  | nin =>
    cases y with
    | dic _ _ => cases hd
    | tup l =>
      simp only [cmD] at h
      split at h
      · rename_i hh
        cases h
        refine .inr (.inl ?_)
        cases rx with
        | lst a z r => cases hh.1
        | rep rx =>
          obtain ⟨a, ws, rfl, h1, z1, r1⟩ := rep_tup ry
          refine ⟨a, ws, rfl, .inr (same_sqT e h1), (rep_flat rx hh.1).2, reps_flat r1 hh.2, ?_⟩
          rw [if_pos rfl, inV_flat rx hh.1 r1 hh.2]
          exact k
      · cases h
    | lst l =>
      simp only [cmD] at h
      split at h
      · rename_i hh
        cases h
        refine .inl ⟨toP x, toPs l, pk_dp e hh.1 rx, dp_of e 16 hh.2 ry, shaped_of hh.1, shaped_of hh.2, ?_⟩
        rw [any_of (Dpk.up hh.1 : Dpk 17 x) (fun z hz => (show Dpk 15 z from hh.2 z hz).up.up)]
        exact k
      · cases h
    | str z =>
      cases x <;> simp only [cmD, reduceCtorEq] at h
      cases rx with
      | rep rx =>
      cases rep_str rx
      cases rep_str ry
      split at h
      · rename_i a c hc
        cases h
        obtain rfl := str_one hc
        exact .inr (.inr ⟨c, z, rfl, rfl, k⟩)
      · cases h
    | _ => cases x <;> simp only [cmD, reduceCtorEq] at h

/-! ### subscripts, slices -/
theorem ixn_eq (n : Nat) (i : Int) : ixn n i = L2.ixN n i := rfl
theorem ixS_ok {s : Str} {i : Int} {z : D} {v w : V} {Q : VK} (rx : Rep K M F (.str s) v) (ry : Rep K M F (.int i) w) (h : ixD (.str s) (.int i) = some z) (k : ∀ u, Rep K M F z u → Q u H) : rIx K v w H Q := by
  cases rep_str rx
  cases rep_int ry
  simp only [ixD] at h
  split at h
  · rename_i hl
    cases e1 : ixn s.cps.toList.length i with
    | none =>
      rw [e1] at h
      cases h
    | some j =>
      rw [e1] at h
      have h' : (s.cps.toList[j]?).map (fun c => D.str ⟨#[c]⟩) = some z := h
      cases e2 : s.cps.toList[j]? with
      | none =>
        rw [e2] at h'
        cases h'
      | some c =>
        rw [e2] at h'
        cases h'
        refine .inr (.inr ⟨s, i, c, rfl, rfl, lim_le hl, ?_, k _ (.str _)⟩)
        unfold atI
        rw [← ixn_eq, e1]
        exact e2
  · cases h
theorem ix_ok {x y z : D} {v w : V} {Q : VK} (e : Same F H) (rx : Pk K M F H x v) (ry : Rep K M F y w) (h : ixD x y = some z) (k : ∀ u, Rep K M F z u → Q u H) : rIx K v w H Q := by
  cases x <;> cases y <;> first | (simp only [ixD, reduceCtorEq] at h; done) | skip
  · cases rx with
    | rep rx => exact ixS_ok rx ry h k
  all_goals simp only [ixD] at h
  · cases rep_int ry
    cases rx with
    | rep rx =>
      obtain ⟨a, ws, rfl, h1, z1, r1⟩ := rep_tup rx
      cases e1 : ixn _ _ with
      | none =>
        rw [e1] at h
        cases h
      | some j =>
        rw [e1] at h
        obtain ⟨u, hu, ru⟩ := r1.get (show _ = some z from h)
        refine .inr (.inl ⟨a, ws, _, u, rfl, rfl, same_sqT e h1, ?_, k u ru⟩)
        unfold atI
        rw [← ixn_eq, ← r1.len, e1]
        exact hu
  · cases rep_int ry
    have go : ∀ a ws, H a = some (.lst ws) → Reps K M F _ ws → rIx K (.ref a) (.int _) H Q := fun a ws h1 r1 => by
      cases e1 : ixn _ _ with
      | none =>
        rw [e1] at h
        cases h
      | some j =>
        rw [e1] at h
        obtain ⟨u, hu, ru⟩ := r1.get (show _ = some z from h)
        refine .inl ⟨a, ws, _, u, rfl, rfl, .inl (.inl h1), ?_, k u ru⟩
        unfold atI
        rw [← ixn_eq, ← r1.len, e1]
        exact hu
    cases rx with
    | rep rx =>
      obtain ⟨a, ws, rfl, h1, z1, r1⟩ := rep_lst rx
      exact go a ws (e _ _ h1) r1
    | lst h1 z1 r1 => exact go _ _ h1 r1
  · cases rep_int ry
    cases rx with
    | rep rx =>
      cases rx with
      | scr h1 z1 =>
        rename_i l i a
        cases e1 : ixn l.length i with
        | none =>
          rw [e1] at h
          cases h
        | some j =>
          rw [e1] at h
          have h' : (l[j]?).map D.int = some z := h
          cases e2 : l[j]? with
          | none =>
            rw [e2] at h'
            cases h'
          | some m =>
            rw [e2] at h'
            cases h'
            refine .inl ⟨a, _, _, .int m, rfl, rfl, e.seq h1, ?_, k _ (.int m)⟩
            unfold atI
            rw [← ixn_eq, List.length_map, e1]
            show (l.map V.int)[j]? = _
            rw [List.getElem?_map, e2] <;> rfl
theorem clp_eq (n d : Nat) (o : Option Int) : clp n d o = HT.sIx n d o := by
  cases o <;> rfl
theorem Reps.cut {l : List D} {ws : List V} (h : Reps K M F l ws) (lo hi : Option Int) : Reps K M F (PL.cut l lo hi) (cutV ws lo hi) := by
  unfold PL.cut cutV
  rw [clp_eq, clp_eq, h.len]
  exact (h.drop _).take _
theorem sl_ok {es : List Sl} {vs : List (Option V)} {x : D} {z : D × Bool} {v : V} {lo hi : Option Int} {Q : VK} (st : Sta K M F H es vs) (rx : Rep K M F x v) (h : slD x lo hi = some z) (k : Aft K M F es vs z Q) : rSlL K v lo hi H Q ∨ rSlA K v lo hi H Q ∨ rSlS v lo hi H Q := by
  cases x <;> simp only [slD, reduceCtorEq, Option.some.injEq] at h
  · split at h
    · rename_i hl
      cases h
      cases rep_str rx
      exact .inr (.inr ⟨_, rfl, lim_le hl, aft_at st (.str _) k⟩)
    · cases h
  · cases h
    obtain ⟨a, ws, rfl, h1, z1, r1⟩ := rep_tup rx
    refine .inr (.inl ⟨a, ws, rfl, same_sqT st.same h1, fun hw => ?_, fun _ => ?_⟩)
    · have e : ∀ l : List D, l.length = ws.length → PL.cut l lo hi = l := fun l hl => by
        unfold PL.cut
        rw [clp_eq, clp_eq, hl, hw.1, hw.2, ← hl]
        simp
      rw [e _ r1.len] at k
      exact aft_at st rx k
    · exact aft_tup st (r1.cut lo hi) (Nat.le_trans (cutV_length ws lo hi) z1) k
  · cases h
    obtain ⟨a, ws, rfl, h1, z1, r1⟩ := rep_lst rx
    exact .inl ⟨a, ws, rfl, .inl (.inl (st.same _ _ h1)), aft_lst st (r1.cut lo hi) (Nat.le_trans (cutV_length ws lo hi) z1) k⟩
end
end PL
/-! PLBi: built-in functions, by values. -/
namespace PL
open PySem PySem.Spec PyProof.Rows L2
section
variable {K : PySem.W.Frag} {M : Nm} {F H : Hp}
theorem reps_ints : ∀ {l : List D} {ws : List V} {ns : List Int}, Reps K M F l ws → intsOf l = some ns → ws = ns.map V.int
  | _, _, ns, .nil, h => by
    cases h
    rfl
  | d :: r, _, ns, .cons a b, h => by
    cases d <;> simp only [intsOf, reduceCtorEq] at h
    cases e : intsOf r with
    | none =>
      rw [e] at h
      cases h
    | some ms =>
      rw [e] at h
      cases h
      rw [rep_int a, reps_ints b e]
      rfl
theorem reps_bls : ∀ {l : List D} {ws : List V} {ns : List Bool}, Reps K M F l ws → blsOf l = some ns → ws = ns.map V.bl
  | _, _, ns, .nil, h => by
    cases h
    rfl
  | d :: r, _, ns, .cons a b, h => by
    cases d <;> simp only [blsOf, reduceCtorEq] at h
    cases e : blsOf r with
    | none =>
      rw [e] at h
      cases h
    | some ms =>
      rw [e] at h
      cases h
      rw [rep_bl a, reps_bls b e]
      rfl
theorem reps_of_ints : ∀ ns : List Int, Reps K M F (ns.map D.int) (ns.map V.int)
  | [] => .nil
  | _ :: r => .cons (.int _) (reps_of_ints r)
theorem maxL_mem : ∀ {ns : List Int}, ns ≠ [] → maxL ns ∈ ns ∧ ∀ y ∈ ns, y ≤ maxL ns
  | [], h => (h rfl).elim
  | [a], _ => by simp [maxL]
  | a :: b :: r, _ => by
    obtain ⟨h1, h2⟩ := maxL_mem (ns := b :: r) (by simp)
    have e : maxL (a :: b :: r) = max a (maxL (b :: r)) := rfl
    rw [e]
    refine ⟨?_, fun y hy => ?_⟩
    · rcases Int.le_total a (maxL (b :: r)) with q | q
      · rw [Int.max_eq_right q]
        exact List.mem_cons_of_mem _ h1
      · rw [Int.max_eq_left q]
        exact List.mem_cons_self
    · rcases List.mem_cons.mp hy with z | z
      · omega
      · have := h2 y z
        omega
theorem minL_mem : ∀ {ns : List Int}, ns ≠ [] → minL ns ∈ ns ∧ ∀ y ∈ ns, minL ns ≤ y
  | [], h => (h rfl).elim
  | [a], _ => by simp [minL]
  | a :: b :: r, _ => by
    obtain ⟨h1, h2⟩ := minL_mem (ns := b :: r) (by simp)
    have e : minL (a :: b :: r) = min a (minL (b :: r)) := rfl
    rw [e]
    refine ⟨?_, fun y hy => ?_⟩
    · rcases Int.le_total a (minL (b :: r)) with q | q
      · rw [Int.min_eq_left q]
        exact List.mem_cons_self
      · rw [Int.min_eq_right q]
        exact List.mem_cons_of_mem _ h1
    · rcases List.mem_cons.mp hy with z | z
      · omega
      · have := h2 y z
        omega
theorem insI_perm (a : Int) : ∀ l : List Int, (insI a l).Perm (a :: l)
  | [] => .refl _
  | b :: r => by
    unfold insI
    split
    · exact .refl _
    · exact ((insI_perm a r).cons b).trans (List.Perm.swap a b r)
theorem insI_sorted (a : Int) : ∀ {l : List Int}, l.Pairwise (· ≤ ·) → (insI a l).Pairwise (· ≤ ·)
  | [], _ => by simp [insI]
  | b :: r, h => by
    unfold insI
    obtain ⟨h1, h2⟩ := List.pairwise_cons.mp h
    split
    · rename_i q
      refine List.pairwise_cons.mpr ⟨fun y hy => ?_, h⟩
      rcases List.mem_cons.mp hy with z | z
      · omega
      · have := h1 y z
        omega
    · rename_i q
      refine List.pairwise_cons.mpr ⟨fun y hy => ?_, insI_sorted a h2⟩
      rcases List.mem_cons.mp ((insI_perm a r).mem_iff.mp hy) with z | z
      · omega
      · exact h1 y z
theorem srtI_perm : ∀ l : List Int, (srtI l).Perm l
  | [] => .refl _
  | a :: r => (insI_perm a (srtI r)).trans ((srtI_perm r).cons a)
theorem srtI_sorted : ∀ l : List Int, (srtI l).Pairwise (· ≤ ·)
  | [] => .nil
  | a :: r => insI_sorted a (srtI_sorted r)
theorem sorted_one : ∀ {l m : List Int}, l.Perm m → l.Pairwise (· ≤ ·) → m.Pairwise (· ≤ ·) → l = m
  | [], m, p, _, _ => (List.nil_perm.mp p).symm
  | a :: r, [], p, _, _ => by
    have := p.length_eq
    simp at this
  | a :: r, b :: s, p, h, h' => by
    obtain ⟨h1, h2⟩ := List.pairwise_cons.mp h
    obtain ⟨h3, h4⟩ := List.pairwise_cons.mp h'
    have e : a = b := by
      have x : a ∈ b :: s := p.mem_iff.mp List.mem_cons_self
      have y : b ∈ a :: r := p.mem_iff.mpr List.mem_cons_self
      rcases List.mem_cons.mp x with z | z
      · exact z
      · rcases List.mem_cons.mp y with w | w
        · exact w.symm
        · have := h3 a z
          have := h1 b w
          omega
    subst e
    rw [sorted_one (List.perm_cons a |>.mp p) h2 h4]

/-! max(t), min(t) of a tuple of whole numbers -/
section
variable {prog : Program} {w : World} {A : Around} {E : Value → Shared → Prop} {s : Shared} {l : Addr}
theorem iter_intTup {xs : Array (Int × Tok)} {Q : Value → Shared → Prop} (hl : IsTup s.heap l (intItems xs))
    (h : ∀ s₂ : Shared, s₂ = { s with heap := s.heap.push { cls := .type "tuple_iterator", data := .fields #[.ref l, .int 0 0] } } →
      (s₂.heap.IsTupleIter s.heap.objs.size l 0 ∧ s₂.heap.IsTuple l (intItems xs)) → (∀ b ∈ [s.heap.objs.size, l], b < s₂.heap.objs.size) → l ≠ s.heap.objs.size → Q (.ref s.heap.objs.size) s₂) :
    wpAny (model prog w) A (pyIter (.ref l)) Q E s := by
  have hl : s.heap.IsTuple l (intItems xs) := hl
  have hlt : l < s.heap.objs.size := by obtain ⟨_, e, _⟩ := hl; exact Heap.lt_size e
  refine wpAny_pyIter_tuple hl (h _ rfl ⟨⟨_, Heap.get?_push_size _ rfl, rfl, rfl⟩, hl.push _⟩ (fun b hb => ?_) (Nat.ne_of_lt hlt))
  show b < (s.heap.push _).objs.size
  rw [Heap.size_push]
  rcases List.mem_cons.mp hb with rfl | hb
  · exact Nat.lt_succ_self _
  · rcases List.mem_cons.mp hb with rfl | hb
    · exact Nat.lt_succ_of_lt hlt
    · cases hb
theorem old_keptT {h' : Heap} (hk : ∀ b o, b ∉ [s.heap.objs.size] → (s.heap.push { cls := .type "tuple_iterator", data := .fields #[.ref l, .int 0 0] }).get? b = some o → h'.get? b = some o) :
    ∀ b o, s.heap.get? b = some o → h'.get? b = some o := fun b o e => by
  refine hk b o (fun hm => ?_) (Heap.get?_push_of_some _ e)
  rcases List.mem_cons.mp hm with e1 | hm
  · exact absurd (e1 ▸ Heap.lt_size e) (Nat.lt_irrefl _)
  · cases hm
theorem max_rawT {its : List Value} {ns : List Int} {Q : Value → Shared → Prop} (hh : A.handled = none) (hl : IsTup s.heap l its.toArray) (hi : IntsAre its ns) (hne : 0 < ns.length)
    (h : ∀ h' tk M t', (∀ b o, s.heap.get? b = some o → h'.get? b = some o) → M ∈ ns → (∀ a, a ∈ ns → a ≤ M) → Q (.int M t') { s with heap := h', toks := tk }) : wpAny (model prog w) A (call (.builtin "max") [.ref l]) Q E s := by
  obtain ⟨xs, e⟩ := hi.allInts.items
  have hn : numsOf (intItems xs).toList = ns := by rw [← e]; exact hi.numsOf
  rw [nums_intItems] at hn
  subst hn
  rw [e] at hl
  have hsz : 0 < xs.size := by simpa using hne
  refine call_max_walk (iter_intTup hl fun s₂ e st hfp hlI => ?_)
  subst e
  refine ⟨_, _, _, _, _, _, _, rfl, Walks.tuple (A := A.in1) hh _ l hlI (intItems xs), st, hfp, by simpa [intItems] using hsz, CmpOf.ints_gt (numAt xs) (fun _ _ => intItems_at), fun v h' tk hv hk => ?_⟩
  have hv : (intItems xs)[argBest (fun i j => decide (numAt xs i > numAt xs j)) (xs.size - 1)]? = some v := by simpa [intItems] using hv
  obtain ⟨t, rfl⟩ := intItems_at hv
  obtain ⟨h1, h2⟩ := argBest_gt (numAt xs) (xs.size - 1)
  refine h h' tk _ t (old_keptT hk) ?_ fun a ha => ?_
  · rw [numAt_eq]; exact PySem.getD_mem (by rw [List.length_map, Array.length_toList]; omega)
  · obtain ⟨j, hj, rfl⟩ := mem_getD ha
    rw [List.length_map, Array.length_toList] at hj
    rw [← numAt_eq]; exact h2 j (by omega)
theorem min_rawT {its : List Value} {ns : List Int} {Q : Value → Shared → Prop} (hh : A.handled = none) (hl : IsTup s.heap l its.toArray) (hi : IntsAre its ns) (hne : 0 < ns.length)
    (h : ∀ h' tk M t', (∀ b o, s.heap.get? b = some o → h'.get? b = some o) → M ∈ ns → (∀ a, a ∈ ns → M ≤ a) → Q (.int M t') { s with heap := h', toks := tk }) : wpAny (model prog w) A (call (.builtin "min") [.ref l]) Q E s := by
  obtain ⟨xs, e⟩ := hi.allInts.items
  have hn : numsOf (intItems xs).toList = ns := by rw [← e]; exact hi.numsOf
  rw [nums_intItems] at hn
  subst hn
  rw [e] at hl
  have hsz : 0 < xs.size := by simpa using hne
  refine call_min_walk (iter_intTup hl fun s₂ e st hfp hlI => ?_)
  subst e
  refine ⟨_, _, _, _, _, _, _, rfl, Walks.tuple (A := A.in1) hh _ l hlI (intItems xs), st, hfp, by simpa [intItems] using hsz, CmpOf.ints_lt (numAt xs) (fun _ _ => intItems_at), fun v h' tk hv hk => ?_⟩
  have hv : (intItems xs)[argBest (fun i j => decide (numAt xs i < numAt xs j)) (xs.size - 1)]? = some v := by simpa [intItems] using hv
  obtain ⟨t, rfl⟩ := intItems_at hv
  obtain ⟨h1, h2⟩ := argBest_lt (numAt xs) (xs.size - 1)
  refine h h' tk _ t (old_keptT hk) ?_ fun a ha => ?_
  · rw [numAt_eq]; exact PySem.getD_mem (by rw [List.length_map, Array.length_toList]; omega)
  · obtain ⟨j, hj, rfl⟩ := mem_getD ha
    rw [List.length_map, Array.length_toList] at hj
    rw [← numAt_eq]; exact h2 j (by omega)
end
def rMaxT (K : PySem.W.Frag) : List V → Hp → VK → Prop := fun vs H Q => ∃ (a : Addr) (ns : List Int), vs = [V.ref a] ∧ SqT K H a (ns.map V.int) ∧ 0 < ns.length ∧ ∀ m, m ∈ ns → (∀ y, y ∈ ns → y ≤ m) → Q (.int m) H
def rMinT (K : PySem.W.Frag) : List V → Hp → VK → Prop := fun vs H Q => ∃ (a : Addr) (ns : List Int), vs = [V.ref a] ∧ SqT K H a (ns.map V.int) ∧ 0 < ns.length ∧ ∀ m, m ∈ ns → (∀ y, y ∈ ns → m ≤ y) → Q (.int m) H
theorem cr_maxT {X : Cx} (hc : X.calm = true) : CallR X (.builtin "max") (rMaxT X.K) := by
  intro pins s σ H vs us Q I r h
  obtain ⟨a, ns, rfl, hs, hne, q⟩ := h
  obtain ⟨its, rv, hl, _⟩ := I.tuple hs
  rw [Vals.ref1 r]
  exact max_rawT (I.ok.hd hc) hl rv.ints hne fun h' tk m t' hk h1 h2 => ⟨.int _, H, I.kept hk, ⟨_, rfl⟩, q m h1 h2⟩
theorem cr_minT {X : Cx} (hc : X.calm = true) : CallR X (.builtin "min") (rMinT X.K) := by
  intro pins s σ H vs us Q I r h
  obtain ⟨a, ns, rfl, hs, hne, q⟩ := h
  obtain ⟨its, rv, hl, _⟩ := I.tuple hs
  rw [Vals.ref1 r]
  exact min_rawT (I.ok.hd hc) hl rv.ints hne fun h' tk m t' hk h1 h2 => ⟨.int _, H, I.kept hk, ⟨_, rfl⟩, q m h1 h2⟩

def nmBi : Bi → Str
  | .len => "len" | .abs => "abs" | .max2 => "max" | .min2 => "min" | .max1 => "max" | .min1 => "min" | .int1 => "int" | .str1 => "str" | .sum => "sum" | .sorted => "sorted" | .list => "list" | .tuple => "tuple" | .any => "any" | .all => "all"
  | .listR => "" | .tupR => "" | .dictL => "" | .dictZ => ""
def fvBi : Bi → Value
  | .len => .builtin "len" | .abs => .builtin "abs" | .max2 => .builtin "max" | .min2 => .builtin "min" | .max1 => .builtin "max" | .min1 => .builtin "min" | .int1 => .type "int" | .str1 => .type "str" | .sum => .builtin "sum"
  | .sorted => .builtin "sorted" | .list => .type "list" | .tuple => .type "tuple" | .any => .builtin "any" | .all => .builtin "all"
  | .listR => .none | .tupR => .none | .dictL => .none | .dictZ => .none
def rBi (K : PySem.W.Frag) : Bi → List V → Hp → VK → Prop
  | .len => fun xs H Q => (∃ p ys, xs = [.ref p] ∧ (SqL K H p ys ∨ SqT K H p ys) ∧ Q (.int ys.length) H) ∨ ∃ z, xs = [.str z] ∧ z.length ≤ sizeLine ∧ Q (.int z.length) H
  | .abs => fun xs H Q => ∃ i, xs = [.int i] ∧ Q (.int (if i < 0 then -i else i)) H
  | .max2 => fun xs H Q => ∃ i j, xs = [.int i, .int j] ∧ Q (.int (if j > i then j else i)) H
  | .min2 => fun xs H Q => ∃ i j, xs = [.int i, .int j] ∧ Q (.int (if j < i then j else i)) H
  | .max1 => fun xs H Q => rMax K xs H Q ∨ rMaxT K xs H Q
  | .min1 => fun xs H Q => rMin K xs H Q ∨ rMinT K xs H Q
  | .int1 => fun xs H Q => ((∃ i, xs = [.int i] ∧ Q (.int i) H) ∨ ∃ k, xs = [.bl k] ∧ Q (.int (if k then 1 else 0)) H) ∨ ∃ a n, xs = [.str a] ∧ PySem.intText? a = some n ∧ a.length ≤ 640 ∧ Q (.int n) H
  | .str1 => fun xs H Q => ∃ i, xs = [.int i] ∧ i.natAbs.log2 < 1920 ∧ Q (.str (toString i)) H
  | .sum => rSum K
  | .sorted => rSorted K
  | .list => fun xs H Q => ∃ p ys, xs = [.ref p] ∧ (SqL K H p ys ∨ SqT K H p ys) ∧ ∀ l, H l = none → Q (.ref l) (upd H l (.lst ys))
  | .tuple => fun xs H Q => ∃ p ys, xs = [.ref p] ∧ ((SqL K H p ys ∧ ∀ l, H l = none → Q (.ref l) (upd H l (.tup ys))) ∨ (SqT K H p ys ∧ Q (.ref p) H))
  | .any => rAny K
  | .all => rAll K
  | .listR => fun _ _ _ => False
  | .tupR => fun _ _ _ => False
  | .dictL => fun _ _ _ => False
  | .dictZ => fun _ _ _ => False
def okBi : Bi → Bool
  | .listR => false | .tupR => false | .dictL => false | .dictZ => false
  | _ => true
theorem cr_bi {X : Cx} (hc : X.calm = true) : ∀ b, okBi b = true → CallR X (fvBi b) (rBi X.K b)
  | .len, _ => CallR.or call_len_seq call_len_str
  | .abs, _ => call_abs
  | .max2, _ => call_max2 hc
  | .min2, _ => call_min2 hc
  | .max1, _ => CallR.or (cr_max hc) (cr_maxT hc)
  | .min1, _ => CallR.or (cr_min hc) (cr_minT hc)
  | .int1, _ => CallR.or call_int1 call_int_str
  | .str1, _ => call_str_int
  | .sum, _ => cr_sum hc
  | .sorted, _ => cr_sorted
  | .list, _ => call_list_of
  | .tuple, _ => call_tuple_of
  | .any, _ => cr_any hc
  | .all, _ => cr_all hc
theorem boot_bi : ∀ b, okBi b = true → bootBuiltins (nmBi b) = some (fvBi b) := by
  intro b h
  cases b <;> first | (simp [okBi] at h; done) | decide +kernel
variable {es : List Sl} {vs : List (Option V)}
theorem reps_one {d : D} {ws : List V} (h : Reps K M F [d] ws) : ∃ v, ws = [v] ∧ Rep K M F d v := by
  cases h with
  | cons a r =>
    cases r
    exact ⟨_, rfl, a⟩
theorem reps_two {d e : D} {ws : List V} (h : Reps K M F [d, e] ws) : ∃ v w, ws = [v, w] ∧ Rep K M F d v ∧ Rep K M F e w := by
  cases h with
  | cons a r =>
    cases r with
    | cons b s =>
      cases s
      exact ⟨_, _, rfl, a, b⟩
theorem bi_ok {b : Bi} {ds : List D} {z : D × Bool} {ws : List V} {Q : VK} (st : Sta K M F H es vs) (r : Reps K M F ds ws) (h : biF b ds = some z) (hb : okBi b = true) (k : Aft K M F es vs z Q) : rBi K b ws H Q := by
  have e := st.same
  have toL : ∀ {a : Addr} {us : List V}, F a = some (.lst us) → SqL K H a us := fun q => .inl (.inl (e _ _ q))
  unfold biF at h
  split at h <;> first | (simp [okBi] at hb; done) | cases h | skip
  case h_1 l =>
    obtain ⟨v, rfl, q⟩ := reps_one r
    obtain ⟨a, us, rfl, h1, z1, r1⟩ := rep_lst q
    rw [r1.len] at k
    exact .inl ⟨a, us, rfl, .inl (toL h1), aft_at st (.int _) k⟩
  case h_2 l =>
    obtain ⟨v, rfl, q⟩ := reps_one r
    obtain ⟨a, us, rfl, h1, z1, r1⟩ := rep_tup q
    rw [r1.len] at k
    exact .inl ⟨a, us, rfl, .inr (same_sqT e h1), aft_at st (.int _) k⟩
  case h_3 l =>
    obtain ⟨v, rfl, q⟩ := reps_one r
    cases q with
    | scr h1 z1 => exact .inl ⟨_, _, rfl, .inl (e.seq h1), by rw [List.length_map]; exact aft_at st (.int _) k⟩
  case h_4 i =>
    obtain ⟨v, rfl, q⟩ := reps_one r
    cases rep_int q
    exact ⟨_, rfl, aft_at st (.int _) k⟩
  case h_5 i j =>
    obtain ⟨v, w, rfl, q, q'⟩ := reps_two r
    cases rep_int q
    cases rep_int q'
    exact ⟨_, _, rfl, aft_at st (.int _) k⟩
  case h_6 i j =>
    obtain ⟨v, w, rfl, q, q'⟩ := reps_two r
    cases rep_int q
    cases rep_int q'
    exact ⟨_, _, rfl, aft_at st (.int _) k⟩
  case h_7 l =>
    obtain ⟨v, rfl, q⟩ := reps_one r
    obtain ⟨a, us, rfl, h1, z1, r1⟩ := rep_lst q
    cases en : intsOf l with
    | none =>
      rw [en] at h
      cases h
    | some ns =>
      rw [en] at h
      simp only [Option.bind_some] at h
      split at h
      · cases h
      · rename_i hne
        cases h
        rw [reps_ints r1 en] at h1
        refine .inl ⟨a, ns, rfl, toL h1, List.length_pos_iff.mpr hne, fun m h2 h3 => ?_⟩
        obtain ⟨h4, h5⟩ := maxL_mem hne
        have e1 : m = maxL ns := by
          have := h3 _ h4
          have := h5 _ h2
          omega
        rw [e1]
        exact aft_at st (.int _) k
  case h_8 l =>
    obtain ⟨v, rfl, q⟩ := reps_one r
    obtain ⟨a, us, rfl, h1, z1, r1⟩ := rep_lst q
    cases en : intsOf l with
    | none =>
      rw [en] at h
      cases h
    | some ns =>
      rw [en] at h
      simp only [Option.bind_some] at h
      split at h
      · cases h
      · rename_i hne
        cases h
        rw [reps_ints r1 en] at h1
        refine .inl ⟨a, ns, rfl, toL h1, List.length_pos_iff.mpr hne, fun m h2 h3 => ?_⟩
        obtain ⟨h4, h5⟩ := minL_mem hne
        have e1 : m = minL ns := by
          have := h3 _ h4
          have := h5 _ h2
          omega
        rw [e1]
        exact aft_at st (.int _) k
  case h_9 i =>
    obtain ⟨v, rfl, q⟩ := reps_one r
    cases rep_int q
    exact .inl (.inl ⟨_, rfl, aft_at st (.int _) k⟩)
  case h_10 i =>
    obtain ⟨v, rfl, q⟩ := reps_one r
    cases rep_bl q
    exact .inl (.inr ⟨_, rfl, aft_at st (.int _) k⟩)
  case h_11 l =>
    obtain ⟨v, rfl, q⟩ := reps_one r
    obtain ⟨a, us, rfl, h1, z1, r1⟩ := rep_lst q
    cases en : intsOf l with
    | none =>
      rw [en] at h
      cases h
    | some ns =>
      rw [en] at h
      cases h
      rw [reps_ints r1 en] at h1
      exact ⟨a, ns, rfl, toL h1, aft_at st (.int _) k⟩
  case h_12 l =>
    obtain ⟨v, rfl, q⟩ := reps_one r
    obtain ⟨a, us, rfl, h1, z1, r1⟩ := rep_lst q
    cases en : intsOf l with
    | none =>
      rw [en] at h
      cases h
    | some ns =>
      rw [en] at h
      simp only [Option.bind_some] at h
      split at h
      · rename_i h64
        cases h
        rw [reps_ints r1 en] at h1
        refine ⟨a, ns, rfl, toL h1, h64, fun ns' p h2 h3 => ?_⟩
        have e1 : ns' = srtI ns := sorted_one (h2.trans (srtI_perm ns).symm) h3 (srtI_sorted ns)
        subst e1
        refine aft_lst st (reps_of_ints _) ?_ k p
        rw [List.length_map, (srtI_perm ns).length_eq]
        unfold LIM
        omega
      · cases h
  case h_13 l =>
    obtain ⟨v, rfl, q⟩ := reps_one r
    obtain ⟨a, us, rfl, h1, z1, r1⟩ := rep_lst q
    exact ⟨a, us, rfl, .inl (toL h1), aft_lst st r1 z1 k⟩
  case h_14 l =>
    obtain ⟨v, rfl, q⟩ := reps_one r
    obtain ⟨a, us, rfl, h1, z1, r1⟩ := rep_tup q
    exact ⟨a, us, rfl, .inr (same_sqT e h1), aft_lst st r1 z1 k⟩
  case h_15 l =>
    obtain ⟨v, rfl, q⟩ := reps_one r
    obtain ⟨a, us, rfl, h1, z1, r1⟩ := rep_lst q
    exact ⟨a, us, rfl, .inl ⟨toL h1, aft_tup st r1 z1 k⟩⟩
  case h_16 l =>
    obtain ⟨v, rfl, q⟩ := reps_one r
    have q' := q
    obtain ⟨a, us, rfl, h1, z1, r1⟩ := rep_tup q
    exact ⟨a, us, rfl, .inr ⟨same_sqT e h1, aft_at st q' k⟩⟩
  case h_17 l =>
    obtain ⟨v, rfl, q⟩ := reps_one r
    obtain ⟨a, us, rfl, h1, z1, r1⟩ := rep_lst q
    cases en : blsOf l with
    | none =>
      rw [en] at h
      cases h
    | some ns =>
      rw [en] at h
      cases h
      rw [reps_bls r1 en] at h1
      exact ⟨a, ns, rfl, toL h1, aft_at st (.bl _) k⟩
  case h_18 l =>
    obtain ⟨v, rfl, q⟩ := reps_one r
    obtain ⟨a, us, rfl, h1, z1, r1⟩ := rep_lst q
    cases en : blsOf l with
    | none =>
      rw [en] at h
      cases h
    | some ns =>
      rw [en] at h
      cases h
      rw [reps_bls r1 en] at h1
      exact ⟨a, ns, rfl, toL h1, aft_at st (.bl _) k⟩
  case h_22 t =>
    obtain ⟨v, rfl, q⟩ := reps_one r
    cases rep_str q
    split at h
    · rename_i hl
      cases h
      exact .inr ⟨_, rfl, lim_le hl, aft_at st (.int _) k⟩
    · cases h
  case h_23 i =>
    obtain ⟨v, rfl, q⟩ := reps_one r
    cases rep_int q
    split at h
    · rename_i hl
      cases h
      exact ⟨_, rfl, hl, aft_at st (.str _) k⟩
    · cases h
  case h_24 t =>
    obtain ⟨v, rfl, q⟩ := reps_one r
    cases rep_str q
    split at h
    · rename_i hl
      cases e2 : PySem.intText? t with
      | none =>
        rw [e2] at h
        cases h
      | some n =>
        rw [e2] at h
        cases h
        exact .inr ⟨_, _, rfl, e2, hl, aft_at st (.int _) k⟩
    · cases h
  case h_25 l =>
    obtain ⟨v, rfl, q⟩ := reps_one r
    obtain ⟨a, us, rfl, h1, z1, r1⟩ := rep_tup q
    cases en : intsOf l with
    | none =>
      rw [en] at h
      cases h
    | some ns =>
      rw [en] at h
      simp only [Option.bind_some] at h
      split at h
      · cases h
      · rename_i hne
        cases h
        rw [reps_ints r1 en] at h1
        refine .inr ⟨a, ns, rfl, same_sqT e h1, List.length_pos_iff.mpr hne, fun m h2 h3 => ?_⟩
        obtain ⟨h4, h5⟩ := maxL_mem hne
        have e1 : m = maxL ns := by
          have := h3 _ h4
          have := h5 _ h2
          omega
        rw [e1]
        exact aft_at st (.int _) k
  case h_26 l =>
    obtain ⟨v, rfl, q⟩ := reps_one r
    obtain ⟨a, us, rfl, h1, z1, r1⟩ := rep_tup q
    cases en : intsOf l with
    | none =>
      rw [en] at h
      cases h
    | some ns =>
      rw [en] at h
      simp only [Option.bind_some] at h
      split at h
      · cases h
      · rename_i hne
        cases h
        rw [reps_ints r1 en] at h1
        refine .inr ⟨a, ns, rfl, same_sqT e h1, List.length_pos_iff.mpr hne, fun m h2 h3 => ?_⟩
        obtain ⟨h4, h5⟩ := minL_mem hne
        have e1 : m = minL ns := by
          have := h3 _ h4
          have := h5 _ h2
          omega
        rw [e1]
        exact aft_at st (.int _) k

/-! ### methods of texts -/
theorem reps_strs : ∀ {l : List D} {ws : List V} {ns : List Str}, Reps K M F l ws → strsOf l = some ns → ws = ns.map V.str
  | _, _, ns, .nil, h => by
    cases h
    rfl
  | d :: r, _, ns, .cons a b, h => by
    cases d <;> simp only [strsOf, reduceCtorEq] at h
    cases e : strsOf r with
    | none =>
      rw [e] at h
      cases h
    | some ms =>
      rw [e] at h
      cases h
      rw [rep_str a, reps_strs b e]
      rfl
theorem reps_of_strs : ∀ ns : List Str, Reps K M F (ns.map D.str) (ns.map V.str)
  | [] => .nil
  | _ :: r => .cons (.str _) (reps_of_strs r)
def nmBm : Bm → Str
  | .join => "join" | .split => "split" | .starts => "startswith" | .count => "" | .index => "" | .get => ""
def okBm : Bm → Bool
  | .join => true | .split => true | .starts => true | _ => false
def rBm (K : PySem.W.Frag) : Bm → V → List V → Hp → VK → Prop
  | .join => fun x xs H Q => ∃ a p, ∃ ys : List Str, x = .str a ∧ xs = [.ref p] ∧ (SqL K H p (ys.map V.str) ∨ SqT K H p (ys.map V.str)) ∧ (ys.map (·.length)).sum + ys.length * a.length ≤ 16777216 ∧ Q (.str (Txt.join a ys)) H
  | .split => fun x xs H Q => ∃ a b, x = .str a ∧ xs = [.str b] ∧ (b.length == 0) = false ∧ a.length + 2 ≤ sizeLine ∧ rNewStrs (Txt.split a b) H Q
  | .starts => fun x xs H Q => ∃ a b, x = .str a ∧ xs = [.str b] ∧ Q (.bl (Txt.startswith a b)) H
  | _ => fun _ _ _ _ => False
theorem pe_tbm {X : Cx} {m : Bm} {o e : Expr} {to te : TE} {apos pos : Pos} (hb : okBm m = true) (ho : PE X o to) (he : PE X e te) (hs : starEach [e] X.env = [(false, eval e X.env)]) (hbase : ∀ nm, attributeBase o nm X.env (eval o X.env) = eval o X.env)
    (hline : (apos.endLine == pos.line) = true) : PE X (.Call (.Attribute o (nmBm m) apos) [e] [] pos) (tM1 (rBm X.K m) to te) := by
  cases m <;> first | (simp [okBm] at hb; done) | skip
  · exact pe_join ho he hs (hbase _) hline
  · exact pe_split ho he hs (hbase _) hline
  · exact pe_m1 F.slot_str_startswith F.type_str_startswith mt_startswith ho he hs (hbase _) hline
theorem bm_str {m : Bm} {x : D} {ds : List D} {z : D × Bool} (h : bmF m x ds = some z) (hb : okBm m = true) : ∃ a, x = .str a := by
  cases m <;> first | (simp [okBm] at hb; done) | (cases x <;> first | exact ⟨_, rfl⟩ | (simp [bmF] at h; done))
theorem bm_ok {m : Bm} {x : D} {ds : List D} {z : D × Bool} {v : V} {ws : List V} {Q : VK} (st : Sta K M F H es vs) (rx : Rep K M F x v) (r : Reps K M F ds ws) (h : bmF m x ds = some z) (hb : okBm m = true) (k : Aft K M F es vs z Q) : rBm K m v ws H Q := by
  have e := st.same
  unfold bmF at h
  split at h <;> first | (simp [okBm] at hb; done) | cases h | skip
  · rename_i a l
    obtain ⟨v, rfl, q⟩ := reps_one r
    cases rep_str rx
    obtain ⟨p, us, rfl, h1, z1, r1⟩ := rep_lst q
    cases en : strsOf l with
    | none =>
      rw [en] at h
      cases h
    | some ns =>
      rw [en] at h
      simp only [Option.bind_some] at h
      split at h
      · rename_i hl
        cases h
        rw [reps_strs r1 en] at h1
        refine ⟨a, p, ns, rfl, rfl, .inl (.inl (.inl (e _ _ h1))), Nat.le_trans hl (by decide), ?_⟩
        rw [TL.join_eq]
        exact aft_at st (.str _) k
      · cases h
  · rename_i a b
    obtain ⟨v, rfl, q⟩ := reps_one r
    cases rep_str rx
    cases rep_str q
    split at h
    · rename_i hl
      cases h
      refine ⟨a, b, rfl, rfl, hl.1, lim_le hl.2, fun p hp => ?_⟩
      refine aft_lst st (reps_of_strs _) ?_ k p hp
      rw [List.length_map]
      exact Nat.le_trans (PyProof.Rows.split_le a b) hl.2
    · cases h
  · rename_i a b
    obtain ⟨v, rfl, q⟩ := reps_one r
    cases rep_str rx
    cases rep_str q
    exact ⟨a, b, rfl, rfl, aft_at st (.bl _) k⟩
end
end PL
/-! PLTup1: a tuple one time is itself. -/
namespace PL
open PySem PySem.Spec PyProof.Rows L2
theorem tup_once (l : Addr) (its : Array Value) (n : Nat) (dd : Option Addr) (sl : Array (Option Value)) (u : Tok) :
    Meets (Builtin.«tuple.__mul__» ⟨[.ref l, .int 1 u], []⟩) (fun _ R s => s.heap.get? l = some { cls := .type "tuple", dict := dd, data := .seq its n, slots := sl } ∧ R (.ok (.ret (.ref l))) s) :=
  .of_wp fun prog w A R s h => by
    obtain ⟨hp, g, d, tk, os⟩ := s
    obtain ⟨hl, h⟩ := h
    have f1 := AutoSeq1.idx_int
    wp_walk using wpAny_loadPart' hl
    repeat (first
      | (refine wpAny_ite_false (decide_eq_false (by decide)) ?_; wp_walk using wpAny_loadPart' hl)
      | (refine wpAny_ite_true (decide_eq_true (by simp)) ?_; wp_walk using wpAny_loadPart' hl))
    exact ⟨_, rfl, h⟩
def rOnce (K : PySem.W.Frag) : R2 := fun x y H Q => ∃ l xs, x = .ref l ∧ y = .int 1 ∧ SqT K H l xs ∧ Q (.ref l) H
theorem op_once {X : Cx} : OpR X (binaryOp .Mult) (rOnce X.K) := by
  intro pins s σ H x y v u Q I rx ry h
  obtain ⟨l, xs, rfl, rfl, hT, q⟩ := h
  cases rx
  obtain ⟨t, rfl⟩ := ry
  obtain ⟨its, r, ⟨⟨cls, dd, data, sl⟩, ho, hc, n, hd⟩, hs⟩ := I.tuple hT
  simp only at hc hd
  subst hc hd
  exact wpAny_binaryOp_repeat_ref (T := "tuple") (U := "int") (by decide) ⟨_, ho, rfl⟩ (fun s' => typeIs_int s' 1 t) noFill_tuple_mul F.fills_int_mul F.slot_int_rmul repeat_tuple F.slot_int_index.lookup
    (call_meets F.slot_int_rmul (typeIs_int s 1 t) F.entry_int_rmul (F.args_int_rmul_2 _ _) (int_rmul_tuple 1 t l its.toArray n dd sl)
      ⟨ho, rfl, ⟨_, ho, rfl⟩, call_meets F.slot_tuple_mul ⟨_, ho, rfl⟩ F.entry_tuple_mul (F.args_tuple_mul_2 _ _) (tup_once l its.toArray n dd sl t) ⟨ho, ⟨.ref l, H, I, rfl, q⟩⟩⟩)
def rBX (K : PySem.W.Frag) (op : BOp) : R2 := fun x y H Q => rB K op x y H Q ∨ (op = .mul ∧ rOnce K x y H Q)
theorem op_binX {X : Cx} (op : BOp) : OpR X (binaryOp (bop op)) (rBX X.K op) := by
  intro pins s σ H x y v u Q I rx ry h
  rcases h with h | ⟨rfl, h⟩
  · exact op_bin op pins s σ H x y v u Q I rx ry h
  · exact op_once pins s σ H x y v u Q I rx ry h
section
variable {K : PySem.W.Frag} {M : Nm} {F H : Hp} {es : List Sl} {vs : List (Option V)}
theorem bin_okX {op : BOp} {x y : D} {z : D × Bool} {v w : V} {Q : VK} (st : Sta K M F H es vs) (rx : Rep K M F x v) (ry : Rep K M F y w) (h : biD op x y = some z) (k : Aft K M F es vs z Q) : rBX K op v w H Q := by
  by_cases hm : ∃ l, op = .mul ∧ x = .tup l ∧ y = .int 1
  · obtain ⟨l, rfl, rfl, rfl⟩ := hm
    simp only [biD] at h
    split at h
    · cases h
      have r2 := rx
      obtain ⟨a, us, rfl, h1, z1, r1⟩ := rep_tup rx
      cases rep_int ry
      refine .inr ⟨rfl, a, us, rfl, rfl, same_sqT st.same h1, ?_⟩
      have e : (List.replicate (1 : Int).toNat l).flatten = l := by
        show (List.replicate 1 l).flatten = l
        simp
      rw [e] at k
      exact aft_at st r2 k
    · cases h
  · refine .inl (bin_ok st rx ry h k fun e l j h1 h2 => ?_)
    subst e h1 h2
    simp only [biD] at h
    split at h
    · rename_i hh
      have : ¬ j = 1 := fun e => hm ⟨l, rfl, rfl, by rw [e]⟩
      omega
    · cases h
end
end PL
/-! PLIt: zip and enumerate over lists and tuples in any mix. -/
namespace PL
open PySem PySem.Spec PyProof.Rows L2

/-- the list (false) or the tuple (true) at a -/
def SqA (K : PySem.W.Frag) : Bool → Hp → Addr → List V → Prop
  | false, H, a, xs => SqL K H a xs
  | true, H, a, xs => SqT K H a xs
def ItA : Bool → Heap → Addr → Addr → Nat → Prop
  | false, h, it, a, i => h.IsListIter it a i
  | true, h, it, a, i => h.IsTupleIter it a i
def LiA : Bool → Heap → Addr → Array Value → Prop
  | false, h, a, its => h.IsList a its
  | true, h, a, its => h.IsTuple a its
def obA : Bool → Addr → Obj
  | false, a => { cls := .type "list_iterator", data := .fields #[.ref a, .int 0 0] }
  | true, a => { cls := .type "tuple_iterator", data := .fields #[.ref a, .int 0 0] }
theorem drawsA {prog : Program} {w : World} {A : Around} (hh : A.handled = none) (b : Bool) (it a : Addr) (hne : a ≠ it) (its : Array Value) : Draws prog w A it [it, a] its.size (fun i v => its[i]? = some v) (fun i h => ItA b h it a i ∧ LiA b h a its) := by
  cases b
  · exact Draws.list hh it a hne its
  · exact Draws.tuple hh it a hne its
theorem beginsA (b : Bool) (a : Addr) (its : Array Value) : Begins (.ref a) (obA b a) fun h => LiA b h a its := by
  cases b
  · exact begins_list a its
  · exact begins_tuple a its
theorem itA_new {b : Bool} {h : Heap} {it a : Addr} (e : h.get? it = some (obA b a)) : ItA b h it a 0 := by
  cases b
  · exact ⟨_, e, rfl, rfl⟩
  · exact ⟨_, e, rfl, rfl⟩
theorem itA_obj {b : Bool} {h : Heap} {it a : Addr} {i : Nat} (x : ItA b h it a i) : ∃ o, h.get? it = some o ∧ ∀ v, o.data ≠ .cell v := by
  cases b
  · obtain ⟨o, e, _, d⟩ := x
    exact ⟨o, e, fun v q => by rw [d] at q; cases q⟩
  · obtain ⟨o, e, _, d⟩ := x
    exact ⟨o, e, fun v q => by rw [d] at q; cases q⟩
theorem itA_keep {b : Bool} {h h' : Heap} {it a : Addr} {i : Nat} (x : ItA b h it a i) (k : ∀ o, h.get? it = some o → h'.get? it = some o) : ItA b h' it a i := by
  cases b
  · exact Heap.IsListIter.at x k
  · exact Heap.IsTupleIter.at x k
section
variable {X : Cx} {pins : List (Addr × Obj)} {σ : L2.St} {H : Hp} {s : Shared}
theorem seqA {b : Bool} {a : Addr} {xs : List V} (I : Inv X pins σ H s) (h : SqA X.K b H a xs) : ∃ its : List Value, Vals xs its ∧ LiA b s.heap a its.toArray := by
  cases b
  · obtain ⟨its, r, p, _⟩ := I.list h
    exact ⟨its, r, p.isList⟩
  · obtain ⟨its, r, p, _⟩ := I.tuple h
    exact ⟨its, r, p⟩
theorem seqA_inj {b : Bool} {a : Addr} {xs ys : List V} (I : Inv X pins σ H s) (h : SqA X.K b H a xs) (h' : SqA X.K b H a ys) : xs = ys := by
  cases b
  · exact I.list_inj h h'
  · exact I.tuple_inj h h'
theorem liA_lt {b : Bool} {h : Heap} {a : Addr} {its : Array Value} (x : LiA b h a its) : a < h.objs.size := by
  cases b
  · obtain ⟨o, e, _⟩ := x
    exact Heap.lt_size e
  · obtain ⟨o, e, _⟩ := x
    exact Heap.lt_size e
end

/-- what stands at a and b, pair by pair, each pair new -/
def JZ (K : PySem.W.Frag) (b1 b2 : Bool) (a1 a2 : Addr) : It where
  go := fun i H => ∃ xs ys, SqA K b1 H a1 xs ∧ SqA K b2 H a2 ys ∧ i < min xs.length ys.length
  yld := fun i H v H' => ∃ T x y, v = .ref T ∧ H T = none ∧ H' = upd H T (.tup [x, y]) ∧ (∀ xs, SqA K b1 H a1 xs → xs[i]? = some x) ∧ ∀ ys, SqA K b2 H a2 ys → ys[i]? = some y
  stop := fun i H => ∃ xs ys, SqA K b1 H a1 xs ∧ SqA K b2 H a2 ys ∧ i = min xs.length ys.length
theorem turn_JZ {P : Program} {w : World} {K : PySem.W.Frag} {elts : List Expr} {kk : Nat} {tpos : Pos} {b1 b2 : Bool} {a1 a2 z TI TO i1 i2 : Addr} (S : ZipSep2 z TI TO i1 i2 [i1, a1] [i2, a2]) (n1 : a1 ≠ i1) (n2 : a2 ≠ i2) :
    Turn P w K (.Tuple elts kk tpos) (JZ K b1 b2 a1 a2) [z, TI, TO, i1, i2] z (fun i h => IsZip h z TI TO .none ∧ IsTupOf2 h TI (.ref i1) (.ref i2) ∧ (∃ x y, IsTupOf2 h TO x y) ∧ ItA b1 h i1 a1 i ∧ ItA b2 h i2 a2 i) where
  mem := by simp
  obj := fun i h st c hc => by
    obtain ⟨q1, q2, ⟨x, y, q3⟩, q4, q5⟩ := st
    simp only [List.mem_cons, List.not_mem_nil, or_false] at hc
    rcases hc with rfl | rfl | rfl | rfl | rfl
    · exact ⟨_, q1, fun v q => nomatch q⟩
    · exact ⟨_, q2, fun v q => nomatch q⟩
    · exact ⟨_, q3, fun v q => nomatch q⟩
    · exact itA_obj q4
    · exact itA_obj q5
  keep := fun i h h' st k => by
    obtain ⟨q1, q2, ⟨x, y, q3⟩, q4, q5⟩ := st
    exact ⟨k _ (by simp) _ q1, k _ (by simp) _ q2, ⟨x, y, k _ (by simp) _ q3⟩, itA_keep q4 fun o => k _ (by simp) o, itA_keep q5 fun o => k _ (by simp) o⟩
  item := by
    intro X hP hw hK hc i pins s σ H E I hf st hg
    subst hP hw hK
    obtain ⟨xs, ys, s1, s2, hi⟩ := hg
    obtain ⟨us, r1, l1⟩ := seqA I s1
    obtain ⟨vs, r2, l2⟩ := seqA I s2
    have e1 := r1.length
    have e2 := r2.length
    have hh : X.A.in1.handled = none := I.ok.hd hc
    have G := GoesN.zip2 (prog := X.prog) (w := X.w) (A := X.A) (elts := elts) (x1 := kk) (pos := tpos) S (drawsA hh b1 i1 a1 n1 us.toArray) (drawsA hh b2 i2 a2 n2 vs.toArray)
    refine G.goes i s (fun v s2 => ∃ x H', Inv X pins σ H' s2 ∧ RelV x v ∧ (JZ X.K b1 b2 a1 a2).yld i H x H' ∧ (IsZip s2.heap z TI TO .none ∧ IsTupOf2 s2.heap TI (.ref i1) (.ref i2) ∧ (∃ x y, IsTupOf2 s2.heap TO x y) ∧ ItA b1 s2.heap i1 a1 (i + 1) ∧ ItA b2 s2.heap i2 a2 (i + 1)) ∧ ∀ b ∈ [z, TI, TO, i1, i2], H' b = none) E (by simp only [List.size_toArray]; omega) ⟨st.1, st.2.1, st.2.2.1, ⟨st.2.2.2.1, l1⟩, ⟨st.2.2.2.2, l2⟩⟩ fun v h' tk hY st' hk _ => ?_
    obtain ⟨T, x, y, rfl, hT, hx, hy, ht⟩ := hY
    obtain ⟨t1, t2, t3, ⟨t4, _⟩, ⟨t5, _⟩⟩ := st'
    have lx : i < xs.length := by omega
    have ly : i < ys.length := by omega
    obtain ⟨x', hx', rx⟩ := r1.get (List.getElem?_eq_getElem lx)
    obtain ⟨y', hy', ry⟩ := r2.get (List.getElem?_eq_getElem ly)
    have ex : x' = x := by
      have : us[i]? = some x := by simpa using hx
      rw [hx'] at this
      exact Option.some.inj this
    have ey : y' = y := by
      have : vs[i]? = some y := by simpa using hy
      rw [hy'] at this
      exact Option.some.inj this
    subst ex ey
    have new : ObjOk X.prog X.w (upd H T (.tup [xs[i], ys[i]])) h' T (.tup [xs[i], ys[i]]) := ⟨by show 2 ≤ sizeLine; decide, [x', y'], .cons rx (.cons ry .nil), ht⟩
    refine ⟨.ref T, upd H T (.tup [xs[i], ys[i]]), I.turnedNew (t' := tk) (ch := [z, TO, i1, i2]) hk (fun c hm => hf c (by simp only [List.mem_cons, List.not_mem_nil, or_false] at hm ⊢; rcases hm with q | q | q | q <;> simp [q])) hT new, rfl, ⟨T, _, _, rfl, I.hok.fresh hT, rfl, fun l hl => by rw [seqA_inj I hl s1]; exact List.getElem?_eq_getElem lx, fun l hl => by rw [seqA_inj I hl s2]; exact List.getElem?_eq_getElem ly⟩, ⟨t1, t2, t3, t4, t5⟩, fun c hm => ?_⟩
    have hn := (hf c hm).1
    have hlt : c < s.heap.objs.size := by
      obtain ⟨o, e, _⟩ : ∃ o, s.heap.get? c = some o ∧ ∀ v, o.data ≠ .cell v := by
        obtain ⟨q1, q2, ⟨x, y, q3⟩, q4, q5⟩ := st
        simp only [List.mem_cons, List.not_mem_nil, or_false] at hm
        rcases hm with rfl | rfl | rfl | rfl | rfl
        · exact ⟨_, q1, fun v q => nomatch q⟩
        · exact ⟨_, q2, fun v q => nomatch q⟩
        · exact ⟨_, q3, fun v q => nomatch q⟩
        · exact itA_obj q4
        · exact itA_obj q5
      exact Heap.lt_size e
    rw [upd_ne (Nat.ne_of_lt (Nat.lt_of_lt_of_le hlt hT))]
    exact hn
  done := by
    intro X hP hw hK hc i pins s σ H E I hf st hg
    subst hP hw hK
    obtain ⟨xs, ys, s1, s2, hi⟩ := hg
    obtain ⟨us, r1, l1⟩ := seqA I s1
    obtain ⟨vs, r2, l2⟩ := seqA I s2
    have e1 := r1.length
    have e2 := r2.length
    have hh : X.A.in1.handled = none := I.ok.hd hc
    have G := GoesN.zip2 (prog := X.prog) (w := X.w) (A := X.A) (elts := elts) (x1 := kk) (pos := tpos) S (drawsA hh b1 i1 a1 n1 us.toArray) (drawsA hh b2 i2 a2 n2 vs.toArray)
    have ei : i = min us.toArray.size vs.toArray.size := by simp only [List.size_toArray]; omega
    subst ei
    exact G.stops s (fun s1 => Inv X pins σ H s1) E ⟨st.1, st.2.1, st.2.2.1, ⟨st.2.2.2.1, l1⟩, ⟨st.2.2.2.2, l2⟩⟩ fun h' tk hk _ => I.turnedL (t' := tk) (ch := [z, TO, i1, i2]) hk fun c hm => hf c (by simp only [List.mem_cons, List.not_mem_nil, or_false] at hm ⊢; rcases hm with q | q | q | q <;> simp [q])
  self := fun A i s Q E st h => wpAny_pyIter_zip st.1 h
def iZ (K : PySem.W.Frag) (ta : TA) : TI := fun σ H R => ta σ H fun vs H1 => ∃ b1 b2 a1 a2 xs ys, vs = [.ref a1, .ref a2] ∧ SqA K b1 H1 a1 xs ∧ SqA K b2 H1 a2 ys ∧ R (JZ K b1 b2 a1 a2) H1
theorem pi_Z {X : Cx} {e e2 : Expr} {ta : TA} {p pos tpos : Pos} {elts : List Expr} {kk : Nat} (hg : Gl X "zip") (hm : X.mg "zip" = none) (ha : PA X [e, e2] ta)
    (hs : starEach [e, e2] X.env = (false, eval e X.env) :: starEach [e2] X.env) (hpl : (backTo pos (starEach [e2] X.env)).any (·.1) = false) : PI X (.Tuple elts kk tpos) (.Call (.Name "zip" p) [e, e2] [] pos) (iZ X.K ta) := by
  refine ⟨fun pins s σ H R I h => ?_⟩
  refine Call_ (ld_blt I hg hm PyProof.Rows.boot_zip (PyProof.Rows.callWith_type1 (thn (ha.run pos pins s σ H _ I h) fun us s1 ⟨vs, H1, I1, r1, q1⟩ => ?_) hs hpl))
  obtain ⟨b1, b2, a1, a2, xs, ys, rfl, g1, g2, q⟩ := q1
  cases r1 with
  | cons r rr =>
  cases rr with
  | cons r' rr =>
  cases rr
  cases r
  cases r'
  obtain ⟨us, v1, l1⟩ := seqA I1 g1
  obtain ⟨ws, v2, l2⟩ := seqA I1 g2
  refine zip_begins2 (beginsA b1 a1 us.toArray) (beginsA b2 a2 ws.toArray) l1 l2 fun h' z1 z2 z3 z4 z5 _ k => wpAny_pyIter_zip z1 ?_
  have c1 := liA_lt l1
  have c2 := liA_lt l2
  have S := zip_sep2 (N := s1.heap.objs.size) (fp1 := [a1]) (fp2 := [a2]) (by simpa using c1) (by simpa using c2)
  refine ⟨_, _, _, _, H1, rfl, I1.kept (t' := s1.toks) k, turn_JZ S (Nat.ne_of_lt c1) (Nat.ne_of_lt (Nat.lt_succ_of_lt c2)), ⟨z1, z2, ⟨_, _, z3⟩, itA_new z4, itA_new z5⟩, fun c hm => ?_, q⟩
  have hle : s1.heap.objs.size ≤ c := by
    simp only [List.mem_cons, List.not_mem_nil, or_false] at hm
    rcases hm with rfl | rfl | rfl | rfl | rfl <;> first | exact Nat.le_refl _ | exact Nat.le_add_right _ _
  exact Inv.fpOk I1 hle (I1.hok.fresh hle)

/-! ### enumerate -/
set_option maxHeartbeats 1000000 in
theorem enum_meets {x : Value} {ob : Obj} {St : Heap → Prop} (B : Begins x ob St) :
    Meets (Builtin.«enumerate.__new__» ⟨[.type "enumerate", x], []⟩) (fun _ R s => St s.heap ∧ R (.ok (.ret (.ref (s.heap.push ob).objs.size))) { s with heap := (s.heap.push ob).push { cls := .type "enumerate", data := .fields #[.none, .bool false, .ref s.heap.objs.size, rawInt 0, .none, .none] } }) :=
  .of_wp fun P W Ar R st hyp => by
    obtain ⟨hp, gn, dr, tk, os⟩ := st
    obtain ⟨i1, i2⟩ := hyp
    have isub := sub_enumerate
    have go : ∀ {Ar' : Around} {Er : Value → Shared → Prop} {G : Value → Shared → Prop}, G (.ref hp.objs.size) ⟨hp.push ob, gn, dr, tk, os⟩ → wpAny (model P W) Ar' (pyIter x) G Er ⟨hp, gn, dr, tk, os⟩ := fun g => B.iter P W _ _ ⟨hp, gn, dr, tk, os⟩ _ i1 g
    wp_walk using go
    refine wpAny_stack_any fun _ => wpAny_pure ?_
    split
    · rename_i cl _ _ _ _ _
      cases (cl == Value.type "enumerate") <;> (wp_walk using go; exact ⟨_, rfl, i2⟩)
    · wp_walk using go
      exact ⟨_, rfl, i2⟩
theorem enum_go {prog : Program} {w : World} {A : Around} {E : Value → Shared → Prop} {s : Shared} {x : Value} {ob : Obj} {St : Heap → Prop} {Q : Value → Shared → Prop} (B : Begins x ob St) (i1 : St s.heap)
    (h : ∀ h', IsEnum h' (s.heap.objs.size + 1) s.heap.objs.size 0 .none → h'.get? s.heap.objs.size = some ob → (∀ b o, s.heap.get? b = some o → h'.get? b = some o) → Q (.ref (s.heap.objs.size + 1)) { s with heap := h' }) : wpAny (model prog w) A (call (.type "enumerate") [x]) Q E s := by
  refine callType_new F.called_enumerate (by decide) (F.typeCall_enumerate_1 _) (F.newCall_enumerate_1 _) (fun obj => F.args_object_init_2 obj _) F.entry_enumerate_new (enum_meets B) ⟨i1, ?_⟩
  have z : (s.heap.push ob).objs.size = s.heap.objs.size + 1 := Heap.size_push ..
  generalize heq : (s.heap.push ob).push { cls := .type "enumerate", data := .fields #[.none, .bool false, .ref s.heap.objs.size, rawInt 0, .none, .none] } = g
  have he : IsEnum g (s.heap.objs.size + 1) s.heap.objs.size 0 .none := by
    rw [← heq, ← z]
    exact Heap.get?_push_size _ rfl
  have k : ∀ b o, s.heap.get? b = some o → g.get? b = some o := fun b o e => by
    rw [← heq]
    exact Heap.get?_push_of_some _ (Heap.get?_push_of_some _ e)
  show _ ∧ _
  rw [z]
  refine ⟨⟨_, he, rfl⟩, h g he ?_ k⟩
  rw [← heq]
  exact Heap.get?_push_of_some _ (Heap.get?_push_size _ B.free)
def JE (K : PySem.W.Frag) (b : Bool) (a : Addr) : It where
  go := fun i H => ∃ xs, SqA K b H a xs ∧ i < xs.length
  yld := fun i H v H' => ∃ T y, v = .ref T ∧ H T = none ∧ H' = upd H T (.tup [.int i, y]) ∧ ∀ xs, SqA K b H a xs → xs[i]? = some y
  stop := fun i H => ∃ xs, SqA K b H a xs ∧ i = xs.length
theorem turn_JE {P : Program} {w : World} {K : PySem.W.Frag} {elts : List Expr} {kk : Nat} {tpos : Pos} {b : Bool} {a e it : Addr} (n1 : a ≠ it) (n2 : e ≠ it) (n3 : e ≠ a) :
    Turn P w K (.Tuple elts kk tpos) (JE K b a) [e, it] e (fun i h => (∃ old, IsEnum h e it (0 + (i : Int)) old) ∧ ItA b h it a i) where
  mem := by simp
  obj := fun i h st c hc => by
    obtain ⟨⟨old, q1⟩, q2⟩ := st
    simp only [List.mem_cons, List.not_mem_nil, or_false] at hc
    rcases hc with rfl | rfl
    · exact ⟨_, q1, fun v q => nomatch q⟩
    · exact itA_obj q2
  keep := fun i h h' st k => by
    obtain ⟨⟨old, q1⟩, q2⟩ := st
    exact ⟨⟨old, k _ (by simp) _ q1⟩, itA_keep q2 fun o => k _ (by simp) o⟩
  item := by
    intro X hP hw hK hc i pins s σ H E I hf st hg
    subst hP hw hK
    obtain ⟨xs, s1, hi⟩ := hg
    obtain ⟨us, r1, l1⟩ := seqA I s1
    have e1 := r1.length
    have hh : X.A.in1.handled = none := I.ok.hd hc
    have G := GoesN.enumFrom (prog := X.prog) (w := X.w) (A := X.A) (elts := elts) (x1 := kk) (pos := tpos) 0 (drawsA hh b it a n1 us.toArray) e n2 (by simp [n2, n3]) (by simp)
    refine G.goes i s (fun v s2 => ∃ x H', Inv X pins σ H' s2 ∧ RelV x v ∧ (JE X.K b a).yld i H x H' ∧ ((∃ old, IsEnum s2.heap e it (0 + ((i + 1 : Nat) : Int)) old) ∧ ItA b s2.heap it a (i + 1)) ∧ ∀ c ∈ [e, it], H' c = none) E (by simp only [List.size_toArray]; omega) ⟨st.1, st.2, l1⟩ fun v h' tk hY st' hk _ => ?_
    obtain ⟨T, t, x, rfl, hT, hx, ht⟩ := hY
    obtain ⟨t1, t2, _⟩ := st'
    obtain ⟨x', hx', rx⟩ := r1.get (List.getElem?_eq_getElem hi)
    have ex : x' = x := by
      have : us[i]? = some x := by simpa using hx
      rw [hx'] at this
      exact Option.some.inj this
    subst ex
    rw [Int.zero_add] at ht
    have new : ObjOk X.prog X.w (upd H T (.tup [.int i, xs[i]])) h' T (.tup [.int i, xs[i]]) := ⟨by show 2 ≤ sizeLine; decide, [_, x'], .cons ⟨t, rfl⟩ (.cons rx .nil), ht⟩
    refine ⟨.ref T, upd H T (.tup [.int i, xs[i]]), I.turnedNew (t' := tk) (ch := [e, it]) hk hf hT new, rfl, ⟨T, _, rfl, I.hok.fresh hT, rfl, fun l hl => by rw [seqA_inj I hl s1]; exact List.getElem?_eq_getElem hi⟩, ⟨t1, t2⟩, fun c hm => ?_⟩
    have hn := (hf c hm).1
    have hlt : c < s.heap.objs.size := by
      obtain ⟨o, e, _⟩ : ∃ o, s.heap.get? c = some o ∧ ∀ v, o.data ≠ .cell v := by
        obtain ⟨⟨old, q1⟩, q2⟩ := st
        simp only [List.mem_cons, List.not_mem_nil, or_false] at hm
        rcases hm with rfl | rfl
        · exact ⟨_, q1, fun v q => nomatch q⟩
        · exact itA_obj q2
      exact Heap.lt_size e
    rw [upd_ne (Nat.ne_of_lt (Nat.lt_of_lt_of_le hlt hT))]
    exact hn
  done := by
    intro X hP hw hK hc i pins s σ H E I hf st hg
    subst hP hw hK
    obtain ⟨xs, s1, rfl⟩ := hg
    obtain ⟨us, r1, l1⟩ := seqA I s1
    have e1 := r1.length
    have hh : X.A.in1.handled = none := I.ok.hd hc
    have G := GoesN.enumFrom (prog := X.prog) (w := X.w) (A := X.A) (elts := elts) (x1 := kk) (pos := tpos) 0 (drawsA hh b it a n1 us.toArray) e n2 (by simp [n2, n3]) (by simp)
    have ei : xs.length = us.toArray.size := by simp only [List.size_toArray]; omega
    rw [ei] at st
    exact G.stops s (fun s1 => Inv X pins σ H s1) E ⟨st.1, st.2, l1⟩ fun h' tk hk _ => I.turnedL (t' := tk) (ch := [e, it]) hk hf
  self := fun A i s Q E st h => let ⟨⟨_, q⟩, _⟩ := st; wpAny_pyIter_enum q h
def iE (K : PySem.W.Frag) (ta : TA) : TI := fun σ H R => ta σ H fun vs H1 => ∃ b a xs, vs = [.ref a] ∧ SqA K b H1 a xs ∧ R (JE K b a) H1
theorem pi_E {X : Cx} {e : Expr} {ta : TA} {p pos tpos : Pos} {elts : List Expr} {kk : Nat} (hg : Gl X "enumerate") (hm : X.mg "enumerate" = none) (ha : PA X [e] ta) (hs : starEach [e] X.env = [(false, eval e X.env)]) :
    PI X (.Tuple elts kk tpos) (.Call (.Name "enumerate" p) [e] [] pos) (iE X.K ta) := by
  refine ⟨fun pins s σ H R I h => ?_⟩
  refine Call_ (ld_blt I hg hm boot_enumerate (PyProof.Rows.callWith_type1 (thn (ha.run pos pins s σ H _ I h) fun us s1 ⟨vs, H1, I1, r1, q1⟩ => ?_) hs rfl))
  obtain ⟨b, a, xs, rfl, g1, q⟩ := q1
  cases r1 with
  | cons r rr =>
  cases rr
  cases r
  obtain ⟨us, v1, l1⟩ := seqA I1 g1
  refine enum_go (beginsA b a us.toArray) l1 fun h' z1 z2 k => wpAny_pyIter_enum z1 ?_
  have c1 := liA_lt l1
  refine ⟨_, _, _, _, H1, rfl, I1.kept (t' := s1.toks) k, turn_JE (Nat.ne_of_lt c1) (Nat.succ_ne_self _) (Nat.ne_of_gt (Nat.lt_succ_of_lt c1)), ⟨⟨_, z1⟩, itA_new z2⟩, fun c hm => ?_, q⟩
  have hle : s1.heap.objs.size ≤ c := by
    simp only [List.mem_cons, List.not_mem_nil, or_false] at hm
    rcases hm with rfl | rfl <;> first | exact Nat.le_refl _ | exact Nat.le_add_right _ _
  exact Inv.fpOk I1 hle (I1.hok.fresh hle)
end PL
/-! PLSnd: the small syntax against the text's own; what an expression's reckoning says holds of the machine. -/
namespace PL
open PySem PySem.Spec PyProof.Rows L2

/-- the text's names by numbers -/
structure Ns where
  gN : Nat → Str
  fN : Nat → Str
  cN : Nat → Str
  mN : Nat → Str
  fl : Nat → Str
  fs : List Nat
  ds : List Nat
  gs : List Nat
  cs : List Nat
  xs : List Nat
  lns : List (Str × NameKind)
/-- where the text's defs stand -/
structure Lk where
  fa : Nat → Addr
  fd : Nat → FuncData
  ps : Nat → List Str
  cw : Value

/-- the def that holds lambdas, by its names -/
def lamB (T : Ns) (sc : Scope) : Bool := !T.lns.isEmpty && decide (sc.names = T.lns)
def visB (sc : Scope) (x : Str) : Bool :=
  match sc.names.lookup x with
  | some .local => true
  | some .cell => true
  | some .free => true
  | _ => false
def stoB (sc : Scope) (x : Str) : Bool :=
  match sc.names.lookup x with
  | some .local => true
  | some .cell => true
  | _ => false
def glB (sc : Scope) (x : Str) : Bool :=
  match sc.names.lookup x with
  | some .globalImplicit => true
  | _ => false
def nmOk (x : Str) : Bool := !(x == ("__debug__" : Str)) && !(x == ("__classdict__" : Str)) && !(x == ("__name__" : Str))
theorem vis_of {sc : Scope} {x : Str} (h : visB sc x = true) : Vis sc x := by
  unfold visB at h
  unfold Vis
  split at h <;> first | (rename_i e; rw [e]; simp; done) | cases h
theorem loc_of {sc : Scope} {x : Str} (h : stoB sc x = true) : L2.Loc sc x := by
  unfold stoB at h
  unfold L2.Loc
  split at h <;> first | (rename_i e; rw [e]; simp; done) | cases h
theorem gl_of {X : Cx} {x : Str} (h : glB X.env.scope x = true) : Gl X x := by
  unfold glB at h
  unfold Gl PySem.Env.kindOf
  split at h
  · assumption
  · cases h
theorem nmOk_of {x : Str} (h : nmOk x = true) : (x == ("__debug__" : Str)) = false ∧ (x == ("__classdict__" : Str)) = false ∧ x ≠ "__name__" := by
  unfold nmOk at h
  simp only [Bool.and_eq_true, Bool.not_eq_true'] at h
  exact ⟨h.1.1, h.1.2, by simpa using h.2⟩

/-- no star, no set, no slice -/
def plain : Expr → Bool
  | .Starred _ _ => false
  | .Set _ _ _ => false
  | .Slice _ _ _ _ => false
  | .NamedExpr _ _ _ => false
  | .Lambda _ _ _ _ => false
  | .Await _ _ => false
  | .Yield _ _ => false
  | .YieldFrom _ _ => false
  | .GeneratorExp _ _ _ _ => false
  | .SetComp _ _ _ _ => false
  | _ => true
theorem plain_star {e : Expr} {es : List Expr} {env : PySem.Env} (h : plain e = true) : starEach (e :: es) env = (false, eval e env) :: starEach es env := by
  cases e <;> first | rfl | (simp [plain] at h; done)
theorem plain_marks {op : CmpOp} {e : Expr} (h : plain e = true) : behindInMarks op e = false := by
  cases e <;> first | rfl | (simp [plain] at h; done)
theorem plain_ix {e : Expr} (h : plain e = true) : PlainIx e := by
  intro o i
  cases e <;> first | rfl | (simp [plain] at h; done)
theorem stars_none {es : List Expr} {env : PySem.Env} {pos : Pos} (h : es.all plain = true) : (backTo pos (starEach es env)).any (·.1) = false := by
  induction es with
  | nil => rfl
  | cons e r ih =>
    simp only [List.all_cons, Bool.and_eq_true] at h
    rw [plain_star h.1]
    show (false || (backTo pos (starEach r env)).any (·.1)) = false
    rw [ih h.2] <;> rfl

def mC : D → Const → Bool
  | .non, .none => true
  | .bl b, .bool c => b == c
  | .int i, .int j => decide (i = j)
  | .str s, .str t => decide (s = t)
  | _, _ => false
def tyN : Ty → Str
  | .int => "int" | .bool => "bool" | .str => "str" | .tuple => "tuple" | .list => "list"
def mTy (sc : Scope) : List Ty → List Expr → Bool
  | [], [] => true
  | t :: ts, .Name x _ :: es => decide (x = tyN t) && glB sc x && mTy sc ts es
  | _, _ => false

/-- a, b, .. stored as they are -/
def nmT (N : List Str) (so : Scope) : List Nat → List Expr → Bool
  | [], [] => true
  | i :: is, .Name x _ :: r => decide (N[i]? = some x) && stoB so x && nmT N so is r
  | _, _ => false
def mT (N : List Str) (so : Scope) : Tg → Expr → Bool
  | .one i, .Name x _ => decide (N[i]? = some x) && stoB so x
  | .many is, .Tuple ts _ _ => nmT N so is ts
  | _, _ => false
/-- a comprehension's own names, by their places -/
def ownT (N : List Str) (is : List Nat) : List (Str × Nat) := is.map fun i => (N.getD i "", i)
def plainT : Expr → Bool
  | .Name _ _ => true
  | .Call _ _ _ _ => true
  | .Subscript _ _ _ => true
  | .Attribute _ _ _ => true
  | _ => false
def tOk (pe : Expr) : Bool := plainT pe || match pe with | .Compare _ _ _ _ => true | .BoolOp _ _ _ => true | .UnaryOp .Not _ _ => true | _ => false
/-- a receiver that is no super() -/
def bsOk : Expr → Bool
  | .Name _ _ => true
  | .Constant _ _ _ => true
  | _ => false
theorem bsOk_of {e : Expr} {env : PySem.Env} (h : bsOk e = true) (nm : Str) : attributeBase e nm env (eval e env) = eval e env := by
  cases e <;> first | rfl | (simp [bsOk] at h; done)
/-- a name, or an attribute of one -/
def bsOk2 : Expr → Bool
  | .Name _ _ => true
  | .Attribute _ _ _ => true
  | _ => false
def mthOk (ap cp : Pos) (xs : List Expr) : Bool := (ap.endLine == cp.line) && decide (xs.length < 30)
section
variable (T : Ns) (N : List Str)
/-- a path -/
def mP (sc : Scope) : E → Expr → Bool
  | .var i, .Name x _ => decide (N[i]? = some x) && visB sc x && nmOk x
  | .atr p f, .Attribute x nm _ => decide (nm = T.fl f) && mP sc p x
  | _, _ => false
mutual
def mE (sc : Scope) : E → Expr → Bool
  | .var i, e => plain e && match e with | .Name x _ => decide (N[i]? = some x) && visB sc x && nmOk x | _ => false
  | .cst d, e => plain e && match e with | .Constant c _ _ => mC d c | _ => false
  | .glb g, e => plain e && match e with | .Name x _ => decide (T.gN g = x) && glB sc x && nmOk x && T.gs.contains g | _ => false
  | .bin op a b, e => plain e && match e with | .BinOp x o y _ => decide (o = bop op) && mE sc a x && mE sc b y | _ => false
  | .neg a, e => plain e && match e with | .UnaryOp .USub x _ => mE sc a x | _ => false
  | .cmp op a b, e => plain e && match e with | .Compare x [o] [y] _ => decide (o = cop op) && mE sc a x && mE sc b y | _ => false
  | .cmpv op v b, e => plain e && match e with | .Compare (.Name x _) [o] [y] _ => decide (o = cop op) && decide (N[v]? = some x) && visB sc x && nmOk x && mE sc b y | _ => false
  | .chn o p a b c, e => plain e && match e with | .Compare x [o', p'] [y, z] _ => decide (o' = cop o) && decide (p' = cop p) && mE sc a x && mE sc b y && mE sc c z | _ => false
  | .and a b, e => plain e && match e with
      | .BoolOp .And [x, y] _ => (mE sc a x && mE sc b y) && (tOk x && tOk y)
      | .BoolOp .And (x :: y :: z :: r) pos => (mE sc a x && (mE sc b (.BoolOp .And (y :: z :: r) pos))) && tOk x
      | _ => false
  | .or a b, e => plain e && match e with
      | .BoolOp .Or [x, y] _ => (mE sc a x && mE sc b y) && (tOk x && tOk y)
      | .BoolOp .Or (x :: y :: z :: r) pos => (mE sc a x && (mE sc b (.BoolOp .Or (y :: z :: r) pos))) && tOk x
      | _ => false
  | .not a, e => plain e && match e with | .UnaryOp .Not x _ => mE sc a x && tOk x | _ => false
  | .ifx c a b, e => plain e && match e with | .IfExp z x y _ => mE sc c z && mE sc a x && mE sc b y && tOk z | _ => false
  | .tup es, e => plain e && match e with | .Tuple xs _ _ => mEs sc es xs | _ => false
  | .lst es, e => plain e && match e with | .List xs _ => mEs sc es xs | _ => false
  | .idx a i, e => plain e && match e with | .Subscript x y _ => mE sc a x && mE sc i y | _ => false
  | .idxv v i, e => plain e && match e with | .Subscript (.Name x _) y _ => decide (N[v]? = some x) && visB sc x && nmOk x && mE sc i y | _ => false
  | .slc a lo hi, e => plain e && match e with | .Subscript x (.Slice l h none _) _ => mE sc a x && mO sc lo l && mO sc hi h | _ => false
  | .isI a ts, e => plain e && match e with
      | .Call (.Name f _) [x, .Tuple ys _ _] [] _ => decide (f = "isinstance") && glB sc f && mE sc a x && mTy sc ts ys && decide (ts.length ≤ 8)
      | .Call (.Name f _) [x, y] [] _ => decide (f = "isinstance") && glB sc f && mE sc a x && mTy sc ts [y]
      | _ => false
  | .bi b es, e => plain e && match e with | .Call (.Name f _) (x :: xs) [] _ => decide (f = nmBi b) && okBi b && glB sc f && mEs sc es (x :: xs) | _ => false
  | .bm m o a, e => plain e && match e with | .Call (.Attribute x nm ap) [y] [] cp => decide (nm = nmBm m) && okBm m && (ap.endLine == cp.line) && bsOk x && mE sc o x && mE sc a y | _ => false
  | .fn f es, e => plain e && match e with | .Call (.Name g _) xs [] _ => decide (g = T.fN f) && glB sc g && nmOk g && T.fs.contains f && T.ds.contains f && mEs sc es xs | _ => false
  | .lc it tg c body, e => plain e && match e with
      | .ListComp el [⟨t, x, ifs, ab⟩] scope _ => (decide (ab = 0) && mI sc it t x) && (blkC N sc scope (ownT N tg.ixs) && decide tg.ixs.Nodup && !(lamB T (relS scope sc))) && mT N scope tg t && mIf (relS scope sc) c ifs && mE (relS scope sc) body el
      | _ => false
  | .atr p f, e => plain e && match e with | .Attribute x nm _ => decide (nm = T.fl f) && mP T N sc p x | _ => false
  | .mth o m es, e => plain e && match e with | .Call (.Attribute x nm ap) xs [] cp => decide (nm = T.mN m) && bsOk2 x && mthOk ap cp xs && mE sc o x && mEs sc es xs | _ => false
  | .mthp p m es, e => plain e && match p, e with | .var i, .Call (.Attribute (.Name x _) nm ap) xs [] cp => decide (nm = T.mN m) && decide (N[i]? = some x) && visB sc x && nmOk x && mthOk ap cp xs && mEs sc es xs | _, _ => false
  | .new c es, e => plain e && match e with | .Call (.Name g _) xs [] _ => decide (g = T.cN c) && glB sc g && nmOk g && T.cs.contains c && !xs.isEmpty && mEs sc es xs | _ => false
  | .wrd a, e => plain e && match e with
      | .Call (.Name w _) [.Lambda ⟨[], [], none, [], [], none, []⟩ body scope _] [] _ => decide (w = "_law_word") && glB sc w && lamB T sc && LamX.lamSB sc scope && !(lamB T scope) && mE scope a body
      | _ => false
  | .fnv f v es, e => plain e && match e with | .Call (.Name g _) (.Name x _ :: xs) [] _ => decide (g = T.fN f) && glB sc g && nmOk g && T.fs.contains f && T.ds.contains f && decide (N[v]? = some x) && visB sc x && nmOk x && mEs sc es xs | _ => false
  | .fnb f v es, e => plain e && match e with | .Call (.Name g _) (.Name x _ :: xs) [] _ => decide (g = T.fN f) && glB sc g && nmOk g && T.fs.contains f && T.ds.contains f && decide (N[v]? = some x) && visB sc x && nmOk x && mEs sc es xs | _ => false
  | .mtb i m es, e => plain e && match e with | .Call (.Attribute (.Name x _) nm ap) xs [] cp => decide (nm = T.mN m) && decide (N[i]? = some x) && visB sc x && nmOk x && mthOk ap cp xs && mEs sc es xs | _ => false
  | .mthq i g m j, e => plain e && match e with | .Call (.Attribute (.Attribute (.Name x _) nm0 _) nm ap) [.Name y _] [] cp => decide (nm0 = T.fl g) && decide (nm = T.mN m) && (decide (N[i]? = some x) && visB sc x && nmOk x) && (decide (N[j]? = some y) && visB sc y && nmOk y) && (ap.endLine == cp.line) | _ => false
  | _, _ => false
def mEs (sc : Scope) : Es → List Expr → Bool
  | .nil, l => match l with | [] => true | _ => false
  | .cons a r, l => match l with | x :: xs => mE sc a x && mEs sc r xs | _ => false
def mO (sc : Scope) : O → Option Expr → Bool
  | .none, l => match l with | none => true | _ => false
  | .some a, l => match l with | some x => mE sc a x | _ => false
def mIf (sc : Scope) : O → List Expr → Bool
  | .none, l => match l with | [] => true | _ => false
  | .some a, l => match l with | [x] => mE sc a x && tOk x | _ => false
def mI (sc : Scope) : Src → Expr → Expr → Bool
  | .rng1 e, _, x => (match x with | .Call (.Name f _) [a] [] _ => decide (f = "range") && glB sc f && mE sc e a | _ => false)
  | .rng2 e e', _, x => (match x with | .Call (.Name f _) [a, b] [] _ => decide (f = "range") && glB sc f && mE sc e a && mE sc e' b | _ => false)
  | .seq e, _, x => mE sc e x
  | .enm e, t, x => (match t, x with | .Tuple _ _ _, .Call (.Name f _) [a] [] _ => decide (f = "enumerate") && glB sc f && mE sc e a | _, _ => false)
  | .zip e e', t, x => (match t, x with | .Tuple _ _ _, .Call (.Name f _) [a, b] [] _ => decide (f = "zip") && glB sc f && mE sc e a && mE sc e' b | _, _ => false)
  | _, _, _ => false
end
theorem mE_plain {sc : Scope} {e : E} {pe : Expr} (h : mE T N sc e pe = true) : plain pe = true := by
  cases e <;> first | (simp only [mE, Bool.and_eq_true] at h; exact h.1) | (simp [mE] at h; done)
theorem mI_plain {sc : Scope} {e : PL.Src} {t pe : Expr} (h : mI T N sc e t pe = true) : plain pe = true := by
  cases e <;> simp only [mI] at h <;> first | exact mE_plain T N h | (split at h <;> first | rfl | cases h) | cases h
theorem mEs_plain {sc : Scope} : ∀ {e : Es} {pe : List Expr}, mEs T N sc e pe = true → pe.all plain = true
  | .nil, [], _ => rfl
  | .nil, _ :: _, h => by simp [mEs] at h
  | .cons a r, [], h => by simp [mEs] at h
  | .cons a r, x :: xs, h => by
    simp only [mEs, Bool.and_eq_true] at h
    simp only [List.all_cons, Bool.and_eq_true]
    exact ⟨mE_plain T N h.1, mEs_plain h.2⟩
end

def veL : List Value := [.type "ValueError", .type "Exception", .type "BaseException", .type "object"]
/-! ### what holds of the text's top -/
structure Top (K : PySem.W.Frag) (mg : Str → Option Value) (M : Nm) (T : Ns) (L : Lk) (Γ : Ctx) : Prop where
  fl : M.fl = T.fl
  glb : ∀ g ∈ T.gs, ∀ d, Γ.glb g = some d → ∃ u v, mg (T.gN g) = some u ∧ RelV v u ∧ ∀ F, Rep K M F d v
  bi : ∀ b, okBi b = true → mg (nmBi b) = none
  ty : ∀ t, mg (tyN t) = none
  isi : mg "isinstance" = none
  rng : mg "range" = none
  enu : mg "enumerate" = none
  zip : mg "zip" = none
  exc : ∀ c ∈ T.xs, mg (T.cN c) = some (.ref (M.cl c)) ∧ PySem.W.keepIn K (.ref (M.cl c)) = true ∧ PySem.W.excIn K (M.cl c) veL "ValueError.__new__" = true ∧ PySem.W.subIn K (.ref (M.cl c)) (.type "BaseException") = some true ∧ PySem.W.typeIn K (.ref (M.cl c)) = some (.type "type")
  wdx : ∀ c v dw, Γ.wd ⟨c, v⟩ = some dw → c ∈ T.xs ∧ v = .non
  om : M.om = Γ.om
  cls : ∀ c g, Γ.cf c g = true → Cls K (M.cl c) ∧ NoAttr K (M.cl c) (T.fl g) ∧ ∀ g', Γ.cf c g' = true → T.fl g = T.fl g' → g = g'
  meth : ∀ c m f, Γ.meth c m = some f → f ∈ T.fs ∧ Cls K (M.cl c) ∧ Meth K (M.cl c) (T.mN m) (L.fa f) ∧ Γ.dfl f = [] ∧ ∀ g, Γ.cf c g = true → T.fl g ≠ T.mN m
  ini : ∀ c ∈ T.cs, Γ.init c ≠ none
  init : ∀ c f, Γ.init c = some f → f ∈ T.fs ∧ Mk K (M.cl c) (L.fa f) ∧ mg (T.cN c) = some (.ref (M.cl c)) ∧ Γ.dfl f = []
  fn : ∀ f ∈ T.fs, (f ∈ T.ds → mg (T.fN f) = some (.ref (L.fa f)) ∧ PySem.W.keepIn K (.ref (L.fa f)) = true) ∧ ∃ dvs ds, Binds K (L.fd f) (L.ps f) ds ∧ Vals dvs ds ∧ ∀ F, Reps K M F (Γ.dfl f) dvs
/-- a def's promise, by its reckoning -/
def spF (K : PySem.W.Frag) (M : Nm) (call : Nat → List (D × Bool) → CRes) (f np : Nat) : Sp := fun vs H Q E => vs.length = np ∧ ∃ F ext xv args, ext.length = xv.length ∧ args.length = np ∧ Sta K M F H (ext ++ args.map some) (xv ++ vs.map some) ∧
  match call f args with
  | .ret r none => ∀ v F' H', Same F F' → Sta K M F' H' (some r :: ext) (some v :: xv) → Q v H'
  | .ret r (some d) => (∃ d0 rr, args = (d0, true) :: rr) ∧ ∀ v F' H', Same F F' → Sta K M F' H' (some r :: some (d, true) :: ext) (some v :: vs.head? :: xv) → Q v H'
  | .exc x none => ∀ cls d F' H', Same F F' → RepX K M F' x cls d → Sta K M F' H' ext xv → E cls d H'
  | .exc x (some d) => (∃ d0 rr, args = (d0, true) :: rr) ∧ ∀ cls dx F' H', Same F F' → RepX K M F' x cls dx → Sta K M F' H' (some (d, true) :: ext) (vs.head? :: xv) → E cls dx H'
  | .err => False
/-- what an exception must be for its word -/
def EW (K : PySem.W.Frag) (M : Nm) (Γ : Ctx) (cs : List Nat) (Q : VK) : XK := fun cls d H => ∃ c, c ∈ cs ∧ cls = .ref (M.cl c) ∧ d = none ∧ ∃ F es vs dw, Sta K M F H es vs ∧ Γ.wd ⟨c, .non⟩ = some dw ∧ ∀ v F' H', Same F F' → Rep K M F' dw v → Sta K M F' H' es vs → Q v H'
def TTw (K : PySem.W.Frag) (M : Nm) (Γ : Ctx) (cs : List Nat) : (XK → Hp → VK → Prop) → Hp → VK → Prop := fun tl H Q => tl (EW K M Γ cs Q) H fun _ H' => Q .non H'
/-- what is known in the frame that holds lambdas -/
def LamF (X : Cx) (M : Nm) (T : Ns) (Γ : Ctx) : Prop :=
  ∃ (g c P : Addr) (pg : Arguments) (bg : List Stmt) (sg : Scope) (dV kV doc pm cdv ct oc : Value) (an od : Option Addr) (osl : Array (Option Value)) (Ng : List Str),
    X.mg "_law_word" = some (.ref g) ∧ PySem.W.keepIn X.K (.ref g) = true ∧ X.K.lookup g = some ⟨oc, od, .func (PySem.W.fnOf "_law_word" "_law_word" pg bg sg dV kV doc pm an cdv ct), osl⟩ ∧ PySem.W.codeIn X.K cdv "_law_word" = true ∧
    Binds X.K (PySem.W.fnOf "_law_word" "_law_word" pg bg sg dV kV doc pm an cdv ct) ["_law_work"] [] ∧ FnScope Ng ["_law_work"] sg ∧ Ng[0]? = some ("_law_work" : Str) ∧ Vis sg "_law_work" ∧
    LamX.GivesTo X Ng "_law_word" sg g cdv bg "_law_work" (X.env.qual ++ "<lambda>") (TTw X.K M Γ T.xs) ∧ LamX.TabB X.base X.mg c P ∧ X.env.code = .ref c ∧ (P, X.env.qual ++ "<lambda>") ∈ M.tb ∧ ∀ p ∈ M.tb, p.1 = P → p.2 = X.env.qual ++ "<lambda>"
structure XC (X : Cx) (M : Nm) (T : Ns) (L : Lk) (Γ : Ctx) (call : Nat → List (D × Bool) → CRes) (N : List Str) (sc so : Scope) (k : Nat) (W : WX) : Prop where
  hN : X.N = N
  nd : N.Nodup
  scp : X.env.scope = sc
  kind : sc.kind = .function
  sto : ∀ x, stoB so x = true → L2.Loc X.env.scope x ∧ (X.fn x = true ∨ X.env.scope.names.lookup x = some .local)
  calm : X.calm = true
  own : PassesOwn (model X.prog X.w) X.A X.env X.xe
  tk : Takes X W
  room : Room (k + 1) X.A
  top : Top X.K X.mg M T L Γ
  ar : ∀ f ∈ T.fs, ∀ args, call f args ≠ .err → args.length = (L.ps f).length
  fns : ∀ f ∈ T.fs, FnOk X.prog X.w X.K X.mg X.base (L2.CX X.prog X.w) k (L.fa f) (L.fd f) (L.ps f) (spF X.K M call f (L.ps f).length)
  lam : lamB T sc = true → LamF X M T Γ ∧ Room (k + 3) X.A

section
variable {X : Cx} {M : Nm} {T : Ns} {L : Lk} {Γ : Ctx} {call : Nat → List (D × Bool) → CRes} {N : List Str} {sc so : Scope} {k : Nat} {W : WX}

theorem sta_ix {K : PySem.W.Frag} {F H : Hp} {ext : List Sl} {xv : List (Option V)} {σ : L2.St} {env : PL.Fm} {i : Nat} {d : D} {o : Bool} (st : Sta K M F H (ext ++ env) (xv ++ σ)) (hl : ext.length = xv.length) (e : env[i]? = some (some (d, o))) :
    ∃ v fp, σ[i]? = some (some v) ∧ RepO K M F H d o v fp := by
  have e2 : (ext ++ env)[ext.length + i]? = some (some (d, o)) := by
    rw [List.getElem?_append_right (Nat.le_add_right _ _), Nat.add_sub_cancel_left]
    exact e
  obtain ⟨v, fp, a, b⟩ := st.at e2
  rw [List.getElem?_append_right (by omega)] at a
  refine ⟨v, fp, ?_, b⟩
  rw [← a]
  congr 1
  omega
theorem sta_settle {K : PySem.W.Frag} {F H : Hp} {ext : List Sl} {xv : List (Option V)} {σ : L2.St} {env : PL.Fm} {i : Nat} {d : D} {o : Bool} (st : Sta K M F H (ext ++ env) (xv ++ σ)) (hl : ext.length = xv.length) (e : env[i]? = some (some (d, o))) :
    ∃ F' v, Same F F' ∧ σ[i]? = some (some v) ∧ Rep K M F' d v ∧ Sta K M F' H (ext ++ env.set i (some (d, false))) (xv ++ σ) := by
  have e2 : (ext ++ env)[ext.length + i]? = some (some (d, o)) := by
    rw [List.getElem?_append_right (Nat.le_add_right _ _), Nat.add_sub_cancel_left]
    exact e
  obtain ⟨F', v, s, a, b, c⟩ := st.settleAt e2
  rw [List.getElem?_append_right (by omega)] at a
  rw [List.set_append_right _ _ (Nat.le_add_right _ _), Nat.add_sub_cancel_left] at c
  refine ⟨F', v, s, ?_, b, c⟩
  rw [← a]
  congr 1
  omega

theorem s_var (C : XC X M T L Γ call N sc so k W) {i : Nat} {x : Str} {pos : Pos} (h1 : N[i]? = some x) (h2 : visB sc x = true) (h3 : nmOk x = true) : PE X (.Name x pos) ((TEv X.K M Γ call W) (.var i)) := by
  obtain ⟨n1, n2, _⟩ := nmOk_of h3
  refine (pe_var (X := X) (i := i) (by rw [C.hN]; exact h1) (by rw [C.scp]; exact vis_of h2) n1 n2).imp fun σ H Q h => ?_
  obtain ⟨F, ext, xv, env, st, hl, post⟩ := h
  simp only [ev] at post
  split at post
  · rename_i d o e
    cases o with
    | false =>
      obtain ⟨v, fp, a, b⟩ := sta_ix st hl e
      cases b with
      | fz b => exact ⟨v, a, post v F H (Same.refl F) (st.push b)⟩
    | true =>
      obtain ⟨F', v, s, a, b, c⟩ := sta_settle st hl e
      exact ⟨v, a, post v F' H s (c.push b)⟩
  · exact post.elim
theorem s_cst {d : D} {c : Const} {j : Nat} {pos : Pos} (h : mC d c = true) : PE X (.Constant c j pos) ((TEv X.K M Γ call W) (.cst d)) := by
  have go : ∀ {v : V}, (∀ F, Rep X.K M F d v) → ∀ σ H Q, (TEv X.K M Γ call W) (.cst d) σ H Q → tC v σ H Q := fun {v} r σ H Q h => by
    obtain ⟨F, ext, xv, env, st, hl, post⟩ := h
    simp only [ev] at post
    exact post v F H (Same.refl F) (st.push (r F))
  cases d <;> cases c <;> simp only [mC, reduceCtorEq, Bool.false_eq_true] at h
  · exact pe_non.imp (go fun F => .non)
  · rename_i a b
    have e : a = b := by simpa using h
    subst e
    exact pe_bl.imp (go fun F => .bl _)
  · have e := of_decide_eq_true h
    subst e
    exact pe_int.imp (go fun F => .int _)
  · have e := of_decide_eq_true h
    subst e
    exact pe_str.imp (go fun F => .str _)
theorem s_glb (C : XC X M T L Γ call N sc so k W) {g : Nat} {pos : Pos} (h2 : glB sc (T.gN g) = true) (h3 : nmOk (T.gN g) = true) (h4 : g ∈ T.gs) : PE X (.Name (T.gN g) pos) ((TEv X.K M Γ call W) (.glb g)) := by
  obtain ⟨n1, n2, _⟩ := nmOk_of h3
  cases e : Γ.glb g with
  | none =>
    refine ⟨fun pins s σ H Q I h => ?_⟩
    obtain ⟨F, ext, xv, env, st, hl, post⟩ := h
    simp only [ev, e] at post
    exact post.elim
  | some d =>
    obtain ⟨u, v, hu, r, hr⟩ := C.top.glb g h4 d e
    refine (pe_glob (gl_of (by rw [C.scp]; exact h2)) hu r n1).imp fun σ H Q h => ?_
    obtain ⟨F, ext, xv, env, st, hl, post⟩ := h
    simp only [ev, e] at post
    exact post v F H (Same.refl F) (st.push (hr F))
theorem s_bin (C : XC X M T L Γ call N sc so k W) {op : BOp} {a b : E} {x y : Expr} {pos : Pos} (ha : PE X x ((TEv X.K M Γ call W) a)) (hb : PE X y ((TEv X.K M Γ call W) b)) : PE X (.BinOp x (bop op) y pos) ((TEv X.K M Γ call W) (.bin op a b)) := by
  refine (pe_op (op_binX op) ha hb).imp fun σ H Q h => ?_
  obtain ⟨F, ext, xv, env, st, hl, post⟩ := h
  simp only [ev] at post
  obtain ⟨p, e1, h1, post⟩ := post_bind post
  obtain ⟨q, e2, h2, post⟩ := post_bind post
  obtain ⟨z, h3, post⟩ := post_lift post
  refine T_sub st hl h1 fun v F1 H1 s1 r1 st1 => T_sub st1 hl h2 fun w F2 H2 s2 r2 st2 => ?_
  exact bin_okX st2 (r1.mono s2) r2 h3 fun u F3 H3 s3 st3 => post u F3 H3 ((s1.trans s2).trans s3) st3
theorem s_neg (C : XC X M T L Γ call N sc so k W) {a : E} {x : Expr} {pos : Pos} (ha : PE X x ((TEv X.K M Γ call W) a)) : PE X (.UnaryOp .USub x pos) ((TEv X.K M Γ call W) (.neg a)) := by
  refine (pe_un un_neg ha).imp fun σ H Q h => ?_
  obtain ⟨F, ext, xv, env, st, hl, post⟩ := h
  simp only [ev] at post
  obtain ⟨p, e1, h1, post⟩ := post_bind post
  refine T_sub st hl h1 fun v F1 H1 s1 r1 st1 => ?_
  obtain ⟨d, o⟩ := p
  cases d <;> simp only at post r1 <;> try exact post.elim
  cases rep_int r1
  exact ⟨_, rfl, post _ F1 H1 s1 (st1.push (.int _))⟩
theorem cline (C : XC X M T L Γ call N sc so k W) : X.A.units + 65 < cLine := by
  have h := C.room.un
  omega
end
end PL
/-! PLSnd2: comparisons, tests, displays, subscripts. -/
namespace PL
open PySem PySem.Spec PyProof.Rows L2
theorem cmD_nodic {op : COp} {x y : D} {b : Bool} (h : cmD op x y = some b) : isDic y = false := by
  cases y <;> first | rfl | skip
  cases op <;> cases x <;> simp [cmD, Dpk] at h
theorem rdv_of {i : Nat} {env : PL.Fm} {d : D} (h : rdv i env = some d) : (∃ o, env[i]? = some (some (d, o))) ∧ (∀ c fs vs, d ≠ .ins c fs vs) ∧ ∀ a o, d ≠ .obj a o := by
  unfold rdv at h
  split at h
  · cases h
  · cases h
  · rename_i d' o hn hm e
    cases h
    exact ⟨⟨o, e⟩, fun c fs vs q => hn c fs vs q, fun a p q => hm a p q⟩
  · cases h
section
variable {K : PySem.W.Frag} {M : Nm} {F H : Hp} {ext : List Sl} {xv : List (Option V)} {σ : L2.St} {env : PL.Fm}
theorem rdv_at {i : Nat} {d : D} (st : Sta K M F H (ext ++ env) (xv ++ σ)) (hl : ext.length = xv.length) (h : rdv i env = some d) : ∃ v, σ[i]? = some (some v) ∧ Pk K M F H d v := by
  obtain ⟨⟨o, e⟩, hi⟩ := rdv_of h
  obtain ⟨v, fp, a, b⟩ := sta_ix st hl e
  exact ⟨v, a, pk_of b hi⟩
end
theorem lift_of {α β : Type} {o : Option α} {f : α → β} {z : β} {e e' : PL.Fm} (h : (Res.lift (o.map f) e) = .ok z e') : ∃ a, o = some a ∧ z = f a ∧ e' = e := by
  cases o with
  | none => cases h
  | some a =>
    cases h
    exact ⟨a, rfl, rfl, rfl⟩
theorem lift_ok {α : Type} {o : Option α} {a : α} {e e' : PL.Fm} (h : Res.lift o e = .ok a e') : o = some a ∧ e' = e := by
  cases o with
  | none => cases h
  | some a =>
    cases h
    exact ⟨rfl, rfl⟩
section
variable {X : Cx} {M : Nm} {T : Ns} {L : Lk} {Γ : Ctx} {call : Nat → List (D × Bool) → CRes} {N : List Str} {sc so : Scope} {k : Nat} {W : WX}

/-- what a comparison of two parts asks -/
theorem cmp_in {op : COp} {a b : E} {σ : L2.St} {H : Hp} {Q : VK} (h : (TEv X.K M Γ call W) (.cmp op a b) σ H Q) : tOp (rC X.K op) ((TEv X.K M Γ call W) a) ((TEv X.K M Γ call W) b) σ H Q := by
  obtain ⟨F, ext, xv, env, st, hl, post⟩ := h
  simp only [ev] at post
  obtain ⟨p, e1, h1, post⟩ := post_bind post
  obtain ⟨q, e2, h2, post⟩ := post_bind post
  obtain ⟨z, h3, post⟩ := post_lift post
  cases h4 : cmD op p.1 q.1 with
  | none =>
    rw [h4] at h3
    cases h3
  | some c =>
    rw [h4] at h3
    cases h3
    refine T_sub st hl h1 fun v F1 H1 s1 r1 st1 => T_sub st1 hl h2 fun w F2 H2 s2 r2 st2 => ?_
    exact cmp_ok st2.same (.rep (r1.mono s2)) r2 h4 (cmD_nodic h4) (post _ F2 H2 (s1.trans s2) (st2.push (.bl _)))
theorem cmpv_in {op : COp} {i : Nat} {b : E} {σ : L2.St} {H : Hp} {Q : VK} (h : (TEv X.K M Γ call W) (.cmpv op i b) σ H Q) : tOp (rC X.K op) (tVar i) ((TEv X.K M Γ call W) b) σ H Q := by
  obtain ⟨F, ext, xv, env, st, hl, post⟩ := h
  simp only [ev] at post
  obtain ⟨d0, e1, h1, post1⟩ := post_bind post
  obtain ⟨h1, rfl⟩ := lift_ok h1
  obtain ⟨v, hv, _⟩ := rdv_at st hl h1
  obtain ⟨q, e2, h2, post⟩ := post_bind post1
  obtain ⟨z, h3, post⟩ := post_lift post
  cases h5 : rdv i e2 with
  | none =>
    rw [h5] at h3
    cases h3
  | some d =>
    rw [h5] at h3
    simp only [Option.bind_some] at h3
    cases h4 : cmD op d q.1 with
    | none =>
      rw [h4] at h3
      cases h3
    | some c =>
      rw [h4] at h3
      cases h3
      refine ⟨v, hv, T_sub st hl h2 fun w F2 H2 s2 r2 st2 => ?_⟩
      obtain ⟨v', hv', pk⟩ := rdv_at st2 hl h5
      rw [hv] at hv'
      cases hv'
      exact cmp_ok st2.same pk r2 h4 (cmD_nodic h4) (post _ F2 H2 s2 (st2.push (.bl _)))
theorem s_cmp (C : XC X M T L Γ call N sc so k W) {op : COp} {a b : E} {x y : Expr} {pos : Pos} (ha : PE X x ((TEv X.K M Γ call W) a)) (hb : PE X y ((TEv X.K M Γ call W) b)) (hp : plain y = true) : PE X (.Compare x [cop op] [y] pos) ((TEv X.K M Γ call W) (.cmp op a b)) :=
  (pe_cmpR (op_cop (cline C) op) ha hb (plain_marks hp)).imp fun _ _ _ h => cmp_in h
theorem s_pv (C : XC X M T L Γ call N sc so k W) {i : Nat} {x : Str} {pos : Pos} (h1 : N[i]? = some x) (h2 : visB sc x = true) (h3 : nmOk x = true) : PE X (.Name x pos) (tVar i) := by
  obtain ⟨n1, n2, _⟩ := nmOk_of h3
  exact pe_var (X := X) (i := i) (by rw [C.hN]; exact h1) (by rw [C.scp]; exact vis_of h2) n1 n2
theorem s_cmpv (C : XC X M T L Γ call N sc so k W) {op : COp} {i : Nat} {b : E} {x : Str} {y : Expr} {p pos : Pos} (h1 : N[i]? = some x) (h2 : visB sc x = true) (h3 : nmOk x = true) (hb : PE X y ((TEv X.K M Γ call W) b)) (hp : plain y = true) :
    PE X (.Compare (.Name x p) [cop op] [y] pos) ((TEv X.K M Γ call W) (.cmpv op i b)) :=
  (pe_cmpR (op_cop (cline C) op) (s_pv C h1 h2 h3) hb (plain_marks hp)).imp fun _ _ _ h => cmpv_in h
/-- as tests -/
theorem test_of {e : E} {σ : L2.St} {H : Hp} {Q : Bool → Hp → Prop} (h : (TTt X.K M Γ call) e σ H Q) : (TEv X.K M Γ call W) e σ H fun x H' => ∃ k, x = .bl k ∧ Q k H' := by
  obtain ⟨F, ext, xv, env, st, hl, post⟩ := h
  refine ⟨F, ext, xv, env, st, hl, ?_⟩
  unfold PostT at post
  split at post
  · rename_i b o e' he
    rw [he]
    intro v F' H' s st'
    obtain ⟨fp, r⟩ := st'.head
    have : v = .bl b := by
      cases r with
      | fz r => exact rep_bl r
    subst this
    exact ⟨b, rfl, post F' H' s st'.drop⟩
  · exact post.elim
theorem t_cmp (C : XC X M T L Γ call N sc so k W) {op : COp} {a b : E} {x y : Expr} {pos : Pos} (ha : PE X x ((TEv X.K M Γ call W) a)) (hb : PE X y ((TEv X.K M Γ call W) b)) (hp : plain y = true) : PT X (.Compare x [cop op] [y] pos) ((TTt X.K M Γ call) (.cmp op a b)) :=
  (pt_cmpR (op_cop (cline C) op) ha hb (plain_marks hp)).imp fun _ _ _ h => cmp_in (test_of h)
theorem t_cmpv (C : XC X M T L Γ call N sc so k W) {op : COp} {i : Nat} {b : E} {x : Str} {y : Expr} {p pos : Pos} (h1 : N[i]? = some x) (h2 : visB sc x = true) (h3 : nmOk x = true) (hb : PE X y ((TEv X.K M Γ call W) b)) (hp : plain y = true) :
    PT X (.Compare (.Name x p) [cop op] [y] pos) ((TTt X.K M Γ call) (.cmpv op i b)) :=
  (pt_cmpR (op_cop (cline C) op) (s_pv C h1 h2 h3) hb (plain_marks hp)).imp fun _ _ _ h => cmpv_in (test_of h)
theorem t_val {e : E} {x : Expr} (ha : PE X x ((TEv X.K M Γ call W) e)) (he : ∀ whole, isTrue x X.env whole = (do let v ← whole; standAt x.pos; holding [v] (truthy v))) : PT X x ((TTt X.K M Γ call) e) :=
  (pt_val ha he).imp fun _ _ _ h => test_of h

theorem chn_in {o p : COp} {a b c : E} {σ : L2.St} {H : Hp} {Q : VK} (h : (TEv X.K M Γ call W) (.chn o p a b c) σ H Q) : tChain (rC X.K o) (rC X.K p) ((TEv X.K M Γ call W) a) ((TEv X.K M Γ call W) b) ((TEv X.K M Γ call W) c) σ H Q := by
  obtain ⟨F, ext, xv, env, st, hl, post⟩ := h
  simp only [ev] at post
  obtain ⟨x, e1, h1, post⟩ := post_bind post
  obtain ⟨y, e2, h2, post⟩ := post_bind post
  refine T_sub st hl h1 fun v F1 H1 s1 r1 st1 => T_sub st1 hl h2 fun w F2 H2 s2 r2 st2 => ?_
  cases h4 : cmD o x.1 y.1 with
  | none =>
    rw [h4] at post
    exact post.elim
  | some t =>
    rw [h4] at post
    refine cmp_ok st2.same (.rep (r1.mono s2)) r2 h4 (cmD_nodic h4) ⟨t, rfl, ?_⟩
    cases t with
    | false =>
      rw [if_neg Bool.false_ne_true]
      exact post _ F2 H2 (s1.trans s2) (st2.push (.bl _))
    | true =>
      rw [if_pos rfl]
      simp only at post
      obtain ⟨z, e3, h5, post⟩ := post_bind post
      obtain ⟨zz, h3, post⟩ := post_lift post
      cases h6 : cmD p y.1 z.1 with
      | none =>
        rw [h6] at h3
        cases h3
      | some t2 =>
        rw [h6] at h3
        cases h3
        refine T_sub st2 hl h5 fun u F3 H3 s3 r3 st3 => ?_
        exact cmp_ok st3.same (.rep (r2.mono s3)) r3 h6 (cmD_nodic h6) (post _ F3 H3 ((s1.trans s2).trans s3) (st3.push (.bl _)))
theorem s_chn (C : XC X M T L Γ call N sc so k W) {o p : COp} {a b c : E} {x y z : Expr} {pos : Pos} (ha : PE X x ((TEv X.K M Γ call W) a)) (hb : PE X y ((TEv X.K M Γ call W) b)) (hc : PE X z ((TEv X.K M Γ call W) c)) (hp : plain z = true) :
    PE X (.Compare x [cop o, cop p] [y, z] pos) ((TEv X.K M Γ call W) (.chn o p a b c)) :=
  (pe_chain (op_cop (cline C) o) (op_cop (cline C) p) ha hb hc (plain_marks hp)).imp fun _ _ _ h => chn_in h
theorem t_chn (C : XC X M T L Γ call N sc so k W) {o p : COp} {a b c : E} {x y z : Expr} {pos : Pos} (ha : PE X x ((TEv X.K M Γ call W) a)) (hb : PE X y ((TEv X.K M Γ call W) b)) (hc : PE X z ((TEv X.K M Γ call W) c)) (hp : plain z = true) :
    PT X (.Compare x [cop o, cop p] [y, z] pos) ((TTt X.K M Γ call) (.chn o p a b c)) :=
  (pt_chain (op_cop (cline C) o) (op_cop (cline C) p) ha hb hc (plain_marks hp)).imp fun _ _ _ h => chn_in (test_of h)

/-- from a later state of what is settled -/
theorem postT_mono {K : PySem.W.Frag} {F F1 : Hp} {ext : List Sl} {xv : List (Option V)} {σ : L2.St} {r : Res (D × Bool)} {Q : Bool → Hp → Prop} (s : Same F F1) (h : PostT K M F ext xv σ r Q) : PostT K M F1 ext xv σ r Q := by
  unfold PostT at h ⊢
  split at h
  · exact fun F' H' s' st' => h F' H' (s.trans s') st'
  · exact h.elim
theorem postE_mono {K : PySem.W.Frag} {F F1 : Hp} {ext : List Sl} {xv : List (Option V)} {σ : L2.St} {r : Res (D × Bool)} {Q : VK} (s : Same F F1) (h : PostE K M W F ext xv σ r Q) : PostE K M W F1 ext xv σ r Q := by
  unfold PostE at h ⊢
  split at h
  · exact fun v F' H' s' st' => h v F' H' (s.trans s') st'
  · exact fun cls d F' H' s' r st' => h cls d F' H' (s.trans s') r st'
  · exact h.elim
/-! ### and, or, not, if .. else -/
theorem and_in {a b : E} {σ : L2.St} {H : Hp} {Q : VK} (h : (TEv X.K M Γ call W) (.and a b) σ H Q) : tAndV ((TEv X.K M Γ call W) a) ((TEv X.K M Γ call W) b) σ H Q := by
  obtain ⟨F, ext, xv, env, st, hl, post⟩ := h
  simp only [ev] at post
  obtain ⟨x, e1, h1, post⟩ := post_bind post
  refine T_sub st hl h1 fun v F1 H1 s1 r1 st1 => ?_
  obtain ⟨d, o⟩ := x
  cases d <;> simp only at post r1 <;> try exact post.elim
  rename_i c
  cases rep_bl r1
  refine ⟨c, rfl, ?_⟩
  cases c with
  | false =>
    rw [if_neg Bool.false_ne_true]
    exact post _ F1 H1 s1 (st1.push (.bl _))
  | true =>
    rw [if_pos rfl]
    exact ⟨F1, ext, xv, e1, st1, hl, postE_mono s1 post⟩
theorem or_in {a b : E} {σ : L2.St} {H : Hp} {Q : VK} (h : (TEv X.K M Γ call W) (.or a b) σ H Q) : tOrV ((TEv X.K M Γ call W) a) ((TEv X.K M Γ call W) b) σ H Q := by
  obtain ⟨F, ext, xv, env, st, hl, post⟩ := h
  simp only [ev] at post
  obtain ⟨x, e1, h1, post⟩ := post_bind post
  refine T_sub st hl h1 fun v F1 H1 s1 r1 st1 => ?_
  obtain ⟨d, o⟩ := x
  cases d <;> simp only at post r1 <;> try exact post.elim
  rename_i c
  cases rep_bl r1
  refine ⟨c, rfl, ?_⟩
  cases c with
  | true =>
    rw [if_pos rfl]
    exact post _ F1 H1 s1 (st1.push (.bl _))
  | false =>
    rw [if_neg Bool.false_ne_true]
    exact ⟨F1, ext, xv, e1, st1, hl, postE_mono s1 post⟩
theorem andT_in {a b : E} {σ : L2.St} {H : Hp} {Q : Bool → Hp → Prop} (h : (TTt X.K M Γ call) (.and a b) σ H Q) : tAnd ((TTt X.K M Γ call) a) ((TTt X.K M Γ call) b) σ H Q := by
  obtain ⟨F, ext, xv, env, st, hl, post⟩ := h
  simp only [ev] at post
  obtain ⟨x, e1, h1, post⟩ := postT_bind post
  obtain ⟨d, o⟩ := x
  cases d <;> simp only at post <;> try exact post.elim
  rename_i c
  refine Tt_sub st hl h1 fun F1 H1 s1 st1 => ?_
  cases c with
  | false =>
    rw [if_neg Bool.false_ne_true]
    exact post F1 H1 s1 st1
  | true =>
    rw [if_pos rfl]
    exact ⟨F1, ext, xv, e1, st1, hl, postT_mono s1 post⟩
theorem orT_in {a b : E} {σ : L2.St} {H : Hp} {Q : Bool → Hp → Prop} (h : (TTt X.K M Γ call) (.or a b) σ H Q) : tOr ((TTt X.K M Γ call) a) ((TTt X.K M Γ call) b) σ H Q := by
  obtain ⟨F, ext, xv, env, st, hl, post⟩ := h
  simp only [ev] at post
  obtain ⟨x, e1, h1, post⟩ := postT_bind post
  obtain ⟨d, o⟩ := x
  cases d <;> simp only at post <;> try exact post.elim
  rename_i c
  refine Tt_sub st hl h1 fun F1 H1 s1 st1 => ?_
  cases c with
  | true =>
    rw [if_pos rfl]
    exact post F1 H1 s1 st1
  | false =>
    rw [if_neg Bool.false_ne_true]
    exact ⟨F1, ext, xv, e1, st1, hl, postT_mono s1 post⟩
theorem not_in {a : E} {σ : L2.St} {H : Hp} {Q : VK} (h : (TEv X.K M Γ call W) (.not a) σ H Q) : tNotV ((TEv X.K M Γ call W) a) σ H Q := by
  obtain ⟨F, ext, xv, env, st, hl, post⟩ := h
  simp only [ev] at post
  obtain ⟨x, e1, h1, post⟩ := post_bind post
  refine T_sub st hl h1 fun v F1 H1 s1 r1 st1 => ?_
  obtain ⟨d, o⟩ := x
  cases d <;> simp only at post r1 <;> try exact post.elim
  cases rep_bl r1
  exact ⟨_, rfl, post _ F1 H1 s1 (st1.push (.bl _))⟩
theorem notT_in {a : E} {σ : L2.St} {H : Hp} {Q : Bool → Hp → Prop} (h : (TTt X.K M Γ call) (.not a) σ H Q) : tNot ((TTt X.K M Γ call) a) σ H Q := by
  obtain ⟨F, ext, xv, env, st, hl, post⟩ := h
  simp only [ev] at post
  obtain ⟨x, e1, h1, post⟩ := postT_bind post
  obtain ⟨d, o⟩ := x
  cases d <;> simp only at post <;> try exact post.elim
  exact Tt_sub st hl h1 fun F1 H1 s1 st1 => post F1 H1 s1 st1
theorem ifx_in {c a b : E} {σ : L2.St} {H : Hp} {Q : VK} (h : (TEv X.K M Γ call W) (.ifx c a b) σ H Q) : tIf ((TTt X.K M Γ call) c) ((TEv X.K M Γ call W) a) ((TEv X.K M Γ call W) b) σ H Q := by
  obtain ⟨F, ext, xv, env, st, hl, post⟩ := h
  simp only [ev] at post
  obtain ⟨x, e1, h1, post⟩ := post_bind post
  obtain ⟨d, o⟩ := x
  cases d <;> simp only at post <;> try exact post.elim
  rename_i t
  refine Tt_sub st hl h1 fun F1 H1 s1 st1 => ?_
  cases t with
  | true =>
    rw [if_pos rfl]
    exact ⟨F1, ext, xv, e1, st1, hl, postE_mono s1 post⟩
  | false =>
    rw [if_neg Bool.false_ne_true]
    exact ⟨F1, ext, xv, e1, st1, hl, postE_mono s1 post⟩

/-! ### displays, subscripts -/
theorem s_nil : PA X [] ((TEs X.K M Γ call) .nil) := pa_nil.imp fun σ H Q h => by
  obtain ⟨F, ext, xv, env, st, hl, post⟩ := h
  simp only [evs] at post
  exact post [] F H (Same.refl F) .nil st
theorem s_cons {a : E} {r : Es} {x : Expr} {xs : List Expr} (ha : PE X x ((TEv X.K M Γ call W) a)) (hr : PA X xs ((TEs X.K M Γ call) r)) (hp : plain x = true) : PA X (x :: xs) ((TEs X.K M Γ call) (.cons a r)) :=
  (pa_cons ha hr (plain_star hp)).imp fun σ H Q h => by
    obtain ⟨F, ext, xv, env, st, hl, post⟩ := h
    simp only [evs] at post
    obtain ⟨p, e1, h1, post⟩ := postA_bind post
    obtain ⟨ds, e2, h2, post⟩ := postA_bind post
    refine T_sub st hl h1 fun v F1 H1 s1 r1 st1 => Ts_sub st1 hl h2 fun vs F2 H2 s2 r2 st2 => ?_
    exact post _ F2 H2 (s1.trans s2) (.cons (r1.mono s2) r2) st2
theorem s_tup {es : Es} {xs : List Expr} {j : Nat} {pos : Pos} (h : PA X xs ((TEs X.K M Γ call) es)) : PE X (.Tuple xs j pos) ((TEv X.K M Γ call W) (.tup es)) :=
  (pe_tup h).imp fun σ H Q h => by
    obtain ⟨F, ext, xv, env, st, hl, post⟩ := h
    simp only [ev] at post
    obtain ⟨ds, e1, h1, post⟩ := post_bind post
    split at post
    · rename_i hz
      refine Ts_sub st hl h1 fun vs F1 H1 s1 r1 st1 => ?_
      have e := r1.len
      exact ⟨lim_le (by omega), aft_tup st1 r1 (by omega) fun u F' H' s st' => post u F' H' (s1.trans s) st'⟩
    · exact post.elim
theorem s_lst {es : Es} {xs : List Expr} {pos : Pos} (h : PA X xs ((TEs X.K M Γ call) es)) : PE X (.List xs pos) ((TEv X.K M Γ call W) (.lst es)) :=
  (pe_lst h).imp fun σ H Q h => by
    obtain ⟨F, ext, xv, env, st, hl, post⟩ := h
    simp only [ev] at post
    obtain ⟨ds, e1, h1, post⟩ := post_bind post
    split at post
    · rename_i hz
      refine Ts_sub st hl h1 fun vs F1 H1 s1 r1 st1 => ?_
      have e := r1.len
      exact ⟨lim_le (by omega), aft_lst st1 r1 (by omega) fun u F' H' s st' => post u F' H' (s1.trans s) st'⟩
    · exact post.elim
theorem s_idx {a i : E} {x y : Expr} {pos : Pos} (ha : PE X x ((TEv X.K M Γ call W) a)) (hi : PE X y ((TEv X.K M Γ call W) i)) (hp : plain y = true) : PE X (.Subscript x y pos) ((TEv X.K M Γ call W) (.idx a i)) :=
  (pe_ix ix_seq ha hi (plain_ix hp)).imp fun σ H Q h => by
    obtain ⟨F, ext, xv, env, st, hl, post⟩ := h
    simp only [ev] at post
    obtain ⟨p, e1, h1, post⟩ := post_bind post
    obtain ⟨q, e2, h2, post⟩ := post_bind post
    obtain ⟨z, h3, post⟩ := post_lift post
    cases h4 : ixD p.1 q.1 with
    | none =>
      rw [h4] at h3
      cases h3
    | some c =>
      rw [h4] at h3
      cases h3
      refine T_sub st hl h1 fun v F1 H1 s1 r1 st1 => T_sub st1 hl h2 fun w F2 H2 s2 r2 st2 => ?_
      exact ix_ok st2.same (.rep (r1.mono s2)) r2 h4 fun u ru => post u F2 H2 (s1.trans s2) (st2.push ru)
theorem s_idxv (C : XC X M T L Γ call N sc so k W) {i : E} {v : Nat} {x : Str} {y : Expr} {p pos : Pos} (h1 : N[v]? = some x) (h2 : visB sc x = true) (h3 : nmOk x = true) (hi : PE X y ((TEv X.K M Γ call W) i)) (hp : plain y = true) : PE X (.Subscript (.Name x p) y pos) ((TEv X.K M Γ call W) (.idxv v i)) :=
  (pe_ix ix_seq (s_pv C h1 h2 h3) hi (plain_ix hp)).imp fun σ H Q h => by
    obtain ⟨F, ext, xv, env, st, hl, post⟩ := h
    simp only [ev] at post
    obtain ⟨d0, e1, h1, post1⟩ := post_bind post
    obtain ⟨h1, rfl⟩ := lift_ok h1
    obtain ⟨w, hv, _⟩ := rdv_at st hl h1
    obtain ⟨q, e2, h2, post⟩ := post_bind post1
    obtain ⟨z, h3, post⟩ := post_lift post
    cases h5 : rdv v e2 with
    | none =>
      rw [h5] at h3
      cases h3
    | some d =>
      rw [h5] at h3
      simp only [Option.bind_some] at h3
      cases h4 : ixD d q.1 with
      | none =>
        rw [h4] at h3
        cases h3
      | some c =>
        rw [h4] at h3
        cases h3
        refine ⟨w, hv, T_sub st hl h2 fun w' F2 H2 s2 r2 st2 => ?_⟩
        obtain ⟨v', hv', pk⟩ := rdv_at st2 hl h5
        rw [hv] at hv'
        cases hv'
        exact ix_ok st2.same pk r2 h4 fun u ru => post u F2 H2 s2 (st2.push ru)
theorem s_onone : PO X none ((TOo X.K M Γ call) .none) := po_none.imp fun σ H Q h => by
  obtain ⟨F, ext, xv, env, st, hl, post⟩ := h
  simp only [evo] at post
  exact post F H (Same.refl F) st
theorem s_osome {a : E} {x : Expr} (h : PE X x ((TEv X.K M Γ call W) a)) : PO X (some x) ((TOo X.K M Γ call) (.some a)) := (po_some h).imp fun σ H Q h => by
  obtain ⟨F, ext, xv, env, st, hl, post⟩ := h
  simp only [evo] at post
  obtain ⟨p, e1, h1, post⟩ := postO_bind post
  refine T_sub st hl h1 fun v F1 H1 s1 r1 st1 => ?_
  obtain ⟨d, o⟩ := p
  cases d <;> simp only at post r1 <;> try exact post.elim
  cases rep_int r1
  exact ⟨_, rfl, post F1 H1 s1 st1⟩
theorem s_slc {a : E} {lo hi : O} {x : Expr} {l h : Option Expr} {p2 pos : Pos} (ha : PE X x ((TEv X.K M Γ call W) a)) (hl : PO X l ((TOo X.K M Γ call) lo)) (hh : PO X h ((TOo X.K M Γ call) hi)) : PE X (.Subscript x (.Slice l h none p2) pos) ((TEv X.K M Γ call W) (.slc a lo hi)) :=
  (pe_slice (sl_list.or (sl_tupA.or sl_str)) ha hl hh).imp fun σ H Q h => by
    obtain ⟨F, ext, xv, env, st, hl, post⟩ := h
    simp only [ev] at post
    obtain ⟨p, e1, h1, post⟩ := post_bind post
    obtain ⟨l, e2, h2, post⟩ := post_bind post
    obtain ⟨u, e3, h3, post⟩ := post_bind post
    obtain ⟨z, h4, post⟩ := post_lift post
    refine T_sub st hl h1 fun v F1 H1 s1 r1 st1 => To_sub st1 hl h2 fun F2 H2 s2 st2 => To_sub st2 hl h3 fun F3 H3 s3 st3 => ?_
    exact sl_ok st3 (r1.mono (s2.trans s3)) h4 fun u F' H' s st' => post u F' H' (((s1.trans s2).trans s3).trans s) st'
end
end PL
/-! PLSnd3: calls. -/
namespace PL
open PySem PySem.Spec PyProof.Rows L2

def tyS : Ty → String
  | .int => "int" | .bool => "bool" | .str => "str" | .tuple => "tuple" | .list => "list"
def nmD : D → String
  | .non => "NoneType" | .bl _ => "bool" | .int _ => "int" | .str _ => "str" | .tup _ => "tuple" | .lst _ => "list" | _ => ""
theorem boot_ty : ∀ t, bootBuiltins (tyN t) = some (.type (tyS t)) := by
  intro t
  cases t <;> decide +kernel
theorem kit_D {d : D} {l : List Ty} (h : tyD d = some l) (t : Ty) : kitB (nmD d) (tyS t) = some (l.contains t) := by
  cases d <;> simp only [tyD, reduceCtorEq, Option.some.injEq] at h
  all_goals
    subst h
    cases t <;> simp only [nmD, tyS] <;> decide +kernel
section
variable {K : PySem.W.Frag} {M : Nm} {F H : Hp}
theorem tyX_of (e : Same F H) {d : D} {v : V} {l : List Ty} (h : tyD d = some l) (r : Rep K M F d v) : TyX K H v (.type (nmD d)) := by
  cases r <;> simp only [tyD, reduceCtorEq] at h
  · exact .base .non
  · exact .base (.bl _)
  · exact .base (.int _)
  · exact .base (.str _)
  · rename_i a l vs ht z r
    rcases ht with (ht | ⟨o, ht⟩) | ⟨o, its, n, hk, hc, _⟩
    · exact .base (.tup (e _ _ ht))
    · exact .fTuple (e _ _ ht)
    · exact .kTuple hk hc
  · exact .base (.lst (e _ _ (by assumption)))
theorem kit_any (K : PySem.W.Frag) {d : D} {l : List Ty} (h : tyD d = some l) : ∀ ts : List Ty, PySem.W.kitAny K (.type (nmD d)) (ts.map fun t => .type (tyS t)) = some (ts.any fun t => l.contains t)
  | [] => kitAny_nil
  | t :: ts => by
    refine kitAny_cons (kit_ty (kit_D h t)) (fun e => ?_) fun e => ?_
    · rw [List.any_cons, e, Bool.false_or]
      exact kit_any K h ts
    · rw [List.any_cons, e, Bool.true_or]
end
section
variable {X : Cx} {CX : CXT} {k : Nat} {f : Addr} {fd : FuncData} {ps : List Str} {sp : Sp} {E : L2.St → XK} {x : Str} {dvs : List V} {ds : List Value} {p pos : Pos}
theorem pe_callS0 (F : FnOk X.prog X.w X.K X.mg X.base CX k f fd ps sp) (hr : Room k X.A) (hg : Gl X x) (hm : X.mg x = some (.ref f)) (hk : PySem.W.keepIn X.K (.ref f) = true) (hb : Binds X.K fd ps ds) (hd : Vals dvs ds) (hx : ∀ σ, PassesAt CX X σ (E σ))
    (hdb : (x == ("__debug__" : Str)) = false) : PE X (.Call (.Name x p) [] [] pos) (fun σ H Q => sp ([] ++ dvs) H Q (E σ)) := by
  refine ⟨fun pins s σ H Q I h => ?_⟩
  refine wpAny_Call_Name_kw (ld_glob I hg hm ?_ hdb)
  exact PySem.W.callWith_K0 I.kIn hk (run_fnSD (us := []) F hr hb hd (hx σ) I .nil h)
end
section
variable {X : Cx} {M : Nm} {T : Ns} {L : Lk} {Γ : Ctx} {call : Nat → List (D × Bool) → CRes} {N : List Str} {sc so : Scope} {k : Nat} {W : WX}

theorem s_ty (C : XC X M T L Γ call N sc so k W) {t : Ty} {x : Str} {p : Pos} (h : x = tyN t) (hg : glB sc x = true) : PE X (.Name x p) (tC (.ty (tyS t))) := by
  subst h
  exact pe_bltn (gl_of (by rw [C.scp]; exact hg)) (C.top.ty t) (boot_ty t) rfl (by cases t <;> decide) (by cases t <;> decide)
theorem s_tys (C : XC X M T L Γ call N sc so k W) : ∀ {ts : List Ty} {xs : List Expr}, mTy sc ts xs = true → PA X xs (fun σ H Q => Q (ts.map fun t => V.ty (tyS t)) H) ∧ xs.all plain = true
  | [], [], _ => ⟨pa_nil.imp fun σ H Q h => h, rfl⟩
  | t :: ts, x :: xs, h => by
    cases x with
    | Name x p =>
      simp only [mTy, Bool.and_eq_true] at h
      obtain ⟨a, b⟩ := s_tys C h.2
      refine ⟨(pa_cons (s_ty C (of_decide_eq_true h.1.1) h.1.2) a (plain_star rfl)).imp fun σ H Q q => q, ?_⟩
      simp only [List.all_cons, b, Bool.and_true]
      rfl
    | _ => simp [mTy] at h
  | [], _ :: _, h => by simp [mTy] at h
  | _ :: _, [], h => by simp [mTy] at h
theorem isi_in {a : E} {ts : List Ty} {σ : L2.St} {H : Hp} {Q : VK} {R : V → Hp → Prop} (h : (TEv X.K M Γ call W) (.isI a ts) σ H Q)
    (q2 : ∀ v F H' d l (es : List Sl) (vs : List (Option V)), Sta X.K M F H' es vs → tyD d = some l → Rep X.K M F d v → (∀ F'' H'', Same F F'' → Sta X.K M F'' H'' es vs → Q (.bl (ts.any fun t => l.contains t)) H'') → R v H') : (TEv X.K M Γ call W) a σ H R := by
  obtain ⟨F, ext, xv, env, st, hl, post⟩ := h
  simp only [ev] at post
  obtain ⟨p, e1, h1, post⟩ := post_bind post
  obtain ⟨z, h3, post⟩ := post_lift post
  refine T_sub st hl h1 fun v F1 H1 s1 r1 st1 => ?_
  cases h4 : tyD p.1 with
  | none =>
    rw [h4] at h3
    cases h3
  | some l =>
    rw [h4] at h3
    cases h3
    exact q2 v F1 H1 p.1 l _ _ st1 h4 r1 fun F2 H2 s2 st2 => post _ F2 H2 (s1.trans s2) (st2.push (.bl _))
theorem s_isi1 (C : XC X M T L Γ call N sc so k W) {a : E} {t : Ty} {x : Expr} {y : Str} {p q pos : Pos} (hg : glB sc "isinstance" = true) (ha : PE X x ((TEv X.K M Γ call W) a)) (hp : plain x = true) (hy : y = tyN t) (hgy : glB sc y = true) :
    PE X (.Call (.Name "isinstance" p) [x, .Name y q] [] pos) ((TEv X.K M Γ call W) (.isI a [t])) := by
  refine (pe_callB call_isi (gl_of (by rw [C.scp]; exact hg)) C.top.isi (by decide +kernel) (pa_cons ha (pa_cons (s_ty C hy hgy) pa_nil (plain_star rfl)) (plain_star hp)) (by decide) (by decide) (plain_star hp) (stars_none rfl)).imp fun σ H Q h => ?_
  refine isi_in h fun v F' H' d l es vs st e r k => ?_
  refine ⟨v, .ty (tyS t), _, .type (tyS t), _, rfl, .ty _, tyX_of st.same e r, kit_ty (kit_D e t), ?_⟩
  simpa using k F' H' (Same.refl _) st
theorem cls_tys : ∀ ts : List Ty, Paired ClsV (ts.map fun t => V.ty (tyS t)) (ts.map fun t => Value.type (tyS t))
  | [] => .nil
  | _ :: ts => .cons (.ty _) (cls_tys ts)
theorem s_isiT (C : XC X M T L Γ call N sc so k W) {a : E} {ts : List Ty} {x : Expr} {ys : List Expr} {j : Nat} {p q pos : Pos} (hg : glB sc "isinstance" = true) (ha : PE X x ((TEv X.K M Γ call W) a)) (hp : plain x = true) (hy : mTy sc ts ys = true) (hz : ts.length ≤ 8) :
    PE X (.Call (.Name "isinstance" p) [x, .Tuple ys j q] [] pos) ((TEv X.K M Γ call W) (.isI a ts)) := by
  obtain ⟨hys, hps⟩ := s_tys C hy
  refine (pe_callB call_isiT (gl_of (by rw [C.scp]; exact hg)) C.top.isi (by decide +kernel) (pa_cons ha (pa_cons (pe_tup hys) pa_nil (plain_star rfl)) (plain_star hp)) (by decide) (by decide) (plain_star hp) (stars_none rfl)).imp fun σ H Q h => ?_
  refine isi_in h fun v F' H' d l es vs st e r k => ?_
  · refine ⟨?_, fun tp htp => ?_⟩
    · rw [List.length_map]
      exact lim_le (Nat.le_trans hz (by decide))
    · have st' := st.new (ob := .tup (ts.map fun t => V.ty (tyS t))) htp
      have sf : Same F' (upd F' tp (.tup (ts.map fun t => V.ty (tyS t)))) := same_new (st.free htp)
      exact ⟨v, tp, _, _, _, _, rfl, upd_same, cls_tys ts, tyX_of st'.same e (r.mono sf), kit_any _ e ts, k _ _ sf st'⟩

/-! ### calls of built-in functions, of defs -/
theorem s_bi (C : XC X M T L Γ call N sc so k W) {b : Bi} {es : Es} {x : Expr} {xs : List Expr} {p pos : Pos} (hb : okBi b = true) (hg : glB sc (nmBi b) = true) (ha : PA X (x :: xs) ((TEs X.K M Γ call) es)) (hp : (x :: xs).all plain = true) :
    PE X (.Call (.Name (nmBi b) p) (x :: xs) [] pos) ((TEv X.K M Γ call W) (.bi b es)) := by
  have hp1 : plain x = true ∧ xs.all plain = true := by simpa using hp
  have hn : nmBi b ≠ "__name__" := by cases b <;> decide
  have hd : (nmBi b == ("__debug__" : Str)) = false := by cases b <;> decide
  have go : ∀ σ H Q, (TEv X.K M Γ call W) (.bi b es) σ H Q → tCB (rBi X.K b) ((TEs X.K M Γ call) es) σ H Q := fun σ H Q h => by
    obtain ⟨F, ext, xv, env, st, hl, post⟩ := h
    simp only [ev] at post
    obtain ⟨ds, e1, h1, post⟩ := post_bind post
    obtain ⟨z, h2, post⟩ := post_lift post
    refine Ts_sub st hl h1 fun vs F1 H1 s1 r1 st1 => ?_
    exact bi_ok st1 r1 h2 hb fun u F' H' s st' => post u F' H' (s1.trans s) st'
  have hv := boot_bi b hb
  have hc := cr_bi C.calm b hb
  generalize hf : fvBi b = f at hv hc
  cases b <;> simp only [fvBi] at hf <;> subst hf <;> first
    | exact (pe_callB hc (gl_of (by rw [C.scp]; exact hg)) (C.top.bi _ hb) hv ha hn hd (plain_star hp1.1) (stars_none hp1.2)).imp go
    | exact (pe_callTy hc (gl_of (by rw [C.scp]; exact hg)) (C.top.bi _ hb) hv ha hn hd (plain_star hp1.1) (stars_none hp1.2)).imp go
    | (simp [okBi] at hb; done)
theorem s_bm {m : Bm} {o a : E} {x y : Expr} {ap cp : Pos} (hb : okBm m = true) (hl : (ap.endLine == cp.line) = true) (hx : bsOk x = true) (ho : PE X x ((TEv X.K M Γ call W) o)) (ha : PE X y ((TEv X.K M Γ call W) a)) (hp : plain y = true) :
    PE X (.Call (.Attribute x (nmBm m) ap) [y] [] cp) ((TEv X.K M Γ call W) (.bm m o a)) := by
  refine (pe_tbm hb ho ha (plain_star hp) (fun nm => bsOk_of hx nm) hl).imp fun σ H Q h => ?_
  obtain ⟨F, ext, xv, env, st, hl, post⟩ := h
  simp only [ev] at post
  obtain ⟨p, e1, h1, post⟩ := post_bind post
  obtain ⟨q, e2, h4, post⟩ := post_bind post
  obtain ⟨z, h3, post⟩ := post_lift post
  obtain ⟨t, ht⟩ := bm_str h3 hb
  refine T_sub st hl h1 fun v F1 H1 s1 r1 st1 => ⟨?_, T_sub st1 hl h4 fun w F2 H2 s2 r2 st2 => ?_⟩
  · rw [ht] at r1
    exact ⟨t, rep_str r1⟩
  · exact bm_ok st2 (r1.mono s2) (.cons r2 .nil) h3 hb fun u F' H' s st' => post u F' H' ((s1.trans s2).trans s) st'
/-- what is behind a call of a def whose arguments are settled -/
theorem call_in {f n : Nat} {ds : List D} {vs : List V} {F H : Hp} {es : List Sl} {ws : List (Option V)} {Q : VK} {E : XK} (st : Sta X.K M F H es ws) (r : Reps X.K M F ds vs) (hn : ds.length = n)
    {rr : D × Bool} (h : call f (ds.map fun d => (d, false)) = .ret rr none) (post : ∀ v F' H', Same F F' → Sta X.K M F' H' (some rr :: es) (some v :: ws) → Q v H') : spF X.K M call f n vs H Q E := by
  refine ⟨by rw [← r.len]; exact hn, F, es, ws, ds.map fun d => (d, false), st.len, ?_, st.args r, ?_⟩
  · rw [List.length_map]
    exact hn
  · rw [h]
    exact post
/-- a call that lets an exception out -/
theorem callX_in {f n : Nat} {ds : List D} {vs : List V} {F H : Hp} {es : List Sl} {ws : List (Option V)} {Q : VK} {E : XK} (st : Sta X.K M F H es ws) (r : Reps X.K M F ds vs) (hn : ds.length = n)
    {x : Exn} (h : call f (ds.map fun d => (d, false)) = .exc x none) (post : ∀ cls d F' H', Same F F' → RepX X.K M F' x cls d → Sta X.K M F' H' es ws → E cls d H') : spF X.K M call f n vs H Q E := by
  refine ⟨by rw [← r.len]; exact hn, F, es, ws, ds.map fun d => (d, false), st.len, ?_, st.args r, ?_⟩
  · rw [List.length_map]
    exact hn
  · rw [h]
    exact post
theorem fn_in (C : XC X M T L Γ call N sc so k W) {f : Nat} {es : Es} (hf : f ∈ T.fs) {dvs : List V} (hd : ∀ F, Reps X.K M F (Γ.dfl f) dvs) {σ : L2.St} {H : Hp} {Q : VK} (h : (TEv X.K M Γ call W) (.fn f es) σ H Q) : (TEs X.K M Γ call) es σ H fun vs H1 => spF X.K M call f (L.ps f).length (vs ++ dvs) H1 Q (WE W σ) := by
  obtain ⟨F, ext, xv, env, st, hl, post⟩ := h
  simp only [ev] at post
  obtain ⟨ds, e1, h1, post⟩ := post_bind post
  refine Ts_sub st hl h1 fun vs F1 H1 s1 r1 st1 => ?_
  split at post
  · rename_i r hr
    refine call_in st1 (r1.app (hd F1)) ?_ hr fun v F' H' s st' => post v F' H' (s1.trans s) st'
    have := C.ar f hf _ (by rw [hr]; exact fun z => nomatch z)
    rw [List.length_map] at this
    exact this
  · rename_i x hr
    refine callX_in st1 (r1.app (hd F1)) ?_ hr fun cls d F' H' s rx st' => post cls d F' H' (s1.trans s) rx st'
    have := C.ar f hf _ (by rw [hr]; exact fun z => nomatch z)
    rw [List.length_map] at this
    exact this
  · exact post.elim
theorem nil_in {σ : L2.St} {H : Hp} {R : List V → Hp → Prop} (h : (TEs X.K M Γ call) .nil σ H R) : R [] H := by
  obtain ⟨F, ext, xv, env, st, hl, post⟩ := h
  simp only [evs] at post
  exact post [] F H (Same.refl F) .nil st
theorem s_fn (C : XC X M T L Γ call N sc so k W) {f : Nat} {es : Es} {xs : List Expr} {p pos : Pos} (hg : glB sc (T.fN f) = true) (hn : nmOk (T.fN f) = true) (hf : f ∈ T.fs) (hfd : f ∈ T.ds) (ha : PA X xs ((TEs X.K M Γ call) es)) (hp : xs.all plain = true) (hz : xs = [] → es = .nil) :
    PE X (.Call (.Name (T.fN f) p) xs [] pos) ((TEv X.K M Γ call W) (.fn f es)) := by
  obtain ⟨h0, dvs, ds, hb, hd, hr⟩ := C.top.fn f hf
  obtain ⟨h1, h2⟩ := h0 hfd
  obtain ⟨n1, _, _⟩ := nmOk_of hn
  have hro : Room k X.A := C.room.mono (Nat.le_succ k)
  cases xs with
  | nil =>
    obtain rfl := hz rfl
    exact (pe_callS0 (E := WE W) (C.fns f hf) hro (gl_of (by rw [C.scp]; exact hg)) h1 h2 hb hd (passAt C.tk) n1).imp fun σ H Q h => nil_in (fn_in C hf hr h)
  | cons x xs =>
    have hp1 : plain x = true ∧ xs.all plain = true := by simpa using hp
    exact (pe_callSD (E := WE W) (C.fns f hf) hro (gl_of (by rw [C.scp]; exact hg)) h1 h2 hb hd (passAt C.tk) ha n1 (plain_star hp1.1) (stars_none hp1.2)).imp fun σ H Q h => fn_in C hf hr h
theorem set_app {α : Type} {a b : List α} {i : Nat} {x : α} : (a ++ b).set (a.length + i) x = a ++ b.set i x := by
  rw [List.set_append_right _ _ (Nat.le_add_right _ _), Nat.add_sub_cancel_left]
/-- a frame's thing is taken out, and put back -/
theorem sta_out {K : PySem.W.Frag} {F H : Hp} {ext : List Sl} {xv : List (Option V)} {σ : L2.St} {env : PL.Fm} {i : Nat} {d : D} {o : Bool} (st : Sta K M F H (ext ++ env) (xv ++ σ)) (hl : ext.length = xv.length) (e : env[i]? = some (some (d, o))) :
    ∃ v, σ[i]? = some (some v) ∧ Sta K M F H (some (d, o) :: (ext ++ env.set i none)) (some v :: (xv ++ σ)) := by
  have e2 : (ext ++ env)[ext.length + i]? = some (some (d, o)) := by
    rw [List.getElem?_append_right (Nat.le_add_right _ _), Nat.add_sub_cancel_left]
    exact e
  obtain ⟨v, a, b⟩ := st.take e2
  rw [List.getElem?_append_right (by omega)] at a
  rw [set_app] at b
  refine ⟨v, ?_, b⟩
  rw [← a]
  congr 1
  omega
theorem sta_in {K : PySem.W.Frag} {F H : Hp} {ext : List Sl} {xv : List (Option V)} {σ : L2.St} {env : PL.Fm} {i : Nat} {d : D} {o : Bool} {v : V} (st : Sta K M F H (some (d, o) :: (ext ++ env)) (some v :: (xv ++ σ))) (hl : ext.length = xv.length) (hi : i < env.length) :
    Sta K M F H (ext ++ env.set i (some (d, o))) (xv ++ σ.set i (some v)) := by
  have q := st.put (i := ext.length + i) (by rw [List.length_append]; omega)
  rw [set_app, hl, set_app] at q
  exact q
theorem sta_in1 {K : PySem.W.Frag} {F H : Hp} {ext : List Sl} {xv : List (Option V)} {σ : L2.St} {env : PL.Fm} {i : Nat} {d : D} {o : Bool} {v : V} {r : D × Bool} {u : V} (st : Sta K M F H (some r :: some (d, o) :: (ext ++ env)) (some u :: some v :: (xv ++ σ))) (hl : ext.length = xv.length) (hi : i < env.length) :
    Sta K M F H (some r :: (ext ++ env.set i (some (d, o)))) (some u :: (xv ++ σ.set i (some v))) := by
  obtain ⟨r1, r2⟩ := r
  exact sta_in (ext := some (r1, r2) :: ext) (xv := some u :: xv) st.swap (by simp [hl]) hi
theorem s_fnv (C : XC X M T L Γ call N sc so k W) {f v : Nat} {es : Es} {x : Str} {xs : List Expr} {p q pos : Pos} (hg : glB sc (T.fN f) = true) (hn : nmOk (T.fN f) = true) (hf : f ∈ T.fs) (hfd : f ∈ T.ds) (h1 : N[v]? = some x) (h2 : visB sc x = true) (h3 : nmOk x = true)
    (ha : PA X xs ((TEs X.K M Γ call) es)) (hp : xs.all plain = true) : PE X (.Call (.Name (T.fN f) p) (.Name x q :: xs) [] pos) ((TEv X.K M Γ call W) (.fnv f v es)) := by
  obtain ⟨h0, dvs, ds, hb, hd, hr⟩ := C.top.fn f hf
  obtain ⟨g1, g2⟩ := h0 hfd
  obtain ⟨n1, _, _⟩ := nmOk_of hn
  have hro : Room k X.A := C.room.mono (Nat.le_succ k)
  refine (pe_callSD (E := WE W) (C.fns f hf) hro (gl_of (by rw [C.scp]; exact hg)) g1 g2 hb hd (passAt C.tk) (pa_cons (s_pv C h1 h2 h3) ha (plain_star rfl)) n1 (plain_star rfl) (stars_none hp)).imp fun σ H Q h => ?_
  obtain ⟨F, ext, xv, env, st, hl, post⟩ := h
  simp only [ev] at post
  obtain ⟨d0, e0, hh, post1⟩ := post_bind post
  obtain ⟨hh, rfl⟩ := lift_ok hh
  obtain ⟨w, hw, _⟩ := rdv_at st hl hh
  obtain ⟨us, e1, hu, post2⟩ := post_bind post1
  refine ⟨w, hw, Ts_sub st hl hu fun vs F1 H1 s1 r1 st1 => ?_⟩
  split at post2
  · rename_i d hd1
    obtain ⟨w', hw', st2⟩ := sta_out st1 hl hd1
    rw [hw] at hw'
    cases hw'
    split at post2
    · rename_i rr d' hr'
      have len := C.ar f hf _ (by rw [hr']; exact fun z => nomatch z)
      rw [List.length_cons, List.length_map] at len
      have rv := r1.app (hr F1)
      refine ⟨?_, F1, ext ++ e1.set v none, xv ++ σ, (d, true) :: (us ++ Γ.dfl f).map fun d => (d, false), st2.drop.len, ?_, ?_, ?_⟩
      · rw [← len, rv.len]
        rfl
      · rw [List.length_cons, List.length_map]
        exact len
      · have q := st2.last.args rv
        rw [List.append_assoc (ext ++ e1.set v none), List.append_assoc (xv ++ σ)] at q
        exact q
      · rw [hr']
        refine ⟨⟨_, _, rfl⟩, fun u F' H' s st' => ?_⟩
        have hi : v < (e1.set v none).length := by
          rw [List.length_set]
          exact (List.getElem?_eq_some_iff.mp hd1).1
        have q := sta_in1 st' hl hi
        rw [List.set_set, set_same_of hw] at q
        exact post2 u F' H' (s1.trans s) q
    · rename_i z d' hr'
      have len := C.ar f hf _ (by rw [hr']; exact fun z => nomatch z)
      rw [List.length_cons, List.length_map] at len
      have rv := r1.app (hr F1)
      refine ⟨?_, F1, ext ++ e1.set v none, xv ++ σ, (d, true) :: (us ++ Γ.dfl f).map fun d => (d, false), st2.drop.len, ?_, ?_, ?_⟩
      · rw [← len, rv.len]
        rfl
      · rw [List.length_cons, List.length_map]
        exact len
      · have q := st2.last.args rv
        rw [List.append_assoc (ext ++ e1.set v none), List.append_assoc (xv ++ σ)] at q
        exact q
      · rw [hr']
        refine ⟨⟨_, _, rfl⟩, fun cls dx F' H' s rx st' => ?_⟩
        have hi : v < (e1.set v none).length := by
          rw [List.length_set]
          exact (List.getElem?_eq_some_iff.mp hd1).1
        have q := sta_in st' hl hi
        rw [List.set_set, set_same_of hw] at q
        exact post2 cls dx F' H' (s1.trans s) rx q
    · exact post2.elim
  · exact post2.elim
end
end PL
/-! PLCls: attributes of instances, read and stored; methods; instances made. -/
namespace PL
open PySem PySem.Spec PyProof.Rows L2

/-! ### fields -/
section
variable {K : PySem.W.Frag} {M : Nm} {F H : Hp}
theorem fget_at {d : D} {f : Nat} : ∀ {fs : List Nat} {vs : List D}, fget fs vs f = some d → ∃ i : Nat, fs[i]? = some f ∧ vs[i]? = some d ∧ ∀ j : Nat, j < i → fs[j]? ≠ some f
  | [], _, h => by simp [fget] at h
  | _ :: _, [], h => by simp [fget] at h
  | g :: gs, v :: vs, h => by
    unfold fget at h
    split at h
    · rename_i e
      cases h
      exact ⟨0, by simp [e], rfl, fun j hj => by omega⟩
    · rename_i e
      obtain ⟨i, h1, h2, h3⟩ := fget_at h
      refine ⟨i + 1, by simpa using h1, by simpa using h2, fun j hj => ?_⟩
      cases j with
      | zero => simpa using e
      | succ j => simpa using h3 j (by omega)
theorem lookup_at {α : Type} {n : Str} {v : α} : ∀ {kvs : List (Str × α)} {i : Nat}, (kvs.map (·.1))[i]? = some n → (kvs.map (·.2))[i]? = some v → (∀ j : Nat, j < i → (kvs.map (·.1))[j]? ≠ some n) → kvs.lookup n = some v
  | [], i, h, _, _ => by simp at h
  | (a, b) :: r, 0, h1, h2, _ => by
    simp at h1 h2
    subst h1 h2
    simp [List.lookup]
  | (a, b) :: r, i + 1, h1, h2, h3 => by
    have ne : (n == a) = false := by
      rw [beq_eq_false_iff_ne]
      intro e
      exact h3 0 (by omega) (by simp [e])
    rw [List.lookup_cons, ne]
    exact lookup_at (kvs := r) (i := i) (by simpa using h1) (by simpa using h2) fun j hj => by
      have := h3 (j + 1) (by omega)
      simpa using this
/-- the heap's attribute of that name -/
theorem fld_lookup {c : Nat} {fs : List Nat} {vs : List D} {kvs : List (Str × V)} {f : Nat} {d : D} {cf : Nat → Bool} {fl : Nat → Str} (e : kvs.map (·.1) = fs.map fl) (hall : fs.all cf = true) (hf : cf f = true) (inj : ∀ g, cf g = true → fl f = fl g → f = g) (h : fget fs vs f = some d) :
    ∃ i : Nat, fs[i]? = some f ∧ vs[i]? = some d ∧ ∀ v : V, (kvs.map (·.2))[i]? = some v → kvs.lookup (fl f) = some v := by
  obtain ⟨i, h1, h2, h3⟩ := fget_at h
  refine ⟨i, h1, h2, fun v hv => lookup_at (kvs := kvs) (i := i) (by rw [e, List.getElem?_map, h1]; rfl) hv fun j hj z => ?_⟩
  rw [e, List.getElem?_map] at z
  cases q : fs[j]? with
  | none =>
    rw [q] at z
    cases z
  | some g =>
    rw [q] at z
    have cg : cf g = true := List.all_eq_true.mp hall g (List.mem_of_getElem? q)
    have := inj g cg (Option.some.inj z).symm
    exact h3 j hj (by rw [q, this])
theorem RepOs.get : ∀ {os : List Bool} {ds : List D} {vs : List V} {fp : List Addr} {i : Nat} {d : D}, RepOs K M F H os ds vs fp → ds[i]? = some d → ∃ o v fq, os[i]? = some o ∧ vs[i]? = some v ∧ RepO K M F H d o v fq
  | _, _, _, _, _, _, .nil, h => by simp at h
  | _, _, _, _, 0, _, .cons a r, h => by
    simp at h
    subst h
    exact ⟨_, _, _, rfl, rfl, a⟩
  | _, _, _, _, i + 1, _, .cons a r, h => by
    obtain ⟨o, v, fq, h1, h2, h3⟩ := RepOs.get (i := i) r (by simpa using h)
    exact ⟨o, v, fq, by simpa using h1, by simpa using h2, h3⟩
end

/-- what the machine reads at a path -/
inductive PV (K : PySem.W.Frag) (fl : Nat → Str) (σ : L2.St) (H : Hp) : E → V → Prop where
  | var {i : Nat} {v : V} (h : σ[i]? = some (some v)) : PV K fl σ H (.var i) v
  | atr {p : E} {f : Nat} {a C dx : Addr} {kvs : List (Str × V)} {v : V} (h : PV K fl σ H p (.ref a)) (e : H a = some (.ins C dx kvs)) (c : Cls K C) (n : NoAttr K C (fl f)) (l : kvs.lookup (fl f) = some v) : PV K fl σ H (.atr p f) v
section
variable {X : Cx} {M : Nm} {T : Ns} {L : Lk} {Γ : Ctx} {call : Nat → List (D × Bool) → CRes} {N : List Str} {sc so : Scope} {k : Nat} {W : WX}

theorem mP_base {p : E} {x : Expr} (h : mP T N sc p x = true) (nm : Str) {env : PySem.Env} : attributeBase x nm env (eval x env) = eval x env := by
  cases p <;> cases x <;> first | rfl | (simp [mP] at h; done)
theorem p_path (C : XC X M T L Γ call N sc so k W) : ∀ {p : E} {x : Expr}, mP T N sc p x = true → PE X x (fun σ H Q => ∃ v, PV X.K T.fl σ H p v ∧ Q v H)
  | .var i, .Name x pos, h => by
    simp only [mP, Bool.and_eq_true] at h
    refine (s_pv C (of_decide_eq_true h.1.1) h.1.2 h.2).imp fun σ H Q q => ?_
    obtain ⟨v, q, r⟩ := q
    cases q with
    | var q => exact ⟨v, q, r⟩
  | .atr p f, .Attribute x nm pos, h => by
    simp only [mP, Bool.and_eq_true] at h
    obtain ⟨h1, h2⟩ := h
    obtain rfl := of_decide_eq_true h1
    refine (pe_fld (p_path C h2) (mP_base h2 _)).imp fun σ H Q q => ?_
    obtain ⟨v, q, r⟩ := q
    cases q with
    | atr q e c n l => exact ⟨_, q, _, _, _, _, _, rfl, e, c, n, l, r⟩
theorem pth_val (top : Top X.K X.mg M T L Γ) {F H : Hp} {ext : List Sl} {xv : List (Option V)} {σ : L2.St} {env : PL.Fm} (st : Sta X.K M F H (ext ++ env) (xv ++ σ)) (hl : ext.length = xv.length) : ∀ {p : E} {d : D} {o : Bool}, pth Γ p env = some (d, o) → ∃ v fp, PV X.K T.fl σ H p v ∧ RepO X.K M F H d o v fp
  | .var i, d, o, h => by
    simp only [pth] at h
    split at h
    · rename_i s e
      cases h
      obtain ⟨v, fp, a, b⟩ := sta_ix st hl e
      exact ⟨v, fp, .var a, b⟩
    · cases h
  | .atr p f, d, o, h => by
    simp only [pth] at h
    split at h
    · rename_i c fs vs o' hp
      split at h
      · rename_i hc
        simp only [Bool.and_eq_true] at hc
        obtain ⟨d', hd, e⟩ := Option.map_eq_some_iff.mp h
        cases e
        obtain ⟨c1, c2, c3⟩ := top.cls c f hc.2
        obtain ⟨v, fp, pv, ro⟩ := pth_val top st hl hp
        cases ro with
        | fz r =>
          cases r with
          | ins ha ek r =>
            rw [top.fl] at ek
            obtain ⟨i, h1, h2, h3⟩ := fld_lookup (c := c) ek hc.1 hc.2 c3 hd
            obtain ⟨v, h4, h5⟩ := r.get h2
            refine ⟨v, [], .atr pv (st.same _ _ ha) c1 c2 (h3 v h4), ?_⟩
            rw [Bool.false_and]
            exact .fz h5
        | ins ha ek r =>
          rw [top.fl] at ek
          obtain ⟨i, h1, h2, h3⟩ := fld_lookup (c := c) ek hc.1 hc.2 c3 hd
          obtain ⟨o, v, fq, h4, h5, h6⟩ := r.get h2
          rw [List.getElem?_map, h1, top.om] at h4
          have h4 : Γ.om c f = o := Option.some.inj h4
          refine ⟨v, fq, .atr pv ha c1 c2 (h3 v h5), ?_⟩
          rw [Bool.true_and, h4]
          exact h6
      · cases h
    · cases h
theorem pth_frz {env : PL.Fm} : ∀ {p : E} {d : D} {o : Bool}, pth Γ p env = some (d, o) → pth Γ p (frzS (rtP p) env) = some (d, false)
  | .var i, d, o, h => by
    simp only [pth] at h
    split at h
    · rename_i s e
      cases h
      have hi : i < env.length := (List.getElem?_eq_some_iff.mp e).1
      have ef : frzS i env = env.set i (some (d, false)) := by
        simp only [frzS]
        rw [e]
      show pth Γ (.var i) (frzS i env) = _
      rw [ef]
      simp [hi]
    · cases h
  | .atr p f, d, o, h => by
    simp only [pth] at h
    split at h
    · rename_i c fs vs o' hp
      have ih := pth_frz hp
      simp only [pth, rtP]
      rw [ih]
      dsimp only
      split at h
      · rename_i hc
        rw [if_pos hc]
        obtain ⟨d', hd, e⟩ := Option.map_eq_some_iff.mp h
        cases e
        rw [hd]
        rfl
      · cases h
    · cases h
theorem pth_root {env : PL.Fm} : ∀ {p : E} {d : D} {o : Bool}, pth Γ p env = some (d, o) → ∃ s, env[rtP p]? = some (some s)
  | .var i, d, o, h => by
    simp only [pth] at h
    split at h
    · rename_i s e
      exact ⟨s, e⟩
    · cases h
  | .atr p f, d, o, h => by
    simp only [pth] at h
    split at h
    · rename_i c fs vs o' hp
      have z := pth_root hp
      exact z
    · cases h
theorem s_atr (C : XC X M T L Γ call N sc so k W) {p : E} {f : Nat} {x : Expr} {pos : Pos} (h : mP T N sc p x = true) : PE X (.Attribute x (T.fl f) pos) ((TEv X.K M Γ call W) (.atr p f)) := by
  refine (p_path C (p := .atr p f) (x := .Attribute x (T.fl f) pos) (by simp [mP, h])).imp fun σ H Q q => ?_
  obtain ⟨F, ext, xv, env, st, hl, post⟩ := q
  have e0 : ev Γ call (.atr p f) env = match pth Γ (.atr p f) env with | some (d, o) => .ok (d, false) (if o = true then frzS (rtP p) env else env) | none => .err := by
    first | (simp only [ev]; done) | (simp only [ev]; cases pth Γ (.atr p f) env <;> rfl)
  rw [e0] at post
  cases hp : pth Γ (.atr p f) env with
  | none =>
    rw [hp] at post
    exact post.elim
  | some r =>
    obtain ⟨d, o⟩ := r
    rw [hp] at post
    dsimp only at post
    cases o with
    | false =>
      rw [if_neg Bool.false_ne_true] at post
      obtain ⟨v, fp, pv, ro⟩ := pth_val C.top st hl hp
      cases ro with
      | fz r => exact ⟨v, pv, post v F H (Same.refl F) (st.push r)⟩
    | true =>
      obtain ⟨⟨d0, o0⟩, hr⟩ := pth_root hp
      obtain ⟨F', v0, s, a, b, c⟩ := sta_settle st hl hr
      have hp2 := pth_frz hp
      have ef : frzS (rtP (.atr p f)) env = env.set (rtP (.atr p f)) (some (d0, false)) := by
        simp only [frzS]
        rw [hr]
      rw [ef] at hp2
      obtain ⟨v, fp, pv, ro⟩ := pth_val C.top c hl hp2
      cases ro with
      | fz r =>
        refine ⟨v, pv, ?_⟩
        rw [if_pos rfl, show rtP p = rtP (.atr p f) from rfl, ef] at post
        exact post v F' H s (c.push r)

/-! ### methods -/
section
variable {X : Cx} {CX : CXT} {k : Nat} {f C : Addr} {fd : FuncData} {ps : List Str} {sp : Sp} {E : L2.St → XK} {x m : Str} {dvs : List V} {ds : List Value} {p pos apos : Pos} {o e : Expr} {es : List Expr} {ta : TE} {t : TA}
/-- o.m(..) of an instance of the class at C, what is raised wished for at the caller's slots -/
def tMethS (C : Addr) (m : Str) (sp : Sp) (dvs : List V) (E : L2.St → XK) (ta : TE) (t : TA) : TE := fun σ H Q => ta σ H fun x H1 => ∃ a dx fs, x = .ref a ∧ H1 a = some (.ins C dx fs) ∧ fs.lookup m = none ∧
  t σ H1 fun vs H2 => sp (x :: (vs ++ dvs)) H2 Q (E σ)
theorem pe_methSD {pl : Sem Bool} (he : PE X o ta) (c : Cls X.K C) (hmm : Meth X.K C m f) (F : FnOk X.prog X.w X.K X.mg X.base CX k f fd ps sp) (hr : Room k X.A) (hb : Binds X.K fd ps ds) (hd : Vals dvs ds) (hx : ∀ σ, PassesAt CX X σ (E σ)) (ha : PA X (e :: es) t)
    (hst : starEach (e :: es) X.env = (false, eval e X.env) :: starEach es X.env) (hpl : (backTo pos (starEach es X.env)).any (·.1) = false)
    (ht : eval (.Call (.Attribute o m apos) (e :: es) [] pos) X.env = (do
      let ov ← eval o X.env
      standAt apos.atName
      let (f, first) ← holding [ov] (getMethod ov m pl)
      callWith pos f first (backTo pos (starEach (e :: es) X.env)) (backToKw pos (keywordEach [] X.env)))) :
    PE X (.Call (.Attribute o m apos) (e :: es) [] pos) (tMethS C m sp dvs E ta t) := by
  refine ⟨fun pins s σ H Q I h => ?_⟩
  refine PySem.W.methodCall_KW (pl := pl) (thn (he.run pins s σ H _ I h) fun u s1 ⟨x, H1, I1, rx, a, dx, fs, ex, ea, l, q⟩ => ?_) ht
  subst ex
  obtain rfl : u = Value.ref a := rx
  refine getmeth_ok I1 ea c hmm l ?_
  refine PySem.W.callWith_K (first := [.ref a]) (h₀ := X.base) I.ok.mod.kin hmm.kp (thn (ha.run pos pins s1 σ H1 _ I1 q) fun us s2 ⟨vs, H2, I2, r, q2⟩ => ⟨I2.kIn, ?_⟩) hst hpl
  exact run_fnSD (us := .ref a :: us) (vs := .ref a :: vs) F hr hb hd (hx σ) I2 (.cons rfl r) q2
theorem pe_methSD0 {pl : Sem Bool} (he : PE X o ta) (c : Cls X.K C) (hmm : Meth X.K C m f) (F : FnOk X.prog X.w X.K X.mg X.base CX k f fd ps sp) (hr : Room k X.A) (hb : Binds X.K fd ps ds) (hd : Vals dvs ds) (hx : ∀ σ, PassesAt CX X σ (E σ))
    (ht : eval (.Call (.Attribute o m apos) [] [] pos) X.env = (do
      let ov ← eval o X.env
      standAt apos.atName
      let (f, first) ← holding [ov] (getMethod ov m pl)
      callWith pos f first (backTo pos (starEach [] X.env)) (backToKw pos (keywordEach [] X.env)))) :
    PE X (.Call (.Attribute o m apos) [] [] pos) (tMethS C m sp dvs E ta tNil) := by
  refine ⟨fun pins s σ H Q I h => ?_⟩
  refine PySem.W.methodCall_KW (pl := pl) (thn (he.run pins s σ H _ I h) fun u s1 ⟨x, H1, I1, rx, a, dx, fs, ex, ea, l, q⟩ => ?_) ht
  subst ex
  obtain rfl : u = Value.ref a := rx
  refine getmeth_ok I1 ea c hmm l ?_
  exact PySem.W.callWith_K0 (first := [.ref a]) I1.kIn hmm.kp (run_fnSD (us := [.ref a]) (vs := [.ref a]) F hr hb hd (hx σ) I1 (.cons rfl .nil) q)
/-- the text's calls of methods are such -/
theorem form_ok {n : Nat} {env : PySem.Env} {pos : Pos} : ∀ {es : List Expr}, es.all plain = true → n < 30 → methodCallForm (n + 0) (backTo pos (starEach es env)) (backToKw pos (keywordEach [] env)) = true := by
  intro es he hn
  have h1 : (backTo pos (starEach es env)).all (fun x => !x.1) = true := by
    have z := stars_none (env := env) (pos := pos) he
    rw [List.all_eq_true]
    intro x hx
    have := List.any_eq_false.mp z x hx
    simpa using this
  unfold methodCallForm
  rw [h1]
  show (true && true && decide _) = true
  simp
  exact hn
theorem call_meth {env : PySem.Env} {es : List Expr} (hb : attributeBase o m env (eval o env) = eval o env) (he : es.all plain = true) (hn : es.length < 30) (hl : (apos.endLine == pos.line) = true) : eval (.Call (.Attribute o m apos) es [] pos) env = (do
      let ov ← eval o env
      standAt apos.atName
      let (f, first) ← holding [ov] (getMethod ov m (do return (← importBound o env).getD true))
      callWith pos f first (backTo pos (starEach es env)) (backToKw pos (keywordEach [] env))) := by
  have e : eval (.Call (.Attribute o m apos) es [] pos) env = (do
      let ov ← attributeBase o m env (eval o env)
      standAt apos.atName
      methodCall o m apos pos env ov (es.length + 0) (backTo pos (starEach es env)) (backToKw pos (keywordEach [] env))) := by
    rw [eval]
    rfl
  rw [e, hb]
  unfold methodCall
  rw [form_ok he hn]
  unfold calleeOf methodCallPos
  rw [hl]
  rfl
end
end
end PL
/-! PLCls2: stores to attributes, instances made: the slots. -/
namespace PL
open PySem PySem.Spec PyProof.Rows L2
section
variable {K : PySem.W.Frag} {M : Nm} {F F' H H' : Hp} {es : List Sl} {vs : List (Option V)}
theorem RepOs.lens : ∀ {os : List Bool} {ds : List D} {ws : List V} {fp : List Addr}, RepOs K M F H os ds ws fp → os.length = ds.length ∧ ds.length = ws.length
  | _, _, _, _, .nil => ⟨rfl, rfl⟩
  | _, _, _, _, .cons _ r => by
    obtain ⟨a, b⟩ := RepOs.lens r
    exact ⟨by simp [a], by simp [b]⟩
/-- a field is stored -/
theorem RepOs.put {om : Nat → Bool} {fl : Nat → Str} {f : Nat} {d : D} {y : V} {fpd : List Addr} (hd : RepO K M F H d (om f) y fpd) : ∀ {fs : List Nat} {ds : List D} {kvs : List (Str × V)} {fp : List Addr}, RepOs K M F H (fs.map om) ds (kvs.map (·.2)) fp → kvs.map (·.1) = fs.map fl → (∀ g ∈ fs, fl g = fl f → g = f) →
    ∃ fq, RepOs K M F H ((fput f d fs ds).1.map om) (fput f d fs ds).2 ((putF (fl f) y kvs).map (·.2)) fq ∧ (∃ fx, (fq ++ fx).Perm (fpd ++ fp)) ∧ (putF (fl f) y kvs).map (·.1) = (fput f d fs ds).1.map fl
  | [], ds, kvs, fp, r, e, _ => by
    cases kvs with
    | cons _ _ => simp at e
    | nil =>
      cases ds with
      | cons _ _ => cases r
      | nil =>
        cases r
        exact ⟨fpd ++ [], .cons hd .nil, ⟨[], by simp⟩, rfl⟩
  | g :: fs, ds, kvs, fp, r, e, inj => by
    cases kvs with
    | nil => simp at e
    | cons kv kvs =>
      obtain ⟨n, w⟩ := kv
      simp only [List.map_cons, List.cons.injEq] at e
      obtain ⟨e1, e2⟩ := e
      subst e1
      cases ds with
      | nil => cases r
      | cons v ds =>
        cases r with
        | cons a r =>
          rename_i fp1 fp2
          unfold fput putF
          by_cases q : g = f
          · subst q
            rw [if_pos rfl, if_pos rfl]
            refine ⟨fpd ++ fp2, .cons hd r, ⟨fp1, ?_⟩, by simp [e2]⟩
            rw [List.append_assoc]
            exact (List.perm_append_comm (l₁ := fp2) (l₂ := fp1)).append_left fpd
          · have nq : fl g ≠ fl f := fun z => q (inj g (by simp) z)
            rw [if_neg q, if_neg nq]
            obtain ⟨fq, b1, ⟨fx, b2⟩, b3⟩ := RepOs.put hd r e2 fun g hg => inj g (by simp [hg])
            refine ⟨fp1 ++ fq, .cons a b1, ⟨fx, ?_⟩, by simp [b3]⟩
            rw [List.append_assoc]
            exact (b2.append_left fp1).trans (List.perm_append_comm_assoc fp1 fpd fp2)
/-- an instance of ours is changed: the tables are kept -/
theorem tabs_mutI {T : List (Addr × Str)} {a C dx C' dx' : Addr} {kvs kvs' : List (Str × V)} (h : LamX.Tabs T H) (e : H a = some (.ins C dx kvs)) : LamX.Tabs T (upd H a (.ins C' dx' kvs')) := fun p hp => by
  obtain ⟨ps, h1, h2, h3⟩ := h p hp
  refine ⟨ps, ?_, h2, fun pos cv hc => ?_⟩
  · rw [upd_ne fun z => by rw [z, e] at h1; cases h1]
    exact h1
  · obtain ⟨c, e1, e2⟩ := h3 pos cv hc
    refine ⟨c, e1, ?_⟩
    rw [upd_ne fun z => by
      rw [z, e] at e2
      unfold LamX.CodeO at e2
      cases e2]
    exact e2
/-- a field of an instance of ours is stored -/
theorem Sta.fld {c f a : Nat} {fs : List Nat} {ds : List D} {r : D × Bool} {y : V} {fl : Nat → Str} (h : Sta K M F H (some (.ins c fs ds, true) :: some r :: es) (some (.ref a) :: some y :: vs)) (hr : M.om c f = true → r.2 = true) (hfl : M.fl = fl) (inj : ∀ g ∈ fs, fl g = fl f → g = f) :
    ∃ F' dx kvs, Same F F' ∧ H a = some (.ins (M.cl c) dx kvs) ∧ kvs.length = fs.length ∧ Sta K M F' (upd H a (.ins (M.cl c) dx (putF (fl f) y kvs))) (some (.ins c (fput f r.1 fs ds).1 (fput f r.1 fs ds).2, true) :: es) (some (.ref a) :: vs) := by
  obtain ⟨d, o⟩ := r
  -- the value, owned or settled
  have step : ∃ F', Same F F' ∧ ∃ f1 f2 fq, RepO K M F' H (.ins c fs ds) true (.ref a) f1 ∧ RepO K M F' H d (M.om c f) y f2 ∧ RepE K M F' H es vs fq ∧ (f2 ++ (f1 ++ fq)).Nodup ∧ (∀ x ∈ f2 ++ (f1 ++ fq), F' x = none) ∧ Sm M F' H := by
    cases ho : M.om c f with
    | true =>
      have : o = true := hr ho
      subst this
      obtain ⟨fp, q, n, e, m⟩ := h
      cases q with
      | slot q1 q =>
        cases q with
        | slot q2 q =>
          rename_i f1 f2 fq
          have p : (f2 ++ (f1 ++ fq)).Perm (f1 ++ (f2 ++ fq)) := List.perm_append_comm_assoc f2 f1 fq
          exact ⟨F, Same.refl F, f1, f2, fq, q1, q2, q, p.nodup_iff.mpr n, fun x hx => e x (p.mem_iff.mp hx), m⟩
    | false =>
      obtain ⟨F', s, rr, st⟩ := h.swap.settle
      obtain ⟨fp, q, n, e, m⟩ := st
      cases q with
      | slot q1 q =>
        rename_i f1 fq
        exact ⟨F', s, f1, [], fq, q1, .fz rr, q, n, e, m⟩
  obtain ⟨F', s, f1, f2, fq, q1, q2, q, n, e, m⟩ := step
  cases q1 with
  | ins ha ek ro =>
    rename_i dx kvs f3
    rw [hfl] at ek
    obtain ⟨fn, b1, ⟨fx, b2⟩, b3⟩ := RepOs.put (fl := fl) q2 ro ek inj
    have pn : ((a :: fn ++ fq) ++ fx).Perm (f2 ++ (a :: f3 ++ fq)) := by
      refine List.perm_iff_count.mpr fun x => ?_
      have w := List.perm_iff_count.mp b2 x
      simp only [List.count_append, List.count_cons] at w ⊢
      omega
    have nn := pn.nodup_iff.mpr n
    have n1 := (List.nodup_append.mp nn).1
    have na : ∀ x ∈ fn ++ fq, x ≠ a := fun x hx z => by
      rw [List.cons_append] at n1
      exact (List.nodup_cons.mp n1).1 (z ▸ hx)
    have hF : F' a = none := e a (pn.mem_iff.mp (by simp))
    refine ⟨F', dx, kvs, s, ha, by have := congrArg List.length ek; simpa using this, a :: fn ++ fq, .slot (.ins upd_same (by rw [hfl]; exact b3) (b1.mono (Same.refl F') fun x hx u w => ?_)) (q.mono (Same.refl F') fun x hx u w => ?_), n1, fun x hx => e x (pn.mem_iff.mp (List.mem_append_left _ hx)), ⟨fun x u w => ?_, fun z => ⟨tabs_mutI (m.tb z).1 ha, (m.tb z).2⟩⟩⟩
    · rw [upd_ne (na x (List.mem_append_left _ hx))]
      exact w
    · rw [upd_ne (na x (List.mem_append_right _ hx))]
      exact w
    · rw [upd_ne (ne_of_none w hF)]
      exact m.same x u w
/-- a new instance, ours, and its dict -/
theorem Sta.newI {x dx c : Nat} (h : Sta K M F H es vs) (hx : H x = none) (hdx : H dx = none) (hne : dx ≠ x) :
    Sta K M F (upd (upd H dx (.own x)) x (.ins (M.cl c) dx [])) (some (.ins c [] [], true) :: es) (some (.ref x) :: vs) := by
  obtain ⟨fp, q, n, f, e⟩ := h
  have fr : ∀ p, H p = none → F p = none := fun p hp => by
    cases w : F p with
    | none => rfl
    | some u =>
      rw [e.same p u w] at hp
      cases hp
  have keep : ∀ b u, H b = some u → (upd (upd H dx (.own x)) x (.ins (M.cl c) dx [])) b = some u := fun b u w => by
    rw [upd_ne (ne_of_none w hx), upd_ne (ne_of_none w hdx)]
    exact w
  have np : ∀ a ∈ fp, a ≠ x := fun a ha z => by
    obtain ⟨u, w⟩ := q.there a ha
    rw [z, hx] at w
    cases w
  refine ⟨[x] ++ fp, .slot (.ins upd_same rfl .nil) (q.mono (Same.refl F) fun a ha u w => keep a u w), ?_, fun a ha => ?_, ⟨fun a u w => keep a u (e.same a u w), fun z => ⟨(e.tb z).1.ext fun b o q => keep b o q, (e.tb z).2⟩⟩⟩
  · refine List.nodup_append.mpr ⟨(by simp), n, fun a ha b hb => ?_⟩
    simp at ha
    subst ha
    exact (np b hb).symm
  · rcases List.mem_append.mp ha with z | z
    · simp at z
      rw [z]
      exact fr x hx
    · exact f a z
end
end PL
/-! PLCls3: methods called, instances made. -/
namespace PL
open PySem PySem.Spec PyProof.Rows L2
section
variable {X : Cx} {CX : CXT} {k : Nat} {f C : Addr} {fd : FuncData} {ps : List Str} {sp : Sp} {E : L2.St → XK} {x : Str} {dvs : List V} {ds : List Value} {p pos : Pos} {e : Expr} {es : List Expr} {t : TA}
/-- C(..), what is raised wished for at the caller's slots -/
def tMakeS (C : Addr) (sp : Sp) (dvs : List V) (E : L2.St → XK) (t : TA) : TE := fun σ H Q => t σ H fun vs H1 => ∀ x dx, H1 x = none → H1 dx = none → dx ≠ x →
  sp (.ref x :: (vs ++ dvs)) (upd (upd H1 dx (.own x)) x (.ins C dx [])) (fun v H2 => v = .non ∧ Q (.ref x) H2) (E σ)
theorem run_makeSD {pins : List (Addr × Obj)} {σ : L2.St} {H : Hp} {s : Shared} {Q : VK} {us : List Value} {vs : List V} (M : Mk X.K C f) (F : FnOk X.prog X.w X.K X.mg X.base CX k f fd ps sp) (hr : Room (k + 1) X.A) (hb : Binds X.K fd ps ds) (hd : Vals dvs ds)
    (hx : PassesAt CX X σ (E σ)) (I : Inv X pins σ H s) (r : Vals vs us)
    (h : ∀ x dx, H x = none → H dx = none → dx ≠ x → sp (.ref x :: (vs ++ dvs)) (upd (upd H dx (.own x)) x (.ins C dx [])) (fun v H2 => v = .non ∧ Q (.ref x) H2) (E σ)) :
    wpAny (model X.prog X.w) X.A (call (.ref C) us) (EP X pins σ Q) X.xe s := by
  have hq := h (s.heap.objs.size + 1) s.heap.objs.size (I.hok.fresh (Nat.le_succ _)) (I.hok.fresh (Nat.le_refl _)) (Nat.ne_of_lt (Nat.lt_succ_self _))
  have I2 := Inv.made (C := C) I
  have r2 : Vals (V.ref (s.heap.objs.size + 1) :: (vs ++ dvs)) (Value.ref (s.heap.objs.size + 1) :: (us ++ ds)) := .cons rfl (r.append hd)
  have hl : (Value.ref (s.heap.objs.size + 1) :: us ++ ds).length = ps.length := by
    have e := r2.length
    rw [F.len _ _ _ _ hq] at e
    exact e.symm
  refine wpAny_call (make_map (f := f) I.kIn M.makes M.init (beq_iff_eq.mp M.fn) (codeAny_mono (F.run _ X.stack _ _ ⟨Value.ref (s.heap.objs.size + 1) :: us, []⟩ (Value.ref (s.heap.objs.size + 1) :: (us ++ ds)) _ _ (E σ) (hr.make C us [])
    (I2.env0.make C us []) (hb _ (Value.ref (s.heap.objs.size + 1) :: us) I2.kIn hl) r2 hq) fun r s' hq' => ?_))
  cases r with
  | error e => exact hx pins _ _ e s' I2 hq'
  | ok fl =>
    cases fl with
    | ret u =>
      obtain ⟨v, H', I3, rv, ev, q3⟩ := I2.after hq'
      subst ev
      exact ⟨rv, ⟨V.ref (s.heap.objs.size + 1), H', I3, rfl, q3⟩⟩
    | next => exact False.elim hq'
    | brk => exact False.elim hq'
    | cont => exact False.elim hq'
theorem pe_makeSD (M : Mk X.K C f) (F : FnOk X.prog X.w X.K X.mg X.base CX k f fd ps sp) (hr : Room (k + 1) X.A) (hg : Gl X x) (hm : X.mg x = some (.ref C)) (hb : Binds X.K fd ps ds) (hd : Vals dvs ds) (hx : ∀ σ, PassesAt CX X σ (E σ))
    (ha : PA X (e :: es) t) (hdb : (x == ("__debug__" : Str)) = false) (he : starEach (e :: es) X.env = (false, eval e X.env) :: starEach es X.env) (hpl : (backTo pos (starEach es X.env)).any (·.1) = false) :
    PE X (.Call (.Name x p) (e :: es) [] pos) (tMakeS C sp dvs E t) := by
  refine ⟨fun pins s σ H Q I h => ?_⟩
  refine wpAny_Call_Name_kw (ld_glob I hg hm ?_ hdb)
  refine PySem.W.callWith_K (h₀ := X.base) I.ok.mod.kin M.kp (thn (ha.run pos pins s σ H _ I h) fun us s1 ⟨vs, H1, I1, r, q⟩ => ⟨I1.kIn, ?_⟩) he hpl
  exact run_makeSD M F hr hb hd (hx σ) I1 r q
theorem pe_some {α : Type} {e : Expr} {t : α → TE} (h : ∀ a, PE X e (t a)) : PE X e (fun σ H Q => ∃ a, t a σ H Q) := ⟨fun pins s σ H Q I ⟨a, q⟩ => (h a).run pins s σ H Q I q⟩
end
section
variable {X : Cx} {M : Nm} {T : Ns} {L : Lk} {Γ : Ctx} {call : Nat → List (D × Bool) → CRes} {N : List Str} {sc so : Scope} {k : Nat} {W : WX}
/-- the arguments, read as they are written -/
def tZ (K : PySem.W.Frag) (M : Nm) (Γ : Ctx) (call : Nat → List (D × Bool) → CRes) : Es → TA
  | .nil => tNil
  | es => TEs K M Γ call es
theorem tz_in {es : Es} {F H : Hp} {ext : List Sl} {xv : List (Option V)} {σ : L2.St} {env e1 : PL.Fm} {us : List D} {R : List V → Hp → Prop} (st : Sta X.K M F H (ext ++ env) (xv ++ σ)) (hl : ext.length = xv.length) (h : evs Γ call es env = .ok us e1)
    (kk : ∀ vs F' H', Same F F' → Reps X.K M F' us vs → Sta X.K M F' H' (ext ++ e1) (xv ++ σ) → R vs H') : tZ X.K M Γ call es σ H R := by
  cases es with
  | nil =>
    simp only [evs] at h
    cases h
    exact kk [] F H (Same.refl F) .nil st
  | cons e r => exact Ts_sub st hl h kk
/-- a class's methods -/
def Mt (Γ : Ctx) (m : Nat) := { q : Nat × Nat // Γ.meth q.1 m = some q.2 }
theorem bs2 {x : Expr} (h : bsOk2 x = true) (nm : Str) {env : PySem.Env} : attributeBase x nm env (eval x env) = eval x env := by
  cases x <;> first | rfl | (simp [bsOk2] at h; done)
theorem pe_mt (C : XC X M T L Γ call N sc so k W) {m : Nat} {x : Expr} {xs : List Expr} {ap cp : Pos} {ta : TE} {es : Es} (hb : ∀ nm, attributeBase x nm X.env (eval x X.env) = eval x X.env) (hx : PE X x ta) (ha : PA X xs ((TEs X.K M Γ call) es)) (hp : xs.all plain = true) (hn : xs.length < 30) (hl : (ap.endLine == cp.line) = true) (hz : (xs = [] ↔ es = .nil)) :
    PE X (.Call (.Attribute x (T.mN m) ap) xs [] cp) (fun σ H Q => ∃ q : Mt Γ m, tMethS (M.cl q.1.1) (T.mN m) (spF X.K M call q.1.2 (L.ps q.1.2).length) [] (WE W) ta (tZ X.K M Γ call es) σ H Q) := by
  refine pe_some fun q => ?_
  obtain ⟨⟨c, f⟩, hq⟩ := q
  obtain ⟨hf, cl, mt, hd0, _⟩ := C.top.meth c m f hq
  obtain ⟨_, dvs, ds, hbn, hd, hr⟩ := C.top.fn f hf
  have hro : Room k X.A := C.room.mono (Nat.le_succ k)
  have hnil : dvs = [] := by
    have := hr (fun _ => none)
    rw [hd0] at this
    cases this
    rfl
  subst hnil
  cases xs with
  | nil =>
    obtain rfl := hz.1 rfl
    exact pe_methSD0 (E := WE W) hx cl mt (C.fns f hf) hro hbn hd (passAt C.tk) (call_meth (hb _) hp hn hl)
  | cons y ys =>
    have hp1 : plain y = true ∧ ys.all plain = true := by simpa using hp
    have ez : tZ X.K M Γ call es = TEs X.K M Γ call es := by
      cases es with
      | nil => exact absurd (hz.2 rfl) (by simp)
      | cons _ _ => rfl
    rw [ez]
    exact pe_methSD (E := WE W) hx cl mt (C.fns f hf) hro hbn hd (passAt C.tk) ha (plain_star hp1.1) (stars_none hp1.2) (call_meth (hb _) hp hn hl)
theorem no_meth {c m f : Nat} {fs : List Nat} {kvs : List (Str × V)} (top : Top X.K X.mg M T L Γ) (hq : Γ.meth c m = some f) (hall : fs.all (Γ.cf c) = true) (e : kvs.map (·.1) = fs.map M.fl) : kvs.lookup (T.mN m) = none := by
  obtain ⟨_, _, _, _, h⟩ := top.meth c m f hq
  rw [top.fl] at e
  rw [List.lookup_eq_none_iff]
  intro p hp
  rw [bne_iff_ne]
  intro z
  have : p.1 ∈ kvs.map (·.1) := List.mem_map.mpr ⟨p, hp, rfl⟩
  rw [e] at this
  obtain ⟨g, hg, eg⟩ := List.mem_map.mp this
  exact h g (List.all_eq_true.mp hall g hg) (eg.trans z.symm)
theorem s_mth (C : XC X M T L Γ call N sc so k W) {o : E} {m : Nat} {es : Es} {x : Expr} {xs : List Expr} {ap cp : Pos} (hb : bsOk2 x = true) (hx : PE X x ((TEv X.K M Γ call W) o)) (ha : PA X xs ((TEs X.K M Γ call) es)) (hp : xs.all plain = true) (hn : xs.length < 30) (hl : (ap.endLine == cp.line) = true) (hz : (xs = [] ↔ es = .nil)) :
    PE X (.Call (.Attribute x (T.mN m) ap) xs [] cp) ((TEv X.K M Γ call W) (.mth o m es)) := by
  refine (pe_mt C (m := m) (fun nm => bs2 hb nm) hx ha hp hn hl hz).imp fun σ H Q h => ?_
  obtain ⟨F, ext, xv, env, st, hl, post⟩ := h
  simp only [ev] at post
  obtain ⟨r, e1, h1, post⟩ := post_bind post
  obtain ⟨d, ow⟩ := r
  cases d <;> simp only at post <;> try exact post.elim
  rename_i c fs vs
  split at post
  case isFalse => exact post.elim
  rename_i hall
  split at post
  case h_2 => exact post.elim
  rename_i f hq
  obtain ⟨us, e2, h2, post⟩ := post_bind post
  obtain ⟨hf, _, _, hd0, _⟩ := C.top.meth c m f hq
  refine ⟨⟨(c, f), hq⟩, T_sub st hl h1 fun v F1 H1 s1 r1 st1 => ?_⟩
  have rr := r1
  cases r1 with
  | ins hA ek rs =>
    refine ⟨_, _, _, rfl, st1.same _ _ hA, no_meth C.top hq hall ek, tz_in st1 hl h2 fun vs2 F2 H2 s2 r2 st2 => ?_⟩
    rw [List.append_nil]
    have ro : Reps X.K M F2 (.ins c fs vs :: us) _ := .cons (rr.mono s2) r2
    split at post
    · rename_i r hr
      refine call_in (ds := .ins c fs vs :: us) st2 ro ?_ hr fun v F' H' s st' => post v F' H' ((s1.trans s2).trans s) st'
      have := C.ar f hf _ (by rw [hr]; exact fun z => nomatch z)
      simpa using this
    · rename_i z hr
      refine callX_in (ds := .ins c fs vs :: us) st2 ro ?_ hr fun cls d F' H' s rx st' => post cls d F' H' ((s1.trans s2).trans s) rx st'
      have := C.ar f hf _ (by rw [hr]; exact fun z => nomatch z)
      simpa using this
    · exact post.elim
theorem s_mthp (C : XC X M T L Γ call N sc so k W) {i m : Nat} {es : Es} {x : Str} {xs : List Expr} {q ap cp : Pos} (h1 : N[i]? = some x) (h2 : visB sc x = true) (h3 : nmOk x = true) (ha : PA X xs ((TEs X.K M Γ call) es)) (hp : xs.all plain = true) (hn : xs.length < 30) (hl : (ap.endLine == cp.line) = true) (hz : (xs = [] ↔ es = .nil)) :
    PE X (.Call (.Attribute (.Name x q) (T.mN m) ap) xs [] cp) ((TEv X.K M Γ call W) (.mthp (.var i) m es)) := by
  refine (pe_mt C (m := m) (fun nm => rfl) (s_pv C h1 h2 h3) ha hp hn hl hz).imp fun σ H Q h => ?_
  obtain ⟨F, ext, xv, env, st, hl, post⟩ := h
  simp only [ev] at post
  split at post
  case h_2 => exact post.elim
  rename_i c fs vs0 hi0
  split at post
  case isFalse => exact post.elim
  rename_i hall
  split at post
  case h_2 => exact post.elim
  rename_i f hq
  obtain ⟨us, e1, hu, post2⟩ := post_bind post
  obtain ⟨hf, _, _, hd0, _⟩ := C.top.meth c m f hq
  obtain ⟨w, fp, hw, ro⟩ := sta_ix st hl hi0
  refine ⟨⟨(c, f), hq⟩, w, hw, ?_⟩
  cases ro with
  | ins hA ek rs =>
    refine ⟨_, _, _, rfl, hA, no_meth C.top hq hall ek, tz_in st hl hu fun vs F1 H1 s1 r1 st1 => ?_⟩
    rw [List.append_nil]
    split at post2
    · rename_i d hd1
      obtain ⟨w', hw', st2⟩ := sta_out st1 hl hd1
      rw [hw] at hw'
      cases hw'
      split at post2
      · rename_i rr d' hr'
        have len := C.ar f hf _ (by rw [hr']; exact fun z => nomatch z)
        rw [List.length_cons, List.length_map] at len
        refine ⟨?_, F1, ext ++ e1.set i none, xv ++ σ, (d, true) :: us.map fun d => (d, false), st2.drop.len, ?_, ?_, ?_⟩
        · rw [← len, r1.len]
          rfl
        · rw [List.length_cons, List.length_map]
          exact len
        · have q := st2.last.args r1
          rw [List.append_assoc (ext ++ e1.set i none), List.append_assoc (xv ++ σ)] at q
          exact q
        · rw [hr']
          refine ⟨⟨_, _, rfl⟩, fun u F' H' s st' => ?_⟩
          have hi : i < (e1.set i none).length := by
            rw [List.length_set]
            exact (List.getElem?_eq_some_iff.mp hd1).1
          have q := sta_in1 st' hl hi
          rw [List.set_set, set_same_of hw] at q
          exact post2 u F' H' (s1.trans s) q
      · rename_i z d' hr'
        have len := C.ar f hf _ (by rw [hr']; exact fun z => nomatch z)
        rw [List.length_cons, List.length_map] at len
        refine ⟨?_, F1, ext ++ e1.set i none, xv ++ σ, (d, true) :: us.map fun d => (d, false), st2.drop.len, ?_, ?_, ?_⟩
        · rw [← len, r1.len]
          rfl
        · rw [List.length_cons, List.length_map]
          exact len
        · have q := st2.last.args r1
          rw [List.append_assoc (ext ++ e1.set i none), List.append_assoc (xv ++ σ)] at q
          exact q
        · rw [hr']
          refine ⟨⟨_, _, rfl⟩, fun cls dx F' H' s rx st' => ?_⟩
          have hi : i < (e1.set i none).length := by
            rw [List.length_set]
            exact (List.getElem?_eq_some_iff.mp hd1).1
          have q := sta_in st' hl hi
          rw [List.set_set, set_same_of hw] at q
          exact post2 cls dx F' H' (s1.trans s) rx q
      · exact post2.elim
    · exact post2.elim
/-- C(..) -/
theorem s_new (C : XC X M T L Γ call N sc so k W) {c : Nat} {es : Es} {x : Expr} {xs : List Expr} {p pos : Pos} (hg : glB sc (T.cN c) = true) (hn : nmOk (T.cN c) = true) (ha : PA X (x :: xs) ((TEs X.K M Γ call) es)) (hp : (x :: xs).all plain = true) (hi : Γ.init c ≠ none) :
    PE X (.Call (.Name (T.cN c) p) (x :: xs) [] pos) ((TEv X.K M Γ call W) (.new c es)) := by
  obtain ⟨f, hc⟩ := Option.ne_none_iff_exists'.mp hi
  obtain ⟨hf, mk, hm, hd0⟩ := C.top.init c f hc
  obtain ⟨_, dvs, ds, hbn, hd, hr⟩ := C.top.fn f hf
  obtain ⟨n1, _, _⟩ := nmOk_of hn
  have hnil : dvs = [] := by
    have := hr (fun _ => none)
    rw [hd0] at this
    cases this
    rfl
  subst hnil
  have hp1 : plain x = true ∧ xs.all plain = true := by simpa using hp
  refine (pe_makeSD (E := WE W) mk (C.fns f hf) C.room (gl_of (by rw [C.scp]; exact hg)) hm hbn hd (passAt C.tk) ha n1 (plain_star hp1.1) (stars_none hp1.2)).imp fun σ H Q h => ?_
  obtain ⟨F, ext, xv, env, st, hl, post⟩ := h
  simp only [ev] at post
  obtain ⟨us, e1, hu, post⟩ := post_bind post
  rw [hc] at post
  dsimp only at post
  refine Ts_sub st hl hu fun vs F1 H1 s1 r1 st1 => fun a dx ha0 hdx hne => ?_
  rw [List.append_nil]
  have st2 := st1.newI (c := c) ha0 hdx hne
  split at post
  · rename_i o d' hr'
    have len := C.ar f hf _ (by rw [hr']; exact fun z => nomatch z)
    rw [List.length_cons, List.length_map] at len
    refine ⟨?_, F1, ext ++ e1, xv ++ σ, (.ins c [] [], true) :: us.map fun d => (d, false), st1.len, ?_, ?_, ?_⟩
    · rw [← len, r1.len]
      rfl
    · rw [List.length_cons, List.length_map]
      exact len
    · have q := st2.last.args r1
      rw [List.append_assoc (ext ++ e1), List.append_assoc (xv ++ σ)] at q
      exact q
    · rw [hr']
      refine ⟨⟨_, _, rfl⟩, fun u F' H' s st' => ⟨?_, ?_⟩⟩
      · obtain ⟨fp, r⟩ := st'.head
        cases r with
        | fz r => exact rep_non r
      · exact post _ F' H' (s1.trans s) st'.drop
  · rename_i z d' hr'
    have len := C.ar f hf _ (by rw [hr']; exact fun z => nomatch z)
    rw [List.length_cons, List.length_map] at len
    refine ⟨?_, F1, ext ++ e1, xv ++ σ, (.ins c [] [], true) :: us.map fun d => (d, false), st1.len, ?_, ?_, ?_⟩
    · rw [← len, r1.len]
      rfl
    · rw [List.length_cons, List.length_map]
      exact len
    · have q := st2.last.args r1
      rw [List.append_assoc (ext ++ e1), List.append_assoc (xv ++ σ)] at q
      exact q
    · rw [hr']
      exact ⟨⟨_, _, rfl⟩, fun cls dx F' H' s rx st' => post cls dx F' H' (s1.trans s) rx st'.drop⟩
  · exact post.elim
end
end PL
/-! PLBor: things of ours that are lent to a call: settled for as long, ours again behind it. -/
namespace PL
open PySem PySem.Spec PyProof.Rows L2
section
variable {K : PySem.W.Frag} {M : Nm} {F F' H H' : Hp}
/-- what is lent: lists that begin with no number, instances -/
def LenO : HO → Prop
  | .lst vs => ∀ i, vs.head? ≠ some (.int i)
  | .ins _ _ _ => True
  | _ => False
theorem rep_lenK {d : D} {v : V} (h : Rep K M F d v) (k : lenK d = true) : ∀ i, v ≠ .int i := fun i z => by
  subst z
  cases h
  cases k
mutual
theorem unl_len : ∀ {d : D} {o : Bool} {v : V} {fp : List Addr}, RepO K M F H d o v fp → o = true → unl M.om d = true → ∀ a ∈ fp, ∃ u, H a = some u ∧ LenO u
  | _, _, _, _, .fz _, ho, _, _, _ => nomatch ho
  | _, _, _, _, .lst (l := l) h z r, _, k, a, ha => by
    simp at ha
    subst ha
    refine ⟨_, h, fun i e => ?_⟩
    cases r with
    | nil => cases e
    | cons q r =>
      simp only [unl] at k
      simp at e
      exact rep_lenK q k i e
  | _, _, _, _, .ins h e r, _, k, a, ha => by
    simp at ha
    rcases ha with rfl | ha
    · exact ⟨_, h, trivial⟩
    · simp only [unl] at k
      exact unls_len r rfl k a ha
  | _, _, _, _, .obj h _, _, k, _, _ => by simp [unl] at k
theorem unls_len : ∀ {os : List Bool} {ds : List D} {vs : List V} {fp : List Addr} {c : Nat} {fs : List Nat}, RepOs K M F H os ds vs fp → os = fs.map (M.om c) → unls M.om c fs ds = true → ∀ a ∈ fp, ∃ u, H a = some u ∧ LenO u
  | _, _, _, _, _, _, .nil, _, _, a, ha => by simp at ha
  | _, _, _, _, _, [], .cons _ _, e, _, _, _ => by simp at e
  | _, _, _, _, c, f :: fs, .cons (o := o) q r, e, k, a, ha => by
    simp only [List.map_cons, List.cons.injEq] at e
    simp only [unls, Bool.and_eq_true, Bool.or_eq_true] at k
    rcases List.mem_append.mp ha with ha | ha
    · cases o with
      | false =>
        cases q
        cases ha
      | true =>
        refine unl_len q rfl ?_ a ha
        rcases k.1 with z | z
        · rw [← e.1] at z
          cases z
        · exact z
    · exact unls_len r e.2 k.2 a ha
end
/-- what was settled for as long is so no more -/
def thaw (F : Hp) (f1 : List Addr) : Hp := fun a => if a ∈ f1 then none else F a
theorem thaw_out {f1 : List Addr} {a : Addr} (h : a ∉ f1) : thaw F f1 a = F a := if_neg h
theorem thaw_in {f1 : List Addr} {a : Addr} (h : a ∈ f1) : thaw F f1 a = none := if_pos h
mutual
theorem thw_rep {f1 : List Addr} (L : ∀ a ∈ f1, ∃ u, F a = some u ∧ LenO u) : ∀ {d : D} {v : V}, Rep K M F d v → thw d = true → Rep K M (thaw F f1) d v
  | _, _, .non, _ => .non
  | _, _, .bl b, _ => .bl b
  | _, _, .int i, _ => .int i
  | _, _, .str s, _ => .str s
  | _, _, .tup (a := a) h z r, k => by
    refine .tup ?_ z (thws_rep L r (by simpa [thw] using k))
    rcases h with (h | ⟨o, h⟩) | h
    · refine .inl (.inl ?_)
      rw [thaw_out fun q => ?_]
      · exact h
      · obtain ⟨u, e, l⟩ := L a q
        rw [h] at e
        cases e
        exact l
    · refine .inl (.inr ⟨o, ?_⟩)
      rw [thaw_out fun q => ?_]
      · exact h
      · obtain ⟨u, e, l⟩ := L a q
        rw [h] at e
        cases e
        exact l
    · exact .inr h
  | _, _, .lst (a := a) (l := l) h z r, k => by
    simp only [thw, Bool.and_eq_true] at k
    refine .lst ?_ z (thws_rep L r k.2)
    rw [thaw_out fun q => ?_]
    · exact h
    · obtain ⟨u, e, l⟩ := L a q
      rw [h] at e
      cases e
      have k1 := k.1
      cases r with
      | nil => cases k1
      | cons r0 r =>
        cases r0 with
        | int i => exact l i rfl
        | _ => cases k1
  | _, _, .scr _ _, k => by simp [thw] at k
  | _, _, .dic _ _ _, k => by simp [thw] at k
  | _, _, .ins _ _ _, k => by simp [thw] at k
  | _, _, .obj _, k => by simp [thw] at k
theorem thws_rep {f1 : List Addr} (L : ∀ a ∈ f1, ∃ u, F a = some u ∧ LenO u) : ∀ {ds : List D} {vs : List V}, Reps K M F ds vs → thws ds = true → Reps K M (thaw F f1) ds vs
  | _, _, .nil, _ => .nil
  | _, _, .cons q r, k => by
    simp only [thws, Bool.and_eq_true] at k
    exact .cons (thw_rep L q k.1) (thws_rep L r k.2)
end
/-- known objects, ours -/
def objS (H : Hp) (fq : List Addr) : List Sl := fq.map fun a => some (.obj a ((H a).getD (.lst [])), true)
def objV (fq : List Addr) : List (Option V) := fq.map fun a => some (.ref a)
theorem obj_len (H : Hp) (fq : List Addr) : (objS H fq).length = (objV fq).length := by simp [objS, objV]
theorem objE {fq : List Addr} (h : ∀ a ∈ fq, ∃ u, H a = some u ∧ NoTb u) : RepE K M F H (objS H fq) (objV fq) fq := by
  induction fq with
  | nil => exact .nil
  | cons a fq ih =>
    obtain ⟨u, e, n⟩ := h a (by simp)
    have q : RepE K M F H (some (.obj a ((H a).getD (.lst [])), true) :: objS H fq) (some (.ref a) :: objV fq) ([a] ++ fq) := .slot (.obj (by rw [e]; rfl) (by rw [e]; exact n)) (ih fun b hb => h b (by simp [hb]))
    exact q
theorem objE_at {fq : List Addr} {fp : List Addr} (h : ∀ a ∈ fq, ∃ u, H a = some u) : RepE K M F' H' (objS H fq) (objV fq) fp → fp = fq ∧ ∀ a ∈ fq, H' a = H a := by
  induction fq generalizing fp with
  | nil =>
    intro r
    cases r
    exact ⟨rfl, fun a ha => nomatch ha⟩
  | cons a fq ih =>
    intro r
    have r : RepE K M F' H' (some (.obj a ((H a).getD (.lst [])), true) :: objS H fq) (some (.ref a) :: objV fq) fp := r
    cases r with
    | slot q r2 =>
      cases q with
      | obj e n =>
        obtain ⟨e1, e2⟩ := ih (fun b hb => h b (by simp [hb])) r2
        obtain ⟨u, eu⟩ := h a (by simp)
        refine ⟨by rw [e1]; rfl, fun b hb => ?_⟩
        rcases List.mem_cons.mp hb with rfl | hb
        · rw [e, eu]
          rfl
        · exact e2 b hb
/-- lending: settled for as long; and back -/
theorem lend {es : List Sl} {vs : List (Option V)} {i : Nat} {d : D} (st : Sta K M F H es vs) (e : es[i]? = some (some (d, true))) (hu : unl M.om d = true) :
    ∃ F2 v fq, Same F F2 ∧ vs[i]? = some (some v) ∧ Rep K M F2 d v ∧ Sta K M F2 H (objS H fq) (objV fq) ∧ ∃ f1, (∀ a ∈ f1, ∃ u, F2 a = some u ∧ LenO u) ∧
      (∀ F' H', Same F2 F' → Sta K M F' H' (objS H fq) (objV fq) → Same F (thaw F' f1) ∧ Sta K M (thaw F' f1) H' es vs) ∧
      (∀ F' H' r v', Same F2 F' → Sta K M F' H' (some r :: objS H fq) (some v' :: objV fq) → thwR r = true → Same F (thaw F' f1) ∧ Sta K M (thaw F' f1) H' (some r :: es) (some v' :: vs)) := by
  obtain ⟨v, hv, st1⟩ := st.take e
  obtain ⟨fp, q, n, fn, m⟩ := st1
  cases q with
  | slot q r =>
    rename_i f1 fq
    obtain ⟨n1, n2, n3⟩ := List.nodup_append.mp n
    have len := unl_len q rfl hu
    have F2e : ∀ a ∈ f1, frz F H f1 a = H a := fun a ha => frz_in ha
    have sF : Same F (frz F H f1) := frz_same fun a ha => fn a (List.mem_append_left _ ha)
    have L2 : ∀ a ∈ f1, ∃ u, frz F H f1 a = some u ∧ LenO u := fun a ha => by
      rw [F2e a ha]
      exact len a ha
    have there : ∀ a ∈ fq, ∃ u, H a = some u := r.there
    have nq : ∀ a ∈ fq, frz F H f1 a = none := fun a ha => by
      rw [frz_out fun z => n3 a z a ha rfl]
      exact fn a (List.mem_append_right _ ha)
    have sm2 : Sm M (frz F H f1) H := ⟨frz_le m.same, fun tb => ⟨(m.tb tb).1, fun a o ho => by
      by_cases z : a ∈ f1
      · rw [F2e a z] at ho
        exact q.notb a z o ho
      · rw [frz_out z] at ho
        exact (m.tb tb).2 a o ho⟩⟩
    have core : ∀ F' H', Same (frz F H f1) F' → Sm M F' H' → (∀ a ∈ fq, H' a = H a) → Same F (thaw F' f1) ∧ Sm M (thaw F' f1) H' ∧ (∀ a ∈ f1, ∀ u, H a = some u → H' a = some u) := fun F' H' s m' hq => by
      have k1 : ∀ a ∈ f1, ∀ u, H a = some u → H' a = some u := fun a ha u hu => m'.same a u (s a u (by rw [F2e a ha]; exact hu))
      refine ⟨fun a u hu => ?_, ⟨fun a u hu => ?_, fun tb => ⟨(m'.tb tb).1, fun a o ho => ?_⟩⟩, k1⟩
      · rw [thaw_out fun z => by rw [fn a (List.mem_append_left _ z)] at hu; cases hu]
        exact s a u (sF a u hu)
      · unfold thaw at hu
        split at hu
        · cases hu
        · exact m'.same a u hu
      · unfold thaw at ho
        split at ho
        · cases ho
        · exact (m'.tb tb).2 a o ho
    have back : ∀ F' H', Same F (thaw F' f1) → (∀ a ∈ fq, H' a = H a) → (∀ a ∈ f1, ∀ u, H a = some u → H' a = some u) → RepO K M (thaw F' f1) H' d true v f1 ∧ RepE K M (thaw F' f1) H' (es.set i none) vs fq := fun F' H' s hq k1 =>
      ⟨q.mono s k1, r.mono s fun a ha u hu => by rw [hq a ha]; exact hu⟩
    have hi : i < es.length := (List.getElem?_eq_some_iff.mp e).1
    have es1 : (es.set i none).set i (some (d, true)) = es := by
      rw [List.set_set]
      exact set_same_of e
    have vs1 : vs.set i (some v) = vs := set_same_of hv
    refine ⟨frz F H f1, v, fq, sF, hv, q.settle sF F2e, ⟨fq, objE fun a ha => ?_, n2, nq, sm2⟩, f1, L2, fun F' H' s st' => ?_, fun F' H' r' v' s st' hr => ?_⟩
    · obtain ⟨u, hu⟩ := there a ha
      exact ⟨u, hu, r.notb a ha u hu⟩
    · obtain ⟨fp', q', n', fn', m'⟩ := st'
      obtain ⟨rfl, hq⟩ := objE_at there q'
      obtain ⟨c1, c2, c3⟩ := core F' H' s m' hq
      obtain ⟨b1, b2⟩ := back F' H' c1 hq c3
      refine ⟨c1, ?_⟩
      have st3 : Sta K M (thaw F' f1) H' (some (d, true) :: es.set i none) (some v :: vs) := ⟨f1 ++ fp', .slot b1 b2, n, fun a ha => ?_, c2⟩
      · have := st3.put (i := i) (by simpa using hi)
        rw [es1, vs1] at this
        exact this
      · by_cases z : a ∈ f1
        · exact thaw_in z
        · rw [thaw_out z]
          exact fn' a ((List.mem_append.mp ha).resolve_left z)
    · obtain ⟨fp', q', n', fn', m'⟩ := st'
      cases q' with
      | slot qr q' =>
        rename_i d' o' fr fo
        obtain ⟨rfl, hq⟩ := objE_at there q'
        obtain ⟨c1, c2, c3⟩ := core F' H' s m' hq
        obtain ⟨b1, b2⟩ := back F' H' c1 hq c3
        obtain ⟨m1, m2, m3⟩ := List.nodup_append.mp n'
        have L' : ∀ a ∈ f1, ∃ u, F' a = some u ∧ LenO u := fun a ha => by
          obtain ⟨u, e, l⟩ := L2 a ha
          exact ⟨u, s a u e, l⟩
        have dis : ∀ a ∈ fr, a ∉ f1 := fun a ha z => by
          obtain ⟨u, e, _⟩ := L' a z
          rw [fn' a (List.mem_append_left _ ha)] at e
          cases e
        have qr2 : RepO K M (thaw F' f1) H' d' o' v' fr := by
          cases qr with
          | fz h => exact .fz (thw_rep L' h (by cases d' <;> simpa [thwR] using hr))
          | lst h z rr => exact .lst h z (thws_rep L' rr (by simpa [thwR] using hr))
          | ins h e rr => simp [thwR] at hr
          | obj h nt => simp [thwR] at hr
        refine ⟨c1, ?_⟩
        have nd : (fr ++ (f1 ++ fo)).Nodup := List.nodup_append.mpr ⟨m1, n, fun a ha b hb z => by
          subst z
          rcases List.mem_append.mp hb with w | w
          · exact dis a ha w
          · exact m3 a ha a w rfl⟩
        have st3 : Sta K M (thaw F' f1) H' (some (d, true) :: some (d', o') :: es.set i none) (some v :: some v' :: vs) := by
          refine ⟨f1 ++ (fr ++ fo), .slot b1 (.slot qr2 b2), ?_, fun a ha => ?_, c2⟩
          · refine (List.Perm.nodup_iff ?_).mpr nd
            exact List.perm_append_comm_assoc f1 fr fo
          · by_cases z : a ∈ f1
            · exact thaw_in z
            · rw [thaw_out z]
              rcases List.mem_append.mp ha with w | w
              · exact absurd w z
              · exact fn' a w
        have := st3.put (i := i + 1) (by simpa using hi)
        simp only [List.set_cons_succ] at this
        rw [es1, vs1] at this
        exact this
end
theorem thw_exc {K : PySem.W.Frag} {M : Nm} {F : Hp} {f1 : List Addr} (L : ∀ a ∈ f1, ∃ u, F a = some u ∧ LenO u) {z : Exn} {cls : Value} {d : Option Addr} (h : RepX K M F z cls d) (k : thw z.val = true) : RepX K M (thaw F f1) z cls d := by
  obtain ⟨h1, h2⟩ := h
  refine ⟨h1, ?_⟩
  rcases h2 with h2 | ⟨dd, fs, v, a1, a2, a3, a4, a5⟩
  · exact .inl h2
  · refine .inr ⟨dd, fs, v, a1, a2, ?_, a4, thw_rep L a5 k⟩
    rw [thaw_out fun q => ?_]
    · exact a3
    · obtain ⟨u, e, l⟩ := L dd q
      rw [a3] at e
      cases e
      exact l
section
variable {X : Cx} {M : Nm} {T : Ns} {L : Lk} {Γ : Ctx} {call : Nat → List (D × Bool) → CRes} {N : List Str} {sc so : Scope} {k : Nat} {W : WX}
theorem app_ix {α : Type} (l m : List α) (i : Nat) : (l ++ m)[l.length + i]? = m[i]? := by
  rw [List.getElem?_append_right (by omega), Nat.add_sub_cancel_left]
/-- a call that something of ours is lent to -/
theorem lent_in {f n : Nat} {us : List D} {vs : List V} {F H : Hp} {ext : List Sl} {xv : List (Option V)} {σ : L2.St} {env : PL.Fm} {x : Nat} {d : D} {w : V} {Q : VK} {σ0 : L2.St} (om : M.om = Γ.om) (st : Sta X.K M F H (ext ++ env) (xv ++ σ)) (hl : ext.length = xv.length) (hx : env[x]? = some (some (d, true))) (hw : σ[x]? = some (some w))
    (hu : unl Γ.om d = true) (r : Reps X.K M F us vs) (hn : us.length + 1 = n) (ok : ∀ r, call f ((d, false) :: us.map fun d => (d, false)) = .ret r none → thwR r = true ∧ ∀ v F' H', Same F F' → Sta X.K M F' H' (some r :: (ext ++ env)) (some v :: (xv ++ σ)) → Q v H')
    (ex : ∀ z, call f ((d, false) :: us.map fun d => (d, false)) = .exc z none → thw z.val = true ∧ ∀ cls dx F' H', Same F F' → RepX X.K M F' z cls dx → Sta X.K M F' H' (ext ++ env) (xv ++ σ) → W cls dx σ0 H')
    (alt : (∃ r, call f ((d, false) :: us.map fun d => (d, false)) = .ret r none) ∨ ∃ z, call f ((d, false) :: us.map fun d => (d, false)) = .exc z none) : spF X.K M call f n (w :: vs) H Q (WE W σ0) := by
  obtain ⟨F2, w', fq, s2, hw', rd, st2, f1, L2, b1, b2⟩ := lend st (i := ext.length + x) (d := d) (by rw [app_ix]; exact hx) (by rw [om]; exact hu)
  rw [hl, app_ix, hw] at hw'
  cases hw'
  have rr : Reps X.K M F2 (d :: us) (w :: vs) := .cons rd (r.mono s2)
  have hn' : (d :: us).length = n := by rw [List.length_cons]; exact hn
  have L' : ∀ F', Same F2 F' → ∀ a ∈ f1, ∃ u, F' a = some u ∧ LenO u := fun F' s a ha => by
    obtain ⟨u, e, l⟩ := L2 a ha
    exact ⟨u, s a u e, l⟩
  rcases alt with ⟨r1, hr⟩ | ⟨z, hz⟩
  · obtain ⟨t1, t2⟩ := ok r1 hr
    exact call_in (ds := d :: us) st2 rr hn' hr fun v F' H' s st' => by
      obtain ⟨c1, c2⟩ := b2 F' H' r1 v s st' t1
      exact t2 v _ H' c1 c2
  · obtain ⟨t1, t2⟩ := ex z hz
    exact callX_in (ds := d :: us) st2 rr hn' hz fun cls dx F' H' s rx st' => by
      obtain ⟨c1, c2⟩ := b1 F' H' s st'
      exact t2 cls dx _ H' c1 (thw_exc (L' F' s) rx t1) c2
theorem s_fnb (C : XC X M T L Γ call N sc so k W) {f v : Nat} {es : Es} {x : Str} {xs : List Expr} {p q pos : Pos} (hg : glB sc (T.fN f) = true) (hn : nmOk (T.fN f) = true) (hf : f ∈ T.fs) (hfd : f ∈ T.ds) (h1 : N[v]? = some x) (h2 : visB sc x = true) (h3 : nmOk x = true)
    (ha : PA X xs ((TEs X.K M Γ call) es)) (hp : xs.all plain = true) : PE X (.Call (.Name (T.fN f) p) (.Name x q :: xs) [] pos) ((TEv X.K M Γ call W) (.fnb f v es)) := by
  obtain ⟨h0, dvs, ds, hb, hd, hr⟩ := C.top.fn f hf
  obtain ⟨g1, g2⟩ := h0 hfd
  obtain ⟨n1, _, _⟩ := nmOk_of hn
  have hro : Room k X.A := C.room.mono (Nat.le_succ k)
  refine (pe_callSD (E := WE W) (C.fns f hf) hro (gl_of (by rw [C.scp]; exact hg)) g1 g2 hb hd (passAt C.tk) (pa_cons (s_pv C h1 h2 h3) ha (plain_star rfl)) n1 (plain_star rfl) (stars_none hp)).imp fun σ H Q h => ?_
  obtain ⟨F, ext, xv, env, st, hl, post⟩ := h
  simp only [ev] at post
  obtain ⟨d0, e0, hh, post1⟩ := post_bind post
  obtain ⟨hh, rfl⟩ := lift_ok hh
  obtain ⟨w, hw, _⟩ := rdv_at st hl hh
  obtain ⟨us, e1, hu, post2⟩ := post_bind post1
  refine ⟨w, hw, Ts_sub st hl hu fun vs F1 H1 s1 r1 st1 => ?_⟩
  split at post2
  case h_2 => exact post2.elim
  rename_i d hd1
  split at post2
  case isFalse => exact post2.elim
  rename_i hul
  have rv := r1.app (hr F1)
  split at post2
  · rename_i r hr'
    have len := C.ar f hf _ (by rw [hr']; exact fun z => nomatch z)
    rw [List.length_cons, List.length_map] at len
    split at post2
    case isFalse => exact post2.elim
    rename_i ht
    exact lent_in (us := us ++ Γ.dfl f) C.top.om st1 hl hd1 hw hul rv len (fun r' e => by
      rw [hr'] at e
      cases e
      exact ⟨ht, fun v F' H' s st' => post2 v F' H' (s1.trans s) st'⟩) (fun z e => by rw [hr'] at e; cases e) (.inl ⟨_, hr'⟩)
  · rename_i z hr'
    have len := C.ar f hf _ (by rw [hr']; exact fun z => nomatch z)
    rw [List.length_cons, List.length_map] at len
    split at post2
    case isFalse => exact post2.elim
    rename_i ht
    exact lent_in (us := us ++ Γ.dfl f) C.top.om st1 hl hd1 hw hul rv len (fun r' e => by rw [hr'] at e; cases e) (fun z' e => by
      rw [hr'] at e
      cases e
      exact ⟨ht, fun cls dx F' H' s rx st' => post2 cls dx F' H' (s1.trans s) rx st'⟩) (.inr ⟨_, hr'⟩)
  · exact post2.elim
theorem s_mtb (C : XC X M T L Γ call N sc so k W) {i m : Nat} {es : Es} {x : Str} {xs : List Expr} {q ap cp : Pos} (h1 : N[i]? = some x) (h2 : visB sc x = true) (h3 : nmOk x = true) (ha : PA X xs ((TEs X.K M Γ call) es)) (hp : xs.all plain = true) (hn : xs.length < 30) (hl : (ap.endLine == cp.line) = true) (hz : xs = [] ↔ es = .nil) :
    PE X (.Call (.Attribute (.Name x q) (T.mN m) ap) xs [] cp) ((TEv X.K M Γ call W) (.mtb i m es)) := by
  refine (pe_mt C (m := m) (fun nm => rfl) (s_pv C h1 h2 h3) ha hp hn hl hz).imp fun σ H Q h => ?_
  obtain ⟨F, ext, xv, env, st, hl, post⟩ := h
  simp only [ev] at post
  split at post
  case h_2 => exact post.elim
  rename_i c fs vs0 hi0
  split at post
  case isFalse => exact post.elim
  rename_i hall
  split at post
  case h_2 => exact post.elim
  rename_i f hq
  obtain ⟨us, e1, hu, post2⟩ := post_bind post
  obtain ⟨hf, _, _, hd0, _⟩ := C.top.meth c m f hq
  obtain ⟨w, fp, hw, ro⟩ := sta_ix st hl hi0
  refine ⟨⟨(c, f), hq⟩, w, hw, ?_⟩
  cases ro with
  | ins hA ek rs =>
    refine ⟨_, _, _, rfl, hA, no_meth C.top hq hall ek, tz_in st hl hu fun vs F1 H1 s1 r1 st1 => ?_⟩
    rw [List.append_nil]
    split at post2
    case h_2 => exact post2.elim
    rename_i d hd1
    split at post2
    case isFalse => exact post2.elim
    rename_i hul
    split at post2
    · rename_i r hr'
      have len := C.ar f hf _ (by rw [hr']; exact fun z => nomatch z)
      rw [List.length_cons, List.length_map] at len
      split at post2
      case isFalse => exact post2.elim
      rename_i ht
      exact lent_in C.top.om st1 hl hd1 hw hul r1 len (fun r' e => by
        rw [hr'] at e
        cases e
        exact ⟨ht, fun v F' H' s st' => post2 v F' H' (s1.trans s) st'⟩) (fun z e => by rw [hr'] at e; cases e) (.inl ⟨_, hr'⟩)
    · rename_i z hr'
      have len := C.ar f hf _ (by rw [hr']; exact fun z => nomatch z)
      rw [List.length_cons, List.length_map] at len
      split at post2
      case isFalse => exact post2.elim
      rename_i ht
      exact lent_in C.top.om st1 hl hd1 hw hul r1 len (fun r' e => by rw [hr'] at e; cases e) (fun z' e => by
        rw [hr'] at e
        cases e
        exact ⟨ht, fun cls dx F' H' s rx st' => post2 cls dx F' H' (s1.trans s) rx st'⟩) (.inr ⟨_, hr'⟩)
    · exact post2.elim
end
section
variable {K : PySem.W.Frag} {M : Nm} {F H : Hp}
/-- a field of ours taken out, and put back changed -/
theorem RepOs.pull {om : Nat → Bool} {fl : Nat → Str} {f : Nat} {d : D} (ho : om f = true) : ∀ {fs : List Nat} {ds : List D} {kvs : List (Str × V)} {fp : List Addr}, RepOs K M F H (fs.map om) ds (kvs.map (·.2)) fp → kvs.map (·.1) = fs.map fl → (∀ g ∈ fs, fl g = fl f → g = f) → fget fs ds f = some d →
    ∃ v fg fr, kvs.lookup (fl f) = some v ∧ RepO K M F H d true v fg ∧ fp.Perm (fg ++ fr) ∧ ∀ F' H' d' fg', Same F F' → (∀ a ∈ fr, ∀ u, H a = some u → H' a = some u) → RepO K M F' H' d' true v fg' → ∃ fp', RepOs K M F' H' (fs.map om) (fput f d' fs ds).2 (kvs.map (·.2)) fp' ∧ fp'.Perm (fg' ++ fr)
  | [], _, _, _, _, _, _, h => by simp [fget] at h
  | _ :: _, [], _, _, _, _, _, h => by simp [fget] at h
  | g :: fs, x :: ds, kvs, fp, ro, e, inj, hg => by
    cases kvs with
    | nil => simp at e
    | cons kv kvs =>
      obtain ⟨nm, w⟩ := kv
      simp only [List.map_cons, List.cons.injEq] at e
      obtain ⟨e1, e2⟩ := e
      subst e1
      cases ro with
      | cons q ro =>
        rename_i fp1 fp2
        unfold fget at hg
        rw [List.lookup_cons]
        by_cases c : g = f
        · subst c
          rw [if_pos rfl] at hg
          cases hg
          rw [ho] at q
          refine ⟨w, fp1, fp2, by rw [beq_self_eq_true], q, .refl _, fun F' H' d' fg' s k r => ⟨fg' ++ fp2, ?_, .refl _⟩⟩
          unfold fput
          rw [if_pos rfl]
          exact .cons (by rw [ho]; exact r) (ro.mono s k)
        · rw [if_neg c] at hg
          have ne : (fl f == fl g) = false := by
            rw [beq_eq_false_iff_ne]
            exact fun e => c (inj g (by simp) e.symm)
          obtain ⟨v, fg, fr, l, r, pm, bk⟩ := RepOs.pull ho ro e2 (fun g hg => inj g (by simp [hg])) hg
          refine ⟨v, fg, fp1 ++ fr, by rw [ne]; exact l, r, (pm.append_left fp1).trans (List.perm_append_comm_assoc fp1 fg fr), fun F' H' d' fg' s k r' => ?_⟩
          obtain ⟨fp', b1, b2⟩ := bk F' H' d' fg' s (fun a ha => k a (List.mem_append_right _ ha)) r'
          refine ⟨fp1 ++ fp', ?_, (b2.append_left fp1).trans (List.perm_append_comm_assoc fp1 fg' fr)⟩
          unfold fput
          rw [if_neg c]
          exact .cons (q.mono s fun a ha => k a (List.mem_append_left _ ha)) b1
end
section
variable {X : Cx} {M : Nm} {T : Ns} {L : Lk} {Γ : Ctx} {call : Nat → List (D × Bool) → CRes} {N : List Str} {sc so : Scope} {k : Nat} {W : WX}
theorem perm_mid {α : Type} {a : α} {fp fg fr fq : List α} (h : fp.Perm (fg ++ fr)) : ((a :: fp) ++ fq).Perm ((a :: fr) ++ (fq ++ fg)) := by
  rw [List.cons_append, List.cons_append]
  refine .cons a ?_
  refine (h.append_right fq).trans ?_
  rw [List.append_assoc]
  refine (List.perm_append_comm (l₁ := fg) (l₂ := fr ++ fq)).trans ?_
  rw [List.append_assoc]
/-- self.f.m(y), f ours -/
theorem s_mthq (C : XC X M T L Γ call N sc so k W) {i g m j : Nat} {x y : Str} {q ap0 ap cp yp : Pos} (h1 : N[i]? = some x) (h2 : visB sc x = true) (h3 : nmOk x = true) (g1 : N[j]? = some y) (g2 : visB sc y = true) (g3 : nmOk y = true) (hl0 : (ap.endLine == cp.line) = true) :
    PE X (.Call (.Attribute (.Attribute (.Name x q) (T.fl g) ap0) (T.mN m) ap) [.Name y yp] [] cp) ((TEv X.K M Γ call W) (.mthq i g m j)) := by
  have hP : mP T N sc (.atr (.var i) g) (.Attribute (.Name x q) (T.fl g) ap0) = true := by simp [mP, h1, h2, h3]
  have hro : Room k X.A := C.room.mono (Nat.le_succ k)
  have P := pe_some (X := X) (e := .Call (.Attribute (.Attribute (.Name x q) (T.fl g) ap0) (T.mN m) ap) [.Name y yp] [] cp) (α := Mt Γ m) (t := fun q => tMethS (M.cl q.1.1) (T.mN m) (spF X.K M call q.1.2 (L.ps q.1.2).length) [] (WE W) (fun σ H Q => ∃ v, PV X.K T.fl σ H (.atr (.var i) g) v ∧ Q v H) (fun σ H R => ∃ w, σ[j]? = some (some w) ∧ R [w] H)) fun q => by
    obtain ⟨⟨c, f⟩, hq⟩ := q
    obtain ⟨hf, cl, mt, hd0, _⟩ := C.top.meth c m f hq
    obtain ⟨_, dvs, ds, hbn, hd, hr⟩ := C.top.fn f hf
    have hnil : dvs = [] := by
      have := hr (fun _ => none)
      rw [hd0] at this
      cases this
      rfl
    subst hnil
    exact pe_methSD (E := WE W) (p_path C hP) cl mt (C.fns f hf) hro hbn hd (passAt C.tk) (pa_cons (s_pv C g1 g2 g3) pa_nil rfl) (plain_star rfl) rfl (call_meth (mP_base hP _) rfl (show 1 < 30 by omega) hl0)
  refine P.imp fun σ H Q h => ?_
  obtain ⟨F, ext, xv, env, st, hl, post⟩ := h
  simp only [ev] at post
  split at post
  case h_2 => exact post.elim
  rename_i c fs vs dj hi hj
  split at post
  case isFalse => exact post.elim
  rename_i hc
  simp only [Bool.and_eq_true] at hc
  obtain ⟨hall, hcg, hom⟩ := hc
  split at post
  case h_2 => exact post.elim
  rename_i c2 fs2 vs2 hg
  split at post
  case isFalse => exact post.elim
  rename_i hall2
  split at post
  case h_2 => exact post.elim
  rename_i f hq
  obtain ⟨hf, _, _, hd0, _⟩ := C.top.meth c2 m f hq
  obtain ⟨k1, k2, k3⟩ := C.top.cls c g hcg
  refine ⟨⟨(c2, f), hq⟩, ?_⟩
  obtain ⟨wj, fj, hwj, rj⟩ := sta_ix st hl hj
  cases rj with
  | fz rj =>
  obtain ⟨wa, hwa, st1⟩ := sta_out st hl hi
  obtain ⟨fp, q1, nd, fn, sm⟩ := st1
  cases q1 with
  | slot q1 qr =>
    rename_i f0 fq
    cases q1 with
    | ins hA ek ro =>
      rename_i a dx kvs fp0
      rw [C.top.fl] at ek
      obtain ⟨v, fg, fr, lk, rg, pm, bk⟩ := RepOs.pull (om := M.om c) (fl := T.fl) (f := g) (by rw [C.top.om]; exact hom) ro ek (fun g' hg' z => (k3 g' (List.all_eq_true.mp hall g' hg') z.symm).symm) hg
      have pall := perm_mid (a := a) (fq := fq) pm
      have nd2 := (pall.nodup_iff).mp nd
      have rg0 := rg
      cases rg with
      | ins hB ek2 ro2 =>
        rename_i b0 dx0 kvs0 fg0
        refine ⟨_, .atr (.var hwa) hA k1 k2 lk, _, _, _, rfl, hB, no_meth C.top hq hall2 ek2, wj, hwj, ?_⟩
        show spF X.K M call f (L.ps f).length [V.ref b0, wj] H Q (WE W σ)
        have there : ∀ b ∈ a :: fr, ∃ u, H b = some u ∧ NoTb u := fun b hb => by
          rcases List.mem_cons.mp hb with rfl | hb
          · exact ⟨_, hA, fun ps z => nomatch z⟩
          · have hb' : b ∈ fp0 := pm.mem_iff.mpr (List.mem_append_right _ hb)
            obtain ⟨u, hu⟩ := ro.there b hb'
            exact ⟨u, hu, ro.notb b hb' u hu⟩
        have qe : RepE X.K M F H (objS H (a :: fr) ++ (ext ++ env.set i none) ++ [some (.ins c2 fs2 vs2, true), some (dj, false)]) (objV (a :: fr) ++ (xv ++ σ) ++ [some (.ref b0), some wj]) ((a :: fr) ++ fq ++ ((b0 :: fg0) ++ ([] ++ []))) := ((objE there).app qr).app (.slot rg0 (.slot (.fz rj) .nil))
        have st2 : Sta X.K M F H (objS H (a :: fr) ++ (ext ++ env.set i none) ++ [some (.ins c2 fs2 vs2, true), some (dj, false)]) (objV (a :: fr) ++ (xv ++ σ) ++ [some (.ref b0), some wj]) := by
          refine ⟨_, qe, ?_, fun b hb => ?_, sm⟩
          · simpa [List.append_assoc] using nd2
          · exact fn b (pall.mem_iff.mpr (by simpa [List.append_assoc] using hb))
        have len : ∀ {r}, call f [(.ins c2 fs2 vs2, true), (dj, false)] = r → r ≠ .err → 2 = (L.ps f).length := fun e ne => by
          have := C.ar f hf _ (by rw [e]; exact ne)
          simpa using this
        have hlen : (objS H (a :: fr) ++ (ext ++ env.set i none)).length = (objV (a :: fr) ++ (xv ++ σ)).length := by
          have e1 := obj_len H (a :: fr)
          have e2 := qr.len
          rw [List.length_append (as := objS H (a :: fr)), List.length_append (as := objV (a :: fr)), e1, e2]
        -- behind the call
        have bring : ∀ F' H' d', Same F F' → ∀ (rs : List Sl) (us : List (Option V)), rs.length = us.length → Sta X.K M F' H' (rs ++ some (d', true) :: (objS H (a :: fr) ++ (ext ++ env.set i none))) (us ++ some (V.ref b0) :: (objV (a :: fr) ++ (xv ++ σ))) →
            Sta X.K M F' H' (rs ++ (ext ++ env.set i (some (.ins c fs (fput g d' fs vs).2, true)))) (us ++ (xv ++ σ)) := fun F' H' d' s rs us hrs st' => by
          obtain ⟨fp', q', n', fn', m'⟩ := st'
          obtain ⟨fa, fb, rfl, qa, qb⟩ := q'.cut hrs
          cases qb with
          | slot qd qb =>
            rename_i fg' fb
            obtain ⟨fo, fq', rfl, qo, qq⟩ := qb.cut (obj_len H (a :: fr))
            obtain ⟨rfl, hob⟩ := objE_at (fun b hb => let ⟨u, e, _⟩ := there b hb; ⟨u, e⟩) qo
            obtain ⟨fp2, b1, b2⟩ := bk F' H' d' fg' s (fun b hb u hu => by rw [hob b (List.mem_cons_of_mem _ hb)]; exact hu) qd
            have hA' : H' a = some (.ins (M.cl c) dx kvs) := by
              rw [hob a (by simp)]
              exact hA
            have hi2 : i < env.length := (List.getElem?_eq_some_iff.mp hi).1
            have pm2 : (fa ++ ((a :: fp2) ++ fq')).Perm (fa ++ (fg' ++ ((a :: fr) ++ fq'))) := by
              refine List.Perm.append_left fa ((perm_mid (a := a) (fq := fq') b2).trans ?_)
              rw [← List.append_assoc]
              exact List.perm_append_comm
            have st3 : Sta X.K M F' H' ((rs ++ [some (.ins c fs (fput g d' fs vs).2, true)]) ++ (ext ++ env.set i none)) ((us ++ [some (.ref a)]) ++ (xv ++ σ)) := by
              refine ⟨fa ++ ((a :: fp2) ++ []) ++ fq', (qa.app (.slot (.ins hA' (by rw [C.top.fl]; exact ek) b1) .nil)).app qq, ?_, fun b hb => ?_, m'⟩
              · rw [List.append_nil, List.append_assoc]
                exact pm2.nodup_iff.mpr n'
              · rw [List.append_nil, List.append_assoc] at hb
                exact fn' b (pm2.mem_iff.mp hb)
            have st4 : Sta X.K M F' H' (rs ++ some (.ins c fs (fput g d' fs vs).2, true) :: (ext ++ env.set i none)) (us ++ some (.ref a) :: (xv ++ σ)) := by simpa [List.append_assoc] using st3
            -- back into its slot
            obtain ⟨fp4, q4, n4, fn4, m4⟩ := st4
            obtain ⟨f5, f6, rfl, q5, q6⟩ := q4.cut hrs
            have st6 : Sta X.K M F' H' (some (.ins c fs (fput g d' fs vs).2, true) :: (rs ++ (ext ++ env.set i none))) (some (.ref a) :: (us ++ (xv ++ σ))) := by
              cases q6 with
              | slot q7 q8 =>
                rename_i f7 f8
                have pz : (f7 ++ (f5 ++ f8)).Perm (f5 ++ (f7 ++ f8)) := List.perm_append_comm_assoc f7 f5 f8
                exact ⟨f7 ++ (f5 ++ f8), .slot q7 (q5.app q8), pz.nodup_iff.mpr n4, fun b hb => fn4 b (pz.mem_iff.mp hb), m4⟩
            have q := sta_in (ext := rs ++ ext) (xv := us ++ xv) (by rw [List.append_assoc, List.append_assoc]; exact st6) (by rw [List.length_append, List.length_append, hrs, hl]) (by rw [List.length_set]; exact hi2)
            rw [List.set_set, set_same_of hwa, List.append_assoc, List.append_assoc] at q
            exact q
        split at post
        · rename_i r d' hr'
          refine ⟨len hr' (fun z => nomatch z), F, _, _, [(.ins c2 fs2 vs2, true), (dj, false)], hlen, len hr' (fun z => nomatch z), st2, ?_⟩
          rw [hr']
          refine ⟨⟨_, _, rfl⟩, fun u F' H' s st' => ?_⟩
          exact post u F' H' s (bring F' H' d' s [some r] [some u] rfl st')
        · rename_i z d' hr'
          refine ⟨len hr' (fun z => nomatch z), F, _, _, [(.ins c2 fs2 vs2, true), (dj, false)], hlen, len hr' (fun z => nomatch z), st2, ?_⟩
          rw [hr']
          exact ⟨⟨_, _, rfl⟩, fun cls dx F' H' s rx st' => post cls dx F' H' s rx (bring F' H' d' s [] [] rfl st')⟩
        · exact post.elim
end
end PL
/-! PLStm: statements. -/
namespace PL
open PySem PySem.Spec PyProof.Rows L2

/-- the def's first slot stays what it was handed, where that is changed in place -/
def Pin (io : Bool) (v0 : Option V) (σ : L2.St) : Prop := io = true → σ[0]? = some v0
theorem Pin.set {io : Bool} {v0 : Option V} {σ : L2.St} {i : Nat} {x : Option V} (h : Pin io v0 σ) (hi : io = true → i ≠ 0) : Pin io v0 (σ.set i x) := fun e => by
  rw [List.getElem?_set_ne (hi e)]
  exact h e
section
variable (K : PySem.W.Frag) (M : Nm) (Γ : Ctx) (call : Nat → List (D × Bool) → CRes) (io : Bool) (v0 : Option V) (W : WX)
def PostS (F : Hp) (ext : List Sl) (xv : List (Option V)) (D : Ends) (r : Fl) : Prop :=
  match r with
  | .nx e => ∀ F' H' σ', Same F F' → Sta K M F' H' (ext ++ e) (xv ++ σ') → Pin io v0 σ' → D.nx σ' H'
  | .rt r e => ∀ v F' H' σ', Same F F' → Sta K M F' H' (some r :: (ext ++ e)) (some v :: (xv ++ σ')) → Pin io v0 σ' → D.rt v H'
  | .exc x e => ∀ cls d F' H' σ', Same F F' → RepX K M F' x cls d → Sta K M F' H' (ext ++ e) (xv ++ σ') → Pin io v0 σ' → W cls d σ' H'
  | .err => False
def TSt (s : S) : TS := fun D σ H => ∃ F ext xv env, Sta K M F H (ext ++ env) (xv ++ σ) ∧ ext.length = xv.length ∧ Pin io v0 σ ∧ PostS K M io v0 W F ext xv D (ex Γ call io s env)
def TSs (s : Ss) : TS := fun D σ H => ∃ F ext xv env, Sta K M F H (ext ++ env) (xv ++ σ) ∧ ext.length = xv.length ∧ Pin io v0 σ ∧ PostS K M io v0 W F ext xv D (exs Γ call io s env)
def PostP (F : Hp) (ext : List Sl) (xv : List (Option V)) (σ : L2.St) (r : Res (List (D × Bool))) (Q : List V → Hp → Prop) : Prop :=
  match r with
  | .ok rs env' => ∀ vs F' H', Same F F' → rs.length = vs.length → Sta K M F' H' (rs.reverse.map some ++ (ext ++ env')) (vs.reverse.map some ++ (xv ++ σ)) → Q vs H'
  | _ => False
def TEp (es : Es) : TA := fun σ H Q => ∃ F ext xv env, Sta K M F H (ext ++ env) (xv ++ σ) ∧ ext.length = xv.length ∧ PostP K M F ext xv σ (evp Γ call es env) Q
def PostI (F : Hp) (ext : List Sl) (xv : List (Option V)) (σ : L2.St) (r : Res (List D)) (R : It → Hp → Prop) : Prop := False
end
section
variable {K : PySem.W.Frag} {M : Nm} {io : Bool} {v0 : Option V} {W : WX} {F F1 : Hp} {ext : List Sl} {xv : List (Option V)} {D : Ends}
theorem postS_mono {r : Fl} (s : Same F F1) (h : PostS K M io v0 W F ext xv D r) : PostS K M io v0 W F1 ext xv D r := by
  unfold PostS at h ⊢
  split at h
  · exact fun F' H' σ' s' st p => h F' H' σ' (s.trans s') st p
  · exact fun v F' H' σ' s' st p => h v F' H' σ' (s.trans s') st p
  · exact fun cls d F' H' σ' s' r st p => h cls d F' H' σ' (s.trans s') r st p
  · exact h.elim
theorem postS_flN {α : Type} {r : Res α} {f : α → PL.Fm → Fl} (h : PostS K M io v0 W F ext xv D (r.flN f)) : ∃ a e, r = .ok a e ∧ PostS K M io v0 W F ext xv D (f a e) := by
  cases r with
  | ok a e => exact ⟨a, e, rfl, h⟩
  | exc x e => exact h.elim
  | err => exact h.elim
theorem postS_fl {α : Type} {r : Res α} {f : α → PL.Fm → Fl} (h : PostS K M io v0 W F ext xv D (r.fl f)) : (∃ a e, r = .ok a e ∧ PostS K M io v0 W F ext xv D (f a e)) ∨ ∃ x e, r = .exc x e ∧ PostS K M io v0 W F ext xv D (.exc x e) := by
  cases r with
  | ok a e => exact .inl ⟨a, e, rfl, h⟩
  | exc x e => exact .inr ⟨x, e, rfl, h⟩
  | err => exact h.elim
theorem postS_bind {r : Fl} {f : PL.Fm → Fl} (h : PostS K M io v0 W F ext xv D (r.bind f)) (k : ∀ e, PostS K M io v0 W F ext xv D (f e) → ∀ F' H' σ', Same F F' → Sta K M F' H' (ext ++ e) (xv ++ σ') → Pin io v0 σ' → D.nx σ' H') : PostS K M io v0 W F ext xv D r := by
  cases r with
  | nx e => exact k e h
  | rt r e => exact h
  | exc x e => exact h
  | err => exact h.elim
/-- a part lets an exception out -/
theorem T_exc {Γ : Ctx} {call : Nat → List (PL.D × Bool) → CRes} {H : Hp} {σ : L2.St} {env e1 : PL.Fm} {e : E} {R : VK} {x : Exn} (st : Sta K M F H (ext ++ env) (xv ++ σ)) (hl : ext.length = xv.length) (pn : Pin io v0 σ) (h1 : ev Γ call e env = .exc x e1) (post : PostS K M io v0 W F ext xv D (.exc x e1)) : TEv K M Γ call W e σ H R := by
  refine ⟨F, ext, xv, env, st, hl, ?_⟩
  rw [h1]
  exact fun cls d F' H' s r st' => post cls d F' H' σ s r st' pn
end

/-- no comprehension -/
def noComp : Expr → Bool
  | .ListComp _ _ _ _ => false
  | .SetComp _ _ _ _ => false
  | .DictComp _ _ _ _ _ => false
  | _ => true
theorem swaps_no {e : Expr} {t : Option Expr} {l : Nat} {env : PySem.Env} (h : noComp e = true) : swapsWith e t l env = pure false := by
  cases e <;> first | rfl | (simp [noComp] at h; done)
theorem swapsSole_no {e t : Expr} {l : Nat} {env : PySem.Env} (h : noComp e = true) : swapsWithSole [t] e l env = pure false := swaps_no h
def noTup : Expr → Bool
  | .Tuple _ _ _ => false
  | _ => true
def isNm : Expr → Bool
  | .Name _ _ => true
  | _ => false
theorem stores_nm {t e : Expr} {env : PySem.Env} (h : (noTup e || isNm t) = true) : swappedStores [t] e env = pure none := by
  cases t <;> cases e <;> first | rfl | (simp [noTup, isNm] at h; done)
theorem stores_no {t e : Expr} {env : PySem.Env} (h : noTup e = true) : swappedStores [t] e env = pure none := by
  cases t <;> cases e <;> first | rfl | (simp [noTup] at h; done)
def gNs : List Nat → TGs
  | [] => gNil
  | i :: is => gCons (gName i) (gNs is)
def gOf (K : PySem.W.Frag) : Tg → TG
  | .one i => gName i
  | .many is => gTup K is.length (gNs is)
theorem names_each {N : List Str} {so : Scope} {env : PySem.Env} : ∀ {is : List Nat} {ts : List Expr}, nmT N so is ts = true → (assignEach ts env).length = is.length ∧ (assignEach ts env).findIdx? (·.1) = none
  | [], [], _ => ⟨rfl, rfl⟩
  | i :: is, t :: r, h => by
    cases t with
    | Name x p =>
      simp only [nmT, Bool.and_eq_true] at h
      obtain ⟨a, b⟩ := names_each (env := env) h.2
      refine ⟨by show (assignEach r env).length + 1 = _; rw [a] <;> rfl, ?_⟩
      show List.findIdx? _ ((false, assign (.Name x p) env) :: assignEach r env) = none
      rw [List.findIdx?_cons]
      simp [b]
    | _ => simp [nmT] at h
  | [], _ :: _, h => by simp [nmT] at h
  | _ :: _, [], h => by simp [nmT] at h

section
variable {X : Cx} {M : Nm} {T : Ns} {L : Lk} {Γ : Ctx} {call : Nat → List (D × Bool) → CRes} {N : List Str} {sc so : Scope} {k : Nat} {W : WX} {io : Bool} {v0 : Option V}

theorem g_name (C : XC X M T L Γ call N sc so k W) {i : Nat} {x : Str} {p : Pos} (h : N[i]? = some x) (hs : stoB so x = true) : PG X (.Name x p) (gName i) := by
  obtain ⟨a, b⟩ := C.sto x hs
  exact pg_name (by rw [C.hN]; exact C.nd) (by rw [C.hN]; exact h) a b
theorem g_names (C : XC X M T L Γ call N sc so k W) : ∀ {is : List Nat} {ts : List Expr}, nmT N so is ts = true → PGs X ts (gNs is)
  | [], [], _ => pgs_nil
  | i :: is, t :: r, h => by
    cases t with
    | Name x p =>
      simp only [nmT, Bool.and_eq_true] at h
      exact pgs_cons (g_name C (of_decide_eq_true h.1.1) h.1.2) (g_names C h.2) rfl
    | _ => simp [nmT] at h
  | [], _ :: _, h => by simp [nmT] at h
  | _ :: _, [], h => by simp [nmT] at h
theorem g_of (C : XC X M T L Γ call N sc so k W) {tg : Tg} {t : Expr} (h : mT N so tg t = true) : PG X t (gOf X.K tg) := by
  cases tg with
  | one i =>
    cases t with
    | Name x p =>
      simp only [mT, Bool.and_eq_true] at h
      exact g_name C (of_decide_eq_true h.1) h.2
    | _ => simp [mT] at h
  | many is =>
    cases t with
    | Tuple ts j p =>
      obtain ⟨a, b⟩ := names_each (env := X.env) (show nmT N so is ts = true from h)
      exact pg_tup C.calm (g_names C h) a b
    | _ => simp [mT] at h

theorem sta_put {K : PySem.W.Frag} {F H : Hp} {ext : List Sl} {xv : List (Option V)} {σ : L2.St} {env : PL.Fm} {i : Nat} {r : D × Bool} {v : V} (st : Sta K M F H (some r :: (ext ++ env)) (some v :: (xv ++ σ))) (hl : ext.length = xv.length) :
    Sta K M F H (ext ++ env.set i (some r)) (xv ++ σ.set i (some v)) := by
  obtain ⟨d, o⟩ := r
  by_cases hi : i < env.length
  · exact sta_in st hl hi
  · have e := st.drop.len
    rw [List.length_append, List.length_append] at e
    rw [List.set_eq_of_length_le (by omega), List.set_eq_of_length_le (by omega)]
    exact st.drop
theorem gNs_ok {K : PySem.W.Frag} {F H : Hp} {ext : List Sl} {xv : List (Option V)} {R : L2.St → Hp → Prop} (hl : ext.length = xv.length) : ∀ {is : List Nat} {ds : List D} {vs : List V} {env : PL.Fm} {σ : L2.St}, Reps K M F ds vs → ds.length = is.length → Sta K M F H (ext ++ env) (xv ++ σ) → (io = true → 0 ∉ is) → Pin io v0 σ →
    (∀ σ2, Sta K M F H (ext ++ (is.zip ds).foldl (fun e p => e.set p.1 (some (p.2, false))) env) (xv ++ σ2) → Pin io v0 σ2 → R σ2 H) → gNs is vs σ H R
  | [], [], _, env, σ, .nil, _, st, _, pn, h => ⟨rfl, h σ st pn⟩
  | [], _ :: _, _, _, _, _, e, _, _, _, _ => by simp at e
  | _ :: _, [], _, _, _, _, e, _, _, _, _ => by simp at e
  | i :: is, d :: ds, _, env, σ, .cons a r, e, st, h0, pn, h => by
    refine ⟨_, _, rfl, gNs_ok hl (is := is) (env := env.set i (some (d, false))) r (by simpa using e) (sta_put (st.push a) hl) (fun z w => h0 z (by simp [w])) (pn.set fun z w => h0 z (by simp [w])) h⟩
theorem bnd_ok {K : PySem.W.Frag} {F H : Hp} {ext : List Sl} {xv : List (Option V)} {σ : L2.St} {env env1 : PL.Fm} {tg : Tg} {r : D × Bool} {v : V} {R : L2.St → Hp → Prop} (hl : ext.length = xv.length) (st : Sta K M F H (some r :: (ext ++ env)) (some v :: (xv ++ σ))) (pn : Pin io v0 σ)
    (h : bnd io tg r env = some env1) (q : ∀ F' σ2, Same F F' → Sta K M F' H (ext ++ env1) (xv ++ σ2) → Pin io v0 σ2 → R σ2 H) : gOf K tg v σ H R := by
  cases tg with
  | one i =>
    simp only [bnd] at h
    split at h
    · cases h
    · rename_i hh
      cases h
      exact q F _ (Same.refl F) (sta_put st hl) (pn.set fun a b => hh ⟨a, b⟩)
  | many is =>
    obtain ⟨d, o⟩ := r
    cases d <;> simp only [bnd, reduceCtorEq] at h
    rename_i l
    split at h
    · rename_i hh
      cases h
      obtain ⟨F', s, rd, st'⟩ := st.settle
      obtain ⟨a, ws, rfl, h1, z1, r1⟩ := rep_tup rd
      exact ⟨a, ws, rfl, same_sqT st'.same h1, by rw [← r1.len, hh.1], gNs_ok hl r1 hh.1 st' hh.2 pn fun σ2 st2 p2 => q F' σ2 s st2 p2⟩
    · cases h

theorem x_asg (C : XC X M T L Γ call N sc so k W) {tg : Tg} {e : E} {t x : Expr} {pos : Pos} (ha : PE X x ((TEv X.K M Γ call W) e)) (hg : mT N so tg t = true) (hc : ∀ l, swapsWithSole [t] x l X.env = pure false) (ht : swappedStores [t] x X.env = pure none) : PS X (.Assign [t] x pos) ((TSt X.K M Γ call io v0 W) (.asg tg e)) := by
  refine (ps_asg ha (g_of C hg) (hc _) ht ?_).imp fun D σ H h => ?_
  · cases tg <;> cases t <;> first | rfl | (simp [mT] at hg; done)
  · obtain ⟨F, ext, xv, env, st, hl, pn, post⟩ := h
    simp only [ex] at post
    rcases postS_fl post with ⟨r, e1, h1, post⟩ | ⟨x, e1, h1, post⟩
    case inr => exact T_exc st hl pn h1 post
    split at post
    · rename_i env1 hb
      exact T_keep st hl h1 fun v F1 H1 s1 st1 => bnd_ok hl st1 pn hb fun F2 σ2 s2 st2 p2 => post F2 H1 σ2 (s1.trans s2) st2 p2
    · exact post.elim
theorem aug_in {f : Int → Int → Int} {e : E} {i : Nat} {sb : Bool} (hf : ∀ a b, f a b = if sb = true then a - b else a + b) {D : Ends} {σ : L2.St} {H : Hp} (h : (TSt X.K M Γ call io v0 W) (.aug i sb e) D σ H) : tAug i ((TEv X.K M Γ call W) e) (ipI f) D σ H := by
  obtain ⟨F, ext, xv, env, st, hl, pn, post⟩ := h
  simp only [ex] at post
  split at post
  · rename_i a' hr
    obtain ⟨v, hv, pk⟩ := rdv_at st hl hr
    obtain ⟨r, e1, h1, post⟩ := postS_flN post
    have ev1 : v = .int a' := by
      cases pk with
      | rep r => exact rep_int r
    subst ev1
    refine ⟨_, hv, T_sub st hl h1 fun w F1 H1 s1 r1 st1 => ?_⟩
    obtain ⟨d, o⟩ := r
    cases d <;> simp only at post r1 <;> try exact post.elim
    rename_i b'
    cases rep_int r1
    refine ⟨a', b', rfl, rfl, ?_⟩
    split at post
    · exact post.elim
    · rename_i hh
      rw [hf]
      exact post F1 H1 _ s1 (sta_put (st1.push (.int _)) hl) (pn.set fun a b => hh ⟨a, b⟩)
  · exact post.elim
def aop (sb : Bool) : Operator := if sb = true then .Sub else .Add
theorem x_aug (C : XC X M T L Γ call N sc so k W) {sb : Bool} {e : E} {i : Nat} {x : Str} {y : Expr} {p pos : Pos} (ha : PE X y ((TEv X.K M Γ call W) e)) (h1 : N[i]? = some x) (h2 : stoB so x = true) : PS X (.AugAssign (.Name x p) (aop sb) y pos) ((TSt X.K M Γ call io v0 W) (.aug i sb e)) := by
  obtain ⟨a, b⟩ := C.sto x h2
  cases sb with
  | false => exact (ps_aug (by rw [C.hN]; exact C.nd) (by rw [C.hN]; exact h1) a ha ip_add b).imp fun D σ H h => aug_in (fun _ _ => rfl) h
  | true => exact (ps_aug (by rw [C.hN]; exact C.nd) (by rw [C.hN]; exact h1) a ha ip_sub b).imp fun D σ H h => aug_in (fun _ _ => rfl) h
theorem x_exp {e : E} {x : Expr} {pos : Pos} (ha : PE X x ((TEv X.K M Γ call W) e)) (hc : noComp x = true) : PS X (.Expr x pos) ((TSt X.K M Γ call io v0 W) (.exp e)) :=
  (ps_expr ha (swaps_no hc)).imp fun D σ H h => by
    obtain ⟨F, ext, xv, env, st, hl, pn, post⟩ := h
    simp only [ex] at post
    rcases postS_fl post with ⟨r, e1, h1, post⟩ | ⟨x, e1, h1, post⟩
    case inr => exact T_exc st hl pn h1 post
    exact T_keep st hl h1 fun v F1 H1 s1 st1 => post F1 H1 σ s1 st1.drop pn
theorem x_ret {e : E} {x : Expr} {pos : Pos} (ha : PE X x ((TEv X.K M Γ call W) e)) : PS X (.Return (some x) pos) ((TSt X.K M Γ call io v0 W) (.ret e)) :=
  (ps_ret ha).imp fun D σ H h => by
    obtain ⟨F, ext, xv, env, st, hl, pn, post⟩ := h
    simp only [ex] at post
    rcases postS_fl post with ⟨r, e1, h1, post⟩ | ⟨x, e1, h1, post⟩
    case inr => exact T_exc st hl pn h1 post
    exact T_keep st hl h1 fun v F1 H1 s1 st1 => post v F1 H1 σ s1 st1 pn
/-- what is ours is handed out -/
theorem x_retv (C : XC X M T L Γ call N sc so k W) {i : Nat} {x : Str} {p pos : Pos} (h1 : N[i]? = some x) (h2 : visB sc x = true) (h3 : nmOk x = true) : PS X (.Return (some (.Name x p)) pos) ((TSt X.K M Γ call io v0 W) (.retv i)) :=
  (ps_ret (s_pv C h1 h2 h3)).imp fun D σ H h => by
    obtain ⟨F, ext, xv, env, st, hl, pn, post⟩ := h
    simp only [ex] at post
    split at post
    case h_2 => exact post.elim
    rename_i r hi
    split at post
    case isTrue => exact post.elim
    obtain ⟨d, o⟩ := r
    obtain ⟨v, hv, st1⟩ := sta_out st hl hi
    exact ⟨v, hv, post v F H σ (Same.refl F) st1 pn⟩
theorem x_retN {pos : Pos} : PS X (.Return none pos) ((TSt X.K M Γ call io v0 W) .retN) :=
  ps_retN.imp fun D σ H h => by
    obtain ⟨F, ext, xv, env, st, hl, pn, post⟩ := h
    simp only [ex] at post
    exact post .non F H σ (Same.refl F) (st.push .non) pn
theorem x_pas {pos : Pos} : PS X (.Pass pos) ((TSt X.K M Γ call io v0 W) .pas) :=
  ps_pass.imp fun D σ H h => by
    obtain ⟨F, ext, xv, env, st, hl, pn, post⟩ := h
    simp only [ex] at post
    exact post F H σ (Same.refl F) st pn
theorem x_nev {st : Stmt} : PS X st ((TSt X.K M Γ call io v0 W) .nev) :=
  ps_never.imp fun D σ H h => by
    obtain ⟨F, ext, xv, env, st, hl, pn, post⟩ := h
    simp only [ex] at post
    exact post.elim
theorem x_rse0 (C : XC X M T L Γ call N sc so k W) {c : Nat} {x m : Str} {j : Nat} {p p2 pos pos' : Pos} (hx : x = T.cN c) (hc : c ∈ T.xs) (hg : glB sc x = true) (hn : nmOk x = true) : PS X (.Raise (some (.Call (.Name x p) [.Constant (.str m) j p2] [] pos)) none pos') ((TSt X.K M Γ call io v0 W) (.rse c .none)) := by
  obtain ⟨a1, a2, a3, a4, a5⟩ := C.top.exc c hc
  rw [← hx] at a1
  refine (ps_raise C.calm C.tk (pmk_own F.excBase_ValueError a3 a1 a2 (raises_own a4 a5) (gl_of (by rw [C.scp]; exact hg)) (nmOk_of hn).1)).imp fun D σ H h => ?_
  obtain ⟨F, ext, xv, env, st, hl, pn, post⟩ := h
  simp only [ex] at post
  exact post _ _ F H σ (Same.refl F) ⟨rfl, .inl ⟨rfl, rfl⟩⟩ st pn
theorem x_nil : PSs X [] ((TSs X.K M Γ call io v0 W) .nil) :=
  pss_nil.imp fun D σ H h => by
    obtain ⟨F, ext, xv, env, st, hl, pn, post⟩ := h
    simp only [exs] at post
    exact post F H σ (Same.refl F) st pn
theorem x_cons {s : S} {r : Ss} {st : Stmt} {sts : List Stmt} (hs : PS X st ((TSt X.K M Γ call io v0 W) s)) (hr : PSs X sts ((TSs X.K M Γ call io v0 W) r)) : PSs X (st :: sts) ((TSs X.K M Γ call io v0 W) (.cons s r)) :=
  (pss_cons hs hr).imp fun D σ H h => by
    obtain ⟨F, ext, xv, env, st, hl, pn, post⟩ := h
    simp only [exs] at post
    refine ⟨F, ext, xv, env, st, hl, pn, ?_⟩
    revert post
    cases ex Γ call io s env with
    | nx e => exact fun post F' H' σ' s' st' p' => ⟨F', ext, xv, e, st', hl, p', postS_mono s' post⟩
    | rt r e => exact fun post => post
    | exc x e => exact fun post => post
    | err => exact fun post => post
theorem x_ifs {c : E} {a b : Ss} {x : Expr} {p q : List Stmt} {pos : Pos} (hc : PT X x ((TTt X.K M Γ call) c)) (ha : PSs X p ((TSs X.K M Γ call io v0 W) a)) (hb : PSs X q ((TSs X.K M Γ call io v0 W) b)) : PS X (.If x p q pos) ((TSt X.K M Γ call io v0 W) (.ifs c a b)) :=
  (ps_if hc ha hb).imp fun D σ H h => by
    obtain ⟨F, ext, xv, env, st, hl, pn, post⟩ := h
    simp only [ex] at post
    obtain ⟨r, e1, h1, post⟩ := postS_flN post
    obtain ⟨d, o⟩ := r
    cases d <;> simp only at post <;> try exact post.elim
    rename_i t
    refine Tt_sub st hl h1 fun F1 H1 s1 st1 => ?_
    cases t with
    | true =>
      rw [if_pos rfl]
      exact ⟨F1, ext, xv, e1, st1, hl, pn, postS_mono s1 post⟩
    | false =>
      rw [if_neg Bool.false_ne_true]
      exact ⟨F1, ext, xv, e1, st1, hl, pn, postS_mono s1 post⟩
theorem x_whl {c : E} {b : Ss} {x : Expr} {p : List Stmt} {pos : Pos} (hp : PassesOwn (model X.prog X.w) X.A X.env X.xe) (hc : PT X x ((TTt X.K M Γ call) c)) (hb : PSs X p ((TSs X.K M Γ call io v0 W) b)) : PS X (.While x p [] pos) ((TSt X.K M Γ call io v0 W) (.whl c b)) :=
  (ps_while hp hc hb).imp fun D σ H h => by
    obtain ⟨F, ext, xv, env, st, hl, pn, post⟩ := h
    simp only [ex] at post
    unfold whlG at post
    generalize hstep : (fun (env : PL.Fm) => (match ev Γ call c env with
      | .ok (.bl true, _) env =>
        match exs Γ call io b env with
        | .nx env => Sum.inl env
        | r => .inr r
      | .ok (.bl false, _) env => .inr (.nx env)
      | _ => .inr .err : PL.Fm ⊕ Fl)) = step at post
    rcases whileF_or (step := step) (env := env) with ⟨n, hn⟩ | hn
    · refine ⟨fun m σ H => ∃ F' env' r, Same F F' ∧ Sta X.K M F' H (ext ++ env') (xv ++ σ) ∧ Pin io v0 σ ∧ iter step m env' = some r ∧ PostS X.K M io v0 W F ext xv D r, ⟨n, F, env, _, Same.refl F, st, pn, hn, post⟩, ?_⟩
      rintro m σ H ⟨F', env', r, s', st', pn', hi, post'⟩
      cases m with
      | zero => simp [iter] at hi
      | succ m =>
        unfold iter at hi
        have hs := (congrFun hstep env').symm
        cases he : ev Γ call c env' with
        | ok d e1 =>
          obtain ⟨d, o⟩ := d
          cases d with
          | bl t =>
            refine Tt_sub st' hl he fun F1 H1 s1 st1 => ?_
            rw [he] at hs
            cases t with
            | true =>
              rw [if_pos rfl]
              simp only at hs
              refine ⟨fun σ2 H2 => ∃ F2 env2 r, Same F F2 ∧ Sta X.K M F2 H2 (ext ++ env2) (xv ++ σ2) ∧ Pin io v0 σ2 ∧ iter step m env2 = some r ∧ PostS X.K M io v0 W F ext xv D r, fun σ2 H2 h => ⟨m, Nat.lt_succ_self m, h⟩, F1, ext, xv, e1, st1, hl, pn', ?_⟩
              cases hx : exs Γ call io b e1 with
              | nx e2 =>
                rw [hx] at hs
                simp only at hs
                rw [hs] at hi
                exact fun F2 H2 σ2 s2 st2 p2 => ⟨F2, e2, r, (s'.trans s1).trans s2, st2, p2, hi, post'⟩
              | rt r2 e2 =>
                rw [hx] at hs
                simp only at hs
                rw [hs] at hi
                cases hi
                exact fun v F2 H2 σ2 s2 st2 p2 => post' v F2 H2 σ2 ((s'.trans s1).trans s2) st2 p2
              | exc x2 e2 =>
                rw [hx] at hs
                simp only at hs
                rw [hs] at hi
                cases hi
                exact fun cls d F2 H2 σ2 s2 r2 st2 p2 => post' cls d F2 H2 σ2 ((s'.trans s1).trans s2) r2 st2 p2
              | err =>
                rw [hx] at hs
                simp only at hs
                rw [hs] at hi
                cases hi
                exact post'.elim
            | false =>
              rw [if_neg Bool.false_ne_true]
              simp only at hs
              rw [hs] at hi
              cases hi
              exact post' F1 H1 σ (s'.trans s1) st1 pn'
          | _ =>
            rw [he] at hs
            simp only at hs
            rw [hs] at hi
            cases hi
            exact post'.elim
        | exc x2 e2 =>
          rw [he] at hs
          simp only at hs
          rw [hs] at hi
          cases hi
          exact post'.elim
        | err =>
          rw [he] at hs
          simp only at hs
          rw [hs] at hi
          cases hi
          exact post'.elim
    · rw [hn] at post
      exact post.elim
end
end PL
/-! PLStm2: stores of several at once, changed rows, for. -/
namespace PL
open PySem PySem.Spec PyProof.Rows L2

/-- how a, b = x, y is stored: the names at once, from the right (true), or by way of a pair (false) -/
def allLoc (sc : Scope) (l : Nat) : List Expr → Option (List Str)
  | [] => some []
  | .Name x p :: r => if sc.names.lookup x = some .local ∧ p.line = l then (allLoc sc l r).map (x :: ·) else none
  | _ => none
def noStars : List Expr → Bool
  | [] => true
  | .Starred _ _ :: _ => false
  | _ :: r => noStars r
section
variable {sc : Scope} {env : PySem.Env}
theorem noStars_of : ∀ {vs : List Expr}, vs.all plain = true → (vs.any fun | .Starred .. => true | _ => false) = false
  | [], _ => rfl
  | v :: r, h => by
    simp only [List.all_cons, Bool.and_eq_true] at h
    rw [List.any_cons, noStars_of h.2, Bool.or_false]
    cases v <;> first | rfl | (simp [plain] at h; done)
end

section
variable {X : Cx} {M : Nm} {T : Ns} {L : Lk} {Γ : Ctx} {call : Nat → List (D × Bool) → CRes} {N : List Str} {sc so : Scope} {k : Nat} {W : WX} {io : Bool} {v0 : Option V}

theorem p_nil : PA X [] ((TEp X.K M Γ call) .nil) := pa_nil.imp fun σ H Q h => by
  obtain ⟨F, ext, xv, env, st, hl, post⟩ := h
  simp only [evp] at post
  exact post [] F H (Same.refl F) rfl st
theorem postP_bind {K : PySem.W.Frag} {F : Hp} {ext : List Sl} {xv : List (Option V)} {σ : L2.St} {α : Type} {r : Res α} {f : α → PL.Fm → Res (List (D × Bool))} {Q : List V → Hp → Prop} (h : PostP K M F ext xv σ (r.bind f) Q) : ∃ a e, r = .ok a e ∧ PostP K M F ext xv σ (f a e) Q := by
  cases r with
  | ok a e => exact ⟨a, e, rfl, h⟩
  | exc x e => exact h.elim
  | err => exact h.elim
theorem p_cons {a : E} {r : Es} {x : Expr} {xs : List Expr} (ha : PE X x ((TEv X.K M Γ call W) a)) (hr : PA X xs ((TEp X.K M Γ call) r)) (hp : plain x = true) : PA X (x :: xs) ((TEp X.K M Γ call) (.cons a r)) :=
  (pa_cons ha hr (plain_star hp)).imp fun σ H Q h => by
    obtain ⟨F, ext, xv, env, st, hl, post⟩ := h
    simp only [evp] at post
    obtain ⟨p, e1, h1, post⟩ := postP_bind post
    obtain ⟨ds, e2, h2, post⟩ := postP_bind post
    refine T_keep st hl h1 fun v F1 H1 s1 st1 => ⟨F1, some p :: ext, some v :: xv, e1, st1, by simp [hl], ?_⟩
    rw [h2]
    intro vs F2 H2 s2 hn st2
    refine post (v :: vs) F2 H2 (s1.trans s2) (by simp [hn]) ?_
    rw [List.reverse_cons, List.reverse_cons, List.map_append, List.map_append, List.append_assoc, List.append_assoc]
    exact st2
theorem sta_fold {K : PySem.W.Frag} {F H : Hp} {ext : List Sl} {xv : List (Option V)} (hl : ext.length = xv.length) : ∀ {is : List Nat} {rs : List (D × Bool)} {vs : List V} {env : PL.Fm} {σ : L2.St}, rs.length = is.length → rs.length = vs.length →
    Sta K M F H (rs.reverse.map some ++ (ext ++ env)) (vs.reverse.map some ++ (xv ++ σ)) → (io = true → 0 ∉ is) → Pin io v0 σ →
    Sta K M F H (ext ++ (is.zip rs).foldl (fun e p => e.set p.1 (some p.2)) env) (xv ++ (is.zip vs).foldl (fun s p => s.set p.1 (some p.2)) σ) ∧ Pin io v0 ((is.zip vs).foldl (fun s p => s.set p.1 (some p.2)) σ)
  | [], [], [], env, σ, _, _, st, _, pn => ⟨st, pn⟩
  | i :: is, r :: rs, v :: vs, env, σ, e1, e2, st, h0, pn => by
    rw [List.reverse_cons, List.reverse_cons, List.map_append, List.map_append, List.append_assoc, List.append_assoc] at st
    obtain ⟨d, o⟩ := r
    have st1 := st.mid (by simp at e2; simp [e2])
    have st1 : Sta K M F H (some (d, o) :: ((rs.reverse.map some ++ ext) ++ env)) (some v :: ((vs.reverse.map some ++ xv) ++ σ)) := by
      rw [List.append_assoc, List.append_assoc]
      exact st1
    have st2 := sta_put (i := i) st1 (by simp at e2; simp [e2, hl])
    rw [List.append_assoc, List.append_assoc] at st2
    exact sta_fold hl (is := is) (rs := rs) (vs := vs) (by simpa using e1) (by simpa using e2) st2 (fun z w => h0 z (by simp [w])) (pn.set fun z w => h0 z (by have w' : i = 0 := w; simp [w']))
  | [], _ :: _, _, _, _, e, _, _, _, _ => by simp at e
  | _ :: _, [], _, _, _, e, _, _, _, _ => by simp at e
  | [], [], _ :: _, _, _, _, e, _, _, _ => by simp at e
  | _ :: _, _ :: _, [], _, _, _, e, _, _, _ => by simp at e
/-- stored one after the other -/
theorem gNs_all {R : L2.St → Hp → Prop} {H : Hp} : ∀ {is : List Nat} {vs : List V} {σ : L2.St}, vs.length = is.length → R ((is.zip vs).foldl (fun s p => s.set p.1 (some p.2)) σ) H → gNs is vs σ H R
  | [], [], σ, _, h => ⟨rfl, h⟩
  | i :: is, v :: vs, σ, e, h => ⟨v, vs, rfl, gNs_all (is := is) (by simpa using e) h⟩
  | [], _ :: _, _, e, _ => by simp at e
  | _ :: _, [], _, e, _ => by simp at e
theorem par_in {es : Es} {is : List Nat} {D : Ends} {σ : L2.St} {H : Hp} (h : (TSt X.K M Γ call io v0 W) (.par is es) D σ H) : (TEp X.K M Γ call) es σ H fun vs H1 => vs.length = is.length ∧ ∀ H2, Same H1 H2 → (∀ a u, H1 a = some u → H2 a = some u) → D.nx ((is.zip vs).foldl (fun s p => s.set p.1 (some p.2)) σ) H2 := by
  obtain ⟨F, ext, xv, env, st, hl, pn, post⟩ := h
  simp only [ex] at post
  obtain ⟨rs, e1, h1, post⟩ := postS_flN post
  split at post
  · rename_i hh
    refine ⟨F, ext, xv, env, st, hl, ?_⟩
    rw [h1]
    intro vs F1 H1 s1 hn st1
    refine ⟨by rw [← hn, hh.1], fun H2 s2 _ => ?_⟩
    have st2 : Sta X.K M F1 H2 (rs.reverse.map some ++ (ext ++ e1)) (vs.reverse.map some ++ (xv ++ σ)) := st1.mono (Same.refl F1) s2 ⟨st1.same.trans s2, fun z => ⟨(st1.sm.tb z).1.ext fun b o q => s2 b o q, (st1.sm.tb z).2⟩⟩ fun _ _ _ z => z
    obtain ⟨a, b⟩ := sta_fold hl hh.1 hn st2 hh.2 pn
    exact post F1 H2 _ s1 a b
  · exact post.elim
theorem x_parT (C : XC X M T L Γ call N sc so k W) {is : List Nat} {es : Es} {ts xs : List Expr} {j1 j2 : Nat} {p1 p2 pos : Pos} (ha : PA X xs ((TEp X.K M Γ call) es)) (hg : nmT N so is ts = true) (hz : is.length ≤ 100)
    (hw : swappedStores [.Tuple ts j1 p1] (.Tuple xs j2 p2) X.env = pure none) : PS X (.Assign [.Tuple ts j1 p1] (.Tuple xs j2 p2) pos) ((TSt X.K M Γ call io v0 W) (.par is es)) := by
  obtain ⟨a, b⟩ := names_each (env := X.env) hg
  refine (ps_asg (pe_tup ha) (pg_tup C.calm (g_names C hg) a b) (swapsSole_no rfl) hw rfl).imp fun D σ H h => ?_
  obtain ⟨F, ext, xv, env, st, hl, post⟩ := par_in h
  refine ⟨F, ext, xv, env, st, hl, ?_⟩
  unfold PostP at post ⊢
  split at post
  · intro vs F1 H1 s1 hn st1
    obtain ⟨q1, q2⟩ := post vs F1 H1 s1 hn st1
    have hv : vs.length ≤ sizeLine := lim_le (by unfold LIM; omega)
    refine ⟨hv, fun p hp => ⟨p, vs, rfl, .inl (.inl upd_same), q1, gNs_all q1 (q2 _ (same_new hp) (same_new hp))⟩⟩
  · exact post.elim
theorem x_par2 (C : XC X M T L Γ call N sc so k W) {i j : Nat} {es : Es} {x y : Str} {a b : Expr} {j1 j2 : Nat} {px py p1 p2 pos : Pos} (ha : PA X [a, b] ((TEp X.K M Γ call) es)) (h1 : N[i]? = some x) (h2 : N[j]? = some y) (hij : i ≠ j)
    (hx : sc.names.lookup x = some .local) (hy : sc.names.lookup y = some .local) (hw : swappedStores [.Tuple [.Name x px, .Name y py] j1 p1] (.Tuple [a, b] j2 p2) X.env = pure (some [x, y])) :
    PS X (.Assign [.Tuple [.Name x px, .Name y py] j1 p1] (.Tuple [a, b] j2 p2) pos) ((TSt X.K M Γ call io v0 W) (.par [i, j] es)) := by
  refine (ps_par C.calm (by rw [C.hN]; exact C.nd) (by rw [C.hN]; exact h1) (by rw [C.hN]; exact h2) hij (by rw [C.scp]; exact hx) (by rw [C.scp]; exact hy) ha hw (swapsSole_no rfl)).imp fun D σ H h => ?_
  obtain ⟨F, ext, xv, env, st, hl, post⟩ := par_in h
  refine ⟨F, ext, xv, env, st, hl, ?_⟩
  unfold PostP at post ⊢
  split at post
  · intro vs F1 H1 s1 hn st1
    obtain ⟨q1, q2⟩ := post vs F1 H1 s1 hn st1
    match vs, q1 with
    | [v, w], _ => exact ⟨v, w, rfl, q2 H1 (Same.refl _) fun _ _ z => z⟩
  · exact post.elim
theorem x_par3 (C : XC X M T L Γ call N sc so k W) {i j l : Nat} {es : Es} {x y z : Str} {a b c : Expr} {j1 j2 : Nat} {px py pz p1 p2 pos : Pos} (ha : PA X [a, b, c] ((TEp X.K M Γ call) es)) (h1 : N[i]? = some x) (h2 : N[j]? = some y) (h3 : N[l]? = some z) (hij : i ≠ j) (hil : i ≠ l) (hjl : j ≠ l)
    (hx : sc.names.lookup x = some .local) (hy : sc.names.lookup y = some .local) (hz : sc.names.lookup z = some .local) (hw : swappedStores [.Tuple [.Name x px, .Name y py, .Name z pz] j1 p1] (.Tuple [a, b, c] j2 p2) X.env = pure (some [x, y, z])) :
    PS X (.Assign [.Tuple [.Name x px, .Name y py, .Name z pz] j1 p1] (.Tuple [a, b, c] j2 p2) pos) ((TSt X.K M Γ call io v0 W) (.par [i, j, l] es)) := by
  refine (ps_par3 C.calm (by rw [C.hN]; exact C.nd) (by rw [C.hN]; exact h1) (by rw [C.hN]; exact h2) (by rw [C.hN]; exact h3) hij hil hjl (by rw [C.scp]; exact hx) (by rw [C.scp]; exact hy) (by rw [C.scp]; exact hz) ha hw (swapsSole_no rfl)).imp fun D σ H h => ?_
  obtain ⟨F, ext, xv, env, st, hl, post⟩ := par_in h
  refine ⟨F, ext, xv, env, st, hl, ?_⟩
  unfold PostP at post ⊢
  split at post
  · intro vs F1 H1 s1 hn st1
    obtain ⟨q1, q2⟩ := post vs F1 H1 s1 hn st1
    match vs, q1 with
    | [u, v, w], _ => exact ⟨u, v, w, rfl, q2 H1 (Same.refl _) fun _ _ z => z⟩
  · exact post.elim

/-! ### changed rows -/
theorem x_app (C : XC X M T L Γ call N sc so k W) {i : Nat} {e : E} {x : Str} {y : Expr} {p ap cp pos : Pos} (h1 : N[i]? = some x) (h2 : visB sc x = true) (h3 : nmOk x = true) (ha : PE X y ((TEv X.K M Γ call W) e)) (hp : plain y = true) (hln : (ap.endLine == cp.line) = true) :
    PS X (.Expr (.Call (.Attribute (.Name x p) "append" ap) [y] [] cp) pos) ((TSt X.K M Γ call io v0 W) (.app (.var i) e)) := by
  have few : ((backTo cp (starEach [y] X.env)).all (fun x => !x.1) && (backToKw cp (keywordEach [] X.env)).all (fun x => x.1.isSome) && decide ([y].length + ([] : List Keyword).length + (if ([] : List Keyword).isEmpty then 0 else 1) < 30)) = true := by
    rw [plain_star hp]
    rfl
  refine (ps_expr (pe_bm (T := "list") PySem.F.plainAttrs_list PySem.F.slot_list_append PySem.F.type_list_append (r := rAppend) mt_append (s_pv C h1 h2 h3) (pa_cons ha pa_nil (plain_star hp)) rfl few hln (plain_star hp) rfl) (by rfl)).imp fun D σ H h => ?_
  obtain ⟨F, ext, xv, env, st, hl, pn, post⟩ := h
  simp only [ex, pth] at post
  split at post
  · rename_i l0 hq
    have hi0 : env[i]? = some (some (.lst l0, true)) := by
      split at hq
      · rename_i s' e'
        rw [e', hq]
      · cases hq
    obtain ⟨v, fp, hv, ro⟩ := sta_ix st hl hi0
    cases ro with
    | lst hb zb rb =>
      refine ⟨_, hv, .inl ⟨rfl, _, .inl (.inl hb)⟩, ?_⟩
      obtain ⟨r, e1, h1, post⟩ := postS_flN post
      refine T_sub st hl h1 fun w F1 H1 s1 r1 st1 => ?_
      split at post
      · rename_i l hq1
        split at post
        · rename_i hz
          have hi1 : e1[i]? = some (some (.lst l, true)) := by
            split at hq1
            · rename_i s' e'
              rw [e', hq1]
            · cases hq1
          obtain ⟨v', hv', st2⟩ := sta_out st1 hl hi1
          rw [hv] at hv'
          cases hv'
          obtain ⟨a, ws, ea, ha2, z2, r2⟩ := st2.headL
          cases ea
          have hn := r2.len
          refine ⟨_, ws, w, rfl, rfl, ha2, lim_lt (by omega), ?_⟩
          have st3 := st2.mut (r2.snoc r1) (by rw [List.length_append, List.length_singleton]; omega)
          have hi2 : i < (e1.set i none).length := by
            rw [List.length_set]
            exact (List.getElem?_eq_some_iff.mp hi1).1
          have st4 := sta_in st3 hl hi2
          rw [List.set_set, set_same_of hv] at st4
          exact post F1 _ σ s1 st4 pn
        · exact post.elim
      · exact post.elim
  · exact post.elim
theorem x_sub (C : XC X M T L Γ call N sc so k W) {v : Nat} {e i : E} {x : Str} {y z : Expr} {p tp pos : Pos} (h1 : N[v]? = some x) (h2 : visB sc x = true) (h3 : nmOk x = true) (ha : PE X y ((TEv X.K M Γ call W) e)) (hi : PE X z ((TEv X.K M Γ call W) i)) (hz : plain z = true) (hc : ∀ l, swapsWithSole [.Subscript (.Name x p) z tp] y l X.env = pure false) (ht : noTup y = true) :
    PS X (.Assign [.Subscript (.Name x p) z tp] y pos) ((TSt X.K M Γ call io v0 W) (.sub v i e)) := by
  refine (ps_asg ha (pg_sub (s_pv C h1 h2 h3) hi set_list (by intro _; cases z <;> first | rfl | (simp [plain] at hz; done))) (hc _) (stores_no ht) rfl).imp fun D σ H h => ?_
  obtain ⟨F, ext, xv, env, st, hl, pn, post⟩ := h
  simp only [ex] at post
  obtain ⟨r, e1, g1, post⟩ := postS_flN post
  refine T_sub st hl g1 fun w F1 H1 s1 r1 st1 => ?_
  split at post
  · rename_i d0 hd0
    obtain ⟨u, hu, _⟩ := rdv_at st1 hl hd0
    refine ⟨u, hu, ?_⟩
    obtain ⟨q, e2, g2, post⟩ := postS_flN post
    refine T_sub st1 hl g2 fun w2 F2 H2 s2 r2 st2 => ?_
    split at post
    · rename_i l j hi2 hj
      split at post
      · rename_i l' hl'
        obtain ⟨u', hu', st3⟩ := sta_out st2 hl hi2
        rw [hu] at hu'
        cases hu'
        obtain ⟨a, ws, ea, ha2, z2, rl⟩ := st3.headL
        cases ea
        rw [hj] at r2
        cases rep_int r2
        unfold setI at hl'
        cases ej : ixn l.length j with
        | none =>
          rw [ej] at hl'
          cases hl'
        | some m =>
          rw [ej] at hl'
          cases hl'
          refine ⟨a, ws, j, m, rfl, rfl, ha2, by rw [← rl.len]; exact ej, ?_⟩
          have st4 := st3.mut (Reps.set (r1.mono s2) m rl) (by rw [List.length_set]; exact z2)
          have hi3 : v < (e2.set v none).length := by
            rw [List.length_set]
            exact (List.getElem?_eq_some_iff.mp hi2).1
          have st5 := sta_in st4 hl hi3
          rw [List.set_set, set_same_of hu] at st5
          exact post F2 _ σ (s1.trans s2) st5 pn
      · exact post.elim
    · exact post.elim
  · exact post.elim
/-- a store, and what follows it -/
theorem sto_in {v : Nat} {i : E} {d : PL.D} {w : V} {F H : Hp} {ext : List Sl} {xv : List (Option V)} {σ : L2.St} {env : PL.Fm} {D : Ends} {f : PL.Fm → Fl} {R : L2.St → Hp → Prop} (st : Sta X.K M F H (ext ++ env) (xv ++ σ)) (hl : ext.length = xv.length) (rd : Rep X.K M F d w)
    (post : PostS X.K M io v0 W F ext xv D ((sto Γ call v i d env).bind f)) (k : ∀ env2 F2 H2, Same F F2 → Sta X.K M F2 H2 (ext ++ env2) (xv ++ σ) → PostS X.K M io v0 W F ext xv D (f env2) → R σ H2) : gSub (tVar v) ((TEv X.K M Γ call W) i) rSetL w σ H R := by
  unfold sto at post
  split at post
  · rename_i d0 hd0
    obtain ⟨u, hu, _⟩ := rdv_at st hl hd0
    refine ⟨u, hu, ?_⟩
    cases g2 : ev Γ call i env with
    | err =>
      rw [g2] at post
      exact post.elim
    | exc x e =>
      rw [g2] at post
      exact post.elim
    | ok q e2 =>
      rw [g2] at post
      simp only [Res.flN_ok] at post
      refine T_sub st hl g2 fun w2 F2 H2 s2 r2 st2 => ?_
      split at post
      · rename_i l j hi2 hj
        split at post
        · rename_i l' hl'
          obtain ⟨u', hu', st3⟩ := sta_out st2 hl hi2
          rw [hu] at hu'
          cases hu'
          obtain ⟨a, ws, ea, ha2, z2, rl⟩ := st3.headL
          cases ea
          rw [hj] at r2
          cases rep_int r2
          unfold setI at hl'
          cases ej : ixn l.length j with
          | none =>
            rw [ej] at hl'
            cases hl'
          | some m =>
            rw [ej] at hl'
            cases hl'
            refine ⟨a, ws, j, m, rfl, rfl, ha2, by rw [← rl.len]; exact ej, ?_⟩
            have st4 := st3.mut (Reps.set (rd.mono s2) m rl) (by rw [List.length_set]; exact z2)
            have hi3 : v < (e2.set v none).length := by
              rw [List.length_set]
              exact (List.getElem?_eq_some_iff.mp hi2).1
            have st5 := sta_in st4 hl hi3
            rw [List.set_set, set_same_of hu] at st5
            exact k _ F2 _ s2 st5 post
        · exact post.elim
      · exact post.elim
  · exact post.elim
theorem x_swp (C : XC X M T L Γ call N sc so k W) {v : Nat} {i j a b : E} {x : Str} {z1 z2 y1 y2 : Expr} {q1 q2 t1 t2 p1 p2 pos : Pos} {j1 j2 : Nat} (h1 : N[v]? = some x) (h2 : visB sc x = true) (h3 : nmOk x = true) (ha : PA X [y1, y2] ((TEs X.K M Γ call) (.cons (.idxv v a) (.cons (.idxv v b) .nil)))) (hi : PE X z1 ((TEv X.K M Γ call W) i)) (hj : PE X z2 ((TEv X.K M Γ call W) j)) (hz1 : plain z1 = true) (hz2 : plain z2 = true)
    (hw : swappedStores [.Tuple [.Subscript (.Name x q1) z1 t1, .Subscript (.Name x q2) z2 t2] j1 p1] (.Tuple [y1, y2] j2 p2) X.env = pure none) :
    PS X (.Assign [.Tuple [.Subscript (.Name x q1) z1 t1, .Subscript (.Name x q2) z2 t2] j1 p1] (.Tuple [y1, y2] j2 p2) pos) ((TSt X.K M Γ call io v0 W) (.swp v i j a b)) := by
  have sub : ∀ {z : Expr}, plain z = true → ∀ o, subscripted z true o = subscripted z true o := fun _ _ => rfl
  refine (ps_asg (pe_tup ha) (pg_tup C.calm (pgs_cons (pg_sub (s_pv C h1 h2 h3) hi set_list (by intro _; cases z1 <;> first | rfl | (simp [plain] at hz1; done))) (pgs_cons (pg_sub (s_pv C h1 h2 h3) hj set_list (by intro _; cases z2 <;> first | rfl | (simp [plain] at hz2; done))) pgs_nil rfl) rfl) rfl rfl) (swapsSole_no rfl) hw rfl).imp fun D σ H h => ?_
  obtain ⟨F, ext, xv, env, st, hl, pn, post⟩ := h
  simp only [ex] at post
  obtain ⟨ds, e1, g1, post⟩ := postS_flN post
  refine Ts_sub st hl g1 fun ws F1 H1 s1 r1 st1 => ?_
  split at post
  · rename_i d1 d2
    obtain ⟨w1, w2, rfl, r3, r4⟩ := reps_two r1
    refine ⟨by show 2 ≤ sizeLine; decide, fun p hp => ?_⟩
    have st2 := st1.new (ob := .tup [w1, w2]) hp
    have sf : Same F1 (upd F1 p (.tup [w1, w2])) := same_new (st1.free hp)
    refine ⟨p, [w1, w2], rfl, .inl (.inl upd_same), rfl, w1, [w2], rfl, ?_⟩
    have post' := postS_mono (s1.trans sf) post
    refine sto_in st2 hl (r3.mono sf) post' fun env2 F2 H2 s2 st3 post2 => ?_
    refine ⟨w2, [], rfl, ?_⟩
    have post3 := postS_mono s2 post2
    have e : ∀ r : Fl, r = r.bind fun e => .nx e := fun r => by cases r <;> rfl
    rw [e (sto Γ call v j d2 env2)] at post3
    refine sto_in st3 hl ((r4.mono sf).mono s2) post3 fun env3 F3 H3 s3 st4 post4 => ?_
    exact ⟨rfl, post4 F3 H3 σ s3 st4 pn⟩
  · exact post.elim
end
end PL
/-! PLCls4: stores to attributes; appended to an attribute's list. -/
namespace PL
open PySem PySem.Spec PyProof.Rows L2
section
variable {X : Cx} {M : Nm} {T : Ns} {L : Lk} {Γ : Ctx} {call : Nat → List (D × Bool) → CRes} {N : List Str} {sc so : Scope} {k : Nat} {W : WX} {io : Bool} {v0 : Option V}
/-- self.f = e -/
theorem x_fld (C : XC X M T L Γ call N sc so k W) {f : Nat} {e : E} {x : Str} {y : Expr} {q ap pos : Pos} (h1 : N[(0 : Nat)]? = some x) (h2 : visB sc x = true) (h3 : nmOk x = true) (ha : PE X y ((TEv X.K M Γ call W) e)) (hs : swapsWith y (some (.Attribute (.Name x q) (T.fl f) ap)) pos.line X.env = pure false) :
    PS X (.Assign [.Attribute (.Name x q) (T.fl f) ap] y pos) ((TSt X.K M Γ call io v0 W) (.fld f e)) := by
  refine (ps_fld (s_pv C h1 h2 h3) ha hs).imp fun D σ H h => ?_
  obtain ⟨F, ext, xv, env, st, hl, pn, post⟩ := h
  simp only [ex] at post
  rcases postS_fl post with ⟨r, e1, hr, post⟩ | ⟨z, e1, hr, post⟩
  case inr => exact T_exc st hl pn hr post
  refine T_keep st hl hr fun w F1 H1 s1 st1 => ?_
  split at post
  case h_2 => exact post.elim
  rename_i c fs vs hi
  split at post
  case isFalse => exact post.elim
  rename_i hc
  obtain ⟨hall, hlen, hlv, hom⟩ := hc
  simp only [Bool.and_eq_true] at hall
  obtain ⟨c1, c2, c3⟩ := C.top.cls c f hall.2
  obtain ⟨v, hv, st2⟩ := sta_out (ext := some r :: ext) (xv := some w :: xv) st1 (by simp [hl]) hi
  obtain ⟨fp, ro⟩ := st2.head
  have hva : ∃ a, v = .ref a := by
    cases ro with
    | ins _ _ _ => exact ⟨_, rfl⟩
  obtain ⟨a, rfl⟩ := hva
  obtain ⟨F2, dx, kvs, s2, hA, hk, st3⟩ := Sta.fld (f := f) (fl := T.fl) st2 (by rw [C.top.om]; exact hom) C.top.fl fun g hg z => (c3 g (List.all_eq_true.mp hall.1 g hg) z.symm).symm
  refine ⟨_, hv, a, M.cl c, dx, kvs, rfl, hA, c1, c2, by omega, ?_⟩
  have hi2 : 0 < (e1.set 0 none).length := by
    rw [List.length_set]
    exact (List.getElem?_eq_some_iff.mp hi).1
  have st4 := sta_in st3 hl hi2
  rw [List.set_set, set_same_of hv] at st4
  exact post F2 _ σ (s1.trans s2) st4 pn
end
section
variable {K : PySem.W.Frag} {M : Nm} {F H : Hp}
theorem RepOs.putL {om : Nat → Bool} {fl : Nat → Str} {f : Nat} {b : Addr} {l l' : List D} {ws : List V} (r : Reps K M F l' ws) (z : ws.length ≤ LIM) (ho : om f = true) : ∀ {fs : List Nat} {ds : List D} {kvs : List (Str × V)} {fp : List Addr}, RepOs K M F H (fs.map om) ds (kvs.map (·.2)) fp → kvs.map (·.1) = fs.map fl → (∀ g ∈ fs, fl g = fl f → g = f) →
    fget fs ds f = some (.lst l) → kvs.lookup (fl f) = some (.ref b) → fp.Nodup → RepOs K M F (upd H b (.lst ws)) (fs.map om) (fput f (.lst l') fs ds).2 (kvs.map (·.2)) fp ∧ b ∈ fp ∧ ∃ us, H b = some (.lst us)
  | [], _, _, _, _, _, _, hg, _, _ => by simp [fget] at hg
  | _ :: _, [], _, _, _, _, _, hg, _, _ => by simp [fget] at hg
  | g :: fs, d :: ds, kvs, fp, ro, e, inj, hg, hb, n => by
    cases kvs with
    | nil => simp at e
    | cons kv kvs =>
      obtain ⟨nm, w⟩ := kv
      simp only [List.map_cons, List.cons.injEq] at e
      obtain ⟨e1, e2⟩ := e
      subst e1
      cases ro with
      | cons q ro =>
        rename_i fp1 fp2
        obtain ⟨n1, n2, n3⟩ := List.nodup_append.mp n
        unfold fget at hg
        unfold fput
        rw [List.lookup_cons] at hb
        by_cases c : g = f
        · subst c
          rw [if_pos rfl] at hg ⊢
          cases hg
          rw [beq_self_eq_true] at hb
          cases hb
          rw [ho] at q
          cases q with
          | lst h1 h2 h3 =>
            refine ⟨?_, by simp, _, h1⟩
            refine .cons (by rw [ho]; exact .lst upd_same z r) (ro.mono (Same.refl F) fun x hx u w => ?_)
            rw [upd_ne fun e => n3 _ (by simp) x hx e.symm]
            exact w
        · rw [if_neg c] at hg ⊢
          have ne : (fl f == fl g) = false := by
            rw [beq_eq_false_iff_ne]
            exact fun e => c (inj g (by simp) e.symm)
          rw [ne] at hb
          obtain ⟨i1, i2, i3⟩ := RepOs.putL r z ho ro e2 (fun g hg => inj g (by simp [hg])) hg hb n2
          refine ⟨.cons (q.mono (Same.refl F) fun x hx u w => ?_) i1, List.mem_append_right _ i2, i3⟩
          rw [upd_ne fun e => n3 x hx b i2 e]
          exact w
/-- what is behind a change in a field's list -/
theorem sta_fldL {es : List Sl} {vs : List (Option V)} {c f a b : Nat} {fs : List Nat} {ds : List D} {l l' : List D} {ws : List V} {fl : Nat → Str} {dx : Addr} {kvs : List (Str × V)} (h : Sta K M F H (some (.ins c fs ds, true) :: es) (some (.ref a) :: vs)) (hA : H a = some (.ins (M.cl c) dx kvs)) (hfl : M.fl = fl) (inj : ∀ g ∈ fs, fl g = fl f → g = f)
    (ho : M.om c f = true) (hg : fget fs ds f = some (.lst l)) (hb : kvs.lookup (fl f) = some (.ref b)) (r : Reps K M F l' ws) (z : ws.length ≤ LIM) :
    Sta K M F (upd H b (.lst ws)) (some (.ins c fs (fput f (.lst l') fs ds).2, true) :: es) (some (.ref a) :: vs) := by
  obtain ⟨fp, q, n, e, m⟩ := h
  cases q with
  | slot q1 q =>
    rename_i f1 fq
    cases q1 with
    | ins ha ek ro =>
      rename_i f3
      rw [hA] at ha
      cases ha
      obtain ⟨n1, n2, n3⟩ := List.nodup_append.mp n
      obtain ⟨na, n4⟩ := List.nodup_cons.mp n1
      rw [hfl] at ek
      obtain ⟨i1, i2, us, i3⟩ := RepOs.putL (om := M.om c) (fl := fl) r z ho ro ek inj hg hb n4
      have ab : a ≠ b := fun w => na (w ▸ i2)
      have hF : F b = none := e b (List.mem_append_left _ (List.mem_cons_of_mem _ i2))
      refine ⟨_, .slot (.ins (by rw [upd_ne ab]; exact hA) (by rw [hfl]; exact ek) i1) (q.mono (Same.refl F) fun x hx u w => ?_), n, e, ⟨fun x u w => ?_, fun z => ⟨tabs_mut (m.tb z).1 i3, (m.tb z).2⟩⟩⟩
      · rw [upd_ne fun w => n3 b (List.mem_cons_of_mem _ i2) x hx w.symm]
        exact w
      · rw [upd_ne (ne_of_none w hF)]
        exact m.same x u w
end
section
variable {X : Cx} {M : Nm} {T : Ns} {L : Lk} {Γ : Ctx} {call : Nat → List (D × Bool) → CRes} {N : List Str} {sc so : Scope} {k : Nat} {W : WX} {io : Bool} {v0 : Option V}
/-- self.f.append(y), of what stands in a slot -/
theorem x_appF (C : XC X M T L Γ call N sc so k W) {i j f : Nat} {x y : Str} {q ap ap2 cp pos yp : Pos} (h1 : N[i]? = some x) (h2 : visB sc x = true) (h3 : nmOk x = true) (g1 : N[j]? = some y) (g2 : visB sc y = true) (g3 : nmOk y = true) (hij : i ≠ j) (hln : (ap2.endLine == cp.line) = true) :
    PS X (.Expr (.Call (.Attribute (.Attribute (.Name x q) (T.fl f) ap) "append" ap2) [.Name y yp] [] cp) pos) ((TSt X.K M Γ call io v0 W) (.app (.atr (.var i) f) (.var j))) := by
  have few : ((backTo cp (starEach [.Name y yp] X.env)).all (fun x => !x.1) && (backToKw cp (keywordEach [] X.env)).all (fun x => x.1.isSome) && decide ([Expr.Name y yp].length + ([] : List Keyword).length + (if ([] : List Keyword).isEmpty then 0 else 1) < 30)) = true := rfl
  have hp : mP T N sc (.atr (.var i) f) (.Attribute (.Name x q) (T.fl f) ap) = true := by simp [mP, h1, h2, h3]
  refine (ps_expr (pe_bm (T := "list") PySem.F.plainAttrs_list PySem.F.slot_list_append PySem.F.type_list_append (r := rAppend) mt_append (p_path C hp) (pa_cons (s_pv C g1 g2 g3) pa_nil rfl) rfl few hln rfl rfl) (by rfl)).imp fun D σ H h => ?_
  obtain ⟨F, ext, xv, env, st, hl, pn, post⟩ := h
  simp only [ex] at post
  split at post
  case h_2 => exact post.elim
  rename_i l0 hq
  obtain ⟨v, fp, pv, ro⟩ := pth_val C.top st hl hq
  cases ro with
  | lst hb zb rb =>
    rename_i b us
    refine ⟨_, pv, .inl ⟨rfl, _, .inl (.inl hb)⟩, ?_⟩
    obtain ⟨r, e1, h4, post⟩ := postS_flN post
    simp only [ev] at h4
    split at h4
    case h_2 => cases h4
    rename_i d o hj
    have jn : ∃ F1 w, Same F F1 ∧ σ[j]? = some (some w) ∧ Rep X.K M F1 d w ∧ Sta X.K M F1 H (ext ++ e1) (xv ++ σ) ∧ r = (d, false) := by
      cases h4
      cases o with
      | false =>
        obtain ⟨w, fp, a, r⟩ := sta_ix st hl hj
        cases r with
        | fz r => exact ⟨F, w, Same.refl F, a, r, st, rfl⟩
      | true =>
        obtain ⟨F', w, s, a, r, c⟩ := sta_settle st hl hj
        exact ⟨F', w, s, a, r, c, rfl⟩
    obtain ⟨F1, w, s1, hw, rw_, st1, rfl⟩ := jn
    refine ⟨w, hw, ?_⟩
    split at post
    case h_2 => exact post.elim
    rename_i l hq1
    split at post
    case isFalse => exact post.elim
    rename_i hz
    -- the instance
    obtain ⟨v2, fp2, pv2, ro2⟩ := pth_val C.top st1 hl hq1
    simp only [pth] at hq1
    split at hq1
    case h_2 => cases hq1
    rename_i c fs ds o' hp1
    split at hq1
    case isFalse => cases hq1
    rename_i hall
    simp only [Bool.and_eq_true] at hall
    obtain ⟨d', hg, e0⟩ := Option.map_eq_some_iff.mp hq1
    simp only [Prod.mk.injEq] at e0
    obtain ⟨rfl, e0⟩ := e0
    simp only [Bool.and_eq_true] at e0
    obtain ⟨rfl, hom⟩ := e0
    have hi1 : e1[i]? = some (some (.ins c fs ds, true)) := by
      split at hp1
      · rename_i s' e'
        rw [e', hp1]
      · cases hp1
    obtain ⟨c1, c2, c3⟩ := C.top.cls c f hall.2
    obtain ⟨va, hva, st2⟩ := sta_out st1 hl hi1
    obtain ⟨fp3, ro3⟩ := st2.head
    -- the list stands where it stood
    cases pv with
    | atr pa ea _ _ la =>
      cases pa with
      | var pa =>
        rename_i a C0 dx kvs
        rw [hva] at pa
        cases pa
        cases ro3 with
        | ins hA ek ro4 =>
          rw [hA] at ea
          cases ea
          have hlk := la
          cases pv2 with
          | atr pa2 ea2 _ _ la2 =>
            cases pa2 with
            | var pa2 =>
              rw [hva] at pa2
              cases pa2
              rw [hA] at ea2
              cases ea2
              rw [la] at la2
              cases la2
              cases ro2 with
              | lst hb2 zb2 rb2 =>
                rw [hb] at hb2
                cases hb2
                have hn := rb2.len
                refine ⟨_, us, w, rfl, rfl, hb, lim_lt (by omega), ?_⟩
                have st3 := sta_fldL (f := f) (b := b) (l := l) (l' := l ++ [d]) (ws := us ++ [w]) (fl := T.fl) st2 hA C.top.fl (fun g hg z => (c3 g (List.all_eq_true.mp hall.1 g hg) z.symm).symm) (by rw [C.top.om]; exact hom) hg la (rb2.snoc rw_) (by rw [List.length_append, List.length_singleton]; omega)
                have hi2 : i < (e1.set i none).length := by
                  rw [List.length_set]
                  exact (List.getElem?_eq_some_iff.mp hi1).1
                have st4 := sta_in st3 hl hi2
                rw [List.set_set, set_same_of hva] at st4
                have e9 : setP Γ (.atr (.var i) f) (.lst (l ++ [d])) e1 = e1.set i (some (.ins c fs (fput f (.lst (l ++ [d])) fs ds).2, true)) := by
                  simp only [setP, pth]
                  rw [hi1]
                rw [e9] at post
                exact post F1 _ σ s1 st4 pn
end
end PL
/-! PLFor: what is walked; for. -/
namespace PL
open PySem PySem.Spec PyProof.Rows L2

/-- J walks the things ds -/
structure Wk (K : PySem.W.Frag) (M : Nm) (J : It) (ds : List D) (F : Hp) : Prop where
  go : ∀ i H, Same F H → i < ds.length → J.go i H
  stop : ∀ H, Same F H → J.stop ds.length H
  yld : ∀ i H x H', Same F H → i < ds.length → J.yld i H x H' → ∃ d, ds[i]? = some d ∧ ((H' = H ∧ Rep K M F d x) ∨ ∃ T v w a b, x = .ref T ∧ H T = none ∧ H' = upd H T (.tup [v, w]) ∧ d = .tup [a, b] ∧ Rep K M F a v ∧ Rep K M F b w)
section
variable {K : PySem.W.Frag} {M : Nm} {F : Hp}
theorem same_sqL {F H : Hp} {a : Addr} {vs : List V} (e : Same F H) (h : SqL K F a vs) : SqL K H a vs := e.seq h
theorem wk_list {a : Addr} {l : List D} {vs : List V} (h : SqL K F a vs) (r : Reps K M F l vs) : Wk K M (Itl K a) l F where
  go := fun i H e hi => ⟨vs, vs[i]'(by rw [← r.len]; exact hi), e.seq h, by simp⟩
  stop := fun H e => ⟨vs, e.seq h, by rw [r.len]; exact Nat.le_refl _⟩
  yld := fun i H x H' e hi y => by
    obtain ⟨rfl, y⟩ := y
    have hx := y vs (e.seq h)
    have hd : l[i]? = some l[i] := by simp [hi]
    obtain ⟨v, hv, rv⟩ := r.get hd
    rw [hx] at hv
    cases hv
    exact ⟨_, hd, .inl ⟨rfl, rv⟩⟩
theorem wk_tup {a : Addr} {l : List D} {vs : List V} (h : SqT K F a vs) (r : Reps K M F l vs) : Wk K M (Itt K a) l F where
  go := fun i H e hi => ⟨vs, vs[i]'(by rw [← r.len]; exact hi), same_sqT e h, by simp⟩
  stop := fun H e => ⟨vs, same_sqT e h, by rw [r.len]; exact Nat.le_refl _⟩
  yld := fun i H x H' e hi y => by
    obtain ⟨rfl, y⟩ := y
    have hx := y vs (same_sqT e h)
    have hd : l[i]? = some l[i] := by simp [hi]
    obtain ⟨v, hv, rv⟩ := r.get hd
    rw [hx] at hv
    cases hv
    exact ⟨_, hd, .inl ⟨rfl, rv⟩⟩
theorem wk_str {x : Str} : Wk K M (Its x) (x.cps.toList.map fun c => D.str ⟨#[c]⟩) F where
  go := fun i H e h => by
    rw [List.length_map, Array.length_toList] at h
    exact h
  stop := fun H e => by
    show x.cps.size ≤ _
    rw [List.length_map, Array.length_toList]
    exact Nat.le_refl _
  yld := fun i H v H' e h y => by
    obtain ⟨rfl, c, hc, rfl⟩ := y
    refine ⟨.str ⟨#[c]⟩, ?_, .inl ⟨rfl, .str _⟩⟩
    rw [List.getElem?_map, Array.getElem?_toList, hc] <;> rfl
theorem wk_rng {lo hi : Int} : Wk K M (Itr lo (hi - lo).toNat) (rgD lo hi) F where
  go := fun i H e h => by
    unfold rgD at h
    rw [List.length_map, List.length_range] at h
    exact h
  stop := fun H e => by
    show (hi - lo).toNat ≤ _
    unfold rgD
    rw [List.length_map, List.length_range]
    exact Nat.le_refl _
  yld := fun i H x H' e h y => by
    obtain ⟨rfl, rfl⟩ := y
    have h' : i < (hi - lo).toNat := by
      unfold rgD at h
      rw [List.length_map, List.length_range] at h
      exact h
    refine ⟨.int (lo + i), ?_, .inl ⟨rfl, .int _⟩⟩
    unfold rgD
    rw [List.getElem?_map, List.getElem?_range h']
    rfl
end
section
variable (K : PySem.W.Frag) (M : Nm) (Γ : Ctx) (call : Nat → List (D × Bool) → CRes)
def TIt (it : PL.Src) : TI := fun σ H R => ∃ F ext xv env, Sta K M F H (ext ++ env) (xv ++ σ) ∧ ext.length = xv.length ∧
  match evi Γ call it env with
  | .ok ds env' => ∀ J F' H', Same F F' → Sta K M F' H' (ext ++ env') (xv ++ σ) → Wk K M J ds F' → R J H'
  | _ => False
end
section
variable {X : Cx} {M : Nm} {T : Ns} {L : Lk} {Γ : Ctx} {call : Nat → List (D × Bool) → CRes} {N : List Str} {sc so : Scope} {k : Nat} {W : WX} {io : Bool} {v0 : Option V}

theorem i_bind {α : Type} {r : Res α} {f : α → PL.Fm → Res (List D)} {P : List D → PL.Fm → Prop} (h : match r.bind f with | .ok ds e => P ds e | _ => False) : ∃ a e, r = .ok a e ∧ match f a e with | .ok ds e => P ds e | _ => False := by
  cases r with
  | ok a e => exact ⟨a, e, rfl, h⟩
  | exc x e => exact h.elim
  | err => exact h.elim
theorem i_seq {tg : Expr} {e : E} {x : Expr} (ha : PE X x ((TEv X.K M Γ call W) e)) : PI X tg x ((TIt X.K M Γ call) (.seq e)) := by
  refine ⟨fun pins s σ H R I h => ?_⟩
  obtain ⟨F, ext, xv, env, st, hl, post⟩ := h
  simp only [evi] at post
  obtain ⟨r, e1, h1, post⟩ := i_bind post
  obtain ⟨d, o⟩ := r
  cases d <;> simp only at post <;> try exact post.elim
  · refine (pi_str ha).run pins s σ H R I (T_sub st hl h1 fun v F1 H1 s1 r1 st1 => ?_)
    cases rep_str r1
    exact ⟨_, rfl, post _ F1 H1 s1 st1 wk_str⟩
  · refine (pi_tup ha).run pins s σ H R I (T_sub st hl h1 fun v F1 H1 s1 r1 st1 => ?_)
    obtain ⟨a, ws, rfl, h2, z2, r2⟩ := rep_tup r1
    exact ⟨a, rfl, ⟨ws, same_sqT st1.same h2⟩, post _ F1 H1 s1 st1 (wk_tup h2 r2)⟩
  · refine (pi_list ha).run pins s σ H R I (T_sub st hl h1 fun v F1 H1 s1 r1 st1 => ?_)
    obtain ⟨a, ws, rfl, h2, z2, r2⟩ := rep_lst r1
    exact ⟨a, rfl, ⟨ws, .inl (.inl (st1.same _ _ h2))⟩, post _ F1 H1 s1 st1 (wk_list (.inl (.inl h2)) r2)⟩
theorem i_rng1 (C : XC X M T L Γ call N sc so k W) {tg : Expr} {e : E} {x : Expr} {p pos : Pos} (hg : glB sc "range" = true) (hm : X.mg "range" = none) (ha : PE X x ((TEv X.K M Γ call W) e)) (hp : plain x = true) : PI X tg (.Call (.Name "range" p) [x] [] pos) ((TIt X.K M Γ call) (.rng1 e)) := by
  refine (pi_range1 (gl_of (by rw [C.scp]; exact hg)) hm (pa_cons ha pa_nil (plain_star hp)) (plain_star hp)).imp fun σ H R h => ?_
  obtain ⟨F, ext, xv, env, st, hl, post⟩ := h
  simp only [evi] at post
  obtain ⟨r, e1, h1, post⟩ := i_bind post
  obtain ⟨d, o⟩ := r
  cases d <;> simp only at post <;> try exact post.elim
  rename_i n
  by_cases hn : -100000000 ≤ n ∧ n ≤ 100000000
  · rw [if_pos hn] at post
    refine T_sub st hl h1 fun v F1 H1 s1 r1 st1 => ?_
    cases rep_int r1
    refine ⟨n, rfl, by omega, by omega, ?_⟩
    have q := wk_rng (K := X.K) (M := M) (F := F1) (lo := 0) (hi := n)
    rw [Int.sub_zero] at q
    exact post _ F1 H1 s1 st1 q
  · rw [if_neg hn] at post
    exact post.elim
theorem i_rng2 (C : XC X M T L Γ call N sc so k W) {tg : Expr} {a b : E} {x y : Expr} {p pos : Pos} (hg : glB sc "range" = true) (hm : X.mg "range" = none) (ha : PE X x ((TEv X.K M Γ call W) a)) (hb : PE X y ((TEv X.K M Γ call W) b)) (hp : plain x = true) (hq : plain y = true) :
    PI X tg (.Call (.Name "range" p) [x, y] [] pos) ((TIt X.K M Γ call) (.rng2 a b)) := by
  have e2 : starEach [y] X.env = [(false, eval y X.env)] := plain_star hq
  have e1 : starEach [x, y] X.env = [(false, eval x X.env), (false, eval y X.env)] := by
    rw [plain_star hp, e2]
  refine (pi_range2 (gl_of (by rw [C.scp]; exact hg)) hm (pa_cons ha (pa_cons hb pa_nil (plain_star hq)) (plain_star hp)) e1 e2).imp fun σ H R h => ?_
  obtain ⟨F, ext, xv, env, st, hl, post⟩ := h
  simp only [evi] at post
  obtain ⟨r, e1, h1, post⟩ := i_bind post
  obtain ⟨r', e2, h2, post⟩ := i_bind post
  obtain ⟨d, o⟩ := r
  obtain ⟨d', o'⟩ := r'
  cases d <;> cases d' <;> simp only at post <;> try exact post.elim
  rename_i n _ m
  by_cases hn : -100000000 ≤ n ∧ n ≤ 100000000 ∧ -100000000 ≤ m ∧ m ≤ 100000000
  · rw [if_pos hn] at post
    refine T_sub st hl h1 fun v F1 H1 s1 r1 st1 => T_sub st1 hl h2 fun w F2 H2 s2 r2 st2 => ?_
    cases rep_int r1
    cases rep_int r2
    exact ⟨n, m, rfl, ⟨by omega, by omega, by omega, by omega⟩, post _ F2 H2 (s1.trans s2) st2 wk_rng⟩
  · rw [if_neg hn] at post
    exact post.elim
/-- for .. in .. -/
theorem x_for (C : XC X M T L Γ call N sc so k W) {it : PL.Src} {tg : Tg} {b : Ss} {t x : Expr} {p : List Stmt} {pos : Pos} (hp : PassesOwn (model X.prog X.w) X.A X.env X.xe) (hi : PI X t x ((TIt X.K M Γ call) it)) (hg : mT N so tg t = true) (hb : PSs X p ((TSs X.K M Γ call io v0 W) b)) (hs : plain x = true) :
    PS X (.For t x p [] pos) ((TSt X.K M Γ call io v0 W) (.for it tg b)) := by
  have fo : ∀ v, foldedSetIterable x X.env v = pure v := fun v => by
    cases x <;> first | rfl | (simp [plain] at hs; done)
  refine (ps_for hp C.calm hi (g_of C hg) hb fo).imp fun D σ H h => ?_
  obtain ⟨F, ext, xv, env, st, hl, pn, post⟩ := h
  simp only [ex] at post
  obtain ⟨ds, e1, h1, post⟩ := postS_flN post
  refine ⟨F, ext, xv, env, st, hl, ?_⟩
  rw [h1]
  intro J F1 H1 s1 st1 wk
  refine ⟨fun i m σ' H' => m = ds.length - i ∧ i ≤ ds.length ∧ ∃ F' env', Same F1 F' ∧ Sta X.K M F' H' (ext ++ env') (xv ++ σ') ∧ Pin io v0 σ' ∧ PostS X.K M io v0 W F ext xv D (forF (fun d e => bnd io tg (d, false) e) (fun e => exs Γ call io b e) (ds.drop i) env'),
    ⟨_, rfl, Nat.zero_le _, F1, e1, Same.refl _, st1, pn, by rw [List.drop_zero]; exact post⟩, ?_⟩
  rintro i m σ' H' ⟨rfl, hi, F', env', s', st', pn', post'⟩
  have sFH : Same F1 H' := s'.trans st'.same
  by_cases hlt : i < ds.length
  · refine .inr ⟨wk.go i H' sFH hlt, fun σ2 H2 => i + 1 ≤ ds.length ∧ ∃ F2 env2, Same F1 F2 ∧ Sta X.K M F2 H2 (ext ++ env2) (xv ++ σ2) ∧ Pin io v0 σ2 ∧ PostS X.K M io v0 W F ext xv D (forF (fun d e => bnd io tg (d, false) e) (fun e => exs Γ call io b e) (ds.drop (i + 1)) env2),
      fun σ2 H2 ⟨hn, q⟩ => ⟨ds.length - (i + 1), by omega, rfl, hn, q⟩, fun y H2 hy => ?_⟩
    obtain ⟨d, hd, hh⟩ := wk.yld i H' y H2 sFH hlt hy
    have hdr : ds.drop i = d :: ds.drop (i + 1) := by
      have e := List.getElem?_eq_some_iff.mp hd
      rw [List.drop_eq_getElem_cons hlt, e.2]
    rw [hdr] at post'
    -- the item stands
    have item : ∃ F2, Same F1 F2 ∧ Same F' F2 ∧ Sta X.K M F2 H2 (some (d, false) :: (ext ++ env')) (some y :: (xv ++ σ')) := by
      rcases hh with ⟨rfl, rd⟩ | ⟨Ta, v, w, a, c, rfl, hT, rfl, rfl, ra, rc⟩
      · exact ⟨F', s', Same.refl _, st'.push (rd.mono s')⟩
      · have sn := st'.new (ob := .tup [v, w]) hT
        have sf : Same F' (upd F' Ta (.tup [v, w])) := same_new (st'.free hT)
        exact ⟨_, s'.trans sf, sf, sn.push (.tup (.inl (.inl upd_same)) (by show 2 ≤ LIM; decide) (.cons ((ra.mono s').mono sf) (.cons ((rc.mono s').mono sf) .nil)))⟩
    obtain ⟨F2, s2, s2', st2⟩ := item
    simp only [forF] at post'
    split at post'
    · rename_i env1 hb1
      refine bnd_ok hl st2 pn' hb1 fun F3 σ3 s3 st3 p3 => ?_
      refine ⟨F3, ext, xv, env1, st3, hl, p3, ?_⟩
      cases hx : exs Γ call io b env1 with
      | nx e2 =>
        rw [hx] at post'
        exact fun F4 H4 σ4 s4 st4 p4 => ⟨hlt, F4, e2, (s2.trans s3).trans s4, st4, p4, post'⟩
      | rt r e2 =>
        rw [hx] at post'
        exact postS_mono (s1.trans (s2.trans s3)) post'
      | exc z e2 =>
        rw [hx] at post'
        exact postS_mono (s1.trans (s2.trans s3)) post'
      | err =>
        rw [hx] at post'
        exact post'.elim
    · exact post'.elim
  · have e : i = ds.length := by omega
    subst e
    rw [List.drop_length] at post'
    exact .inl ⟨wk.stop H' sFH, post' F' H' σ' (s1.trans s') st' pn'⟩
end
end PL
/-! PLLc: comprehensions; zip and enumerate as what is walked. -/
namespace PL
open PySem PySem.Spec PyProof.Rows L2

theorem wipe_get (σ : L2.St) : ∀ (L : List Nat) (j : Nat), (wipe σ L)[j]? = if j ∈ L ∧ j < σ.length then some none else σ[j]?
  | [], j => by simp [wipe]
  | v :: L, j => by
    unfold wipe
    by_cases e : v = j
    · subst e
      by_cases h : v < σ.length
      · rw [List.getElem?_set_self (by rw [wipe_length]; exact h)]
        simp [h]
      · rw [List.getElem?_eq_none (by rw [List.length_set, wipe_length]; omega)]
        simp [h]
    · rw [List.getElem?_set_ne e, wipe_get σ L j]
      have : j ∈ v :: L ↔ j ∈ L := by simp [Ne.symm e]
      simp [this]
theorem wipe_set (σ : L2.St) {L : List Nat} {i : Nat} (x : Option V) (h : i ∈ L) : wipe (σ.set i x) L = wipe σ L := by
  apply List.ext_getElem?
  intro j
  rw [wipe_get, wipe_get, List.length_set]
  by_cases e : j ∈ L ∧ j < σ.length
  · rw [if_pos e, if_pos e]
  · rw [if_neg e, if_neg e]
    by_cases q : i = j
    · subst q
      have : ¬ i < σ.length := fun z => e ⟨h, z⟩
      rw [List.getElem?_eq_none (by rw [List.length_set]; omega), List.getElem?_eq_none (by omega)]
    · rw [List.getElem?_set_ne q]
theorem wipe_wipe (σ : L2.St) (L : List Nat) : wipe (wipe σ L) L = wipe σ L := by
  apply List.ext_getElem?
  intro j
  rw [wipe_get, wipe_length, wipe_get]
  by_cases e : j ∈ L ∧ j < σ.length
  · rw [if_pos e, if_pos e]
  · rw [if_neg e]
theorem gNs_wipe {L : List Nat} {R : L2.St → Hp → Prop} {H : Hp} {w : L2.St} : ∀ {is : List Nat} {vs : List V} {σ : L2.St}, (∀ i ∈ is, i ∈ L) → wipe σ L = w → gNs is vs σ H R → gNs is vs σ H fun σ2 H2 => wipe σ2 L = w ∧ R σ2 H2
  | [], vs, σ, _, e, h => by
    obtain ⟨a, b⟩ := h
    exact ⟨a, e, b⟩
  | i :: is, vs, σ, hm, e, h => by
    obtain ⟨x, r, e1, h⟩ := h
    refine ⟨x, r, e1, ?_⟩
    have q : gNs is r (σ.set i (some x)) H R := h
    exact gNs_wipe (is := is) (fun j hj => hm j (by simp [hj])) (by rw [wipe_set σ _ (hm i (by simp))]; exact e) q
theorem gOf_wipe {K : PySem.W.Frag} {tg : Tg} {v : V} {σ : L2.St} {H : Hp} {R : L2.St → Hp → Prop} (h : gOf K tg v σ H R) : gOf K tg v σ H fun σ2 H2 => wipe σ2 tg.ixs = wipe σ tg.ixs ∧ R σ2 H2 := by
  cases tg with
  | one i => exact ⟨wipe_set σ _ (by simp [Tg.ixs]), h⟩
  | many is =>
    obtain ⟨a, ws, e1, e2, e3, h⟩ := h
    exact ⟨a, ws, e1, e2, e3, gNs_wipe (fun i hi => hi) rfl h⟩

section
variable {K : PySem.W.Frag} {M : Nm} {F H : Hp}
theorem RepE.setv : ∀ {es : List Sl} {vs : List (Option V)} {fp : List Addr} {i : Nat} {w : Option V}, RepE K M F H es vs fp → (∀ p, es[i]? ≠ some (some p)) → RepE K M F H es (vs.set i w) fp
  | _, _, _, _, _, .nil, _ => .nil
  | _, _, _, 0, _, .skip r, _ => .skip r
  | _, _, _, i + 1, _, .skip r, h => .skip (RepE.setv (i := i) r fun p => by simpa using h p)
  | _, _, _, 0, _, .slot _ _, h => by
    exact ((h _) rfl).elim
  | _, _, _, i + 1, _, .slot q r, h => .slot q (RepE.setv (i := i) r fun p => by simpa using h p)
theorem Sta.setv {es : List Sl} {vs : List (Option V)} {i : Nat} {w : Option V} (h : Sta K M F H es vs) (hi : ∀ p, es[i]? ≠ some (some p)) : Sta K M F H es (vs.set i w) := by
  obtain ⟨fp, r, n, f, e⟩ := h
  exact ⟨fp, r.setv hi, n, f, e⟩
theorem sta_wipe1 {A : List Sl} {B : List (Option V)} {env : PL.Fm} {σ : L2.St} {v : Nat} (st : Sta K M F H (A ++ env) (B ++ σ)) (hl : A.length = B.length) : Sta K M F H (A ++ env.set v none) (B ++ σ.set v none) := by
  have q := (st.wipe (i := A.length + v)).setv (i := A.length + v) (w := none) (by
    intro p
    by_cases h : A.length + v < (A ++ env).length
    · rw [List.getElem?_set_self h]
      simp
    · rw [List.getElem?_eq_none (by rw [List.length_set]; omega)]
      simp)
  rw [set_app, hl, set_app] at q
  exact q
theorem sta_wip {A : List Sl} {B : List (Option V)} {env : PL.Fm} {σ : L2.St} (st : Sta K M F H (A ++ env) (B ++ σ)) (hl : A.length = B.length) : ∀ L : List Nat, Sta K M F H (A ++ wip env L) (B ++ wipe σ L)
  | [] => st
  | v :: L => by
    have q := sta_wipe1 (v := v) (sta_wip st hl L) hl
    exact q
theorem sta_frs {A : List Sl} {B : List (Option V)} {env : PL.Fm} {σ : L2.St} (st : Sta K M F H (A ++ env) (B ++ σ)) (hl : A.length = B.length) : ∀ L : List Nat,
    ∃ F', Same F F' ∧ Sta K M F' H (A ++ frs env L) (B ++ σ) ∧ ∀ v ∈ L, ∀ d o, (frs env L)[v]? = some (some (d, o)) → o = false ∧ ∃ w, σ[v]? = some (some w) ∧ Rep K M F' d w
  | [] => ⟨F, Same.refl F, st, fun v h => by simp at h⟩
  | v :: L => by
    obtain ⟨F', s, st', k⟩ := sta_frs st hl L
    by_cases hv : ∃ d o, (frs env L)[v]? = some (some (d, o))
    · obtain ⟨d, o, e⟩ := hv
      obtain ⟨F2, w, s2, hw, r, st2⟩ := sta_settle st' hl e
      have e2 : frs env (v :: L) = (frs env L).set v (some (d, false)) := by
        simp only [frs]
        rw [e]
      rw [e2]
      refine ⟨F2, s.trans s2, st2, fun j hj d' o' e' => ?_⟩
      by_cases q : v = j
      · subst q
        rw [List.getElem?_set_self (List.getElem?_eq_some_iff.mp e).1] at e'
        cases e'
        exact ⟨rfl, w, hw, r⟩
      · rw [List.getElem?_set_ne q] at e'
        obtain ⟨a, w', b, c⟩ := k j (by simpa [Ne.symm q] using hj) d' o' e'
        exact ⟨a, w', b, c.mono s2⟩
    · have e2 : frs env (v :: L) = frs env L := by
        simp only [frs]
        split
        · rename_i d o e
          exact (hv ⟨d, o, e⟩).elim
        · rfl
      rw [e2]
      refine ⟨F', s, st', fun j hj d' o' e' => ?_⟩
      by_cases q : v = j
      · subst q
        exact (hv ⟨d', o', e'⟩).elim
      · exact k j (by simpa [Ne.symm q] using hj) d' o' e'
theorem set_comm' {α : Type} {l : List α} {i j : Nat} {x y : α} (h : i ≠ j) : (l.set i x).set j y = (l.set j y).set i x := List.set_comm x y h
theorem rst_set {e old : PL.Fm} {v : Nat} {x : Sl} : ∀ {L : List Nat}, v ∉ L → rst (e.set v x) old L = (rst e old L).set v x
  | [], _ => rfl
  | u :: L, h => by
    simp only [List.mem_cons, not_or] at h
    show (rst (e.set v x) old L).set u _ = ((rst e old L).set u _).set v x
    rw [rst_set h.2, set_comm' h.1]
/-- back to what stood ahead -/
theorem sta_rst {F0 : Hp} {A : List Sl} {B : List (Option V)} {old : PL.Fm} {σ : L2.St} (s : Same F0 F) (hl : A.length = B.length) (ho : old.length = σ.length) : ∀ {L : List Nat} {e : PL.Fm}, L.Nodup → (∀ v ∈ L, ∀ d o, old[v]? = some (some (d, o)) → o = false ∧ ∃ w, σ[v]? = some (some w) ∧ Rep K M F0 d w) →
    Sta K M F H (A ++ e) (B ++ wipe σ L) → Sta K M F H (A ++ rst e old L) (B ++ σ)
  | [], e, _, _, st => st
  | v :: L, e, nd, k, st => by
    obtain ⟨nv, nd⟩ := List.nodup_cons.mp nd
    have k' : ∀ u ∈ L, ∀ d o, old[u]? = some (some (d, o)) → o = false ∧ ∃ w, σ[u]? = some (some w) ∧ Rep K M F0 d w := fun u hu => k u (by simp [hu])
    have hlen := st.len
    rw [List.length_append, List.length_append, wipe_length] at hlen
    -- the slot v is put back
    have step : Sta K M F H (A ++ e.set v (old[v]?.getD none)) (B ++ wipe σ L) := by
      by_cases hv : ∃ d o, old[v]? = some (some (d, o))
      · obtain ⟨d, o, q⟩ := hv
        obtain ⟨rfl, w, hw, r⟩ := k v (by simp) d o q
        have q1 := sta_put (i := v) (st.push (r.mono s)) hl
        have e1 : (wipe σ (v :: L)).set v (some w) = wipe σ L := by
          apply List.ext_getElem?
          intro j
          show ((((wipe σ L).set v none).set v (some w))[j]?) = _
          rw [List.set_set]
          by_cases z : v = j
          · subst z
            have hv2 : v < σ.length := (List.getElem?_eq_some_iff.mp hw).1
            rw [List.getElem?_set_self (by rw [wipe_length]; exact hv2), wipe_get, if_neg (fun z => nv z.1), hw]
          · rw [List.getElem?_set_ne z]
        rw [e1] at q1
        rw [q]
        exact q1
      · have e0 : old[v]?.getD none = none := by
          cases q : old[v]? with
          | none => rfl
          | some z =>
            cases z with
            | none => rfl
            | some p => exact (hv ⟨p.1, p.2, q⟩).elim
        rw [e0]
        have q1 := st.wipe (i := A.length + v)
        rw [set_app] at q1
        have q2 := q1.setv (i := A.length + v) (w := (wipe σ L)[v]?.getD none) (by
          intro p
          rw [← set_app]
          by_cases h : A.length + v < (A ++ e).length
          · rw [List.getElem?_set_self h]
            simp
          · rw [List.getElem?_eq_none (by rw [List.length_set]; omega)]
            simp)
        rw [hl, set_app] at q2
        have e1 : (wipe σ (v :: L)).set v ((wipe σ L)[v]?.getD none) = wipe σ L := by
          show ((wipe σ L).set v none).set v _ = _
          rw [List.set_set]
          cases z : (wipe σ L)[v]? with
          | none =>
            rw [List.set_eq_of_length_le]
            exact List.getElem?_eq_none_iff.mp z
          | some y => exact set_same_of z
        rw [e1] at q2
        exact q2
    have fin := sta_rst s hl ho nd k' step
    rw [rst_set nv] at fin
    exact fin
end
section
variable {X : Cx} {M : Nm} {T : Ns} {L : Lk} {Γ : Ctx} {call : Nat → List (D × Bool) → CRes} {N : List Str} {sc so : Scope} {k : Nat} {W : WX}
theorem xc_blk (C : XC X M T L Γ call N sc so k W) {scope : Scope} {own : List (Str × Nat)} (ok : BlkOk N sc scope own) (s : Shared) (H : Hp) (c : Addr) (cl : List (Str × Addr)) (fp : List Addr) (hnl : lamB T (relS scope sc) = false) :
    XC (X.blk s H scope (compEnvC scope cl c X.env) fp) M T L Γ call N (relS scope sc) scope k WF where
  hN := C.hN
  nd := C.nd
  scp := by
    rw [← C.scp]
    rfl
  kind := ok.kind
  sto := fun x hx => by
    have q : ∀ kd : NameKind, kd ≠ .free → scope.names.lookup x = some kd → (relS scope X.env.scope).names.lookup x = some kd := fun kd h e => lookup_relS_keep h e
    unfold stoB at hx
    split at hx
    · rename_i e
      have q1 := q _ (by decide) e
      exact ⟨.inl q1, .inr q1⟩
    · rename_i e
      have q1 := q _ (by decide) e
      refine ⟨.inr q1, .inl ?_⟩
      show (scope.names.lookup x == some NameKind.cell) = true
      rw [e]
      rfl
    · cases hx
  calm := C.calm
  own := .never
  tk := takes0
  room := C.room
  top := C.top
  ar := C.ar
  fns := C.fns
  lam := fun z => by
    rw [hnl] at z
    cases z
/-- what is walked, with its pairs -/
theorem wk_zip {K : PySem.W.Frag} {F : Hp} {b1 b2 : Bool} {a1 a2 : Addr} {l m : List D} {vs ws : List V} (h1 : SqA K b1 F a1 vs) (h2 : SqA K b2 F a2 ws) (m1 : ∀ H, Same F H → SqA K b1 H a1 vs) (m2 : ∀ H, Same F H → SqA K b2 H a2 ws) (r1 : Reps K M F l vs) (r2 : Reps K M F m ws) :
    Wk K M (JZ K b1 b2 a1 a2) (l.zipWith (fun a b => .tup [a, b]) m) F where
  go := fun i H e hi => ⟨vs, ws, m1 H e, m2 H e, by rw [List.length_zipWith, r1.len, r2.len] at hi; exact hi⟩
  stop := fun H e => ⟨vs, ws, m1 H e, m2 H e, by rw [List.length_zipWith, r1.len, r2.len]⟩
  yld := fun i H x H' e hi y => by
    obtain ⟨Ta, v, w, rfl, hT, rfl, y1, y2⟩ := y
    rw [List.length_zipWith] at hi
    have e1 : l[i]? = some l[i] := by simp
    have e2 : m[i]? = some m[i] := by simp
    obtain ⟨v', hv, rv⟩ := r1.get e1
    obtain ⟨w', hw, rw'⟩ := r2.get e2
    rw [y1 _ (m1 H e)] at hv
    rw [y2 _ (m2 H e)] at hw
    cases hv
    cases hw
    refine ⟨.tup [l[i], m[i]], ?_, .inr ⟨Ta, v, w, _, _, rfl, hT, rfl, rfl, rv, rw'⟩⟩
    rw [List.getElem?_zipWith, e1, e2]
theorem wk_enm {K : PySem.W.Frag} {F : Hp} {b : Bool} {a : Addr} {l : List D} {vs : List V} (m1 : ∀ H, Same F H → SqA K b H a vs) (r1 : Reps K M F l vs) : Wk K M (JE K b a) ((rgD 0 l.length).zipWith (fun a b => .tup [a, b]) l) F where
  go := fun i H e hi => ⟨vs, m1 H e, by
    rw [List.length_zipWith] at hi
    have := r1.len
    omega⟩
  stop := fun H e => ⟨vs, m1 H e, by
    rw [List.length_zipWith, ← r1.len]
    unfold rgD
    simp⟩
  yld := fun i H x H' e hi y => by
    obtain ⟨Ta, v, rfl, hT, rfl, y1⟩ := y
    rw [List.length_zipWith] at hi
    have e1 : l[i]? = some l[i] := by simp
    obtain ⟨v', hv, rv⟩ := r1.get e1
    rw [y1 _ (m1 H e)] at hv
    cases hv
    refine ⟨.tup [.int i, l[i]], ?_, .inr ⟨Ta, .int i, v, _, _, rfl, hT, rfl, rfl, .int _, rv⟩⟩
    have e2 : (rgD 0 l.length)[i]? = some (.int i) := by
      unfold rgD
      rw [List.getElem?_map, List.getElem?_range (by omega)]
      simp
    rw [List.getElem?_zipWith, e1, e2]
/-- what a row or a tuple is, for the walk -/
theorem sq_of {K : PySem.W.Frag} {F : Hp} {d : D} {l : List D} {v : V} (h : d = .lst l ∨ d = .tup l) (r : Rep K M F d v) : ∃ b a vs, v = .ref a ∧ (∀ H, Same F H → SqA K b H a vs) ∧ Reps K M F l vs := by
  rcases h with rfl | rfl
  · obtain ⟨a, ws, rfl, h1, _, r1⟩ := rep_lst r
    exact ⟨false, a, ws, rfl, fun H e => .inl (.inl (e _ _ h1)), r1⟩
  · obtain ⟨a, ws, rfl, h1, _, r1⟩ := rep_tup r
    exact ⟨true, a, ws, rfl, fun H e => same_sqT e h1, r1⟩
theorem i_enm (C : XC X M T L Γ call N sc so k W) {elts : List Expr} {kk : Nat} {tp : Pos} {e : E} {x : Expr} {p pos : Pos} (hg : glB sc "enumerate" = true) (ha : PE X x ((TEv X.K M Γ call W) e)) (hp : plain x = true) : PI X (.Tuple elts kk tp) (.Call (.Name "enumerate" p) [x] [] pos) ((TIt X.K M Γ call) (.enm e)) := by
  refine (pi_E (gl_of (by rw [C.scp]; exact hg)) C.top.enu (pa_cons ha pa_nil (plain_star hp)) (plain_star hp)).imp fun σ H R h => ?_
  obtain ⟨F, ext, xv, env, st, hl, post⟩ := h
  simp only [evi] at post
  obtain ⟨r, e1, h1, post⟩ := i_bind post
  obtain ⟨d, o⟩ := r
  have go : ∀ l, (d = .lst l ∨ d = .tup l) → (∀ J F' H', Same F F' → Sta X.K M F' H' (ext ++ e1) (xv ++ σ) → Wk X.K M J ((rgD 0 l.length).zipWith (fun a b => .tup [a, b]) l) F' → R J H') → TEv X.K M Γ call W e σ H fun v H1 => ∃ b a xs, [v] = [V.ref a] ∧ SqA X.K b H1 a xs ∧ R (JE X.K b a) H1 := fun l hd post => by
    refine T_sub st hl h1 fun v F1 H1 s1 r1 st1 => ?_
    obtain ⟨b, a, vs, rfl, m1, r2⟩ := sq_of hd r1
    exact ⟨b, a, vs, rfl, m1 _ st1.same, post _ F1 H1 s1 st1 (wk_enm m1 r2)⟩
  cases d <;> simp only at post <;> try exact post.elim
  · exact go _ (.inr rfl) post
  · exact go _ (.inl rfl) post
theorem i_zip (C : XC X M T L Γ call N sc so k W) {elts : List Expr} {kk : Nat} {tp : Pos} {a b : E} {x y : Expr} {p pos : Pos} (hg : glB sc "zip" = true) (ha : PE X x ((TEv X.K M Γ call W) a)) (hb : PE X y ((TEv X.K M Γ call W) b)) (hp : plain x = true) (hq : plain y = true) :
    PI X (.Tuple elts kk tp) (.Call (.Name "zip" p) [x, y] [] pos) ((TIt X.K M Γ call) (.zip a b)) := by
  have e2 : starEach [y] X.env = [(false, eval y X.env)] := plain_star hq
  refine (pi_Z (gl_of (by rw [C.scp]; exact hg)) C.top.zip (pa_cons ha (pa_cons hb pa_nil (plain_star hq)) (plain_star hp)) (plain_star hp) (stars_none (by simp [hq]))).imp fun σ H R h => ?_
  obtain ⟨F, ext, xv, env, st, hl, post⟩ := h
  simp only [evi] at post
  obtain ⟨r, e1, h1, post⟩ := i_bind post
  obtain ⟨r', e2, h2, post⟩ := i_bind post
  obtain ⟨d, o⟩ := r
  obtain ⟨d', o'⟩ := r'
  have go : ∀ l m, (d = .lst l ∨ d = .tup l) → (d' = .lst m ∨ d' = .tup m) → (∀ J F' H', Same F F' → Sta X.K M F' H' (ext ++ e2) (xv ++ σ) → Wk X.K M J (l.zipWith (fun a b => .tup [a, b]) m) F' → R J H') →
      TEv X.K M Γ call W a σ H fun v H1 => TEv X.K M Γ call W b σ H1 fun w H2 => ∃ b1 b2 a1 a2 xs ys, [v, w] = [V.ref a1, V.ref a2] ∧ SqA X.K b1 H2 a1 xs ∧ SqA X.K b2 H2 a2 ys ∧ R (JZ X.K b1 b2 a1 a2) H2 := fun l m hd hd' post => by
    refine T_sub st hl h1 fun v F1 H1 s1 r1 st1 => T_sub st1 hl h2 fun w F2 H2 s2 r2 st2 => ?_
    obtain ⟨b1, a1, vs, rfl, m1, q1⟩ := sq_of hd (r1.mono s2)
    obtain ⟨b2, a2, ws, rfl, m2, q2⟩ := sq_of hd' r2
    exact ⟨b1, b2, a1, a2, vs, ws, rfl, m1 _ st2.same, m2 _ st2.same, post _ F2 H2 (s1.trans s2) st2 (wk_zip (m1 _ (Same.refl _)) (m2 _ (Same.refl _)) m1 m2 q1 q2)⟩
  cases d <;> cases d' <;> simp only at post <;> try exact post.elim
  · exact go _ _ (.inr rfl) (.inr rfl) post
  · exact go _ _ (.inr rfl) (.inl rfl) post
  · exact go _ _ (.inl rfl) (.inr rfl) post
  · exact go _ _ (.inl rfl) (.inl rfl) post
/-- a comprehension's tests -/
def ttC (K : PySem.W.Frag) (M : Nm) (Γ : Ctx) (call : Nat → List (D × Bool) → CRes) : O → TT
  | .none => tYes
  | .some c => TTt K M Γ call c
noncomputable def cndF (Γ : Ctx) (call : Nat → List (D × Bool) → CRes) (c : O) (e : PL.Fm) : Res Bool := match c with
          | .none => .ok true e
          | .some c => (ev Γ call c e).bind fun x e => match x.1 with | .bl b => .ok b e | _ => .err
theorem ttC_sub {c : O} {F H : Hp} {ext : List Sl} {xv : List (Option V)} {σ : L2.St} {env e1 : PL.Fm} {b : Bool} {R : Bool → Hp → Prop} (st : Sta X.K M F H (ext ++ env) (xv ++ σ)) (hl : ext.length = xv.length) (h1 : cndF Γ call c env = .ok b e1)
    (k : ∀ F' H', Same F F' → Sta X.K M F' H' (ext ++ e1) (xv ++ σ) → R b H') : ttC X.K M Γ call c σ H R := by
  cases c with
  | none =>
    cases h1
    exact k F H (Same.refl F) st
  | some c =>
    simp only [cndF] at h1
    cases he : ev Γ call c env with
    | ok x e =>
      rw [he] at h1
      obtain ⟨d, o⟩ := x
      cases d <;> simp only [Res.bind_ok, reduceCtorEq] at h1
      cases h1
      exact Tt_sub st hl he k
    | exc x e =>
      rw [he] at h1
      cases h1
    | err =>
      rw [he] at h1
      cases h1
theorem lc_in {it : PL.Src} {tg : Tg} {c : O} {body : E} {σ : L2.St} {H : Hp} {Q : VK} (nd : tg.ixs.Nodup) (h : (TEv X.K M Γ call W) (.lc it tg c body) σ H Q) : tLc ((TIt X.K M Γ call) it) (gOf X.K tg) (ttC X.K M Γ call c) (TEv X.K M Γ call WF body) tg.ixs σ H Q := by
  obtain ⟨F, ext, xv, env, st, hl, post⟩ := h
  simp only [ev] at post
  obtain ⟨items, e1, h1, post⟩ := post_bind post
  refine ⟨F, ext, xv, env, st, hl, ?_⟩
  rw [h1]
  intro J F1 H1 s1 st1 wk Da hD
  obtain ⟨F2, s2, st2, own⟩ := sta_frs st1 hl tg.ixs
  generalize hold : frs e1 tg.ixs = old at *
  have hlo : old.length = σ.length := by
    have := st2.len
    rw [List.length_append, List.length_append] at this
    omega
  have st3 := Sta.newL (l := []) (ws := []) st2 hD .nil (by show 0 ≤ LIM; decide)
  have st4 := sta_wip (A := some (.lst [], true) :: ext) (B := some (.ref Da) :: xv) st3 (by simp [hl]) tg.ixs
  have post : PostE X.K M W F ext xv σ ((lcF (fun d e => bnd false tg (d, false) e) (fun e => wip e tg.ixs) (cndF Γ call c) (fun e => (ev Γ call body e).bind fun x e => .ok x.1 e) items (wip old tg.ixs) []).bind fun ds e => .ok (.lst ds, true) (rst e old tg.ixs)) Q := by
    cases c <;> exact post
  generalize hbd : (fun d e => bnd false tg (d, false) e : D → PL.Fm → Option PL.Fm) = bd at post
  generalize hwp : (fun e => wip e tg.ixs : PL.Fm → PL.Fm) = wp at post
  generalize hby : (fun e => (ev Γ call body e).bind fun x e => .ok x.1 e : PL.Fm → Res D) = by_ at post
  refine ⟨fun i m H' => m = items.length - i ∧ i ≤ items.length ∧ ∃ F' acc env', Same F2 F' ∧ Sta X.K M F' H' (some (.lst acc, true) :: (ext ++ env')) (some (.ref Da) :: (xv ++ wipe σ tg.ixs)) ∧
      PostE X.K M W F ext xv σ ((lcF bd wp (cndF Γ call c) by_ (items.drop i) env' acc).bind fun ds e => .ok (.lst ds, true) (rst e old tg.ixs)) Q,
    ⟨_, rfl, Nat.zero_le _, F2, [], wip old tg.ixs, Same.refl _, st4, post⟩, ?_⟩
  rintro i m H' ⟨rfl, hi, F', acc, env', s', st', post'⟩
  have sFH : Same F1 H' := (s2.trans s').trans st'.same
  by_cases hlt : i < items.length
  · refine .inr ⟨wk.go i H' sFH hlt, fun H2 => i + 1 ≤ items.length ∧ ∃ F' acc env', Same F2 F' ∧ Sta X.K M F' H2 (some (.lst acc, true) :: (ext ++ env')) (some (.ref Da) :: (xv ++ wipe σ tg.ixs)) ∧
      PostE X.K M W F ext xv σ ((lcF bd wp (cndF Γ call c) by_ (items.drop (i + 1)) env' acc).bind fun ds e => .ok (.lst ds, true) (rst e old tg.ixs)) Q,
      fun H2 ⟨hn, q⟩ => ⟨items.length - (i + 1), by omega, rfl, hn, q⟩, fun y H2 hy => ?_⟩
    obtain ⟨d, hd, hh⟩ := wk.yld i H' y H2 sFH hlt hy
    have hdr : items.drop i = d :: items.drop (i + 1) := by
      have e := List.getElem?_eq_some_iff.mp hd
      rw [List.drop_eq_getElem_cons hlt, e.2]
    rw [hdr] at post'
    have item : ∃ F3, Same F2 F3 ∧ Sta X.K M F3 H2 (some (d, false) :: ((some (.lst acc, true) :: ext) ++ env')) (some y :: ((some (.ref Da) :: xv) ++ wipe σ tg.ixs)) := by
      rcases hh with ⟨rfl, rd⟩ | ⟨Ta, v, w, a, c, rfl, hT, rfl, rfl, ra, rc⟩
      · exact ⟨F', s', st'.push (rd.mono (s2.trans s'))⟩
      · have sn := st'.new (ob := .tup [v, w]) hT
        have sf : Same F' (upd F' Ta (.tup [v, w])) := same_new (st'.free hT)
        exact ⟨_, s'.trans sf, sn.push (.tup (.inl (.inl upd_same)) (by show 2 ≤ LIM; decide) (.cons ((ra.mono (s2.trans s')).mono sf) (.cons ((rc.mono (s2.trans s')).mono sf) .nil)))⟩
    obtain ⟨F3, s3, st5⟩ := item
    have hl' : (some (D.lst acc, true) :: ext).length = (some (V.ref Da) :: xv).length := by simp [hl]
    simp only [lcF] at post'
    split at post'
    · rename_i env1 hb1
      rw [← hbd] at hb1
      have g := bnd_ok (io := false) (v0 := none) (R := fun σ2 H2' => ∃ F4, Same F3 F4 ∧ Sta X.K M F4 H2' ((some (.lst acc, true) :: ext) ++ env1) ((some (.ref Da) :: xv) ++ σ2)) hl' st5 (fun z => nomatch z) hb1 fun F4 σ2 s4 st6 _ => ⟨F4, s4, st6⟩
      have g2 := gOf_wipe g
      rw [wipe_wipe] at g2
      have gm : ∀ {R R' : L2.St → Hp → Prop}, (∀ σ2 H2, R σ2 H2 → R' σ2 H2) → ∀ {σ : L2.St} {H : Hp}, gOf X.K tg y σ H R → gOf X.K tg y σ H R' := by
        intro R R' hm σ H h
        have gn : ∀ {is : List Nat} {vs : List V} {σ : L2.St}, gNs is vs σ H R → gNs is vs σ H R' := by
          intro is
          induction is with
          | nil => exact fun ⟨a, b⟩ => ⟨a, hm _ _ b⟩
          | cons i is ih => exact fun ⟨v, r, e, h⟩ => ⟨v, r, e, ih h⟩
        cases tg with
        | one i => exact hm _ _ h
        | many is =>
          obtain ⟨a, ws, q1, q2, q3, h⟩ := h
          exact ⟨a, ws, q1, q2, q3, gn h⟩
      refine gm (fun σ2 H3 hq => ?_) g2
      obtain ⟨hw, F4, s4, st6⟩ := hq
      refine ⟨hw, ?_⟩
      cases hc2 : cndF Γ call c env1 with
      | exc x e =>
        rw [hc2] at post'
        exact post'.elim
      | err =>
        rw [hc2] at post'
        exact post'.elim
      | ok b e2 =>
        rw [hc2] at post'
        simp only [Res.bind_ok] at post'
        refine ttC_sub st6 hl' hc2 fun F5 H5 s5 st7 => ?_
        cases b with
        | false =>
          rw [if_neg Bool.false_ne_true] at post' ⊢
          have st8 := sta_wip st7 hl' tg.ixs
          rw [hw] at st8
          rw [← hwp] at post'
          exact ⟨hlt, F5, acc, _, (s3.trans s4).trans s5, st8, by rw [← hwp]; exact post'⟩
        | true =>
          rw [if_pos rfl] at post' ⊢
          rw [← hby] at post'
          cases hb2 : ev Γ call body e2 with
          | exc x e =>
            simp only [hb2] at post'
            exact post'.elim
          | err =>
            simp only [hb2] at post'
            exact post'.elim
          | ok x e3 =>
            simp only [hb2, Res.bind_ok] at post'
            refine T_sub st7 hl' hb2 fun v F6 H6 s6 r6 st8 => ?_
            by_cases hz : acc.length < LIM
            · rw [if_pos hz] at post'
              obtain ⟨a, ws, ea, ha, z1, r1⟩ := Sta.headL st8
              cases ea
              have hlen := r1.len
              refine ⟨ws, ha, lim_lt (by omega), hlt, F6, acc ++ [x.1], wip e3 tg.ixs, ((s3.trans s4).trans s5).trans s6, ?_, ?_⟩
              · have st9 := Sta.mut (l' := acc ++ [x.1]) st8 (r1.snoc r6) (by rw [List.length_append, List.length_singleton]; omega)
                have st10 := sta_wip (A := some (.lst (acc ++ [x.1]), true) :: ext) (B := some (.ref Da) :: xv) st9 (by simp [hl]) tg.ixs
                rw [hw] at st10
                exact st10
              · rw [← hby]
                rw [← hwp] at post' ⊢
                exact post'
            · rw [if_neg hz] at post'
              exact post'.elim
    · exact post'.elim
  · have e : i = items.length := by omega
    subst e
    rw [List.drop_length] at post'
    refine .inl ⟨wk.stop H' sFH, ?_⟩
    have st5 := sta_rst (F0 := F2) (A := some (.lst acc, true) :: ext) (B := some (.ref Da) :: xv) s' (by simp [hl]) hlo nd own st'
    exact post' _ F' H' ((s1.trans s2).trans s') st5
theorem ownT_map (N : List Str) (is : List Nat) : (ownT N is).map (·.2) = is := by
  unfold ownT
  rw [List.map_map]
  exact List.map_id is
theorem fo_of {x : Expr} {env : PySem.Env} (hs : plain x = true) : ∀ v, foldedSetIterable x env v = pure v := fun v => by
  cases x <;> first | rfl | (simp [plain] at hs; done)
theorem s_lc (C : XC X M T L Γ call N sc so k W) {it : PL.Src} {tg : Tg} {c : O} {body : E} {el t x : Expr} {ifs : List Expr} {scope : Scope} {pos : Pos} (hs : plain x = true) (hi : PI X t x ((TIt X.K M Γ call) it)) (hb : blkC N sc scope (ownT N tg.ixs) = true) (nd : tg.ixs.Nodup) (hnl : lamB T (relS scope sc) = false) (hg : mT N scope tg t = true)
    (ht : ∀ X', XC X' M T L Γ call N (relS scope sc) scope k WF → X'.K = X.K → PTs X' ifs (ttC X'.K M Γ call c)) (he : ∀ X', XC X' M T L Γ call N (relS scope sc) scope k WF → X'.K = X.K → PE X' el (TEv X'.K M Γ call WF body)) :
    PE X (.ListComp el [⟨t, x, ifs, 0⟩] scope pos) ((TEv X.K M Γ call W) (.lc it tg c body)) := by
  have ok := blkOk_by hb
  have ok' : BlkOk X.N X.env.scope scope (ownT N tg.ixs) := by
    rw [C.hN, C.scp]
    exact ok
  refine (pe_lc (own := ownT N tg.ixs) (g := gOf X.K tg) (tt := ttC X.K M Γ call c) (te := TEv X.K M Γ call WF body) C.calm (by rw [C.hN]; exact C.nd) hi ok' (fun s H c' cl fp => ?_) (fun s H c' cl fp => ?_) (fun s H c' cl fp => ?_) (hs := fo_of hs)).imp fun σ H Q h => ?_
  · exact g_of (xc_blk C ok s H c' cl fp hnl) hg
  · exact ht _ (xc_blk C ok s H c' cl fp hnl) rfl
  · exact he _ (xc_blk C ok s H c' cl fp hnl) rfl
  · rw [ownT_map]
    exact lc_in nd h
theorem x_setLc (C : XC X M T L Γ call N sc so k W) {io : Bool} {v0 : Option V} {i : Nat} {y : Str} {py spos : Pos} {it : PL.Src} {tg : Tg} {c : O} {body : E} {el t x : Expr} {ifs : List Expr} {scope : Scope} {pos : Pos} (h1 : N[i]? = some y) (h2 : sc.names.lookup y = some .local) (hln : (py.line == pos.line) = true)
    (hany : (scope.names.any fun (n, k) => n == y && (k == .local || k == .cell)) = false) (hs : plain x = true) (hi : PI X t x ((TIt X.K M Γ call) it)) (hb : blkC N sc scope (ownT N tg.ixs) = true) (nd : tg.ixs.Nodup) (hnl : lamB T (relS scope sc) = false) (hg : mT N scope tg t = true)
    (ht : ∀ X', XC X' M T L Γ call N (relS scope sc) scope k WF → X'.K = X.K → PTs X' ifs (ttC X'.K M Γ call c)) (he : ∀ X', XC X' M T L Γ call N (relS scope sc) scope k WF → X'.K = X.K → PE X' el (TEv X'.K M Γ call WF body)) :
    PS X (.Assign [.Name y py] (.ListComp el [⟨t, x, ifs, 0⟩] scope pos) spos) (TSt X.K M Γ call io v0 W (.asg (.one i) (.lc it tg c body))) := by
  have ok := blkOk_by hb
  have ok' : BlkOk X.N X.env.scope scope (ownT N tg.ixs) := by
    rw [C.hN, C.scp]
    exact ok
  refine (ps_setLc (i := i) (own := ownT N tg.ixs) (g := gOf X.K tg) (tt := ttC X.K M Γ call c) (te := TEv X.K M Γ call WF body) C.calm (by rw [C.hN]; exact C.nd) (by rw [C.hN]; exact h1) (by rw [C.scp]; exact h2)
    (sw_true (by rw [C.scp]; exact C.kind) (by rw [C.scp]; exact h2) hln hany) hi ok' (fun s H c' cl fp => ?_) (fun s H c' cl fp => ?_) (fun s H c' cl fp => ?_) (hs := fo_of hs)).imp fun D σ H h => ?_
  · exact g_of (xc_blk C ok s H c' cl fp hnl) hg
  · exact ht _ (xc_blk C ok s H c' cl fp hnl) rfl
  · exact he _ (xc_blk C ok s H c' cl fp hnl) rfl
  · rw [ownT_map]
    obtain ⟨F, ext, xv, env, st, hl, pn, post⟩ := h
    simp only [ex] at post
    rcases postS_fl post with ⟨r, e1, h1, post⟩ | ⟨x, e1, h1, post⟩
    case inr => exact lc_in (W := W) nd (T_exc st hl pn h1 post)
    split at post
    · rename_i env1 hb
      exact lc_in (W := W) nd (T_keep st hl h1 fun v F1 H1 s1 st1 => bnd_ok (tg := .one i) hl st1 pn hb fun F2 σ2 s2 st2 p2 => post F2 H1 σ2 (s1.trans s2) st2 p2)
    · exact post.elim
end
end PL
/-! PLWrd: what is refused, as a word: the law's own try. -/
namespace PL
open PySem PySem.Spec PyProof.Rows L2

/-! ### how often a flat thing stands in a list -/
def rCntF (K : PySem.W.Frag) : V → List V → Hp → VK → Prop := fun x xs H Q => ∃ (a : Addr) (ys : List V) (y : V), x = .ref a ∧ xs = [y] ∧ SqL K H a ys ∧ flatV y = true ∧ ys.all flatV = true ∧ Q (.int ((ys.countP fun z => eqV z y : Nat) : Int)) H
theorem cnt_vals {y : V} : ∀ {ys : List V} {us : List Value}, Vals ys us → ys.all flatV = true → us.countP (eqU y) = ys.countP fun z => eqV z y
  | _, _, .nil, _ => rfl
  | z :: ys, u :: us, .cons r t, f => by
    rw [List.all_cons, Bool.and_eq_true] at f
    rw [List.countP_cons, List.countP_cons, cnt_vals t f.2, eqU_of r f.1]
theorem mt_countF {X : Cx} : MtR X "list.count" (rCntF X.K) := by
  intro pins s σ H x xs v us Q I rx rxs h
  obtain ⟨a, ys, y, rfl, rfl, hs, fy, fys, q⟩ := h
  cases rx
  cases rxs with
  | cons ry rt =>
    rename_i uy ut
    cases rt
    obtain ⟨its, rv, ⟨⟨cls, dd, data, sl⟩, n, ho, hc, hdn, hd⟩, hlen⟩ := I.list hs
    simp only at hc hd
    subst hc hd
    refine call_meets PySem.F.slot_list_count ⟨_, ho, rfl⟩ PySem.F.entry_list_count (PySem.F.args_list_count_2 _ _)
      (SeqAt.list_countAt a its.toArray n dd sl uy (eqU y)) ⟨ho, fun u' hu' => mem_eqAt ry fy rv fys u' (by simpa using hu'), ?_⟩
    have ec : its.toArray.toList.countP (eqU y) = ys.countP fun z => eqV z y := cnt_vals rv fys
    refine ⟨.int ((ys.countP fun z => eqV z y : Nat) : Int), H, I.tok _, ⟨s.toks, ?_⟩, q⟩
    show Value.int ((its.toArray.toList.countP (eqU y) : Nat) : Int) s.toks = Value.int ((ys.countP fun z => eqV z y : Nat) : Int) s.toks
    rw [ec]

/-! ### the text's own names -/
def wN : List Str := ["BadRows", "BadRight", "BadText", "BadPrime", "BadCount", "NotSquare", "Unfit", "BadPaper"]
def wW : List Str := ["rows", "right", "text", "prime", "count", "square", "unfit", "paper"]
def wX : List Str := ["LiftError", "ValueError", "isinstance"]
def wG (sg : Scope) : Bool := (wN ++ wX).all fun x => decide (sg.names.lookup x = some .globalImplicit)
/-- the classes, as the text's top has them -/
structure WdG (mg : Str → Option Value) (ks : Nat → Addr) (kL : Addr) : Prop where
  m : ∀ i x, wN[i]? = some x → mg x = some (.ref (ks i))
  mL : mg "LiftError" = some (.ref kL)
  mI : mg "isinstance" = none
  mV : mg "ValueError" = none
/-- a class among them: its place -/
structure WdC (K : PySem.W.Frag) (ks : Nat → Addr) (kL : Addr) (D : Addr) (j : Nat) : Prop where
  ec : ExcC K D
  ex : PySem.W.exmOne K (.ref D) (.ref kL) = some true
  kit : ∀ i, i < 8 → PySem.W.kitOne K (.ref D) (.ref (ks i)) = some (decide (i = j))
  kv : PySem.W.kitOne K (.ref D) (.type "ValueError") = some true
  hj : 3 ≤ j ∧ j < 8

/-! ### the handler's statements -/
def IsI (c : Str) (e : Expr) : Prop := ∃ p1 p2 p3 p4, e = .Call (.Name "isinstance" p1) [.Name "e" p2, .Name c p3] [] p4
def IsI2 (e : Expr) : Prop := IsI "ValueError" e
section
variable {X : Cx} {a D : Addr} {oe : Obj} {pn : List (Addr × Obj)} {ks : Nat → Addr} {kL : Addr} {sg : Scope}
theorem g_of_w {x : Str} (hs : X.env.scope = sg) (h : wG sg = true) (hx : x ∈ wN ++ wX) : Gl X x := by
  have q := List.all_eq_true.mp h x hx
  have q := of_decide_eq_true q
  unfold Gl PySem.Env.kindOf
  rw [hs]
  exact q
theorem pe_isx {c : Str} {e : Expr} {v : V} (C : ExcC X.K D) (hz : Zc (.ref D) none oe) (hf : ∃ vs, oe.data = .fields vs) (hi : X.N[1]? = some ("e" : Str)) (hv : Vis X.env.scope "e") (hg : Gl X "isinstance") (hm : X.mg "isinstance" = none)
    (hc : ∀ p, PE (X.suite a ((a, oe) :: pn)) (.Name c p) (tC v)) (h : IsI c e) : PE (X.suite a ((a, oe) :: pn)) e (tCB (rIsE X.K D a) (tCons (tVar 1) (tCons (tC v) tNil))) ∧ plain e = true := by
  obtain ⟨p1, p2, p3, p4, rfl⟩ := h
  refine ⟨pe_callB (call_isE C hz hf) hg hm (by decide +kernel) (pa_cons (pe_var hi hv (by decide) (by decide)) (pa_cons (hc p3) pa_nil (plain_star rfl)) (plain_star rfl)) (by decide) (by decide) (plain_star rfl) (stars_none rfl), rfl⟩
theorem pe_isk (i : Nat) {c : Str} {e : Expr} (hi8 : wN[i]? = some c) (G : WdG X.mg ks kL) (hs : X.env.scope = sg) (hw : wG sg = true) (C : ExcC X.K D) (hz : Zc (.ref D) none oe) (hf : ∃ vs, oe.data = .fields vs) (hi : X.N[1]? = some ("e" : Str)) (hv : Vis X.env.scope "e")
    (h : IsI c e) : PE (X.suite a ((a, oe) :: pn)) e (tCB (rIsE X.K D a) (tCons (tVar 1) (tCons (tC (.ref (ks i))) tNil))) ∧ plain e = true := by
  have hx : c ∈ wN := List.mem_of_getElem? hi8
  have hd : (c == ("__debug__" : Str)) = false := by
    have : ∀ c ∈ wN, (c == ("__debug__" : Str)) = false := by decide +kernel
    exact this c hx
  exact pe_isx C hz hf hi hv (g_of_w hs hw (by decide +kernel)) G.mI (fun p => pe_glob (X := X.suite a ((a, oe) :: pn)) (g_of_w hs hw (List.mem_append_left _ hx)) (G.m i c hi8) rfl hd) h
theorem pe_isv {e : Expr} (G : WdG X.mg ks kL) (hs : X.env.scope = sg) (hw : wG sg = true) (C : ExcC X.K D) (hz : Zc (.ref D) none oe) (hf : ∃ vs, oe.data = .fields vs) (hi : X.N[1]? = some ("e" : Str)) (hv : Vis X.env.scope "e")
    (h : IsI2 e) : PE (X.suite a ((a, oe) :: pn)) e (tCB (rIsE X.K D a) (tCons (tVar 1) (tCons (tC (.ty "ValueError")) tNil))) ∧ plain e = true :=
  pe_isx C hz hf hi hv (g_of_w hs hw (by decide +kernel)) G.mI (fun p => pe_bltn (X := X.suite a ((a, oe) :: pn)) (g_of_w hs hw (by decide +kernel)) G.mV (by decide +kernel) rfl (by decide) (by decide)) h
/-- what isinstance tells -/
theorem isk_run {K : PySem.W.Frag} {D a : Addr} {ks : Nat → Addr} {kL : Addr} {j i : Nat} {σ : L2.St} {H : Hp} {Q : VK} (W : WdC K ks kL D j) (hi : i < 8) (h1 : σ[1]? = some (some (V.ref a))) (q : Q (.bl (decide (i = j))) H) : tCB (rIsE K D a) (tCons (tVar 1) (tCons (tC (.ref (ks i))) tNil)) σ H Q :=
  ⟨_, h1, .ref (ks i), .ref (ks i), _, rfl, fun u r => r, W.kit i hi, q⟩
theorem isv_run {K : PySem.W.Frag} {D a : Addr} {ks : Nat → Addr} {kL : Addr} {j : Nat} {σ : L2.St} {H : Hp} {Q : VK} (W : WdC K ks kL D j) (h1 : σ[1]? = some (some (V.ref a))) (q : Q (.bl true) H) : tCB (rIsE K D a) (tCons (tVar 1) (tCons (tC (.ty "ValueError")) tNil)) σ H Q :=
  ⟨_, h1, .ty "ValueError", .type "ValueError", _, rfl, fun u r => r, W.kv, q⟩
end

/-- the truths, each for a class -/
def bL (j n : Nat) : List V := (List.range n).map fun i => V.bl (decide (i = j))
theorem bL_get {j n i : Nat} (h : i < n) : (bL j n)[i]? = some (.bl (decide (i = j))) := by
  unfold bL
  rw [List.getElem?_map, List.getElem?_range h]
  rfl
theorem bL_flat (j n : Nat) : (bL j n).all flatV = true := by
  rw [List.all_eq_true]
  intro x hx
  obtain ⟨i, _, rfl⟩ := List.mem_map.mp hx
  rfl
theorem bL_one : ∀ j, j < 8 → ((bL j 8).countP fun z => eqV z (.bl true)) = 1 := by decide
abbrev eN : Str := "e"
abbrev kN : Str := "_law_kinds"
abbrev atN : Str := "_law_at"
abbrev whN : Str := "_law_word_here"
structure SuN (X : Cx) (sg : Scope) (ks : Nat → Addr) (kL : Addr) : Prop where
  G : WdG X.mg ks kL
  hs : X.env.scope = sg
  hw : wG sg = true
  nd : X.N.Nodup
  n1 : X.N[1]? = some ("e" : Str)
  n2 : X.N[2]? = some kN
  n3 : X.N[3]? = some atN
  n4 : X.N[4]? = some whN
  l1 : sg.names.lookup eN = some .local
  l2 : sg.names.lookup kN = some .local
  l3 : sg.names.lookup atN = some .local
  l4 : sg.names.lookup whN = some .local
section
variable {X : Cx} {a D : Addr} {oe : Obj} {pn : List (Addr × Obj)} {ks : Nat → Addr} {kL : Addr} {sg : Scope} {j : Nat}
theorem SuN.v (S : SuN X sg ks kL) {x : Str} (h : sg.names.lookup x = some .local) : Vis X.env.scope x := by
  rw [S.hs]
  exact .inl h
theorem SuN.o (S : SuN X sg ks kL) {x : Str} (h : sg.names.lookup x = some .local) : L2.Loc X.env.scope x := by
  rw [S.hs]
  exact .inl h
theorem su_var (S : SuN X sg ks kL) {i : Nat} {x : Str} (hi : X.N[i]? = some x) (h : sg.names.lookup x = some .local) (h1 : (x == ("__debug__" : Str)) = false) (h2 : (x == ("__classdict__" : Str)) = false) (p : Pos) : PE (Cx.suite X a ((a, oe) :: pn)) (.Name x p) (tVar i) :=
  pe_var (X := (Cx.suite X a ((a, oe) :: pn))) hi (S.v h) h1 h2
theorem su_to (S : SuN X sg ks kL) {i : Nat} {x : Str} (hi : X.N[i]? = some x) (h : sg.names.lookup x = some .local) (p : Pos) : PG (Cx.suite X a ((a, oe) :: pn)) (.Name x p) (gName i) :=
  pg_name (X := (Cx.suite X a ((a, oe) :: pn))) S.nd hi (S.o h) (.inr (by show X.env.scope.names.lookup x = some .local; rw [S.hs]; exact h))
def IsS1 (s : Stmt) : Prop := ∃ e0 e1 e2 e3 p q r, s = .Assign [.Name kN p] (.List [e0, e1, e2, e3] q) r ∧ IsI "BadRows" e0 ∧ IsI "BadRight" e1 ∧ IsI "BadText" e2 ∧ IsI "BadPrime" e3
theorem su_1 (S : SuN X sg ks kL) (W : WdC X.K ks kL D j) (hz : Zc (.ref D) none oe) (hf : ∃ vs, oe.data = .fields vs) {s : Stmt} (h : IsS1 s) :
    ∃ t, PS (Cx.suite X a ((a, oe) :: pn)) s t ∧ ∀ E σ H, σ[1]? = some (some (V.ref a)) → (∀ p, H p = none → E.nx (σ.set 2 (some (.ref p))) (upd H p (.lst (bL j 4)))) → t E σ H := by
  obtain ⟨e0, e1, e2, e3, p, q, r, rfl, i0, i1, i2, i3⟩ := h
  obtain ⟨a0, b0⟩ := pe_isk (a := a) (oe := oe) (pn := pn) 0 rfl S.G S.hs S.hw W.ec hz hf S.n1 (S.v S.l1) i0
  obtain ⟨a1, b1⟩ := pe_isk (a := a) (oe := oe) (pn := pn) 1 rfl S.G S.hs S.hw W.ec hz hf S.n1 (S.v S.l1) i1
  obtain ⟨a2, b2⟩ := pe_isk (a := a) (oe := oe) (pn := pn) 2 rfl S.G S.hs S.hw W.ec hz hf S.n1 (S.v S.l1) i2
  obtain ⟨a3, b3⟩ := pe_isk (a := a) (oe := oe) (pn := pn) 3 rfl S.G S.hs S.hw W.ec hz hf S.n1 (S.v S.l1) i3
  refine ⟨_, ps_asg (pe_lst (pa_cons a0 (pa_cons a1 (pa_cons a2 (pa_cons a3 pa_nil (plain_star b3)) (plain_star b2)) (plain_star b1)) (plain_star b0))) (su_to S S.n2 S.l2 p) (swapsSole_no rfl) (stores_no rfl) rfl, fun E σ H h1 hk => ?_⟩
  refine isk_run W (by omega) h1 (isk_run W (by omega) h1 (isk_run W (by omega) h1 (isk_run W (by omega) h1 ?_)))
  exact ⟨by show 4 ≤ sizeLine; decide, fun p hp => hk p hp⟩
def IsS2 (s : Stmt) : Prop := ∃ e0 e1 e2 p p2 q r u, s = .Assign [.Name kN p] (.BinOp (.Name kN p2) .Add (.List [e0, e1, e2] q) u) r ∧ IsI "BadCount" e0 ∧ IsI "NotSquare" e1 ∧ IsI "Unfit" e2
theorem su_2 (S : SuN X sg ks kL) (W : WdC X.K ks kL D j) (hz : Zc (.ref D) none oe) (hf : ∃ vs, oe.data = .fields vs) {s : Stmt} (h : IsS2 s) :
    ∃ t, PS (Cx.suite X a ((a, oe) :: pn)) s t ∧ ∀ E σ H p, σ[1]? = some (some (V.ref a)) → σ[2]? = some (some (V.ref p)) → H p = some (.lst (bL j 4)) →
      (∀ p2 p3, H p2 = none → upd H p2 (.lst [.bl (decide (4 = j)), .bl (decide (5 = j)), .bl (decide (6 = j))]) p3 = none → E.nx (σ.set 2 (some (.ref p3))) (upd (upd H p2 (.lst [.bl (decide (4 = j)), .bl (decide (5 = j)), .bl (decide (6 = j))])) p3 (.lst (bL j 7)))) → t E σ H := by
  obtain ⟨e0, e1, e2, p, p2, q, r, u, rfl, i0, i1, i2⟩ := h
  obtain ⟨a0, b0⟩ := pe_isk (a := a) (oe := oe) (pn := pn) 4 rfl S.G S.hs S.hw W.ec hz hf S.n1 (S.v S.l1) i0
  obtain ⟨a1, b1⟩ := pe_isk (a := a) (oe := oe) (pn := pn) 5 rfl S.G S.hs S.hw W.ec hz hf S.n1 (S.v S.l1) i1
  obtain ⟨a2, b2⟩ := pe_isk (a := a) (oe := oe) (pn := pn) 6 rfl S.G S.hs S.hw W.ec hz hf S.n1 (S.v S.l1) i2
  refine ⟨_, ps_asg (pe_op op_cat (su_var S S.n2 S.l2 (by decide) (by decide) p2) (pe_lst (pa_cons a0 (pa_cons a1 (pa_cons a2 pa_nil (plain_star b2)) (plain_star b1)) (plain_star b0)))) (su_to S S.n2 S.l2 p) (swapsSole_no rfl) (stores_no rfl) rfl, fun E σ H pp h1 h2 h3 hk => ?_⟩
  refine ⟨_, h2, ?_⟩
  refine isk_run W (by omega) h1 (isk_run W (by omega) h1 (isk_run W (by omega) h1 ?_))
  refine ⟨by show 3 ≤ sizeLine; decide, fun p2 hp2 => ⟨pp, p2, bL j 4, _, rfl, rfl, ?_, upd_same, ?_, fun p3 hp3 => hk p2 p3 hp2 hp3⟩⟩
  · rw [upd_ne fun z => by rw [z, hp2] at h3; cases h3]
    exact h3
  · show (bL j 4).length + 3 ≤ sizeLine
    unfold bL
    simp only [List.length_map, List.length_range]
    decide
def IsS3 (s : Stmt) : Prop := ∃ e p ap cp r, s = .Expr (.Call (.Attribute (.Name kN p) "append" ap) [e] [] cp) r ∧ IsI "BadPaper" e ∧ (ap.endLine == cp.line) = true
theorem su_3 (S : SuN X sg ks kL) (W : WdC X.K ks kL D j) (hz : Zc (.ref D) none oe) (hf : ∃ vs, oe.data = .fields vs) {s : Stmt} (h : IsS3 s) :
    ∃ t, PS (Cx.suite X a ((a, oe) :: pn)) s t ∧ ∀ E σ H p, σ[1]? = some (some (V.ref a)) → σ[2]? = some (some (V.ref p)) → H p = some (.lst (bL j 7)) → E.nx σ (upd H p (.lst (bL j 8))) → t E σ H := by
  obtain ⟨e, p, ap, cp, r, rfl, i0, hl⟩ := h
  obtain ⟨a0, b0⟩ := pe_isk (a := a) (oe := oe) (pn := pn) 7 rfl S.G S.hs S.hw W.ec hz hf S.n1 (S.v S.l1) i0
  have few : ((backTo cp (starEach [e] X.env)).all (fun x => !x.1) && (backToKw cp (keywordEach [] X.env)).all (fun x => x.1.isSome) && decide ([e].length + ([] : List Keyword).length + (if ([] : List Keyword).isEmpty then 0 else 1) < 30)) = true := by
    rw [plain_star b0]
    rfl
  refine ⟨_, ps_expr (L2.pe_bm (X := (Cx.suite X a ((a, oe) :: pn))) (T := "list") PySem.F.plainAttrs_list PySem.F.slot_list_append PySem.F.type_list_append (r := rAppend) mt_append (su_var S S.n2 S.l2 (by decide) (by decide) p) (pa_cons a0 pa_nil (plain_star b0)) rfl few hl (plain_star b0) rfl) (by rfl), fun E σ H pp h1 h2 h3 hk => ?_⟩
  refine ⟨_, h2, .inl ⟨rfl, _, .inl (.inl h3)⟩, isk_run W (by omega) h1 ⟨pp, bL j 7, _, rfl, rfl, h3, ?_, ?_⟩⟩
  · unfold bL
    rw [List.length_map, List.length_range]
    decide
  · have e : bL j 8 = bL j 7 ++ [.bl (decide (7 = j))] := by
      unfold bL
      rw [List.range_succ, List.map_append]
      rfl
    rw [← e]
    exact hk
theorem few1 {X : Cx} {e : Expr} {cp : Pos} (h : plain e = true) : ((backTo cp (starEach [e] X.env)).all (fun x => !x.1) && (backToKw cp (keywordEach [] X.env)).all (fun x => x.1.isSome) && decide ([e].length + ([] : List Keyword).length + (if ([] : List Keyword).isEmpty then 0 else 1) < 30)) = true := by
  rw [plain_star h]
  rfl
def IsS4 (s : Stmt) : Prop := ∃ e p ap cp r j1 q1 j2 q2 q3 q4 q5 st, s = .If (.BoolOp .Or [.Compare (.Call (.Attribute (.Name kN p) "count" ap) [.Constant (.bool true) j1 q1] [] cp) [.NotEq] [.Constant (.int 1) j2 q2] q3, .UnaryOp .Not e q4] q5) [st] [] r ∧ IsI2 e ∧ (ap.endLine == cp.line) = true
theorem su_4 (S : SuN X sg ks kL) (W : WdC X.K ks kL D j) (hz : Zc (.ref D) none oe) (hf : ∃ vs, oe.data = .fields vs) {s : Stmt} (h : IsS4 s) :
    ∃ t, PS (Cx.suite X a ((a, oe) :: pn)) s t ∧ ∀ E σ H p, σ[1]? = some (some (V.ref a)) → σ[2]? = some (some (V.ref p)) → H p = some (.lst (bL j 8)) → E.nx σ H → t E σ H := by
  obtain ⟨e, p, ap, cp, r, j1, q1, j2, q2, q3, q4, q5, st, rfl, i0, hl⟩ := h
  have i0' := i0
  obtain ⟨a0, b0⟩ := pe_isv (a := a) (oe := oe) (pn := pn) S.G S.hs S.hw W.ec hz hf S.n1 (S.v S.l1) i0
  obtain ⟨_, _, _, _, rfl⟩ := i0'
  refine ⟨_, ps_if (pw_or (pt_cmpR op_ne (L2.pe_bm (X := (Cx.suite X a ((a, oe) :: pn))) (T := "list") PySem.F.plainAttrs_list PySem.F.slot_list_count PySem.F.type_list_count (r := rCntF X.K) mt_countF (su_var S S.n2 S.l2 (by decide) (by decide) p) (pa_cons pe_bl pa_nil (plain_star rfl)) rfl (few1 rfl) hl (plain_star rfl) rfl) pe_int rfl) (pw_or1 (pt_not (pt_val a0 fun _ => rfl)))).pt (pss_one ps_never) pss_nil, fun E σ H pp h1 h2 h3 hk => ?_⟩
  refine ⟨_, h2, .inl ⟨rfl, _, .inl (.inl h3)⟩, pp, bL j 8, .bl true, rfl, rfl, .inl (.inl h3), rfl, bL_flat _ _, ?_⟩
  rw [bL_one j W.hj.2]
  refine ⟨rfl, false, rfl, ?_⟩
  show (if false = true then _ else _)
  rw [if_neg Bool.false_ne_true]
  exact isv_run W h1 ⟨true, rfl, hk⟩
def IsS5 (s : Stmt) : Prop := ∃ p p2 ap cp j1 q1 r, s = .Assign [.Name atN p] (.Call (.Attribute (.Name kN p2) "index" ap) [.Constant (.bool true) j1 q1] [] cp) r ∧ (ap.endLine == cp.line) = true
theorem su_5 (S : SuN X sg ks kL) (W : WdC X.K ks kL D j) {s : Stmt} (h : IsS5 s) :
    ∃ t, PS (Cx.suite X a ((a, oe) :: pn)) s t ∧ ∀ E σ H p, σ[2]? = some (some (V.ref p)) → H p = some (.lst (bL j 8)) → E.nx (σ.set 3 (some (.int (j : Int)))) H → t E σ H := by
  obtain ⟨p, p2, ap, cp, j1, q1, r, rfl, hl⟩ := h
  refine ⟨_, ps_asg (L2.pe_bm (X := (Cx.suite X a ((a, oe) :: pn))) (T := "list") PySem.F.plainAttrs_list PySem.F.slot_list_index PySem.F.type_list_index (r := rIndex X.K) mt_index (su_var S S.n2 S.l2 (by decide) (by decide) p2) (pa_cons pe_bl pa_nil (plain_star rfl)) rfl (few1 rfl) hl (plain_star rfl) rfl) (su_to S S.n3 S.l3 p) (swapsSole_no rfl) (stores_no rfl) rfl, fun E σ H pp h2 h3 hk => ?_⟩
  refine ⟨_, h2, .inl ⟨rfl, _, .inl (.inl h3)⟩, pp, bL j 8, .bl true, j, _, rfl, rfl, .inl (.inl h3), rfl, bL_flat _ _, bL_get W.hj.2, ?_, fun m z hm hz => ?_, hk⟩
  · show (decide (j = j) == true) = true
    rw [decide_eq_true rfl] <;> rfl
  · have h8 := W.hj.2
    rw [bL_get (by omega)] at hz
    cases hz
    show (decide (m = j) == true) = false
    rw [decide_eq_false (by omega)] <;> rfl
def IsStr (x : Str) (e : Expr) : Prop := ∃ j p, e = .Constant (.str x) j p
def AreStr : List Str → List Expr → Prop
  | [], [] => True
  | x :: xs, e :: es => IsStr x e ∧ AreStr xs es
  | _, _ => False
theorem pa_strs {X : Cx} : ∀ {xs : List Str} {es : List Expr}, AreStr xs es → PA X es (fun _ H Q => Q (xs.map V.str) H) ∧ es.all plain = true
  | [], [], _ => ⟨pa_nil.imp fun σ H Q q => q, rfl⟩
  | x :: xs, e :: es, h => by
    obtain ⟨⟨j, p, rfl⟩, r⟩ := h
    obtain ⟨a, b⟩ := pa_strs (X := X) r
    exact ⟨(pa_cons pe_str a (plain_star rfl)).imp fun σ H Q q => q, by simp only [List.all_cons, b]; rfl⟩
  | [], _ :: _, h => h.elim
  | _ :: _, [], h => h.elim
def IsS6 (s : Stmt) : Prop := ∃ p p2 es q r u, s = .Assign [.Name whN p] (.Subscript (.List es q) (.Name atN p2) r) u ∧ AreStr wW es
theorem su_6 (S : SuN X sg ks kL) {s : Stmt} (h : IsS6 s) {w : Str} (hw : wW[j]? = some w) (hj : j < 8) :
    ∃ t, PS (Cx.suite X a ((a, oe) :: pn)) s t ∧ ∀ E σ H, σ[3]? = some (some (V.int (j : Int))) → (∀ p, H p = none → E.nx (σ.set 4 (some (.str w))) (upd H p (.lst (wW.map V.str)))) → t E σ H := by
  obtain ⟨p, p2, es, q, r, u, rfl, hes⟩ := h
  obtain ⟨a, b⟩ := pa_strs (X := (Cx.suite X a ((a, oe) :: pn))) hes
  refine ⟨_, ps_asg (pe_ix ix_seq (pe_lst a) (su_var S S.n3 S.l3 (by decide) (by decide) p2) (plain_ix rfl)) (su_to S S.n4 S.l4 p) (swapsSole_no rfl) (stores_no rfl) rfl, fun E σ H h3 hk => ?_⟩
  refine ⟨by decide, fun p4 hp4 => ⟨_, h3, .inl ⟨p4, wW.map V.str, (j : Int), .str w, rfl, rfl, .inl (.inl upd_same), ?_, hk p4 hp4⟩⟩⟩
  have e : ∀ j : Nat, j < 8 → atI (wW.map V.str) (j : Int) = (wW[j]?).map V.str := by
    intro j hj
    have : j = 0 ∨ j = 1 ∨ j = 2 ∨ j = 3 ∨ j = 4 ∨ j = 5 ∨ j = 6 ∨ j = 7 := by omega
    rcases this with rfl | rfl | rfl | rfl | rfl | rfl | rfl | rfl <;> rfl
  rw [e j hj, hw]
  rfl
def IsS7 (s : Stmt) : Prop := ∃ p j1 q1 q2 st r, s = .If (.Compare (.Name whN p) [.Eq] [.Constant (.str "text") j1 q1] q2) [st] [] r
theorem su_7 (S : SuN X sg ks kL) {s : Stmt} (h : IsS7 s) {w : Str} (hw : w ≠ "text") :
    ∃ t, PS (Cx.suite X a ((a, oe) :: pn)) s t ∧ ∀ E σ H, σ[4]? = some (some (V.str w)) → E.nx σ H → t E σ H := by
  obtain ⟨p, j1, q1, q2, st, r, rfl⟩ := h
  refine ⟨_, ps_if (pt_cmpR op_eq (su_var S S.n4 S.l4 (by decide) (by decide) p) pe_str rfl) (pss_one ps_never) pss_nil, fun E σ H h4 hk => ?_⟩
  refine ⟨_, h4, rfl, false, ?_, hk⟩
  rw [decide_eq_false]
  intro z
  cases z
  exact hw rfl
theorem pe_never {X : Cx} {e : Expr} : PE X e (fun _ _ _ => False) := ⟨fun _ _ _ _ _ _ h => h.elim⟩
def IsS8 (s : Stmt) : Prop := ∃ p j1 q1 q2 t0 p2 j2 q3 q4 t1 p3 j3 q5 q6 q7 r, s = .Return (some (.IfExp (.Compare (.Name atN p) [.Eq] [.Constant (.int 0) j1 q1] q2) t0 (.IfExp (.Compare (.Name atN p2) [.Eq] [.Constant (.int 1) j2 q3] q4) t1 (.Tuple [.Name whN p3] j3 q5) q6) q7)) r
theorem su_8 (S : SuN X sg ks kL) {s : Stmt} (h : IsS8 s) {w : Str} (hj : 2 ≤ j) :
    ∃ t, PS (Cx.suite X a ((a, oe) :: pn)) s t ∧ ∀ E σ H, σ[3]? = some (some (V.int (j : Int))) → σ[4]? = some (some (V.str w)) → (∀ p, H p = none → E.rt (.ref p) (upd H p (.tup [.str w]))) → t E σ H := by
  obtain ⟨p, j1, q1, q2, t0, p2, j2, q3, q4, t1, p3, j3, q5, q6, q7, r, rfl⟩ := h
  refine ⟨_, ps_ret (pe_ifExp (pt_cmpR op_eq (su_var S S.n3 S.l3 (by decide) (by decide) p) pe_int rfl) pe_never (pe_ifExp (pt_cmpR op_eq (su_var S S.n3 S.l3 (by decide) (by decide) p2) pe_int rfl) pe_never (pe_tup (pa_cons (su_var S S.n4 S.l4 (by decide) (by decide) p3) pa_nil (plain_star rfl))))), fun E σ H h3 h4 hk => ?_⟩
  refine ⟨_, h3, rfl, false, ?_, ?_⟩
  · rw [decide_eq_false]
    intro z
    have z2 : ((j : Nat) : Int) = 0 := V.int.inj z
    omega
  · refine ⟨_, h3, rfl, false, ?_, ?_⟩
    · rw [decide_eq_false]
      intro z
      have z2 : ((j : Nat) : Int) = 1 := V.int.inj z
      omega
    · exact ⟨_, h4, by show 1 ≤ sizeLine; decide, hk⟩
end

/-! ### the def that tells the word -/
def IsW (bg : List Stmt) : Prop := ∃ s1 s2 s3 s4 s5 s6 s7 s8 p1 p2 p3 p4 p5 p6 j7 p7 p8,
  bg = [.Try [.Expr (.Call (.Name "_law_work" p1) [] [] p2) p3] [.ExceptHandler (some (.Name "LiftError" p4)) (some eN) [s1, s2, s3, s4, s5, s6, s7, s8] p5] [] [] p6, .Return (some (.Constant .none j7 p7)) p8] ∧
  IsS1 s1 ∧ IsS2 s2 ∧ IsS3 s3 ∧ IsS4 s4 ∧ IsS5 s5 ∧ IsS6 s6 ∧ IsS7 s7 ∧ IsS8 s8
def wdN : List Str := ["_law_work", "e", "_law_kinds", "_law_at", "_law_word_here"]
/-- the word of a class -/
structure WdM (K : PySem.W.Frag) (M : Nm) (Γ : Ctx) (cs : List Nat) (ks : Nat → Addr) (kL : Addr) : Prop where
  c : ∀ c ∈ cs, ∃ j w, WdC K ks kL (M.cl c) j ∧ wW[j]? = some w ∧ Γ.wd ⟨c, .non⟩ = some (.tup [.str w])
structure SgO (sg : Scope) : Prop where
  hw : wG sg = true
  l0 : Vis sg "_law_work"
  l1 : sg.names.lookup eN = some .local
  l2 : sg.names.lookup kN = some .local
  l3 : sg.names.lookup atN = some .local
  l4 : sg.names.lookup whN = some .local
theorem word_ne {j : Nat} {w : Str} (h : wW[j]? = some w) (h3 : 3 ≤ j) : w ≠ "text" := by
  rintro rfl
  have hj : j < 8 := (List.getElem?_eq_some_iff.mp h).1
  have : j = 3 ∨ j = 4 ∨ j = 5 ∨ j = 6 ∨ j = 7 := by omega
  rcases this with rfl | rfl | rfl | rfl | rfl <;> (revert h; decide +kernel)
def tSu (K : PySem.W.Frag) (M : Nm) (Γ : Ctx) (cs : List Nat) (a : Addr) (cls : Value) (d : Option Addr) : TS := fun D σ H =>
  (∃ c, c ∈ cs ∧ cls = .ref (M.cl c) ∧ d = none ∧ ∃ F es vs dw, Sta K M F H es vs ∧ Γ.wd ⟨c, .non⟩ = some dw ∧ ∀ v F' H', Same F F' → Rep K M F' dw v → Sta K M F' H' es vs → D.rt v H') ∧ ∃ σ0 : L2.St, σ = σ0.set 1 (some (.ref a))
theorem set_get {α : Type} {l : List α} {i j : Nat} {x : α} {y : Option α} (h : i ≠ j) (e : l[j]? = y) : (l.set i x)[j]? = y := by
  rw [List.getElem?_set_ne h]
  exact e
theorem su_all {X : Cx} {M : Nm} {Γ : Ctx} {cs : List Nat} {ks : Nat → Addr} {kL : Addr} {sg : Scope} (S : SuN X sg ks kL) (hN : X.N = wdN) (W : WdM X.K M Γ cs ks kL) {s1 s2 s3 s4 s5 s6 s7 s8 : Stmt} (h1 : IsS1 s1) (h2 : IsS2 s2) (h3 : IsS3 s3) (h4 : IsS4 s4) (h5 : IsS5 s5) (h6 : IsS6 s6) (h7 : IsS7 s7) (h8 : IsS8 s8)
    (a : Addr) (oe : Obj) (cls : Value) (d : Option Addr) (pn : List (Addr × Obj)) (hz : Zc cls d oe) (hf : ∃ vs, oe.data = .fields vs) : PSs (Cx.suite X a ((a, oe) :: pn)) [s1, s2, s3, s4, s5, s6, s7, s8] (tSu X.K M Γ cs a cls d) := by
  refine ⟨fun pins s σ H E I h => ?_⟩
  obtain ⟨⟨c, hc, rfl, rfl, F, es, vs, dw, st, hd, k⟩, σ0, rfl⟩ := h
  obtain ⟨j, w, C, hw, hw2⟩ := W.c c hc
  rw [hw2] at hd
  cases hd
  have len : (σ0.set 1 (some (V.ref a))).length = 5 := by
    have := I.len
    rw [this]
    show X.N.length = 5
    rw [hN]
    rfl
  obtain ⟨t1, p1, r1⟩ := su_1 (a := a) (oe := oe) (pn := pn) S C hz hf h1
  obtain ⟨t2, p2, r2⟩ := su_2 (a := a) (oe := oe) (pn := pn) S C hz hf h2
  obtain ⟨t3, p3, r3⟩ := su_3 (a := a) (oe := oe) (pn := pn) S C hz hf h3
  obtain ⟨t4, p4, r4⟩ := su_4 (a := a) (oe := oe) (pn := pn) S C hz hf h4
  obtain ⟨t5, p5, r5⟩ := su_5 (a := a) (oe := oe) (pn := pn) S C h5
  obtain ⟨t6, p6, r6⟩ := su_6 (a := a) (oe := oe) (pn := pn) S h6 hw C.hj.2
  obtain ⟨t7, p7, r7⟩ := su_7 (a := a) (oe := oe) (pn := pn) S h7 (word_ne hw C.hj.1)
  obtain ⟨t8, p8, r8⟩ := su_8 (a := a) (oe := oe) (pn := pn) S h8 (w := w) (j := j) (by have := C.hj.1; omega)
  refine (pss_cons p1 (pss_cons p2 (pss_cons p3 (pss_cons p4 (pss_cons p5 (pss_cons p6 (pss_cons p7 (pss_one p8)))))))).run pins s _ H E I ?_
  generalize hσ : σ0.set 1 (some (V.ref a)) = σ at *
  have g1 : σ[1]? = some (some (V.ref a)) := by
    rw [← hσ, List.getElem?_set_self]
    rw [← hσ, List.length_set] at len
    omega
  refine r1 _ _ _ g1 fun q hq => ?_
  have st1 := st.new (ob := .lst (bL j 4)) hq
  have len2 : (σ.set 2 (some (V.ref q))).length = 5 := by rw [List.length_set, len]
  refine r2 _ _ _ q (set_get (by omega) g1) (by rw [List.getElem?_set_self]; omega) upd_same fun q2 q3 hq2 hq3 => ?_
  rw [List.set_set]
  have st2 := st1.new (ob := .lst [.bl (decide (4 = j)), .bl (decide (5 = j)), .bl (decide (6 = j))]) hq2
  have bR : ∀ n F, Reps X.K M F ((List.range n).map fun i => D.bl (decide (i = j))) (bL j n) := by
    intro n F
    unfold bL
    induction (List.range n) with
    | nil => exact .nil
    | cons x r ih => exact .cons (.bl _) ih
  have bl : ∀ n, n ≤ 8 → (bL j n).length ≤ LIM := by
    intro n hn
    unfold bL LIM
    rw [List.length_map, List.length_range]
    omega
  have st3 := st2.newL hq3 (bR 7 _) (bl 7 (by omega))
  refine r3 _ _ _ q3 (set_get (by omega) g1) (by rw [List.getElem?_set_self]; omega) upd_same ?_
  have st4 := (st3.mut (bR 8 _) (bl 8 (by omega))).drop
  refine r4 _ _ _ q3 (set_get (by omega) g1) (by rw [List.getElem?_set_self]; omega) upd_same ?_
  refine r5 _ _ _ q3 (by rw [List.getElem?_set_self]; omega) upd_same ?_
  have len3 : ((σ.set 2 (some (V.ref q3))).set 3 (some (V.int (j : Int)))).length = 5 := by rw [List.length_set, List.length_set, len]
  refine r6 _ _ _ (by rw [List.getElem?_set_self]; rw [List.length_set]; omega) fun q4 hq4 => ?_
  have st5 := st4.new (ob := .lst (wW.map V.str)) hq4
  have g4 : (((σ.set 2 (some (V.ref q3))).set 3 (some (V.int (j : Int)))).set 4 (some (V.str w)))[4]? = some (some (V.str w)) := by
    rw [List.getElem?_set_self]
    omega
  refine r7 _ _ _ g4 ?_
  refine r8 _ _ _ (set_get (by omega) (by rw [List.getElem?_set_self]; rw [List.length_set]; omega)) g4 fun q5 hq5 => ?_
  have st6 := st5.new (ob := .tup [.str w]) hq5
  refine k (.ref q5) _ _ ?_ (.tup (.inl (.inl upd_same)) (by show 1 ≤ LIM; decide) (.cons (.str w) .nil)) st6
  exact ((same_new (st.free hq)).trans (same_new (st1.free hq2))).trans ((same_new (st4.free hq4)).trans (same_new (st5.free hq5)))
theorem word_gives {X : Cx} {M : Nm} {Γ : Ctx} {cs : List Nat} {ks : Nat → Addr} {kL : Addr} {sg : Scope} {x q : Str} {g : Addr} {cdg : Value} {bg : List Stmt} (G : WdG X.mg ks kL) (Sg : SgO sg) (W : WdM X.K M Γ cs ks kL) (h : IsW bg) :
    LamX.GivesTo X wdN x sg g cdg bg "_law_work" q (TTw X.K M Γ cs) := by
  obtain ⟨s1, s2, s3, s4, s5, s6, s7, s8, p1, p2, p3, p4, p5, p6, j7, p7, p8, rfl, h1, h2, h3, h4, h5, h6, h7, h8⟩ := h
  intro f c' s H Q tl act hc h
  let Z : Cx := (cxOf C8.CX0 X.prog X.w X.K X.mg X.base wdN x sg g cdg X.A X.stack s H C8.E0).nox
  have S : SuN Z sg ks kL := ⟨G, rfl, Sg.hw, by show wdN.Nodup; decide, rfl, rfl, rfl, rfl, Sg.l1, Sg.l2, Sg.l3, Sg.l4⟩
  have hL : Gl Z "LiftError" := g_of_w (X := Z) rfl Sg.hw (by decide +kernel)
  refine ⟨_, pss_cons (ps_try_as (X := Z) (i := 1) (n := eN) (c := .ref kL) (Wout := fun _ _ _ _ => False)
      (tb := fun W D σ H => ∃ Ech : XK, (∀ cls d σ' H', Ech cls d H' → W cls d σ' H') ∧ σ[0]? = some (some (.ref f)) ∧ H c' = some (LamX.CodeO c' q) ∧ tl Ech H fun _ H' => D.nx σ H')
      (ts := fun a cls d => tSu X.K M Γ cs a cls d)
      rfl rfl (by show wdN.Nodup; decide) rfl Sg.l1 ⟨hL, by decide, .inl G.mL⟩ L2.takes0 (fun W pn xe tk _ => ?_) (fun a oe cls d pn hz hf => su_all S rfl W h1 h2 h3 h4 h5 h6 h7 h8 a oe cls d pn hz hf)) (pss_one (ps_ret pe_non)), ?_⟩
  · refine ⟨fun pins s' σ H' D I h' => ?_⟩
    obtain ⟨Ech, hW, g1, g2, g3⟩ := h'
    have hp := act W pn xe Ech p1 p2 tk hW
    exact (pss_one (ps_expr (pos := p3) hp (by rfl))).run pins s' σ H' D I ⟨g1, g2, g3⟩
  · refine ⟨EW X.K M Γ cs Q, fun cls d σ' H' hE => ?_, rfl, hc, h⟩
    obtain ⟨c, hc', rfl, rfl, F, es, vs, dw, st, hd, k⟩ := hE
    obtain ⟨j, w, C, hw, hw2⟩ := W.c c hc'
    exact ⟨true, C.ex, fun _ a _ => ⟨⟨c, hc', rfl, rfl, F, es, vs, dw, st, hd, k⟩, σ', rfl⟩, fun z => nomatch z⟩

section
variable {X : Cx} {M : Nm} {T : Ns} {L : Lk} {Γ : Ctx} {call : Nat → List (D × Bool) → CRes} {N : List Str} {sc so : Scope} {k : Nat} {W : WX}
theorem xc_lam (C : XC X M T L Γ call N sc so k W) {scope : Scope} (Lm : LamX.LamS X.env.scope scope) (hn : lamB T scope = false) {A : Around} {outer : List Env} {s : Shared} {H : Hp} {E : XK} {f c' : Addr} (hr : Room (k + 1) (A.deeper (LamX.lamEnv X scope s.heap.objs.size f c'))) :
    XC (LamX.lamCx X A outer s H E scope f c') M T L Γ call N scope scope k (fun cls d _ H => E cls d H) where
  hN := C.hN
  nd := C.nd
  scp := rfl
  kind := Lm.kind
  sto := fun x hx => by
    unfold stoB at hx
    split at hx
    · rename_i e
      exact absurd rfl (Lm.own _ (PySem.mem_of_lookup e)).1
    · rename_i e
      exact absurd rfl (Lm.own _ (PySem.mem_of_lookup e)).2
    · cases hx
  calm := rfl
  own := passes_of rfl
  tk := takes_of rfl rfl rfl rfl
  room := hr
  top := C.top
  ar := C.ar
  fns := C.fns
  lam := fun z => by
    rw [hn] at z
    cases z
/-- _law_word(lambda: ..) -/
theorem s_wrd (C : XC X M T L Γ call N sc so k W) {e : E} {w : Str} {body : Expr} {scope : Scope} {p lpos pos : Pos} (hw : w = "_law_word") (hg : glB sc w = true) (hl : lamB T sc = true) (hs : LamX.lamSB sc scope = true) (hn : lamB T scope = false)
    (he : ∀ X' W', XC X' M T L Γ call N scope scope k W' → X'.K = X.K → PE X' body (TEv X'.K M Γ call W' e)) :
    PE X (.Call (.Name w p) [.Lambda ⟨[], [], none, [], [], none, []⟩ body scope lpos] [] pos) ((TEv X.K M Γ call W) (.wrd e)) := by
  subst hw
  obtain ⟨⟨g, c, P, pg, bg, sg, dV, kV, doc, pm, cdv, ct, oc, an, od, osl, Ng, f1, f2, f3, f4, f5, f6, f7, f8, f9, f10, f11, f12, f13⟩, room⟩ := C.lam hl
  have Lm : LamX.LamS X.env.scope scope := LamX.lamS_by (by rw [C.scp]; exact hs)
  have ht : M.tb ≠ [] := fun z => by
    rw [z] at f12
    cases f12
  refine (LamX.pe_lamcall (X := X) (T := M.tb) (k := k + 1) (t := fun E => TEv X.K M Γ call (fun cls d _ H => E cls d H) e) (gl_of (by rw [C.scp]; exact hg)) f1 f2 f3 f4 f5 f6 f7 f8 f9 f10 f11 f12 f13 room Lm rfl (fun _ _ _ _ _ => rfl) (fun A outer s H E f c' hr => he _ _ (xc_lam C Lm hn hr) rfl) (by decide) (by decide) (by decide)).imp fun σ H Q h => ?_
  obtain ⟨F, ext, xv, env, st, hl', post⟩ := h
  simp only [ev] at post
  refine ⟨(st.sm.tb ht).1, fun H1 eN hT => ?_⟩
  have st1 := st.lam eN hT ht
  show TEv X.K M Γ call (fun cls d _ H => EW X.K M Γ T.xs Q cls d H) e σ H1 fun _ H' => Q .non H'
  refine ⟨F, ext, xv, env, st1, hl', ?_⟩
  revert post
  cases ev Γ call e env with
  | ok r e1 => exact fun post v F' H' s st' => post .non F' H' s (st'.drop.push .non)
  | err => exact fun post => post.elim
  | exc x e1 =>
    intro post
    obtain ⟨a, ha, post2⟩ := post_lift post
    cases hd : Γ.wd x with
    | none =>
      rw [hd] at ha
      cases ha
    | some dw =>
      rw [hd] at ha
      cases ha
      intro cls d F' H' s rx st'
      obtain ⟨xc, xv'⟩ := x
      obtain ⟨rx1, rx2⟩ := rx
      have hm := C.top.wdx xc xv' dw hd
      obtain ⟨hm1, hm2⟩ := hm
      simp only at rx1 rx2
      subst hm2
      rcases rx2 with ⟨_, rfl⟩ | ⟨dd, fs, v, ne, _⟩
      · exact ⟨xc, hm1, rx1, rfl, F', _, _, dw, st', hd, fun v F2 H2 s2 r2 st2 => post2 v F2 H2 (s.trans s2) (st2.push r2)⟩
      · exact (ne rfl).elim
end

theorem kit_ne {K : PySem.W.Frag} {D C : Addr} {b : Bool} (h1 : PySem.W.isClsIn K C = true) (h2 : PySem.W.typeIn K (.ref C) = some (.type "type")) (h3 : PySem.W.subIn K (.ref D) (.ref C) = some b) (hb : D = C → b = true) : PySem.W.kitOne K (.ref D) (.ref C) = some b := by
  unfold PySem.W.kitOne
  split
  · rename_i e
    have e : D = C := Value.ref.inj (beq_iff_eq.mp e)
    rw [hb e]
  · show (if ((PySem.W.clsIn K C).isSome && PySem.W.typeIn K (.ref C) == some (.type "type")) = true then PySem.W.subIn K (.ref D) (.ref C) else none) = some b
    rw [if_pos, h3]
    have h1 : (PySem.W.clsIn K C).isSome = true := h1
    rw [h1, h2] <;> rfl
theorem exm_ne {K : PySem.W.Frag} {D C : Addr} {b : Bool} (h0 : PySem.W.subIn K (.ref C) (.type "BaseException") = some true) (h1 : PySem.W.isClsIn K C = true) (h2 : PySem.W.typeIn K (.ref C) = some (.type "type")) (h3 : PySem.W.subIn K (.ref D) (.ref C) = some b) : PySem.W.exmOne K (.ref D) (.ref C) = some b := by
  unfold PySem.W.exmOne
  rw [h0]
  show (if ((PySem.W.clsIn K C).isSome && PySem.W.typeIn K (.ref C) == some (.type "type")) = true then PySem.W.subIn K (.ref D) (.ref C) else none) = some b
  rw [if_pos, h3]
  have h1 : (PySem.W.clsIn K C).isSome = true := h1
  rw [h1, h2] <;> rfl
theorem kit_VE {K : PySem.W.Frag} {D : Addr} {b : Bool} (h3 : PySem.W.subIn K (.ref D) (.type "ValueError") = some b) : PySem.W.kitOne K (.ref D) (.type "ValueError") = some b := by
  unfold PySem.W.kitOne
  split
  · rename_i e
    cases beq_iff_eq.mp e
  · show (if PySem.W.kitMeta "ValueError" = true then PySem.W.subIn K (.ref D) (.type "ValueError") else none) = some b
    rw [if_pos (by decide +kernel), h3]
/-- eight things by their places -/
def at8 {α : Type} (a0 a1 a2 a3 a4 a5 a6 a7 : α) : Nat → α
  | 0 => a0 | 1 => a1 | 2 => a2 | 3 => a3 | 4 => a4 | 5 => a5 | 6 => a6 | _ => a7
theorem lt8 {p : Nat → Prop} (h0 : p 0) (h1 : p 1) (h2 : p 2) (h3 : p 3) (h4 : p 4) (h5 : p 5) (h6 : p 6) (h7 : p 7) : ∀ i, i < 8 → p i := by
  intro i hi
  have : i = 0 ∨ i = 1 ∨ i = 2 ∨ i = 3 ∨ i = 4 ∨ i = 5 ∨ i = 6 ∨ i = 7 := by omega
  rcases this with rfl | rfl | rfl | rfl | rfl | rfl | rfl | rfl <;> assumption
end PL
/-! PLMain: every matched text keeps its reckoning. -/
set_option maxHeartbeats 2000000
namespace PL
open PySem PySem.Spec PyProof.Rows L2

theorem plainT_of {e : Expr} {env : PySem.Env} (h : plainT e = true) : ∀ whole, isTrue e env whole = (do let v ← whole; standAt e.pos; holding [v] (truthy v)) := by
  intro w
  cases e <;> first | rfl | (simp [plainT] at h; done)
section
variable {X : Cx} {M : Nm} {T : Ns} {L : Lk} {Γ : Ctx} {call : Nat → List (D × Bool) → CRes} {N : List Str} {sc so : Scope} {k : Nat} {W : WX} {io : Bool} {v0 : Option V}

/-- what holds of a matched expression -/
structure Sx (X : Cx) (M : Nm) (Γ : Ctx) (call : Nat → List (D × Bool) → CRes) (W : WX) (e : E) (pe : Expr) : Prop where
  v : PE X pe (TEv X.K M Γ call W e)
  t : plainT pe = true ∨ (∃ a b c d, pe = .Compare a b c d) ∨ (∃ a b c, pe = .BoolOp a b c) ∨ (∃ a b, pe = .UnaryOp .Not a b) → PT X pe (TTt X.K M Γ call e)
  w : (∃ a b c, pe = .BoolOp a b c) → PW X pe (TTt X.K M Γ call e)
theorem sx_plain {e : E} {pe : Expr} (h : PE X pe ((TEv X.K M Γ call W) e)) (hp : plainT pe = true) : Sx X M Γ call W e pe :=
  ⟨h, fun _ => t_val h (plainT_of hp), fun ⟨a, b, c, e⟩ => by rw [e] at hp; simp [plainT] at hp⟩
theorem sx_other {e : E} {pe : Expr} (h : PE X pe ((TEv X.K M Γ call W) e)) (hp : plainT pe = false) (h1 : ∀ a b c d, pe ≠ .Compare a b c d) (h2 : ∀ a b c, pe ≠ .BoolOp a b c) (h3 : ∀ a b, pe ≠ .UnaryOp .Not a b) : Sx X M Γ call W e pe :=
  ⟨h, fun z => by
    rcases z with z | ⟨a, b, c, d, z⟩ | ⟨a, b, c, z⟩ | ⟨a, b, z⟩
    · rw [hp] at z
      cases z
    · exact (h1 _ _ _ _ z).elim
    · exact (h2 _ _ _ z).elim
    · exact (h3 _ _ z).elim, fun ⟨a, b, c, z⟩ => (h2 _ _ _ z).elim⟩
theorem tOk_of {pe : Expr} (h : tOk pe = true) : plainT pe = true ∨ (∃ a b c d, pe = .Compare a b c d) ∨ (∃ a b c, pe = .BoolOp a b c) ∨ (∃ a b, pe = .UnaryOp .Not a b) := by
  unfold tOk at h
  rw [Bool.or_eq_true] at h
  rcases h with h | h
  · exact .inl h
  · split at h <;> first | cases h | skip
    · exact .inr (.inl ⟨_, _, _, _, rfl⟩)
    · exact .inr (.inr (.inl ⟨_, _, _, rfl⟩))
    · exact .inr (.inr (.inr ⟨_, _, rfl⟩))

theorem mTy_one {sc : Scope} : ∀ {ts : List Ty} {y : Expr}, mTy sc ts [y] = true → ∃ t x p, ts = [t] ∧ y = .Name x p ∧ x = tyN t ∧ glB sc x = true
  | [], y, h => by simp [mTy] at h
  | [t], y, h => by
    cases y with
    | Name x p =>
      simp only [mTy, Bool.and_eq_true] at h
      exact ⟨t, x, p, rfl, rfl, of_decide_eq_true h.1.1, h.1.2⟩
    | _ => simp [mTy] at h
  | _ :: _ :: _, y, h => by
    cases y with
    | Name x p => simp [mTy] at h
    | _ => simp [mTy] at h
theorem mEs_nil {sc : Scope} {es : Es} {xs : List Expr} (h : mEs T N sc es xs = true) : xs = [] ↔ es = .nil := by
  cases es <;> cases xs <;> simp_all [mEs]
mutual
theorem snd_E : ∀ (e : E) (pe : Expr) (X : Cx) (sc so : Scope) (W : WX), XC X M T L Γ call N sc so k W → mE T N sc e pe = true → Sx X M Γ call W e pe
  | .var i, pe, X, sc, so, W, C, h => by
    simp only [mE, Bool.and_eq_true] at h
    obtain ⟨_, h⟩ := h
    cases pe <;> simp only [Bool.false_eq_true] at h
    simp only [Bool.and_eq_true] at h
    exact sx_plain (s_var C (of_decide_eq_true h.1.1) h.1.2 h.2) rfl
  | .cst d, pe, X, sc, so, W, C, h => by
    simp only [mE, Bool.and_eq_true] at h
    obtain ⟨_, h⟩ := h
    cases pe <;> simp only [Bool.false_eq_true] at h
    exact sx_other (s_cst h) rfl (fun _ _ _ _ z => nomatch z) (fun _ _ _ z => nomatch z) fun _ _ z => nomatch z
  | .glb g, pe, X, sc, so, W, C, h => by
    simp only [mE, Bool.and_eq_true] at h
    obtain ⟨_, h⟩ := h
    cases pe <;> simp only [Bool.false_eq_true] at h
    simp only [Bool.and_eq_true] at h
    obtain ⟨⟨⟨h1, h2⟩, h3⟩, h4⟩ := h
    obtain rfl := of_decide_eq_true h1
    exact sx_plain (s_glb C h2 h3 (by simpa using h4)) rfl
  | .bin op a b, pe, X, sc, so, W, C, h => by
    simp only [mE, Bool.and_eq_true] at h
    obtain ⟨_, h⟩ := h
    cases pe <;> simp only [Bool.false_eq_true] at h
    simp only [Bool.and_eq_true] at h
    obtain ⟨⟨h1, h2⟩, h3⟩ := h
    obtain rfl := of_decide_eq_true h1
    exact sx_other (s_bin C (snd_E a _ X sc so W C h2).v (snd_E b _ X sc so W C h3).v) rfl (fun _ _ _ _ z => nomatch z) (fun _ _ _ z => nomatch z) fun _ _ z => nomatch z
  | .neg a, pe, X, sc, so, W, C, h => by
    simp only [mE, Bool.and_eq_true] at h
    obtain ⟨_, h⟩ := h
    split at h <;> first | cases h | skip
    exact sx_other (s_neg C (snd_E a _ X sc so W C h).v) rfl (fun _ _ _ _ z => nomatch z) (fun _ _ _ z => nomatch z) fun _ _ z => nomatch z
  | .cmp op a b, pe, X, sc, so, W, C, h => by
    simp only [mE, Bool.and_eq_true] at h
    obtain ⟨_, h⟩ := h
    split at h <;> first | cases h | skip
    simp only [Bool.and_eq_true] at h
    obtain ⟨⟨h1, h2⟩, h3⟩ := h
    obtain rfl := of_decide_eq_true h1
    have A := (snd_E a _ X sc so W C h2).v
    have B := (snd_E b _ X sc so W C h3).v
    exact ⟨s_cmp C A B (mE_plain T N h3), fun _ => t_cmp C A B (mE_plain T N h3), fun ⟨_, _, _, z⟩ => nomatch z⟩
  | .cmpv op v b, pe, X, sc, so, W, C, h => by
    simp only [mE, Bool.and_eq_true] at h
    obtain ⟨_, h⟩ := h
    split at h <;> first | cases h | skip
    simp only [Bool.and_eq_true] at h
    obtain ⟨⟨⟨⟨h1, h2⟩, h3⟩, h4⟩, h5⟩ := h
    obtain rfl := of_decide_eq_true h1
    have B := (snd_E b _ X sc so W C h5).v
    exact ⟨s_cmpv C (of_decide_eq_true h2) h3 h4 B (mE_plain T N h5), fun _ => t_cmpv C (of_decide_eq_true h2) h3 h4 B (mE_plain T N h5), fun ⟨_, _, _, z⟩ => nomatch z⟩
  | .chn o p a b c, pe, X, sc, so, W, C, h => by
    simp only [mE, Bool.and_eq_true] at h
    obtain ⟨_, h⟩ := h
    split at h <;> first | cases h | skip
    simp only [Bool.and_eq_true] at h
    obtain ⟨⟨⟨⟨h1, h2⟩, h3⟩, h4⟩, h5⟩ := h
    obtain rfl := of_decide_eq_true h1
    obtain rfl := of_decide_eq_true h2
    have A := (snd_E a _ X sc so W C h3).v
    have B := (snd_E b _ X sc so W C h4).v
    have D := (snd_E c _ X sc so W C h5).v
    exact ⟨s_chn C A B D (mE_plain T N h5), fun _ => t_chn C A B D (mE_plain T N h5), fun ⟨_, _, _, z⟩ => nomatch z⟩
  | .din neg a b, pe, X, sc, so, W, C, h => by simp [mE] at h
  | .and a b, pe, X, sc, so, W, C, h => by
    simp only [mE, Bool.and_eq_true] at h
    obtain ⟨_, h⟩ := h
    split at h <;> first | cases h | skip
    · simp only [Bool.and_eq_true] at h
      have A := snd_E a _ X sc so W C h.1.1
      have B := snd_E b _ X sc so W C h.1.2
      rename_i x y pos _
      have W : PW X (.BoolOp .And [x, y] pos) (TTt X.K M Γ call (.and a b)) := (pw_and (A.t (tOk_of h.2.1)) (pw_and1 (B.t (tOk_of h.2.2)))).imp fun σ H Q q => andT_in q
      exact ⟨(pe_and A.v (pe_one B.v)).imp fun σ H Q q => and_in q, fun _ => W.pt, fun _ => W⟩
    · simp only [Bool.and_eq_true] at h
      have A := snd_E a _ X sc so W C h.1.1
      have B := snd_E b _ X sc so W C h.1.2
      have W := (pw_and (A.t (tOk_of h.2)) (B.w ⟨_, _, _, rfl⟩)).imp fun σ H Q q => andT_in q
      exact ⟨(pe_and A.v B.v).imp fun σ H Q q => and_in q, fun _ => W.pt, fun _ => W⟩
  | .or a b, pe, X, sc, so, W, C, h => by
    simp only [mE, Bool.and_eq_true] at h
    obtain ⟨_, h⟩ := h
    split at h <;> first | cases h | skip
    · simp only [Bool.and_eq_true] at h
      have A := snd_E a _ X sc so W C h.1.1
      have B := snd_E b _ X sc so W C h.1.2
      rename_i x y pos _
      have W : PW X (.BoolOp .Or [x, y] pos) (TTt X.K M Γ call (.or a b)) := (pw_or (A.t (tOk_of h.2.1)) (pw_or1 (B.t (tOk_of h.2.2)))).imp fun σ H Q q => orT_in q
      exact ⟨(pe_or A.v (pe_one B.v)).imp fun σ H Q q => or_in q, fun _ => W.pt, fun _ => W⟩
    · simp only [Bool.and_eq_true] at h
      have A := snd_E a _ X sc so W C h.1.1
      have B := snd_E b _ X sc so W C h.1.2
      have W := (pw_or (A.t (tOk_of h.2)) (B.w ⟨_, _, _, rfl⟩)).imp fun σ H Q q => orT_in q
      exact ⟨(pe_or A.v B.v).imp fun σ H Q q => or_in q, fun _ => W.pt, fun _ => W⟩
  | .not a, pe, X, sc, so, W, C, h => by
    simp only [mE, Bool.and_eq_true] at h
    obtain ⟨_, h⟩ := h
    split at h <;> first | cases h | skip
    simp only [Bool.and_eq_true] at h
    have A := snd_E a _ X sc so W C h.1
    exact ⟨(pe_not A.v).imp fun σ H Q q => not_in q, fun _ => (pt_not (A.t (tOk_of h.2))).imp fun σ H Q q => notT_in q, fun ⟨_, _, _, z⟩ => nomatch z⟩
  | .ifx c a b, pe, X, sc, so, W, C, h => by
    simp only [mE, Bool.and_eq_true] at h
    obtain ⟨_, h⟩ := h
    split at h <;> first | cases h | skip
    simp only [Bool.and_eq_true] at h
    obtain ⟨⟨⟨h1, h2⟩, h3⟩, h4⟩ := h
    exact sx_other ((pe_ifExp ((snd_E c _ X sc so W C h1).t (tOk_of h4)) (snd_E a _ X sc so W C h2).v (snd_E b _ X sc so W C h3).v).imp fun σ H Q q => ifx_in q) rfl (fun _ _ _ _ z => nomatch z) (fun _ _ _ z => nomatch z) fun _ _ z => nomatch z
  | .tup es, pe, X, sc, so, W, C, h => by
    simp only [mE, Bool.and_eq_true] at h
    obtain ⟨_, h⟩ := h
    split at h <;> first | cases h | skip
    exact sx_other (s_tup (snd_Es es _ X sc so W C h).1) rfl (fun _ _ _ _ z => nomatch z) (fun _ _ _ z => nomatch z) fun _ _ z => nomatch z
  | .lst es, pe, X, sc, so, W, C, h => by
    simp only [mE, Bool.and_eq_true] at h
    obtain ⟨_, h⟩ := h
    split at h <;> first | cases h | skip
    exact sx_other (s_lst (snd_Es es _ X sc so W C h).1) rfl (fun _ _ _ _ z => nomatch z) (fun _ _ _ z => nomatch z) fun _ _ z => nomatch z
  | .idx a i, pe, X, sc, so, W, C, h => by
    simp only [mE, Bool.and_eq_true] at h
    obtain ⟨_, h⟩ := h
    split at h <;> first | cases h | skip
    simp only [Bool.and_eq_true] at h
    exact sx_plain (s_idx (snd_E a _ X sc so W C h.1).v (snd_E i _ X sc so W C h.2).v (mE_plain T N h.2)) rfl
  | .idxv v i, pe, X, sc, so, W, C, h => by
    simp only [mE, Bool.and_eq_true] at h
    obtain ⟨_, h⟩ := h
    split at h <;> first | cases h | skip
    simp only [Bool.and_eq_true] at h
    obtain ⟨⟨⟨h2, h3⟩, h4⟩, h5⟩ := h
    exact sx_plain (s_idxv C (of_decide_eq_true h2) h3 h4 (snd_E i _ X sc so W C h5).v (mE_plain T N h5)) rfl
  | .slc a lo hi, pe, X, sc, so, W, C, h => by
    simp only [mE, Bool.and_eq_true] at h
    obtain ⟨_, h⟩ := h
    split at h <;> first | cases h | skip
    simp only [Bool.and_eq_true] at h
    exact sx_plain (s_slc (snd_E a _ X sc so W C h.1.1).v (snd_O lo _ X sc so W C h.1.2) (snd_O hi _ X sc so W C h.2)) rfl
  | .atr p f, pe, X, sc, so, W, C, h => by
    simp only [mE, Bool.and_eq_true] at h
    obtain ⟨_, h⟩ := h
    split at h <;> first | cases h | skip
    simp only [Bool.and_eq_true] at h
    obtain ⟨h1, h2⟩ := h
    obtain rfl := of_decide_eq_true h1
    exact sx_plain (s_atr C h2) rfl
  | .isI a ts, pe, X, sc, so, W, C, h => by
    simp only [mE, Bool.and_eq_true] at h
    obtain ⟨_, h⟩ := h
    split at h <;> first | cases h | skip
    · simp only [Bool.and_eq_true] at h
      obtain ⟨⟨⟨⟨h1, h2⟩, h3⟩, h4⟩, h5⟩ := h
      obtain rfl := of_decide_eq_true h1
      exact sx_plain (s_isiT C h2 (snd_E a _ X sc so W C h3).v (mE_plain T N h3) h4 (of_decide_eq_true h5)) rfl
    · simp only [Bool.and_eq_true] at h
      obtain ⟨⟨⟨h1, h2⟩, h3⟩, h4⟩ := h
      obtain rfl := of_decide_eq_true h1
      obtain ⟨t, z, p, rfl, rfl, h5, h6⟩ := mTy_one h4
      exact sx_plain (s_isi1 C h2 (snd_E a _ X sc so W C h3).v (mE_plain T N h3) h5 h6) rfl
  | .bi b es, pe, X, sc, so, W, C, h => by
    simp only [mE, Bool.and_eq_true] at h
    obtain ⟨_, h⟩ := h
    split at h <;> first | cases h | skip
    simp only [Bool.and_eq_true] at h
    obtain ⟨⟨⟨h1, h2⟩, h3⟩, h4⟩ := h
    obtain rfl := of_decide_eq_true h1
    obtain ⟨A, B⟩ := snd_Es es _ X sc so W C h4
    exact sx_plain (s_bi C h2 h3 A B) rfl
  | .lenp p, pe, X, sc, so, W, C, h => by simp [mE] at h
  | .bm m o a, pe, X, sc, so, W, C, h => by
    simp only [mE, Bool.and_eq_true] at h
    obtain ⟨_, h⟩ := h
    split at h <;> first | cases h | skip
    simp only [Bool.and_eq_true] at h
    obtain ⟨⟨⟨⟨⟨h1, h2⟩, h3⟩, h4⟩, h5⟩, h6⟩ := h
    obtain rfl := of_decide_eq_true h1
    exact sx_plain (s_bm h2 h3 h4 (snd_E o _ X sc so W C h5).v (snd_E a _ X sc so W C h6).v (mE_plain T N h6)) rfl
  | .fn f es, pe, X, sc, so, W, C, h => by
    simp only [mE, Bool.and_eq_true] at h
    obtain ⟨_, h⟩ := h
    split at h <;> first | cases h | skip
    simp only [Bool.and_eq_true] at h
    obtain ⟨⟨⟨⟨⟨h1, h2⟩, h3⟩, h4⟩, h4d⟩, h5⟩ := h
    obtain rfl := of_decide_eq_true h1
    obtain ⟨A, B⟩ := snd_Es es _ X sc so W C h5
    refine sx_plain (s_fn C h2 h3 (by simpa using h4) (by simpa using h4d) A B fun e => ?_) rfl
    subst e
    cases es with
    | nil => rfl
    | cons _ _ => simp [mEs] at h5
  | .fnv f v es, pe, X, sc, so, W, C, h => by
    simp only [mE, Bool.and_eq_true] at h
    obtain ⟨_, h⟩ := h
    split at h <;> first | cases h | skip
    simp only [Bool.and_eq_true] at h
    obtain ⟨⟨⟨⟨⟨⟨⟨⟨h1, h2⟩, h3⟩, h4⟩, h4d⟩, h5⟩, h6⟩, h7⟩, h8⟩ := h
    obtain rfl := of_decide_eq_true h1
    obtain ⟨A, B⟩ := snd_Es es _ X sc so W C h8
    exact sx_plain (s_fnv C h2 h3 (by simpa using h4) (by simpa using h4d) (of_decide_eq_true h5) h6 h7 A B) rfl
  | .fnb f v es, pe, X, sc, so, W, C, h => by
    simp only [mE, Bool.and_eq_true] at h
    obtain ⟨_, h⟩ := h
    split at h <;> first | cases h | skip
    simp only [Bool.and_eq_true] at h
    obtain ⟨⟨⟨⟨⟨⟨⟨⟨h1, h2⟩, h3⟩, h4⟩, h4d⟩, h5⟩, h6⟩, h7⟩, h8⟩ := h
    obtain rfl := of_decide_eq_true h1
    obtain ⟨A, B⟩ := snd_Es es _ X sc so W C h8
    exact sx_plain (s_fnb C h2 h3 (by simpa using h4) (by simpa using h4d) (of_decide_eq_true h5) h6 h7 A B) rfl
  | .mtb i m es, pe, X, sc, so, W, C, h => by
    simp only [mE, Bool.and_eq_true] at h
    obtain ⟨_, h⟩ := h
    split at h <;> first | cases h | skip
    simp only [Bool.and_eq_true, mthOk] at h
    obtain ⟨⟨⟨⟨⟨h1, h2⟩, h3⟩, h4⟩, h5, h6⟩, h7⟩ := h
    obtain rfl := of_decide_eq_true h1
    obtain ⟨A, B⟩ := snd_Es es _ X sc so W C h7
    exact sx_plain (s_mtb C (of_decide_eq_true h2) h3 h4 A B (of_decide_eq_true h6) h5 (mEs_nil h7)) rfl
  | .mthq i g m j, pe, X, sc, so, W, C, h => by
    simp only [mE, Bool.and_eq_true] at h
    obtain ⟨_, h⟩ := h
    split at h <;> first | cases h | skip
    simp only [Bool.and_eq_true] at h
    obtain ⟨⟨⟨⟨h0, h1⟩, ⟨h2, h3⟩, h4⟩, ⟨h5, h6⟩, h7⟩, h8⟩ := h
    obtain rfl := of_decide_eq_true h0
    obtain rfl := of_decide_eq_true h1
    exact sx_plain (s_mthq C (of_decide_eq_true h2) h3 h4 (of_decide_eq_true h5) h6 h7 h8) rfl
  | .fnk f es k, pe, X, sc, so, W, C, h => by simp [mE] at h
  | .mth o m es, pe, X, sc, so, W, C, h => by
    simp only [mE, Bool.and_eq_true] at h
    obtain ⟨_, h⟩ := h
    split at h <;> first | cases h | skip
    simp only [Bool.and_eq_true, mthOk] at h
    obtain ⟨⟨⟨⟨h1, h2⟩, h3, h4⟩, h5⟩, h6⟩ := h
    obtain rfl := of_decide_eq_true h1
    obtain ⟨A, B⟩ := snd_Es es _ X sc so W C h6
    exact sx_plain (s_mth C h2 (snd_E o _ X sc so W C h5).v A B (of_decide_eq_true h4) h3 (mEs_nil h6)) rfl
  | .mthp p m es, pe, X, sc, so, W, C, h => by
    simp only [mE, Bool.and_eq_true] at h
    obtain ⟨_, h⟩ := h
    split at h <;> first | cases h | skip
    simp only [Bool.and_eq_true, mthOk] at h
    obtain ⟨⟨⟨⟨⟨h1, h2⟩, h3⟩, h4⟩, h5, h6⟩, h7⟩ := h
    obtain rfl := of_decide_eq_true h1
    obtain ⟨A, B⟩ := snd_Es es _ X sc so W C h7
    exact sx_plain (s_mthp C (of_decide_eq_true h2) h3 h4 A B (of_decide_eq_true h6) h5 (mEs_nil h7)) rfl
  | .new c es, pe, X, sc, so, W, C, h => by
    simp only [mE, Bool.and_eq_true] at h
    obtain ⟨_, h⟩ := h
    split at h <;> first | cases h | skip
    simp only [Bool.and_eq_true] at h
    obtain ⟨⟨⟨⟨⟨h1, h2⟩, h3⟩, h4⟩, h5⟩, h6⟩ := h
    obtain rfl := of_decide_eq_true h1
    obtain ⟨A, B⟩ := snd_Es es _ X sc so W C h6
    rename_i xs _ _
    cases xs with
    | nil => simp at h5
    | cons y ys => exact sx_plain (s_new C h2 h3 A B (C.top.ini c (by simpa using h4))) rfl
  | .wrd e, pe, X, sc, so, W, C, h => by
    simp only [mE, Bool.and_eq_true] at h
    obtain ⟨_, h⟩ := h
    split at h <;> first | cases h | skip
    simp only [Bool.and_eq_true] at h
    obtain ⟨⟨⟨⟨⟨h1, h2⟩, h3⟩, h4⟩, h5⟩, h6⟩ := h
    exact sx_plain (s_wrd C (of_decide_eq_true h1) h2 h3 h4 (by simpa using h5) fun X' W' C' _ => (snd_E e _ X' _ _ W' C' h6).v) rfl
  | .pop x i, pe, X, sc, so, W, C, h => by simp [mE] at h
  | .lc it tg c body, pe, X, sc, so, W, C, h => by
    simp only [mE, Bool.and_eq_true] at h
    obtain ⟨_, h⟩ := h
    split at h <;> first | cases h | skip
    rename_i el t x ifs ab scope pos _
    simp only [Bool.and_eq_true] at h
    obtain ⟨⟨⟨⟨⟨h0, h1⟩, ⟨h2, h3⟩, hnl⟩, h4⟩, h5⟩, h6⟩ := h
    obtain rfl := of_decide_eq_true h0
    refine sx_other (s_lc C (mI_plain T N h1) (snd_I it x X sc so W C h1) h2 (of_decide_eq_true h3) (by simpa using hnl) h4 (fun X' C' _ => snd_If c ifs X' _ _ WF C' h5) fun X' C' _ => (snd_E body el X' _ _ WF C' h6).v) rfl (fun _ _ _ _ z => nomatch z) (fun _ _ _ z => nomatch z) fun _ _ z => nomatch z
  | .lc2 it tg it2 tg2 body, pe, X, sc, so, W, C, h => by simp [mE] at h
  | .dc it tg k v, pe, X, sc, so, W, C, h => by simp [mE] at h
theorem snd_Es : ∀ (es : Es) (pe : List Expr) (X : Cx) (sc so : Scope) (W : WX), XC X M T L Γ call N sc so k W → mEs T N sc es pe = true → PA X pe (TEs X.K M Γ call es) ∧ pe.all plain = true
  | .nil, pe, X, sc, so, W, C, h => by
    simp only [mEs] at h
    split at h <;> first | cases h | skip
    exact ⟨s_nil, rfl⟩
  | .cons a r, pe, X, sc, so, W, C, h => by
    have hp := mEs_plain T N h
    simp only [mEs] at h
    split at h <;> first | cases h | skip
    simp only [Bool.and_eq_true] at h
    exact ⟨s_cons (snd_E a _ X sc so W C h.1).v (snd_Es r _ X sc so W C h.2).1 (mE_plain T N h.1), hp⟩
theorem snd_O : ∀ (o : O) (pe : Option Expr) (X : Cx) (sc so : Scope) (W : WX), XC X M T L Γ call N sc so k W → mO T N sc o pe = true → PO X pe (TOo X.K M Γ call o)
  | .none, pe, X, sc, so, W, C, h => by
    simp only [mO] at h
    split at h <;> first | cases h | skip
    exact s_onone
  | .some a, pe, X, sc, so, W, C, h => by
    simp only [mO] at h
    split at h <;> first | cases h | skip
    exact s_osome (snd_E a _ X sc so W C h).v
theorem snd_If : ∀ (o : O) (pe : List Expr) (X : Cx) (sc so : Scope) (W : WX), XC X M T L Γ call N sc so k W → mIf T N sc o pe = true → PTs X pe (ttC X.K M Γ call o)
  | .none, pe, X, sc, so, W, C, h => by
    simp only [mIf] at h
    split at h <;> first | cases h | skip
    exact pts_nil
  | .some a, pe, X, sc, so, W, C, h => by
    simp only [mIf] at h
    split at h <;> first | cases h | skip
    simp only [Bool.and_eq_true] at h
    exact pts_one ((snd_E a _ X sc so W C h.1).t (tOk_of h.2))
theorem snd_I : ∀ (it : PL.Src) (x : Expr) (X : Cx) (sc so : Scope) (W : WX), XC X M T L Γ call N sc so k W → ∀ {tg : Expr}, mI T N sc it tg x = true → PI X tg x (TIt X.K M Γ call it)
  | .seq e, x, X, sc, so, W, C, tg, h => i_seq (snd_E e x X sc so W C h).v
  | .rng1 e, x, X, sc, so, W, C, tg, h => by
    simp only [mI] at h
    split at h <;> first | cases h | skip
    simp only [Bool.and_eq_true] at h
    obtain ⟨⟨h1, h2⟩, h3⟩ := h
    obtain rfl := of_decide_eq_true h1
    exact i_rng1 C h2 C.top.rng (snd_E e _ X sc so W C h3).v (mE_plain T N h3)
  | .rng2 a b, x, X, sc, so, W, C, tg, h => by
    simp only [mI] at h
    split at h <;> first | cases h | skip
    simp only [Bool.and_eq_true] at h
    obtain ⟨⟨⟨h1, h2⟩, h3⟩, h4⟩ := h
    obtain rfl := of_decide_eq_true h1
    exact i_rng2 C h2 C.top.rng (snd_E a _ X sc so W C h3).v (snd_E b _ X sc so W C h4).v (mE_plain T N h3) (mE_plain T N h4)
  | .pek p, x, X, sc, so, W, C, tg, h => by simp [mI] at h
  | .enm e, x, X, sc, so, W, C, tg, h => by
    simp only [mI] at h
    split at h <;> first | cases h | skip
    simp only [Bool.and_eq_true] at h
    obtain ⟨⟨h1, h2⟩, h3⟩ := h
    obtain rfl := of_decide_eq_true h1
    exact i_enm C h2 (snd_E e _ X sc so W C h3).v (mE_plain T N h3)
  | .zip a b, x, X, sc, so, W, C, tg, h => by
    simp only [mI] at h
    split at h <;> first | cases h | skip
    simp only [Bool.and_eq_true] at h
    obtain ⟨⟨⟨h1, h2⟩, h3⟩, h4⟩ := h
    obtain rfl := of_decide_eq_true h1
    exact i_zip C h2 (snd_E a _ X sc so W C h3).v (snd_E b _ X sc so W C h4).v (mE_plain T N h3) (mE_plain T N h4)
  | .vals e, x, X, sc, so, W, C, tg, h => by simp [mI] at h
end
end
end PL
/-! PLSw: how several stores at once are made; the statements' matching; every matched block keeps its reckoning. -/
namespace PL
open PySem PySem.Spec PyProof.Rows L2
def swN (sc : Scope) (ts : List Expr) : List Str := ts.filterMap fun
    | .Name id pos => if sc.names.lookup id == some .local && pos.line == (ts.head?.map (·.pos.line)).getD 0 then some id else none
    | _ => none
/-- some true: the names at once; some false: by way of a pair; none: not carried -/
def swv (sc : Scope) (ts vs : List Expr) : Option Bool :=
  if (!(ts.length == 2 || ts.length == 3) || vs.length != ts.length) = true then some false
  else if vs.all plain = false then none
  else if ((swN sc ts).length != ts.length || (swN sc ts).eraseDups.length != (swN sc ts).length) = true then some false
  else if vs.all (foldedForSure 8) = true then some false
  else if vs.all (constantsAlone 8) = true then none
  else some true
theorem swN_env {env : PySem.Env} {ts : List Expr} : (ts.filterMap fun
    | .Name id pos => if env.kindOf id == some .local && pos.line == (ts.head?.map (·.pos.line)).getD 0 then some id else none
    | _ => none) = swN env.scope ts := rfl
theorem sw_none {ts vs : List Expr} {j j' : Nat} {p p' : Pos} {env : PySem.Env} (hk : env.scope.kind = .function) (h : swv env.scope ts vs = some false) : swappedStores [.Tuple ts j p] (.Tuple vs j' p') env = pure none := by
  have hb : (env.blockKind != .function) = false := by
    unfold Env.blockKind
    rw [hk]
    rfl
  unfold swv at h
  unfold swappedStores
  simp only [hb, Bool.or_false]
  split at h
  · rename_i h1
    rw [if_pos h1]
  · rename_i h1
    rw [if_neg h1]
    split at h
    · cases h
    · rename_i h2
      have h2' : vs.all plain = true := by simpa using h2
      refine (if_neg ?_).trans ?_
      · exact fun z => Bool.false_ne_true ((noStars_of h2').symm.trans z)
      split at h
      · rename_i h3
        exact if_pos h3
      · rename_i h3
        refine (if_neg h3).trans ?_
        split at h
        · rename_i h4
          exact if_pos h4
        · split at h
          · cases h
          · cases h
theorem sw_some {ts vs : List Expr} {j j' : Nat} {p p' : Pos} {env : PySem.Env} (hk : env.scope.kind = .function) (h : swv env.scope ts vs = some true) : swappedStores [.Tuple ts j p] (.Tuple vs j' p') env = pure (some (swN env.scope ts)) := by
  have hb : (env.blockKind != .function) = false := by
    unfold Env.blockKind
    rw [hk]
    rfl
  unfold swv at h
  unfold swappedStores
  simp only [hb, Bool.or_false]
  split at h
  · cases h
  · rename_i h1
    rw [if_neg h1]
    split at h
    · cases h
    · rename_i h2
      have h2' : vs.all plain = true := by simpa using h2
      refine (if_neg ?_).trans ?_
      · exact fun z => Bool.false_ne_true ((noStars_of h2').symm.trans z)
      split at h
      · cases h
      · rename_i h3
        refine (if_neg h3).trans ?_
        split at h
        · cases h
        · rename_i h4
          refine (if_neg h4).trans ?_
          split at h
          · cases h
          · rename_i h5
            exact if_neg h5

section
variable (T : Ns) (N : List Str)
def mEs2 (sc : Scope) (es : Es) (xs : List Expr) : Bool := mEs T N sc es xs
def locB (sc : Scope) (x : Str) : Bool := match sc.names.lookup x with | some .local => true | _ => false
def swYes (sc : Scope) (y : Str) (py : Pos) (scope : Scope) (pos : Pos) : Bool := locB sc y && (py.line == pos.line) && !(scope.names.any fun (n, k) => n == y && (k == .local || k == .cell))
def swNo (sc : Scope) (t x : Expr) : Bool :=
  match x with
  | .ListComp _ _ scope pos => (match t with | .Name y py => !(swYes sc y py scope pos) | _ => true)
  | _ => noComp x
def setLc (sc : Scope) (tg : Tg) (e : E) (t x : Expr) : Bool :=
  match tg, e, t, x with
  | .one i, .lc _ _ _ _, .Name y py, .ListComp _ _ scope pos => decide (N[i]? = some y) && swYes sc y py scope pos
  | _, _, _, _ => false
mutual
def mS (sc so : Scope) : S → Stmt → Bool
  | .asg tg e, st => match st with | .Assign [t] x _ => (mE T N sc e x) && (setLc N sc tg e t x || (mT N so tg t && swNo sc t x && (noTup x || isNm t))) | _ => false
  | .par is es, st => match st with
      | .Assign [.Tuple ts _ _] (.Tuple xs _ _) _ => nmT N so is ts && mEs T N sc es xs && decide (is.length ≤ 100) &&
        (match swv sc ts xs with
         | some false => true
         | some true => (match is, ts, xs with
            | [i, j], [.Name x _, .Name y _], [_, _] => decide (i ≠ j) && decide (swN sc ts = [x, y]) && locB sc x && locB sc y
            | [i, j, l], [.Name x _, .Name y _, .Name z _], [_, _, _] => decide (i ≠ j) && decide (i ≠ l) && decide (j ≠ l) && decide (swN sc ts = [x, y, z]) && locB sc x && locB sc y && locB sc z
            | _, _, _ => false)
         | none => false)
      | _ => false
  | .aug i sb e, st => match st with | .AugAssign (.Name x _) o y _ => decide (N[i]? = some x) && stoB so x && decide (o = aop sb) && mE T N sc e y | _ => false
  | .sub v i e, st => match st with | .Assign [.Subscript (.Name x _) z _] y _ => decide (N[v]? = some x) && visB sc x && nmOk x && mE T N sc e y && mE T N sc i z && swNo sc (.Subscript (.Name x ⟨0, 0, 0, 0⟩) z ⟨0, 0, 0, 0⟩) y && noTup y | _ => false
  | .swp v i j a b, st => match st with | .Assign [.Tuple [.Subscript (.Name x q1) z1 t1, .Subscript (.Name x2 q2) z2 t2] _ _] (.Tuple [y1, y2] _ _) _ => decide (N[v]? = some x) && decide (x2 = x) && visB sc x && nmOk x && mEs T N sc (.cons (.idxv v a) (.cons (.idxv v b) .nil)) [y1, y2] && mE T N sc i z1 && mE T N sc j z2 && decide (swv sc [.Subscript (.Name x q1) z1 t1, .Subscript (.Name x2 q2) z2 t2] [y1, y2] = some false) | _ => false
  | .app (.var i) e, st => match st with | .Expr (.Call (.Attribute (.Name x _) m ap) [y] [] cp) _ => decide (N[i]? = some x) && visB sc x && nmOk x && decide (m = "append") && mE T N sc e y && (ap.endLine == cp.line) | _ => false
  | .app (.atr (.var i) f) (.var j), st => match st with | .Expr (.Call (.Attribute (.Attribute (.Name x _) nm _) m ap) [.Name y _] [] cp) _ => decide (N[i]? = some x) && visB sc x && nmOk x && decide (nm = T.fl f) && decide (m = "append") && decide (N[j]? = some y) && visB sc y && nmOk y && decide (i ≠ j) && (ap.endLine == cp.line) | _ => false
  | .fld f e, st => match st with | .Assign [.Attribute (.Name x _) nm _] y _ => decide (nm = T.fl f) && decide (N[(0 : Nat)]? = some x) && visB sc x && nmOk x && mE T N sc e y && swNo sc (.Attribute (.Name x ⟨0, 0, 0, 0⟩) nm ⟨0, 0, 0, 0⟩) y | _ => false
  | .exp e, st => match st with | .Expr x _ => mE T N sc e x && noComp x | _ => false
  | .ret e, st => match st with | .Return (some x) _ => mE T N sc e x | _ => false
  | .retN, st => match st with | .Return none _ => true | _ => false
  | .retv i, st => match st with | .Return (some (.Name x _)) _ => decide (N[i]? = some x) && visB sc x && nmOk x | _ => false
  | .ifs c a b, st => match st with | .If x p q _ => mE T N sc c x && tOk x && mSs sc so a p && mSs sc so b q | _ => false
  | .whl c b, st => match st with | .While x p [] _ => mE T N sc c x && tOk x && mSs sc so b p | _ => false
  | .for it tg b, st => match st with | .For t x p [] _ => mI T N sc it t x && mT N so tg t && mSs sc so b p && plain x | _ => false
  | .rse c o, st => match o, st with | .none, .Raise (some (.Call (.Name x _) [.Constant (.str _) _ _] [] _)) none _ => decide (x = T.cN c) && T.xs.contains c && glB sc x && nmOk x | _, _ => false
  | .nev, st => match st with | .Raise _ _ _ => true | _ => false
  | .pas, st => match st with | .Pass _ => true | _ => false
  | _, _ => false
def mSs (sc so : Scope) : Ss → List Stmt → Bool
  | .nil, l => match l with | [] => true | _ => false
  | .cons s r, l => match l with | st :: sts => mS sc so s st && mSs sc so r sts | _ => false
end
end

section
variable {X : Cx} {M : Nm} {T : Ns} {L : Lk} {Γ : Ctx} {call : Nat → List (D × Bool) → CRes} {N : List Str} {sc so : Scope} {k : Nat} {W : WX} {io : Bool} {v0 : Option V}

theorem snd_P (C : XC X M T L Γ call N sc so k W) : ∀ (es : Es) (pe : List Expr), mEs T N sc es pe = true → PA X pe ((TEp X.K M Γ call) es)
  | .nil, pe, h => by
    simp only [mEs] at h
    split at h <;> first | cases h | skip
    exact p_nil
  | .cons a r, pe, h => by
    simp only [mEs] at h
    split at h <;> first | cases h | skip
    simp only [Bool.and_eq_true] at h
    exact p_cons (snd_E a _ X sc so W C h.1).v (snd_P C r _ h.2) (mE_plain T N h.1)
theorem sole_no {t x : Expr} {l : Nat} {env : PySem.Env} (hk : env.scope.kind = .function) (h : swNo env.scope t x = true) : swapsWithSole [t] x l env = pure false := by
  unfold swNo at h
  split at h
  · rename_i a b scope pos
    split at h
    · rename_i y py
      have hb : (env.blockKind == .function) = true := by
        unfold Env.blockKind
        rw [hk]
        rfl
      have e : ((env.kindOf y == some .local) && (py.line == pos.line) && !(scope.names.any fun (n, k) => n == y && (k == .local || k == .cell))) = false := by
        rw [Bool.not_eq_true'] at h
        rw [← h]
        unfold swYes locB Env.kindOf
        congr 2
        split
        · rename_i q
          rw [q]
          rfl
        · rename_i q
          cases z : List.lookup y env.scope.names with
          | none => rfl
          | some v => cases v <;> first | rfl | exact (q z).elim
      show swapsWith (.ListComp a b scope pos) (some (.Name y py)) l env = pure false
      unfold swapsWith
      simp only [hb, Bool.true_and]
      show (pure _ : Sem Bool) = _
      rw [show (Expr.ListComp a b scope pos).pos = pos from rfl, e]
    · rename_i hn
      cases t <;> first | rfl | exact (hn _ _ rfl).elim
  · exact swaps_no h
theorem loc_sc {x : Str} (h : locB sc x = true) : sc.names.lookup x = some .local := by
  unfold locB at h
  split at h
  · assumption
  · cases h
mutual
theorem snd_S (C : XC X M T L Γ call N sc so k W) : ∀ (s : S) (st : Stmt), mS T N sc so s st = true → PS X st ((TSt X.K M Γ call io v0 W) s)
  | .asg tg e, st, h => by
    simp only [mS] at h
    split at h <;> first | cases h | skip
    simp only [Bool.and_eq_true] at h
    obtain ⟨h2, h⟩ := h
    have hk : X.env.scope.kind = .function := by rw [C.scp]; exact C.kind
    rw [Bool.or_eq_true] at h
    rcases h with h | h
    · unfold setLc at h
      split at h <;> first | cases h | skip
      simp only [Bool.and_eq_true, swYes, Bool.not_eq_true'] at h
      obtain ⟨g1, ⟨g2, g3⟩, g4⟩ := h
      simp only [mE, Bool.and_eq_true] at h2
      obtain ⟨_, h2⟩ := h2
      split at h2 <;> first | cases h2 | skip
      rename_i q
      cases q
      simp only [Bool.and_eq_true] at h2
      obtain ⟨⟨⟨⟨⟨k0, k1⟩, ⟨k2, k3⟩, knl⟩, k4⟩, k5⟩, k6⟩ := h2
      obtain rfl := of_decide_eq_true k0
      exact x_setLc C (of_decide_eq_true g1) (loc_sc g2) g3 g4 (mI_plain T N k1) (snd_I _ _ X sc so W C k1) k2 (of_decide_eq_true k3) (by simpa using knl) k4 (fun X' C' _ => snd_If _ _ X' _ _ WF C' k5) fun X' C' _ => (snd_E _ _ X' _ _ WF C' k6).v
    · simp only [Bool.and_eq_true] at h
      obtain ⟨⟨h1, h3⟩, h4⟩ := h
      exact x_asg C (snd_E e _ X sc so W C h2).v h1 (fun l => sole_no hk (by rw [C.scp]; exact h3)) (stores_nm h4)
  | .par is es, st, h => by
    simp only [mS] at h
    split at h <;> first | cases h | skip
    simp only [Bool.and_eq_true] at h
    obtain ⟨⟨⟨h1, h2⟩, h3⟩, h4⟩ := h
    have hk : X.env.scope.kind = .function := by rw [C.scp]; exact C.kind
    split at h4
    · rename_i hs
      exact x_parT C (snd_P C es _ h2) h1 (of_decide_eq_true h3) (sw_none hk (by rw [C.scp]; exact hs))
    · rename_i hs
      have hw : ∀ j1 p1 j2 p2, _ := fun j1 p1 j2 p2 => sw_some (j := j1) (p := p1) (j' := j2) (p' := p2) hk (by rw [C.scp]; exact hs)
      split at h4
      · simp only [Bool.and_eq_true] at h4
        obtain ⟨⟨⟨a, b⟩, c⟩, d⟩ := h4
        simp only [nmT, Bool.and_eq_true] at h1
        refine x_par2 C (snd_P C es _ h2) (of_decide_eq_true h1.1.1) (of_decide_eq_true h1.2.1.1) (of_decide_eq_true a) (loc_sc c) (loc_sc d) ?_
        rw [hw, C.scp, of_decide_eq_true b]
      · simp only [Bool.and_eq_true] at h4
        obtain ⟨⟨⟨⟨⟨⟨a, a2⟩, a3⟩, b⟩, c⟩, d⟩, e⟩ := h4
        simp only [nmT, Bool.and_eq_true] at h1
        refine x_par3 C (snd_P C es _ h2) (of_decide_eq_true h1.1.1) (of_decide_eq_true h1.2.1.1) (of_decide_eq_true h1.2.2.1.1) (of_decide_eq_true a) (of_decide_eq_true a2) (of_decide_eq_true a3) (loc_sc c) (loc_sc d) (loc_sc e) ?_
        rw [hw, C.scp, of_decide_eq_true b]
      · cases h4
    · cases h4
  | .aug i sb e, st, h => by
    simp only [mS] at h
    split at h <;> first | cases h | skip
    simp only [Bool.and_eq_true] at h
    obtain ⟨⟨⟨h1, h2⟩, h3⟩, h4⟩ := h
    obtain rfl := of_decide_eq_true h3
    exact x_aug C (snd_E e _ X sc so W C h4).v (of_decide_eq_true h1) h2
  | .sub v i e, st, h => by
    simp only [mS] at h
    split at h <;> first | cases h | skip
    simp only [Bool.and_eq_true] at h
    obtain ⟨⟨⟨⟨⟨⟨h1, h2⟩, h3⟩, h4⟩, h5⟩, h6⟩, h7⟩ := h
    exact x_sub C (of_decide_eq_true h1) h2 h3 (snd_E e _ X sc so W C h4).v (snd_E i _ X sc so W C h5).v (mE_plain T N h5) (fun l => sole_no (by rw [C.scp]; exact C.kind) (by rw [C.scp]; exact h6)) h7
  | .swp v i j a b, st, h => by
    simp only [mS] at h
    split at h <;> first | cases h | skip
    simp only [Bool.and_eq_true] at h
    obtain ⟨⟨⟨⟨⟨⟨⟨h1, h0⟩, h2⟩, h3⟩, h4⟩, h5⟩, h6⟩, h7⟩ := h
    obtain rfl := of_decide_eq_true h0
    have hk : X.env.scope.kind = .function := by rw [C.scp]; exact C.kind
    exact x_swp C (of_decide_eq_true h1) h2 h3 (snd_Es _ _ X sc so W C h4).1 (snd_E i _ X sc so W C h5).v (snd_E j _ X sc so W C h6).v (mE_plain T N h5) (mE_plain T N h6) (sw_none hk (by rw [C.scp]; exact of_decide_eq_true h7))
  | .fld f e, st, h => by
    simp only [mS] at h
    split at h <;> first | cases h | skip
    simp only [Bool.and_eq_true] at h
    obtain ⟨⟨⟨⟨⟨h0, h1⟩, h2⟩, h3⟩, h4⟩, h5⟩ := h
    obtain rfl := of_decide_eq_true h0
    rename_i xn q1 q2 yn q3
    have z : swapsWithSole [.Attribute (.Name xn q1) (T.fl f) q2] yn q3.line X.env = pure false := sole_no (by rw [C.scp]; exact C.kind) (by rw [C.scp]; exact h5)
    exact x_fld C (of_decide_eq_true h1) h2 h3 (snd_E e _ X sc so W C h4).v z
  | .fld2 f g e, st, h => by simp [mS] at h
  | .app (.atr (.var i) f) (.var j), st, h => by
    simp only [mS] at h
    split at h <;> first | cases h | skip
    simp only [Bool.and_eq_true] at h
    obtain ⟨⟨⟨⟨⟨⟨⟨⟨⟨h1, h2⟩, h3⟩, h4⟩, h5⟩, h6⟩, h7⟩, h8⟩, h9⟩, h10⟩ := h
    obtain rfl := of_decide_eq_true h4
    obtain rfl := of_decide_eq_true h5
    exact x_appF C (of_decide_eq_true h1) h2 h3 (of_decide_eq_true h6) h7 h8 (of_decide_eq_true h9) h10
  | .app (.var i) e, st, h => by
    simp only [mS] at h
    split at h <;> first | cases h | skip
    simp only [Bool.and_eq_true] at h
    obtain ⟨⟨⟨⟨⟨h1, h2⟩, h3⟩, h4⟩, h5⟩, h6⟩ := h
    obtain rfl := of_decide_eq_true h4
    exact x_app C (of_decide_eq_true h1) h2 h3 (snd_E e _ X sc so W C h5).v (mE_plain T N h5) h6
  | .exp e, st, h => by
    simp only [mS] at h
    split at h <;> first | cases h | skip
    simp only [Bool.and_eq_true] at h
    exact x_exp (snd_E e _ X sc so W C h.1).v h.2
  | .ret e, st, h => by
    simp only [mS] at h
    split at h <;> first | cases h | skip
    exact x_ret (snd_E e _ X sc so W C h).v
  | .retv i, st, h => by
    cases st <;> first | (simp [mS] at h; done) | skip
    rename_i v p
    cases v with
    | none => simp [mS] at h
    | some v =>
      cases v <;> first | (simp [mS] at h; done) | skip
      simp only [mS, Bool.and_eq_true] at h
      exact x_retv C (of_decide_eq_true h.1.1) h.1.2 h.2
  | .retN, st, h => by
    simp only [mS] at h
    split at h <;> first | cases h | skip
    exact x_retN
  | .ifs c a b, st, h => by
    simp only [mS] at h
    split at h <;> first | cases h | skip
    simp only [Bool.and_eq_true] at h
    obtain ⟨⟨⟨h1, h2⟩, h3⟩, h4⟩ := h
    exact x_ifs ((snd_E c _ X sc so W C h1).t (tOk_of h2)) (snd_Ss C a _ h3) (snd_Ss C b _ h4)
  | .whl c b, st, h => by
    simp only [mS] at h
    split at h <;> first | cases h | skip
    simp only [Bool.and_eq_true] at h
    obtain ⟨⟨h1, h2⟩, h3⟩ := h
    exact x_whl C.own ((snd_E c _ X sc so W C h1).t (tOk_of h2)) (snd_Ss C b _ h3)
  | .for it tg b, st, h => by
    simp only [mS] at h
    split at h <;> first | cases h | skip
    simp only [Bool.and_eq_true] at h
    obtain ⟨⟨⟨h1, h2⟩, h3⟩, h4⟩ := h
    exact x_for C C.own (snd_I it _ X sc so W C h1) h2 (snd_Ss C b _ h3) h4
  | .rse c o, st, h => by
    simp only [mS] at h
    split at h <;> first | cases h | skip
    simp only [Bool.and_eq_true] at h
    obtain ⟨⟨⟨h1, h2⟩, h3⟩, h4⟩ := h
    exact x_rse0 C (of_decide_eq_true h1) (by simpa using h2) h3 h4
  | .nev, st, h => x_nev
  | .pas, st, h => by
    simp only [mS] at h
    split at h <;> first | cases h | skip
    exact x_pas
theorem snd_Ss (C : XC X M T L Γ call N sc so k W) : ∀ (s : Ss) (st : List Stmt), mSs T N sc so s st = true → PSs X st ((TSs X.K M Γ call io v0 W) s)
  | .nil, st, h => by
    simp only [mSs] at h
    split at h <;> first | cases h | skip
    exact x_nil
  | .cons s r, st, h => by
    simp only [mSs] at h
    split at h <;> first | cases h | skip
    simp only [Bool.and_eq_true] at h
    exact x_cons (snd_S C s _ h.1) (snd_Ss C r _ h.2)
end
end
end PL
/-! PLFn: a def keeps the promise of its reckoning, at every depth; a law's end. -/
namespace PL
open PySem PySem.Spec PyProof.Rows L2

/-- what is known of a def of the text -/
structure FnI (K : PySem.W.Frag) (T : Ns) (L : Lk) (Γ : Ctx) (f : Nat) : Prop where
  ex : ∃ (Fe : FnE) (N : List Str) (st : Stmt) (name qual : Str), Γ.fn f = some Fe ∧ Fun K name qual st (L.fa f) (L.fd f) ∧ FnScope N (L.ps f) (defScope st) ∧ mSs T N (defScope st) (defScope st) Fe.body (defBody st) = true ∧ Fe.np = (L.ps f).length ∧ Fe.ns = N.length ∧ (lamB T (defScope st) = true → (L.fd f).code = L.cw ∧ qual = "law")
/-- in the frame that holds lambdas -/
def LamH (base : Heap) (K : PySem.W.Frag) (mg : Str → Option Value) (M : Nm) (T : Ns) (L : Lk) (Γ : Ctx) : Prop := T.lns ≠ [] → ∀ X : Cx, X.K = K → X.mg = mg → X.base = base → X.env.code = L.cw → X.env.qual = "law" ++ ".<locals>." → LamF X M T Γ
section
variable {P : Program} {w : World} {K : PySem.W.Frag} {mg : Str → Option Value} {base : Heap} {M : Nm} {T : Ns} {L : Lk} {Γ : Ctx}
theorem callN_ar (h : ∀ f ∈ T.fs, FnI K T L Γ f) (n : Nat) : ∀ f ∈ T.fs, ∀ args, callN Γ n f args ≠ .err → args.length = (L.ps f).length := by
  intro f hf args hn
  obtain ⟨Fe, N, st, name, qual, h1, _, _, _, h5, _, _⟩ := (h f hf).ex
  cases n with
  | zero => exact (hn rfl).elim
  | succ n =>
    by_cases e : args.length = Fe.np
    · rw [← h5]
      exact e
    · refine (hn ?_).elim
      show (match Γ.fn f with | some F => body Γ (callN Γ n) F args | none => .err) = .err
      rw [h1]
      show (if args.length = Fe.np then _ else _) = _
      rw [if_neg e]
theorem fn_ok (top : Top K mg M T L Γ) (lh : LamH base K mg M T L Γ) (h : ∀ f ∈ T.fs, FnI K T L Γ f) {n k : Nat} (ih : ∀ f ∈ T.fs, FnOk P w K mg base (L2.CX P w) k (L.fa f) (L.fd f) (L.ps f) (spF K M (callN Γ n) f (L.ps f).length)) {f : Nat} (hf : f ∈ T.fs) :
    FnOk P w K mg base (L2.CX P w) (k + 4) (L.fa f) (L.fd f) (L.ps f) (spF K M (callN Γ (n + 1)) f (L.ps f).length) := by
  obtain ⟨Fe, N, st, name, qual, h1, h2, h3, h4, h5, h6, h7⟩ := (h f hf).ex
  obtain ⟨oc, od, kV, doc, pm, an, cdv, ct, osl, efd, lk, hcd⟩ := h2.ex
  rw [efd] at lk h7 ⊢
  refine fn_of lk hcd h3 (fun vs H Q E q => q.1) fun A outer s H vs Q E hr hsp => ?_
  obtain ⟨hn, F, ext, xv, args, hl, ha, sta, m⟩ := hsp
  have C : XC (cxOf (L2.CX P w) P w K mg base N qual (defScope st) (L.fa f) cdv A outer s H E) M T L Γ (callN Γ n) N (defScope st) (defScope st) k (fun cls d _ H => E cls d H) := by
    refine ⟨rfl, h3.nd, rfl, h3.kind, fun x hx => ⟨loc_of hx, .inl rfl⟩, rfl, passes_of rfl, takes_of rfl rfl rfl rfl, hr.mono (by omega), top, callN_ar h n, ih, fun z => ⟨?_, hr⟩⟩
    obtain ⟨e1, e2⟩ := h7 z
    subst e2
    refine lh (fun e => ?_) _ rfl rfl rfl e1 rfl
    unfold lamB at z
    rw [e] at z
    cases z
  refine ⟨_, snd_Ss (io := Fe.io) (v0 := vs.head?) C Fe.body _ h4, ?_⟩
  have e0 : callN Γ (n + 1) f args = body Γ (callN Γ n) Fe args := by
    show (match Γ.fn f with | some F => body Γ (callN Γ n) F args | none => .err) = _
    rw [h1]
  rw [e0] at m
  unfold body at m
  rw [if_pos (by rw [ha, h5])] at m
  have hst : Sta K M F H (ext ++ (args.map some ++ List.replicate (Fe.ns - Fe.np) none)) (xv ++ L2.start N vs) := by
    unfold L2.start
    rw [h6, h5, hn, ← List.append_assoc, ← List.append_assoc]
    exact sta.nones _
  -- the first argument, where it is changed in place
  have hpin : ∀ {env : PL.Fm} {r : D × Bool}, (match (match (if Fe.io = true then (match env[(0 : Nat)]? with | some (some (d, true)) => some (some d) | _ => none) else some none : Option (Option D)) with | some p => CRes.ret r p | none => .err) with
      | .ret r none => ∀ v F' H', Same F F' → Sta K M F' H' (some r :: ext) (some v :: xv) → Q v H'
      | .ret r (some d) => (∃ d0 rr, args = (d0, true) :: rr) ∧ ∀ v F' H', Same F F' → Sta K M F' H' (some r :: some (d, true) :: ext) (some v :: vs.head? :: xv) → Q v H'
      | .exc x none => ∀ cls d F' H', Same F F' → RepX K M F' x cls d → Sta K M F' H' ext xv → E cls d H'
      | .exc x (some d) => (∃ d0 rr, args = (d0, true) :: rr) ∧ ∀ cls dx F' H', Same F F' → RepX K M F' x cls dx → Sta K M F' H' (some (d, true) :: ext) (vs.head? :: xv) → E cls dx H'
      | .err => False) → Pin Fe.io vs.head? (L2.start N vs) ∧ ∀ v F' H' σ', Same F F' → Sta K M F' H' (some r :: (ext ++ env)) (some v :: (xv ++ σ')) → Pin Fe.io vs.head? σ' → Q v H' := by
    intro env r hm
    cases hio : Fe.io with
    | false =>
      rw [hio, if_neg Bool.false_ne_true] at hm
      simp only at hm
      refine ⟨(fun z => nomatch z), fun v F' H' σ' s' st' _ => ?_⟩
      exact hm v F' H' s' (Sta.cut (es := some r :: ext) (vs := some v :: xv) st' (by simp [hl]))
    | true =>
      rw [hio, if_pos rfl] at hm
      split at hm
      · rename_i hq
        split at hq
        · rename_i p hp
          split at hp
          · cases hp
            cases hq
          · cases hp
        · cases hq
      · rename_i r' d hq
        split at hq
        · rename_i p hp
          split at hp
          · rename_i d' he
            cases hp
            cases hq
            obtain ⟨⟨d0, rr, ea⟩, hm⟩ := hm
            have hv : ∃ v r, vs = v :: r := by
              cases vs with
              | nil =>
                subst ea
                rw [List.length_cons] at ha
                simp at hn
                omega
              | cons v r => exact ⟨v, r, rfl⟩
            obtain ⟨v1, r1, rfl⟩ := hv
            refine ⟨fun _ => rfl, fun v F' H' σ' s' st' pn => ?_⟩
            obtain ⟨x, hx, st2⟩ := sta_out (ext := some r :: ext) (xv := some v :: xv) st' (by simp [hl]) he
            have := pn rfl
            rw [hx] at this
            cases this
            obtain ⟨ra, rb⟩ := r
            refine hm v F' H' s' (Sta.cut (es := some (ra, rb) :: some (d, true) :: ext) (vs := some v :: some v1 :: xv) st2.swap (by simp [hl]))
          · cases hp
        · cases hq
      · rename_i hq
        split at hq <;> cases hq
      · rename_i hq
        split at hq <;> cases hq
      · exact hm.elim
  have hpinX : ∀ {env : PL.Fm} {x : Exn}, (match (match (if Fe.io = true then (match env[(0 : Nat)]? with | some (some (d, true)) => some (some d) | _ => none) else some none : Option (Option D)) with | some p => CRes.exc x p | none => .err) with
      | .ret r none => ∀ v F' H', Same F F' → Sta K M F' H' (some r :: ext) (some v :: xv) → Q v H'
      | .ret r (some d) => (∃ d0 rr, args = (d0, true) :: rr) ∧ ∀ v F' H', Same F F' → Sta K M F' H' (some r :: some (d, true) :: ext) (some v :: vs.head? :: xv) → Q v H'
      | .exc x none => ∀ cls d F' H', Same F F' → RepX K M F' x cls d → Sta K M F' H' ext xv → E cls d H'
      | .exc x (some d) => (∃ d0 rr, args = (d0, true) :: rr) ∧ ∀ cls dx F' H', Same F F' → RepX K M F' x cls dx → Sta K M F' H' (some (d, true) :: ext) (vs.head? :: xv) → E cls dx H'
      | .err => False) → Pin Fe.io vs.head? (L2.start N vs) ∧ ∀ cls dx F' H' σ', Same F F' → RepX K M F' x cls dx → Sta K M F' H' (ext ++ env) (xv ++ σ') → Pin Fe.io vs.head? σ' → E cls dx H' := by
    intro env x hm
    cases hio : Fe.io with
    | false =>
      rw [hio, if_neg Bool.false_ne_true] at hm
      simp only at hm
      refine ⟨(fun z => nomatch z), fun cls dx F' H' σ' s' rx st' _ => ?_⟩
      exact hm cls dx F' H' s' rx (Sta.cut (es := ext) (vs := xv) st' (by simp [hl]))
    | true =>
      rw [hio, if_pos rfl] at hm
      split at hm
      · rename_i hq
        split at hq <;> cases hq
      · rename_i hq
        split at hq <;> cases hq
      · rename_i hq
        split at hq
        · rename_i p hp
          split at hp
          · cases hp
            cases hq
          · cases hp
        · cases hq
      · rename_i x' d hq
        split at hq
        · rename_i p hp
          split at hp
          · rename_i d' he
            cases hp
            cases hq
            obtain ⟨⟨d0, rr, ea⟩, hm⟩ := hm
            have hv : ∃ v r, vs = v :: r := by
              cases vs with
              | nil =>
                subst ea
                rw [List.length_cons] at ha
                simp at hn
                omega
              | cons v r => exact ⟨v, r, rfl⟩
            obtain ⟨v1, r1, rfl⟩ := hv
            refine ⟨fun _ => rfl, fun cls dx F' H' σ' s' rx st' pn => ?_⟩
            obtain ⟨x, hx, st2⟩ := sta_out (ext := ext) (xv := xv) st' hl he
            have := pn rfl
            rw [hx] at this
            cases this
            refine hm cls dx F' H' s' rx (Sta.cut (es := some (d, true) :: ext) (vs := some v1 :: xv) st2 (by simp [hl]))
          · cases hp
        · cases hq
      · exact hm.elim
  have pin0 : Pin Fe.io vs.head? (L2.start N vs) := by
    revert m
    cases exs Γ (callN Γ n) Fe.io Fe.body (args.map some ++ List.replicate (Fe.ns - Fe.np) none) with
    | nx env => exact fun m => (hpin m).1
    | rt r env => exact fun m => (hpin m).1
    | exc x env => exact fun m => (hpinX m).1
    | err => exact fun m => m.elim
  refine ⟨F, ext, xv, _, hst, hl, pin0, ?_⟩
  revert m
  cases exs Γ (callN Γ n) Fe.io Fe.body (args.map some ++ List.replicate (Fe.ns - Fe.np) none) with
  | nx env => exact fun m F' H' σ' s' st' p' => (hpin m).2 .non F' H' σ' s' (st'.push .non) p'
  | rt r env => exact fun m v F' H' σ' s' st' p' => (hpin m).2 v F' H' σ' s' st' p'
  | exc x env => exact fun m cls d F' H' σ' s' rx st' p' => (hpinX m).2 cls d F' H' σ' s' rx st' p'
  | err => exact fun m => m.elim
theorem all_ok (top : Top K mg M T L Γ) (lh : LamH base K mg M T L Γ) (h : ∀ f ∈ T.fs, FnI K T L Γ f) : ∀ n, ∀ f ∈ T.fs, FnOk P w K mg base (L2.CX P w) (4 * n) (L.fa f) (L.fd f) (L.ps f) (spF K M (callN Γ n) f (L.ps f).length)
  | 0, f, hf => ⟨fun vs H Q E q => q.1, fun A outer s H args us vs Q E hr e0 hb r hsp => by
      obtain ⟨_, F, ext, xv, args, _, _, _, m⟩ := hsp
      exact m.elim⟩
  | n + 1, f, hf => fn_ok top lh h (all_ok top lh h n) hf
/-- a law: of the script's ints it tells True -/
def spLaw (K : PySem.W.Frag) : Sp := fun vs H Q _ => ∃ (a : Addr) (ns : List Int), vs = [.ref a] ∧ SqL K H a (ns.map V.int) ∧ ns.length ≤ 63 ∧ ∀ H', Q (.bl true) H'
theorem law_ok (htb : M.tb = []) (hlns : T.lns = []) (top : Top K mg M T L Γ) (h : ∀ f ∈ T.fs, FnI K T L Γ f) {n f : Nat} (hf : f ∈ T.fs) {p : Str} (hp : L.ps f = [p]) (PT : List Int → Prop) (law : ∀ ns : List Int, ns.length ≤ 63 → PT ns → callN Γ n f [(.scr ns, false)] = .ret (.bl true, false) none) :
    FnOk P w K mg base (L2.CX P w) (4 * n) (L.fa f) (L.fd f) [p] (fun vs H Q E => ∃ (a : Addr) (ns : List Int), vs = [.ref a] ∧ SqL K H a (ns.map V.int) ∧ ns.length ≤ 63 ∧ PT ns ∧ ∀ H', Q (.bl true) H') := by
  have F := all_ok (P := P) (w := w) (base := base) top (fun z => absurd hlns z) h n f hf
  rw [hp] at F
  refine F.imp fun vs H Q E hsp => ?_
  obtain ⟨a, ns, rfl, hS, hl, pt, q⟩ := hsp
  refine ⟨rfl, H, [], [], [(.scr ns, false)], rfl, rfl, ⟨[] ++ [], .slot (.fz (.scr hS (by unfold LIM; omega))) .nil, by simp, by simp, ⟨Same.refl H, fun z => absurd htb z⟩⟩, ?_⟩
  rw [law ns hl pt]
  intro v F' H' s' st'
  have r := st'.headF
  rw [rep_bl r]
  exact q H'
end

/-! ### laws that hand lambdas -/
section
variable {P : Program} {w : World} {K : PySem.W.Frag} {mg : Str → Option Value} {base : Heap} {M : Nm} {T : Ns} {L : Lk} {Γ : Ctx}
abbrev lamQ : Str := "law" ++ ".<locals>." ++ "<lambda>"
theorem lamH_mk {ks : Nat → Addr} {kL g c P : Addr} {st : Stmt} {dV kV doc pm cdv ct oc : Value} {an od : Option Addr} {osl : Array (Option Value)}
    (hm : mg "_law_word" = some (.ref g)) (hk : PySem.W.keepIn K (.ref g) = true) (lk : K.lookup g = some ⟨oc, od, .func (PySem.W.fnOf "_law_word" "_law_word" (defArgs st) (defBody st) (defScope st) dV kV doc pm an cdv ct), osl⟩) (hc : PySem.W.codeIn K cdv "_law_word" = true)
    (hb : Binds K (PySem.W.fnOf "_law_word" "_law_word" (defArgs st) (defBody st) (defScope st) dV kV doc pm an cdv ct) ["_law_work"] []) (hS : FnScope wdN ["_law_work"] (defScope st)) (Sg : SgO (defScope st)) (h : IsW (defBody st)) (G : WdG mg ks kL) (W : WdM K M Γ T.xs ks kL)
    (TB : LamX.TabB base mg c P) (hcw : L.cw = .ref c) (htb : M.tb = [(P, lamQ)]) : LamH base K mg M T L Γ := by
  intro _ X e1 e2 e3 e4 e5
  subst e1 e2 e3
  refine ⟨g, c, P, _, _, _, _, _, _, _, _, _, _, _, _, _, wdN, hm, hk, lk, hc, hb, hS, rfl, Sg.l0, word_gives G Sg W h, TB, by rw [e4, hcw], ?_, ?_⟩
  · rw [htb, e5]
    exact List.mem_singleton.mpr rfl
  · rw [htb, e5]
    intro p hp _
    rw [List.mem_singleton.mp hp]
/-- all but the tables -/
def noTbH (H : Hp) : Hp := fun a => match H a with
  | some (.tbl _) => none
  | o => o
theorem noTb_some {H : Hp} {a : Addr} {o : HO} (h : noTbH H a = some o) : H a = some o ∧ NoTb o := by
  unfold noTbH at h
  split at h
  · cases h
  · rename_i o' hne
    refine ⟨h, fun ps z => ?_⟩
    subst z
    exact hne _ h
theorem noTb_keep {H : Hp} {a : Addr} {o : HO} (h : H a = some o) (n : NoTb o) : noTbH H a = some o := by
  unfold noTbH
  split
  · rename_i ps e
    rw [h] at e
    cases e
    exact (n ps rfl).elim
  · exact h
theorem law_okL (lh : LamH base K mg M T L Γ) {Pt : Addr} (htb : M.tb = [(Pt, lamQ)]) (top : Top K mg M T L Γ) (h : ∀ f ∈ T.fs, FnI K T L Γ f) {n f : Nat} (hf : f ∈ T.fs) {p : Str} (hp : L.ps f = [p]) (law : ∀ ns : List Int, ns.length ≤ 63 → callN Γ n f [(.scr ns, false)] = .ret (.bl true, false) none) :
    FnOk P w K mg base (L2.CX P w) (4 * n) (L.fa f) (L.fd f) [p] (fun vs H Q E => ∃ (a : Addr) (ns : List Int), vs = [.ref a] ∧ SqL K H a (ns.map V.int) ∧ ns.length ≤ 63 ∧ H Pt = some (.tbl #[]) ∧ ∀ H', Q (.bl true) H') := by
  have F := all_ok (P := P) (w := w) (base := base) top lh h n f hf
  rw [hp] at F
  refine F.imp fun vs H Q E hsp => ?_
  obtain ⟨a, ns, rfl, hS, hl, pt, q⟩ := hsp
  have hS' : SqL K (noTbH H) a (ns.map V.int) := by
    rcases hS with (hS | ⟨o, hS⟩) | hS
    · exact .inl (.inl (noTb_keep hS fun ps z => nomatch z))
    · exact .inl (.inr ⟨o, noTb_keep hS fun ps z => nomatch z⟩)
    · exact .inr hS
  refine ⟨rfl, noTbH H, [], [], [(.scr ns, false)], rfl, rfl, ⟨[] ++ [], .slot (.fz (.scr hS' (by unfold LIM; omega))) .nil, by simp, by simp, ⟨fun a u e => (noTb_some e).1, fun _ => ⟨?_, fun a o e => (noTb_some e).2⟩⟩⟩, ?_⟩
  · rw [htb]
    intro x hx
    rw [List.mem_singleton.mp hx]
    exact LamX.TabS.nil pt
  · rw [law ns hl]
    intro v F' H' s' st'
    have r := st'.headF
    rw [rep_bl r]
    exact q H'
/-- a law's own code object and its table -/
structure CodK (K : PySem.W.Frag) (fa c P : Addr) : Prop where
  ex : ∃ (o : Obj) (fd : FuncData) (dd : Option Addr) (vs : Array Value) (sl : Array (Option Value)) (file : Str) (tf : Tok) (flags : Int) (tg : Tok) (inF : Bool) (text : Int) (tt : Tok),
    K.lookup fa = some o ∧ o.data = .func fd ∧ fd.code = .ref c ∧ K.lookup c = some ⟨.type "code", dd, .fields vs, sl⟩ ∧ vs[11]? = some (.ref P) ∧ vs.getD 11 .none = .ref P ∧ vs.getD 18 .none = .str file tf ∧ vs.getD 7 .none = .int flags tg ∧ vs.getD 9 .none = .bool inF ∧ vs.getD 10 .none = .int text tt ∧ c ≠ P
  no : K.lookup P = none
theorem CodK.hd {fa c P : Addr} {h : Heap} (C : CodK K fa c P) (X : K.In h) : PySem.W.CodeHd h c P := by
  obtain ⟨o, fd, dd, vs, sl, file, tf, flags, tg, inF, text, tt, h1, h2, h3, h4, h5, h6, h7, h8, h9, h10, h11⟩ := C.ex
  exact ⟨_, vs, file, tf, flags, tg, inF, text, tt, X _ _ h4, rfl, rfl, h5, h6, h7, h8, h9, h10, h11⟩
theorem CodK.tab {fa c P : Addr} {h : Heap} (C : CodK K fa c P) (O : LamX.OwnTab K fa h) : h.get? P = some { cls := .none, data := .fields #[] } := by
  obtain ⟨o, fd, dd, vs, sl, file, tf, flags, tg, inF, text, tt, h1, h2, h3, h4, h5, h6, h7, h8, h9, h10, h11⟩ := C.ex
  exact O c P o fd _ dd vs sl h1 h2 h3 h4 h5
end
end PL
/-! PLEq: the reckoning by equations (printed by wip/gen/eqs.py); loops stay folded. -/
namespace PL
open PySem
section

/-- while, folded -/
noncomputable def whl (Γ : Ctx) (call : Nat → List (D × Bool) → CRes) (io : Bool) (c : E) (b : Ss) (env : Fm) : Fl := whlG (fun e => ev Γ call c e) (fun e => exs Γ call io b e) env
/-- for, folded -/
noncomputable def frl (Γ : Ctx) (call : Nat → List (D × Bool) → CRes) (io : Bool) (tg : Tg) (b : Ss) (ds : List D) (env : Fm) : Fl := forF (fun d e => bnd io tg (d, false) e) (fun e => exs Γ call io b e) ds env
/-- a comprehension, folded -/
noncomputable def lcl (Γ : Ctx) (call : Nat → List (D × Bool) → CRes) (tg : Tg) (c : O) (body : E) (ds : List D) (env : Fm) (acc : List D) : Res (List D) := lcF (fun d e => bnd false tg (d, false) e) (fun e => wip e tg.ixs)
        (fun e => match c with
          | .none => .ok true e
          | .some c => (ev Γ call c e).bind fun x e => match x.1 with | .bl b => .ok b e | _ => .err)
        (fun e => (ev Γ call body e).bind fun x e => .ok x.1 e) ds env acc
@[simp] theorem ev_var (Γ : Ctx) (call : Nat → List (D × Bool) → CRes) (i : Nat) (env : Fm) : ev Γ call (.var i) env =
    match env[i]? with
    | some (some (d, o)) => .ok (d, false) (if o = true then env.set i (some (d, false)) else env)
    | _ => .err := by
  first | rfl | (simp only [ev]; done) | (simp only [ev]; rfl)
@[simp] theorem ev_cst (Γ : Ctx) (call : Nat → List (D × Bool) → CRes) (d : D) (env : Fm) : ev Γ call (.cst d) env = .ok (d, false) env := by
  first | rfl | (simp only [ev]; done) | (simp only [ev]; rfl)
@[simp] theorem ev_glb (Γ : Ctx) (call : Nat → List (D × Bool) → CRes) (g : Nat) (env : Fm) : ev Γ call (.glb g) env = Res.lift ((Γ.glb g).map fun d => (d, false)) env := by
  first | rfl | (simp only [ev]; done) | (simp only [ev]; rfl)
noncomputable def k_ev_bin2 (Γ : Ctx) (call : Nat → List (D × Bool) → CRes) (op : BOp) (x : D × Bool) (r_ : Res (D × Bool)) : Res (D × Bool) := r_.bind fun y (env : Fm) => Res.lift (biD op x.1 y.1) env
@[simp] theorem k_ev_bin2_k (Γ : Ctx) (call : Nat → List (D × Bool) → CRes) (op : BOp) (x : D × Bool) (y : D × Bool) (env : Fm) : k_ev_bin2 Γ call op x (.ok y env) = Res.lift (biD op x.1 y.1) env := rfl
@[simp] theorem k_ev_bin2_x (Γ : Ctx) (call : Nat → List (D × Bool) → CRes) (op : BOp) (x : D × Bool) (z_ : Exn) (env : Fm) : k_ev_bin2 Γ call op x (.exc z_ env) = .err := rfl
@[simp] theorem k_ev_bin2_e (Γ : Ctx) (call : Nat → List (D × Bool) → CRes) (op : BOp) (x : D × Bool) : k_ev_bin2 Γ call op x .err = .err := rfl
noncomputable def k_ev_bin1 (Γ : Ctx) (call : Nat → List (D × Bool) → CRes) (op : BOp) (b : E) (r_ : Res (D × Bool)) : Res (D × Bool) := r_.bind fun x (env : Fm) =>  k_ev_bin2 Γ call op x (ev Γ call b env)
@[simp] theorem k_ev_bin1_k (Γ : Ctx) (call : Nat → List (D × Bool) → CRes) (op : BOp) (b : E) (x : D × Bool) (env : Fm) : k_ev_bin1 Γ call op b (.ok x env) =  k_ev_bin2 Γ call op x (ev Γ call b env) := rfl
@[simp] theorem k_ev_bin1_x (Γ : Ctx) (call : Nat → List (D × Bool) → CRes) (op : BOp) (b : E) (z_ : Exn) (env : Fm) : k_ev_bin1 Γ call op b (.exc z_ env) = .err := rfl
@[simp] theorem k_ev_bin1_e (Γ : Ctx) (call : Nat → List (D × Bool) → CRes) (op : BOp) (b : E) : k_ev_bin1 Γ call op b .err = .err := rfl
@[simp] theorem ev_bin (Γ : Ctx) (call : Nat → List (D × Bool) → CRes) (op : BOp) (a : E) (b : E) (env : Fm) : ev Γ call (.bin op a b) env =  k_ev_bin1 Γ call op b (ev Γ call a env) := by
  first | rfl | (simp only [ev]; done) | (simp only [ev]; rfl)
noncomputable def k_ev_neg1 (Γ : Ctx) (call : Nat → List (D × Bool) → CRes) (r_ : Res (D × Bool)) : Res (D × Bool) := r_.bind fun x (env : Fm) => match x.1 with | .int i => .ok (.int (-i), false) env | _ => .err
@[simp] theorem k_ev_neg1_k (Γ : Ctx) (call : Nat → List (D × Bool) → CRes) (x : D × Bool) (env : Fm) : k_ev_neg1 Γ call (.ok x env) = match x.1 with | .int i => .ok (.int (-i), false) env | _ => .err := rfl
@[simp] theorem k_ev_neg1_x (Γ : Ctx) (call : Nat → List (D × Bool) → CRes) (z_ : Exn) (env : Fm) : k_ev_neg1 Γ call (.exc z_ env) = .err := rfl
@[simp] theorem k_ev_neg1_e (Γ : Ctx) (call : Nat → List (D × Bool) → CRes) : k_ev_neg1 Γ call .err = .err := rfl
@[simp] theorem ev_neg (Γ : Ctx) (call : Nat → List (D × Bool) → CRes) (a : E) (env : Fm) : ev Γ call (.neg a) env =  k_ev_neg1 Γ call (ev Γ call a env) := by
  first | rfl | (simp only [ev]; done) | (simp only [ev]; rfl)
noncomputable def k_ev_cmp2 (Γ : Ctx) (call : Nat → List (D × Bool) → CRes) (op : COp) (b : E) (x : D × Bool) (r_ : Res (D × Bool)) : Res (D × Bool) := r_.bind fun y (env : Fm) => Res.lift ((cmD op x.1 y.1).map fun b => (.bl b, false)) env
@[simp] theorem k_ev_cmp2_k (Γ : Ctx) (call : Nat → List (D × Bool) → CRes) (op : COp) (b : E) (x : D × Bool) (y : D × Bool) (env : Fm) : k_ev_cmp2 Γ call op b x (.ok y env) = Res.lift ((cmD op x.1 y.1).map fun b => (.bl b, false)) env := rfl
@[simp] theorem k_ev_cmp2_x (Γ : Ctx) (call : Nat → List (D × Bool) → CRes) (op : COp) (b : E) (x : D × Bool) (z_ : Exn) (env : Fm) : k_ev_cmp2 Γ call op b x (.exc z_ env) = .err := rfl
@[simp] theorem k_ev_cmp2_e (Γ : Ctx) (call : Nat → List (D × Bool) → CRes) (op : COp) (b : E) (x : D × Bool) : k_ev_cmp2 Γ call op b x .err = .err := rfl
noncomputable def k_ev_cmp1 (Γ : Ctx) (call : Nat → List (D × Bool) → CRes) (op : COp) (b : E) (r_ : Res (D × Bool)) : Res (D × Bool) := r_.bind fun x (env : Fm) =>  k_ev_cmp2 Γ call op b x (ev Γ call b env)
@[simp] theorem k_ev_cmp1_k (Γ : Ctx) (call : Nat → List (D × Bool) → CRes) (op : COp) (b : E) (x : D × Bool) (env : Fm) : k_ev_cmp1 Γ call op b (.ok x env) =  k_ev_cmp2 Γ call op b x (ev Γ call b env) := rfl
@[simp] theorem k_ev_cmp1_x (Γ : Ctx) (call : Nat → List (D × Bool) → CRes) (op : COp) (b : E) (z_ : Exn) (env : Fm) : k_ev_cmp1 Γ call op b (.exc z_ env) = .err := rfl
@[simp] theorem k_ev_cmp1_e (Γ : Ctx) (call : Nat → List (D × Bool) → CRes) (op : COp) (b : E) : k_ev_cmp1 Γ call op b .err = .err := rfl
@[simp] theorem ev_cmp (Γ : Ctx) (call : Nat → List (D × Bool) → CRes) (op : COp) (a : E) (b : E) (env : Fm) : ev Γ call (.cmp op a b) env =  k_ev_cmp1 Γ call op b (ev Γ call a env) := by
  first | rfl | (simp only [ev]; done) | (simp only [ev]; rfl)
noncomputable def k_ev_cmpv2 (Γ : Ctx) (call : Nat → List (D × Bool) → CRes) (op : COp) (x : Nat) (b : E) (r_ : Res (D × Bool)) : Res (D × Bool) := r_.bind fun y (env : Fm) => Res.lift ((rdv x env).bind fun d => (cmD op d y.1).map fun b => (.bl b, false)) env
@[simp] theorem k_ev_cmpv2_k (Γ : Ctx) (call : Nat → List (D × Bool) → CRes) (op : COp) (x : Nat) (b : E) (y : D × Bool) (env : Fm) : k_ev_cmpv2 Γ call op x b (.ok y env) = Res.lift ((rdv x env).bind fun d => (cmD op d y.1).map fun b => (.bl b, false)) env := rfl
@[simp] theorem k_ev_cmpv2_x (Γ : Ctx) (call : Nat → List (D × Bool) → CRes) (op : COp) (x : Nat) (b : E) (z_ : Exn) (env : Fm) : k_ev_cmpv2 Γ call op x b (.exc z_ env) = .err := rfl
@[simp] theorem k_ev_cmpv2_e (Γ : Ctx) (call : Nat → List (D × Bool) → CRes) (op : COp) (x : Nat) (b : E) : k_ev_cmpv2 Γ call op x b .err = .err := rfl
noncomputable def k_ev_cmpv1 (Γ : Ctx) (call : Nat → List (D × Bool) → CRes) (op : COp) (x : Nat) (b : E) (r_ : Res (D)) : Res (D × Bool) := r_.bind fun _ (env : Fm) =>  k_ev_cmpv2 Γ call op x b (ev Γ call b env)
@[simp] theorem k_ev_cmpv1_k (Γ : Ctx) (call : Nat → List (D × Bool) → CRes) (op : COp) (x : Nat) (b : E) (v_ : D) (env : Fm) : k_ev_cmpv1 Γ call op x b (.ok v_ env) =  k_ev_cmpv2 Γ call op x b (ev Γ call b env) := rfl
@[simp] theorem k_ev_cmpv1_x (Γ : Ctx) (call : Nat → List (D × Bool) → CRes) (op : COp) (x : Nat) (b : E) (z_ : Exn) (env : Fm) : k_ev_cmpv1 Γ call op x b (.exc z_ env) = .err := rfl
@[simp] theorem k_ev_cmpv1_e (Γ : Ctx) (call : Nat → List (D × Bool) → CRes) (op : COp) (x : Nat) (b : E) : k_ev_cmpv1 Γ call op x b .err = .err := rfl
@[simp] theorem ev_cmpv (Γ : Ctx) (call : Nat → List (D × Bool) → CRes) (op : COp) (x : Nat) (b : E) (env : Fm) : ev Γ call (.cmpv op x b) env =  k_ev_cmpv1 Γ call op x b (Res.lift (rdv x env) env) := by
  first | rfl | (simp only [ev]; done) | (simp only [ev]; rfl)
noncomputable def k_ev_chn3 (Γ : Ctx) (call : Nat → List (D × Bool) → CRes) (p : COp) (b : E) (y : D × Bool) (r_ : Res (D × Bool)) : Res (D × Bool) := r_.bind fun z (env : Fm) => Res.lift ((cmD p y.1 z.1).map fun b => (.bl b, false)) env
@[simp] theorem k_ev_chn3_k (Γ : Ctx) (call : Nat → List (D × Bool) → CRes) (p : COp) (b : E) (y : D × Bool) (z : D × Bool) (env : Fm) : k_ev_chn3 Γ call p b y (.ok z env) = Res.lift ((cmD p y.1 z.1).map fun b => (.bl b, false)) env := rfl
@[simp] theorem k_ev_chn3_x (Γ : Ctx) (call : Nat → List (D × Bool) → CRes) (p : COp) (b : E) (y : D × Bool) (z_ : Exn) (env : Fm) : k_ev_chn3 Γ call p b y (.exc z_ env) = .err := rfl
@[simp] theorem k_ev_chn3_e (Γ : Ctx) (call : Nat → List (D × Bool) → CRes) (p : COp) (b : E) (y : D × Bool) : k_ev_chn3 Γ call p b y .err = .err := rfl
noncomputable def k_ev_chn2 (Γ : Ctx) (call : Nat → List (D × Bool) → CRes) (o : COp) (p : COp) (b : E) (c : E) (x : D × Bool) (r_ : Res (D × Bool)) : Res (D × Bool) := r_.bind fun y (env : Fm) =>
      match cmD o x.1 y.1 with
      | some true =>  k_ev_chn3 Γ call p b y (ev Γ call c env)
      | some false => .ok (.bl false, false) env
      | none => .err
@[simp] theorem k_ev_chn2_k (Γ : Ctx) (call : Nat → List (D × Bool) → CRes) (o : COp) (p : COp) (b : E) (c : E) (x : D × Bool) (y : D × Bool) (env : Fm) : k_ev_chn2 Γ call o p b c x (.ok y env) =
      match cmD o x.1 y.1 with
      | some true =>  k_ev_chn3 Γ call p b y (ev Γ call c env)
      | some false => .ok (.bl false, false) env
      | none => .err := rfl
@[simp] theorem k_ev_chn2_x (Γ : Ctx) (call : Nat → List (D × Bool) → CRes) (o : COp) (p : COp) (b : E) (c : E) (x : D × Bool) (z_ : Exn) (env : Fm) : k_ev_chn2 Γ call o p b c x (.exc z_ env) = .err := rfl
@[simp] theorem k_ev_chn2_e (Γ : Ctx) (call : Nat → List (D × Bool) → CRes) (o : COp) (p : COp) (b : E) (c : E) (x : D × Bool) : k_ev_chn2 Γ call o p b c x .err = .err := rfl
noncomputable def k_ev_chn1 (Γ : Ctx) (call : Nat → List (D × Bool) → CRes) (o : COp) (p : COp) (b : E) (c : E) (r_ : Res (D × Bool)) : Res (D × Bool) := r_.bind fun x (env : Fm) =>  k_ev_chn2 Γ call o p b c x (ev Γ call b env)
@[simp] theorem k_ev_chn1_k (Γ : Ctx) (call : Nat → List (D × Bool) → CRes) (o : COp) (p : COp) (b : E) (c : E) (x : D × Bool) (env : Fm) : k_ev_chn1 Γ call o p b c (.ok x env) =  k_ev_chn2 Γ call o p b c x (ev Γ call b env) := rfl
@[simp] theorem k_ev_chn1_x (Γ : Ctx) (call : Nat → List (D × Bool) → CRes) (o : COp) (p : COp) (b : E) (c : E) (z_ : Exn) (env : Fm) : k_ev_chn1 Γ call o p b c (.exc z_ env) = .err := rfl
@[simp] theorem k_ev_chn1_e (Γ : Ctx) (call : Nat → List (D × Bool) → CRes) (o : COp) (p : COp) (b : E) (c : E) : k_ev_chn1 Γ call o p b c .err = .err := rfl
@[simp] theorem ev_chn (Γ : Ctx) (call : Nat → List (D × Bool) → CRes) (o : COp) (p : COp) (a : E) (b : E) (c : E) (env : Fm) : ev Γ call (.chn o p a b c) env =  k_ev_chn1 Γ call o p b c (ev Γ call a env) := by
  first | rfl | (simp only [ev]; done) | (simp only [ev]; rfl)
noncomputable def k_ev_din2 (Γ : Ctx) (call : Nat → List (D × Bool) → CRes) (neg : Bool) (x : D × Bool) (r_ : Res (D × Bool)) : Res (D × Bool) := r_.bind fun y (env : Fm) =>
      match x.1, y.1 with
      | .int k, .dic ks _ => .ok (.bl (if neg = true then !decide (k ∈ ks) else decide (k ∈ ks)), false) env
      | _, _ => .err
@[simp] theorem k_ev_din2_k (Γ : Ctx) (call : Nat → List (D × Bool) → CRes) (neg : Bool) (x : D × Bool) (y : D × Bool) (env : Fm) : k_ev_din2 Γ call neg x (.ok y env) =
      match x.1, y.1 with
      | .int k, .dic ks _ => .ok (.bl (if neg = true then !decide (k ∈ ks) else decide (k ∈ ks)), false) env
      | _, _ => .err := rfl
@[simp] theorem k_ev_din2_x (Γ : Ctx) (call : Nat → List (D × Bool) → CRes) (neg : Bool) (x : D × Bool) (z_ : Exn) (env : Fm) : k_ev_din2 Γ call neg x (.exc z_ env) = .err := rfl
@[simp] theorem k_ev_din2_e (Γ : Ctx) (call : Nat → List (D × Bool) → CRes) (neg : Bool) (x : D × Bool) : k_ev_din2 Γ call neg x .err = .err := rfl
noncomputable def k_ev_din1 (Γ : Ctx) (call : Nat → List (D × Bool) → CRes) (neg : Bool) (b : E) (r_ : Res (D × Bool)) : Res (D × Bool) := r_.bind fun x (env : Fm) =>  k_ev_din2 Γ call neg x (ev Γ call b env)
@[simp] theorem k_ev_din1_k (Γ : Ctx) (call : Nat → List (D × Bool) → CRes) (neg : Bool) (b : E) (x : D × Bool) (env : Fm) : k_ev_din1 Γ call neg b (.ok x env) =  k_ev_din2 Γ call neg x (ev Γ call b env) := rfl
@[simp] theorem k_ev_din1_x (Γ : Ctx) (call : Nat → List (D × Bool) → CRes) (neg : Bool) (b : E) (z_ : Exn) (env : Fm) : k_ev_din1 Γ call neg b (.exc z_ env) = .err := rfl
@[simp] theorem k_ev_din1_e (Γ : Ctx) (call : Nat → List (D × Bool) → CRes) (neg : Bool) (b : E) : k_ev_din1 Γ call neg b .err = .err := rfl
@[simp] theorem ev_din (Γ : Ctx) (call : Nat → List (D × Bool) → CRes) (neg : Bool) (a : E) (b : E) (env : Fm) : ev Γ call (.din neg a b) env =  k_ev_din1 Γ call neg b (ev Γ call a env) := by
  first | rfl | (simp only [ev]; done) | (simp only [ev]; rfl)
noncomputable def k_ev_and1 (Γ : Ctx) (call : Nat → List (D × Bool) → CRes) (b : E) (r_ : Res (D × Bool)) : Res (D × Bool) := r_.bind fun x (env : Fm) => match x.1 with | .bl true => ev Γ call b env | .bl false => .ok (.bl false, false) env | _ => .err
@[simp] theorem k_ev_and1_k (Γ : Ctx) (call : Nat → List (D × Bool) → CRes) (b : E) (x : D × Bool) (env : Fm) : k_ev_and1 Γ call b (.ok x env) = match x.1 with | .bl true => ev Γ call b env | .bl false => .ok (.bl false, false) env | _ => .err := rfl
@[simp] theorem k_ev_and1_x (Γ : Ctx) (call : Nat → List (D × Bool) → CRes) (b : E) (z_ : Exn) (env : Fm) : k_ev_and1 Γ call b (.exc z_ env) = .err := rfl
@[simp] theorem k_ev_and1_e (Γ : Ctx) (call : Nat → List (D × Bool) → CRes) (b : E) : k_ev_and1 Γ call b .err = .err := rfl
@[simp] theorem ev_and (Γ : Ctx) (call : Nat → List (D × Bool) → CRes) (a : E) (b : E) (env : Fm) : ev Γ call (.and a b) env =  k_ev_and1 Γ call b (ev Γ call a env) := by
  first | rfl | (simp only [ev]; done) | (simp only [ev]; rfl)
noncomputable def k_ev_or1 (Γ : Ctx) (call : Nat → List (D × Bool) → CRes) (b : E) (r_ : Res (D × Bool)) : Res (D × Bool) := r_.bind fun x (env : Fm) => match x.1 with | .bl true => .ok (.bl true, false) env | .bl false => ev Γ call b env | _ => .err
@[simp] theorem k_ev_or1_k (Γ : Ctx) (call : Nat → List (D × Bool) → CRes) (b : E) (x : D × Bool) (env : Fm) : k_ev_or1 Γ call b (.ok x env) = match x.1 with | .bl true => .ok (.bl true, false) env | .bl false => ev Γ call b env | _ => .err := rfl
@[simp] theorem k_ev_or1_x (Γ : Ctx) (call : Nat → List (D × Bool) → CRes) (b : E) (z_ : Exn) (env : Fm) : k_ev_or1 Γ call b (.exc z_ env) = .err := rfl
@[simp] theorem k_ev_or1_e (Γ : Ctx) (call : Nat → List (D × Bool) → CRes) (b : E) : k_ev_or1 Γ call b .err = .err := rfl
@[simp] theorem ev_or (Γ : Ctx) (call : Nat → List (D × Bool) → CRes) (a : E) (b : E) (env : Fm) : ev Γ call (.or a b) env =  k_ev_or1 Γ call b (ev Γ call a env) := by
  first | rfl | (simp only [ev]; done) | (simp only [ev]; rfl)
noncomputable def k_ev_not1 (Γ : Ctx) (call : Nat → List (D × Bool) → CRes) (r_ : Res (D × Bool)) : Res (D × Bool) := r_.bind fun x (env : Fm) => match x.1 with | .bl b => .ok (.bl (!b), false) env | _ => .err
@[simp] theorem k_ev_not1_k (Γ : Ctx) (call : Nat → List (D × Bool) → CRes) (x : D × Bool) (env : Fm) : k_ev_not1 Γ call (.ok x env) = match x.1 with | .bl b => .ok (.bl (!b), false) env | _ => .err := rfl
@[simp] theorem k_ev_not1_x (Γ : Ctx) (call : Nat → List (D × Bool) → CRes) (z_ : Exn) (env : Fm) : k_ev_not1 Γ call (.exc z_ env) = .err := rfl
@[simp] theorem k_ev_not1_e (Γ : Ctx) (call : Nat → List (D × Bool) → CRes) : k_ev_not1 Γ call .err = .err := rfl
@[simp] theorem ev_not (Γ : Ctx) (call : Nat → List (D × Bool) → CRes) (a : E) (env : Fm) : ev Γ call (.not a) env =  k_ev_not1 Γ call (ev Γ call a env) := by
  first | rfl | (simp only [ev]; done) | (simp only [ev]; rfl)
noncomputable def k_ev_ifx1 (Γ : Ctx) (call : Nat → List (D × Bool) → CRes) (a : E) (b : E) (r_ : Res (D × Bool)) : Res (D × Bool) := r_.bind fun x (env : Fm) => match x.1 with | .bl true => ev Γ call a env | .bl false => ev Γ call b env | _ => .err
@[simp] theorem k_ev_ifx1_k (Γ : Ctx) (call : Nat → List (D × Bool) → CRes) (a : E) (b : E) (x : D × Bool) (env : Fm) : k_ev_ifx1 Γ call a b (.ok x env) = match x.1 with | .bl true => ev Γ call a env | .bl false => ev Γ call b env | _ => .err := rfl
@[simp] theorem k_ev_ifx1_x (Γ : Ctx) (call : Nat → List (D × Bool) → CRes) (a : E) (b : E) (z_ : Exn) (env : Fm) : k_ev_ifx1 Γ call a b (.exc z_ env) = .err := rfl
@[simp] theorem k_ev_ifx1_e (Γ : Ctx) (call : Nat → List (D × Bool) → CRes) (a : E) (b : E) : k_ev_ifx1 Γ call a b .err = .err := rfl
@[simp] theorem ev_ifx (Γ : Ctx) (call : Nat → List (D × Bool) → CRes) (c : E) (a : E) (b : E) (env : Fm) : ev Γ call (.ifx c a b) env =  k_ev_ifx1 Γ call a b (ev Γ call c env) := by
  first | rfl | (simp only [ev]; done) | (simp only [ev]; rfl)
noncomputable def k_ev_tup1 (Γ : Ctx) (call : Nat → List (D × Bool) → CRes) (r_ : Res (List D)) : Res (D × Bool) := r_.bind fun ds (env : Fm) => if ds.length ≤ LIM then .ok (.tup ds, false) env else .err
@[simp] theorem k_ev_tup1_k (Γ : Ctx) (call : Nat → List (D × Bool) → CRes) (ds : List D) (env : Fm) : k_ev_tup1 Γ call (.ok ds env) = if ds.length ≤ LIM then .ok (.tup ds, false) env else .err := rfl
@[simp] theorem k_ev_tup1_x (Γ : Ctx) (call : Nat → List (D × Bool) → CRes) (z_ : Exn) (env : Fm) : k_ev_tup1 Γ call (.exc z_ env) = .err := rfl
@[simp] theorem k_ev_tup1_e (Γ : Ctx) (call : Nat → List (D × Bool) → CRes) : k_ev_tup1 Γ call .err = .err := rfl
@[simp] theorem ev_tup (Γ : Ctx) (call : Nat → List (D × Bool) → CRes) (es : Es) (env : Fm) : ev Γ call (.tup es) env =  k_ev_tup1 Γ call (evs Γ call es env) := by
  first | rfl | (simp only [ev]; done) | (simp only [ev]; rfl)
noncomputable def k_ev_lst1 (Γ : Ctx) (call : Nat → List (D × Bool) → CRes) (r_ : Res (List D)) : Res (D × Bool) := r_.bind fun ds (env : Fm) => if ds.length ≤ LIM then .ok (.lst ds, true) env else .err
@[simp] theorem k_ev_lst1_k (Γ : Ctx) (call : Nat → List (D × Bool) → CRes) (ds : List D) (env : Fm) : k_ev_lst1 Γ call (.ok ds env) = if ds.length ≤ LIM then .ok (.lst ds, true) env else .err := rfl
@[simp] theorem k_ev_lst1_x (Γ : Ctx) (call : Nat → List (D × Bool) → CRes) (z_ : Exn) (env : Fm) : k_ev_lst1 Γ call (.exc z_ env) = .err := rfl
@[simp] theorem k_ev_lst1_e (Γ : Ctx) (call : Nat → List (D × Bool) → CRes) : k_ev_lst1 Γ call .err = .err := rfl
@[simp] theorem ev_lst (Γ : Ctx) (call : Nat → List (D × Bool) → CRes) (es : Es) (env : Fm) : ev Γ call (.lst es) env =  k_ev_lst1 Γ call (evs Γ call es env) := by
  first | rfl | (simp only [ev]; done) | (simp only [ev]; rfl)
noncomputable def k_ev_idx2 (Γ : Ctx) (call : Nat → List (D × Bool) → CRes) (x : D × Bool) (r_ : Res (D × Bool)) : Res (D × Bool) := r_.bind fun y (env : Fm) => Res.lift ((ixD x.1 y.1).map fun d => (d, false)) env
@[simp] theorem k_ev_idx2_k (Γ : Ctx) (call : Nat → List (D × Bool) → CRes) (x : D × Bool) (y : D × Bool) (env : Fm) : k_ev_idx2 Γ call x (.ok y env) = Res.lift ((ixD x.1 y.1).map fun d => (d, false)) env := rfl
@[simp] theorem k_ev_idx2_x (Γ : Ctx) (call : Nat → List (D × Bool) → CRes) (x : D × Bool) (z_ : Exn) (env : Fm) : k_ev_idx2 Γ call x (.exc z_ env) = .err := rfl
@[simp] theorem k_ev_idx2_e (Γ : Ctx) (call : Nat → List (D × Bool) → CRes) (x : D × Bool) : k_ev_idx2 Γ call x .err = .err := rfl
noncomputable def k_ev_idx1 (Γ : Ctx) (call : Nat → List (D × Bool) → CRes) (i : E) (r_ : Res (D × Bool)) : Res (D × Bool) := r_.bind fun x (env : Fm) =>  k_ev_idx2 Γ call x (ev Γ call i env)
@[simp] theorem k_ev_idx1_k (Γ : Ctx) (call : Nat → List (D × Bool) → CRes) (i : E) (x : D × Bool) (env : Fm) : k_ev_idx1 Γ call i (.ok x env) =  k_ev_idx2 Γ call x (ev Γ call i env) := rfl
@[simp] theorem k_ev_idx1_x (Γ : Ctx) (call : Nat → List (D × Bool) → CRes) (i : E) (z_ : Exn) (env : Fm) : k_ev_idx1 Γ call i (.exc z_ env) = .err := rfl
@[simp] theorem k_ev_idx1_e (Γ : Ctx) (call : Nat → List (D × Bool) → CRes) (i : E) : k_ev_idx1 Γ call i .err = .err := rfl
@[simp] theorem ev_idx (Γ : Ctx) (call : Nat → List (D × Bool) → CRes) (a : E) (i : E) (env : Fm) : ev Γ call (.idx a i) env =  k_ev_idx1 Γ call i (ev Γ call a env) := by
  first | rfl | (simp only [ev]; done) | (simp only [ev]; rfl)
noncomputable def k_ev_idxv2 (Γ : Ctx) (call : Nat → List (D × Bool) → CRes) (x : Nat) (r_ : Res (D × Bool)) : Res (D × Bool) := r_.bind fun y (env : Fm) => Res.lift ((rdv x env).bind fun d => (ixD d y.1).map fun d => (d, false)) env
@[simp] theorem k_ev_idxv2_k (Γ : Ctx) (call : Nat → List (D × Bool) → CRes) (x : Nat) (y : D × Bool) (env : Fm) : k_ev_idxv2 Γ call x (.ok y env) = Res.lift ((rdv x env).bind fun d => (ixD d y.1).map fun d => (d, false)) env := rfl
@[simp] theorem k_ev_idxv2_x (Γ : Ctx) (call : Nat → List (D × Bool) → CRes) (x : Nat) (z_ : Exn) (env : Fm) : k_ev_idxv2 Γ call x (.exc z_ env) = .err := rfl
@[simp] theorem k_ev_idxv2_e (Γ : Ctx) (call : Nat → List (D × Bool) → CRes) (x : Nat) : k_ev_idxv2 Γ call x .err = .err := rfl
noncomputable def k_ev_idxv1 (Γ : Ctx) (call : Nat → List (D × Bool) → CRes) (x : Nat) (i : E) (r_ : Res (D)) : Res (D × Bool) := r_.bind fun _ (env : Fm) =>  k_ev_idxv2 Γ call x (ev Γ call i env)
@[simp] theorem k_ev_idxv1_k (Γ : Ctx) (call : Nat → List (D × Bool) → CRes) (x : Nat) (i : E) (v_ : D) (env : Fm) : k_ev_idxv1 Γ call x i (.ok v_ env) =  k_ev_idxv2 Γ call x (ev Γ call i env) := rfl
@[simp] theorem k_ev_idxv1_x (Γ : Ctx) (call : Nat → List (D × Bool) → CRes) (x : Nat) (i : E) (z_ : Exn) (env : Fm) : k_ev_idxv1 Γ call x i (.exc z_ env) = .err := rfl
@[simp] theorem k_ev_idxv1_e (Γ : Ctx) (call : Nat → List (D × Bool) → CRes) (x : Nat) (i : E) : k_ev_idxv1 Γ call x i .err = .err := rfl
@[simp] theorem ev_idxv (Γ : Ctx) (call : Nat → List (D × Bool) → CRes) (x : Nat) (i : E) (env : Fm) : ev Γ call (.idxv x i) env =  k_ev_idxv1 Γ call x i (Res.lift (rdv x env) env) := by
  first | rfl | (simp only [ev]; done) | (simp only [ev]; rfl)
noncomputable def k_ev_slc3 (Γ : Ctx) (call : Nat → List (D × Bool) → CRes) (x : D × Bool) (l : Option Int) (r_ : Res (Option Int)) : Res (D × Bool) := r_.bind fun h (env : Fm) => Res.lift (slD x.1 l h) env
@[simp] theorem k_ev_slc3_k (Γ : Ctx) (call : Nat → List (D × Bool) → CRes) (x : D × Bool) (l : Option Int) (h : Option Int) (env : Fm) : k_ev_slc3 Γ call x l (.ok h env) = Res.lift (slD x.1 l h) env := rfl
@[simp] theorem k_ev_slc3_x (Γ : Ctx) (call : Nat → List (D × Bool) → CRes) (x : D × Bool) (l : Option Int) (z_ : Exn) (env : Fm) : k_ev_slc3 Γ call x l (.exc z_ env) = .err := rfl
@[simp] theorem k_ev_slc3_e (Γ : Ctx) (call : Nat → List (D × Bool) → CRes) (x : D × Bool) (l : Option Int) : k_ev_slc3 Γ call x l .err = .err := rfl
noncomputable def k_ev_slc2 (Γ : Ctx) (call : Nat → List (D × Bool) → CRes) (hi : O) (x : D × Bool) (r_ : Res (Option Int)) : Res (D × Bool) := r_.bind fun l (env : Fm) =>  k_ev_slc3 Γ call x l (evo Γ call hi env)
@[simp] theorem k_ev_slc2_k (Γ : Ctx) (call : Nat → List (D × Bool) → CRes) (hi : O) (x : D × Bool) (l : Option Int) (env : Fm) : k_ev_slc2 Γ call hi x (.ok l env) =  k_ev_slc3 Γ call x l (evo Γ call hi env) := rfl
@[simp] theorem k_ev_slc2_x (Γ : Ctx) (call : Nat → List (D × Bool) → CRes) (hi : O) (x : D × Bool) (z_ : Exn) (env : Fm) : k_ev_slc2 Γ call hi x (.exc z_ env) = .err := rfl
@[simp] theorem k_ev_slc2_e (Γ : Ctx) (call : Nat → List (D × Bool) → CRes) (hi : O) (x : D × Bool) : k_ev_slc2 Γ call hi x .err = .err := rfl
noncomputable def k_ev_slc1 (Γ : Ctx) (call : Nat → List (D × Bool) → CRes) (lo : O) (hi : O) (r_ : Res (D × Bool)) : Res (D × Bool) := r_.bind fun x (env : Fm) =>  k_ev_slc2 Γ call hi x (evo Γ call lo env)
@[simp] theorem k_ev_slc1_k (Γ : Ctx) (call : Nat → List (D × Bool) → CRes) (lo : O) (hi : O) (x : D × Bool) (env : Fm) : k_ev_slc1 Γ call lo hi (.ok x env) =  k_ev_slc2 Γ call hi x (evo Γ call lo env) := rfl
@[simp] theorem k_ev_slc1_x (Γ : Ctx) (call : Nat → List (D × Bool) → CRes) (lo : O) (hi : O) (z_ : Exn) (env : Fm) : k_ev_slc1 Γ call lo hi (.exc z_ env) = .err := rfl
@[simp] theorem k_ev_slc1_e (Γ : Ctx) (call : Nat → List (D × Bool) → CRes) (lo : O) (hi : O) : k_ev_slc1 Γ call lo hi .err = .err := rfl
@[simp] theorem ev_slc (Γ : Ctx) (call : Nat → List (D × Bool) → CRes) (a : E) (lo : O) (hi : O) (env : Fm) : ev Γ call (.slc a lo hi) env =  k_ev_slc1 Γ call lo hi (ev Γ call a env) := by
  first | rfl | (simp only [ev]; done) | (simp only [ev]; rfl)
@[simp] theorem ev_atr (Γ : Ctx) (call : Nat → List (D × Bool) → CRes) (p : E) (f : Nat) (env : Fm) : ev Γ call (.atr p f) env =
    match pth Γ (.atr p f) env with
    | some (d, o) => .ok (d, false) (if o = true then frzS (rtP p) env else env)
    | none => .err := by
  first | rfl | (simp only [ev]; done) | (simp only [ev]; rfl)
noncomputable def k_ev_isI1 (Γ : Ctx) (call : Nat → List (D × Bool) → CRes) (ts : List Ty) (r_ : Res (D × Bool)) : Res (D × Bool) := r_.bind fun x (env : Fm) => Res.lift ((tyD x.1).map fun l => (.bl (ts.any fun t => l.contains t), false)) env
@[simp] theorem k_ev_isI1_k (Γ : Ctx) (call : Nat → List (D × Bool) → CRes) (ts : List Ty) (x : D × Bool) (env : Fm) : k_ev_isI1 Γ call ts (.ok x env) = Res.lift ((tyD x.1).map fun l => (.bl (ts.any fun t => l.contains t), false)) env := rfl
@[simp] theorem k_ev_isI1_x (Γ : Ctx) (call : Nat → List (D × Bool) → CRes) (ts : List Ty) (z_ : Exn) (env : Fm) : k_ev_isI1 Γ call ts (.exc z_ env) = .err := rfl
@[simp] theorem k_ev_isI1_e (Γ : Ctx) (call : Nat → List (D × Bool) → CRes) (ts : List Ty) : k_ev_isI1 Γ call ts .err = .err := rfl
@[simp] theorem ev_isI (Γ : Ctx) (call : Nat → List (D × Bool) → CRes) (a : E) (ts : List Ty) (env : Fm) : ev Γ call (.isI a ts) env =  k_ev_isI1 Γ call ts (ev Γ call a env) := by
  first | rfl | (simp only [ev]; done) | (simp only [ev]; rfl)
noncomputable def k_ev_bi1 (Γ : Ctx) (call : Nat → List (D × Bool) → CRes) (b : Bi) (r_ : Res (List D)) : Res (D × Bool) := r_.bind fun ds (env : Fm) => Res.lift (biF b ds) env
@[simp] theorem k_ev_bi1_k (Γ : Ctx) (call : Nat → List (D × Bool) → CRes) (b : Bi) (ds : List D) (env : Fm) : k_ev_bi1 Γ call b (.ok ds env) = Res.lift (biF b ds) env := rfl
@[simp] theorem k_ev_bi1_x (Γ : Ctx) (call : Nat → List (D × Bool) → CRes) (b : Bi) (z_ : Exn) (env : Fm) : k_ev_bi1 Γ call b (.exc z_ env) = .err := rfl
@[simp] theorem k_ev_bi1_e (Γ : Ctx) (call : Nat → List (D × Bool) → CRes) (b : Bi) : k_ev_bi1 Γ call b .err = .err := rfl
@[simp] theorem ev_bi (Γ : Ctx) (call : Nat → List (D × Bool) → CRes) (b : Bi) (es : Es) (env : Fm) : ev Γ call (.bi b es) env =  k_ev_bi1 Γ call b (evs Γ call es env) := by
  first | rfl | (simp only [ev]; done) | (simp only [ev]; rfl)
@[simp] theorem ev_lenp (Γ : Ctx) (call : Nat → List (D × Bool) → CRes) (p : E) (env : Fm) : ev Γ call (.lenp p) env = Res.lift ((pth Γ p env).bind fun x => biF .len [x.1]) env := by
  first | rfl | (simp only [ev]; done) | (simp only [ev]; rfl)
noncomputable def k_ev_bm2 (Γ : Ctx) (call : Nat → List (D × Bool) → CRes) (m : Bm) (x : D × Bool) (r_ : Res (D × Bool)) : Res (D × Bool) := r_.bind fun y (env : Fm) => Res.lift (bmF m x.1 [y.1]) env
@[simp] theorem k_ev_bm2_k (Γ : Ctx) (call : Nat → List (D × Bool) → CRes) (m : Bm) (x : D × Bool) (y : D × Bool) (env : Fm) : k_ev_bm2 Γ call m x (.ok y env) = Res.lift (bmF m x.1 [y.1]) env := rfl
@[simp] theorem k_ev_bm2_x (Γ : Ctx) (call : Nat → List (D × Bool) → CRes) (m : Bm) (x : D × Bool) (z_ : Exn) (env : Fm) : k_ev_bm2 Γ call m x (.exc z_ env) = .err := rfl
@[simp] theorem k_ev_bm2_e (Γ : Ctx) (call : Nat → List (D × Bool) → CRes) (m : Bm) (x : D × Bool) : k_ev_bm2 Γ call m x .err = .err := rfl
noncomputable def k_ev_bm1 (Γ : Ctx) (call : Nat → List (D × Bool) → CRes) (m : Bm) (a : E) (r_ : Res (D × Bool)) : Res (D × Bool) := r_.bind fun x (env : Fm) =>  k_ev_bm2 Γ call m x (ev Γ call a env)
@[simp] theorem k_ev_bm1_k (Γ : Ctx) (call : Nat → List (D × Bool) → CRes) (m : Bm) (a : E) (x : D × Bool) (env : Fm) : k_ev_bm1 Γ call m a (.ok x env) =  k_ev_bm2 Γ call m x (ev Γ call a env) := rfl
@[simp] theorem k_ev_bm1_x (Γ : Ctx) (call : Nat → List (D × Bool) → CRes) (m : Bm) (a : E) (z_ : Exn) (env : Fm) : k_ev_bm1 Γ call m a (.exc z_ env) = .err := rfl
@[simp] theorem k_ev_bm1_e (Γ : Ctx) (call : Nat → List (D × Bool) → CRes) (m : Bm) (a : E) : k_ev_bm1 Γ call m a .err = .err := rfl
@[simp] theorem ev_bm (Γ : Ctx) (call : Nat → List (D × Bool) → CRes) (m : Bm) (o : E) (a : E) (env : Fm) : ev Γ call (.bm m o a) env =  k_ev_bm1 Γ call m a (ev Γ call o env) := by
  first | rfl | (simp only [ev]; done) | (simp only [ev]; rfl)
noncomputable def k_ev_fn1 (Γ : Ctx) (call : Nat → List (D × Bool) → CRes) (f : Nat) (r_ : Res (List D)) : Res (D × Bool) := r_.bind fun ds (env : Fm) =>
      match call f ((ds ++ Γ.dfl f).map fun d => (d, false)) with
      | .ret r none => .ok r env
      | .exc x none => .exc x env
      | _ => .err
@[simp] theorem k_ev_fn1_k (Γ : Ctx) (call : Nat → List (D × Bool) → CRes) (f : Nat) (ds : List D) (env : Fm) : k_ev_fn1 Γ call f (.ok ds env) =
      match call f ((ds ++ Γ.dfl f).map fun d => (d, false)) with
      | .ret r none => .ok r env
      | .exc x none => .exc x env
      | _ => .err := rfl
@[simp] theorem k_ev_fn1_x (Γ : Ctx) (call : Nat → List (D × Bool) → CRes) (f : Nat) (z_ : Exn) (env : Fm) : k_ev_fn1 Γ call f (.exc z_ env) = .err := rfl
@[simp] theorem k_ev_fn1_e (Γ : Ctx) (call : Nat → List (D × Bool) → CRes) (f : Nat) : k_ev_fn1 Γ call f .err = .err := rfl
@[simp] theorem ev_fn (Γ : Ctx) (call : Nat → List (D × Bool) → CRes) (f : Nat) (es : Es) (env : Fm) : ev Γ call (.fn f es) env =  k_ev_fn1 Γ call f (evs Γ call es env) := by
  first | rfl | (simp only [ev]; done) | (simp only [ev]; rfl)
noncomputable def k_ev_fnv2 (Γ : Ctx) (call : Nat → List (D × Bool) → CRes) (f : Nat) (x : Nat) (r_ : Res (List D)) : Res (D × Bool) := r_.bind fun ds (env : Fm) =>
      match env[x]? with
      | some (some (d, true)) =>
        match call f ((d, true) :: (ds ++ Γ.dfl f).map fun d => (d, false)) with
        | .ret r (some d') => .ok r (env.set x (some (d', true)))
        | .exc z (some d') => .exc z (env.set x (some (d', true)))
        | _ => .err
      | _ => .err
@[simp] theorem k_ev_fnv2_k (Γ : Ctx) (call : Nat → List (D × Bool) → CRes) (f : Nat) (x : Nat) (ds : List D) (env : Fm) : k_ev_fnv2 Γ call f x (.ok ds env) =
      match env[x]? with
      | some (some (d, true)) =>
        match call f ((d, true) :: (ds ++ Γ.dfl f).map fun d => (d, false)) with
        | .ret r (some d') => .ok r (env.set x (some (d', true)))
        | .exc z (some d') => .exc z (env.set x (some (d', true)))
        | _ => .err
      | _ => .err := rfl
@[simp] theorem k_ev_fnv2_x (Γ : Ctx) (call : Nat → List (D × Bool) → CRes) (f : Nat) (x : Nat) (z_ : Exn) (env : Fm) : k_ev_fnv2 Γ call f x (.exc z_ env) = .err := rfl
@[simp] theorem k_ev_fnv2_e (Γ : Ctx) (call : Nat → List (D × Bool) → CRes) (f : Nat) (x : Nat) : k_ev_fnv2 Γ call f x .err = .err := rfl
noncomputable def k_ev_fnv1 (Γ : Ctx) (call : Nat → List (D × Bool) → CRes) (f : Nat) (x : Nat) (es : Es) (r_ : Res (D)) : Res (D × Bool) := r_.bind fun _ (env : Fm) =>  k_ev_fnv2 Γ call f x (evs Γ call es env)
@[simp] theorem k_ev_fnv1_k (Γ : Ctx) (call : Nat → List (D × Bool) → CRes) (f : Nat) (x : Nat) (es : Es) (v_ : D) (env : Fm) : k_ev_fnv1 Γ call f x es (.ok v_ env) =  k_ev_fnv2 Γ call f x (evs Γ call es env) := rfl
@[simp] theorem k_ev_fnv1_x (Γ : Ctx) (call : Nat → List (D × Bool) → CRes) (f : Nat) (x : Nat) (es : Es) (z_ : Exn) (env : Fm) : k_ev_fnv1 Γ call f x es (.exc z_ env) = .err := rfl
@[simp] theorem k_ev_fnv1_e (Γ : Ctx) (call : Nat → List (D × Bool) → CRes) (f : Nat) (x : Nat) (es : Es) : k_ev_fnv1 Γ call f x es .err = .err := rfl
@[simp] theorem ev_fnv (Γ : Ctx) (call : Nat → List (D × Bool) → CRes) (f : Nat) (x : Nat) (es : Es) (env : Fm) : ev Γ call (.fnv f x es) env =  k_ev_fnv1 Γ call f x es (Res.lift (rdv x env) env) := by
  first | rfl | (simp only [ev]; done) | (simp only [ev]; rfl)
noncomputable def k_ev_fnk2 (Γ : Ctx) (call : Nat → List (D × Bool) → CRes) (f : Nat) (ds : List D) (r_ : Res (D × Bool)) : Res (D × Bool) := r_.bind fun y (env : Fm) =>
      match call f ((ds ++ [y.1]).map fun d => (d, false)) with
      | .ret r none => .ok r env
      | .exc x none => .exc x env
      | _ => .err
@[simp] theorem k_ev_fnk2_k (Γ : Ctx) (call : Nat → List (D × Bool) → CRes) (f : Nat) (ds : List D) (y : D × Bool) (env : Fm) : k_ev_fnk2 Γ call f ds (.ok y env) =
      match call f ((ds ++ [y.1]).map fun d => (d, false)) with
      | .ret r none => .ok r env
      | .exc x none => .exc x env
      | _ => .err := rfl
@[simp] theorem k_ev_fnk2_x (Γ : Ctx) (call : Nat → List (D × Bool) → CRes) (f : Nat) (ds : List D) (z_ : Exn) (env : Fm) : k_ev_fnk2 Γ call f ds (.exc z_ env) = .err := rfl
@[simp] theorem k_ev_fnk2_e (Γ : Ctx) (call : Nat → List (D × Bool) → CRes) (f : Nat) (ds : List D) : k_ev_fnk2 Γ call f ds .err = .err := rfl
noncomputable def k_ev_fnk1 (Γ : Ctx) (call : Nat → List (D × Bool) → CRes) (f : Nat) (k : E) (r_ : Res (List D)) : Res (D × Bool) := r_.bind fun ds (env : Fm) =>  k_ev_fnk2 Γ call f ds (ev Γ call k env)
@[simp] theorem k_ev_fnk1_k (Γ : Ctx) (call : Nat → List (D × Bool) → CRes) (f : Nat) (k : E) (ds : List D) (env : Fm) : k_ev_fnk1 Γ call f k (.ok ds env) =  k_ev_fnk2 Γ call f ds (ev Γ call k env) := rfl
@[simp] theorem k_ev_fnk1_x (Γ : Ctx) (call : Nat → List (D × Bool) → CRes) (f : Nat) (k : E) (z_ : Exn) (env : Fm) : k_ev_fnk1 Γ call f k (.exc z_ env) = .err := rfl
@[simp] theorem k_ev_fnk1_e (Γ : Ctx) (call : Nat → List (D × Bool) → CRes) (f : Nat) (k : E) : k_ev_fnk1 Γ call f k .err = .err := rfl
@[simp] theorem ev_fnk (Γ : Ctx) (call : Nat → List (D × Bool) → CRes) (f : Nat) (es : Es) (k : E) (env : Fm) : ev Γ call (.fnk f es k) env =  k_ev_fnk1 Γ call f k (evs Γ call es env) := by
  first | rfl | (simp only [ev]; done) | (simp only [ev]; rfl)
noncomputable def k_ev_mth2 (Γ : Ctx) (call : Nat → List (D × Bool) → CRes) (x : D × Bool) (c : Nat) (fs : List Nat) (vs : List D) (f : Nat) (r_ : Res (List D)) : Res (D × Bool) := r_.bind fun ds (env : Fm) =>
          match call f ((.ins c fs vs, false) :: ds.map fun d => (d, false)) with
          | .ret r none => .ok r env
          | .exc x none => .exc x env
          | _ => .err
@[simp] theorem k_ev_mth2_k (Γ : Ctx) (call : Nat → List (D × Bool) → CRes) (x : D × Bool) (c : Nat) (fs : List Nat) (vs : List D) (f : Nat) (ds : List D) (env : Fm) : k_ev_mth2 Γ call x c fs vs f (.ok ds env) =
          match call f ((.ins c fs vs, false) :: ds.map fun d => (d, false)) with
          | .ret r none => .ok r env
          | .exc x none => .exc x env
          | _ => .err := rfl
@[simp] theorem k_ev_mth2_x (Γ : Ctx) (call : Nat → List (D × Bool) → CRes) (x : D × Bool) (c : Nat) (fs : List Nat) (vs : List D) (f : Nat) (z_ : Exn) (env : Fm) : k_ev_mth2 Γ call x c fs vs f (.exc z_ env) = .err := rfl
@[simp] theorem k_ev_mth2_e (Γ : Ctx) (call : Nat → List (D × Bool) → CRes) (x : D × Bool) (c : Nat) (fs : List Nat) (vs : List D) (f : Nat) : k_ev_mth2 Γ call x c fs vs f .err = .err := rfl
noncomputable def k_ev_mth1 (Γ : Ctx) (call : Nat → List (D × Bool) → CRes) (m : Nat) (es : Es) (r_ : Res (D × Bool)) : Res (D × Bool) := r_.bind fun x (env : Fm) =>
      match x.1 with
      | .ins c fs vs =>
        if fs.all (Γ.cf c) = true then
        match Γ.meth c m with
        | some f =>  k_ev_mth2 Γ call x c fs vs f (evs Γ call es env)
        | none => .err
        else .err
      | _ => .err
@[simp] theorem k_ev_mth1_k (Γ : Ctx) (call : Nat → List (D × Bool) → CRes) (m : Nat) (es : Es) (x : D × Bool) (env : Fm) : k_ev_mth1 Γ call m es (.ok x env) =
      match x.1 with
      | .ins c fs vs =>
        if fs.all (Γ.cf c) = true then
        match Γ.meth c m with
        | some f =>  k_ev_mth2 Γ call x c fs vs f (evs Γ call es env)
        | none => .err
        else .err
      | _ => .err := rfl
@[simp] theorem k_ev_mth1_x (Γ : Ctx) (call : Nat → List (D × Bool) → CRes) (m : Nat) (es : Es) (z_ : Exn) (env : Fm) : k_ev_mth1 Γ call m es (.exc z_ env) = .err := rfl
@[simp] theorem k_ev_mth1_e (Γ : Ctx) (call : Nat → List (D × Bool) → CRes) (m : Nat) (es : Es) : k_ev_mth1 Γ call m es .err = .err := rfl
@[simp] theorem ev_mth (Γ : Ctx) (call : Nat → List (D × Bool) → CRes) (o : E) (m : Nat) (es : Es) (env : Fm) : ev Γ call (.mth o m es) env =  k_ev_mth1 Γ call m es (ev Γ call o env) := by
  first | rfl | (simp only [ev]; done) | (simp only [ev]; rfl)
noncomputable def k_ev_mthp1 (Γ : Ctx) (call : Nat → List (D × Bool) → CRes) (i : Nat) (f : Nat) (r_ : Res (List D)) : Res (D × Bool) := r_.bind fun ds (env : Fm) =>
          match env[i]? with
          | some (some (d, true)) =>
            match call f ((d, true) :: ds.map fun d => (d, false)) with
            | .ret r (some d') => .ok r (env.set i (some (d', true)))
            | .exc z (some d') => .exc z (env.set i (some (d', true)))
            | _ => .err
          | _ => .err
@[simp] theorem k_ev_mthp1_k (Γ : Ctx) (call : Nat → List (D × Bool) → CRes) (i : Nat) (f : Nat) (ds : List D) (env : Fm) : k_ev_mthp1 Γ call i f (.ok ds env) =
          match env[i]? with
          | some (some (d, true)) =>
            match call f ((d, true) :: ds.map fun d => (d, false)) with
            | .ret r (some d') => .ok r (env.set i (some (d', true)))
            | .exc z (some d') => .exc z (env.set i (some (d', true)))
            | _ => .err
          | _ => .err := rfl
@[simp] theorem k_ev_mthp1_x (Γ : Ctx) (call : Nat → List (D × Bool) → CRes) (i : Nat) (f : Nat) (z_ : Exn) (env : Fm) : k_ev_mthp1 Γ call i f (.exc z_ env) = .err := rfl
@[simp] theorem k_ev_mthp1_e (Γ : Ctx) (call : Nat → List (D × Bool) → CRes) (i : Nat) (f : Nat) : k_ev_mthp1 Γ call i f .err = .err := rfl
@[simp] theorem ev_mthp (Γ : Ctx) (call : Nat → List (D × Bool) → CRes) (p : E) (m : Nat) (es : Es) (env : Fm) : ev Γ call (.mthp p m es) env =
    match p with
    | .var i =>
      match env[i]? with
      | some (some (.ins c fs _, true)) =>
        if fs.all (Γ.cf c) = true then
        match Γ.meth c m with
        | some f =>  k_ev_mthp1 Γ call i f (evs Γ call es env)
        | none => .err
        else .err
      | _ => .err
    | _ => .err := by
  first | rfl | (simp only [ev]; done) | (simp only [ev]; rfl)
noncomputable def k_ev_fnb2 (Γ : Ctx) (call : Nat → List (D × Bool) → CRes) (f : Nat) (x : Nat) (r_ : Res (List D)) : Res (D × Bool) := r_.bind fun ds (env : Fm) =>
      match env[x]? with
      | some (some (d, true)) =>
        if unl Γ.om d = true then
        match call f ((d, false) :: (ds ++ Γ.dfl f).map fun d => (d, false)) with
        | .ret r none => if thwR r = true then .ok r env else .err
        | .exc z none => if thw z.val = true then .exc z env else .err
        | _ => .err
        else .err
      | _ => .err
@[simp] theorem k_ev_fnb2_k (Γ : Ctx) (call : Nat → List (D × Bool) → CRes) (f : Nat) (x : Nat) (ds : List D) (env : Fm) : k_ev_fnb2 Γ call f x (.ok ds env) =
      match env[x]? with
      | some (some (d, true)) =>
        if unl Γ.om d = true then
        match call f ((d, false) :: (ds ++ Γ.dfl f).map fun d => (d, false)) with
        | .ret r none => if thwR r = true then .ok r env else .err
        | .exc z none => if thw z.val = true then .exc z env else .err
        | _ => .err
        else .err
      | _ => .err := rfl
@[simp] theorem k_ev_fnb2_x (Γ : Ctx) (call : Nat → List (D × Bool) → CRes) (f : Nat) (x : Nat) (z_ : Exn) (env : Fm) : k_ev_fnb2 Γ call f x (.exc z_ env) = .err := rfl
@[simp] theorem k_ev_fnb2_e (Γ : Ctx) (call : Nat → List (D × Bool) → CRes) (f : Nat) (x : Nat) : k_ev_fnb2 Γ call f x .err = .err := rfl
noncomputable def k_ev_fnb1 (Γ : Ctx) (call : Nat → List (D × Bool) → CRes) (f : Nat) (x : Nat) (es : Es) (r_ : Res (D)) : Res (D × Bool) := r_.bind fun _ (env : Fm) =>  k_ev_fnb2 Γ call f x (evs Γ call es env)
@[simp] theorem k_ev_fnb1_k (Γ : Ctx) (call : Nat → List (D × Bool) → CRes) (f : Nat) (x : Nat) (es : Es) (v_ : D) (env : Fm) : k_ev_fnb1 Γ call f x es (.ok v_ env) =  k_ev_fnb2 Γ call f x (evs Γ call es env) := rfl
@[simp] theorem k_ev_fnb1_x (Γ : Ctx) (call : Nat → List (D × Bool) → CRes) (f : Nat) (x : Nat) (es : Es) (z_ : Exn) (env : Fm) : k_ev_fnb1 Γ call f x es (.exc z_ env) = .err := rfl
@[simp] theorem k_ev_fnb1_e (Γ : Ctx) (call : Nat → List (D × Bool) → CRes) (f : Nat) (x : Nat) (es : Es) : k_ev_fnb1 Γ call f x es .err = .err := rfl
@[simp] theorem ev_fnb (Γ : Ctx) (call : Nat → List (D × Bool) → CRes) (f : Nat) (x : Nat) (es : Es) (env : Fm) : ev Γ call (.fnb f x es) env =  k_ev_fnb1 Γ call f x es (Res.lift (rdv x env) env) := by
  first | rfl | (simp only [ev]; done) | (simp only [ev]; rfl)
noncomputable def k_ev_mtb1 (Γ : Ctx) (call : Nat → List (D × Bool) → CRes) (x : Nat) (f : Nat) (r_ : Res (List D)) : Res (D × Bool) := r_.bind fun ds (env : Fm) =>
        match env[x]? with
        | some (some (d, true)) =>
          if unl Γ.om d = true then
          match call f ((d, false) :: ds.map fun d => (d, false)) with
          | .ret r none => if thwR r = true then .ok r env else .err
          | .exc z none => if thw z.val = true then .exc z env else .err
          | _ => .err
          else .err
        | _ => .err
@[simp] theorem k_ev_mtb1_k (Γ : Ctx) (call : Nat → List (D × Bool) → CRes) (x : Nat) (f : Nat) (ds : List D) (env : Fm) : k_ev_mtb1 Γ call x f (.ok ds env) =
        match env[x]? with
        | some (some (d, true)) =>
          if unl Γ.om d = true then
          match call f ((d, false) :: ds.map fun d => (d, false)) with
          | .ret r none => if thwR r = true then .ok r env else .err
          | .exc z none => if thw z.val = true then .exc z env else .err
          | _ => .err
          else .err
        | _ => .err := rfl
@[simp] theorem k_ev_mtb1_x (Γ : Ctx) (call : Nat → List (D × Bool) → CRes) (x : Nat) (f : Nat) (z_ : Exn) (env : Fm) : k_ev_mtb1 Γ call x f (.exc z_ env) = .err := rfl
@[simp] theorem k_ev_mtb1_e (Γ : Ctx) (call : Nat → List (D × Bool) → CRes) (x : Nat) (f : Nat) : k_ev_mtb1 Γ call x f .err = .err := rfl
@[simp] theorem ev_mtb (Γ : Ctx) (call : Nat → List (D × Bool) → CRes) (x : Nat) (m : Nat) (es : Es) (env : Fm) : ev Γ call (.mtb x m es) env =
    match env[x]? with
    | some (some (.ins c fs _, true)) =>
      if fs.all (Γ.cf c) = true then
      match Γ.meth c m with
      | some f =>  k_ev_mtb1 Γ call x f (evs Γ call es env)
      | none => .err
      else .err
    | _ => .err := by
  first | rfl | (simp only [ev]; done) | (simp only [ev]; rfl)
@[simp] theorem ev_mthq (Γ : Ctx) (call : Nat → List (D × Bool) → CRes) (x : Nat) (g : Nat) (m : Nat) (j : Nat) (env : Fm) : ev Γ call (.mthq x g m j) env =
    match env[x]?, env[j]? with
    | some (some (.ins c fs vs, true)), some (some (dj, false)) =>
      if (fs.all (Γ.cf c) && (Γ.cf c g && Γ.om c g)) = true then
      match fget fs vs g with
      | some (.ins c2 fs2 vs2) =>
        if fs2.all (Γ.cf c2) = true then
        match Γ.meth c2 m with
        | some f =>
          match call f [(.ins c2 fs2 vs2, true), (dj, false)] with
          | .ret r (some d') => .ok r (env.set x (some (.ins c fs (fput g d' fs vs).2, true)))
          | .exc z (some d') => .exc z (env.set x (some (.ins c fs (fput g d' fs vs).2, true)))
          | _ => .err
        | none => .err
        else .err
      | _ => .err
      else .err
    | _, _ => .err := by
  first | rfl | (simp only [ev]; done) | (simp only [ev]; rfl)
noncomputable def k_ev_new1 (Γ : Ctx) (call : Nat → List (D × Bool) → CRes) (c : Nat) (r_ : Res (List D)) : Res (D × Bool) := r_.bind fun ds (env : Fm) =>
      match Γ.init c with
      | some f =>
        match call f ((.ins c [] [], true) :: ds.map fun d => (d, false)) with
        | .ret (.non, _) (some d') => .ok (d', true) env
        | .exc x (some _) => .exc x env
        | _ => .err
      | none => .err
@[simp] theorem k_ev_new1_k (Γ : Ctx) (call : Nat → List (D × Bool) → CRes) (c : Nat) (ds : List D) (env : Fm) : k_ev_new1 Γ call c (.ok ds env) =
      match Γ.init c with
      | some f =>
        match call f ((.ins c [] [], true) :: ds.map fun d => (d, false)) with
        | .ret (.non, _) (some d') => .ok (d', true) env
        | .exc x (some _) => .exc x env
        | _ => .err
      | none => .err := rfl
@[simp] theorem k_ev_new1_x (Γ : Ctx) (call : Nat → List (D × Bool) → CRes) (c : Nat) (z_ : Exn) (env : Fm) : k_ev_new1 Γ call c (.exc z_ env) = .err := rfl
@[simp] theorem k_ev_new1_e (Γ : Ctx) (call : Nat → List (D × Bool) → CRes) (c : Nat) : k_ev_new1 Γ call c .err = .err := rfl
@[simp] theorem ev_new (Γ : Ctx) (call : Nat → List (D × Bool) → CRes) (c : Nat) (es : Es) (env : Fm) : ev Γ call (.new c es) env =  k_ev_new1 Γ call c (evs Γ call es env) := by
  first | rfl | (simp only [ev]; done) | (simp only [ev]; rfl)
noncomputable def k_ev_pop1 (Γ : Ctx) (call : Nat → List (D × Bool) → CRes) (x : Nat) (i : E) (r_ : Res (D × Bool)) : Res (D × Bool) := r_.bind fun y (env : Fm) =>
      match env[x]?, y.1 with
      | some (some (.lst l, true)), .int i =>
        match ixn l.length i with
        | some j =>
          match l[j]? with
          | some d => .ok (d, false) (env.set x (some (.lst (l.eraseIdx j), true)))
          | none => .err
        | none => .err
      | _, _ => .err
@[simp] theorem k_ev_pop1_k (Γ : Ctx) (call : Nat → List (D × Bool) → CRes) (x : Nat) (i : E) (y : D × Bool) (env : Fm) : k_ev_pop1 Γ call x i (.ok y env) =
      match env[x]?, y.1 with
      | some (some (.lst l, true)), .int i =>
        match ixn l.length i with
        | some j =>
          match l[j]? with
          | some d => .ok (d, false) (env.set x (some (.lst (l.eraseIdx j), true)))
          | none => .err
        | none => .err
      | _, _ => .err := rfl
@[simp] theorem k_ev_pop1_x (Γ : Ctx) (call : Nat → List (D × Bool) → CRes) (x : Nat) (i : E) (z_ : Exn) (env : Fm) : k_ev_pop1 Γ call x i (.exc z_ env) = .err := rfl
@[simp] theorem k_ev_pop1_e (Γ : Ctx) (call : Nat → List (D × Bool) → CRes) (x : Nat) (i : E) : k_ev_pop1 Γ call x i .err = .err := rfl
@[simp] theorem ev_pop (Γ : Ctx) (call : Nat → List (D × Bool) → CRes) (x : Nat) (i : E) (env : Fm) : ev Γ call (.pop x i) env =  k_ev_pop1 Γ call x i (ev Γ call i env) := by
  first | rfl | (simp only [ev]; done) | (simp only [ev]; rfl)
@[simp] theorem ev_wrd (Γ : Ctx) (call : Nat → List (D × Bool) → CRes) (e : E) (env : Fm) : ev Γ call (.wrd e) env =
    match (ev Γ call e env) with
    | .ok _ env => .ok (.non, false) env
    | .exc x env => Res.lift ((Γ.wd x).map fun d => (d, false)) env
    | .err => .err := by
  first | rfl | (simp only [ev]; done) | (simp only [ev]; rfl)
noncomputable def k_ev_lc2 (Γ : Ctx) (call : Nat → List (D × Bool) → CRes) (tg : Tg) (env : Fm) (r_ : Res (List D)) : Res (D × Bool) := r_.bind fun ds (e : Fm) => .ok (.lst ds, true) (rst e (frs env tg.ixs) tg.ixs)
@[simp] theorem k_ev_lc2_k (Γ : Ctx) (call : Nat → List (D × Bool) → CRes) (tg : Tg) (env : Fm) (ds : List D) (e : Fm) : k_ev_lc2 Γ call tg env (.ok ds e) = .ok (.lst ds, true) (rst e (frs env tg.ixs) tg.ixs) := rfl
@[simp] theorem k_ev_lc2_x (Γ : Ctx) (call : Nat → List (D × Bool) → CRes) (tg : Tg) (env : Fm) (z_ : Exn) (e : Fm) : k_ev_lc2 Γ call tg env (.exc z_ e) = .err := rfl
@[simp] theorem k_ev_lc2_e (Γ : Ctx) (call : Nat → List (D × Bool) → CRes) (tg : Tg) (env : Fm) : k_ev_lc2 Γ call tg env .err = .err := rfl
noncomputable def k_ev_lc1 (Γ : Ctx) (call : Nat → List (D × Bool) → CRes) (tg : Tg) (c : O) (body : E) (r_ : Res (List D)) : Res (D × Bool) := r_.bind fun items (env : Fm) =>  k_ev_lc2 Γ call tg env (lcl Γ call tg c body items (wip (frs env tg.ixs) tg.ixs) [])
@[simp] theorem k_ev_lc1_k (Γ : Ctx) (call : Nat → List (D × Bool) → CRes) (tg : Tg) (c : O) (body : E) (items : List D) (env : Fm) : k_ev_lc1 Γ call tg c body (.ok items env) =  k_ev_lc2 Γ call tg env (lcl Γ call tg c body items (wip (frs env tg.ixs) tg.ixs) []) := rfl
@[simp] theorem k_ev_lc1_x (Γ : Ctx) (call : Nat → List (D × Bool) → CRes) (tg : Tg) (c : O) (body : E) (z_ : Exn) (env : Fm) : k_ev_lc1 Γ call tg c body (.exc z_ env) = .err := rfl
@[simp] theorem k_ev_lc1_e (Γ : Ctx) (call : Nat → List (D × Bool) → CRes) (tg : Tg) (c : O) (body : E) : k_ev_lc1 Γ call tg c body .err = .err := rfl
@[simp] theorem ev_lc (Γ : Ctx) (call : Nat → List (D × Bool) → CRes) (it : Src) (tg : Tg) (c : O) (body : E) (env : Fm) : ev Γ call (.lc it tg c body) env =  k_ev_lc1 Γ call tg c body (evi Γ call it env) := by
  first | rfl | (simp only [ev]; done) | (simp only [ev]; rfl)
@[simp] theorem ev_lc2 (Γ : Ctx) (call : Nat → List (D × Bool) → CRes) (it : Src) (tg : Tg) (it2 : Src) (tg2 : Tg) (body : E) (env : Fm) : ev Γ call (.lc2 it tg it2 tg2 body) env = .err := by
  first | rfl | (simp only [ev]; done) | (simp only [ev]; rfl)
@[simp] theorem ev_dc (Γ : Ctx) (call : Nat → List (D × Bool) → CRes) (it : Src) (tg : Tg) (k : E) (v : E) (env : Fm) : ev Γ call (.dc it tg k v) env = .err := by
  first | rfl | (simp only [ev]; done) | (simp only [ev]; rfl)
@[simp] theorem evs_nil (Γ : Ctx) (call : Nat → List (D × Bool) → CRes) (env : Fm) : evs Γ call .nil env = .ok [] env := by
  first | rfl | (simp only [evs]; done) | (simp only [evs]; rfl)
noncomputable def k_evs_cons2 (Γ : Ctx) (call : Nat → List (D × Bool) → CRes) (x : D × Bool) (r_ : Res (List D)) : Res (List D) := r_.bind fun ds (env : Fm) => .ok (x.1 :: ds) env
@[simp] theorem k_evs_cons2_k (Γ : Ctx) (call : Nat → List (D × Bool) → CRes) (x : D × Bool) (ds : List D) (env : Fm) : k_evs_cons2 Γ call x (.ok ds env) = .ok (x.1 :: ds) env := rfl
@[simp] theorem k_evs_cons2_x (Γ : Ctx) (call : Nat → List (D × Bool) → CRes) (x : D × Bool) (z_ : Exn) (env : Fm) : k_evs_cons2 Γ call x (.exc z_ env) = .err := rfl
@[simp] theorem k_evs_cons2_e (Γ : Ctx) (call : Nat → List (D × Bool) → CRes) (x : D × Bool) : k_evs_cons2 Γ call x .err = .err := rfl
noncomputable def k_evs_cons1 (Γ : Ctx) (call : Nat → List (D × Bool) → CRes) (es : Es) (r_ : Res (D × Bool)) : Res (List D) := r_.bind fun x (env : Fm) =>  k_evs_cons2 Γ call x (evs Γ call es env)
@[simp] theorem k_evs_cons1_k (Γ : Ctx) (call : Nat → List (D × Bool) → CRes) (es : Es) (x : D × Bool) (env : Fm) : k_evs_cons1 Γ call es (.ok x env) =  k_evs_cons2 Γ call x (evs Γ call es env) := rfl
@[simp] theorem k_evs_cons1_x (Γ : Ctx) (call : Nat → List (D × Bool) → CRes) (es : Es) (z_ : Exn) (env : Fm) : k_evs_cons1 Γ call es (.exc z_ env) = .err := rfl
@[simp] theorem k_evs_cons1_e (Γ : Ctx) (call : Nat → List (D × Bool) → CRes) (es : Es) : k_evs_cons1 Γ call es .err = .err := rfl
@[simp] theorem evs_cons (Γ : Ctx) (call : Nat → List (D × Bool) → CRes) (e : E) (es : Es) (env : Fm) : evs Γ call (.cons e es) env =  k_evs_cons1 Γ call es (ev Γ call e env) := by
  first | rfl | (simp only [evs]; done) | (simp only [evs]; rfl)
@[simp] theorem evo_none (Γ : Ctx) (call : Nat → List (D × Bool) → CRes) (env : Fm) : evo Γ call .none env = .ok none env := by
  first | rfl | (simp only [evo]; done) | (simp only [evo]; rfl)
noncomputable def k_evo_some1 (Γ : Ctx) (call : Nat → List (D × Bool) → CRes) (r_ : Res (D × Bool)) : Res (Option Int) := r_.bind fun x (env : Fm) => match x.1 with | .int i => .ok (some i) env | _ => .err
@[simp] theorem k_evo_some1_k (Γ : Ctx) (call : Nat → List (D × Bool) → CRes) (x : D × Bool) (env : Fm) : k_evo_some1 Γ call (.ok x env) = match x.1 with | .int i => .ok (some i) env | _ => .err := rfl
@[simp] theorem k_evo_some1_x (Γ : Ctx) (call : Nat → List (D × Bool) → CRes) (z_ : Exn) (env : Fm) : k_evo_some1 Γ call (.exc z_ env) = .err := rfl
@[simp] theorem k_evo_some1_e (Γ : Ctx) (call : Nat → List (D × Bool) → CRes) : k_evo_some1 Γ call .err = .err := rfl
@[simp] theorem evo_some (Γ : Ctx) (call : Nat → List (D × Bool) → CRes) (e : E) (env : Fm) : evo Γ call (.some e) env =  k_evo_some1 Γ call (ev Γ call e env) := by
  first | rfl | (simp only [evo]; done) | (simp only [evo]; rfl)
noncomputable def k_evi_seq1 (Γ : Ctx) (call : Nat → List (D × Bool) → CRes) (r_ : Res (D × Bool)) : Res (List D) := r_.bind fun x (env : Fm) => match x.1 with | .lst l => .ok l env | .tup l => .ok l env | .str s => .ok (s.cps.toList.map fun c => .str ⟨#[c]⟩) env | _ => .err
@[simp] theorem k_evi_seq1_k (Γ : Ctx) (call : Nat → List (D × Bool) → CRes) (x : D × Bool) (env : Fm) : k_evi_seq1 Γ call (.ok x env) = match x.1 with | .lst l => .ok l env | .tup l => .ok l env | .str s => .ok (s.cps.toList.map fun c => .str ⟨#[c]⟩) env | _ => .err := rfl
@[simp] theorem k_evi_seq1_x (Γ : Ctx) (call : Nat → List (D × Bool) → CRes) (z_ : Exn) (env : Fm) : k_evi_seq1 Γ call (.exc z_ env) = .err := rfl
@[simp] theorem k_evi_seq1_e (Γ : Ctx) (call : Nat → List (D × Bool) → CRes) : k_evi_seq1 Γ call .err = .err := rfl
@[simp] theorem evi_seq (Γ : Ctx) (call : Nat → List (D × Bool) → CRes) (e : E) (env : Fm) : evi Γ call (.seq e) env =  k_evi_seq1 Γ call (ev Γ call e env) := by
  first | rfl | (simp only [evi]; done) | (simp only [evi]; rfl)
@[simp] theorem evi_pek (Γ : Ctx) (call : Nat → List (D × Bool) → CRes) (p : E) (env : Fm) : evi Γ call (.pek p) env = .err := by
  first | rfl | (simp only [evi]; done) | (simp only [evi]; rfl)
noncomputable def k_evi_rng11 (Γ : Ctx) (call : Nat → List (D × Bool) → CRes) (r_ : Res (D × Bool)) : Res (List D) := r_.bind fun x (env : Fm) => match x.1 with | .int n => if -100000000 ≤ n ∧ n ≤ 100000000 then .ok (rgD 0 n) env else .err | _ => .err
@[simp] theorem k_evi_rng11_k (Γ : Ctx) (call : Nat → List (D × Bool) → CRes) (x : D × Bool) (env : Fm) : k_evi_rng11 Γ call (.ok x env) = match x.1 with | .int n => if -100000000 ≤ n ∧ n ≤ 100000000 then .ok (rgD 0 n) env else .err | _ => .err := rfl
@[simp] theorem k_evi_rng11_x (Γ : Ctx) (call : Nat → List (D × Bool) → CRes) (z_ : Exn) (env : Fm) : k_evi_rng11 Γ call (.exc z_ env) = .err := rfl
@[simp] theorem k_evi_rng11_e (Γ : Ctx) (call : Nat → List (D × Bool) → CRes) : k_evi_rng11 Γ call .err = .err := rfl
@[simp] theorem evi_rng1 (Γ : Ctx) (call : Nat → List (D × Bool) → CRes) (e : E) (env : Fm) : evi Γ call (.rng1 e) env =  k_evi_rng11 Γ call (ev Γ call e env) := by
  first | rfl | (simp only [evi]; done) | (simp only [evi]; rfl)
noncomputable def k_evi_rng22 (Γ : Ctx) (call : Nat → List (D × Bool) → CRes) (x : D × Bool) (r_ : Res (D × Bool)) : Res (List D) := r_.bind fun y (env : Fm) => match x.1, y.1 with
      | .int i, .int j => if -100000000 ≤ i ∧ i ≤ 100000000 ∧ -100000000 ≤ j ∧ j ≤ 100000000 then .ok (rgD i j) env else .err
      | _, _ => .err
@[simp] theorem k_evi_rng22_k (Γ : Ctx) (call : Nat → List (D × Bool) → CRes) (x : D × Bool) (y : D × Bool) (env : Fm) : k_evi_rng22 Γ call x (.ok y env) = match x.1, y.1 with
      | .int i, .int j => if -100000000 ≤ i ∧ i ≤ 100000000 ∧ -100000000 ≤ j ∧ j ≤ 100000000 then .ok (rgD i j) env else .err
      | _, _ => .err := rfl
@[simp] theorem k_evi_rng22_x (Γ : Ctx) (call : Nat → List (D × Bool) → CRes) (x : D × Bool) (z_ : Exn) (env : Fm) : k_evi_rng22 Γ call x (.exc z_ env) = .err := rfl
@[simp] theorem k_evi_rng22_e (Γ : Ctx) (call : Nat → List (D × Bool) → CRes) (x : D × Bool) : k_evi_rng22 Γ call x .err = .err := rfl
noncomputable def k_evi_rng21 (Γ : Ctx) (call : Nat → List (D × Bool) → CRes) (b : E) (r_ : Res (D × Bool)) : Res (List D) := r_.bind fun x (env : Fm) =>  k_evi_rng22 Γ call x (ev Γ call b env)
@[simp] theorem k_evi_rng21_k (Γ : Ctx) (call : Nat → List (D × Bool) → CRes) (b : E) (x : D × Bool) (env : Fm) : k_evi_rng21 Γ call b (.ok x env) =  k_evi_rng22 Γ call x (ev Γ call b env) := rfl
@[simp] theorem k_evi_rng21_x (Γ : Ctx) (call : Nat → List (D × Bool) → CRes) (b : E) (z_ : Exn) (env : Fm) : k_evi_rng21 Γ call b (.exc z_ env) = .err := rfl
@[simp] theorem k_evi_rng21_e (Γ : Ctx) (call : Nat → List (D × Bool) → CRes) (b : E) : k_evi_rng21 Γ call b .err = .err := rfl
@[simp] theorem evi_rng2 (Γ : Ctx) (call : Nat → List (D × Bool) → CRes) (a : E) (b : E) (env : Fm) : evi Γ call (.rng2 a b) env =  k_evi_rng21 Γ call b (ev Γ call a env) := by
  first | rfl | (simp only [evi]; done) | (simp only [evi]; rfl)
noncomputable def k_evi_enm1 (Γ : Ctx) (call : Nat → List (D × Bool) → CRes) (r_ : Res (D × Bool)) : Res (List D) := r_.bind fun x (env : Fm) =>
      match x.1 with
      | .lst l => .ok ((rgD 0 l.length).zipWith (fun a b => .tup [a, b]) l) env
      | .tup l => .ok ((rgD 0 l.length).zipWith (fun a b => .tup [a, b]) l) env
      | _ => .err
@[simp] theorem k_evi_enm1_k (Γ : Ctx) (call : Nat → List (D × Bool) → CRes) (x : D × Bool) (env : Fm) : k_evi_enm1 Γ call (.ok x env) =
      match x.1 with
      | .lst l => .ok ((rgD 0 l.length).zipWith (fun a b => .tup [a, b]) l) env
      | .tup l => .ok ((rgD 0 l.length).zipWith (fun a b => .tup [a, b]) l) env
      | _ => .err := rfl
@[simp] theorem k_evi_enm1_x (Γ : Ctx) (call : Nat → List (D × Bool) → CRes) (z_ : Exn) (env : Fm) : k_evi_enm1 Γ call (.exc z_ env) = .err := rfl
@[simp] theorem k_evi_enm1_e (Γ : Ctx) (call : Nat → List (D × Bool) → CRes) : k_evi_enm1 Γ call .err = .err := rfl
@[simp] theorem evi_enm (Γ : Ctx) (call : Nat → List (D × Bool) → CRes) (e : E) (env : Fm) : evi Γ call (.enm e) env =  k_evi_enm1 Γ call (ev Γ call e env) := by
  first | rfl | (simp only [evi]; done) | (simp only [evi]; rfl)
noncomputable def k_evi_zip2 (Γ : Ctx) (call : Nat → List (D × Bool) → CRes) (a : E) (b : E) (x : D × Bool) (r_ : Res (D × Bool)) : Res (List D) := r_.bind fun y (env : Fm) =>
      match x.1, y.1 with
      | .lst l, .lst m => .ok (l.zipWith (fun a b => .tup [a, b]) m) env
      | .tup l, .tup m => .ok (l.zipWith (fun a b => .tup [a, b]) m) env
      | .lst l, .tup m => .ok (l.zipWith (fun a b => .tup [a, b]) m) env
      | .tup l, .lst m => .ok (l.zipWith (fun a b => .tup [a, b]) m) env
      | _, _ => .err
@[simp] theorem k_evi_zip2_k (Γ : Ctx) (call : Nat → List (D × Bool) → CRes) (a : E) (b : E) (x : D × Bool) (y : D × Bool) (env : Fm) : k_evi_zip2 Γ call a b x (.ok y env) =
      match x.1, y.1 with
      | .lst l, .lst m => .ok (l.zipWith (fun a b => .tup [a, b]) m) env
      | .tup l, .tup m => .ok (l.zipWith (fun a b => .tup [a, b]) m) env
      | .lst l, .tup m => .ok (l.zipWith (fun a b => .tup [a, b]) m) env
      | .tup l, .lst m => .ok (l.zipWith (fun a b => .tup [a, b]) m) env
      | _, _ => .err := rfl
@[simp] theorem k_evi_zip2_x (Γ : Ctx) (call : Nat → List (D × Bool) → CRes) (a : E) (b : E) (x : D × Bool) (z_ : Exn) (env : Fm) : k_evi_zip2 Γ call a b x (.exc z_ env) = .err := rfl
@[simp] theorem k_evi_zip2_e (Γ : Ctx) (call : Nat → List (D × Bool) → CRes) (a : E) (b : E) (x : D × Bool) : k_evi_zip2 Γ call a b x .err = .err := rfl
noncomputable def k_evi_zip1 (Γ : Ctx) (call : Nat → List (D × Bool) → CRes) (a : E) (b : E) (r_ : Res (D × Bool)) : Res (List D) := r_.bind fun x (env : Fm) =>  k_evi_zip2 Γ call a b x (ev Γ call b env)
@[simp] theorem k_evi_zip1_k (Γ : Ctx) (call : Nat → List (D × Bool) → CRes) (a : E) (b : E) (x : D × Bool) (env : Fm) : k_evi_zip1 Γ call a b (.ok x env) =  k_evi_zip2 Γ call a b x (ev Γ call b env) := rfl
@[simp] theorem k_evi_zip1_x (Γ : Ctx) (call : Nat → List (D × Bool) → CRes) (a : E) (b : E) (z_ : Exn) (env : Fm) : k_evi_zip1 Γ call a b (.exc z_ env) = .err := rfl
@[simp] theorem k_evi_zip1_e (Γ : Ctx) (call : Nat → List (D × Bool) → CRes) (a : E) (b : E) : k_evi_zip1 Γ call a b .err = .err := rfl
@[simp] theorem evi_zip (Γ : Ctx) (call : Nat → List (D × Bool) → CRes) (a : E) (b : E) (env : Fm) : evi Γ call (.zip a b) env =  k_evi_zip1 Γ call a b (ev Γ call a env) := by
  first | rfl | (simp only [evi]; done) | (simp only [evi]; rfl)
@[simp] theorem evi_vals (Γ : Ctx) (call : Nat → List (D × Bool) → CRes) (e : E) (env : Fm) : evi Γ call (.vals e) env = .err := by
  first | rfl | (simp only [evi]; done) | (simp only [evi]; rfl)
@[simp] theorem evp_nil (Γ : Ctx) (call : Nat → List (D × Bool) → CRes) (env : Fm) : evp Γ call .nil env = .ok [] env := by
  first | rfl | (simp only [evp]; done) | (simp only [evp]; rfl)
noncomputable def k_evp_cons2 (Γ : Ctx) (call : Nat → List (D × Bool) → CRes) (x : D × Bool) (r_ : Res (List (D × Bool))) : Res (List (D × Bool)) := r_.bind fun ds (env : Fm) => .ok (x :: ds) env
@[simp] theorem k_evp_cons2_k (Γ : Ctx) (call : Nat → List (D × Bool) → CRes) (x : D × Bool) (ds : List (D × Bool)) (env : Fm) : k_evp_cons2 Γ call x (.ok ds env) = .ok (x :: ds) env := rfl
@[simp] theorem k_evp_cons2_x (Γ : Ctx) (call : Nat → List (D × Bool) → CRes) (x : D × Bool) (z_ : Exn) (env : Fm) : k_evp_cons2 Γ call x (.exc z_ env) = .err := rfl
@[simp] theorem k_evp_cons2_e (Γ : Ctx) (call : Nat → List (D × Bool) → CRes) (x : D × Bool) : k_evp_cons2 Γ call x .err = .err := rfl
noncomputable def k_evp_cons1 (Γ : Ctx) (call : Nat → List (D × Bool) → CRes) (es : Es) (r_ : Res (D × Bool)) : Res (List (D × Bool)) := r_.bind fun x (env : Fm) =>  k_evp_cons2 Γ call x (evp Γ call es env)
@[simp] theorem k_evp_cons1_k (Γ : Ctx) (call : Nat → List (D × Bool) → CRes) (es : Es) (x : D × Bool) (env : Fm) : k_evp_cons1 Γ call es (.ok x env) =  k_evp_cons2 Γ call x (evp Γ call es env) := rfl
@[simp] theorem k_evp_cons1_x (Γ : Ctx) (call : Nat → List (D × Bool) → CRes) (es : Es) (z_ : Exn) (env : Fm) : k_evp_cons1 Γ call es (.exc z_ env) = .err := rfl
@[simp] theorem k_evp_cons1_e (Γ : Ctx) (call : Nat → List (D × Bool) → CRes) (es : Es) : k_evp_cons1 Γ call es .err = .err := rfl
@[simp] theorem evp_cons (Γ : Ctx) (call : Nat → List (D × Bool) → CRes) (e : E) (es : Es) (env : Fm) : evp Γ call (.cons e es) env =  k_evp_cons1 Γ call es (ev Γ call e env) := by
  first | rfl | (simp only [evp]; done) | (simp only [evp]; rfl)
noncomputable def k_ex_asg1 (Γ : Ctx) (call : Nat → List (D × Bool) → CRes) (io : Bool) (tg : Tg) (r_ : Res (D × Bool)) : Fl := r_.fl fun r (env : Fm) =>
      match bnd io tg r env with
      | some env => .nx env
      | none => .err
@[simp] theorem k_ex_asg1_k (Γ : Ctx) (call : Nat → List (D × Bool) → CRes) (io : Bool) (tg : Tg) (r : D × Bool) (env : Fm) : k_ex_asg1 Γ call io tg (.ok r env) =
      match bnd io tg r env with
      | some env => .nx env
      | none => .err := rfl
@[simp] theorem k_ex_asg1_x (Γ : Ctx) (call : Nat → List (D × Bool) → CRes) (io : Bool) (tg : Tg) (z_ : Exn) (env : Fm) : k_ex_asg1 Γ call io tg (.exc z_ env) = .exc z_ env := rfl
@[simp] theorem k_ex_asg1_e (Γ : Ctx) (call : Nat → List (D × Bool) → CRes) (io : Bool) (tg : Tg) : k_ex_asg1 Γ call io tg .err = .err := rfl
@[simp] theorem ex_asg (Γ : Ctx) (call : Nat → List (D × Bool) → CRes) (io : Bool) (tg : Tg) (e : E) (env : Fm) : ex Γ call io (.asg tg e) env =  k_ex_asg1 Γ call io tg (ev Γ call e env) := by
  first | rfl | (simp only [ex]; done) | (simp only [ex]; rfl)
noncomputable def k_ex_par1 (Γ : Ctx) (call : Nat → List (D × Bool) → CRes) (io : Bool) (is : List Nat) (r_ : Res (List (D × Bool))) : Fl := r_.flN fun rs (env : Fm) =>
      if rs.length = is.length ∧ (io = true → 0 ∉ is) then .nx ((is.zip rs).foldl (fun e p => e.set p.1 (some p.2)) env) else .err
@[simp] theorem k_ex_par1_k (Γ : Ctx) (call : Nat → List (D × Bool) → CRes) (io : Bool) (is : List Nat) (rs : List (D × Bool)) (env : Fm) : k_ex_par1 Γ call io is (.ok rs env) =
      if rs.length = is.length ∧ (io = true → 0 ∉ is) then .nx ((is.zip rs).foldl (fun e p => e.set p.1 (some p.2)) env) else .err := rfl
@[simp] theorem k_ex_par1_x (Γ : Ctx) (call : Nat → List (D × Bool) → CRes) (io : Bool) (is : List Nat) (z_ : Exn) (env : Fm) : k_ex_par1 Γ call io is (.exc z_ env) = .err := rfl
@[simp] theorem k_ex_par1_e (Γ : Ctx) (call : Nat → List (D × Bool) → CRes) (io : Bool) (is : List Nat) : k_ex_par1 Γ call io is .err = .err := rfl
@[simp] theorem ex_par (Γ : Ctx) (call : Nat → List (D × Bool) → CRes) (io : Bool) (is : List Nat) (es : Es) (env : Fm) : ex Γ call io (.par is es) env =  k_ex_par1 Γ call io is (evp Γ call es env) := by
  first | rfl | (simp only [ex]; done) | (simp only [ex]; rfl)
noncomputable def k_ex_aug1 (Γ : Ctx) (call : Nat → List (D × Bool) → CRes) (io : Bool) (i : Nat) (sb : Bool) (a : Int) (r_ : Res (D × Bool)) : Fl := r_.flN fun r (env : Fm) =>
        match r.1 with
        | .int b => if io = true ∧ i = 0 then .err else .nx (env.set i (some (.int (if sb = true then a - b else a + b), false)))
        | _ => .err
@[simp] theorem k_ex_aug1_k (Γ : Ctx) (call : Nat → List (D × Bool) → CRes) (io : Bool) (i : Nat) (sb : Bool) (a : Int) (r : D × Bool) (env : Fm) : k_ex_aug1 Γ call io i sb a (.ok r env) =
        match r.1 with
        | .int b => if io = true ∧ i = 0 then .err else .nx (env.set i (some (.int (if sb = true then a - b else a + b), false)))
        | _ => .err := rfl
@[simp] theorem k_ex_aug1_x (Γ : Ctx) (call : Nat → List (D × Bool) → CRes) (io : Bool) (i : Nat) (sb : Bool) (a : Int) (z_ : Exn) (env : Fm) : k_ex_aug1 Γ call io i sb a (.exc z_ env) = .err := rfl
@[simp] theorem k_ex_aug1_e (Γ : Ctx) (call : Nat → List (D × Bool) → CRes) (io : Bool) (i : Nat) (sb : Bool) (a : Int) : k_ex_aug1 Γ call io i sb a .err = .err := rfl
@[simp] theorem ex_aug (Γ : Ctx) (call : Nat → List (D × Bool) → CRes) (io : Bool) (i : Nat) (sb : Bool) (e : E) (env : Fm) : ex Γ call io (.aug i sb e) env =
    match rdv i env with
    | some (.int a) =>  k_ex_aug1 Γ call io i sb a (ev Γ call e env)
    | _ => .err := by
  first | rfl | (simp only [ex]; done) | (simp only [ex]; rfl)
noncomputable def k_ex_sub2 (Γ : Ctx) (call : Nat → List (D × Bool) → CRes) (io : Bool) (x : Nat) (i : E) (r : D × Bool) (r_ : Res (D × Bool)) : Fl := r_.flN fun y (env : Fm) =>
        match env[x]?, y.1 with
        | some (some (.lst l, true)), .int i =>
          match setI l i r.1 with
          | some l' => .nx (env.set x (some (.lst l', true)))
          | none => .err
        | _, _ => .err
@[simp] theorem k_ex_sub2_k (Γ : Ctx) (call : Nat → List (D × Bool) → CRes) (io : Bool) (x : Nat) (i : E) (r : D × Bool) (y : D × Bool) (env : Fm) : k_ex_sub2 Γ call io x i r (.ok y env) =
        match env[x]?, y.1 with
        | some (some (.lst l, true)), .int i =>
          match setI l i r.1 with
          | some l' => .nx (env.set x (some (.lst l', true)))
          | none => .err
        | _, _ => .err := rfl
@[simp] theorem k_ex_sub2_x (Γ : Ctx) (call : Nat → List (D × Bool) → CRes) (io : Bool) (x : Nat) (i : E) (r : D × Bool) (z_ : Exn) (env : Fm) : k_ex_sub2 Γ call io x i r (.exc z_ env) = .err := rfl
@[simp] theorem k_ex_sub2_e (Γ : Ctx) (call : Nat → List (D × Bool) → CRes) (io : Bool) (x : Nat) (i : E) (r : D × Bool) : k_ex_sub2 Γ call io x i r .err = .err := rfl
noncomputable def k_ex_sub1 (Γ : Ctx) (call : Nat → List (D × Bool) → CRes) (io : Bool) (x : Nat) (i : E) (r_ : Res (D × Bool)) : Fl := r_.flN fun r (env : Fm) =>
      match rdv x env with
      | some _ =>  k_ex_sub2 Γ call io x i r (ev Γ call i env)
      | none => .err
@[simp] theorem k_ex_sub1_k (Γ : Ctx) (call : Nat → List (D × Bool) → CRes) (io : Bool) (x : Nat) (i : E) (r : D × Bool) (env : Fm) : k_ex_sub1 Γ call io x i (.ok r env) =
      match rdv x env with
      | some _ =>  k_ex_sub2 Γ call io x i r (ev Γ call i env)
      | none => .err := rfl
@[simp] theorem k_ex_sub1_x (Γ : Ctx) (call : Nat → List (D × Bool) → CRes) (io : Bool) (x : Nat) (i : E) (z_ : Exn) (env : Fm) : k_ex_sub1 Γ call io x i (.exc z_ env) = .err := rfl
@[simp] theorem k_ex_sub1_e (Γ : Ctx) (call : Nat → List (D × Bool) → CRes) (io : Bool) (x : Nat) (i : E) : k_ex_sub1 Γ call io x i .err = .err := rfl
@[simp] theorem ex_sub (Γ : Ctx) (call : Nat → List (D × Bool) → CRes) (io : Bool) (x : Nat) (i : E) (e : E) (env : Fm) : ex Γ call io (.sub x i e) env =  k_ex_sub1 Γ call io x i (ev Γ call e env) := by
  first | rfl | (simp only [ex]; done) | (simp only [ex]; rfl)
noncomputable def k_ex_swp1 (Γ : Ctx) (call : Nat → List (D × Bool) → CRes) (io : Bool) (x : Nat) (i : E) (j : E) (r_ : Res (List D)) : Fl := r_.flN fun ds (env : Fm) =>
      match ds with
      | [d1, d2] => (sto Γ call x i d1 env).bind fun env => sto Γ call x j d2 env
      | _ => .err
@[simp] theorem k_ex_swp1_k (Γ : Ctx) (call : Nat → List (D × Bool) → CRes) (io : Bool) (x : Nat) (i : E) (j : E) (ds : List D) (env : Fm) : k_ex_swp1 Γ call io x i j (.ok ds env) =
      match ds with
      | [d1, d2] => (sto Γ call x i d1 env).bind fun env => sto Γ call x j d2 env
      | _ => .err := rfl
@[simp] theorem k_ex_swp1_x (Γ : Ctx) (call : Nat → List (D × Bool) → CRes) (io : Bool) (x : Nat) (i : E) (j : E) (z_ : Exn) (env : Fm) : k_ex_swp1 Γ call io x i j (.exc z_ env) = .err := rfl
@[simp] theorem k_ex_swp1_e (Γ : Ctx) (call : Nat → List (D × Bool) → CRes) (io : Bool) (x : Nat) (i : E) (j : E) : k_ex_swp1 Γ call io x i j .err = .err := rfl
@[simp] theorem ex_swp (Γ : Ctx) (call : Nat → List (D × Bool) → CRes) (io : Bool) (x : Nat) (i : E) (j : E) (a : E) (b : E) (env : Fm) : ex Γ call io (.swp x i j a b) env =  k_ex_swp1 Γ call io x i j (evs Γ call (.cons (.idxv x a) (.cons (.idxv x b) .nil)) env) := by
  first | rfl | (simp only [ex]; done) | (simp only [ex]; rfl)
noncomputable def k_ex_fld1 (Γ : Ctx) (call : Nat → List (D × Bool) → CRes) (io : Bool) (f : Nat) (r_ : Res (D × Bool)) : Fl := r_.fl fun r (env : Fm) =>
      match env[(0 : Nat)]? with
      | some (some (.ins c fs vs, true)) =>
        if (fs.all (Γ.cf c) && Γ.cf c f) = true ∧ fs.length < 100 ∧ fs.length = vs.length ∧ (Γ.om c f = true → r.2 = true) then .nx (env.set 0 (some (.ins c (fput f r.1 fs vs).1 (fput f r.1 fs vs).2, true))) else .err
      | _ => .err
@[simp] theorem k_ex_fld1_k (Γ : Ctx) (call : Nat → List (D × Bool) → CRes) (io : Bool) (f : Nat) (r : D × Bool) (env : Fm) : k_ex_fld1 Γ call io f (.ok r env) =
      match env[(0 : Nat)]? with
      | some (some (.ins c fs vs, true)) =>
        if (fs.all (Γ.cf c) && Γ.cf c f) = true ∧ fs.length < 100 ∧ fs.length = vs.length ∧ (Γ.om c f = true → r.2 = true) then .nx (env.set 0 (some (.ins c (fput f r.1 fs vs).1 (fput f r.1 fs vs).2, true))) else .err
      | _ => .err := rfl
@[simp] theorem k_ex_fld1_x (Γ : Ctx) (call : Nat → List (D × Bool) → CRes) (io : Bool) (f : Nat) (z_ : Exn) (env : Fm) : k_ex_fld1 Γ call io f (.exc z_ env) = .exc z_ env := rfl
@[simp] theorem k_ex_fld1_e (Γ : Ctx) (call : Nat → List (D × Bool) → CRes) (io : Bool) (f : Nat) : k_ex_fld1 Γ call io f .err = .err := rfl
@[simp] theorem ex_fld (Γ : Ctx) (call : Nat → List (D × Bool) → CRes) (io : Bool) (f : Nat) (e : E) (env : Fm) : ex Γ call io (.fld f e) env =  k_ex_fld1 Γ call io f (ev Γ call e env) := by
  first | rfl | (simp only [ex]; done) | (simp only [ex]; rfl)
@[simp] theorem ex_fld2 (Γ : Ctx) (call : Nat → List (D × Bool) → CRes) (io : Bool) (f : Nat) (g : Nat) (e : E) (env : Fm) : ex Γ call io (.fld2 f g e) env = .err := by
  first | rfl | (simp only [ex]; done) | (simp only [ex]; rfl)
noncomputable def k_ex_app1 (Γ : Ctx) (call : Nat → List (D × Bool) → CRes) (io : Bool) (p : E) (r_ : Res (D × Bool)) : Fl := r_.flN fun r (env : Fm) =>
      match pth Γ p env with
      | some (.lst l, true) => if l.length < LIM then .nx (setP Γ p (.lst (l ++ [r.1])) env) else .err
      | _ => .err
@[simp] theorem k_ex_app1_k (Γ : Ctx) (call : Nat → List (D × Bool) → CRes) (io : Bool) (p : E) (r : D × Bool) (env : Fm) : k_ex_app1 Γ call io p (.ok r env) =
      match pth Γ p env with
      | some (.lst l, true) => if l.length < LIM then .nx (setP Γ p (.lst (l ++ [r.1])) env) else .err
      | _ => .err := rfl
@[simp] theorem k_ex_app1_x (Γ : Ctx) (call : Nat → List (D × Bool) → CRes) (io : Bool) (p : E) (z_ : Exn) (env : Fm) : k_ex_app1 Γ call io p (.exc z_ env) = .err := rfl
@[simp] theorem k_ex_app1_e (Γ : Ctx) (call : Nat → List (D × Bool) → CRes) (io : Bool) (p : E) : k_ex_app1 Γ call io p .err = .err := rfl
@[simp] theorem ex_app (Γ : Ctx) (call : Nat → List (D × Bool) → CRes) (io : Bool) (p : E) (e : E) (env : Fm) : ex Γ call io (.app p e) env =
    match pth Γ p env with
    | some (.lst _, true) =>  k_ex_app1 Γ call io p (ev Γ call e env)
    | _ => .err := by
  first | rfl | (simp only [ex]; done) | (simp only [ex]; rfl)
noncomputable def k_ex_exp1 (Γ : Ctx) (call : Nat → List (D × Bool) → CRes) (io : Bool) (r_ : Res (D × Bool)) : Fl := r_.fl fun _ (env : Fm) => .nx env
@[simp] theorem k_ex_exp1_k (Γ : Ctx) (call : Nat → List (D × Bool) → CRes) (io : Bool) (v_ : D × Bool) (env : Fm) : k_ex_exp1 Γ call io (.ok v_ env) = .nx env := rfl
@[simp] theorem k_ex_exp1_x (Γ : Ctx) (call : Nat → List (D × Bool) → CRes) (io : Bool) (z_ : Exn) (env : Fm) : k_ex_exp1 Γ call io (.exc z_ env) = .exc z_ env := rfl
@[simp] theorem k_ex_exp1_e (Γ : Ctx) (call : Nat → List (D × Bool) → CRes) (io : Bool) : k_ex_exp1 Γ call io .err = .err := rfl
@[simp] theorem ex_exp (Γ : Ctx) (call : Nat → List (D × Bool) → CRes) (io : Bool) (e : E) (env : Fm) : ex Γ call io (.exp e) env =  k_ex_exp1 Γ call io (ev Γ call e env) := by
  first | rfl | (simp only [ex]; done) | (simp only [ex]; rfl)
noncomputable def k_ex_ret1 (Γ : Ctx) (call : Nat → List (D × Bool) → CRes) (io : Bool) (r_ : Res (D × Bool)) : Fl := r_.fl fun r (env : Fm) => .rt r env
@[simp] theorem k_ex_ret1_k (Γ : Ctx) (call : Nat → List (D × Bool) → CRes) (io : Bool) (r : D × Bool) (env : Fm) : k_ex_ret1 Γ call io (.ok r env) = .rt r env := rfl
@[simp] theorem k_ex_ret1_x (Γ : Ctx) (call : Nat → List (D × Bool) → CRes) (io : Bool) (z_ : Exn) (env : Fm) : k_ex_ret1 Γ call io (.exc z_ env) = .exc z_ env := rfl
@[simp] theorem k_ex_ret1_e (Γ : Ctx) (call : Nat → List (D × Bool) → CRes) (io : Bool) : k_ex_ret1 Γ call io .err = .err := rfl
@[simp] theorem ex_ret (Γ : Ctx) (call : Nat → List (D × Bool) → CRes) (io : Bool) (e : E) (env : Fm) : ex Γ call io (.ret e) env =  k_ex_ret1 Γ call io (ev Γ call e env) := by
  first | rfl | (simp only [ex]; done) | (simp only [ex]; rfl)
@[simp] theorem ex_retN (Γ : Ctx) (call : Nat → List (D × Bool) → CRes) (io : Bool) (env : Fm) : ex Γ call io .retN env = .rt (.non, false) env := by
  first | rfl | (simp only [ex]; done) | (simp only [ex]; rfl)
@[simp] theorem ex_retv (Γ : Ctx) (call : Nat → List (D × Bool) → CRes) (io : Bool) (i : Nat) (env : Fm) : ex Γ call io (.retv i) env =
    match env[i]? with
    | some (some r) => if io = true ∧ i = 0 then .err else .rt r (env.set i none)
    | _ => .err := by
  first | rfl | (simp only [ex]; done) | (simp only [ex]; rfl)
noncomputable def k_ex_ifs1 (Γ : Ctx) (call : Nat → List (D × Bool) → CRes) (io : Bool) (a : Ss) (b : Ss) (r_ : Res (D × Bool)) : Fl := r_.flN fun r (env : Fm) => match r.1 with | .bl true => exs Γ call io a env | .bl false => exs Γ call io b env | _ => .err
@[simp] theorem k_ex_ifs1_k (Γ : Ctx) (call : Nat → List (D × Bool) → CRes) (io : Bool) (a : Ss) (b : Ss) (r : D × Bool) (env : Fm) : k_ex_ifs1 Γ call io a b (.ok r env) = match r.1 with | .bl true => exs Γ call io a env | .bl false => exs Γ call io b env | _ => .err := rfl
@[simp] theorem k_ex_ifs1_x (Γ : Ctx) (call : Nat → List (D × Bool) → CRes) (io : Bool) (a : Ss) (b : Ss) (z_ : Exn) (env : Fm) : k_ex_ifs1 Γ call io a b (.exc z_ env) = .err := rfl
@[simp] theorem k_ex_ifs1_e (Γ : Ctx) (call : Nat → List (D × Bool) → CRes) (io : Bool) (a : Ss) (b : Ss) : k_ex_ifs1 Γ call io a b .err = .err := rfl
@[simp] theorem ex_ifs (Γ : Ctx) (call : Nat → List (D × Bool) → CRes) (io : Bool) (c : E) (a : Ss) (b : Ss) (env : Fm) : ex Γ call io (.ifs c a b) env =  k_ex_ifs1 Γ call io a b (ev Γ call c env) := by
  first | rfl | (simp only [ex]; done) | (simp only [ex]; rfl)
@[simp] theorem ex_whl (Γ : Ctx) (call : Nat → List (D × Bool) → CRes) (io : Bool) (c : E) (b : Ss) (env : Fm) : ex Γ call io (.whl c b) env = whl Γ call io c b env := by
  first | rfl | (simp only [ex]; done) | (simp only [ex]; rfl)
noncomputable def k_ex_for1 (Γ : Ctx) (call : Nat → List (D × Bool) → CRes) (io : Bool) (tg : Tg) (b : Ss) (r_ : Res (List D)) : Fl := r_.flN fun items (env : Fm) => frl Γ call io tg b items env
@[simp] theorem k_ex_for1_k (Γ : Ctx) (call : Nat → List (D × Bool) → CRes) (io : Bool) (tg : Tg) (b : Ss) (items : List D) (env : Fm) : k_ex_for1 Γ call io tg b (.ok items env) = frl Γ call io tg b items env := rfl
@[simp] theorem k_ex_for1_x (Γ : Ctx) (call : Nat → List (D × Bool) → CRes) (io : Bool) (tg : Tg) (b : Ss) (z_ : Exn) (env : Fm) : k_ex_for1 Γ call io tg b (.exc z_ env) = .err := rfl
@[simp] theorem k_ex_for1_e (Γ : Ctx) (call : Nat → List (D × Bool) → CRes) (io : Bool) (tg : Tg) (b : Ss) : k_ex_for1 Γ call io tg b .err = .err := rfl
@[simp] theorem ex_for (Γ : Ctx) (call : Nat → List (D × Bool) → CRes) (io : Bool) (it : Src) (tg : Tg) (b : Ss) (env : Fm) : ex Γ call io (.for it tg b) env =  k_ex_for1 Γ call io tg b (evi Γ call it env) := by
  first | rfl | (simp only [ex]; done) | (simp only [ex]; rfl)
noncomputable def k_ex_rse1 (Γ : Ctx) (call : Nat → List (D × Bool) → CRes) (io : Bool) (c : Nat) (r_ : Res (D × Bool)) : Fl := r_.flN fun r (env : Fm) => .exc ⟨c, r.1⟩ env
@[simp] theorem k_ex_rse1_k (Γ : Ctx) (call : Nat → List (D × Bool) → CRes) (io : Bool) (c : Nat) (r : D × Bool) (env : Fm) : k_ex_rse1 Γ call io c (.ok r env) = .exc ⟨c, r.1⟩ env := rfl
@[simp] theorem k_ex_rse1_x (Γ : Ctx) (call : Nat → List (D × Bool) → CRes) (io : Bool) (c : Nat) (z_ : Exn) (env : Fm) : k_ex_rse1 Γ call io c (.exc z_ env) = .err := rfl
@[simp] theorem k_ex_rse1_e (Γ : Ctx) (call : Nat → List (D × Bool) → CRes) (io : Bool) (c : Nat) : k_ex_rse1 Γ call io c .err = .err := rfl
@[simp] theorem ex_rse (Γ : Ctx) (call : Nat → List (D × Bool) → CRes) (io : Bool) (c : Nat) (e : O) (env : Fm) : ex Γ call io (.rse c e) env =
    match e with
    | .none => .exc ⟨c, .non⟩ env
    | .some e =>  k_ex_rse1 Γ call io c (ev Γ call e env) := by
  first | rfl | (simp only [ex]; done) | (simp only [ex]; rfl)
@[simp] theorem ex_nev (Γ : Ctx) (call : Nat → List (D × Bool) → CRes) (io : Bool) (env : Fm) : ex Γ call io .nev env = .err := by
  first | rfl | (simp only [ex]; done) | (simp only [ex]; rfl)
@[simp] theorem ex_pas (Γ : Ctx) (call : Nat → List (D × Bool) → CRes) (io : Bool) (env : Fm) : ex Γ call io .pas env = .nx env := by
  first | rfl | (simp only [ex]; done) | (simp only [ex]; rfl)
@[simp] theorem exs_nil (Γ : Ctx) (call : Nat → List (D × Bool) → CRes) (io : Bool) (env : Fm) : exs Γ call io .nil env = .nx env := by
  first | rfl | (simp only [exs]; done) | (simp only [exs]; rfl)
noncomputable def k_exs_cons1 (Γ : Ctx) (call : Nat → List (D × Bool) → CRes) (io : Bool) (r : Ss) (r_ : Fl) : Fl := r_.bind fun (env : Fm) => exs Γ call io r env
@[simp] theorem k_exs_cons1_k (Γ : Ctx) (call : Nat → List (D × Bool) → CRes) (io : Bool) (r : Ss) (env : Fm) : k_exs_cons1 Γ call io r (.nx env) = exs Γ call io r env := rfl
@[simp] theorem k_exs_cons1_r (Γ : Ctx) (call : Nat → List (D × Bool) → CRes) (io : Bool) (r : Ss) (z_ : D × Bool) (env : Fm) : k_exs_cons1 Γ call io r (.rt z_ env) = .rt z_ env := rfl
@[simp] theorem k_exs_cons1_x (Γ : Ctx) (call : Nat → List (D × Bool) → CRes) (io : Bool) (r : Ss) (z_ : Exn) (env : Fm) : k_exs_cons1 Γ call io r (.exc z_ env) = .exc z_ env := rfl
@[simp] theorem k_exs_cons1_e (Γ : Ctx) (call : Nat → List (D × Bool) → CRes) (io : Bool) (r : Ss) : k_exs_cons1 Γ call io r .err = .err := rfl
@[simp] theorem exs_cons (Γ : Ctx) (call : Nat → List (D × Bool) → CRes) (io : Bool) (s : S) (r : Ss) (env : Fm) : exs Γ call io (.cons s r) env =  k_exs_cons1 Γ call io r (ex Γ call io s env) := by
  first | rfl | (simp only [exs]; done) | (simp only [exs]; rfl)
end
end PL
/-! PLRun: tools for the pure part: loops and comprehensions by invariants; sizes. -/
namespace PL
open PySem
@[simp] theorem eqb_non_non   : eqb .non .non = true := by simp only [eqb]
@[simp] theorem eqb_non_bl  (b : Bool) : eqb .non (.bl b) = false := by simp only [eqb]
@[simp] theorem eqb_non_int  (b : Int) : eqb .non (.int b) = false := by simp only [eqb]
@[simp] theorem eqb_non_str  (b : Str) : eqb .non (.str b) = false := by simp only [eqb]
@[simp] theorem eqb_non_lst  (b : List D) : eqb .non (.lst b) = false := by simp only [eqb]
@[simp] theorem eqb_non_tup  (b : List D) : eqb .non (.tup b) = false := by simp only [eqb]
@[simp] theorem eqb_bl_non (a : Bool)  : eqb (.bl a) .non = false := by simp only [eqb]
@[simp] theorem eqb_bl_bl (a : Bool) (b : Bool) : eqb (.bl a) (.bl b) = (a == b) := by simp only [eqb]
@[simp] theorem eqb_bl_int (a : Bool) (b : Int) : eqb (.bl a) (.int b) = ((if a then 1 else 0) == b) := by simp only [eqb]
@[simp] theorem eqb_bl_str (a : Bool) (b : Str) : eqb (.bl a) (.str b) = false := by simp only [eqb]
@[simp] theorem eqb_bl_lst (a : Bool) (b : List D) : eqb (.bl a) (.lst b) = false := by simp only [eqb]
@[simp] theorem eqb_bl_tup (a : Bool) (b : List D) : eqb (.bl a) (.tup b) = false := by simp only [eqb]
@[simp] theorem eqb_int_non (a : Int)  : eqb (.int a) .non = false := by simp only [eqb]
@[simp] theorem eqb_int_bl (a : Int) (b : Bool) : eqb (.int a) (.bl b) = (a == (if b then 1 else 0)) := by simp only [eqb]
@[simp] theorem eqb_int_int (a : Int) (b : Int) : eqb (.int a) (.int b) = (a == b) := by simp only [eqb]
@[simp] theorem eqb_int_str (a : Int) (b : Str) : eqb (.int a) (.str b) = false := by simp only [eqb]
@[simp] theorem eqb_int_lst (a : Int) (b : List D) : eqb (.int a) (.lst b) = false := by simp only [eqb]
@[simp] theorem eqb_int_tup (a : Int) (b : List D) : eqb (.int a) (.tup b) = false := by simp only [eqb]
@[simp] theorem eqb_str_non (a : Str)  : eqb (.str a) .non = false := by simp only [eqb]
@[simp] theorem eqb_str_bl (a : Str) (b : Bool) : eqb (.str a) (.bl b) = false := by simp only [eqb]
@[simp] theorem eqb_str_int (a : Str) (b : Int) : eqb (.str a) (.int b) = false := by simp only [eqb]
@[simp] theorem eqb_str_str (a : Str) (b : Str) : eqb (.str a) (.str b) = (a == b) := by simp only [eqb]
@[simp] theorem eqb_str_lst (a : Str) (b : List D) : eqb (.str a) (.lst b) = false := by simp only [eqb]
@[simp] theorem eqb_str_tup (a : Str) (b : List D) : eqb (.str a) (.tup b) = false := by simp only [eqb]
@[simp] theorem eqb_lst_non (a : List D)  : eqb (.lst a) .non = false := by simp only [eqb]
@[simp] theorem eqb_lst_bl (a : List D) (b : Bool) : eqb (.lst a) (.bl b) = false := by simp only [eqb]
@[simp] theorem eqb_lst_int (a : List D) (b : Int) : eqb (.lst a) (.int b) = false := by simp only [eqb]
@[simp] theorem eqb_lst_str (a : List D) (b : Str) : eqb (.lst a) (.str b) = false := by simp only [eqb]
@[simp] theorem eqb_lst_lst (a : List D) (b : List D) : eqb (.lst a) (.lst b) = eqbs a b := by simp only [eqb]
@[simp] theorem eqb_lst_tup (a : List D) (b : List D) : eqb (.lst a) (.tup b) = false := by simp only [eqb]
@[simp] theorem eqb_tup_non (a : List D)  : eqb (.tup a) .non = false := by simp only [eqb]
@[simp] theorem eqb_tup_bl (a : List D) (b : Bool) : eqb (.tup a) (.bl b) = false := by simp only [eqb]
@[simp] theorem eqb_tup_int (a : List D) (b : Int) : eqb (.tup a) (.int b) = false := by simp only [eqb]
@[simp] theorem eqb_tup_str (a : List D) (b : Str) : eqb (.tup a) (.str b) = false := by simp only [eqb]
@[simp] theorem eqb_tup_lst (a : List D) (b : List D) : eqb (.tup a) (.lst b) = false := by simp only [eqb]
@[simp] theorem eqb_tup_tup (a : List D) (b : List D) : eqb (.tup a) (.tup b) = eqbs a b := by simp only [eqb]
@[simp] theorem eqbs_nn : eqbs [] [] = true := by simp only [eqbs]
@[simp] theorem eqbs_nc (y : D) (ys : List D) : eqbs [] (y :: ys) = false := by simp only [eqbs]
@[simp] theorem eqbs_cn (y : D) (ys : List D) : eqbs (y :: ys) [] = false := by simp only [eqbs]
@[simp] theorem eqbs_cc (x y : D) (xs ys : List D) : eqbs (x :: xs) (y :: ys) = (eqb x y && eqbs xs ys) := by simp only [eqbs]
theorem dpk_int (n : Nat) (i : Int) : Dpk n (.int i) := by
  cases n <;> trivial
theorem dpk_non (n : Nat) : Dpk n .non := by
  cases n <;> trivial
theorem dpk_bl (n : Nat) (b : Bool) : Dpk n (.bl b) := by
  cases n <;> trivial
theorem natAbs_log2_lt {a : Int} {k : Nat} (h : a.natAbs < 2 ^ k) (hk : 0 < k) : a.natAbs.log2 < k := by
  by_cases z : a.natAbs = 0
  · rw [z]
    simpa using hk
  · exact (Nat.log2_lt z).2 h
theorem log2_le_of {a b : Nat} (h : a ≤ b) : a.log2 ≤ b.log2 := by
  by_cases z : a = 0
  · subst z
    simp
  · exact (Nat.le_log2 (by omega)).2 (Nat.le_trans (Nat.log2_self_le z) h)
theorem mulOk_of {m a b : Int} (hm : m.natAbs.log2 < 9000) (ha : -m ≤ a ∧ a ≤ m) (hb : -m ≤ b ∧ b ≤ m) : MulOk a b := by
  right; right
  have h1 := log2_le_of (show a.natAbs ≤ m.natAbs by omega)
  have h2 := log2_le_of (show b.natAbs ≤ m.natAbs by omega)
  omega
theorem mulOk_l {a b : Int} (h : -(2 ^ 64) < a ∧ a < 2 ^ 64) : MulOk a b := .inl h
theorem mulOk_r {a b : Int} (h : -(2 ^ 64) < b ∧ b < 2 ^ 64) : MulOk a b := .inr (.inl h)
theorem abs_if (a : Int) : (if a < 0 then -a else a) = (a.natAbs : Int) := by
  split <;> omega
section
variable (Γ : Ctx) (call : Nat → List (D × Bool) → CRes)
/-- for, by an invariant -/
theorem frl_inv {io : Bool} {tg : Tg} {b : Ss} (P : Nat → Fm → Prop) : ∀ (ds : List D) (k : Nat) (env : Fm), P k env → (∀ i d env, ds[i]? = some d → P (k + i) env → ∃ env1 env2, bnd io tg (d, false) env = some env1 ∧ exs Γ call io b env1 = .nx env2 ∧ P (k + i + 1) env2) →
    ∃ env', frl Γ call io tg b ds env = .nx env' ∧ P (k + ds.length) env'
  | [], k, env, h, _ => ⟨env, rfl, h⟩
  | d :: ds, k, env, h, st => by
    obtain ⟨env1, env2, h1, h2, h3⟩ := st 0 d env rfl h
    obtain ⟨env', h4, h5⟩ := frl_inv P ds (k + 1) env2 h3 fun i d env hd hp => by
      have q := st (i + 1) d env (by simpa using hd) (by rw [show k + (i + 1) = k + 1 + i by omega]; exact hp)
      rw [show k + (i + 1) = k + 1 + i by omega] at q
      exact q
    refine ⟨env', ?_, by rw [List.length_cons, show k + (ds.length + 1) = k + 1 + ds.length by omega]; exact h5⟩
    rw [← h4]
    simp only [frl, forF] at h1 ⊢
    rw [h1]
    simp only
    rw [h2]
theorem lcl_nil {tg : Tg} {c : O} {body : E} {env : Fm} {acc : List D} : lcl Γ call tg c body [] env acc = .ok acc env := rfl
theorem lcl_cons {tg : Tg} {body : E} {d : D} {ds : List D} {env env1 env2 : Fm} {acc : List D} {x : D} {o : Bool} (h1 : bnd false tg (d, false) env = some env1) (h2 : ev Γ call body env1 = .ok (x, o) env2) (hz : acc.length < LIM) :
    lcl Γ call tg .none body (d :: ds) env acc = lcl Γ call tg .none body ds (wip env2 tg.ixs) (acc ++ [x]) := by
  simp only [lcl, lcF]
  rw [h1]
  simp only [Res.bind_ok, if_true]
  rw [h2]
  simp only [Res.bind_ok]
  rw [if_pos hz]
/-- each item by f, the slots as they were -/
theorem lcl_map {tg : Tg} {body : E} (f : D → D) : ∀ (ds : List D) (env : Fm) (acc : List D), acc.length + ds.length ≤ LIM →
    (∀ d ∈ ds, ∃ env1 env2 o, bnd false tg (d, false) env = some env1 ∧ ev Γ call body env1 = .ok (f d, o) env2 ∧ wip env2 tg.ixs = env) → lcl Γ call tg .none body ds env acc = .ok (acc ++ ds.map f) env
  | [], env, acc, _, _ => by simp [lcl_nil]
  | d :: ds, env, acc, hz, h => by
    obtain ⟨env1, env2, o, h1, h2, h3⟩ := h d (by simp)
    rw [List.length_cons] at hz
    rw [lcl_cons Γ call h1 h2 (by omega), h3, lcl_map f ds env (acc ++ [f d]) (by simp; omega) fun d hd => h d (by simp [hd])]
    simp
/-- the same, over what a list's things are made to -/
theorem lcl_mapA {α : Type} {tg : Tg} {body : E} (g f : α → D) : ∀ (l : List α) (env : Fm) (acc : List D), acc.length + l.length ≤ LIM →
    (∀ a ∈ l, ∃ env1 env2 o, bnd false tg (g a, false) env = some env1 ∧ ev Γ call body env1 = .ok (f a, o) env2 ∧ wip env2 tg.ixs = env) → lcl Γ call tg .none body (l.map g) env acc = .ok (acc ++ l.map f) env
  | [], env, acc, _, _ => by simp [lcl_nil]
  | a :: l, env, acc, hz, h => by
    obtain ⟨env1, env2, o, h1, h2, h3⟩ := h a (by simp)
    rw [List.length_cons] at hz
    rw [List.map_cons, lcl_cons Γ call h1 h2 (by omega), h3, lcl_mapA g f l env (acc ++ [f a]) (by simp; omega) fun a ha => h a (by simp [ha])]
    simp
/-- by an invariant of the slots -/
theorem lcl_inv {tg : Tg} {body : E} (P : Fm → Prop) (Q : D → Prop) : ∀ (ds : List D) (env : Fm) (acc : List D), acc.length + ds.length ≤ LIM → P env →
    (∀ d ∈ ds, ∀ env, P env → ∃ env1 env2 x o, bnd false tg (d, false) env = some env1 ∧ ev Γ call body env1 = .ok (x, o) env2 ∧ P (wip env2 tg.ixs) ∧ Q x) →
    ∃ xs env', lcl Γ call tg .none body ds env acc = .ok (acc ++ xs) env' ∧ xs.length = ds.length ∧ P env' ∧ ∀ x ∈ xs, Q x
  | [], env, acc, _, hp, _ => ⟨[], env, by simp [lcl_nil], rfl, hp, by simp⟩
  | d :: ds, env, acc, hz, hp, h => by
    obtain ⟨env1, env2, x, o, h1, h2, h3, h4⟩ := h d (by simp) env hp
    rw [List.length_cons] at hz
    obtain ⟨xs, env', k1, k2, k3, k4⟩ := lcl_inv P Q ds (wip env2 tg.ixs) (acc ++ [x]) (by simp; omega) h3 fun d hd => h d (by simp [hd])
    refine ⟨x :: xs, env', ?_, by simp [k2], k3, ?_⟩
    · rw [lcl_cons Γ call h1 h2 (by omega), k1]
      simp
    · intro y hy
      rcases List.mem_cons.mp hy with rfl | hy
      · exact h4
      · exact k4 y hy
/-- with a test: those that pass, as they come -/
theorem lcl_filter {tg : Tg} {c body : E} (p : D → Bool) (f : D → D) : ∀ (ds : List D) (env : Fm) (acc : List D), acc.length + ds.length ≤ LIM →
    (∀ d ∈ ds, ∃ env1 env2 o, bnd false tg (d, false) env = some env1 ∧ ev Γ call c env1 = .ok (.bl (p d), o) env2 ∧ (p d = false → wip env2 tg.ixs = env) ∧ (p d = true → ∃ env3 o, ev Γ call body env2 = .ok (f d, o) env3 ∧ wip env3 tg.ixs = env)) →
    lcl Γ call tg (.some c) body ds env acc = .ok (acc ++ (ds.filter p).map f) env
  | [], env, acc, _, _ => by simp [lcl_nil]
  | d :: ds, env, acc, hz, h => by
    obtain ⟨env1, env2, o, h1, h2, h3, h4⟩ := h d (by simp)
    rw [List.length_cons] at hz
    simp only [lcl, lcF]
    rw [h1]
    simp only
    rw [h2]
    simp only [Res.bind_ok]
    cases e : p d with
    | false =>
      rw [if_neg Bool.false_ne_true, h3 e]
      have q := lcl_filter p f ds env acc (by omega) fun d hd => h d (by simp [hd])
      simp only [lcl] at q
      rw [q]
      simp [e]
    | true =>
      obtain ⟨env3, o3, h5, h6⟩ := h4 e
      rw [if_pos rfl, h5]
      simp only [Res.bind_ok]
      rw [if_pos (by omega), h6]
      have q := lcl_filter p f ds env (acc ++ [f d]) (by simp; omega) fun d hd => h d (by simp [hd])
      simp only [lcl] at q
      rw [q]
      simp [e]
/-- the same, over what a list's things are made to -/
theorem lcl_filterA {α : Type} {tg : Tg} {c body : E} (g : α → D) (p : α → Bool) (f : α → D) : ∀ (l : List α) (env : Fm) (acc : List D), acc.length + l.length ≤ LIM →
    (∀ a ∈ l, ∃ env1 env2 o, bnd false tg (g a, false) env = some env1 ∧ ev Γ call c env1 = .ok (.bl (p a), o) env2 ∧ (p a = false → wip env2 tg.ixs = env) ∧ (p a = true → ∃ env3 o, ev Γ call body env2 = .ok (f a, o) env3 ∧ wip env3 tg.ixs = env)) →
    lcl Γ call tg (.some c) body (l.map g) env acc = .ok (acc ++ (l.filter p).map f) env
  | [], env, acc, _, _ => by simp [lcl_nil]
  | a :: l, env, acc, hz, h => by
    obtain ⟨env1, env2, o, h1, h2, h3, h4⟩ := h a (by simp)
    rw [List.length_cons] at hz
    simp only [lcl, lcF, List.map_cons]
    rw [h1]
    simp only
    rw [h2]
    simp only [Res.bind_ok]
    cases e : p a with
    | false =>
      rw [if_neg Bool.false_ne_true, h3 e]
      have q := lcl_filterA g p f l env acc (by omega) fun d hd => h d (by simp [hd])
      simp only [lcl] at q
      rw [q]
      simp [e]
    | true =>
      obtain ⟨env3, o3, h5, h6⟩ := h4 e
      rw [if_pos rfl, h5]
      simp only [Res.bind_ok]
      rw [if_pos (by omega), h6]
      have q := lcl_filterA g p f l env (acc ++ [f a]) (by simp; omega) fun d hd => h d (by simp [hd])
      simp only [lcl] at q
      rw [q]
      simp [e]
/-- for, by an invariant; or it's left -/
theorem frl_or {io : Bool} {tg : Tg} {b : Ss} (P : Nat → Fm → Prop) (R : Fl → Prop) : ∀ (ds : List D) (k : Nat) (env : Fm), P k env → (∀ i d env, ds[i]? = some d → P (k + i) env → ∃ env1, bnd io tg (d, false) env = some env1 ∧ ((∃ env2, exs Γ call io b env1 = .nx env2 ∧ P (k + i + 1) env2) ∨ ∃ r e, exs Γ call io b env1 = .rt r e ∧ R (.rt r e))) →
    (∃ env', frl Γ call io tg b ds env = .nx env' ∧ P (k + ds.length) env') ∨ R (frl Γ call io tg b ds env)
  | [], k, env, h, _ => .inl ⟨env, rfl, h⟩
  | d :: ds, k, env, h, st => by
    obtain ⟨env1, h1, h2⟩ := st 0 d env rfl h
    have e : frl Γ call io tg b (d :: ds) env = match exs Γ call io b env1 with | .nx env2 => frl Γ call io tg b ds env2 | r => r := by
      simp only [frl, forF] at h1 ⊢
      first | (rw [h1]; done) | (rw [h1]; rfl)
    rcases h2 with ⟨env2, h2, h3⟩ | ⟨r, e2, h2, h3⟩
    · rw [h2] at e
      rw [e]
      rcases frl_or P R ds (k + 1) env2 h3 (fun i d env hd hp => by
        have q := st (i + 1) d env (by simpa using hd) (by rw [show k + (i + 1) = k + 1 + i by omega]; exact hp)
        rw [show k + (i + 1) = k + 1 + i by omega] at q
        exact q) with ⟨env', h4, h5⟩ | h4
      · refine .inl ⟨env', h4, by rw [List.length_cons, show k + (ds.length + 1) = k + 1 + ds.length by omega]; exact h5⟩
      · exact .inr h4
    · rw [h2] at e
      rw [e]
      exact .inr h3
theorem ixn_nat {n i : Nat} (h : i < n) : ixn n (i : Int) = some i := by
  unfold ixn
  rw [if_pos (by omega), if_pos (by omega)]
  rfl
theorem rgD_nat (n : Nat) : rgD 0 n = (List.range n).map fun (i : Nat) => D.int i := by
  unfold rgD
  simp
theorem dpk_ints (n : Nat) (l : List Int) : Dpk (n + 1) (.lst (l.map .int)) := fun x hx => by
  obtain ⟨i, _, rfl⟩ := List.mem_map.mp hx
  exact dpk_int n i
/-- what stands in a comprehension's slot behind it -/
def fz1 (env : Fm) (i : Nat) : Sl := (frs env [i])[i]?.getD none
theorem frs_one (env : Fm) (i : Nat) : (frs env [i]).set i none = env.set i none := by
  simp only [frs]
  split
  · rw [List.set_set]
  · rfl
theorem lc1 {it : Src} {i : Nat} {c : O} {body : E} {env e1 e2 : Fm} {items ds : List D} (h1 : evi Γ call it env = .ok items e1) (h2 : lcl Γ call (.one i) c body items (e1.set i none) [] = .ok ds e2) :
    ev Γ call (.lc it (.one i) c body) env = .ok (.lst ds, true) (e2.set i (fz1 e1 i)) := by
  rw [ev_lc, h1]
  have e : wip (frs e1 (Tg.one i).ixs) (Tg.one i).ixs = e1.set i none := frs_one e1 i
  rw [k_ev_lc1_k, e, h2]
  rfl
theorem frs_two (env : Fm) (i j : Nat) : ((frs env [i, j]).set j none).set i none = (env.set j none).set i none := by
  have h1 : ∀ env : Fm, (frs env [i, j]) = (match (frs env [j])[i]? with | some (some (d, _)) => (frs env [j]).set i (some (d, false)) | _ => frs env [j]) := fun _ => rfl
  rw [h1]
  split
  · by_cases e : i = j
    · subst e
      simp only [List.set_set, frs_one]
    · rw [List.set_comm _ _ e, List.set_set, frs_one]
  · rw [frs_one]
theorem lc2t {it : Src} {i j : Nat} {c : O} {body : E} {env e1 e2 : Fm} {items ds : List D} (h1 : evi Γ call it env = .ok items e1) (h2 : lcl Γ call (.many [i, j]) c body items ((e1.set j none).set i none) [] = .ok ds e2) :
    ∃ s t, ev Γ call (.lc it (.many [i, j]) c body) env = .ok (.lst ds, true) ((e2.set j t).set i s) := by
  rw [ev_lc, h1]
  have e : wip (frs e1 (Tg.many [i, j]).ixs) (Tg.many [i, j]).ixs = (e1.set j none).set i none := frs_two e1 i j
  rw [k_ev_lc1_k, e, h2]
  exact ⟨_, _, rfl⟩
/-- a comprehension over what a list's things are made to, the slots as they were -/
theorem lcm {α : Type} {it : Src} {i : Nat} {body : E} {env e1 : Fm} (l : List α) (g f : α → D) (h1 : evi Γ call it env = .ok (l.map g) e1) (hl : l.length ≤ LIM)
    (h : ∀ a ∈ l, ∃ o, ev Γ call body (e1.set i (some (g a, false))) = .ok (f a, o) (e1.set i (some (g a, false)))) :
    ∃ s, ev Γ call (.lc it (.one i) .none body) env = .ok (.lst (l.map f), true) (e1.set i s) := by
  have q := lcl_mapA Γ call (tg := .one i) (body := body) g f l (e1.set i none) [] (by simpa using hl) fun a ha => by
    obtain ⟨o, e⟩ := h a ha
    refine ⟨e1.set i (some (g a, false)), _, o, ?_, e, ?_⟩
    · simp [bnd, List.set_set]
    · simp [wip, List.set_set]
  have e := lc1 Γ call (it := it) (i := i) (c := .none) (body := body) (env := env) h1 q
  rw [List.nil_append, List.set_set] at e
  exact ⟨_, e⟩
theorem lcf {α : Type} {it : Src} {i : Nat} {c body : E} {env e1 : Fm} (l : List α) (g f : α → D) (p : α → Bool) (h1 : evi Γ call it env = .ok (l.map g) e1) (hl : l.length ≤ LIM)
    (hc : ∀ a ∈ l, ∃ o, ev Γ call c (e1.set i (some (g a, false))) = .ok (.bl (p a), o) (e1.set i (some (g a, false))))
    (h : ∀ a ∈ l, p a = true → ∃ o, ev Γ call body (e1.set i (some (g a, false))) = .ok (f a, o) (e1.set i (some (g a, false)))) :
    ∃ s, ev Γ call (.lc it (.one i) (.some c) body) env = .ok (.lst ((l.filter p).map f), true) (e1.set i s) := by
  have q := lcl_filterA Γ call (tg := .one i) (c := c) (body := body) g p f l (e1.set i none) [] (by simpa using hl) fun a ha => by
    obtain ⟨o, e⟩ := hc a ha
    refine ⟨e1.set i (some (g a, false)), _, o, ?_, e, ?_, fun hp => ?_⟩
    · simp [bnd, List.set_set]
    · simp [wip, List.set_set]
    · obtain ⟨o, e⟩ := h a ha hp
      refine ⟨_, o, e, ?_⟩
      simp [wip, List.set_set]
  have e := lc1 Γ call (it := it) (i := i) (c := .some c) (body := body) (env := env) h1 q
  rw [List.nil_append, List.set_set] at e
  exact ⟨_, e⟩
theorem lcm2 {α : Type} {it : Src} {i j : Nat} {body : E} {env e1 : Fm} (l : List α) (g1 g2 f : α → D) (h1 : evi Γ call it env = .ok (l.map fun a => .tup [g1 a, g2 a]) e1) (hl : l.length ≤ LIM) (hij : i ≠ j)
    (h : ∀ a ∈ l, ∃ o e2, ev Γ call body ((e1.set i (some (g1 a, false))).set j (some (g2 a, false))) = .ok (f a, o) e2 ∧ (e2.set j none).set i none = (e1.set j none).set i none) :
    ∃ s t, ev Γ call (.lc it (.many [i, j]) .none body) env = .ok (.lst (l.map f), true) ((e1.set j t).set i s) := by
  have q := lcl_mapA Γ call (tg := .many [i, j]) (body := body) (fun a => .tup [g1 a, g2 a]) f l ((e1.set j none).set i none) [] (by simpa using hl) fun a ha => by
    obtain ⟨o, e2, e, e3⟩ := h a ha
    refine ⟨(e1.set i (some (g1 a, false))).set j (some (g2 a, false)), _, o, ?_, e, ?_⟩
    · have z : ((e1.set j none).set i none).set i (some (g1 a, false)) = (e1.set i (some (g1 a, false))).set j none := by
        rw [List.set_set, List.set_comm _ _ (fun z => hij z.symm)]
      simp only [bnd, List.length_cons, List.length_nil, List.zip_cons_cons, List.zip_nil_right, List.foldl_cons, List.foldl_nil]
      rw [if_pos ⟨trivial, fun z => nomatch z⟩, z, List.set_set]
    · simp only [Tg.ixs, wip]
      exact e3
  obtain ⟨s, t, e⟩ := lc2t Γ call (it := it) (i := i) (j := j) (c := .none) (body := body) (env := env) h1 q
  refine ⟨s, t, ?_⟩
  rw [List.nil_append] at e
  rw [e]
  congr 1
  rw [List.set_comm _ _ hij, List.set_set, List.set_set]
/-- the same, where the body leaves the slots as they are -/
theorem lcm2s {α : Type} {it : Src} {i j : Nat} {body : E} {env e1 : Fm} (l : List α) (g1 g2 f : α → D) (h1 : evi Γ call it env = .ok (l.map fun a => .tup [g1 a, g2 a]) e1) (hl : l.length ≤ LIM) (hij : i ≠ j)
    (h : ∀ a ∈ l, ∃ o, ev Γ call body ((e1.set i (some (g1 a, false))).set j (some (g2 a, false))) = .ok (f a, o) ((e1.set i (some (g1 a, false))).set j (some (g2 a, false)))) :
    ∃ s t, ev Γ call (.lc it (.many [i, j]) .none body) env = .ok (.lst (l.map f), true) ((e1.set j t).set i s) := by
  refine lcm2 Γ call l g1 g2 f h1 hl hij fun a ha => ?_
  obtain ⟨o, e⟩ := h a ha
  refine ⟨o, _, e, ?_⟩
  rw [List.set_set, List.set_comm _ _ hij, List.set_set]
theorem lcl_mapP {α : Type} {tg : Tg} {body : E} (P : Fm → Prop) (g f : α → D) : ∀ (l : List α) (env : Fm) (acc : List D), acc.length + l.length ≤ LIM → P env →
    (∀ a ∈ l, ∀ env, P env → ∃ env1 env2 o, bnd false tg (g a, false) env = some env1 ∧ ev Γ call body env1 = .ok (f a, o) env2 ∧ P (wip env2 tg.ixs)) → ∃ env', lcl Γ call tg .none body (l.map g) env acc = .ok (acc ++ l.map f) env' ∧ P env'
  | [], env, acc, _, hp, _ => ⟨env, by simp [lcl_nil], hp⟩
  | a :: l, env, acc, hz, hp, h => by
    obtain ⟨env1, env2, o, h1, h2, h3⟩ := h a (by simp) env hp
    rw [List.length_cons] at hz
    obtain ⟨env', h4, h5⟩ := lcl_mapP P g f l (wip env2 tg.ixs) (acc ++ [f a]) (by simp; omega) h3 fun a ha => h a (by simp [ha])
    refine ⟨env', ?_, h5⟩
    rw [List.map_cons, lcl_cons Γ call h1 h2 (by omega), h4]
    simp
/-- one slot, the others may be changed so that P stays -/
theorem lcmP {α : Type} {it : Src} {i : Nat} {body : E} {env e1 : Fm} (P : Fm → Prop) (l : List α) (g f : α → D) (h1 : evi Γ call it env = .ok (l.map g) e1) (hl : l.length ≤ LIM) (hp : P (e1.set i none))
    (h : ∀ a ∈ l, ∀ env, P env → ∃ o e2, ev Γ call body (env.set i (some (g a, false))) = .ok (f a, o) e2 ∧ P (e2.set i none)) :
    ∃ e3 s, ev Γ call (.lc it (.one i) .none body) env = .ok (.lst (l.map f), true) (e3.set i s) ∧ P e3 := by
  obtain ⟨e3, q, h3⟩ := lcl_mapP Γ call (tg := .one i) (body := body) P g f l (e1.set i none) [] (by simpa using hl) hp fun a ha env he => by
    obtain ⟨o, e2, e, e3⟩ := h a ha env he
    exact ⟨_, _, o, by simp [bnd], e, e3⟩
  have e := lc1 Γ call (it := it) (i := i) (c := .none) (body := body) (env := env) h1 q
  rw [List.nil_append] at e
  exact ⟨e3, _, e, h3⟩
theorem evi_rng {e : E} {env e1 : Fm} {n : Nat} {o : Bool} (h : ev Γ call e env = .ok (.int n, o) e1) (hn : n ≤ 100000000) : evi Γ call (.rng1 e) env = .ok ((List.range n).map fun i : Nat => .int i) e1 := by
  rw [evi_rng1, h]
  have a : -100000000 ≤ (n : Int) := by omega
  have b : (n : Int) ≤ 100000000 := by omega
  rw [← rgD_nat]
  simp [a, b]
theorem evi_rngq {a b : E} {env e1 e2 : Fm} {q n : Nat} {o u : Bool} (h : ev Γ call a env = .ok (.int q, o) e1) (g : ev Γ call b e1 = .ok (.int n, u) e2) (hn : n ≤ 100000000) (hq : q ≤ 100000000) : evi Γ call (.rng2 a b) env = .ok (((List.range (n - q)).map (q + ·)).map fun i : Nat => .int i) e2 := by
  have z : rgD q n = ((List.range (n - q)).map (q + ·)).map fun i : Nat => D.int i := by
    unfold rgD
    rw [List.map_map, show ((n : Int) - (q : Int)).toNat = n - q by omega]
    apply List.map_congr_left
    intro i _
    simp
  rw [evi_rng2, h, ← z]
  simp [g]
  omega
theorem evi_rngS {e : E} {env : Fm} {n : Nat} (h : ev Γ call e env = .ok (.int n, false) env) (hn : n ≤ 100000000) : evi Γ call (.rng1 e) env = .ok ((List.range n).map fun i : Nat => .int i) env := evi_rng Γ call h hn
theorem evi_rngqS {a b : E} {env : Fm} {q n : Nat} (h : ev Γ call a env = .ok (.int q, false) env) (g : ev Γ call b env = .ok (.int n, false) env) (hn : n ≤ 100000000) (hq : q ≤ 100000000) : evi Γ call (.rng2 a b) env = .ok (((List.range (n - q)).map (q + ·)).map fun i : Nat => .int i) env := evi_rngq Γ call h g hn hq
/-- from one on -/
theorem evi_rngp {a b : E} {env : Fm} {p : Int} (h : ev Γ call a env = .ok (.int 1, false) env) (g : ev Γ call b env = .ok (.int p, false) env) (hp : 0 ≤ p) (hn : p ≤ 100000000) : evi Γ call (.rng2 a b) env = .ok ((List.range (p - 1).toNat).map fun i : Nat => .int (1 + (i : Int))) env := by
  rw [evi_rng2, h]
  have z : (List.range (p - 1).toNat).map (fun (i : Nat) => D.int (1 + (i : Int))) = rgD 1 p := rfl
  rw [z]
  simp only [k_evi_rng21_k]
  rw [g]
  simp only [k_evi_rng22_k]
  rw [if_pos (by omega)]
/-- the same with slots that may be kept behind -/
theorem lcm2P {α : Type} {it : Src} {i j : Nat} {body : E} {env e1 : Fm} (P : Fm → Prop) (l : List α) (g1 g2 f : α → D) (h1 : evi Γ call it env = .ok (l.map fun a => .tup [g1 a, g2 a]) e1) (hl : l.length ≤ LIM) (hp : P ((e1.set j none).set i none))
    (h : ∀ a ∈ l, ∀ env, P env → ∃ o e2, ev Γ call body ((env.set i (some (g1 a, false))).set j (some (g2 a, false))) = .ok (f a, o) e2 ∧ P ((e2.set j none).set i none)) :
    ∃ e3 s t, ev Γ call (.lc it (.many [i, j]) .none body) env = .ok (.lst (l.map f), true) ((e3.set j t).set i s) ∧ P e3 := by
  obtain ⟨e3, q, h3⟩ := lcl_mapP Γ call (tg := .many [i, j]) (body := body) P (fun a => .tup [g1 a, g2 a]) f l ((e1.set j none).set i none) [] (by simpa using hl) hp fun a ha env he => by
    obtain ⟨o, e2, e, e3⟩ := h a ha env he
    exact ⟨_, _, o, by simp [bnd], e, e3⟩
  obtain ⟨s, t, e⟩ := lc2t Γ call (it := it) (i := i) (j := j) (c := .none) (body := body) (env := env) h1 q
  rw [List.nil_append] at e
  exact ⟨e3, s, t, e, h3⟩
end
end PL
/-! PMath: plain laws of whole numbers: the greatest common divisor, fractions led back. No program in sight. -/
namespace PL
theorem gcd_step (x y : Int) : Int.gcd x y = Int.gcd y (x % y) := by
  have e : x % y = x - (x / y) * y := by rw [Int.emod_def, Int.mul_comm]
  rw [e, Int.gcd_sub_mul_right_right, Int.gcd_comm]
/-- the fraction a by b is within the bounds and has the rest -/
structure IsSol (rest m top bottom a b : Int) : Prop where
  b0 : 0 < b
  b1 : b ≤ bottom
  a0 : -top ≤ a
  a1 : a ≤ top
  dv : m ∣ b * rest - a
  co : Int.gcd a b = 1
structure RbI (m rest r0 t0 r1 t1 s : Int) : Prop where
  hs : s = 1 ∨ s = -1
  h1 : 0 ≤ r1
  h2 : r1 < r0
  ht1 : 0 < s * t1
  ht0 : s * t0 ≤ 0
  hle : -(s * t0) ≤ s * t1
  det : r0 * t1 - r1 * t0 = s * m
  c0 : m ∣ r0 - t0 * rest
  c1 : m ∣ r1 - t1 * rest
theorem RbI.start {m rest : Int} (hm : 0 < m) : RbI m rest m 0 (rest % m) 1 1 where
  hs := .inl rfl
  h1 := Int.emod_nonneg _ (by omega)
  h2 := Int.emod_lt_of_pos _ hm
  ht1 := by omega
  ht0 := by omega
  hle := by omega
  det := by simp
  c0 := by simp
  c1 := ⟨-(rest / m), by have := Int.emod_def rest m; grind⟩
theorem RbI.step {m rest r0 t0 r1 t1 s : Int} (h : RbI m rest r0 t0 r1 t1 s) (hr : 0 < r1) : RbI m rest r1 t1 (r0 - r0 / r1 * r1) (t0 - r0 / r1 * t1) (-s) := by
  have hq : 1 ≤ r0 / r1 := (Int.le_ediv_iff_mul_le hr).2 (by have := h.h2; omega)
  have e : r0 - r0 / r1 * r1 = r0 % r1 := by rw [Int.emod_def, Int.mul_comm]
  obtain ⟨hs, h1, h2, ht1, ht0, hle, det, ⟨k0, c0⟩, ⟨k1, c1⟩⟩ := h
  have hp : s * t1 ≤ r0 / r1 * (s * t1) := by
    have := Int.mul_le_mul_of_nonneg_right hq (show 0 ≤ s * t1 by omega)
    omega
  refine ⟨by rcases hs with h | h <;> simp [h], ?_, ?_, ?_, ?_, ?_, ?_, ⟨k1, c1⟩, ⟨k0 - r0 / r1 * k1, by grind⟩⟩
  · rw [e]
    exact Int.emod_nonneg _ (by omega)
  · rw [e]
    exact Int.emod_lt_of_pos _ hr
  · have : -s * (t0 - r0 / r1 * t1) = r0 / r1 * (s * t1) - s * t0 := by grind
    omega
  · have : -s * t1 = -(s * t1) := by grind
    omega
  · have : -s * t1 = -(s * t1) := by grind
    have : -s * (t0 - r0 / r1 * t1) = r0 / r1 * (s * t1) - s * t0 := by grind
    omega
  · grind
theorem RbI.size {m rest r0 t0 r1 t1 s : Int} (h : RbI m rest r0 t0 r1 t1 s) : -m ≤ t1 ∧ t1 ≤ m ∧ -m ≤ t0 ∧ t0 ≤ m ∧ r0 ≤ m := by
  obtain ⟨hs, h1, h2, ht1, ht0, hle, det, c0, c1⟩ := h
  have d : r0 * (s * t1) + r1 * (-(s * t0)) = m := by
    rcases hs with h | h <;> subst h <;> grind
  have a := Int.mul_nonneg h1 (show 0 ≤ -(s * t0) by omega)
  have b : s * t1 ≤ r0 * (s * t1) := by
    have := Int.mul_le_mul_of_nonneg_right (show 1 ≤ r0 by omega) (show 0 ≤ s * t1 by omega)
    omega
  have b' : r0 ≤ r0 * (s * t1) := by
    have := Int.mul_le_mul_of_nonneg_left (show 1 ≤ s * t1 by omega) (show 0 ≤ r0 by omega)
    omega
  rcases hs with h | h <;> subst h <;> omega
theorem rb_core {m r0 r1 T0 T1 top bottom x b u v : Int} (det : r0 * T1 + r1 * T0 = m) (h1 : 0 ≤ r1) (h2 : r1 ≤ top) (h3 : top < r0) (hT : 0 < T1) (hT0 : 0 ≤ T0) (b0 : 0 < b) (b1 : b ≤ bottom) (x0 : -top ≤ x) (x1 : x ≤ top) (hm : 2 * top * bottom < m) (hu : x * T1 - b * r1 = u * m) (hv : b * r0 + x * T0 = v * m) : x = v * r1 ∧ b = v * T1 := by
  have m0 : 0 < m := by
    have a := Int.mul_nonneg h1 hT0
    have b := Int.mul_pos (show 0 < r0 by omega) hT
    omega
  have ex : x = u * r0 + v * r1 := Int.eq_of_mul_eq_mul_right (show m ≠ 0 by omega) (by grind)
  have eb : b = v * T1 - u * T0 := Int.eq_of_mul_eq_mul_right (show m ≠ 0 by omega) (by grind)
  suffices hu0 : u = 0 by
    subst hu0
    simp at ex eb
    exact ⟨ex, eb⟩
  rcases Int.lt_trichotomy u 0 with hn | hz | hp
  · exfalso
    rcases Int.lt_or_le 0 v with hv0 | hv0
    · have i1 := Int.mul_nonneg (show 0 ≤ -u by omega) hT0
      have i2 : T1 ≤ v * T1 := by
        have := Int.mul_le_mul_of_nonneg_right (show 1 ≤ v by omega) (show 0 ≤ T1 by omega)
        omega
      have e1 : -u * T0 = -(u * T0) := by grind
      have hb : T1 ≤ bottom := by omega
      have j1 : b * r1 ≤ bottom * top := Int.mul_le_mul b1 h2 h1 (by omega)
      have j2 : -x * T1 ≤ top * bottom := by
        refine Int.le_trans (Int.mul_le_mul_of_nonneg_right (show -x ≤ top by omega) (by omega)) (Int.mul_le_mul_of_nonneg_left hb (by omega))
      have j3 : m ≤ -u * m := by
        have := Int.mul_le_mul_of_nonneg_right (show 1 ≤ -u by omega) (show 0 ≤ m by omega)
        omega
      grind
    · have i1 : r0 ≤ -u * r0 := by
        have := Int.mul_le_mul_of_nonneg_right (show 1 ≤ -u by omega) (show 0 ≤ r0 by omega)
        omega
      have i2 := Int.mul_nonneg (show 0 ≤ -v by omega) h1
      grind
  · exact hz
  · exfalso
    rcases Int.lt_or_le v 0 with hv0 | hv0
    · have i1 := Int.mul_nonneg (show 0 ≤ u by omega) hT0
      have i2 := Int.mul_pos (show 0 < -v by omega) hT
      grind
    · have i1 : r0 ≤ u * r0 := by
        have := Int.mul_le_mul_of_nonneg_right (show 1 ≤ u by omega) (show 0 ≤ r0 by omega)
        omega
      have i2 := Int.mul_nonneg hv0 h1
      grind
theorem rb_only {m rest r0 t0 r1 t1 s top bottom a b : Int} (h : RbI m rest r0 t0 r1 t1 s) (h2 : r1 ≤ top) (h3 : top < r0) (hm : 2 * top * bottom < m) (k : IsSol rest m top bottom a b) : a = s * r1 ∧ b = s * t1 := by
  obtain ⟨hs, h1, _, ht1, ht0, hle, det, ⟨k0, c0⟩, ⟨k1, c1⟩⟩ := h
  obtain ⟨b0, b1, a0, a1, ⟨kd, hd⟩, co⟩ := k
  have ss : s * s = 1 := by rcases hs with h | h <;> subst h <;> rfl
  obtain ⟨e1, e2⟩ := rb_core (m := m) (r0 := r0) (r1 := r1) (T0 := -(s * t0)) (T1 := s * t1) (top := top) (bottom := bottom) (x := s * a) (b := b) (u := -(kd * t1) - b * k1) (v := b * k0 + kd * t0)
    (by grind) h1 h2 h3 ht1 (by omega) b0 b1 (by rcases hs with h | h <;> subst h <;> omega) (by rcases hs with h | h <;> subst h <;> omega) hm (by grind) (by grind)
  have dv : b * k0 + kd * t0 ∣ 1 := by
    refine Int.gcd_eq_one_iff.1 co _ ?_ ⟨_, e2⟩
    exact ⟨s * r1, by grind⟩
  have dp : 0 < b * k0 + kd * t0 := by
    rcases Int.lt_or_le 0 (b * k0 + kd * t0) with h | h
    · exact h
    · have := Int.mul_nonneg (show 0 ≤ -(b * k0 + kd * t0) by omega) (show 0 ≤ s * t1 by omega)
      grind
  have d1 := Int.le_of_dvd (by omega) dv
  have d2 : b * k0 + kd * t0 = 1 := by omega
  rw [d2] at e1 e2
  exact ⟨by grind, by omega⟩
/-- what is told of the end of the row -/
theorem rb_is {m rest r0 t0 r1 t1 s top bottom : Int} (h : RbI m rest r0 t0 r1 t1 s) (h2 : r1 ≤ top) (hb : s * t1 ≤ bottom) (co : Int.gcd r1 t1 = 1) : IsSol rest m top bottom (s * r1) (s * t1) := by
  obtain ⟨hs, h1, _, ht1, ht0, hle, det, ⟨k0, c0⟩, ⟨k1, c1⟩⟩ := h
  refine ⟨ht1, hb, ?_, ?_, ⟨-s * k1, by grind⟩, ?_⟩
  · rcases hs with h | h <;> subst h <;> omega
  · rcases hs with h | h <;> subst h <;> omega
  · rcases hs with h | h <;> subst h <;> simpa using co
/-- what leading back tells -/
inductive LB (rest m top bottom : Int) : Option (Int × Int) → Prop
  | no : (∀ a b, ¬ IsSol rest m top bottom a b) → LB rest m top bottom none
  | one (a b : Int) : IsSol rest m top bottom a b → (∀ a' b', IsSol rest m top bottom a' b' → a' = a ∧ b' = b) → LB rest m top bottom (some (a, b))
end PL
/-! PFer: rests by a prime: what turns one round. Plain laws, no program in sight. -/
namespace PL
/-- a prime, by trying -/
def PrI (p : Int) : Prop := 2 ≤ p ∧ ∀ d : Int, 2 ≤ d → d * d ≤ p → p % d ≠ 0
theorem PrI.div {p : Int} (h : PrI p) {g : Nat} (hg : (g : Int) ∣ p) : g = 1 ∨ (g : Int) = p := by
  obtain ⟨h2, hd⟩ := h
  obtain ⟨c, hc⟩ := hg
  have g0 : g ≠ 0 := by
    rintro rfl
    simp at hc
    omega
  have c0 : 0 < c := by
    apply Int.lt_of_not_ge
    intro z
    have : (g : Int) * c ≤ 0 := Int.mul_nonpos_of_nonneg_of_nonpos (by omega) z
    omega
  by_cases g1 : g = 1
  · exact .inl g1
  by_cases c1 : c = 1
  · right
    rw [hc, c1]
    omega
  exfalso
  rcases Int.le_total (g : Int) c with z | z
  · refine hd g (by omega) ?_ ?_
    · rw [hc]
      exact Int.mul_le_mul_of_nonneg_left z (by omega)
    · rw [hc]
      exact Int.mul_emod_right _ _
  · refine hd c (by omega) ?_ ?_
    · rw [hc]
      exact Int.mul_le_mul_of_nonneg_right z (by omega)
    · rw [hc]
      exact Int.mul_emod_left _ _
theorem PrI.euclid {p a b : Int} (h : PrI p) (hd : p ∣ a * b) : p ∣ a ∨ p ∣ b := by
  have h2 := h.1
  have hg : ((Nat.gcd p.natAbs a.natAbs : Nat) : Int) ∣ p := Int.dvd_natAbs.1 (Int.ofNat_dvd.2 (Nat.gcd_dvd_left _ _))
  rcases h.div hg with e | e
  · right
    have hd' : p.natAbs ∣ a.natAbs * b.natAbs := by
      rw [← Int.natAbs_mul]
      exact Int.natAbs_dvd_natAbs.2 hd
    exact Int.natAbs_dvd_natAbs.1 (Nat.Coprime.dvd_of_dvd_mul_left e hd')
  · left
    have : ((Nat.gcd p.natAbs a.natAbs : Nat) : Int) ∣ a := Int.dvd_natAbs.1 (Int.ofNat_dvd.2 (Nat.gcd_dvd_right _ _))
    rw [e] at this
    exact this
theorem perm_of {α : Type} [DecidableEq α] : ∀ (l m : List α), l.Nodup → (∀ x ∈ l, x ∈ m) → m.length ≤ l.length → l.Perm m
  | [], m, _, _, h => by
    have : m = [] := List.length_eq_zero_iff.mp (by simpa using h)
    subst this
    exact .nil
  | a :: l, m, hn, hs, h => by
    have ha : a ∈ m := hs a (by simp)
    obtain ⟨h1, h2⟩ := List.nodup_cons.mp hn
    have p := List.perm_cons_erase ha
    refine List.Perm.trans ?_ p.symm
    refine .cons a (perm_of l (m.erase a) h2 (fun x hx => ?_) ?_)
    · exact (List.mem_erase_of_ne (fun e => h1 (by rw [← e]; exact hx))).2 (hs x (by simp [hx]))
    · rw [List.length_erase_of_mem ha]
      simp at h
      omega
def prd : List Int → Int
  | [] => 1
  | a :: l => a * prd l
theorem prd_perm {l m : List Int} (h : l.Perm m) : prd l = prd m := by
  induction h with
  | nil => rfl
  | cons a _ ih => simp [prd, ih]
  | swap a b l => simp only [prd]; rw [← Int.mul_assoc, ← Int.mul_assoc, Int.mul_comm a b]
  | trans _ _ h1 h2 => rw [h1, h2]
theorem prd_map (p a : Int) : ∀ l : List Int, ∃ c, prd (l.map fun x => a * x % p) = a ^ l.length * prd l + p * c
  | [] => ⟨0, by simp [prd]⟩
  | x :: l => by
    obtain ⟨c, hc⟩ := prd_map p a l
    have e : a * x % p = a * x - p * (a * x / p) := Int.emod_def _ _
    refine ⟨-(a * x / p) * (a ^ l.length * prd l) + (a * x % p) * c, ?_⟩
    simp only [List.map_cons, prd, List.length_cons]
    rw [hc]
    generalize a * x / p = q at *
    rw [Int.pow_succ]
    generalize a ^ l.length = A at *
    generalize prd l = B at *
    rw [e]
    grind
theorem PrI.prd_no {p : Int} (h : PrI p) : ∀ l : List Int, (∀ x ∈ l, ¬ p ∣ x) → ¬ p ∣ prd l
  | [], _, hd => by
    have := Int.le_of_dvd (b := 1) (by decide) hd
    have := h.1
    omega
  | x :: l, hx, hd => by
    rcases h.euclid hd with z | z
    · exact hx x (by simp) z
    · exact h.prd_no l (fun y hy => hx y (by simp [hy])) z
theorem no_dvd {p x : Int} (h1 : 0 < x) (h2 : x < p) : ¬ p ∣ x := fun z => by
  have := Int.le_of_dvd h1 z
  omega
theorem PrI.fermat {p a : Int} (h : PrI p) (ha : ¬ p ∣ a) : p ∣ a ^ (p - 1).toNat - 1 := by
  have h2 := h.1
  let L : List Int := (List.range (p - 1).toNat).map fun (i : Nat) => (i : Int) + 1
  have hl : L.length = (p - 1).toNat := by simp [L]
  have hm : ∀ x : Int, x ∈ L ↔ 0 < x ∧ x < p := fun x => by
    simp only [L, List.mem_map, List.mem_range]
    constructor
    · rintro ⟨i, hi, rfl⟩
      omega
    · rintro ⟨h1, h2⟩
      exact ⟨(x - 1).toNat, by omega, by omega⟩
  have hn : L.Nodup := by
    show List.Pairwise _ _
    rw [List.pairwise_map]
    refine List.Pairwise.imp (fun {a b} hab => ?_) List.nodup_range
    omega
  have hq : ∀ x ∈ L, a * x % p ∈ L := fun x hx => by
    obtain ⟨x1, x2⟩ := (hm x).1 hx
    refine (hm _).2 ⟨?_, Int.emod_lt_of_pos _ (by omega)⟩
    have := Int.emod_nonneg (a * x) (show p ≠ 0 by omega)
    rcases Int.lt_or_eq_of_le this with z | z
    · exact z
    · exfalso
      rcases h.euclid (Int.dvd_of_emod_eq_zero z.symm) with w | w
      · exact ha w
      · exact no_dvd x1 x2 w
  have hn2 : (L.map fun x => a * x % p).Nodup := by
    show List.Pairwise _ _
    rw [List.pairwise_map]
    refine List.Pairwise.imp_of_mem (fun {x y} hx hy hne e => hne ?_) hn
    obtain ⟨x1, x2⟩ := (hm x).1 hx
    obtain ⟨y1, y2⟩ := (hm y).1 hy
    have : p ∣ a * (x - y) := by
      rw [Int.mul_sub]
      exact Int.dvd_of_emod_eq_zero (Int.emod_eq_emod_iff_emod_sub_eq_zero.mp e)
    rcases h.euclid this with w | w
    · exact (ha w).elim
    · have z1 := Int.emod_eq_zero_of_dvd w
      have z2 : x % p = y % p := Int.emod_eq_emod_iff_emod_sub_eq_zero.mpr z1
      rw [Int.emod_eq_of_lt (by omega) x2, Int.emod_eq_of_lt (by omega) y2] at z2
      exact z2
  have pm := perm_of (L.map fun x => a * x % p) L hn2 (fun x hx => by
    obtain ⟨y, hy, rfl⟩ := List.mem_map.mp hx
    exact hq y hy) (by simp)
  have e := prd_perm pm
  obtain ⟨c, hc⟩ := prd_map p a L
  rw [hc, hl] at e
  have hd : p ∣ (a ^ (p - 1).toNat - 1) * prd L := ⟨-c, by
    generalize a ^ (p - 1).toNat = A at *
    generalize prd L = B at *
    grind⟩
  rcases h.euclid hd with z | z
  · exact z
  · exact (h.prd_no L (fun x hx => by
      obtain ⟨x1, x2⟩ := (hm x).1 hx
      exact no_dvd x1 x2) z).elim
/-- what turns a number round by a prime's rests -/
def inv (p a : Int) : Int := if 2 < p then (a % p) ^ (p - 2).toNat % p else a % 2
theorem inv_lo {p : Int} (h : 2 ≤ p) (a : Int) : 0 ≤ inv p a := by
  unfold inv
  split <;> exact Int.emod_nonneg _ (by omega)
theorem inv_hi {p : Int} (h : 2 ≤ p) (a : Int) : inv p a < p := by
  unfold inv
  split
  · exact Int.emod_lt_of_pos _ (by omega)
  · have := Int.emod_lt_of_pos a (show (0:Int) < 2 by omega)
    omega
theorem PrI.inv_mul {p a : Int} (h : PrI p) (ha : a % p ≠ 0) : a * inv p a % p = 1 := by
  have h2 := h.1
  have hn : ¬ p ∣ a % p := fun z => by
    have z := Int.emod_eq_zero_of_dvd z
    rw [Int.emod_emod_of_dvd a (Int.dvd_refl p)] at z
    exact ha z
  unfold inv
  split
  · rename_i h3
    have f := h.fermat hn
    have e : (p - 1).toNat = (p - 2).toNat + 1 := by omega
    rw [e, Int.pow_succ] at f
    have z : ((a % p) ^ (p - 2).toNat * (a % p)) % p = 1 % p := Int.emod_eq_emod_iff_emod_sub_eq_zero.mpr (Int.emod_eq_zero_of_dvd f)
    rw [Int.emod_eq_of_lt (a := 1) (by omega) (by omega)] at z
    rw [← z, Int.mul_emod, Int.emod_emod_of_dvd _ (Int.dvd_refl p), Int.mul_comm, Int.mul_emod ((a % p) ^ (p - 2).toNat) (a % p), Int.emod_emod_of_dvd a (Int.dvd_refl p)]
  · have : p = 2 := by omega
    subst this
    rcases Int.emod_two_eq a with e | e
    · exact (ha e).elim
    · rw [e]
      simp [e]
theorem PrI.inv_one {p a b : Int} (h : PrI p) (hb0 : 0 ≤ b) (hb1 : b < p) (hb : b * a % p = 1) : b = inv p a := by
  have h2 := h.1
  have ha : a % p ≠ 0 := fun z => by
    rw [Int.mul_emod, z] at hb
    simp at hb
  have e := h.inv_mul ha
  have l1 := inv_lo h2 a
  have l2 := inv_hi h2 a
  have d : p ∣ a * (b - inv p a) := by
    rw [Int.mul_sub, Int.mul_comm a b]
    exact Int.dvd_of_emod_eq_zero (Int.emod_eq_emod_iff_emod_sub_eq_zero.mp (hb.trans e.symm))
  rcases h.euclid d with z | z
  · exact (ha (Int.emod_eq_zero_of_dvd z)).elim
  · have z2 : b % p = inv p a % p := Int.emod_eq_emod_iff_emod_sub_eq_zero.mpr (Int.emod_eq_zero_of_dvd z)
    rw [Int.emod_eq_of_lt hb0 hb1, Int.emod_eq_of_lt l1 l2] at z2
    exact z2
theorem prI_nat (p : Nat) (h2 : 2 ≤ p) (hp : p < 10000) (h : ((List.range 100).all fun d => decide (d < 2) || decide (p < d * d) || decide (p % d ≠ 0)) = true) : PrI (p : Int) := by
  refine ⟨by omega, fun d hd hdd hz => ?_⟩
  have e : ((d.toNat : Nat) : Int) = d := by omega
  generalize d.toNat = k at e
  subst e
  have hk : k < 100 := by
    apply Nat.lt_of_not_le
    intro hc
    have : 100 * 100 ≤ k * k := Nat.mul_le_mul hc hc
    have : ((k * k : Nat) : Int) ≤ (p : Int) := by push_cast; exact hdd
    omega
  have q := List.all_eq_true.mp h k (List.mem_range.mpr hk)
  simp only [Bool.or_eq_true, decide_eq_true_eq] at q
  have h3 : k * k ≤ p := by
    have : ((k * k : Nat) : Int) ≤ (p : Int) := by push_cast; exact hdd
    omega
  rcases q with (q | q) | q
  · omega
  · omega
  · apply q
    have : ((p % k : Nat) : Int) = 0 := by push_cast; exact hz
    omega
end PL
/-! PLin: lines by a prime's rests: sums, what takes a line to nought, lines worked off. Plain laws, no program in sight. -/
namespace PL
/-- a sum of the first n -/
def sm (f : Nat → Int) : Nat → Int
  | 0 => 0
  | n + 1 => sm f n + f n
theorem sm_congr {f g : Nat → Int} : ∀ {n : Nat}, (∀ k, k < n → f k = g k) → sm f n = sm g n
  | 0, _ => rfl
  | n + 1, h => by
    simp only [sm]
    rw [sm_congr fun k hk => h k (by omega), h n (by omega)]
theorem sm_add (f g : Nat → Int) : ∀ n : Nat, sm (fun k => f k + g k) n = sm f n + sm g n
  | 0 => rfl
  | n + 1 => by
    simp only [sm]
    rw [sm_add f g n]
    omega
theorem sm_mul (c : Int) (f : Nat → Int) : ∀ n : Nat, sm (fun k => c * f k) n = c * sm f n
  | 0 => by simp [sm]
  | n + 1 => by
    simp only [sm]
    rw [sm_mul c f n, Int.mul_add]
theorem sm_nought {f : Nat → Int} {n : Nat} (h : ∀ k, k < n → f k = 0) : sm f n = 0 := by
  induction n with
  | zero => rfl
  | succ n ih =>
    simp only [sm]
    rw [ih fun k hk => h k (by omega), h n (by omega)]
    rfl
theorem sm_one {f : Nat → Int} {j : Nat} : ∀ {n : Nat}, j < n → (∀ k, k < n → k ≠ j → f k = 0) → sm f n = f j
  | 0, h, _ => by omega
  | n + 1, h, h0 => by
    simp only [sm]
    by_cases e : j = n
    · subst e
      rw [sm_nought fun k hk => h0 k (by omega) (by omega)]
      omega
    · rw [h0 n (by omega) (by omega), sm_one (by omega) fun k hk hn => h0 k (by omega) hn]
      omega
theorem sm_split (f : Nat → Int) (a : Nat) : ∀ b : Nat, sm f (a + b) = sm f a + sm (fun k => f (a + k)) b
  | 0 => by simp [sm]
  | b + 1 => by
    show sm f (a + b) + f (a + b) = _
    simp only [sm]
    rw [sm_split f a b]
    omega
theorem sm_dvd {p : Int} {f : Nat → Int} : ∀ {n : Nat}, (∀ k, k < n → p ∣ f k) → p ∣ sm f n
  | 0, _ => ⟨0, by simp [sm]⟩
  | n + 1, h => Int.dvd_add (sm_dvd fun k hk => h k (by omega)) (h n (by omega))
/-- rests are alike -/
def Cg (p a b : Int) : Prop := p ∣ a - b
theorem Cg.rf (p a : Int) : Cg p a a := ⟨0, by omega⟩
theorem Cg.sy {p a b : Int} (h : Cg p a b) : Cg p b a := by
  obtain ⟨c, h⟩ := h
  exact ⟨-c, by rw [Int.mul_neg]; omega⟩
theorem Cg.tr {p a b c : Int} (h : Cg p a b) (g : Cg p b c) : Cg p a c := by
  obtain ⟨x, h⟩ := h
  obtain ⟨y, g⟩ := g
  exact ⟨x + y, by rw [Int.mul_add]; omega⟩
theorem Cg.add {p a b c d : Int} (h : Cg p a b) (g : Cg p c d) : Cg p (a + c) (b + d) := by
  obtain ⟨x, h⟩ := h
  obtain ⟨y, g⟩ := g
  exact ⟨x + y, by rw [Int.mul_add]; omega⟩
theorem Cg.sub {p a b c d : Int} (h : Cg p a b) (g : Cg p c d) : Cg p (a - c) (b - d) := by
  obtain ⟨x, h⟩ := h
  obtain ⟨y, g⟩ := g
  exact ⟨x - y, by rw [Int.mul_sub]; omega⟩
theorem Cg.mul {p a b c d : Int} (h : Cg p a b) (g : Cg p c d) : Cg p (a * c) (b * d) := by
  obtain ⟨x, h⟩ := h
  obtain ⟨y, g⟩ := g
  exact ⟨x * c + b * y, by grind⟩
theorem Cg.emod (p a : Int) : Cg p (a % p) a := ⟨-(a / p), by rw [Int.emod_def]; grind⟩
theorem Cg.eq {p a b : Int} (h : Cg p a b) (a0 : 0 ≤ a) (a1 : a < p) (b0 : 0 ≤ b) (b1 : b < p) : a = b := by
  have z := Int.emod_eq_emod_iff_emod_sub_eq_zero.mpr (Int.emod_eq_zero_of_dvd h)
  rw [Int.emod_eq_of_lt a0 a1, Int.emod_eq_of_lt b0 b1] at z
  exact z
theorem Cg.dvd {p a b : Int} (h : Cg p a b) : p ∣ a ↔ p ∣ b := by
  obtain ⟨x, h⟩ := h
  constructor
  · rintro ⟨y, g⟩
    exact ⟨y - x, by rw [Int.mul_sub]; omega⟩
  · rintro ⟨y, g⟩
    exact ⟨y + x, by rw [Int.mul_add]; omega⟩
theorem Cg.sm {p : Int} {f g : Nat → Int} : ∀ {n : Nat}, (∀ k, k < n → Cg p (f k) (g k)) → Cg p (sm f n) (PL.sm g n)
  | 0, _ => Cg.rf _ _
  | _ + 1, h => (Cg.sm fun k hk => h k (by omega)).add (h _ (by omega))
theorem cg_zero {p a : Int} : Cg p a 0 ↔ p ∣ a := by
  unfold Cg
  rw [Int.sub_zero]
theorem cg_emod {p a b : Int} (h : Cg p a b) : a % p = b % p := Int.emod_eq_emod_iff_emod_sub_eq_zero.mpr (Int.emod_eq_zero_of_dvd h)
theorem emod_cg {p a b : Int} (h : a % p = b % p) : Cg p a b := Int.dvd_of_emod_eq_zero (Int.emod_eq_emod_iff_emod_sub_eq_zero.mp h)
/-- a place of a line -/
def at' (r : List Int) (k : Nat) : Int := r.getD k 0
/-- a line times a side -/
def dt (w : Nat) (r : List Int) (x : Nat → Int) : Int := sm (fun k => at' r k * x k) w
/-- a line of rests -/
structure Rl (p : Int) (w : Nat) (r : List Int) : Prop where
  len : r.length = w
  lo : ∀ x ∈ r, 0 ≤ x
  hi : ∀ x ∈ r, x < p
theorem Rl.at_lo {p : Int} {w : Nat} {r : List Int} (h : Rl p w r) (k : Nat) : 0 ≤ at' r k := by
  show 0 ≤ r.getD k 0
  rw [List.getD_eq_getElem?_getD]
  cases e : r[k]? with
  | none => simp
  | some x => exact h.lo x (List.mem_of_getElem? e)
theorem Rl.at_hi {p : Int} {w : Nat} {r : List Int} (h : Rl p w r) (hp : 0 < p) (k : Nat) : at' r k < p := by
  show r.getD k 0 < p
  rw [List.getD_eq_getElem?_getD]
  cases e : r[k]? with
  | none => simpa using hp
  | some x => exact h.hi x (List.mem_of_getElem? e)
theorem at_eq {r : List Int} {k : Nat} (h : k < r.length) : at' r k = r[k] := by
  show r.getD k 0 = _
  rw [List.getD_eq_getElem?_getD, List.getElem?_eq_getElem h]
  rfl
theorem ext_at {r s : List Int} {w : Nat} (hr : r.length = w) (hs : s.length = w) (h : ∀ k, k < w → at' r k = at' s k) : r = s := by
  apply List.ext_getElem (by omega)
  intro k h1 h2
  have := h k (by omega)
  rw [at_eq h1, at_eq h2] at this
  exact this
/-- by rests -/
def rst_ (p : Int) (r : List Int) : List Int := r.map fun a => a % p
theorem rst_rl {p : Int} {w : Nat} {r : List Int} (hp : 0 < p) (h : r.length = w) : Rl p w (rst_ p r) where
  len := by simp [rst_, h]
  lo := by
    intro x hx
    obtain ⟨a, _, rfl⟩ := List.mem_map.mp hx
    exact Int.emod_nonneg _ (by omega)
  hi := by
    intro x hx
    obtain ⟨a, _, rfl⟩ := List.mem_map.mp hx
    exact Int.emod_lt_of_pos _ hp
theorem rst_at {p : Int} {r : List Int} (k : Nat) : at' (rst_ p r) k = at' r k % p := by
  show (rst_ p r).getD k 0 = r.getD k 0 % p
  rw [List.getD_eq_getElem?_getD, List.getD_eq_getElem?_getD]
  unfold rst_
  rw [List.getElem?_map]
  cases r[k]? <;> simp
/-- a line less so many times another, by rests -/
def lsr (p : Int) (r : List Int) (m : Int) (s : List Int) : List Int := List.zipWith (fun a b => (a - m * b) % p) r s
theorem lsr_rl {p m : Int} {w : Nat} {r s : List Int} (hp : 0 < p) (hr : r.length = w) (hs : s.length = w) : Rl p w (lsr p r m s) where
  len := by simp [lsr, hr, hs]
  lo := by
    intro x hx
    obtain ⟨i, hi, rfl⟩ := List.getElem_of_mem hx
    simp only [lsr, List.getElem_zipWith]
    exact Int.emod_nonneg _ (by omega)
  hi := by
    intro x hx
    obtain ⟨i, hi, rfl⟩ := List.getElem_of_mem hx
    simp only [lsr, List.getElem_zipWith]
    exact Int.emod_lt_of_pos _ hp
theorem lsr_at {p m : Int} {w : Nat} {r s : List Int} (hr : r.length = w) (hs : s.length = w) {k : Nat} (hk : k < w) : at' (lsr p r m s) k = (at' r k - m * at' s k) % p := by
  rw [at_eq (by simp [lsr, hr, hs, hk]), at_eq (by omega), at_eq (by omega)]
  simp [lsr]
/-- a line so many times, by rests -/
def scl (p : Int) (r : List Int) (b : Int) : List Int := r.map fun a => a * b % p
theorem scl_rl {p b : Int} {w : Nat} {r : List Int} (hp : 0 < p) (h : r.length = w) : Rl p w (scl p r b) where
  len := by simp [scl, h]
  lo := by
    intro x hx
    obtain ⟨a, _, rfl⟩ := List.mem_map.mp hx
    exact Int.emod_nonneg _ (by omega)
  hi := by
    intro x hx
    obtain ⟨a, _, rfl⟩ := List.mem_map.mp hx
    exact Int.emod_lt_of_pos _ hp
theorem scl_at {p b : Int} {r : List Int} (k : Nat) : at' (scl p r b) k = at' r k * b % p := by
  show (scl p r b).getD k 0 = r.getD k 0 * b % p
  rw [List.getD_eq_getElem?_getD, List.getD_eq_getElem?_getD]
  unfold scl
  rw [List.getElem?_map]
  cases r[k]? <;> simp
theorem dt_lsr {p m : Int} {w : Nat} {r s : List Int} (hr : r.length = w) (hs : s.length = w) (x : Nat → Int) : Cg p (dt w (lsr p r m s) x) (dt w r x - m * dt w s x) := by
  have e : dt w r x - m * dt w s x = sm (fun k => (at' r k - m * at' s k) * x k) w := by
    have h1 : sm (fun k => (at' r k - m * at' s k) * x k) w = sm (fun k => at' r k * x k + (-m) * (at' s k * x k)) w := sm_congr fun k _ => by grind
    rw [h1, sm_add, sm_mul]
    unfold dt
    grind
  rw [e]
  exact Cg.sm fun k hk => Cg.mul (by rw [lsr_at hr hs hk]; exact Cg.emod _ _) (Cg.rf _ _)
theorem dt_scl {p b : Int} {w : Nat} {r : List Int} (x : Nat → Int) : Cg p (dt w (scl p r b) x) (b * dt w r x) := by
  have e : b * dt w r x = sm (fun k => (at' r k * b) * x k) w := by
    unfold dt
    rw [← sm_mul]
    exact sm_congr fun k _ => by grind
  rw [e]
  exact Cg.sm fun k hk => Cg.mul (by rw [scl_at]; exact Cg.emod _ _) (Cg.rf _ _)
theorem dt_rst {p : Int} {w : Nat} {r : List Int} (x : Nat → Int) : Cg p (dt w (rst_ p r) x) (dt w r x) :=
  Cg.sm fun k _ => Cg.mul (by rw [rst_at]; exact Cg.emod _ _) (Cg.rf _ _)
end PL
/-! PGau: square rows turned round by a prime's rests. Plain laws, no program in sight. -/
namespace PL
def ln (N : List (List Int)) (i : Nat) : List Int := N.getD i []
theorem ln_eq {N : List (List Int)} {i : Nat} (h : i < N.length) : ln N i = N[i] := by
  show N.getD i [] = _
  rw [List.getD_eq_getElem?_getD, List.getElem?_eq_getElem h]
  rfl
theorem ln_mem {N : List (List Int)} {i : Nat} (h : i < N.length) : ln N i ∈ N := by
  rw [ln_eq h]
  exact List.getElem_mem h
theorem all_ln {N : List (List Int)} {Q : List Int → Prop} : (∀ r ∈ N, Q r) ↔ ∀ i, i < N.length → Q (ln N i) := by
  constructor
  · intro h i hi
    exact h _ (ln_mem hi)
  · intro h r hr
    obtain ⟨i, hi, rfl⟩ := List.getElem_of_mem hr
    have := h i hi
    rw [ln_eq hi] at this
    exact this
/-- what rows with ones beside them take to nought -/
def Au (p : Int) (n : Nat) (A : List (List Int)) (x : Nat → Int) : Prop := ∀ i, i < n → p ∣ dt n (ln A i) x + x (n + i)
structure TI (p : Int) (n : Nat) (A : List (List Int)) (q : Nat) (N : List (List Int)) : Prop where
  len : N.length = n
  rl : ∀ i, i < n → Rl p (n + n) (ln N i)
  sol : ∀ x, (∀ i, i < n → p ∣ dt (n + n) (ln N i) x) ↔ Au p n A x
  one : ∀ i c, i < n → c < q → at' (ln N i) c = if i = c then 1 else 0
/-- ones beside a row -/
def ons (n i : Nat) : List Int := (List.range n).map fun c => if i = c then 1 else 0
theorem ons_at {n i k : Nat} (hk : k < n) : at' (ons n i) k = if i = k then 1 else 0 := by
  rw [at_eq (by simp [ons, hk])]
  simp [ons]
theorem at_app1 {r s : List Int} {k : Nat} (h : k < r.length) : at' (r ++ s) k = at' r k := by
  rw [at_eq (by simp; omega), at_eq h]
  simp [List.getElem_append_left h]
theorem at_app2 {r s : List Int} {k n : Nat} (h : r.length = n) : at' (r ++ s) (n + k) = at' s k := by
  show (r ++ s).getD (n + k) 0 = s.getD k 0
  rw [List.getD_eq_getElem?_getD, List.getD_eq_getElem?_getD, List.getElem?_append_right (by omega)]
  congr 2
  omega
theorem TI.start {p : Int} {n : Nat} {A N : List (List Int)} (hp : 1 < p) (hA : ∀ i, i < n → (ln A i).length = n) (hN : N.length = n) (h : ∀ i, i < n → ln N i = rst_ p (ln A i) ++ ons n i) : TI p n A 0 N where
  len := hN
  rl := fun i hi => by
    have a := rst_rl (p := p) (by omega) (hA i hi)
    rw [h i hi]
    refine ⟨by rw [List.length_append, a.len]; simp [ons], fun x hx => ?_, fun x hx => ?_⟩
    · rcases List.mem_append.mp hx with z | z
      · exact a.lo x z
      · obtain ⟨c, _, rfl⟩ := List.mem_map.mp z
        split <;> omega
    · rcases List.mem_append.mp hx with z | z
      · exact a.hi x z
      · obtain ⟨c, _, rfl⟩ := List.mem_map.mp z
        split <;> omega
  sol := fun x => by
    have e : ∀ i, i < n → Cg p (dt (n + n) (ln N i) x) (dt n (ln A i) x + x (n + i)) := fun i hi => by
      have a := rst_rl (p := p) (by omega) (hA i hi)
      rw [h i hi]
      unfold dt
      rw [sm_split]
      refine Cg.add ?_ ?_
      · exact Cg.sm fun k hk => Cg.mul (by rw [at_app1 (by rw [a.len]; exact hk), rst_at]; exact Cg.emod _ _) (Cg.rf _ _)
      · rw [sm_one (j := i) hi fun k hk hne => by
          rw [at_app2 a.len, ons_at hk, if_neg (fun z => hne z.symm)]
          omega]
        rw [at_app2 a.len, ons_at hi, if_pos rfl, Int.one_mul]
        exact Cg.rf _ _
    constructor
    · intro z i hi
      exact (e i hi).dvd.1 (z i hi)
    · intro z i hi
      exact (e i hi).dvd.2 (z i hi)
  one := fun i c _ hc => by omega
/-- one place worked off: row f changed with row q, made to one there, taken off the others -/
theorem TI.step {p : Int} {n q f : Nat} {A N N3 : List (List Int)} (hp : PrI p) (h : TI p n A q N) (hq : q ≤ f) (hf : f < n) (hz : at' (ln N f) q ≠ 0) (P : List Int) (N1 : Nat → List Int)
    (hP : P = scl p (ln N f) (inv p (at' (ln N f) q))) (h1 : ∀ i, N1 i = if i = q then ln N f else if i = f then ln N q else ln N i)
    (hl : N3.length = n) (h3 : ∀ i, i < n → ln N3 i = if i = q then P else lsr p (N1 i) (at' (N1 i) q) P) : TI p n A (q + 1) N3 := by
  have h2 := hp.1
  have hqn : q < n := by omega
  have rlf := h.rl f hf
  have rl1 : ∀ i, i < n → Rl p (n + n) (N1 i) := fun i hi => by
    rw [h1]
    split
    · exact rlf
    · split
      · exact h.rl q hqn
      · exact h.rl i hi
  have rlP : Rl p (n + n) P := by
    rw [hP]
    exact scl_rl (by omega) rlf.len
  have zm : at' (ln N f) q % p ≠ 0 := by
    rw [Int.emod_eq_of_lt (rlf.at_lo q) (rlf.at_hi (by omega) q)]
    exact hz
  have bz := hp.inv_mul zm
  have rl3 : ∀ i, i < n → Rl p (n + n) (ln N3 i) := fun i hi => by
    rw [h3 i hi]
    split
    · exact rlP
    · exact lsr_rl (by omega) (rl1 i hi).len rlP.len
  refine ⟨hl, rl3, fun x => ?_, fun i c hi hc => ?_⟩
  · rw [← h.sol x]
    have dP : Cg p (dt (n + n) P x) (inv p (at' (ln N f) q) * dt (n + n) (ln N f) x) := by
      rw [hP]
      exact dt_scl x
    have d3 : ∀ i, i < n → i ≠ q → Cg p (dt (n + n) (ln N3 i) x) (dt (n + n) (N1 i) x - at' (N1 i) q * dt (n + n) P x) := fun i hi hne => by
      rw [h3 i hi, if_neg hne]
      exact dt_lsr (rl1 i hi).len rlP.len x
    constructor
    · intro z
      have zP : p ∣ dt (n + n) P x := by
        have := z q hqn
        rw [h3 q hqn, if_pos rfl] at this
        exact this
      have zf : p ∣ dt (n + n) (ln N f) x := by
        have w := dP.dvd.1 zP
        rcases hp.euclid w with u | u
        · exfalso
          obtain ⟨c, hc⟩ := u
          rw [hc, Int.mul_left_comm, Int.mul_emod_right] at bz
          omega
        · exact u
      have z1 : ∀ i, i < n → p ∣ dt (n + n) (N1 i) x := fun i hi => by
        by_cases e : i = q
        · rw [h1, if_pos e]
          exact zf
        · have w := (d3 i hi e).dvd.1 (z i hi)
          have u : p ∣ at' (N1 i) q * dt (n + n) P x := Int.dvd_mul_of_dvd_right zP
          have := Int.dvd_add w u
          rw [Int.sub_add_cancel] at this
          exact this
      intro i hi
      by_cases e : i = f
      · subst e
        exact zf
      · by_cases e2 : i = q
        · have := z1 f hf
          rw [h1, if_neg (by omega), if_pos rfl] at this
          rw [e2]
          exact this
        · have := z1 i hi
          rw [h1, if_neg e2, if_neg e] at this
          exact this
    · intro z i hi
      have zP : p ∣ dt (n + n) P x := dP.dvd.2 (Int.dvd_mul_of_dvd_right (z f hf))
      by_cases e : i = q
      · rw [h3 i hi, if_pos e]
        exact zP
      · refine (d3 i hi e).dvd.2 (Int.dvd_sub ?_ (Int.dvd_mul_of_dvd_right zP))
        rw [h1]
        split
        · exact z f hf
        · split
          · exact z q hqn
          · exact z i hi
  · have cn : c < n := by omega
    have Pc : at' P c = if q = c then 1 else 0 := by
      rw [hP, scl_at]
      by_cases e : q = c
      · rw [if_pos e, ← e]
        exact bz
      · rw [if_neg e, h.one f c hf (by omega), if_neg (by omega)]
        simp
    rw [h3 i hi]
    by_cases e : i = q
    · rw [if_pos e, Pc, e]
    · rw [if_neg e, lsr_at (rl1 i hi).len rlP.len (by omega), Pc]
      by_cases e2 : q = c
      · rw [if_pos e2, ← e2, if_neg (by omega)]
        simp
      · rw [if_neg e2, Int.mul_zero, Int.sub_zero, Int.emod_eq_of_lt ((rl1 i hi).at_lo c) ((rl1 i hi).at_hi (by omega) c)]
        rw [h1, if_neg e]
        split
        · rename_i e3
          rw [h.one q c hqn (by omega), if_neg e2, if_neg (by omega)]
        · exact h.one i c hi (by omega)
/-- a place where nothing is left: a line that is taken to nought -/
theorem TI.stuck {p : Int} {n q : Nat} {A N : List (List Int)} (hp : 1 < p) (h : TI p n A q N) (hq : q < n) (hz : ∀ i, q ≤ i → i < n → at' (ln N i) q = 0) : ∃ x : Nat → Int, (∀ i, i < n → p ∣ dt n (ln A i) x) ∧ x q = 1 := by
  refine ⟨fun k => if k < q then -at' (ln N k) q else if k = q then 1 else 0, fun i hi => ?_, by simp⟩
  have s := (h.sol fun k => if k < q then -at' (ln N k) q else if k = q then 1 else 0).1 fun i hi => by
    unfold dt
    have e : n + n = q + (1 + (n + n - q - 1)) := by omega
    rw [e, sm_split, sm_split (fun k => at' (ln N i) (q + k) * _) 1]
    have z3 : sm (fun k => at' (ln N i) (q + (1 + k)) * (if q + (1 + k) < q then -at' (ln N (q + (1 + k))) q else if q + (1 + k) = q then 1 else 0)) (n + n - q - 1) = 0 := sm_nought fun k _ => by
      rw [if_neg (by omega), if_neg (by omega)]
      omega
    rw [z3]
    have z2 : sm (fun k => at' (ln N i) (q + k) * (if q + k < q then -at' (ln N (q + k)) q else if q + k = q then 1 else 0)) 1 = at' (ln N i) q := by simp [sm]
    rw [z2]
    by_cases e2 : i < q
    · rw [sm_one (j := i) e2 fun k hk hne => by
        rw [h.one i k hi hk, if_neg (fun z => hne z.symm)]
        omega]
      dsimp only
      rw [h.one i i hi e2, if_pos rfl, if_pos e2]
      exact ⟨0, by omega⟩
    · rw [sm_nought fun k hk => by
        rw [h.one i k hi hk, if_neg (by omega)]
        omega]
      rw [hz i (by omega) hi]
      exact ⟨0, by omega⟩
  have := s i hi
  simp only at this
  rw [if_neg (by omega), if_neg (by omega), Int.add_zero] at this
  exact this
/-- B turns A round by p's rests -/
structure Tr (p : Int) (n : Nat) (A B : List (List Int)) : Prop where
  len : B.length = n
  rl : ∀ i, i < n → Rl p n (ln B i)
  ab : ∀ i j, i < n → j < n → Cg p (dt n (ln A i) fun k => at' (ln B k) j) (if i = j then 1 else 0)
  ba : ∀ i j, i < n → j < n → Cg p (dt n (ln B i) fun k => at' (ln A k) j) (if i = j then 1 else 0)
theorem at_drop {r : List Int} {n k : Nat} : at' (r.drop n) k = at' r (n + k) := by
  show (r.drop n).getD k 0 = r.getD (n + k) 0
  rw [List.getD_eq_getElem?_getD, List.getD_eq_getElem?_getD, List.getElem?_drop]
theorem TI.done {p : Int} {n : Nat} {A N B : List (List Int)} (hp : 1 < p) (h : TI p n A n N) (hl : B.length = n) (hB : ∀ i, i < n → ln B i = (ln N i).drop n) : Tr p n A B := by
  have bN : ∀ i k, i < n → at' (ln B i) k = at' (ln N i) (n + k) := fun i k hi => by rw [hB i hi, at_drop]
  refine ⟨hl, fun i hi => ?_, fun i j hi hj => ?_, fun i j hi hj => ?_⟩
  · have r := h.rl i hi
    rw [hB i hi]
    exact ⟨by rw [List.length_drop, r.len]; omega, fun x hx => r.lo x (List.mem_of_mem_drop hx), fun x hx => r.hi x (List.mem_of_mem_drop hx)⟩
  · have s := (h.sol fun k => if k < n then at' (ln B k) j else if k = n + j then -1 else 0).1 fun i hi => by
      unfold dt
      rw [sm_split]
      rw [sm_one (j := i) hi fun k hk hne => by
        rw [h.one i k hi hk, if_neg (fun z => hne z.symm)]
        omega]
      rw [sm_one (j := j) hj fun k hk hne => by
        dsimp only
        rw [if_neg (by omega), if_neg (by omega)]
        omega]
      dsimp only
      rw [h.one i i hi hi, if_pos rfl, if_pos hi, if_neg (by omega), if_pos rfl, bN i j hi]
      exact ⟨0, by omega⟩
    have z := s i hi
    have e : dt n (ln A i) (fun k => if k < n then at' (ln B k) j else if k = n + j then -1 else 0) = dt n (ln A i) fun k => at' (ln B k) j := sm_congr fun k hk => by
      dsimp only
      rw [if_pos hk]
    rw [e] at z
    simp only at z
    rw [if_neg (by omega)] at z
    unfold Cg
    by_cases e2 : i = j
    · rw [if_pos (by omega)] at z
      rw [if_pos e2]
      exact z
    · rw [if_neg (by omega)] at z
      rw [if_neg e2]
      simpa using z
  · have s := (h.sol fun k => if k < n then (if k = j then 1 else 0) else -at' (ln A (k - n)) j).2 (fun i hi => by
      have e : dt n (ln A i) (fun k => if k < n then (if k = j then 1 else 0) else -at' (ln A (k - n)) j) = at' (ln A i) j := by
        unfold dt
        rw [sm_one (j := j) hj fun k hk hne => by
          dsimp only
          rw [if_pos hk, if_neg hne]
          omega]
        dsimp only
        rw [if_pos hj, if_pos rfl]
        omega
      rw [e]
      simp only
      rw [if_neg (by omega), show n + i - n = i by omega]
      exact ⟨0, by omega⟩) i hi
    unfold dt at s
    rw [sm_split] at s
    rw [sm_one (j := j) hj fun k hk hne => by
      dsimp only
      rw [if_pos hk, if_neg hne]
      omega] at s
    dsimp only at s
    rw [if_pos hj, if_pos rfl, h.one i j hi hj] at s
    have e : sm (fun k => at' (ln N i) (n + k) * (if n + k < n then (if n + k = j then 1 else 0) else -at' (ln A (n + k - n)) j)) n = -dt n (ln B i) fun k => at' (ln A k) j := by
      have e1 : sm (fun k => at' (ln N i) (n + k) * (if n + k < n then (if n + k = j then 1 else 0) else -at' (ln A (n + k - n)) j)) n = sm (fun k => (-1) * (at' (ln B i) k * at' (ln A k) j)) n := sm_congr fun k hk => by
        rw [if_neg (by omega), show n + k - n = k by omega, bN i k hi]
        grind
      rw [e1, sm_mul, Int.neg_one_mul]
      rfl
    rw [e] at s
    refine Cg.sy ?_
    unfold Cg
    simpa [Int.sub_eq_add_neg] using s
end PL
/-! PPro: the first rows that hang on none ahead of them, by a prime's rests. Plain laws, no program in sight. -/
namespace PL
abbrev Kp := List (Nat × List Int)
/-- a line less what the kept ones tell of it -/
def red (p : Int) : Kp → List Int → List Int
  | [], v => v
  | o :: K, v => red p K (lsr p v (at' v o.1) o.2)
/-- the first place that isn't 0 -/
def ledL : List Int → Option Nat
  | [] => none
  | a :: r => if a = 0 then (ledL r).map (· + 1) else some 0
theorem at_nil (k : Nat) : at' [] k = 0 := rfl
theorem at_zero (a : Int) (r : List Int) : at' (a :: r) 0 = a := rfl
theorem at_succ (a : Int) (r : List Int) (k : Nat) : at' (a :: r) (k + 1) = at' r k := by
  show (a :: r).getD (k + 1) 0 = r.getD k 0
  simp
theorem ledL_none : ∀ {r : List Int}, ledL r = none → ∀ k, at' r k = 0
  | [], _, k => rfl
  | a :: r, h, k => by
    unfold ledL at h
    split at h
    · rename_i e
      cases k with
      | zero => exact e
      | succ k =>
        rw [at_succ]
        exact ledL_none (r := r) (by simpa using h) k
    · cases h
theorem ledL_some : ∀ {r : List Int} {f : Nat}, ledL r = some f → f < r.length ∧ at' r f ≠ 0 ∧ ∀ k, k < f → at' r k = 0
  | [], f, h => by cases h
  | a :: r, f, h => by
    unfold ledL at h
    split at h
    · rename_i e
      obtain ⟨g, h1, rfl⟩ := Option.map_eq_some_iff.mp h
      obtain ⟨h2, h3, h4⟩ := ledL_some h1
      refine ⟨by simp; omega, by rw [at_succ]; exact h3, fun k hk => ?_⟩
      cases k with
      | zero => exact e
      | succ k =>
        rw [at_succ]
        exact h4 k (by omega)
    · rename_i e
      cases h
      exact ⟨by simp, e, fun k hk => by omega⟩
structure KI (p : Int) (w : Nat) (K : Kp) : Prop where
  pl : ∀ o ∈ K, o.1 < w
  rl : ∀ o ∈ K, Rl p w o.2
  one : ∀ o ∈ K, at' o.2 o.1 = 1
  pw : K.Pairwise fun a b => at' a.2 b.1 = 0 ∧ at' b.2 a.1 = 0
theorem KI.tail {p : Int} {w : Nat} {o : Nat × List Int} {K : Kp} (h : KI p w (o :: K)) : KI p w K where
  pl := fun a ha => h.pl a (by simp [ha])
  rl := fun a ha => h.rl a (by simp [ha])
  one := fun a ha => h.one a (by simp [ha])
  pw := (List.pairwise_cons.mp h.pw).2
theorem KI.head {p : Int} {w : Nat} {o : Nat × List Int} {K : Kp} (h : KI p w (o :: K)) : ∀ a ∈ K, at' o.2 a.1 = 0 ∧ at' a.2 o.1 = 0 := (List.pairwise_cons.mp h.pw).1
theorem KI.perm {p : Int} {w : Nat} {K K' : Kp} (h : KI p w K) (e : K.Perm K') : KI p w K' where
  pl := fun a ha => h.pl a (e.mem_iff.mpr ha)
  rl := fun a ha => h.rl a (e.mem_iff.mpr ha)
  one := fun a ha => h.one a (e.mem_iff.mpr ha)
  pw := (e.pairwise_iff fun {a b} z => ⟨z.2, z.1⟩).mp h.pw
theorem red_rl {p : Int} {w : Nat} (hp : 0 < p) : ∀ {K : Kp} {v : List Int}, KI p w K → Rl p w v → Rl p w (red p K v)
  | [], v, _, h => h
  | o :: K, v, hK, h => by
    show Rl p w (red p K (lsr p v (at' v o.1) o.2))
    exact red_rl hp hK.tail (lsr_rl hp h.len (hK.rl o (by simp)).len)
/-- what the kept lines tell of a line, at a place -/
def tol (K : Kp) (v : List Int) (k : Nat) : Int := (K.map fun o => at' v o.1 * at' o.2 k).sum
theorem red_at {p : Int} {w : Nat} (hp : 0 < p) : ∀ {K : Kp} {v : List Int}, KI p w K → Rl p w v → ∀ k, k < w → Cg p (at' (red p K v) k) (at' v k - tol K v k)
  | [], v, _, _, k, _ => by
    simp only [red, tol, List.map_nil, List.sum_nil, Int.sub_zero]
    exact Cg.rf _ _
  | o :: K, v, hK, h, k, hk => by
    have ro := hK.rl o (by simp)
    have h' := lsr_rl (p := p) (m := at' v o.1) hp h.len ro.len
    have ih := red_at hp hK.tail h' k hk
    have e : tol K (lsr p v (at' v o.1) o.2) k = tol K v k := by
      unfold tol
      congr 1
      apply List.map_congr_left
      intro a ha
      have l := hK.pl a (by simp [ha])
      rw [lsr_at h.len ro.len l, (hK.head a ha).1, Int.mul_zero, Int.sub_zero, Int.emod_eq_of_lt (h.at_lo _) (h.at_hi hp _)]
    rw [e] at ih
    refine ih.tr ?_
    rw [lsr_at h.len ro.len hk]
    have : at' v k - tol (o :: K) v k = (at' v k - at' v o.1 * at' o.2 k) - tol K v k := by
      unfold tol
      rw [List.map_cons, List.sum_cons]
      omega
    rw [this]
    exact (Cg.emod _ _).sub (Cg.rf _ _)
theorem sum_perm {l m : List Int} (h : l.Perm m) : l.sum = m.sum := by
  induction h with
  | nil => rfl
  | cons a _ ih => simp [ih]
  | swap a b l => simp only [List.sum_cons]; omega
  | trans _ _ h1 h2 => rw [h1, h2]
theorem red_perm {p : Int} {w : Nat} (hp : 0 < p) {K K' : Kp} {v : List Int} (hK : KI p w K) (h : Rl p w v) (e : K.Perm K') : red p K v = red p K' v := by
  have hK' := hK.perm e
  have r1 := red_rl hp hK h
  have r2 := red_rl hp hK' h
  refine ext_at r1.len r2.len fun k hk => ?_
  refine Cg.eq ?_ (r1.at_lo k) (r1.at_hi hp k) (r2.at_lo k) (r2.at_hi hp k)
  have c1 := red_at hp hK h k hk
  have c2 := red_at hp hK' h k hk
  have et : tol K v k = tol K' v k := sum_perm (e.map _)
  rw [et] at c1
  exact c1.tr c2.sy
theorem red_keep {p : Int} {w : Nat} (hp : 0 < p) {c : Nat} (hc : c < w) : ∀ {K : Kp} {v : List Int}, KI p w K → Rl p w v → (∀ o ∈ K, at' o.2 c = 0) → at' (red p K v) c = at' v c
  | [], v, _, _, _ => rfl
  | o :: K, v, hK, h, hz => by
    have ro := hK.rl o (by simp)
    show at' (red p K (lsr p v (at' v o.1) o.2)) c = at' v c
    rw [red_keep hp hc hK.tail (lsr_rl hp h.len ro.len) (fun a ha => hz a (by simp [ha])), lsr_at h.len ro.len hc, hz o (by simp), Int.mul_zero, Int.sub_zero, Int.emod_eq_of_lt (h.at_lo _) (h.at_hi hp _)]
theorem red_zero {p : Int} {w : Nat} (hp : 0 < p) : ∀ {K : Kp} {v : List Int}, KI p w K → Rl p w v → ∀ o ∈ K, at' (red p K v) o.1 = 0
  | a :: K, v, hK, h, o, ho => by
    have ra := hK.rl a (by simp)
    have h' := lsr_rl (p := p) (m := at' v a.1) hp h.len ra.len
    rcases List.mem_cons.mp ho with e | e
    · subst e
      show at' (red p K (lsr p v (at' v o.1) o.2)) o.1 = 0
      have l := hK.pl o (by simp)
      rw [red_keep hp l hK.tail h' (fun b hb => (hK.head b hb).2), lsr_at h.len ra.len l, hK.one o (by simp), Int.mul_one, Int.sub_self]
      exact Int.zero_emod _
    · exact red_zero hp hK.tail h' o e
theorem red_dt {p : Int} {w : Nat} (hp : 0 < p) {x : Nat → Int} : ∀ {K : Kp} {v : List Int}, KI p w K → Rl p w v → (∀ o ∈ K, p ∣ dt w o.2 x) → (p ∣ dt w (red p K v) x ↔ p ∣ dt w v x)
  | [], v, _, _, _ => Iff.rfl
  | o :: K, v, hK, h, hz => by
    have ro := hK.rl o (by simp)
    refine (red_dt hp hK.tail (lsr_rl hp h.len ro.len) fun a ha => hz a (by simp [ha])).trans ?_
    have c := dt_lsr (p := p) (m := at' v o.1) h.len ro.len x
    have d : p ∣ at' v o.1 * dt w o.2 x := Int.dvd_mul_of_dvd_right (hz o (by simp))
    rw [c.dvd]
    constructor
    · intro z
      have := Int.dvd_add z d
      rw [Int.sub_add_cancel] at this
      exact this
    · intro z
      exact Int.dvd_sub z d
/-- the next row -/
def nxtK (p : Int) (K : Kp) (r : List Int) (f : Nat) : Kp := K.map fun o => (o.1, lsr p o.2 (at' o.2 f) (scl p r (inv p (at' r f))))
def nxt (p : Int) (s : Kp × List Nat) (i : Nat) (v : List Int) : Kp × List Nat :=
  match ledL (red p s.1 (rst_ p v)) with
  | none => s
  | some f => (nxtK p s.1 (red p s.1 (rst_ p v)) f ++ [(f, scl p (red p s.1 (rst_ p v)) (inv p (at' (red p s.1 (rst_ p v)) f)))], s.2 ++ [i])
def prof (p : Int) (A : List (List Int)) : Nat → Kp × List Nat
  | 0 => ([], [])
  | k + 1 => nxt p (prof p A k) k (ln A k)
structure PI (p : Int) (w : Nat) (A : List (List Int)) (k : Nat) (s : Kp × List Nat) : Prop where
  ki : KI p w s.1
  sol : ∀ x, (∀ o ∈ s.1, p ∣ dt w o.2 x) ↔ ∀ i, i < k → p ∣ dt w (ln A i) x
  num : s.2.length = s.1.length
  few : s.1.length ≤ k
theorem PI.next {p : Int} {w k : Nat} {A : List (List Int)} {s : Kp × List Nat} (hp : PrI p) (h : PI p w A k s) (hA : (ln A k).length = w) : PI p w A (k + 1) (nxt p s k (ln A k)) := by
  have h2 := hp.1
  have p0 : 0 < p := by omega
  have rv := rst_rl (p := p) p0 hA
  have rr := red_rl p0 h.ki rv
  have hz := red_zero p0 h.ki rv
  have hd := fun (x : Nat → Int) (z : ∀ o ∈ s.1, p ∣ dt w o.2 x) => (red_dt p0 h.ki rv z).trans (dt_rst x).dvd
  unfold nxt
  generalize red p s.1 (rst_ p (ln A k)) = r at rr hz hd
  cases e : ledL r with
  | none =>
    have z := ledL_none e
    refine ⟨h.ki, fun x => ?_, h.num, by have := h.few; dsimp only; omega⟩
    constructor
    · intro q i hi
      by_cases ek : i = k
      · rw [ek]
        refine (hd x q).1 ?_
        have : dt w r x = 0 := sm_nought fun j _ => by rw [z j, Int.zero_mul]
        rw [this]
        exact ⟨0, by omega⟩
      · exact (h.sol x).1 q i (by omega)
    · intro q
      exact (h.sol x).2 fun i hi => q i (by omega)
  | some f =>
    obtain ⟨f1, f2, _⟩ := ledL_some e
    rw [rr.len] at f1
    have zm : at' r f % p ≠ 0 := by
      rw [Int.emod_eq_of_lt (rr.at_lo f) (rr.at_hi p0 f)]
      exact f2
    have bz := hp.inv_mul zm
    dsimp only
    have rb : Rl p w (scl p r (inv p (at' r f))) := scl_rl p0 rr.len
    have bf : at' (scl p r (inv p (at' r f))) f = 1 := by rw [scl_at]; exact bz
    have b0 : ∀ o ∈ s.1, at' (scl p r (inv p (at' r f))) o.1 = 0 := fun o ho => by rw [scl_at, hz o ho, Int.zero_mul]; exact Int.zero_emod _
    have db := fun x => dt_scl (p := p) (b := inv p (at' r f)) (w := w) (r := r) x
    have nb : ¬ p ∣ inv p (at' r f) := fun ⟨c, hc⟩ => by
      rw [hc, Int.mul_left_comm, Int.mul_emod_right] at bz
      omega
    generalize hb : scl p r (inv p (at' r f)) = b at rb bf b0 db
    unfold nxtK
    rw [hb]
    have la : ∀ o ∈ s.1, ∀ c, c < w → at' (lsr p o.2 (at' o.2 f) b) c = (at' o.2 c - at' o.2 f * at' b c) % p := fun o ho c hc => lsr_at (h.ki.rl o ho).len rb.len hc
    have dm := fun x (o : Nat × List Int) (ho : o ∈ s.1) => dt_lsr (p := p) (m := at' o.2 f) (h.ki.rl o ho).len rb.len x
    refine ⟨⟨fun a ha => ?_, fun a ha => ?_, fun a ha => ?_, ?_⟩, fun x => ?_, ?_, ?_⟩
    · rcases List.mem_append.mp ha with z | z
      · obtain ⟨o, ho, rfl⟩ := List.mem_map.mp z
        exact h.ki.pl o ho
      · rw [List.mem_singleton.mp z]
        exact f1
    · rcases List.mem_append.mp ha with z | z
      · obtain ⟨o, ho, rfl⟩ := List.mem_map.mp z
        exact lsr_rl p0 (h.ki.rl o ho).len rb.len
      · rw [List.mem_singleton.mp z]
        exact rb
    · rcases List.mem_append.mp ha with z | z
      · obtain ⟨o, ho, rfl⟩ := List.mem_map.mp z
        dsimp only
        rw [la o ho o.1 (h.ki.pl o ho), b0 o ho, h.ki.one o ho, Int.mul_zero, Int.sub_zero]
        exact Int.emod_eq_of_lt (by omega) (by omega)
      · rw [List.mem_singleton.mp z]
        exact bf
    · rw [List.pairwise_append]
      refine ⟨?_, List.pairwise_singleton _ _, ?_⟩
      · rw [List.pairwise_map]
        refine List.Pairwise.imp_of_mem (fun {a c} ha hc hac => ?_) h.ki.pw
        dsimp only
        rw [la a ha c.1 (h.ki.pl c hc), la c hc a.1 (h.ki.pl a ha), hac.1, hac.2, b0 a ha, b0 c hc]
        simp
      · intro a ha c hc
        obtain ⟨o, ho, rfl⟩ := List.mem_map.mp ha
        rw [List.mem_singleton.mp hc]
        dsimp only
        refine ⟨?_, b0 o ho⟩
        rw [la o ho f f1, bf, Int.mul_one, Int.sub_self]
        exact Int.zero_emod _
    · constructor
      · intro q
        have qb : p ∣ dt w b x := q (f, b) (by simp)
        have qo : ∀ o ∈ s.1, p ∣ dt w o.2 x := fun o ho => by
          have z : p ∣ dt w (lsr p o.2 (at' o.2 f) b) x := q (o.1, lsr p o.2 (at' o.2 f) b) (List.mem_append_left _ (List.mem_map.mpr ⟨o, ho, rfl⟩))
          have z := (dm x o ho).dvd.1 z
          have zz : p ∣ at' o.2 f * dt w b x := Int.dvd_mul_of_dvd_right qb
          have := Int.dvd_add z zz
          rw [Int.sub_add_cancel] at this
          exact this
        intro i hi
        by_cases ek : i = k
        · rw [ek]
          refine (hd x qo).1 ?_
          rcases hp.euclid ((db x).dvd.1 qb) with z | z
          · exact (nb z).elim
          · exact z
        · exact (h.sol x).1 qo i (by omega)
      · intro q
        have qo := (h.sol x).2 fun i hi => q i (by omega)
        have qr := (hd x qo).2 (q k (by omega))
        have qb : p ∣ dt w b x := (db x).dvd.2 (Int.dvd_mul_of_dvd_right qr)
        intro a ha
        rcases List.mem_append.mp ha with z | z
        · obtain ⟨o, ho, rfl⟩ := List.mem_map.mp z
          exact (dm x o ho).dvd.2 (Int.dvd_sub (qo o ho) (Int.dvd_mul_of_dvd_right qb))
        · rw [List.mem_singleton.mp z]
          exact qb
    · simp [h.num]
    · have := h.few
      simp
      omega
theorem PI.of {p : Int} {w : Nat} {A : List (List Int)} (hp : PrI p) : ∀ {k : Nat}, (∀ i, i < k → (ln A i).length = w) → PI p w A k (prof p A k)
  | 0, _ => ⟨⟨fun _ h => (nomatch h), fun _ h => (nomatch h), fun _ h => (nomatch h), List.Pairwise.nil⟩, fun _ => ⟨fun _ i h => (Nat.not_lt_zero i h).elim, fun _ _ h => (nomatch h)⟩, rfl, Nat.le_refl _⟩
  | k + 1, h => (PI.of hp fun i hi => h i (by omega)).next hp (h k (by omega))
theorem KI.nodup {p : Int} {w : Nat} {K : Kp} (h : KI p w K) : (K.map (·.1)).Nodup := by
  show List.Pairwise _ _
  rw [List.pairwise_map]
  refine List.Pairwise.imp_of_mem (fun {a b} ha hb z e => ?_) h.pw
  have := h.one a ha
  rw [e, z.1] at this
  omega
theorem len_le {α : Type} [DecidableEq α] : ∀ {l m : List α}, l.Nodup → (∀ x ∈ l, x ∈ m) → l.length ≤ m.length
  | [], _, _, _ => Nat.zero_le _
  | a :: l, m, hn, hs => by
    have ha : a ∈ m := hs a (by simp)
    obtain ⟨h1, h2⟩ := List.nodup_cons.mp hn
    have := len_le (l := l) (m := m.erase a) h2 fun x hx => (List.mem_erase_of_ne (fun e => h1 (by rw [← e]; exact hx))).2 (hs x (by simp [hx]))
    rw [List.length_erase_of_mem ha] at this
    have := List.length_pos_of_mem ha
    simp
    omega
theorem pw_of {α : Type} {R : α → α → Prop} (sy : ∀ a b, R a b → R b a) : ∀ {l : List α}, l.Pairwise R → ∀ a ∈ l, ∀ b ∈ l, a ≠ b → R a b
  | [], _, _, ha, _, _, _ => nomatch ha
  | c :: l, h, a, ha, b, hb, ne => by
    obtain ⟨h1, h2⟩ := List.pairwise_cons.mp h
    rcases List.mem_cons.mp ha with e | e
    · rcases List.mem_cons.mp hb with e2 | e2
      · exact (ne (e.trans e2.symm)).elim
      · rw [e]
        exact h1 b e2
    · rcases List.mem_cons.mp hb with e2 | e2
      · rw [e2]
        exact sy _ _ (h1 a e)
      · exact pw_of sy h2 a e b e2 ne
theorem KI.few {p : Int} {w : Nat} {K : Kp} (h : KI p w K) : K.length ≤ w := by
  have z := (len_le h.nodup (m := List.range w) fun x hx => by
    obtain ⟨o, ho, rfl⟩ := List.mem_map.mp hx
    exact List.mem_range.mpr (h.pl o ho))
  simpa using z
/-- rows that are turned round hang on none ahead of them -/
theorem prof_full {p : Int} {n : Nat} {A B : List (List Int)} (hp : PrI p) (hA : ∀ i, i < n → (ln A i).length = n) (hB : Tr p n A B) : ∀ k, k ≤ n → (prof p A k).2 = List.range k
  | 0, _ => rfl
  | k + 1, hk => by
    have h2 := hp.1
    have p0 : 0 < p := by omega
    have ih := prof_full hp hA hB k (by omega)
    have h : PI p n A k (prof p A k) := PI.of hp fun i hi => hA i (by omega)
    have rv := rst_rl (p := p) p0 (hA k (by omega))
    have hd := fun (x : Nat → Int) (z : ∀ o ∈ (prof p A k).1, p ∣ dt n o.2 x) => (red_dt p0 h.ki rv z).trans (dt_rst x).dvd
    show (nxt p (prof p A k) k (ln A k)).2 = _
    unfold nxt
    generalize red p (prof p A k).1 (rst_ p (ln A k)) = r at hd
    cases e : ledL r with
    | some f => simp [ih, List.range_succ]
    | none =>
      exfalso
      have z := ledL_none e
      have q := (hd (fun j => at' (ln B j) k) ((h.sol _).2 fun i hi => by
        have := hB.ab i k (by omega) (by omega)
        rw [if_neg (by omega)] at this
        exact cg_zero.1 this)).1 (by
          have : dt n r (fun j => at' (ln B j) k) = 0 := sm_nought fun j _ => by rw [z j, Int.zero_mul]
          rw [this]
          exact ⟨0, by omega⟩)
      have c := hB.ab k k (by omega) (by omega)
      rw [if_pos rfl] at c
      have := c.dvd.1 q
      have := Int.le_of_dvd (by omega) this
      omega
/-- where a line is taken to nought, some row hangs on those ahead -/
theorem prof_less {p : Int} {n q : Nat} {A : List (List Int)} {x : Nat → Int} (hp : PrI p) (hA : ∀ i, i < n → (ln A i).length = n) (hx : ∀ i, i < n → p ∣ dt n (ln A i) x) (hq : q < n) (h1 : x q = 1) : (prof p A n).2.length < n := by
  have h2 := hp.1
  have h : PI p n A n (prof p A n) := PI.of hp hA
  rw [h.num]
  have := h.few
  apply Nat.lt_of_le_of_ne this
  intro e
  have hm := (perm_of ((prof p A n).1.map (·.1)) (List.range n) h.ki.nodup (fun y hy => by
    obtain ⟨o, ho, rfl⟩ := List.mem_map.mp hy
    exact List.mem_range.mpr (h.ki.pl o ho)) (by simp; omega))
  have pl : ∀ k, k < n → ∃ o ∈ (prof p A n).1, o.1 = k := fun k hk => by
    have := hm.mem_iff.mpr (List.mem_range.mpr hk)
    obtain ⟨o, ho, e⟩ := List.mem_map.mp this
    exact ⟨o, ho, e⟩
  obtain ⟨o, ho, eo⟩ := pl q hq
  have d := (h.sol x).2 hx o ho
  have e2 : dt n o.2 x = 1 := by
    unfold dt
    rw [sm_one (j := q) hq fun k hk hne => by
      obtain ⟨a, ha, ea⟩ := pl k hk
      have z : at' o.2 a.1 = 0 := by
        have ne : o ≠ a := fun z => hne (by rw [← ea, ← z, eo])
        exact (pw_of (fun _ _ z => ⟨z.2, z.1⟩) h.ki.pw o ho a ha ne).1
      rw [← ea, z, Int.zero_mul]]
    rw [h1, ← eo, h.ki.one o ho]
    rfl
  rw [e2] at d
  have := Int.le_of_dvd (by omega) d
  omega
end PL
/-! PDet: determinants by the first row; rows told twice; Cramer's numbers, their sizes; no kernel, no nought. Plain laws. -/
namespace PL
theorem sm_neg (f : Nat → Int) : ∀ n : Nat, sm (fun k => -f k) n = -sm f n
  | 0 => rfl
  | n + 1 => by
    simp only [sm]
    rw [sm_neg f n]
    omega
theorem sm_swap (f : Nat → Nat → Int) (n : Nat) : ∀ m : Nat, sm (fun j => sm (fun c => f j c) n) m = sm (fun c => sm (fun j => f j c) m) n
  | 0 => by
    simp only [sm]
    exact (sm_nought fun k _ => rfl).symm
  | m + 1 => by
    simp only [sm]
    rw [sm_swap f n m, ← sm_add]
/-- a row without its j-th part -/
def del (j : Nat) (r : Nat → Int) : Nat → Int := fun c => if c < j then r c else r (c + 1)
def sgn (k : Nat) : Int := if k % 2 = 0 then 1 else -1
theorem sgn_succ (k : Nat) : sgn (k + 1) = -sgn k := by
  unfold sgn
  split <;> split <;> omega
theorem sgn_sq (k : Nat) : sgn k * sgn k = 1 := by
  unfold sgn
  split <;> rfl
/-- Laplace along the first row -/
def dtm : List (Nat → Int) → Int
  | [] => 1
  | r :: m => sm (fun j => sgn j * r j * dtm (m.map (del j))) (m.length + 1)
termination_by m => m.length
theorem dtm_cons (r : Nat → Int) (m : List (Nat → Int)) : dtm (r :: m) = sm (fun j => sgn j * r j * dtm (m.map (del j))) (m.length + 1) := by
  rw [dtm]
theorem del_del {j l : Nat} (h : j ≤ l) (r : Nat → Int) : del l (del j r) = del j (del (l + 1) r) := by
  funext c
  unfold del
  repeat' split
  all_goals first | rfl | omega
/-- a sum without its j-th part -/
theorem sm_skip (h : Nat → Int) {j : Nat} : ∀ {n : Nat}, j ≤ n → sm (fun l => h (if l < j then l else l + 1)) n = sm (fun c => if c = j then 0 else h c) (n + 1)
  | 0, hj => by
    have : j = 0 := by omega
    subst this
    simp [sm]
  | n + 1, hj => by
    by_cases e : j = n + 1
    · subst e
      show _ = sm (fun c => if c = n + 1 then 0 else h c) (n + 1) + (if n + 1 = n + 1 then 0 else h (n + 1))
      rw [if_pos rfl, Int.add_zero]
      exact sm_congr fun k hk => by rw [if_pos hk, if_neg (by omega)]
    · show sm (fun l => h (if l < j then l else l + 1)) n + h (if n < j then n else n + 1) = sm (fun c => if c = j then 0 else h c) (n + 1) + (if n + 1 = j then 0 else h (n + 1))
      rw [sm_skip h (by omega), if_neg (show ¬ n < j by omega), if_neg (show ¬ n + 1 = j by omega)]
/-- the sign and the rest of two columns left out -/
def two (m : List (Nat → Int)) (j c : Nat) : Int := if c < j then dtm ((m.map (del j)).map (del c)) else dtm ((m.map (del c)).map (del j))
def eps (j c : Nat) : Int := if c = j then 0 else if c < j then sgn j * sgn c else -(sgn j * sgn c)
theorem eps_swap (j c : Nat) : eps c j = -eps j c := by
  unfold eps
  by_cases e : c = j
  · subst e
    simp
  · rw [if_neg e, if_neg (fun z => e z.symm)]
    by_cases l : c < j
    · rw [if_pos l, if_neg (by omega), Int.mul_comm]
    · rw [if_neg l, if_pos (by omega), Int.mul_comm]
      omega
theorem two_swap (m : List (Nat → Int)) {j c : Nat} (h : c ≠ j) : two m c j = two m j c := by
  unfold two
  by_cases l : c < j
  · rw [if_pos l, if_neg (by omega)]
  · rw [if_neg l, if_pos (by omega)]
theorem dtm_two (a b : Nat → Int) (m : List (Nat → Int)) : dtm (a :: b :: m) = sm (fun j => sm (fun c => eps j c * (a j * b c * two m j c)) (m.length + 2)) (m.length + 2) := by
  rw [dtm_cons]
  show sm _ (m.length + 1 + 1) = _
  refine sm_congr fun j hj => ?_
  have hj : j ≤ m.length + 1 := by omega
  rw [List.map_cons, dtm_cons, List.length_map, ← sm_mul]
  have e := sm_skip (fun c => eps j c * (a j * b c * two m j c)) (j := j) (n := m.length + 1) hj
  have z : sm (fun c => if c = j then 0 else eps j c * (a j * b c * two m j c)) (m.length + 1 + 1) = sm (fun c => eps j c * (a j * b c * two m j c)) (m.length + 2) := by
    refine sm_congr fun c _ => ?_
    by_cases q : c = j
    · rw [if_pos q, q]
      unfold eps
      rw [if_pos rfl, Int.zero_mul]
    · rw [if_neg q]
  rw [← z, ← e]
  refine sm_congr fun l hl => ?_
  by_cases q : l < j
  · rw [if_pos q]
    unfold eps two
    rw [if_neg (by omega), if_pos q, if_pos q]
    have d : del j b l = b l := by
      unfold del
      rw [if_pos q]
    rw [d]
    grind
  · rw [if_neg q]
    unfold eps two
    rw [if_neg (by omega), if_neg (by omega), if_neg (by omega)]
    have d : del j b l = b (l + 1) := by
      unfold del
      rw [if_neg q]
    have d2 : (m.map (del j)).map (del l) = (m.map (del (l + 1))).map (del j) := by
      rw [List.map_map, List.map_map]
      exact List.map_congr_left fun r _ => del_del (by omega) r
    rw [d, d2, sgn_succ]
    grind
theorem dtm_swap (a b : Nat → Int) (m : List (Nat → Int)) : dtm (b :: a :: m) = -dtm (a :: b :: m) := by
  rw [dtm_two, dtm_two, sm_swap (fun j c => eps j c * (b j * a c * two m j c)), ← sm_neg]
  refine sm_congr fun j _ => ?_
  rw [← sm_neg]
  refine sm_congr fun c _ => ?_
  rw [eps_swap]
  by_cases q : c = j
  · subst q
    unfold eps
    rw [if_pos rfl]
    simp
  · rw [two_swap m q]
    grind
/-- a row told twice -/
theorem dtm_same : ∀ (m1 : List (Nat → Int)) (r : Nat → Int) (m2 : List (Nat → Int)), dtm (r :: (m1 ++ r :: m2)) = 0
  | [], r, m2 => by
    have := dtm_swap r r m2
    rw [List.nil_append]
    omega
  | b :: m1, r, m2 => by
    rw [List.cons_append, dtm_swap b r, dtm_cons]
    have : sm (fun j => sgn j * b j * dtm ((r :: (m1 ++ r :: m2)).map (del j))) ((r :: (m1 ++ r :: m2)).length + 1) = 0 := sm_nought fun j _ => by
      rw [List.map_cons, List.map_append, List.map_cons, dtm_same (m1.map (del j)), Int.mul_zero]
    rw [this]
    rfl
termination_by m1 => m1.length
decreasing_by all_goals simp
/-- what takes all rows to nought: one row fewer than columns -/
def mnr (m : List (Nat → Int)) (j : Nat) : Int := sgn j * dtm (m.map (del j))
theorem mnr_row (r : Nat → Int) (m : List (Nat → Int)) : sm (fun j => r j * mnr m j) (m.length + 1) = dtm (r :: m) := by
  rw [dtm_cons]
  exact sm_congr fun j _ => by
    unfold mnr
    grind
theorem mnr_nought {m : List (Nat → Int)} {r : Nat → Int} (h : r ∈ m) : sm (fun j => r j * mnr m j) (m.length + 1) = 0 := by
  rw [mnr_row]
  obtain ⟨m1, m2, e⟩ := List.append_of_mem h
  rw [e]
  exact dtm_same m1 r m2
/-- the parts of a row without signs -/
def asm (r : Nat → Int) (n : Nat) : Int := sm (fun c => ((r c).natAbs : Int)) n
theorem asm_nn (r : Nat → Int) : ∀ n : Nat, 0 ≤ asm r n
  | 0 => Int.le_refl _
  | n + 1 => by
    show 0 ≤ asm r n + ((r n).natAbs : Int)
    have := asm_nn r n
    omega
theorem asm_del (r : Nat → Int) (j : Nat) : ∀ n : Nat, asm (del j r) n ≤ asm r (n + 1) ∧ (n ≤ j → asm (del j r) n ≤ asm r n)
  | 0 => ⟨asm_nn r 1, fun _ => Int.le_refl _⟩
  | n + 1 => by
    obtain ⟨h1, h2⟩ := asm_del r j n
    show asm (del j r) n + ((del j r n).natAbs : Int) ≤ asm r (n + 1) + ((r (n + 1)).natAbs : Int) ∧ (n + 1 ≤ j → asm (del j r) n + ((del j r n).natAbs : Int) ≤ asm r n + ((r n).natAbs : Int))
    have e : asm r (n + 1) = asm r n + ((r n).natAbs : Int) := rfl
    by_cases l : n < j
    · have d : del j r n = r n := by
        unfold del
        rw [if_pos l]
      rw [d]
      have := h2 (by omega)
      exact ⟨by omega, fun _ => by omega⟩
    · have d : del j r n = r (n + 1) := by
        unfold del
        rw [if_neg l]
      rw [d]
      exact ⟨by omega, fun _ => by omega⟩
def asp (m : List (Nat → Int)) (n : Nat) : Int := m.foldr (fun r t => asm r n * t) 1
theorem asp_nn (m : List (Nat → Int)) (n : Nat) : 0 ≤ asp m n := by
  induction m with
  | nil => exact Int.le_of_lt Int.one_pos
  | cons r m ih => exact Int.mul_nonneg (asm_nn r n) ih
theorem asp_del (j n : Nat) (m : List (Nat → Int)) : asp (m.map (del j)) n ≤ asp m (n + 1) := by
  induction m with
  | nil => exact Int.le_refl _
  | cons r m ih => exact Int.mul_le_mul (asm_del r j n).1 ih (asp_nn _ _) (asm_nn _ _)
theorem sm_abs_le {f g : Nat → Int} {B : Int} (hB : 0 ≤ B) : ∀ {n : Nat}, (∀ k, k < n → ((f k).natAbs : Int) ≤ ((g k).natAbs : Int) * B) → ((sm f n).natAbs : Int) ≤ asm g n * B
  | 0, _ => by
    show ((0 : Int).natAbs : Int) ≤ 0 * B
    simp
  | n + 1, h => by
    have i := sm_abs_le hB (n := n) fun k hk => h k (by omega)
    have j := h n (by omega)
    show ((sm f n + f n).natAbs : Int) ≤ (asm g n + ((g n).natAbs : Int)) * B
    rw [Int.add_mul]
    have := Int.natAbs_add_le (sm f n) (f n)
    omega
theorem sgn_abs (k : Nat) : (sgn k).natAbs = 1 := by
  unfold sgn
  split <;> rfl
theorem dtm_le : ∀ (n : Nat) (m : List (Nat → Int)), m.length = n → ((dtm m).natAbs : Int) ≤ asp m n
  | 0, m, h => by
    have : m = [] := List.length_eq_zero_iff.mp h
    subst this
    rw [dtm]
    decide
  | n + 1, [], h => by simp at h
  | n + 1, r :: m, h => by
    have hm : m.length = n := by simpa using h
    rw [dtm_cons, hm]
    show _ ≤ asm r (n + 1) * asp m (n + 1)
    refine sm_abs_le (asp_nn _ _) fun j _ => ?_
    rw [Int.natAbs_mul, Int.natAbs_mul, sgn_abs, Nat.one_mul, Int.natCast_mul]
    refine Int.mul_le_mul_of_nonneg_left ?_ (by omega)
    exact Int.le_trans (dtm_le n (m.map (del j)) (by simpa using hm)) (asp_del j n m)
/-- rests by a prime, or none at all (p = 0) -/
def Ip (p : Int) : Prop := (∀ a b, p ∣ a * b → p ∣ a ∨ p ∣ b) ∧ ¬ p ∣ 1
theorem ip_zero : Ip 0 := ⟨fun a b h => by
    rw [Int.zero_dvd] at h ⊢
    rw [Int.zero_dvd]
    exact Int.mul_eq_zero.mp h, by decide⟩
theorem PrI.ip {p : Int} (h : PrI p) : Ip p := ⟨fun _ _ => h.euclid, no_dvd (by decide) (by have := h.1; omega)⟩
/-- a part put in -/
def ins0 (j : Nat) (u : Nat → Int) : Nat → Int := fun c => if c < j then u c else if c = j then 0 else u (c - 1)
theorem sm_ins0 (r u : Nat → Int) {j n : Nat} (h : j ≤ n) : sm (fun c => r c * ins0 j u c) (n + 1) = sm (fun c => del j r c * u c) n := by
  have e := sm_skip (fun c => r c * ins0 j u c) h
  have z : sm (fun c => if c = j then 0 else r c * ins0 j u c) (n + 1) = sm (fun c => r c * ins0 j u c) (n + 1) := sm_congr fun c _ => by
    by_cases q : c = j
    · rw [if_pos q]
      unfold ins0
      rw [if_neg (by omega), if_pos q, Int.mul_zero]
    · rw [if_neg q]
  rw [← z, ← e]
  refine sm_congr fun l _ => ?_
  unfold del ins0
  by_cases q : l < j
  · rw [if_pos q, if_pos q, if_pos q]
  · rw [if_neg q, if_neg q, if_neg (by omega), if_neg (by omega), Nat.add_sub_cancel]
/-- where the determinant is nought by rests, something that isn't takes all rows to nought -/
theorem dtm_ker {p : Int} (hp : Ip p) : ∀ (n : Nat) (m : List (Nat → Int)), m.length = n → p ∣ dtm m → ∃ x : Nat → Int, (∀ r ∈ m, p ∣ sm (fun c => r c * x c) n) ∧ ∃ c, c < n ∧ ¬ p ∣ x c
  | 0, m, h, hd => by
    have : m = [] := List.length_eq_zero_iff.mp h
    subst this
    rw [dtm] at hd
    exact absurd hd hp.2
  | n + 1, [], h, _ => by simp at h
  | n + 1, r :: m, h, hd => by
    have hm : m.length = n := by simpa using h
    by_cases v : ∃ j, j < n + 1 ∧ ¬ p ∣ mnr m j
    · refine ⟨mnr m, fun s hs => ?_, v⟩
      rcases List.mem_cons.mp hs with rfl | hs
      · have := mnr_row s m
        rw [hm] at this
        rw [this]
        exact hd
      · have := mnr_nought hs
        rw [hm] at this
        rw [this]
        exact Int.dvd_zero p
    · have v : ∀ j, j < n + 1 → p ∣ dtm (m.map (del j)) := fun j hj => by
        have z : p ∣ mnr m j := Classical.byContradiction fun z => v ⟨j, hj, z⟩
        unfold mnr at z
        have z2 := Int.dvd_mul_of_dvd_right (b := sgn j) z
        rw [← Int.mul_assoc, sgn_sq, Int.one_mul] at z2
        exact z2
      have K : ∀ j, j < n + 1 → ∃ u : Nat → Int, (∀ s ∈ m, p ∣ sm (fun c => s c * u c) (n + 1)) ∧ u j = 0 ∧ ∃ c, c < n + 1 ∧ c ≠ j ∧ ¬ p ∣ u c := fun j hj => by
        obtain ⟨u, h1, c, h2, h3⟩ := dtm_ker hp n (m.map (del j)) (by simpa using hm) (v j hj)
        refine ⟨ins0 j u, fun s hs => ?_, ?_, ?_⟩
        · rw [sm_ins0 s u (by omega)]
          exact h1 _ (List.mem_map.mpr ⟨s, hs, rfl⟩)
        · unfold ins0
          rw [if_neg (by omega), if_pos rfl]
        · by_cases q : c < j
          · refine ⟨c, by omega, by omega, ?_⟩
            unfold ins0
            rw [if_pos q]
            exact h3
          · refine ⟨c + 1, by omega, by omega, ?_⟩
            unfold ins0
            rw [if_neg (by omega), if_neg (by omega), Nat.add_sub_cancel]
            exact h3
      obtain ⟨u, u1, u2, c, c1, c2, c3⟩ := K 0 (by omega)
      obtain ⟨w, w1, w2, e, e1, _, e3⟩ := K c c1
      obtain ⟨al, hal⟩ : ∃ al, sm (fun c => r c * w c) (n + 1) = al := ⟨_, rfl⟩
      by_cases a0 : p ∣ al
      · refine ⟨w, fun s hs => ?_, e, e1, e3⟩
        rcases List.mem_cons.mp hs with rfl | hs
        · rw [hal]
          exact a0
        · exact w1 s hs
      · obtain ⟨be, hbe⟩ : ∃ be, sm (fun c => r c * u c) (n + 1) = be := ⟨_, rfl⟩
        have lin : ∀ s : Nat → Int, sm (fun k => s k * (al * u k - be * w k)) (n + 1) = al * sm (fun k => s k * u k) (n + 1) - be * sm (fun k => s k * w k) (n + 1) := fun s => by
          rw [← sm_mul, ← sm_mul, Int.sub_eq_add_neg, ← sm_neg, ← sm_add]
          exact sm_congr fun k _ => by grind
        refine ⟨fun k => al * u k - be * w k, fun s hs => ?_, c, c1, ?_⟩
        · rw [lin]
          rcases List.mem_cons.mp hs with rfl | hs
          · rw [hal, hbe, Int.mul_comm, Int.sub_self]
            exact Int.dvd_zero p
          · exact Int.dvd_sub (Int.dvd_mul_of_dvd_right (u1 s hs)) (Int.dvd_mul_of_dvd_right (w1 s hs))
        · show ¬ p ∣ al * u c - be * w c
          rw [w2, Int.mul_zero, Int.sub_zero]
          exact fun z => (hp.1 _ _ z).elim a0 c3
end PL
/-! PSol: square systems: Cramer's numbers, fractions, rests by powers of a prime. Plain laws. -/
namespace PL
/-- a row by another -/
abbrev dp (n : Nat) (r x : Nat → Int) : Int := sm (fun c => r c * x c) n
def prN (f : Nat → Int) : Nat → Int
  | 0 => 1
  | n + 1 => prN f n * f n
theorem prN_congr {f g : Nat → Int} : ∀ {n : Nat}, (∀ k, k < n → f k = g k) → prN f n = prN g n
  | 0, _ => rfl
  | n + 1, h => by
    simp only [prN]
    rw [prN_congr fun k hk => h k (by omega), h n (by omega)]
theorem prN_nn {f : Nat → Int} : ∀ {n : Nat}, (∀ k, k < n → 0 ≤ f k) → 0 ≤ prN f n
  | 0, _ => Int.le_of_lt Int.one_pos
  | n + 1, h => Int.mul_nonneg (prN_nn fun k hk => h k (by omega)) (h n (by omega))
theorem prN_mono {f g : Nat → Int} : ∀ {n : Nat}, (∀ k, k < n → 0 ≤ f k ∧ f k ≤ g k) → prN f n ≤ prN g n
  | 0, _ => Int.le_refl _
  | n + 1, h => Int.mul_le_mul (prN_mono fun k hk => h k (by omega)) (h n (by omega)).2 (h n (by omega)).1 (prN_nn fun k hk => Int.le_trans (h k (by omega)).1 (h k (by omega)).2)
theorem asp_range (g : Nat → Nat → Int) (w : Nat) : ∀ n : Nat, asp ((List.range n).map g) w = prN (fun i => asm (g i) w) n
  | 0 => rfl
  | n + 1 => by
    have app : ∀ l m : List (Nat → Int), asp (l ++ m) w = asp l w * asp m w := fun l m => by
      induction l with
      | nil =>
        show asp m w = 1 * asp m w
        omega
      | cons r l ih =>
        show asm r w * asp (l ++ m) w = asm r w * asp l w * asp m w
        rw [ih, Int.mul_assoc]
    rw [List.range_succ, List.map_append, app, asp_range g w n]
    show _ * (asm (g n) w * 1) = prN (fun i => asm (g i) w) n * asm (g n) w
    rw [Int.mul_one]
/-- Cramer's numbers -/
theorem cram (n : Nat) (K : Nat → Nat → Int) (s : Nat → Int) : ∃ (N : Nat → Int) (D : Int), (∀ i, i < n → dp n (K i) N = D * s i) ∧ ((D.natAbs : Int) ≤ prN (fun i => asm (K i) n) n) ∧ (∀ j, j < n → ((N j).natAbs : Int) ≤ prN (fun i => asm (K i) n + ((s i).natAbs : Int)) n) ∧
    ∀ p, Ip p → p ∣ D → ∃ x : Nat → Int, (∀ i, i < n → p ∣ dp n (K i) x) ∧ ∃ c, c < n ∧ ¬ p ∣ x c := by
  let au : Nat → Nat → Int := fun i c => if c < n then K i c else s i
  let m := (List.range n).map au
  have hm : m.length = n := by simp [m]
  have mem : ∀ i, i < n → au i ∈ m := fun i hi => List.mem_map.mpr ⟨i, List.mem_range.mpr hi, rfl⟩
  have aK : ∀ i c, c < n → au i c = K i c := fun i c h => if_pos h
  have am : ∀ i k, k ≤ n → asm (au i) k = asm (K i) k := fun i k h => sm_congr fun c hc => by rw [aK i c (by omega)]
  refine ⟨mnr m, -mnr m n, fun i hi => ?_, ?_, fun j hj => ?_, fun p hp hd => ?_⟩
  · have z := mnr_nought (mem i hi)
    rw [hm] at z
    have e : sm (fun j => au i j * mnr m j) (n + 1) = dp n (K i) (mnr m) + s i * mnr m n := by
      show sm _ n + au i n * mnr m n = _
      rw [sm_congr fun c hc => by rw [aK i c hc]]
      congr 1
      show (if n < n then _ else _) * _ = _
      rw [if_neg (by omega)]
    rw [e] at z
    grind
  · rw [Int.natAbs_neg]
    unfold mnr
    rw [Int.natAbs_mul, sgn_abs, Nat.one_mul]
    refine Int.le_trans (dtm_le n _ (by simp [hm])) ?_
    have e : m.map (del n) = (List.range n).map fun i => del n (au i) := by
      simp [m]
    rw [e, asp_range]
    refine prN_mono fun i hi => ⟨asm_nn _ _, ?_⟩
    have := (asm_del (au i) n n).2 (Nat.le_refl _)
    rw [am i n (Nat.le_refl _)] at this
    exact this
  · unfold mnr
    rw [Int.natAbs_mul, sgn_abs, Nat.one_mul]
    refine Int.le_trans (dtm_le n _ (by simp [hm])) (Int.le_trans (asp_del j n m) ?_)
    rw [asp_range]
    refine prN_mono fun i hi => ⟨asm_nn _ _, ?_⟩
    show asm (au i) n + ((au i n).natAbs : Int) ≤ _
    rw [am i n (Nat.le_refl _), show au i n = s i from if_neg (by omega)]
    exact Int.le_refl _
  · have hd : p ∣ dtm (m.map (del n)) := by
      have z := (Int.dvd_neg).mp hd
      unfold mnr at z
      have z2 := Int.dvd_mul_of_dvd_right (b := sgn n) z
      rw [← Int.mul_assoc, sgn_sq, Int.one_mul] at z2
      exact z2
    obtain ⟨x, h1, h2⟩ := dtm_ker hp n (m.map (del n)) (by simp [hm]) hd
    refine ⟨x, fun i hi => ?_, h2⟩
    have z := h1 _ (List.mem_map.mpr ⟨_, mem i hi, rfl⟩)
    have e : sm (fun c => del n (au i) c * x c) n = dp n (K i) x := sm_congr fun c hc => by
      unfold del
      rw [if_pos hc, aK i c hc]
    rw [e] at z
    exact z
theorem dp_lin (n : Nat) (r x y : Nat → Int) (a b : Int) : dp n r (fun c => a * x c - b * y c) = a * dp n r x - b * dp n r y := by
  unfold dp
  rw [← sm_mul, ← sm_mul, Int.sub_eq_add_neg, ← sm_neg, ← sm_add]
  exact sm_congr fun k _ => by grind
theorem dp_mul (n : Nat) (r x : Nat → Int) (a : Int) : dp n r (fun c => a * x c) = a * dp n r x := by
  unfold dp
  rw [← sm_mul]
  exact sm_congr fun k _ => by grind
theorem dp_congr {n : Nat} {r x y : Nat → Int} (h : ∀ c, c < n → x c = y c) : dp n r x = dp n r y := sm_congr fun c hc => by rw [h c hc]
/-- by a number's rests nothing but nought is taken to nought -/
def Ns_ (p : Int) (n : Nat) (K : Nat → Nat → Int) : Prop := ∀ x : Nat → Int, (∀ i, i < n → p ∣ dp n (K i) x) → ∀ c, c < n → p ∣ x c
theorem Ns_.pow {p : Int} {n : Nat} {K : Nat → Nat → Int} (hp : p ≠ 0) (h : Ns_ p n K) : ∀ e : Nat, Ns_ (p ^ e) n K
  | 0 => fun x _ c _ => by
    rw [Int.pow_zero]
    exact Int.one_dvd _
  | e + 1 => fun x hx c hc => by
    have h1 := h x fun i hi => Int.dvd_trans ⟨p ^ e, by rw [Int.pow_succ, Int.mul_comm]⟩ (hx i hi)
    have h2 : ∀ c, ∃ y, c < n → x c = p * y := fun c => by
      by_cases q : c < n
      · obtain ⟨y, hy⟩ := h1 c q
        exact ⟨y, fun _ => hy⟩
      · exact ⟨0, fun z => absurd z q⟩
    obtain ⟨y, hy⟩ := Classical.axiomOfChoice h2
    have h3 := h.pow hp e y fun i hi => by
      have z := hx i hi
      rw [dp_congr (y := fun c => p * y c) fun c hc => hy c hc, dp_mul, Int.pow_succ, Int.mul_comm (p ^ e)] at z
      exact Int.dvd_of_mul_dvd_mul_left hp z
    rw [hy c hc, Int.pow_succ, Int.mul_comm (p ^ e)]
    exact Int.mul_dvd_mul (Int.dvd_refl p) (h3 c hc)
theorem pow_big {p : Int} (hp : 2 ≤ p) : ∀ e : Nat, (e : Int) < p ^ e
  | 0 => by simp
  | e + 1 => by
    have := pow_big hp e
    rw [Int.pow_succ]
    have h : p ^ e * 2 ≤ p ^ e * p := Int.mul_le_mul_of_nonneg_left hp (by omega)
    omega
theorem Ns_.zero {p : Int} {n : Nat} {K : Nat → Nat → Int} (hp : 2 ≤ p) (h : Ns_ p n K) : Ns_ 0 n K := fun x hx c hc => by
  have z : ∀ e : Nat, p ^ e ∣ x c := fun e => h.pow (by omega) e x (fun i hi => by
    have := hx i hi
    rw [Int.zero_dvd] at this
    rw [this]
    exact Int.dvd_zero _) c hc
  rw [Int.zero_dvd]
  apply Classical.byContradiction
  intro ne
  have h1 := Int.le_of_dvd (by omega) (Int.dvd_natAbs.mpr (z (x c).natAbs))
  have := pow_big hp (x c).natAbs
  omega
/-- W by d solves the system -/
structure SolQ (n : Nat) (K : Nat → Nat → Int) (s W : Nat → Int) (d : Int) : Prop where
  d0 : 0 < d
  eq : ∀ i, i < n → dp n (K i) W = d * s i
theorem SolQ.one {n : Nat} {K : Nat → Nat → Int} {s W V : Nat → Int} {d e : Int} (hK : Ns_ 0 n K) (h : SolQ n K s W d) (g : SolQ n K s V e) (c : Nat) (hc : c < n) : W c * e = V c * d := by
  have z := hK (fun c => e * W c - d * V c) (fun i hi => by
    rw [dp_lin, h.eq i hi, g.eq i hi, Int.zero_dvd]
    grind) c hc
  rw [Int.zero_dvd] at z
  grind
theorem solQ_of {p : Int} {n : Nat} {K : Nat → Nat → Int} (s : Nat → Int) (hp : Ip p) (h : Ns_ p n K) : ∃ W d, SolQ n K s W d ∧ ¬ p ∣ d ∧ d ≤ prN (fun i => asm (K i) n) n ∧ ∀ j, j < n → ((W j).natAbs : Int) ≤ prN (fun i => asm (K i) n + ((s i).natAbs : Int)) n := by
  obtain ⟨N, D, h1, h2, h3, h4⟩ := cram n K s
  have hD : ¬ p ∣ D := fun z => by
    obtain ⟨x, a, c, hc, b⟩ := h4 p hp z
    exact b (h x a c hc)
  have D0 : D ≠ 0 := fun z => hD (by rw [z]; exact Int.dvd_zero p)
  by_cases q : 0 < D
  · exact ⟨N, D, ⟨q, h1⟩, hD, by omega, h3⟩
  · refine ⟨fun c => -N c, -D, ⟨by omega, fun i hi => ?_⟩, fun z => hD (Int.dvd_neg.mp z), by omega, fun j hj => by rw [Int.natAbs_neg]; exact h3 j hj⟩
    have e := h1 i hi
    have : dp n (K i) (fun c => -N c) = -dp n (K i) N := by
      unfold dp
      rw [← sm_neg]
      exact sm_congr fun c _ => by grind
    rw [this, e]
    grind
theorem cop_dvd {a b c : Int} (h : Int.gcd a b = 1) (hd : a ∣ b * c) : a ∣ c := by
  have hd' : a.natAbs ∣ b.natAbs * c.natAbs := by
    rw [← Int.natAbs_mul]
    exact Int.natAbs_dvd_natAbs.2 hd
  exact Int.natAbs_dvd_natAbs.1 (Nat.Coprime.dvd_of_dvd_mul_left h hd')
/-- a fraction in least terms -/
def red2 (a d : Int) : Int × Int := (a / (Int.gcd a d : Int), d / (Int.gcd a d : Int))
theorem red2_of {a d : Int} (h : 0 < d) : ∃ g : Int, 0 < g ∧ g = (Int.gcd a d : Int) ∧ a = g * (red2 a d).1 ∧ d = g * (red2 a d).2 ∧ 0 < (red2 a d).2 ∧ Int.gcd (red2 a d).1 (red2 a d).2 = 1 := by
  have g0 : 0 < Int.gcd a d := Int.gcd_pos_of_ne_zero_right _ (by omega)
  have e1 : a = (Int.gcd a d : Int) * (a / (Int.gcd a d : Int)) := (Int.mul_ediv_cancel' (Int.gcd_dvd_left _ _)).symm
  have e2 : d = (Int.gcd a d : Int) * (d / (Int.gcd a d : Int)) := (Int.mul_ediv_cancel' (Int.gcd_dvd_right _ _)).symm
  refine ⟨(Int.gcd a d : Int), by omega, rfl, e1, e2, ?_, ?_⟩
  · exact Int.ediv_pos_of_pos_of_dvd h (by omega) (Int.gcd_dvd_right _ _)
  · exact Int.gcd_ediv_gcd_ediv_gcd g0
theorem red2_one {a d b e : Int} (hd : 0 < d) (he : 0 < e) (h : a * e = b * d) : red2 a d = red2 b e := by
  obtain ⟨g, g0, _, a1, d1, p1, c1⟩ := red2_of (a := a) hd
  obtain ⟨k, k0, _, b1, e1, p2, c2⟩ := red2_of (a := b) he
  generalize hx : red2 a d = x at *
  generalize hy : red2 b e = y at *
  obtain ⟨x1, x2⟩ := x
  obtain ⟨y1, y2⟩ := y
  simp only at *
  have gk : g * k ≠ 0 := Int.mul_ne_zero (by omega) (by omega)
  have q : x1 * y2 = y1 * x2 := Int.eq_of_mul_eq_mul_left gk (by
    rw [a1, b1, d1, e1] at h
    grind)
  have d1 : x2 ∣ y2 := cop_dvd (by rw [Int.gcd_comm]; exact c1) ⟨y1, by rw [q, Int.mul_comm]⟩
  have d2 : y2 ∣ x2 := cop_dvd (by rw [Int.gcd_comm]; exact c2) ⟨x1, by rw [← q, Int.mul_comm]⟩
  have e2 : x2 = y2 := Int.dvd_antisymm (by omega) (by omega) d1 d2
  subst e2
  have e3 : x1 = y1 := Int.eq_of_mul_eq_mul_right (by omega) q
  rw [e3]
theorem red2_self {a d : Int} (hd : 0 < d) (h : Int.gcd a d = 1) : red2 a d = (a, d) := by
  unfold red2
  rw [h]
  simp
/-- rests by the power lead to the fractions -/
theorem is_led {p : Int} {n e : Nat} {K : Nat → Nat → Int} {s W R : Nat → Int} {d top bottom : Int} (hp : PrI p) (h : Ns_ p n K) (q : SolQ n K s W d) (hd : ¬ p ∣ d) (h1 : d ≤ bottom) (h2 : ∀ j, j < n → ((W j).natAbs : Int) ≤ top) (hR : ∀ i, i < n → p ^ e ∣ dp n (K i) R - s i) (j : Nat) (hj : j < n) :
    IsSol (R j) (p ^ e) top bottom (red2 (W j) d).1 (red2 (W j) d).2 := by
  obtain ⟨g, g0, _, a1, d1, p1, c1⟩ := red2_of (a := W j) q.d0
  have z := h.pow (by have := hp.1; omega) e (fun c => d * R c - 1 * W c) (fun i hi => by
    rw [dp_lin, q.eq i hi]
    obtain ⟨t, ht⟩ := hR i hi
    exact ⟨d * t, by grind⟩) j hj
  have co : ∀ e : Nat, Int.gcd (p ^ e) g = 1 := fun e => by
    refine Classical.byContradiction fun ne => ?_
    have gp : ∀ q : Int, PrI q → q ∣ p ^ e → q ∣ g → False := fun q hq h1 h2 => by
      have : ∀ e : Nat, q ∣ p ^ e → q ∣ p := fun e => by
        induction e with
        | zero =>
          intro z
          rw [Int.pow_zero] at z
          exact absurd z hq.ip.2
        | succ e ih =>
          intro z
          rw [Int.pow_succ] at z
          exact (hq.euclid z).elim ih id
      have qp := this e h1
      have := hp.div (g := q.toNat) (by have := hq.1; rw [show ((q.toNat : Nat) : Int) = q by omega]; exact qp)
      have := hq.1
      have qe : q = p := by omega
      rw [qe] at h2
      exact hd (by rw [d1]; exact Int.dvd_mul_of_dvd_left h2)
    -- a prime part
    have ex : ∀ k : Nat, ∀ m : Int, 2 ≤ m → m.toNat ≤ k → ∃ q, PrI q ∧ q ∣ m := fun k => by
      induction k with
      | zero => intro m h1 h2; omega
      | succ k ih =>
        intro m h1 h2
        by_cases c : ∃ d : Int, 2 ≤ d ∧ d * d ≤ m ∧ m % d = 0
        · obtain ⟨d, a, b, c⟩ := c
          have dm : d < m := by
            have : d * 2 ≤ d * d := Int.mul_le_mul_of_nonneg_left a (by omega)
            omega
          obtain ⟨q, q1, q2⟩ := ih d a (by omega)
          exact ⟨q, q1, Int.dvd_trans q2 (Int.dvd_of_emod_eq_zero c)⟩
        · exact ⟨m, ⟨h1, fun d a b c' => c ⟨d, a, b, c'⟩⟩, Int.dvd_refl m⟩
    have pe0 : 0 < p ^ e := Int.pow_pos (by have := hp.1; omega)
    have g1 : 0 < Int.gcd (p ^ e) g := Int.gcd_pos_of_ne_zero_right _ (by omega)
    obtain ⟨q, q1, q2⟩ := ex _ (Int.gcd (p ^ e) g : Int) (by omega) (Nat.le_refl _)
    exact gp q q1 (Int.dvd_trans q2 (Int.gcd_dvd_left _ _)) (Int.dvd_trans q2 (Int.gcd_dvd_right _ _))
  have ab : ((red2 (W j) d).1.natAbs : Int) ≤ ((W j).natAbs : Int) := by
    have e : ((W j).natAbs : Int) = g * ((red2 (W j) d).1.natAbs : Int) := by
      have := congrArg Int.natAbs a1
      rw [Int.natAbs_mul] at this
      have g2 : (g.natAbs : Int) = g := by omega
      rw [this, Int.natCast_mul, g2]
    rw [e]
    have : 1 * ((red2 (W j) d).1.natAbs : Int) ≤ g * ((red2 (W j) d).1.natAbs : Int) := Int.mul_le_mul_of_nonneg_right (by omega) (by omega)
    omega
  have hj2 := h2 j hj
  refine ⟨p1, ?_, by omega, by omega, ?_, c1⟩
  · have : 1 * (red2 (W j) d).2 ≤ g * (red2 (W j) d).2 := Int.mul_le_mul_of_nonneg_right (by omega) (by omega)
    omega
  · refine cop_dvd (b := g) (co e) ?_
    have : g * ((red2 (W j) d).2 * R j - (red2 (W j) d).1) = d * R j - 1 * W j := by grind
    rw [this]
    exact z
end PL
/-! PLift: digits by a prime, power by power. Plain laws. -/
namespace PL
/-- the sum of products, place by place -/
def sdot (r x : List Int) : Int := (List.zipWith (· * ·) r x).sum
theorem sdot_at : ∀ {r x : List Int} {n : Nat}, r.length = n → x.length = n → sdot r x = dp n (at' r) (at' x)
  | [], [], n, h, _ => by
    subst h
    rfl
  | [], _ :: _, _, h, g => by
    simp at h g
    omega
  | _ :: _, [], _, h, g => by
    simp at h g
    omega
  | a :: r, b :: x, n, h, g => by
    subst h
    have e : sdot (a :: r) (b :: x) = a * b + sdot r x := by
      unfold sdot
      rw [List.zipWith_cons_cons, List.sum_cons]
    have s := sm_split (fun k => at' (a :: r) k * at' (b :: x) k) 1 r.length
    rw [e, sdot_at (n := r.length) rfl (by simpa using g)]
    show _ = sm (fun k => at' (a :: r) k * at' (b :: x) k) (r.length + 1)
    rw [Nat.add_comm r.length 1, s]
    congr 1
    · show _ = 0 + _
      rw [Int.zero_add]
      rfl
    · exact sm_congr fun k _ => by rw [Nat.add_comm 1 k, at_succ, at_succ]
theorem sum_sm (f : Nat → Int) : ∀ n : Nat, ((List.range n).map f).sum = sm f n
  | 0 => rfl
  | n + 1 => by
    rw [List.range_succ, List.map_append, List.sum_append, sum_sm f n]
    simp [sm]
theorem sdot_sum {r x : List Int} {n : Nat} (hr : r.length = n) (hx : x.length = n) : ((List.range n).map fun j => at' r j * at' x j).sum = sdot r x := by
  rw [sum_sm, sdot_at hr hx]
theorem sm_assoc (n m : Nat) (a : Nat → Int) (b : Nat → Nat → Int) (x : Nat → Int) : sm (fun k => a k * sm (fun j => b k j * x j) n) m = sm (fun j => sm (fun k => a k * b k j) m * x j) n := by
  rw [sm_congr (g := fun k => sm (fun j => a k * b k j * x j) n) fun k _ => by
    rw [← sm_mul]
    exact sm_congr fun j _ => by grind, sm_swap]
  refine sm_congr fun j _ => ?_
  rw [Int.mul_comm, ← sm_mul]
  exact sm_congr fun k _ => by grind
theorem sm_ones {n : Nat} {i : Nat} (hi : i < n) (x : Nat → Int) : sm (fun j => (if i = j then 1 else 0) * x j) n = x i := by
  rw [sm_one (j := i) hi fun k hk hne => by rw [if_neg (fun z => hne z.symm), Int.zero_mul], if_pos rfl, Int.one_mul]
/-- one digit: what is turned round -/
def dgt (p : Int) (B : List (List Int)) (L : List Int) : List Int := B.map fun r => sdot r L % p
/-- what is left behind it -/
def nxl (p : Int) (A : List (List Int)) (L d : List Int) : List Int := List.zipWith (fun a b => (a - b) / p) L (A.map fun r => sdot r d)
theorem mp_at {f : List Int → Int} {A : List (List Int)} {i : Nat} (h : i < A.length) : at' (A.map f) i = f (ln A i) := by
  rw [at_eq (by simpa using h), ln_eq h]
  simp
theorem dgt_rl {p : Int} {n : Nat} {B : List (List Int)} (hp : 0 < p) (hB : B.length = n) (L : List Int) : Rl p n (dgt p B L) := by
  have e : dgt p B L = rst_ p (B.map fun r => sdot r L) := by
    unfold dgt rst_
    rw [List.map_map]
    rfl
  rw [e]
  exact rst_rl hp (by simpa using hB)
theorem dgt_at {p : Int} {n : Nat} {B : List (List Int)} {L : List Int} (hB : B.length = n) (hr : ∀ i, i < n → (ln B i).length = n) (hL : L.length = n) {i : Nat} (hi : i < n) : at' (dgt p B L) i = dp n (at' (ln B i)) (at' L) % p := by
  unfold dgt
  rw [mp_at (by omega), sdot_at (hr i hi) hL]
theorem dgt_ok {p : Int} {n : Nat} {A B : List (List Int)} (h : Tr p n A B) {L : List Int} (hL : L.length = n) (i : Nat) (hi : i < n) : Cg p (dp n (at' (ln A i)) (at' (dgt p B L))) (at' L i) := by
  have e : Cg p (dp n (at' (ln A i)) (at' (dgt p B L))) (sm (fun k => at' (ln A i) k * dp n (at' (ln B k)) (at' L)) n) := Cg.sm fun k hk => by
    rw [dgt_at h.len (fun i hi => (h.rl i hi).len) hL hk]
    exact (Cg.rf _ _).mul (Cg.emod _ _)
  refine e.tr ?_
  rw [sm_assoc n n (at' (ln A i)) (fun k => at' (ln B k)) (at' L)]
  have e2 : Cg p (sm (fun j => sm (fun k => at' (ln A i) k * at' (ln B k) j) n * at' L j) n) (sm (fun j => (if i = j then 1 else 0) * at' L j) n) := Cg.sm fun j hj => (h.ab i j hi hj).mul (Cg.rf _ _)
  rw [sm_ones hi] at e2
  exact e2
theorem dgt_only {p : Int} {n : Nat} {A B : List (List Int)} (hp : 0 < p) (h : Tr p n A B) {L x : List Int} (hL : L.length = n) (hx : Rl p n x) (q : ∀ i, i < n → Cg p (dp n (at' (ln A i)) (at' x)) (at' L i)) : x = dgt p B L := by
  have hd := dgt_rl hp h.len L
  refine ext_at hx.len hd.len fun i hi => ?_
  refine Cg.eq ?_ (hx.at_lo i) (hx.at_hi hp i) (hd.at_lo i) (hd.at_hi hp i)
  rw [dgt_at h.len (fun i hi => (h.rl i hi).len) hL hi]
  refine Cg.tr ?_ (Cg.emod _ _).sy
  have e : Cg p (sm (fun k => at' (ln B i) k * dp n (at' (ln A k)) (at' x)) n) (dp n (at' (ln B i)) (at' L)) := Cg.sm fun k hk => (Cg.rf _ _).mul (q k hk)
  refine Cg.tr ?_ e
  rw [sm_assoc n n (at' (ln B i)) (fun k => at' (ln A k)) (at' x)]
  have e2 : Cg p (sm (fun j => sm (fun k => at' (ln B i) k * at' (ln A k) j) n * at' x j) n) (sm (fun j => (if i = j then 1 else 0) * at' x j) n) := Cg.sm fun j hj => (h.ba i j hi hj).mul (Cg.rf _ _)
  rw [sm_ones hi] at e2
  exact e2.sy
theorem nxl_len {p : Int} {n : Nat} {A : List (List Int)} {L : List Int} (d : List Int) (hA : A.length = n) (hL : L.length = n) : (nxl p A L d).length = n := by
  unfold nxl
  simp
  omega
theorem nxl_at {p : Int} {n : Nat} {A : List (List Int)} {L d : List Int} (hA : A.length = n) (hr : ∀ i, i < n → (ln A i).length = n) (hL : L.length = n) (hd : d.length = n) {i : Nat} (hi : i < n) : at' (nxl p A L d) i = (at' L i - dp n (at' (ln A i)) (at' d)) / p := by
  rw [at_eq (by rw [nxl_len d hA hL]; exact hi)]
  unfold nxl
  rw [List.getElem_zipWith, ← at_eq (by omega), ← at_eq (by simp; omega), mp_at (by omega), sdot_at (hr i hi) hd]
/-- exactly so -/
theorem nxl_ok {p : Int} {n : Nat} {A B : List (List Int)} (hA : A.length = n) (hr : ∀ i, i < n → (ln A i).length = n) (h : Tr p n A B) (hp : 0 < p) {L : List Int} (hL : L.length = n) {i : Nat} (hi : i < n) : p * at' (nxl p A L (dgt p B L)) i = at' L i - dp n (at' (ln A i)) (at' (dgt p B L)) := by
  rw [nxl_at hA hr hL (dgt_rl hp h.len L).len hi]
  exact Int.mul_ediv_cancel' (dgt_ok h hL i hi).sy
/-- what is left, and the digits taken -/
def lrun (p : Int) (A B : List (List Int)) (s : List Int) : Nat → List Int × List (List Int)
  | 0 => (s, [])
  | k + 1 => (nxl p A (lrun p A B s k).1 (dgt p B (lrun p A B s k).1), (lrun p A B s k).2 ++ [dgt p B (lrun p A B s k).1])
theorem lrun_len (p : Int) (A B : List (List Int)) (s : List Int) : ∀ k, (lrun p A B s k).2.length = k
  | 0 => rfl
  | k + 1 => by
    show ((lrun p A B s k).2 ++ [_]).length = _
    rw [List.length_append, lrun_len p A B s k]
    rfl
theorem lrun_take (p : Int) (A B : List (List Int)) (s : List Int) (k : Nat) : ∀ j, (lrun p A B s (k + j)).2.take k = (lrun p A B s k).2
  | 0 => by
    rw [Nat.add_zero, List.take_of_length_le (by rw [lrun_len]; omega)]
  | j + 1 => by
    show ((lrun p A B s (k + j)).2 ++ [_]).take k = _
    rw [List.take_append_of_le_length (by rw [lrun_len]; omega), lrun_take p A B s k j]
/-- the rests that digits come to -/
def rsts (p : Int) (n : Nat) (ds : List (List Int)) : List Int := (ds.foldl (fun (f : List Int × Int) d => (List.zipWith (fun a b => a + f.2 * b) f.1 d, f.2 * p)) (List.replicate n 0, 1)).1
theorem rsts_pow (p : Int) (n : Nat) (ds : List (List Int)) : (ds.foldl (fun (f : List Int × Int) d => (List.zipWith (fun a b => a + f.2 * b) f.1 d, f.2 * p)) (List.replicate n 0, 1)).2 = p ^ ds.length := by
  have : ∀ (ds : List (List Int)) (f : List Int × Int), (ds.foldl (fun (f : List Int × Int) d => (List.zipWith (fun a b => a + f.2 * b) f.1 d, f.2 * p)) f).2 = f.2 * p ^ ds.length := fun ds => by
    induction ds with
    | nil =>
      intro f
      simp
    | cons d ds ih =>
      intro f
      rw [List.foldl_cons, ih, List.length_cons, Int.pow_succ]
      grind
  rw [this]
  simp
theorem rsts_snoc (p : Int) (n : Nat) (ds : List (List Int)) (d : List Int) : rsts p n (ds ++ [d]) = List.zipWith (fun a b => a + p ^ ds.length * b) (rsts p n ds) d := by
  have e := rsts_pow p n ds
  unfold rsts
  rw [List.foldl_append]
  show List.zipWith _ _ _ = _
  rw [e]
/-- n rows of width n, what turns them round, and a side -/
structure LI (p : Int) (n : Nat) (A B : List (List Int)) (s : List Int) : Prop where
  hp : PrI p
  hA : A.length = n
  hr : ∀ i, i < n → (ln A i).length = n
  tr : Tr p n A B
  hs : s.length = n
theorem LI.left {p : Int} {n : Nat} {A B : List (List Int)} {s : List Int} (h : LI p n A B s) : ∀ k, (lrun p A B s k).1.length = n
  | 0 => h.hs
  | k + 1 => nxl_len _ h.hA (h.left k)
theorem LI.dig {p : Int} {n : Nat} {A B : List (List Int)} {s : List Int} (h : LI p n A B s) : ∀ k, ∀ d ∈ (lrun p A B s k).2, Rl p n d
  | 0 => fun d hd => nomatch hd
  | k + 1 => fun d hd => by
    rcases List.mem_append.mp hd with z | z
    · exact h.dig k d z
    · rw [List.mem_singleton.mp z]
      exact dgt_rl (by have := h.hp.1; omega) h.tr.len _
theorem rsts_len {p : Int} {n : Nat} {ds : List (List Int)} (h : ∀ d ∈ ds, d.length = n) : (rsts p n ds).length = n := by
  have : ∀ (ds : List (List Int)) (f : List Int × Int), f.1.length = n → (∀ d ∈ ds, d.length = n) → (ds.foldl (fun (f : List Int × Int) d => (List.zipWith (fun a b => a + f.2 * b) f.1 d, f.2 * p)) f).1.length = n := fun ds => by
    induction ds with
    | nil => exact fun f hf _ => hf
    | cons d ds ih =>
      intro f hf hd
      rw [List.foldl_cons]
      refine ih _ ?_ fun e he => hd e (by simp [he])
      rw [List.length_zipWith, hf, hd d (by simp)]
      omega
  exact this ds _ (by simp) h
theorem rsts_at {p : Int} {n : Nat} {ds : List (List Int)} {d : List Int} (h : ∀ e ∈ ds, e.length = n) (hd : d.length = n) {c : Nat} (hc : c < n) : at' (rsts p n (ds ++ [d])) c = at' (rsts p n ds) c + p ^ ds.length * at' d c := by
  have l := rsts_len (p := p) h
  rw [rsts_snoc, at_eq (by simp; omega), List.getElem_zipWith, ← at_eq, ← at_eq]
theorem LI.len {p : Int} {n : Nat} {A B : List (List Int)} {s : List Int} (h : LI p n A B s) (k : Nat) : ∀ d ∈ (lrun p A B s k).2, d.length = n := fun d hd => (h.dig k d hd).len
/-- together they solve it by the power -/
theorem LI.sol {p : Int} {n : Nat} {A B : List (List Int)} {s : List Int} (h : LI p n A B s) : ∀ (k i : Nat), i < n → dp n (at' (ln A i)) (at' (rsts p n (lrun p A B s k).2)) + p ^ k * at' (lrun p A B s k).1 i = at' s i
  | 0, i, hi => by
    have : dp n (at' (ln A i)) (at' (rsts p n (lrun p A B s 0).2)) = 0 := sm_nought fun c _ => by
      have e : at' (rsts p n (lrun p A B s 0).2) c = 0 := by
        show (List.replicate n (0 : Int)).getD c 0 = 0
        rw [List.getD_eq_getElem?_getD, List.getElem?_replicate]
        split <;> rfl
      rw [e, Int.mul_zero]
    rw [this, Int.pow_zero, Int.one_mul, Int.zero_add]
    rfl
  | k + 1, i, hi => by
    have ih := h.sol k i hi
    have hp := h.hp.1
    obtain ⟨L, hL⟩ : ∃ L, (lrun p A B s k).1 = L := ⟨_, rfl⟩
    have lL := h.left k
    have dl := (dgt_rl (by omega) h.tr.len L (p := p)).len
    have nx := nxl_ok h.hA h.hr h.tr (by omega) (L := L) (by rw [← hL]; exact lL) hi
    have e : dp n (at' (ln A i)) (at' (rsts p n (lrun p A B s (k + 1)).2)) = dp n (at' (ln A i)) (at' (rsts p n (lrun p A B s k).2)) + p ^ k * dp n (at' (ln A i)) (at' (dgt p B L)) := by
      show sm _ n = sm _ n + _ * sm _ n
      rw [← sm_mul, ← sm_add]
      refine sm_congr fun c hc => ?_
      show _ * at' (rsts p n ((lrun p A B s k).2 ++ [dgt p B (lrun p A B s k).1])) c = _
      rw [rsts_at (h.len k) (by rw [hL]; exact dl) hc, lrun_len, hL]
      grind
    have e2 : at' (lrun p A B s (k + 1)).1 i = at' (nxl p A L (dgt p B L)) i := by
      show at' (nxl p A (lrun p A B s k).1 (dgt p B (lrun p A B s k).1)) i = _
      rw [hL]
    rw [e, e2, Int.pow_succ]
    rw [hL] at ih
    grind
theorem asm_dp {n : Nat} {r x : Nat → Int} {B : Int} (hB : 0 ≤ B) (h : ∀ c, c < n → ((x c).natAbs : Int) ≤ B) : ((dp n r x).natAbs : Int) ≤ asm r n * B := sm_abs_le hB fun c hc => by
  rw [Int.natAbs_mul, Int.natCast_mul]
  exact Int.mul_le_mul_of_nonneg_left (h c hc) (by omega)
/-- what is left stays small -/
theorem LI.small {p : Int} {n : Nat} {A B : List (List Int)} {s : List Int} (h : LI p n A B s) {M : Int} (hM : ∀ i, i < n → asm (at' (ln A i)) n ≤ M) (hs : ∀ i, i < n → ((at' s i).natAbs : Int) ≤ M) : ∀ (k i : Nat), i < n → ((at' (lrun p A B s k).1 i).natAbs : Int) ≤ M
  | 0, i, hi => hs i hi
  | k + 1, i, hi => by
    have ih := h.small hM hs k i hi
    have hp := h.hp.1
    obtain ⟨L, hL⟩ : ∃ L, (lrun p A B s k).1 = L := ⟨_, rfl⟩
    have lL := h.left k
    rw [hL] at ih lL
    have nx := nxl_ok h.hA h.hr h.tr (by omega) (L := L) lL hi
    have dr := dgt_rl (by omega) h.tr.len L (p := p)
    have bd := asm_dp (n := n) (r := at' (ln A i)) (x := at' (dgt p B L)) (B := p - 1) (by omega) fun c _ => by
      have a := dr.at_lo c
      have b := dr.at_hi (by omega) c
      omega
    have e2 : at' (lrun p A B s (k + 1)).1 i = at' (nxl p A L (dgt p B L)) i := by
      show at' (nxl p A (lrun p A B s k).1 (dgt p B (lrun p A B s k).1)) i = _
      rw [hL]
    rw [e2]
    generalize at' (nxl p A L (dgt p B L)) i = y at nx
    have hm := hM i hi
    have an := asm_nn (at' (ln A i)) n
    have q : asm (at' (ln A i)) n * (p - 1) ≤ M * (p - 1) := Int.mul_le_mul_of_nonneg_right hm (by omega)
    have q2 : ((p * y).natAbs : Int) ≤ M * p := by
      rw [nx]
      have : M * p = M + M * (p - 1) := by grind
      omega
    rw [Int.natAbs_mul, Int.natCast_mul, Int.mul_comm M] at q2
    have pp : (p.natAbs : Int) = p := by omega
    rw [pp] at q2
    exact Int.le_of_mul_le_mul_left q2 (by omega)
/-- rests are from nought on, less than the power -/
theorem LI.rest {p : Int} {n : Nat} {A B : List (List Int)} {s : List Int} (h : LI p n A B s) : ∀ (k c : Nat), c < n → 0 ≤ at' (rsts p n (lrun p A B s k).2) c ∧ at' (rsts p n (lrun p A B s k).2) c < p ^ k
  | 0, c, hc => by
    have e : at' (rsts p n (lrun p A B s 0).2) c = 0 := by
      show (List.replicate n (0 : Int)).getD c 0 = 0
      rw [List.getD_eq_getElem?_getD, List.getElem?_replicate]
      split <;> rfl
    rw [e]
    simp
  | k + 1, c, hc => by
    obtain ⟨i1, i2⟩ := h.rest k c hc
    have hp := h.hp.1
    have dr := dgt_rl (by omega) h.tr.len (lrun p A B s k).1 (p := p)
    have e : at' (rsts p n (lrun p A B s (k + 1)).2) c = _ := rsts_at (h.len k) dr.len hc
    rw [e, lrun_len]
    have a := dr.at_lo c
    have b := dr.at_hi (by omega) c
    generalize at' (dgt p B (lrun p A B s k).1) c = y at a b
    have pk : 0 < p ^ k := Int.pow_pos (by omega)
    have := Int.mul_nonneg (Int.le_of_lt pk) a
    have t : p ^ k * y ≤ p ^ k * (p - 1) := Int.mul_le_mul_of_nonneg_left (by omega) (by omega)
    have u : p ^ (k + 1) = p ^ k + p ^ k * (p - 1) := by
      rw [Int.pow_succ]
      grind
    omega
end PL
/-! PTj: lines worked off by a prime's rests, of any width. Plain laws. -/
namespace PL
structure TJ (p : Int) (n w : Nat) (Q : (Nat → Int) → Prop) (q : Nat) (N : List (List Int)) : Prop where
  nw : n ≤ w
  len : N.length = n
  rl : ∀ i, i < n → Rl p w (ln N i)
  sol : ∀ x, (∀ i, i < n → p ∣ dt w (ln N i) x) ↔ Q x
  one : ∀ i c, i < n → c < q → at' (ln N i) c = if i = c then 1 else 0
theorem TJ.start {p : Int} {n w : Nat} {N : List (List Int)} (nw : n ≤ w) (hl : N.length = n) (h : ∀ i, i < n → Rl p w (ln N i)) : TJ p n w (fun x => ∀ i, i < n → p ∣ dt w (ln N i) x) 0 N := ⟨nw, hl, h, fun _ => Iff.rfl, fun _ _ _ h => absurd h (Nat.not_lt_zero _)⟩
theorem TJ.step {p : Int} {n wi q f : Nat} {Q : (Nat → Int) → Prop} {N N3 : List (List Int)} (hp : PrI p) (h : TJ p n wi Q q N) (hq : q ≤ f) (hf : f < n) (hz : at' (ln N f) q ≠ 0) (P : List Int) (N1 : Nat → List Int)
    (hP : P = scl p (ln N f) (inv p (at' (ln N f) q))) (h1 : ∀ i, N1 i = if i = q then ln N f else if i = f then ln N q else ln N i)
    (hl : N3.length = n) (h3 : ∀ i, i < n → ln N3 i = if i = q then P else lsr p (N1 i) (at' (N1 i) q) P) : TJ p n wi Q (q + 1) N3 := by
  have h2 := hp.1
  have hqn : q < n := by omega
  have nw := h.nw
  have rlf := h.rl f hf
  have rl1 : ∀ i, i < n → Rl p wi (N1 i) := fun i hi => by
    rw [h1]
    split
    · exact rlf
    · split
      · exact h.rl q hqn
      · exact h.rl i hi
  have rlP : Rl p wi P := by
    rw [hP]
    exact scl_rl (by omega) rlf.len
  have zm : at' (ln N f) q % p ≠ 0 := by
    rw [Int.emod_eq_of_lt (rlf.at_lo q) (rlf.at_hi (by omega) q)]
    exact hz
  have bz := hp.inv_mul zm
  have rl3 : ∀ i, i < n → Rl p wi (ln N3 i) := fun i hi => by
    rw [h3 i hi]
    split
    · exact rlP
    · exact lsr_rl (by omega) (rl1 i hi).len rlP.len
  refine ⟨nw, hl, rl3, fun x => ?_, fun i c hi hc => ?_⟩
  · rw [← h.sol x]
    have dP : Cg p (dt wi P x) (inv p (at' (ln N f) q) * dt wi (ln N f) x) := by
      rw [hP]
      exact dt_scl x
    have d3 : ∀ i, i < n → i ≠ q → Cg p (dt wi (ln N3 i) x) (dt wi (N1 i) x - at' (N1 i) q * dt wi P x) := fun i hi hne => by
      rw [h3 i hi, if_neg hne]
      exact dt_lsr (rl1 i hi).len rlP.len x
    constructor
    · intro z
      have zP : p ∣ dt wi P x := by
        have := z q hqn
        rw [h3 q hqn, if_pos rfl] at this
        exact this
      have zf : p ∣ dt wi (ln N f) x := by
        have w := dP.dvd.1 zP
        rcases hp.euclid w with u | u
        · exfalso
          obtain ⟨c, hc⟩ := u
          rw [hc, Int.mul_left_comm, Int.mul_emod_right] at bz
          omega
        · exact u
      have z1 : ∀ i, i < n → p ∣ dt wi (N1 i) x := fun i hi => by
        by_cases e : i = q
        · rw [h1, if_pos e]
          exact zf
        · have w := (d3 i hi e).dvd.1 (z i hi)
          have u : p ∣ at' (N1 i) q * dt wi P x := Int.dvd_mul_of_dvd_right zP
          have := Int.dvd_add w u
          rw [Int.sub_add_cancel] at this
          exact this
      intro i hi
      by_cases e : i = f
      · subst e
        exact zf
      · by_cases e2 : i = q
        · have := z1 f hf
          rw [h1, if_neg (by omega), if_pos rfl] at this
          rw [e2]
          exact this
        · have := z1 i hi
          rw [h1, if_neg e2, if_neg e] at this
          exact this
    · intro z i hi
      have zP : p ∣ dt wi P x := dP.dvd.2 (Int.dvd_mul_of_dvd_right (z f hf))
      by_cases e : i = q
      · rw [h3 i hi, if_pos e]
        exact zP
      · refine (d3 i hi e).dvd.2 (Int.dvd_sub ?_ (Int.dvd_mul_of_dvd_right zP))
        rw [h1]
        split
        · exact z f hf
        · split
          · exact z q hqn
          · exact z i hi
  · have cn : c < n := by omega
    have Pc : at' P c = if q = c then 1 else 0 := by
      rw [hP, scl_at]
      by_cases e : q = c
      · rw [if_pos e, ← e]
        exact bz
      · rw [if_neg e, h.one f c hf (by omega), if_neg (by omega)]
        simp
    rw [h3 i hi]
    by_cases e : i = q
    · rw [if_pos e, Pc, e]
    · rw [if_neg e, lsr_at (rl1 i hi).len rlP.len (by omega), Pc]
      by_cases e2 : q = c
      · rw [if_pos e2, ← e2, if_neg (by omega)]
        simp
      · rw [if_neg e2, Int.mul_zero, Int.sub_zero, Int.emod_eq_of_lt ((rl1 i hi).at_lo c) ((rl1 i hi).at_hi (by omega) c)]
        rw [h1, if_neg e]
        split
        · rename_i e3
          rw [h.one q c hqn (by omega), if_neg e2, if_neg (by omega)]
        · exact h.one i c hi (by omega)
/-- a place where nothing is left: a line that is taken to nought -/
theorem TJ.stuck {p : Int} {n w q : Nat} {Q : (Nat → Int) → Prop} {N : List (List Int)} (h : TJ p n w Q q N) (hq : q < n) (hz : ∀ i, q ≤ i → i < n → at' (ln N i) q = 0) : ∃ x : Nat → Int, Q x ∧ x q = 1 ∧ ∀ c, q < c → x c = 0 := by
  have nw := h.nw
  refine ⟨fun k => if k < q then -at' (ln N k) q else if k = q then 1 else 0, ?_, by simp, fun c hc => by dsimp only; rw [if_neg (by omega), if_neg (by omega)]⟩
  have s := (h.sol fun k => if k < q then -at' (ln N k) q else if k = q then 1 else 0).1 fun i (hi : i < n) => by
    unfold dt
    have e : w = q + (1 + (w - q - 1)) := by omega
    rw [e, sm_split, sm_split (fun k => at' (ln N i) (q + k) * _) 1]
    have z3 : sm (fun k => at' (ln N i) (q + (1 + k)) * (if q + (1 + k) < q then -at' (ln N (q + (1 + k))) q else if q + (1 + k) = q then 1 else 0)) (w - q - 1) = 0 := sm_nought fun k _ => by
      rw [if_neg (by omega), if_neg (by omega)]
      omega
    rw [z3]
    have z2 : sm (fun k => at' (ln N i) (q + k) * (if q + k < q then -at' (ln N (q + k)) q else if q + k = q then 1 else 0)) 1 = at' (ln N i) q := by simp [sm]
    rw [z2]
    by_cases e2 : i < q
    · rw [sm_one (j := i) e2 fun k hk hne => by
        rw [h.one i k hi hk, if_neg (fun z => hne z.symm)]
        omega]
      dsimp only
      rw [h.one i i hi e2, if_pos rfl, if_pos e2]
      exact ⟨0, by omega⟩
    · rw [sm_nought fun k hk => by
        rw [h.one i k hi hk, if_neg (by omega)]
        omega]
      rw [hz i (by omega) hi]
      exact ⟨0, by omega⟩
  exact s
/-- behind all places: the last column solves it -/
theorem TJ.done {p : Int} {n : Nat} {Q : (Nat → Int) → Prop} {N : List (List Int)} (h : TJ p n (n + 1) Q n N) : Q fun c => if c < n then at' (ln N c) n else -1 := by
  refine (h.sol _).1 fun i hi => ?_
  have e : dt (n + 1) (ln N i) (fun c => if c < n then at' (ln N c) n else -1) = 0 := by
    show sm _ n + at' (ln N i) n * _ = 0
    rw [sm_one (j := i) hi fun k hk hne => by
      rw [h.one i k hi hk, if_neg (fun z => hne z.symm), Int.zero_mul], h.one i i hi hi, if_pos rfl]
    dsimp only
    rw [if_pos hi, if_neg (by omega)]
    omega
  rw [e]
  exact Int.dvd_zero p
end PL
/-! the defs of the text as small syntax, their tables (printed by wip/gen/gen.py) -/
namespace PL
open PySem PySem.Spec PyProof.Rows L2
def cfl : List (Nat × Nat) := [(7, 0), (7, 1), (7, 2), (7, 3), (7, 4)]
def b_is_whole : Ss :=
  (.cons (.ret (.and (.isI (.var 0) [.int]) (.not (.isI (.var 0) [.bool]))))
  .nil)
def b_is_number : Ss :=
  (.cons (.ret (.and (.fn 0 (.cons (.var 0) .nil)) (.chn .le .le (.var 1) (.var 0) (.var 2))))
  .nil)
def b_is_prime_4 : Ss :=
  (.cons (.aug 1 false (.cst (.int 1)))
  .nil)
def b_is_prime_3 : Ss :=
  (.cons (.ifs (.cmp .eq (.bin .mod (.var 0) (.var 1)) (.cst (.int 0)))
    (.cons (.ret (.cst (.bl false)))
    .nil)
    .nil)
  b_is_prime_4)
def b_is_prime_2 : Ss :=
  (.cons (.ret (.cst (.bl true)))
  .nil)
def b_is_prime_1 : Ss :=
  (.cons (.asg (.one 1) (.cst (.int 2)))
  (.cons (.whl (.cmp .le (.bin .mul (.var 1) (.var 1)) (.var 0)) b_is_prime_3)
  b_is_prime_2))
def b_is_prime : Ss :=
  (.cons (.ifs (.cmpv .lt 0 (.glb 1))
    (.cons (.ret (.cst (.bl false)))
    .nil)
    .nil)
  b_is_prime_1)
def b_need_prime : Ss :=
  (.cons (.ifs (.or (.not (.fn 2 (.cons (.var 0) (.cons (.glb 1) (.cons (.glb 2) .nil))))) (.not (.fn 10 (.cons (.var 0) .nil))))
    (.cons (.nev)
    .nil)
    .nil)
  .nil)
def b_turned_by_3 : Ss :=
  (.cons (.asg (.one 3) (.bin .mod (.bin .mul (.var 3) (.var 3)) (.var 1)))
  (.cons (.asg (.one 4) (.bin .div (.var 4) (.cst (.int 2))))
  .nil))
def b_turned_by_2 : Ss :=
  (.cons (.ifs (.cmp .eq (.bin .mod (.var 4) (.cst (.int 2))) (.cst (.int 1)))
    (.cons (.asg (.one 2) (.bin .mod (.bin .mul (.var 2) (.var 3)) (.var 1)))
    .nil)
    .nil)
  b_turned_by_3)
def b_turned_by_1 : Ss :=
  (.cons (.ret (.ifx (.cmpv .gt 1 (.cst (.int 2))) (.var 2) (.bin .mod (.var 0) (.cst (.int 2)))))
  .nil)
def b_turned_by : Ss :=
  (.cons (.par [2, 3, 4] (.cons (.cst (.int 1)) (.cons (.bin .mod (.var 0) (.var 1)) (.cons (.bin .sub (.var 1) (.cst (.int 2))) .nil))))
  (.cons (.whl (.cmpv .gt 4 (.cst (.int 0))) b_turned_by_2)
  b_turned_by_1))
def b_need_rows_5 : Ss :=
  (.cons (.ifs (.not (.fn 2 (.cons (.var 4) (.cons (.bin .sub (.cst (.int 0)) (.glb 4)) (.cons (.glb 4) .nil)))))
    (.cons (.nev)
    .nil)
    .nil)
  .nil)
def b_need_rows_4 : Ss :=
  (.cons (.for (.enm (.var 2)) (.many [3, 4]) b_need_rows_5)
  .nil)
def b_need_rows_3 : Ss :=
  (.cons (.ifs (.cmp .ne (.bi .len (.cons (.var 2) .nil)) (.bi .len (.cons (.idxv 0 (.cst (.int 0))) .nil)))
    (.cons (.nev)
    .nil)
    .nil)
  b_need_rows_4)
def b_need_rows_2 : Ss :=
  (.cons (.ifs (.or (.cmpv .eq 1 (.glb 3)) (.or (.not (.isI (.var 2) [.tuple])) (.not (.chn .le .le (.cst (.int 1)) (.bi .len (.cons (.var 2) .nil)) (.glb 3)))))
    (.cons (.nev)
    .nil)
    .nil)
  b_need_rows_3)
def b_need_rows_1 : Ss :=
  (.cons (.for (.enm (.var 0)) (.many [1, 2]) b_need_rows_2)
  .nil)
def b_need_rows : Ss :=
  (.cons (.ifs (.or (.not (.isI (.var 0) [.tuple])) (.cmpv .eq 0 (.tup .nil)))
    (.cons (.nev)
    .nil)
    .nil)
  b_need_rows_1)
def b_need_right_3 : Ss :=
  (.cons (.ifs (.or (.cmpv .eq 2 (.bi .len (.cons (.var 0) .nil))) (.not (.fn 2 (.cons (.var 3) (.cons (.bin .sub (.cst (.int 0)) (.glb 4)) (.cons (.glb 4) .nil))))))
    (.cons (.nev)
    .nil)
    .nil)
  .nil)
def b_need_right_2 : Ss :=
  (.cons (.ifs (.cmp .lt (.bi .len (.cons (.var 1) .nil)) (.bi .len (.cons (.var 0) .nil)))
    (.cons (.nev)
    .nil)
    .nil)
  .nil)
def b_need_right_1 : Ss :=
  (.cons (.for (.enm (.var 1)) (.many [2, 3]) b_need_right_3)
  b_need_right_2)
def b_need_right : Ss :=
  (.cons (.ifs (.not (.isI (.var 1) [.tuple]))
    (.cons (.nev)
    .nil)
    .nil)
  b_need_right_1)
def b_need_square : Ss :=
  (.cons (.ifs (.cmp .ne (.bi .len (.cons (.var 0) .nil)) (.bi .len (.cons (.idxv 0 (.cst (.int 0))) .nil)))
    (.cons (.nev)
    .nil)
    .nil)
  .nil)
def c_summed_1 : E :=
  .lc (.zip (.var 0) (.var 1)) (.many [2, 3]) .none (.bin .mul (.var 2) (.var 3))
def b_summed : Ss :=
  (.cons (.ret (.bi .sum (.cons (c_summed_1) .nil)))
  .nil)
def c_times_1 : E :=
  .lc (.seq (.var 0)) (.one 2) .none (.fn 37 (.cons (.var 2) (.cons (.var 1) .nil)))
def b_times : Ss :=
  (.cons (.ret (c_times_1))
  .nil)
def c_lesser_1 : E :=
  .lc (.zip (.var 0) (.var 2)) (.many [4, 5]) .none (.bin .mod (.bin .sub (.var 4) (.bin .mul (.var 1) (.var 5))) (.var 3))
def b_lesser : Ss :=
  (.cons (.ret (c_lesser_1))
  .nil)
def c_turned_round_5 : E :=
  .lc (.seq (.var 3)) (.one 5) .none (.slc (.var 5) (.some (.var 2)) .none)
def b_turned_round_6 : Ss :=
  (.cons (.ifs (.cmpv .ne 4 (.var 7))
    (.cons (.sub 3 (.var 4) (.fn 28 (.cons (.idxv 3 (.var 4)) (.cons (.idx (.idxv 3 (.var 4)) (.var 7)) (.cons (.idxv 3 (.var 7)) (.cons (.var 1) .nil))))))
    .nil)
    .nil)
  .nil)
def c_turned_round_4 : E :=
  .lc (.seq (.idxv 3 (.var 7))) (.one 6) .none (.bin .mod (.bin .mul (.var 6) (.var 9)) (.var 1))
def b_turned_round_5 : Ss :=
  (.cons (.swp 3 (.var 7) (.idxv 8 (.cst (.int 0))) (.idxv 8 (.cst (.int 0))) (.var 7))
  (.cons (.asg (.one 9) (.fn 30 (.cons (.idx (.idxv 3 (.var 7)) (.var 7)) (.cons (.var 1) .nil))))
  (.cons (.sub 3 (.var 7) (c_turned_round_4))
  (.cons (.for (.rng1 (.var 2)) (.one 4) b_turned_round_6)
  .nil))))
def c_turned_round_3 : E :=
  .lc (.rng2 (.var 7) (.var 2)) (.one 4) (.some (.cmp .ne (.idx (.idxv 3 (.var 4)) (.var 7)) (.cst (.int 0)))) (.var 4)
def b_turned_round_4 : Ss :=
  (.cons (.asg (.one 8) (c_turned_round_3))
  (.cons (.ifs (.cmpv .eq 8 (.lst .nil))
    (.cons (.ret (.cst .non))
    .nil)
    .nil)
  b_turned_round_5))
def b_turned_round_3 : Ss :=
  (.cons (.ret (c_turned_round_5))
  .nil)
def c_turned_round_2 : E :=
  .lc (.rng1 (.var 2)) (.one 7) .none (.bi .int1 (.cons (.cmpv .eq 4 (.var 7)) .nil))
def c_turned_round_1 : E :=
  .lc (.seq (.var 5)) (.one 6) .none (.bin .mod (.var 6) (.var 1))
def b_turned_round_2 : Ss :=
  (.cons (.app (.var 3) (.bin .add (c_turned_round_1) (c_turned_round_2)))
  .nil)
def b_turned_round_1 : Ss :=
  (.cons (.for (.rng1 (.var 2)) (.one 7) b_turned_round_4)
  b_turned_round_3)
def b_turned_round : Ss :=
  (.cons (.asg (.one 2) (.bi .len (.cons (.var 0) .nil)))
  (.cons (.asg (.one 3) (.lst .nil))
  (.cons (.for (.enm (.var 0)) (.many [4, 5]) b_turned_round_2)
  b_turned_round_1)))
def b_Lifter___init__ : Ss :=
  (.cons (.fld 0 (.var 1))
  (.cons (.fld 1 (.var 2))
  (.cons (.fld 2 (.var 4))
  (.cons (.fld 3 (.bi .list (.cons (.var 3) .nil)))
  (.cons (.fld 4 (.lst .nil))
  .nil)))))
def c_Lifter_go_2 : E :=
  .lc (.zip (.atr (.var 0) 3) (.var 5)) (.many [4, 6]) .none (.bin .div (.bin .sub (.var 4) (.var 6)) (.atr (.var 0) 2))
def c_Lifter_go_1 : E :=
  .lc (.seq (.fn 38 (.cons (.atr (.var 0) 1) (.cons (.atr (.var 0) 3) .nil)))) (.one 4) .none (.bin .mod (.var 4) (.atr (.var 0) 2))
def b_Lifter_go_1 : Ss :=
  (.cons (.asg (.one 3) (c_Lifter_go_1))
  (.cons (.asg (.one 5) (.fn 38 (.cons (.atr (.var 0) 0) (.cons (.var 3) .nil))))
  (.cons (.fld 3 (c_Lifter_go_2))
  (.cons (.app (.atr (.var 0) 4) (.var 3))
  .nil))))
def b_Lifter_go : Ss :=
  (.cons (.for (.rng1 (.var 1)) (.one 2) b_Lifter_go_1)
  .nil)
def b_fit_1 : Ss :=
  (.cons (.ret (.var 3))
  .nil)
def b_fit : Ss :=
  (.cons (.exp (.fn 11 (.cons (.var 0) .nil)))
  (.cons (.exp (.fn 12 (.cons (.var 0) (.cons (.var 1) .nil))))
  (.cons (.exp (.fn 13 (.cons (.var 0) .nil)))
  (.cons (.exp (.fn 15 (.cons (.var 2) .nil)))
  (.cons (.asg (.one 3) (.fn 31 (.cons (.var 0) (.cons (.var 2) .nil))))
  (.cons (.ifs (.cmpv .isN 3 (.cst .non))
    (.cons (.nev)
    .nil)
    .nil)
  b_fit_1))))))
def c_lifted_1 : E :=
  .lc (.seq (.atr (.var 5) 4)) (.one 6) .none (.bi .tuple (.cons (.var 6) .nil))
def b_lifted_1 : Ss :=
  (.cons (.asg (.one 5) (.new 7 (.cons (.var 0) (.cons (.var 4) (.cons (.var 1) (.cons (.var 2) .nil))))))
  (.cons (.exp (.mthp (.var 5) 0 (.cons (.var 3) .nil)))
  (.cons (.ret (c_lifted_1))
  .nil)))
def b_lifted : Ss :=
  (.cons (.asg (.one 4) (.fn 39 (.cons (.var 0) (.cons (.var 1) (.cons (.var 2) .nil)))))
  (.cons (.ifs (.not (.fn 2 (.cons (.var 3) (.cons (.cst (.int 0)) (.cons (.glb 9) .nil)))))
    (.cons (.nev)
    .nil)
    .nil)
  b_lifted_1))
def b__law_taken_3 : Ss :=
  (.cons (.ret (.bin .mod (.var 3) (.var 1)))
  .nil)
def b__law_taken_2 : Ss :=
  (.cons (.asg (.one 3) (.idx (.idxv 0 (.cst (.int 0))) (.bin .sub (.idxv 0 (.cst (.int 1))) (.cst (.int 1)))))
  (.cons (.sub 0 (.cst (.int 2)) (.bin .mod (.bin .add (.bin .add (.bin .mul (.idxv 0 (.cst (.int 2))) (.cst (.int 48271))) (.var 3)) (.cst (.int 11))) (.cst (.int 2147483647))))
  (.cons (.ifs (.cmpv .ge 3 (.bin .pow (.cst (.int 10)) (.cst (.int 18))))
    (.cons (.sub 0 (.cst (.int 3)) (.bin .div (.var 3) (.var 1)))
    .nil)
    .nil)
  b__law_taken_3)))
def b__law_taken_1 : Ss :=
  (.cons (.sub 0 (.cst (.int 1)) (.bin .add (.idxv 0 (.cst (.int 1))) (.cst (.int 1))))
  (.cons (.ifs (.cmp .gt (.idxv 0 (.cst (.int 1))) (.bi .len (.cons (.idxv 0 (.cst (.int 0))) .nil)))
    (.cons (.sub 0 (.cst (.int 2)) (.bin .mod (.bin .add (.bin .mul (.idxv 0 (.cst (.int 2))) (.cst (.int 48271))) (.cst (.int 11))) (.cst (.int 2147483647))))
    (.cons (.ret (.bin .mod (.bin .div (.idxv 0 (.cst (.int 2))) (.cst (.int 7))) (.var 1)))
    .nil))
    .nil)
  b__law_taken_2))
def b__law_taken : Ss :=
  (.cons (.ifs (.cmp .gt (.idxv 0 (.cst (.int 3))) (.cst (.int 0)))
    (.cons (.asg (.one 2) (.bin .mod (.idxv 0 (.cst (.int 3))) (.var 1)))
    (.cons (.sub 0 (.cst (.int 3)) (.bin .div (.idxv 0 (.cst (.int 3))) (.var 1)))
    (.cons (.ret (.var 2))
    .nil)))
    .nil)
  b__law_taken_1)
def c__law_alike_1 : E :=
  .lc (.rng1 (.bi .len (.cons (.var 0) .nil))) (.one 2) (.some (.not (.fn 17 (.cons (.idxv 0 (.var 2)) (.cons (.idxv 1 (.var 2)) .nil))))) (.var 2)
def b__law_alike_2 : Ss :=
  (.cons (.ret (.cmp .eq (c__law_alike_1) (.lst .nil)))
  .nil)
def b__law_alike_1 : Ss :=
  (.cons (.ret (.and (.cmpv .eq 0 (.var 1)) (.cmp .eq (.isI (.var 0) [.bool]) (.isI (.var 1) [.bool]))))
  .nil)
def b__law_alike : Ss :=
  (.cons (.ifs (.and (.isI (.var 0) [.tuple, .list]) (.isI (.var 1) [.tuple, .list]))
    (.cons (.ifs (.or (.cmp .ne (.isI (.var 0) [.tuple]) (.isI (.var 1) [.tuple])) (.cmp .ne (.bi .len (.cons (.var 0) .nil)) (.bi .len (.cons (.var 1) .nil))))
      (.cons (.ret (.cst (.bl false)))
      .nil)
      .nil)
    b__law_alike_2)
    .nil)
  b__law_alike_1)
def c__law_drawn_3 : E :=
  .lc (.rng1 (.var 2)) (.one 7) .none (.bin .add (.bin .mul (.idxv 9 (.var 7)) (.bin .sub (.var 8) (.cst (.int 3)))) (.bin .mul (.idxv 10 (.var 7)) (.fnv 5 0 (.cons (.cst (.int 3)) .nil))))
def b__law_drawn_4 : Ss :=
  (.cons (.app (.var 4) (.bi .tuple (.cons (.var 6) .nil)))
  .nil)
def c__law_drawn_2 : E :=
  .lc (.seq (.var 6)) (.one 9) .none (.bin .mul (.var 9) (.bi .int1 (.cons (.cmp .eq (.fnv 5 0 (.cons (.cst (.int 2)) .nil)) (.cst (.int 0))) .nil)))
def b__law_drawn_3 : Ss :=
  (.cons (.ifs (.and (.cmpv .inn 8 (.tup (.cons (.cst (.int 1)) (.cons (.cst (.int 2)) .nil)))) (.and (.cmpv .ne 4 (.lst .nil)) (.cmpv .lt 3 (.bin .pow (.cst (.int 10)) (.cst (.int 6))))))
    (.cons (.par [9, 10] (.cons (.idxv 4 (.fnv 5 0 (.cons (.var 5) .nil))) (.cons (.idxv 4 (.fnv 5 0 (.cons (.var 5) .nil))) .nil)))
    (.cons (.asg (.one 6) (c__law_drawn_3))
    .nil))
    .nil)
  b__law_drawn_4)
def c__law_drawn_1 : E :=
  .lc (.rng1 (.var 2)) (.one 7) .none (.bin .add (.bin .sub (.fnv 5 0 (.cons (.bin .sub (.bin .mul (.cst (.int 2)) (.var 3)) (.cst (.int 1))) .nil)) (.var 3)) (.cst (.int 1)))
def b__law_drawn_2 : Ss :=
  (.cons (.asg (.one 6) (c__law_drawn_1))
  (.cons (.asg (.one 8) (.fnv 5 0 (.cons (.cst (.int 8)) .nil)))
  (.cons (.ifs (.cmpv .eq 8 (.cst (.int 0)))
    (.cons (.asg (.one 6) (c__law_drawn_2))
    .nil)
    .nil)
  b__law_drawn_3)))
def b__law_drawn_1 : Ss :=
  (.cons (.ret (.bi .tuple (.cons (.var 4) .nil)))
  .nil)
def b__law_drawn : Ss :=
  (.cons (.par [3, 4] (.cons (.idx (.lst (.cons (.cst (.int 3)) (.cons (.cst (.int 10)) (.cons (.cst (.int 1000)) (.cons (.bin .add (.bin .pow (.cst (.int 10)) (.cst (.int 9))) (.cst (.int 1))) .nil))))) (.fnv 5 0 (.cons (.cst (.int 4)) .nil))) (.cons (.lst .nil) .nil)))
  (.cons (.for (.rng1 (.var 1)) (.one 5) b__law_drawn_2)
  b__law_drawn_1))
def c__law_right_6 : E :=
  .lc (.seq (.var 1)) (.one 2) .none (.idxv 2 (.cst (.int 0)))
def c__law_right_5 : E :=
  .lc (.seq (.var 5)) (.one 4) .none (.bi .abs (.cons (.var 4) .nil))
def b__law_right_2 : Ss :=
  (.cons (.ret (.var 5))
  .nil)
def c__law_right_4 : E :=
  .lc (.rng1 (.bi .len (.cons (.var 3) .nil))) (.one 6) .none (.bin .mul (.idxv 2 (.var 6)) (.idxv 3 (.var 6)))
def c__law_right_3 : E :=
  .lc (.seq (.var 1)) (.one 2) .none (.bi .sum (.cons (c__law_right_4) .nil))
def c__law_right_2 : E :=
  .lc (.seq (.idxv 1 (.cst (.int 0)))) (.one 4) .none (.bin .sub (.fnv 5 0 (.cons (.cst (.int 9)) .nil)) (.cst (.int 4)))
def c__law_right_1 : E :=
  .lc (.seq (.var 1)) (.one 2) .none (.bin .sub (.fnv 5 0 (.cons (.cst (.int 2001)) .nil)) (.cst (.int 1000)))
def b__law_right_1 : Ss :=
  (.cons (.asg (.one 3) (c__law_right_2))
  (.cons (.asg (.one 5) (.bi .tuple (.cons (c__law_right_3) .nil)))
  (.cons (.ifs (.cmp .gt (.bi .max1 (.cons (c__law_right_5) .nil)) (.bin .pow (.cst (.int 10)) (.cst (.int 9))))
    (.cons (.ret (.bi .tuple (.cons (c__law_right_6) .nil)))
    .nil)
    .nil)
  b__law_right_2)))
def b__law_right : Ss :=
  (.cons (.ifs (.cmp .eq (.fnv 5 0 (.cons (.cst (.int 3)) .nil)) (.cst (.int 0)))
    (.cons (.ret (.bi .tuple (.cons (c__law_right_1) .nil)))
    .nil)
    .nil)
  b__law_right_1)
def b__law_square : Ss :=
  (.cons (.asg (.one 1) (.bin .add (.cst (.int 1)) (.fnv 5 0 (.cons (.idx (.lst (.cons (.cst (.int 3)) (.cons (.cst (.int 5)) (.cons (.cst (.int 8)) .nil)))) (.fnv 5 0 (.cons (.cst (.int 3)) .nil))) .nil))))
  (.cons (.asg (.one 2) (.fnv 18 0 (.cons (.var 1) (.cons (.var 1) .nil))))
  (.cons (.ret (.tup (.cons (.var 2) (.cons (.fnv 19 0 (.cons (.var 2) .nil)) .nil))))
  .nil)))
def c__law_rests_rank_7 : E :=
  .lc (.seq (.var 2)) (.many [7, 5]) .none (.var 7)
def c__law_rests_rank_6 : E :=
  .lc (.rng1 (.bi .len (.cons (.var 5) .nil))) (.one 9) .none (.bin .mod (.bin .sub (.idxv 8 (.var 9)) (.bin .mul (.idxv 8 (.idxv 10 (.cst (.int 0)))) (.idxv 5 (.var 9)))) (.var 1))
def b__law_rests_rank_6 : Ss :=
  (.cons (.app (.var 2) (.tup (.cons (.var 7) (.cons (c__law_rests_rank_6) .nil))))
  .nil)
def b__law_rests_rank_5 : Ss :=
  (.cons (.app (.var 3) (.var 4))
  .nil)
def c__law_rests_rank_5 : E :=
  .lc (.seq (.var 5)) (.one 6) .none (.bin .mod (.bin .mul (.var 6) (.var 11)) (.var 1))
def c__law_rests_rank_4 : E :=
  .lc (.rng2 (.cst (.int 1)) (.var 1)) (.one 6) (.some (.cmp .eq (.bin .mod (.bin .mul (.var 6) (.idxv 5 (.idxv 10 (.cst (.int 0))))) (.var 1)) (.cst (.int 1)))) (.var 6)
def c__law_rests_rank_3 : E :=
  .lc (.rng1 (.bi .len (.cons (.var 5) .nil))) (.one 7) (.some (.cmp .ne (.idxv 5 (.var 7)) (.cst (.int 0)))) (.var 7)
def c__law_rests_rank_2 : E :=
  .lc (.rng1 (.bi .len (.cons (.var 5) .nil))) (.one 9) .none (.bin .mod (.bin .sub (.idxv 5 (.var 9)) (.bin .mul (.idxv 5 (.var 7)) (.idxv 8 (.var 9)))) (.var 1))
def b__law_rests_rank_4 : Ss :=
  (.cons (.asg (.one 5) (c__law_rests_rank_2))
  .nil)
def b__law_rests_rank_3 : Ss :=
  (.cons (.asg (.one 10) (c__law_rests_rank_3))
  (.cons (.ifs (.cmpv .ne 10 (.lst .nil))
    (.cons (.asg (.one 11) (.idx (c__law_rests_rank_4) (.cst (.int 0))))
    (.cons (.asg (.one 5) (c__law_rests_rank_5))
    (.cons (.par [12, 2] (.cons (.var 2) (.cons (.lst (.cons (.tup (.cons (.idxv 10 (.cst (.int 0))) (.cons (.var 5) .nil))) .nil)) .nil)))
    (.cons (.for (.seq (.var 12)) (.many [7, 8]) b__law_rests_rank_6)
    b__law_rests_rank_5))))
    .nil)
  .nil))
def c__law_rests_rank_1 : E :=
  .lc (.seq (.idxv 0 (.var 4))) (.one 6) .none (.bin .mod (.var 6) (.var 1))
def b__law_rests_rank_2 : Ss :=
  (.cons (.asg (.one 5) (c__law_rests_rank_1))
  (.cons (.for (.seq (.var 2)) (.many [7, 8]) b__law_rests_rank_4)
  b__law_rests_rank_3))
def b__law_rests_rank_1 : Ss :=
  (.cons (.ret (.tup (.cons (.var 3) (.cons (.bi .sorted (.cons (c__law_rests_rank_7) .nil)) .nil))))
  .nil)
def b__law_rests_rank : Ss :=
  (.cons (.par [2, 3] (.cons (.lst .nil) (.cons (.lst .nil) .nil)))
  (.cons (.for (.rng1 (.bi .len (.cons (.var 0) .nil))) (.one 4) b__law_rests_rank_2)
  b__law_rests_rank_1))
def c__law_digit_7 : E :=
  .lc (.seq (.var 4)) (.one 14) .none (.idxv 14 (.var 3))
def c__law_digit_6 : E :=
  .lc (.rng1 (.bin .add (.var 3) (.cst (.int 1)))) (.one 13) .none (.bin .mod (.bin .sub (.idx (.idxv 4 (.var 10)) (.var 13)) (.bin .mul (.var 11) (.idxv 12 (.var 13)))) (.var 2))
def b__law_digit_3 : Ss :=
  (.cons (.ifs (.cmpv .ne 10 (.var 7))
    (.cons (.asg (.one 11) (.idx (.idxv 4 (.var 10)) (.var 7)))
    (.cons (.asg (.one 12) (.idxv 4 (.var 7)))
    (.cons (.sub 4 (.var 10) (c__law_digit_6))
    .nil)))
    .nil)
  .nil)
def c__law_digit_5 : E :=
  .lc (.seq (.idxv 4 (.var 7))) (.one 5) .none (.bin .mod (.bin .mul (.var 5) (.var 9)) (.var 2))
def c__law_digit_4 : E :=
  .lc (.rng2 (.cst (.int 1)) (.var 2)) (.one 5) (.some (.cmp .eq (.bin .mod (.bin .mul (.var 5) (.var 8)) (.var 2)) (.cst (.int 1)))) (.var 5)
def c__law_digit_3 : E :=
  .lc (.rng2 (.var 7) (.var 3)) (.one 6) (.some (.cmp .ne (.idx (.idxv 4 (.var 6)) (.var 7)) (.cst (.int 0)))) (.var 6)
def b__law_digit_2 : Ss :=
  (.cons (.asg (.one 6) (.idx (c__law_digit_3) (.cst (.int 0))))
  (.cons (.swp 4 (.var 7) (.var 6) (.var 6) (.var 7))
  (.cons (.asg (.one 8) (.idx (.idxv 4 (.var 7)) (.var 7)))
  (.cons (.asg (.one 9) (.idx (c__law_digit_4) (.cst (.int 0))))
  (.cons (.sub 4 (.var 7) (c__law_digit_5))
  (.cons (.for (.rng1 (.var 3)) (.one 10) b__law_digit_3)
  .nil))))))
def b__law_digit_1 : Ss :=
  (.cons (.ret (c__law_digit_7))
  .nil)
def c__law_digit_2 : E :=
  .lc (.seq (.idxv 0 (.var 6))) (.one 5) .none (.bin .mod (.var 5) (.var 2))
def c__law_digit_1 : E :=
  .lc (.rng1 (.var 3)) (.one 6) .none (.bin .add (c__law_digit_2) (.lst (.cons (.bin .mod (.idxv 1 (.var 6)) (.var 2)) .nil)))
def b__law_digit : Ss :=
  (.cons (.asg (.one 3) (.bi .len (.cons (.var 0) .nil)))
  (.cons (.asg (.one 4) (c__law_digit_1))
  (.cons (.for (.rng1 (.var 3)) (.one 7) b__law_digit_2)
  b__law_digit_1)))
def b_law_6 : Ss :=
  (.cons (.app (.var 15) (.cst (.int 5)))
  .nil)
def b_law_5 : Ss :=
  (.cons (.asg (.one 15) (.fn 41 (.cons (.var 3) (.cons (.var 4) (.cons (.var 5) (.cons (.var 6) .nil))))))
  (.cons (.ifs (.not (.fnb 17 15 (.cons (.var 8) .nil)))
    (.cons (.ret (.cst (.bl false)))
    .nil)
    .nil)
  b_law_6))
def c_law_3 : E :=
  .lc (.rng1 (.bi .len (.cons (.var 3) .nil))) (.one 12) .none (.bin .div (.bin .sub (.idxv 7 (.var 12)) (.idxv 11 (.var 12))) (.var 5))
def c_law_2 : E :=
  .lc (.rng1 (.bi .len (.cons (.var 3) .nil))) (.one 12) .none (.bin .mul (.idxv 13 (.var 12)) (.idxv 10 (.var 12)))
def c_law_1 : E :=
  .lc (.seq (.var 3)) (.one 13) .none (.bi .sum (.cons (c_law_2) .nil))
def b_law_4 : Ss :=
  (.cons (.asg (.one 10) (.fn 40 (.cons (.var 3) (.cons (.var 7) (.cons (.var 5) .nil)))))
  (.cons (.app (.var 8) (.bi .tuple (.cons (.var 10) .nil)))
  (.cons (.asg (.one 11) (c_law_1))
  (.cons (.asg (.one 7) (c_law_3))
  .nil))))
def b_law_3 : Ss :=
  (.cons (.for (.rng1 (.cst (.int 2))) (.one 14) b_law_5)
  .nil)
def b_law_2 : Ss :=
  (.cons (.asg (.many [3, 4]) (.fnv 21 1 .nil))
  (.cons (.asg (.one 5) (.idx (.lst (.cons (.cst (.int 2)) (.cons (.cst (.int 3)) (.cons (.cst (.int 5)) (.cons (.cst (.int 7)) (.cons (.cst (.int 11)) (.cons (.cst (.int 13)) (.cons (.cst (.int 97)) (.cons (.cst (.int 101)) .nil))))))))) (.fnv 5 1 (.cons (.cst (.int 8)) .nil))))
  (.cons (.ifs (.cmp .eq (.bi .len (.cons (.idx (.fn 34 (.cons (.var 3) (.cons (.var 5) .nil))) (.cst (.int 0))) .nil)) (.bi .len (.cons (.var 3) .nil)))
    (.cons (.par [6, 7, 8] (.cons (.fnv 5 1 (.cons (.cst (.int 9)) .nil)) (.cons (.bi .list (.cons (.var 4) .nil)) (.cons (.lst .nil) .nil))))
    (.cons (.for (.rng1 (.var 6)) (.one 9) b_law_4)
    b_law_3))
    .nil)
  .nil)))
def b_law_1 : Ss :=
  (.cons (.ret (.cst (.bl true)))
  .nil)
def b_law : Ss :=
  (.cons (.asg (.one 1) (.lst (.cons (.var 0) (.cons (.cst (.int 0)) (.cons (.cst (.int 0)) (.cons (.cst (.int 0)) .nil))))))
  (.cons (.for (.rng1 (.cst (.int 3))) (.one 2) b_law_2)
  b_law_1))
def Γ : Ctx where
  glb := fun g => match g with
    | 1 => some (.int 2)
    | 2 => some (.int 9973)
    | 3 => some (.int 8)
    | 4 => some (.int 1000000000)
    | 9 => some (.int 200)
    | _ => none
  om := fun c f => match c, f with
    | 7, 4 => true
    | _, _ => false
  cf := fun c f => cfl.contains (c, f)
  fn := fun f => match f with
    | 0 => some ⟨1, 1, false, b_is_whole⟩
    | 2 => some ⟨3, 3, false, b_is_number⟩
    | 10 => some ⟨1, 2, false, b_is_prime⟩
    | 15 => some ⟨1, 1, false, b_need_prime⟩
    | 30 => some ⟨2, 5, false, b_turned_by⟩
    | 11 => some ⟨1, 5, false, b_need_rows⟩
    | 12 => some ⟨2, 4, false, b_need_right⟩
    | 13 => some ⟨1, 1, false, b_need_square⟩
    | 37 => some ⟨2, 4, false, b_summed⟩
    | 38 => some ⟨2, 3, false, b_times⟩
    | 28 => some ⟨4, 6, false, b_lesser⟩
    | 31 => some ⟨2, 10, false, b_turned_round⟩
    | 42 => some ⟨5, 5, true, b_Lifter___init__⟩
    | 43 => some ⟨2, 7, true, b_Lifter_go⟩
    | 39 => some ⟨3, 4, false, b_fit⟩
    | 41 => some ⟨4, 7, false, b_lifted⟩
    | 5 => some ⟨2, 4, true, b__law_taken⟩
    | 17 => some ⟨2, 3, false, b__law_alike⟩
    | 18 => some ⟨3, 11, true, b__law_drawn⟩
    | 19 => some ⟨2, 7, true, b__law_right⟩
    | 21 => some ⟨1, 3, true, b__law_square⟩
    | 34 => some ⟨2, 13, false, b__law_rests_rank⟩
    | 40 => some ⟨3, 15, false, b__law_digit⟩
    | 9 => some ⟨1, 16, false, b_law⟩
    | _ => none
  meth := fun c m => match c, m with
    | 7, 0 => some 43
    | _, _ => none
  init := fun c => match c with
    | 7 => some 42
    | _ => none
  dfl := fun _ => []
  kwd := fun _ => 0
  wd := wdOf []
end PL
set_option maxRecDepth 100000
/-! the ties of the small syntax to the text, the end (printed by wip/gen/gen.py) -/
namespace PL
open PySem PySem.Spec PyProof.Rows L2
def top (i : Nat) : Stmt := PySem.Challenge.pw_powerlift_k07_digits_of_the_solution.main.body.getD i (.Pass ⟨0, 0, 0, 0⟩)
def inClass (s : Stmt) (j : Nat) : Stmt := match s with | .ClassDef _ _ _ body _ _ _ _ _ _ _ => body.getD j (.Pass ⟨0, 0, 0, 0⟩) | _ => .Pass ⟨0, 0, 0, 0⟩
abbrev s_is_whole : Stmt := top 11
abbrev s_is_number : Stmt := top 12
abbrev s_is_prime : Stmt := top 13
abbrev s_need_prime : Stmt := top 14
abbrev s_turned_by : Stmt := top 15
abbrev s_need_rows : Stmt := top 19
abbrev s_need_right : Stmt := top 20
abbrev s_need_square : Stmt := top 21
abbrev s_summed : Stmt := top 22
abbrev s_times : Stmt := top 23
abbrev s_lesser : Stmt := top 24
abbrev s_turned_round : Stmt := top 25
abbrev s_Lifter___init__ : Stmt := inClass (top 28) 0
abbrev s_Lifter_go : Stmt := inClass (top 28) 1
abbrev s_fit : Stmt := top 29
abbrev s_lifted : Stmt := top 30
abbrev s__law_taken : Stmt := top 32
abbrev s__law_alike : Stmt := top 33
abbrev s__law_drawn : Stmt := top 34
abbrev s__law_right : Stmt := top 35
abbrev s__law_square : Stmt := top 36
abbrev s__law_rests_rank : Stmt := top 37
abbrev s__law_digit : Stmt := top 38
abbrev s_law : Stmt := top 39
def TT : Ns where
  gN := fun i => match i with
    | 0 => "MOST_MODULUS"
    | 1 => "LEAST_PRIME"
    | 2 => "MOST_PRIME"
    | 3 => "MOST_ROWS"
    | 4 => "MOST_SIZE"
    | 5 => "SAME"
    | 6 => "LESS"
    | 7 => "FIGURES"
    | 8 => "MOST_FIGURES"
    | 9 => "MOST_POWERS"
    | _ => ""
  fN := fun i => match i with
    | 0 => "is_whole"
    | 2 => "is_number"
    | 5 => "_law_taken"
    | 9 => "law"
    | 10 => "is_prime"
    | 11 => "need_rows"
    | 12 => "need_right"
    | 13 => "need_square"
    | 15 => "need_prime"
    | 17 => "_law_alike"
    | 18 => "_law_drawn"
    | 19 => "_law_right"
    | 21 => "_law_square"
    | 28 => "lesser"
    | 30 => "turned_by"
    | 31 => "turned_round"
    | 34 => "_law_rests_rank"
    | 37 => "summed"
    | 38 => "times"
    | 39 => "fit"
    | 40 => "_law_digit"
    | 41 => "lifted"
    | 42 => "Lifter.__init__"
    | 43 => "Lifter.go"
    | _ => ""
  cN := fun i => match i with
    | 0 => "BadCount"
    | 1 => "BadPrime"
    | 2 => "BadRows"
    | 3 => "BadRight"
    | 4 => "NotSquare"
    | 5 => "BadText"
    | 6 => "Unfit"
    | 7 => "Lifter"
    | 8 => "Lift"
    | _ => ""
  mN := fun i => match i with
    | 0 => "go"
    | 1 => "with_row"
    | 2 => "system"
    | 3 => "inverse"
    | 4 => "digits"
    | 5 => "turn"
    | _ => ""
  fl := fun i => match i with
    | 0 => "rows"
    | 1 => "back"
    | 2 => "prime"
    | 3 => "left"
    | 4 => "taken"
    | 5 => "right"
    | 6 => "lifter"
    | _ => ""
  fs := [0, 2, 10, 15, 30, 11, 12, 13, 37, 38, 28, 31, 42, 43, 39, 41, 5, 17, 18, 19, 21, 34, 40, 9]
  ds := [0, 2, 10, 15, 30, 11, 12, 13, 37, 38, 28, 31, 39, 41, 5, 17, 18, 19, 21, 34, 40, 9]
  gs := [1, 2, 3, 4, 9]
  cs := [7]
  xs := []
  lns := []
theorem sc_is_whole : FnScope ["thing"] ["thing"] (defScope s_is_whole) := ⟨rfl, rfl, rfl, by decide +kernel, rfl, by decide +kernel, by decide +kernel⟩
theorem m_is_whole : mSs TT ["thing"] (defScope s_is_whole) (defScope s_is_whole) b_is_whole (defBody s_is_whole) = true := by decide +kernel
theorem sc_is_number : FnScope ["thing", "low", "high"] ["thing", "low", "high"] (defScope s_is_number) := ⟨rfl, rfl, rfl, by decide +kernel, rfl, by decide +kernel, by decide +kernel⟩
theorem m_is_number : mSs TT ["thing", "low", "high"] (defScope s_is_number) (defScope s_is_number) b_is_number (defBody s_is_number) = true := by decide +kernel
theorem sc_is_prime : FnScope ["number", "least"] ["number"] (defScope s_is_prime) := ⟨rfl, rfl, rfl, by decide +kernel, rfl, by decide +kernel, by decide +kernel⟩
theorem m_is_prime : mSs TT ["number", "least"] (defScope s_is_prime) (defScope s_is_prime) b_is_prime (defBody s_is_prime) = true := by decide +kernel
theorem sc_need_prime : FnScope ["prime"] ["prime"] (defScope s_need_prime) := ⟨rfl, rfl, rfl, by decide +kernel, rfl, by decide +kernel, by decide +kernel⟩
theorem m_need_prime : mSs TT ["prime"] (defScope s_need_prime) (defScope s_need_prime) b_need_prime (defBody s_need_prime) = true := by decide +kernel
theorem sc_turned_by : FnScope ["number", "prime", "found", "power", "left"] ["number", "prime"] (defScope s_turned_by) := ⟨rfl, rfl, rfl, by decide +kernel, rfl, by decide +kernel, by decide +kernel⟩
theorem m_turned_by : mSs TT ["number", "prime", "found", "power", "left"] (defScope s_turned_by) (defScope s_turned_by) b_turned_by (defBody s_turned_by) = true := by decide +kernel
theorem sc_need_rows : FnScope ["rows", "number", "row", "place", "one"] ["rows"] (defScope s_need_rows) := ⟨rfl, rfl, rfl, by decide +kernel, rfl, by decide +kernel, by decide +kernel⟩
theorem m_need_rows : mSs TT ["rows", "number", "row", "place", "one"] (defScope s_need_rows) (defScope s_need_rows) b_need_rows (defBody s_need_rows) = true := by decide +kernel
theorem sc_need_right : FnScope ["rows", "right", "place", "one"] ["rows", "right"] (defScope s_need_right) := ⟨rfl, rfl, rfl, by decide +kernel, rfl, by decide +kernel, by decide +kernel⟩
theorem m_need_right : mSs TT ["rows", "right", "place", "one"] (defScope s_need_right) (defScope s_need_right) b_need_right (defBody s_need_right) = true := by decide +kernel
theorem sc_need_square : FnScope ["rows"] ["rows"] (defScope s_need_square) := ⟨rfl, rfl, rfl, by decide +kernel, rfl, by decide +kernel, by decide +kernel⟩
theorem m_need_square : mSs TT ["rows"] (defScope s_need_square) (defScope s_need_square) b_need_square (defBody s_need_square) = true := by decide +kernel
theorem sc_summed : FnScope ["one", "other", "mine", "yours"] ["one", "other"] (defScope s_summed) := ⟨rfl, rfl, rfl, by decide +kernel, rfl, by decide +kernel, by decide +kernel⟩
theorem m_summed : mSs TT ["one", "other", "mine", "yours"] (defScope s_summed) (defScope s_summed) b_summed (defBody s_summed) = true := by decide +kernel
theorem sc_times : FnScope ["rows", "side", "row"] ["rows", "side"] (defScope s_times) := ⟨rfl, rfl, rfl, by decide +kernel, rfl, by decide +kernel, by decide +kernel⟩
theorem m_times : mSs TT ["rows", "side", "row"] (defScope s_times) (defScope s_times) b_times (defBody s_times) = true := by decide +kernel
theorem sc_lesser : FnScope ["row", "many", "other", "prime", "one", "two"] ["row", "many", "other", "prime"] (defScope s_lesser) := ⟨rfl, rfl, rfl, by decide +kernel, rfl, by decide +kernel, by decide +kernel⟩
theorem m_lesser : mSs TT ["row", "many", "other", "prime", "one", "two"] (defScope s_lesser) (defScope s_lesser) b_lesser (defBody s_lesser) = true := by decide +kernel
theorem sc_turned_round : FnScope ["rows", "prime", "size", "now", "number", "row", "one", "place", "some", "back"] ["rows", "prime"] (defScope s_turned_round) := ⟨rfl, rfl, rfl, by decide +kernel, rfl, by decide +kernel, by decide +kernel⟩
theorem m_turned_round : mSs TT ["rows", "prime", "size", "now", "number", "row", "one", "place", "some", "back"] (defScope s_turned_round) (defScope s_turned_round) b_turned_round (defBody s_turned_round) = true := by decide +kernel
theorem sc_Lifter___init__ : FnScope ["self", "rows", "back", "right", "prime"] ["self", "rows", "back", "right", "prime"] (defScope s_Lifter___init__) := ⟨rfl, rfl, rfl, by decide +kernel, rfl, by decide +kernel, by decide +kernel⟩
theorem m_Lifter___init__ : mSs TT ["self", "rows", "back", "right", "prime"] (defScope s_Lifter___init__) (defScope s_Lifter___init__) b_Lifter___init__ (defBody s_Lifter___init__) = true := by decide +kernel
theorem sc_Lifter_go : FnScope ["self", "many", "more", "digit", "one", "done", "other"] ["self", "many"] (defScope s_Lifter_go) := ⟨rfl, rfl, rfl, by decide +kernel, rfl, by decide +kernel, by decide +kernel⟩
theorem m_Lifter_go : mSs TT ["self", "many", "more", "digit", "one", "done", "other"] (defScope s_Lifter_go) (defScope s_Lifter_go) b_Lifter_go (defBody s_Lifter_go) = true := by decide +kernel
theorem sc_fit : FnScope ["rows", "right", "prime", "back"] ["rows", "right", "prime"] (defScope s_fit) := ⟨rfl, rfl, rfl, by decide +kernel, rfl, by decide +kernel, by decide +kernel⟩
theorem m_fit : mSs TT ["rows", "right", "prime", "back"] (defScope s_fit) (defScope s_fit) b_fit (defBody s_fit) = true := by decide +kernel
theorem sc_lifted : FnScope ["rows", "right", "prime", "many", "back", "lifter", "digit"] ["rows", "right", "prime", "many"] (defScope s_lifted) := ⟨rfl, rfl, rfl, by decide +kernel, rfl, by decide +kernel, by decide +kernel⟩
theorem m_lifted : mSs TT ["rows", "right", "prime", "many", "back", "lifter", "digit"] (defScope s_lifted) (defScope s_lifted) b_lifted (defBody s_lifted) = true := by decide +kernel
theorem sc__law_taken : FnScope ["_law_row", "_law_many", "_law_found", "_law_cell"] ["_law_row", "_law_many"] (defScope s__law_taken) := ⟨rfl, rfl, rfl, by decide +kernel, rfl, by decide +kernel, by decide +kernel⟩
theorem m__law_taken : mSs TT ["_law_row", "_law_many", "_law_found", "_law_cell"] (defScope s__law_taken) (defScope s__law_taken) b__law_taken (defBody s__law_taken) = true := by decide +kernel
theorem sc__law_alike : FnScope ["_law_one", "_law_due", "_law_k"] ["_law_one", "_law_due"] (defScope s__law_alike) := ⟨rfl, rfl, rfl, by decide +kernel, rfl, by decide +kernel, by decide +kernel⟩
theorem m__law_alike : mSs TT ["_law_one", "_law_due", "_law_k"] (defScope s__law_alike) (defScope s__law_alike) b__law_alike (defBody s__law_alike) = true := by decide +kernel
theorem sc__law_drawn : FnScope ["_law_row", "_law_many", "_law_wide", "_law_far", "_law_found", "_law_k", "_law_line", "_law_place", "_law_way", "_law_one", "_law_other"] ["_law_row", "_law_many", "_law_wide"] (defScope s__law_drawn) := ⟨rfl, rfl, rfl, by decide +kernel, rfl, by decide +kernel, by decide +kernel⟩
theorem m__law_drawn : mSs TT ["_law_row", "_law_many", "_law_wide", "_law_far", "_law_found", "_law_k", "_law_line", "_law_place", "_law_way", "_law_one", "_law_other"] (defScope s__law_drawn) (defScope s__law_drawn) b__law_drawn (defBody s__law_drawn) = true := by decide +kernel
theorem sc__law_right : FnScope ["_law_row", "_law_rows", "_law_line", "_law_some", "_law_one", "_law_found", "_law_k"] ["_law_row", "_law_rows"] (defScope s__law_right) := ⟨rfl, rfl, rfl, by decide +kernel, rfl, by decide +kernel, by decide +kernel⟩
theorem m__law_right : mSs TT ["_law_row", "_law_rows", "_law_line", "_law_some", "_law_one", "_law_found", "_law_k"] (defScope s__law_right) (defScope s__law_right) b__law_right (defBody s__law_right) = true := by decide +kernel
theorem sc__law_square : FnScope ["_law_row", "_law_many", "_law_rows"] ["_law_row"] (defScope s__law_square) := ⟨rfl, rfl, rfl, by decide +kernel, rfl, by decide +kernel, by decide +kernel⟩
theorem m__law_square : mSs TT ["_law_row", "_law_many", "_law_rows"] (defScope s__law_square) (defScope s__law_square) b__law_square (defBody s__law_square) = true := by decide +kernel
theorem sc__law_rests_rank : FnScope ["_law_rows", "_law_by", "_law_kept", "_law_first", "_law_number", "_law_line", "_law_one", "_law_place", "_law_two", "_law_k", "_law_some", "_law_back", "_law_older"] ["_law_rows", "_law_by"] (defScope s__law_rests_rank) := ⟨rfl, rfl, rfl, by decide +kernel, rfl, by decide +kernel, by decide +kernel⟩
theorem m__law_rests_rank : mSs TT ["_law_rows", "_law_by", "_law_kept", "_law_first", "_law_number", "_law_line", "_law_one", "_law_place", "_law_two", "_law_k", "_law_some", "_law_back", "_law_older"] (defScope s__law_rests_rank) (defScope s__law_rests_rank) b__law_rests_rank (defBody s__law_rests_rank) = true := by decide +kernel
theorem sc__law_digit : FnScope ["_law_rows", "_law_left", "_law_prime", "_law_many", "_law_lines", "_law_one", "_law_k", "_law_place", "_law_top", "_law_back", "_law_j", "_law_far", "_law_two", "_law_i", "_law_line"] ["_law_rows", "_law_left", "_law_prime"] (defScope s__law_digit) := ⟨rfl, rfl, rfl, by decide +kernel, rfl, by decide +kernel, by decide +kernel⟩
theorem m__law_digit : mSs TT ["_law_rows", "_law_left", "_law_prime", "_law_many", "_law_lines", "_law_one", "_law_k", "_law_place", "_law_top", "_law_back", "_law_j", "_law_far", "_law_two", "_law_i", "_law_line"] (defScope s__law_digit) (defScope s__law_digit) b__law_digit (defBody s__law_digit) = true := by decide +kernel
theorem sc_law : FnScope ["_law_script", "_law_row", "_law_turn", "_law_rows", "_law_right_here", "_law_prime", "_law_many", "_law_left", "_law_due", "_law_k", "_law_digit_here", "_law_done", "_law_j", "_law_line", "_law_again", "_law_found"] ["_law_script"] (defScope s_law) := ⟨rfl, rfl, rfl, by decide +kernel, rfl, by decide +kernel, by decide +kernel⟩
theorem m_law : mSs TT ["_law_script", "_law_row", "_law_turn", "_law_rows", "_law_right_here", "_law_prime", "_law_many", "_law_left", "_law_due", "_law_k", "_law_digit_here", "_law_done", "_law_j", "_law_line", "_law_again", "_law_found"] (defScope s_law) (defScope s_law) b_law (defBody s_law) = true := by decide +kernel
section
variable {l : PySem.W.OpenLaw} {w : World} {K : PySem.W.Frag} {h : Heap} {mg : Str → Option Value}
set_option maxHeartbeats 0 in
theorem all_mk {fa : Addr} {f0 : Addr} {od0 an0 : Option Addr} {sl0 : Array (Option Value)} {oc0 kV0 dc0 pm0 cd0 ct0 : Value} {f1 : Addr} {od1 an1 : Option Addr} {sl1 : Array (Option Value)} {oc1 kV1 dc1 pm1 cd1 ct1 : Value} {f2 : Addr} {od2 an2 : Option Addr} {sl2 : Array (Option Value)} {oc2 kV2 dc2 pm2 cd2 ct2 : Value} {f3 : Addr} {od3 an3 : Option Addr} {sl3 : Array (Option Value)} {oc3 kV3 dc3 pm3 cd3 ct3 : Value} {f4 : Addr} {od4 an4 : Option Addr} {sl4 : Array (Option Value)} {oc4 kV4 dc4 pm4 cd4 ct4 : Value} {f5 : Addr} {od5 an5 : Option Addr} {sl5 : Array (Option Value)} {oc5 kV5 dc5 pm5 cd5 ct5 : Value} {f6 : Addr} {od6 an6 : Option Addr} {sl6 : Array (Option Value)} {oc6 kV6 dc6 pm6 cd6 ct6 : Value} {f7 : Addr} {od7 an7 : Option Addr} {sl7 : Array (Option Value)} {oc7 kV7 dc7 pm7 cd7 ct7 : Value} {f8 : Addr} {od8 an8 : Option Addr} {sl8 : Array (Option Value)} {oc8 kV8 dc8 pm8 cd8 ct8 : Value} {f9 : Addr} {od9 an9 : Option Addr} {sl9 : Array (Option Value)} {oc9 kV9 dc9 pm9 cd9 ct9 : Value} {f10 : Addr} {od10 an10 : Option Addr} {sl10 : Array (Option Value)} {oc10 kV10 dc10 pm10 cd10 ct10 : Value} {f11 : Addr} {od11 an11 : Option Addr} {sl11 : Array (Option Value)} {oc11 kV11 dc11 pm11 cd11 ct11 : Value} {f12 : Addr} {od12 an12 : Option Addr} {sl12 : Array (Option Value)} {oc12 kV12 dc12 pm12 cd12 ct12 : Value} {f13 : Addr} {od13 an13 : Option Addr} {sl13 : Array (Option Value)} {oc13 kV13 dc13 pm13 cd13 ct13 : Value} {f14 : Addr} {od14 an14 : Option Addr} {sl14 : Array (Option Value)} {oc14 kV14 dc14 pm14 cd14 ct14 : Value} {f15 : Addr} {od15 an15 : Option Addr} {sl15 : Array (Option Value)} {oc15 kV15 dc15 pm15 cd15 ct15 : Value} {f16 : Addr} {od16 an16 : Option Addr} {sl16 : Array (Option Value)} {oc16 kV16 dc16 pm16 cd16 ct16 : Value} {f17 : Addr} {od17 an17 : Option Addr} {sl17 : Array (Option Value)} {oc17 kV17 dc17 pm17 cd17 ct17 : Value} {f18 : Addr} {od18 an18 : Option Addr} {sl18 : Array (Option Value)} {oc18 kV18 dc18 pm18 cd18 ct18 : Value} {f19 : Addr} {od19 an19 : Option Addr} {sl19 : Array (Option Value)} {oc19 kV19 dc19 pm19 cd19 ct19 : Value} {f20 : Addr} {od20 an20 : Option Addr} {sl20 : Array (Option Value)} {oc20 kV20 dc20 pm20 cd20 ct20 : Value} {f21 : Addr} {od21 an21 : Option Addr} {sl21 : Array (Option Value)} {oc21 kV21 dc21 pm21 cd21 ct21 : Value} {f22 : Addr} {od22 an22 : Option Addr} {sl22 : Array (Option Value)} {oc22 kV22 dc22 pm22 cd22 ct22 : Value} {f23 : Addr} {od23 an23 : Option Addr} {sl23 : Array (Option Value)} {oc23 kV23 dc23 pm23 cd23 ct23 : Value} {tg0 : Tok} {tg1 : Tok} {tg2 : Tok} {tg3 : Tok} {tg4 : Tok} {QLifter : Addr} (X : K.In h) (G : h.Ns mainGlobals mg) (hfa : mg "law" = some (.ref fa))
    (a0 : PySem.W.nsIn K mainGlobals "is_whole" = some (some (.ref f0)))
    (l0 : K.lookup f0 = some ⟨oc0, od0, .func (PySem.W.fnOf "is_whole" "is_whole" (defArgs s_is_whole) (defBody s_is_whole) (defScope s_is_whole) .none kV0 dc0 pm0 an0 cd0 ct0), sl0⟩)
    (c0 : PySem.W.codeIn K cd0 "is_whole" = true)
    (k0 : PySem.W.keepIn K (.ref f0) = true)
    (a1 : PySem.W.nsIn K mainGlobals "is_number" = some (some (.ref f1)))
    (l1 : K.lookup f1 = some ⟨oc1, od1, .func (PySem.W.fnOf "is_number" "is_number" (defArgs s_is_number) (defBody s_is_number) (defScope s_is_number) .none kV1 dc1 pm1 an1 cd1 ct1), sl1⟩)
    (c1 : PySem.W.codeIn K cd1 "is_number" = true)
    (k1 : PySem.W.keepIn K (.ref f1) = true)
    (a2 : PySem.W.nsIn K mainGlobals "is_prime" = some (some (.ref f2)))
    (l2 : K.lookup f2 = some ⟨oc2, od2, .func (PySem.W.fnOf "is_prime" "is_prime" (defArgs s_is_prime) (defBody s_is_prime) (defScope s_is_prime) .none kV2 dc2 pm2 an2 cd2 ct2), sl2⟩)
    (c2 : PySem.W.codeIn K cd2 "is_prime" = true)
    (k2 : PySem.W.keepIn K (.ref f2) = true)
    (a3 : PySem.W.nsIn K mainGlobals "need_prime" = some (some (.ref f3)))
    (l3 : K.lookup f3 = some ⟨oc3, od3, .func (PySem.W.fnOf "need_prime" "need_prime" (defArgs s_need_prime) (defBody s_need_prime) (defScope s_need_prime) .none kV3 dc3 pm3 an3 cd3 ct3), sl3⟩)
    (c3 : PySem.W.codeIn K cd3 "need_prime" = true)
    (k3 : PySem.W.keepIn K (.ref f3) = true)
    (a4 : PySem.W.nsIn K mainGlobals "turned_by" = some (some (.ref f4)))
    (l4 : K.lookup f4 = some ⟨oc4, od4, .func (PySem.W.fnOf "turned_by" "turned_by" (defArgs s_turned_by) (defBody s_turned_by) (defScope s_turned_by) .none kV4 dc4 pm4 an4 cd4 ct4), sl4⟩)
    (c4 : PySem.W.codeIn K cd4 "turned_by" = true)
    (k4 : PySem.W.keepIn K (.ref f4) = true)
    (a5 : PySem.W.nsIn K mainGlobals "need_rows" = some (some (.ref f5)))
    (l5 : K.lookup f5 = some ⟨oc5, od5, .func (PySem.W.fnOf "need_rows" "need_rows" (defArgs s_need_rows) (defBody s_need_rows) (defScope s_need_rows) .none kV5 dc5 pm5 an5 cd5 ct5), sl5⟩)
    (c5 : PySem.W.codeIn K cd5 "need_rows" = true)
    (k5 : PySem.W.keepIn K (.ref f5) = true)
    (a6 : PySem.W.nsIn K mainGlobals "need_right" = some (some (.ref f6)))
    (l6 : K.lookup f6 = some ⟨oc6, od6, .func (PySem.W.fnOf "need_right" "need_right" (defArgs s_need_right) (defBody s_need_right) (defScope s_need_right) .none kV6 dc6 pm6 an6 cd6 ct6), sl6⟩)
    (c6 : PySem.W.codeIn K cd6 "need_right" = true)
    (k6 : PySem.W.keepIn K (.ref f6) = true)
    (a7 : PySem.W.nsIn K mainGlobals "need_square" = some (some (.ref f7)))
    (l7 : K.lookup f7 = some ⟨oc7, od7, .func (PySem.W.fnOf "need_square" "need_square" (defArgs s_need_square) (defBody s_need_square) (defScope s_need_square) .none kV7 dc7 pm7 an7 cd7 ct7), sl7⟩)
    (c7 : PySem.W.codeIn K cd7 "need_square" = true)
    (k7 : PySem.W.keepIn K (.ref f7) = true)
    (a8 : PySem.W.nsIn K mainGlobals "summed" = some (some (.ref f8)))
    (l8 : K.lookup f8 = some ⟨oc8, od8, .func (PySem.W.fnOf "summed" "summed" (defArgs s_summed) (defBody s_summed) (defScope s_summed) .none kV8 dc8 pm8 an8 cd8 ct8), sl8⟩)
    (c8 : PySem.W.codeIn K cd8 "summed" = true)
    (k8 : PySem.W.keepIn K (.ref f8) = true)
    (a9 : PySem.W.nsIn K mainGlobals "times" = some (some (.ref f9)))
    (l9 : K.lookup f9 = some ⟨oc9, od9, .func (PySem.W.fnOf "times" "times" (defArgs s_times) (defBody s_times) (defScope s_times) .none kV9 dc9 pm9 an9 cd9 ct9), sl9⟩)
    (c9 : PySem.W.codeIn K cd9 "times" = true)
    (k9 : PySem.W.keepIn K (.ref f9) = true)
    (a10 : PySem.W.nsIn K mainGlobals "lesser" = some (some (.ref f10)))
    (l10 : K.lookup f10 = some ⟨oc10, od10, .func (PySem.W.fnOf "lesser" "lesser" (defArgs s_lesser) (defBody s_lesser) (defScope s_lesser) .none kV10 dc10 pm10 an10 cd10 ct10), sl10⟩)
    (c10 : PySem.W.codeIn K cd10 "lesser" = true)
    (k10 : PySem.W.keepIn K (.ref f10) = true)
    (a11 : PySem.W.nsIn K mainGlobals "turned_round" = some (some (.ref f11)))
    (l11 : K.lookup f11 = some ⟨oc11, od11, .func (PySem.W.fnOf "turned_round" "turned_round" (defArgs s_turned_round) (defBody s_turned_round) (defScope s_turned_round) .none kV11 dc11 pm11 an11 cd11 ct11), sl11⟩)
    (c11 : PySem.W.codeIn K cd11 "turned_round" = true)
    (k11 : PySem.W.keepIn K (.ref f11) = true)
    (a12 : PySem.W.findIn K (.ref QLifter) "__init__" = some (some (.ref f12)))
    (l12 : K.lookup f12 = some ⟨oc12, od12, .func (PySem.W.fnOf "__init__" "Lifter.__init__" (defArgs s_Lifter___init__) (defBody s_Lifter___init__) (defScope s_Lifter___init__) .none kV12 dc12 pm12 an12 cd12 ct12), sl12⟩)
    (c12 : PySem.W.codeIn K cd12 "Lifter.__init__" = true)
    (k12 : PySem.W.keepIn K (.ref f12) = true)
    (a13 : PySem.W.findIn K (.ref QLifter) "go" = some (some (.ref f13)))
    (l13 : K.lookup f13 = some ⟨oc13, od13, .func (PySem.W.fnOf "go" "Lifter.go" (defArgs s_Lifter_go) (defBody s_Lifter_go) (defScope s_Lifter_go) .none kV13 dc13 pm13 an13 cd13 ct13), sl13⟩)
    (c13 : PySem.W.codeIn K cd13 "Lifter.go" = true)
    (k13 : PySem.W.keepIn K (.ref f13) = true)
    (a14 : PySem.W.nsIn K mainGlobals "fit" = some (some (.ref f14)))
    (l14 : K.lookup f14 = some ⟨oc14, od14, .func (PySem.W.fnOf "fit" "fit" (defArgs s_fit) (defBody s_fit) (defScope s_fit) .none kV14 dc14 pm14 an14 cd14 ct14), sl14⟩)
    (c14 : PySem.W.codeIn K cd14 "fit" = true)
    (k14 : PySem.W.keepIn K (.ref f14) = true)
    (a15 : PySem.W.nsIn K mainGlobals "lifted" = some (some (.ref f15)))
    (l15 : K.lookup f15 = some ⟨oc15, od15, .func (PySem.W.fnOf "lifted" "lifted" (defArgs s_lifted) (defBody s_lifted) (defScope s_lifted) .none kV15 dc15 pm15 an15 cd15 ct15), sl15⟩)
    (c15 : PySem.W.codeIn K cd15 "lifted" = true)
    (k15 : PySem.W.keepIn K (.ref f15) = true)
    (a16 : PySem.W.nsIn K mainGlobals "_law_taken" = some (some (.ref f16)))
    (l16 : K.lookup f16 = some ⟨oc16, od16, .func (PySem.W.fnOf "_law_taken" "_law_taken" (defArgs s__law_taken) (defBody s__law_taken) (defScope s__law_taken) .none kV16 dc16 pm16 an16 cd16 ct16), sl16⟩)
    (c16 : PySem.W.codeIn K cd16 "_law_taken" = true)
    (k16 : PySem.W.keepIn K (.ref f16) = true)
    (a17 : PySem.W.nsIn K mainGlobals "_law_alike" = some (some (.ref f17)))
    (l17 : K.lookup f17 = some ⟨oc17, od17, .func (PySem.W.fnOf "_law_alike" "_law_alike" (defArgs s__law_alike) (defBody s__law_alike) (defScope s__law_alike) .none kV17 dc17 pm17 an17 cd17 ct17), sl17⟩)
    (c17 : PySem.W.codeIn K cd17 "_law_alike" = true)
    (k17 : PySem.W.keepIn K (.ref f17) = true)
    (a18 : PySem.W.nsIn K mainGlobals "_law_drawn" = some (some (.ref f18)))
    (l18 : K.lookup f18 = some ⟨oc18, od18, .func (PySem.W.fnOf "_law_drawn" "_law_drawn" (defArgs s__law_drawn) (defBody s__law_drawn) (defScope s__law_drawn) .none kV18 dc18 pm18 an18 cd18 ct18), sl18⟩)
    (c18 : PySem.W.codeIn K cd18 "_law_drawn" = true)
    (k18 : PySem.W.keepIn K (.ref f18) = true)
    (a19 : PySem.W.nsIn K mainGlobals "_law_right" = some (some (.ref f19)))
    (l19 : K.lookup f19 = some ⟨oc19, od19, .func (PySem.W.fnOf "_law_right" "_law_right" (defArgs s__law_right) (defBody s__law_right) (defScope s__law_right) .none kV19 dc19 pm19 an19 cd19 ct19), sl19⟩)
    (c19 : PySem.W.codeIn K cd19 "_law_right" = true)
    (k19 : PySem.W.keepIn K (.ref f19) = true)
    (a20 : PySem.W.nsIn K mainGlobals "_law_square" = some (some (.ref f20)))
    (l20 : K.lookup f20 = some ⟨oc20, od20, .func (PySem.W.fnOf "_law_square" "_law_square" (defArgs s__law_square) (defBody s__law_square) (defScope s__law_square) .none kV20 dc20 pm20 an20 cd20 ct20), sl20⟩)
    (c20 : PySem.W.codeIn K cd20 "_law_square" = true)
    (k20 : PySem.W.keepIn K (.ref f20) = true)
    (a21 : PySem.W.nsIn K mainGlobals "_law_rests_rank" = some (some (.ref f21)))
    (l21 : K.lookup f21 = some ⟨oc21, od21, .func (PySem.W.fnOf "_law_rests_rank" "_law_rests_rank" (defArgs s__law_rests_rank) (defBody s__law_rests_rank) (defScope s__law_rests_rank) .none kV21 dc21 pm21 an21 cd21 ct21), sl21⟩)
    (c21 : PySem.W.codeIn K cd21 "_law_rests_rank" = true)
    (k21 : PySem.W.keepIn K (.ref f21) = true)
    (a22 : PySem.W.nsIn K mainGlobals "_law_digit" = some (some (.ref f22)))
    (l22 : K.lookup f22 = some ⟨oc22, od22, .func (PySem.W.fnOf "_law_digit" "_law_digit" (defArgs s__law_digit) (defBody s__law_digit) (defScope s__law_digit) .none kV22 dc22 pm22 an22 cd22 ct22), sl22⟩)
    (c22 : PySem.W.codeIn K cd22 "_law_digit" = true)
    (k22 : PySem.W.keepIn K (.ref f22) = true)
    (a23 : PySem.W.nsIn K mainGlobals "law" = some (some (.ref f23)))
    (l23 : K.lookup f23 = some ⟨oc23, od23, .func (PySem.W.fnOf "law" "law" (defArgs s_law) (defBody s_law) (defScope s_law) .none kV23 dc23 pm23 an23 cd23 ct23), sl23⟩)
    (c23 : PySem.W.codeIn K cd23 "law" = true)
    (k23 : PySem.W.keepIn K (.ref f23) = true)
    (u0 : PySem.W.nsIn K mainGlobals "LEAST_PRIME" = some (some (.int 2 tg0)))
    (u1 : PySem.W.nsIn K mainGlobals "MOST_PRIME" = some (some (.int 9973 tg1)))
    (u2 : PySem.W.nsIn K mainGlobals "MOST_ROWS" = some (some (.int 8 tg2)))
    (u3 : PySem.W.nsIn K mainGlobals "MOST_SIZE" = some (some (.int 1000000000 tg3)))
    (u4 : PySem.W.nsIn K mainGlobals "MOST_POWERS" = some (some (.int 200 tg4)))
    (z0 : PySem.W.nsIn K mainGlobals "ValueError" = some none)
    (z1 : PySem.W.nsIn K mainGlobals "len" = some none)
    (z2 : PySem.W.nsIn K mainGlobals "abs" = some none)
    (z3 : PySem.W.nsIn K mainGlobals "max" = some none)
    (z4 : PySem.W.nsIn K mainGlobals "min" = some none)
    (z5 : PySem.W.nsIn K mainGlobals "int" = some none)
    (z6 : PySem.W.nsIn K mainGlobals "str" = some none)
    (z7 : PySem.W.nsIn K mainGlobals "sum" = some none)
    (z8 : PySem.W.nsIn K mainGlobals "sorted" = some none)
    (z9 : PySem.W.nsIn K mainGlobals "list" = some none)
    (z10 : PySem.W.nsIn K mainGlobals "tuple" = some none)
    (z11 : PySem.W.nsIn K mainGlobals "any" = some none)
    (z12 : PySem.W.nsIn K mainGlobals "all" = some none)
    (z13 : PySem.W.nsIn K mainGlobals "bool" = some none)
    (z14 : PySem.W.nsIn K mainGlobals "isinstance" = some none)
    (z15 : PySem.W.nsIn K mainGlobals "range" = some none)
    (z16 : PySem.W.nsIn K mainGlobals "enumerate" = some none)
    (z17 : PySem.W.nsIn K mainGlobals "zip" = some none)
    (vf12 : PySem.W.isFn K (.ref f12) = true)
    (vf13 : PySem.W.isFn K (.ref f13) = true)
    (vnLifter : PySem.W.nsIn K mainGlobals "Lifter" = some (some (.ref QLifter)))
    (vgLifter : PySem.W.plainGet K QLifter Str.empty = true)
    (vdLifter : PySem.W.hasDictIn K QLifter = true)
    (voLifter : PySem.W.plainOver K QLifter = true)
    (vsLifter : PySem.W.findIn K (.ref QLifter) "__setattr__" = some (some (.builtin "object.__setattr__")))
    (vmLifter : PySem.W.makesIn K QLifter = true)
    (vkLifter : PySem.W.keepIn K (.ref QLifter) = true)
    (wLifter_rows : PySem.W.findIn K (.ref QLifter) "rows" = some none)
    (wLifter_back : PySem.W.findIn K (.ref QLifter) "back" = some none)
    (wLifter_prime : PySem.W.findIn K (.ref QLifter) "prime" = some none)
    (wLifter_left : PySem.W.findIn K (.ref QLifter) "left" = some none)
    (wLifter_taken : PySem.W.findIn K (.ref QLifter) "taken" = some none) :
    ∃ (M : Nm) (L : Lk), Top K mg M TT L Γ ∧ (∀ f ∈ TT.fs, FnI K TT L Γ f) ∧ L.fa 9 = fa ∧ L.ps 9 = (["_law_script"] : List Str) ∧ (∀ (s : Shared) (v : Value), BindsTo s (L.fd 9) ⟨[v], []⟩ [("_law_script", v)]) ∧ M.tb = [] := by
  have e := hfa.symm.trans (PySem.W.mg_of X G a23)
  cases e
  have F0 := fun_mk (st := s_is_whole) l0 c0 k0
  have b0 := F0.binds (ps := ["thing"]) fun _ _ _ _ _ _ us hl => match us, hl with | [_], _ => rfl
  have F1 := fun_mk (st := s_is_number) l1 c1 k1
  have b1 := F1.binds (ps := ["thing", "low", "high"]) fun _ _ _ _ _ _ us hl => match us, hl with | [_, _, _], _ => rfl
  have F2 := fun_mk (st := s_is_prime) l2 c2 k2
  have b2 := F2.binds (ps := ["number"]) fun _ _ _ _ _ _ us hl => match us, hl with | [_], _ => rfl
  have F3 := fun_mk (st := s_need_prime) l3 c3 k3
  have b3 := F3.binds (ps := ["prime"]) fun _ _ _ _ _ _ us hl => match us, hl with | [_], _ => rfl
  have F4 := fun_mk (st := s_turned_by) l4 c4 k4
  have b4 := F4.binds (ps := ["number", "prime"]) fun _ _ _ _ _ _ us hl => match us, hl with | [_, _], _ => rfl
  have F5 := fun_mk (st := s_need_rows) l5 c5 k5
  have b5 := F5.binds (ps := ["rows"]) fun _ _ _ _ _ _ us hl => match us, hl with | [_], _ => rfl
  have F6 := fun_mk (st := s_need_right) l6 c6 k6
  have b6 := F6.binds (ps := ["rows", "right"]) fun _ _ _ _ _ _ us hl => match us, hl with | [_, _], _ => rfl
  have F7 := fun_mk (st := s_need_square) l7 c7 k7
  have b7 := F7.binds (ps := ["rows"]) fun _ _ _ _ _ _ us hl => match us, hl with | [_], _ => rfl
  have F8 := fun_mk (st := s_summed) l8 c8 k8
  have b8 := F8.binds (ps := ["one", "other"]) fun _ _ _ _ _ _ us hl => match us, hl with | [_, _], _ => rfl
  have F9 := fun_mk (st := s_times) l9 c9 k9
  have b9 := F9.binds (ps := ["rows", "side"]) fun _ _ _ _ _ _ us hl => match us, hl with | [_, _], _ => rfl
  have F10 := fun_mk (st := s_lesser) l10 c10 k10
  have b10 := F10.binds (ps := ["row", "many", "other", "prime"]) fun _ _ _ _ _ _ us hl => match us, hl with | [_, _, _, _], _ => rfl
  have F11 := fun_mk (st := s_turned_round) l11 c11 k11
  have b11 := F11.binds (ps := ["rows", "prime"]) fun _ _ _ _ _ _ us hl => match us, hl with | [_, _], _ => rfl
  have F12 := fun_mk (st := s_Lifter___init__) l12 c12 k12
  have b12 := F12.binds (ps := ["self", "rows", "back", "right", "prime"]) fun _ _ _ _ _ _ us hl => match us, hl with | [_, _, _, _, _], _ => rfl
  have F13 := fun_mk (st := s_Lifter_go) l13 c13 k13
  have b13 := F13.binds (ps := ["self", "many"]) fun _ _ _ _ _ _ us hl => match us, hl with | [_, _], _ => rfl
  have F14 := fun_mk (st := s_fit) l14 c14 k14
  have b14 := F14.binds (ps := ["rows", "right", "prime"]) fun _ _ _ _ _ _ us hl => match us, hl with | [_, _, _], _ => rfl
  have F15 := fun_mk (st := s_lifted) l15 c15 k15
  have b15 := F15.binds (ps := ["rows", "right", "prime", "many"]) fun _ _ _ _ _ _ us hl => match us, hl with | [_, _, _, _], _ => rfl
  have F16 := fun_mk (st := s__law_taken) l16 c16 k16
  have b16 := F16.binds (ps := ["_law_row", "_law_many"]) fun _ _ _ _ _ _ us hl => match us, hl with | [_, _], _ => rfl
  have F17 := fun_mk (st := s__law_alike) l17 c17 k17
  have b17 := F17.binds (ps := ["_law_one", "_law_due"]) fun _ _ _ _ _ _ us hl => match us, hl with | [_, _], _ => rfl
  have F18 := fun_mk (st := s__law_drawn) l18 c18 k18
  have b18 := F18.binds (ps := ["_law_row", "_law_many", "_law_wide"]) fun _ _ _ _ _ _ us hl => match us, hl with | [_, _, _], _ => rfl
  have F19 := fun_mk (st := s__law_right) l19 c19 k19
  have b19 := F19.binds (ps := ["_law_row", "_law_rows"]) fun _ _ _ _ _ _ us hl => match us, hl with | [_, _], _ => rfl
  have F20 := fun_mk (st := s__law_square) l20 c20 k20
  have b20 := F20.binds (ps := ["_law_row"]) fun _ _ _ _ _ _ us hl => match us, hl with | [_], _ => rfl
  have F21 := fun_mk (st := s__law_rests_rank) l21 c21 k21
  have b21 := F21.binds (ps := ["_law_rows", "_law_by"]) fun _ _ _ _ _ _ us hl => match us, hl with | [_, _], _ => rfl
  have F22 := fun_mk (st := s__law_digit) l22 c22 k22
  have b22 := F22.binds (ps := ["_law_rows", "_law_left", "_law_prime"]) fun _ _ _ _ _ _ us hl => match us, hl with | [_, _, _], _ => rfl
  have F23 := fun_mk (st := s_law) l23 c23 k23
  have b23 := F23.binds (ps := ["_law_script"]) fun _ _ _ _ _ _ us hl => match us, hl with | [_], _ => rfl

  refine ⟨⟨fun c => match c with
    | 7 => QLifter
    | _ => 0, TT.fl, Γ.om, [], fun _ => ""⟩, ⟨fun i => match i with
    | 0 => f0
    | 2 => f1
    | 10 => f2
    | 15 => f3
    | 30 => f4
    | 11 => f5
    | 12 => f6
    | 13 => f7
    | 37 => f8
    | 38 => f9
    | 28 => f10
    | 31 => f11
    | 42 => f12
    | 43 => f13
    | 39 => f14
    | 41 => f15
    | 5 => f16
    | 17 => f17
    | 18 => f18
    | 19 => f19
    | 21 => f20
    | 34 => f21
    | 40 => f22
    | 9 => fa
    | _ => 0, fun i => match i with
    | 0 => PySem.W.fnOf "is_whole" "is_whole" (defArgs s_is_whole) (defBody s_is_whole) (defScope s_is_whole) .none kV0 dc0 pm0 an0 cd0 ct0
    | 2 => PySem.W.fnOf "is_number" "is_number" (defArgs s_is_number) (defBody s_is_number) (defScope s_is_number) .none kV1 dc1 pm1 an1 cd1 ct1
    | 10 => PySem.W.fnOf "is_prime" "is_prime" (defArgs s_is_prime) (defBody s_is_prime) (defScope s_is_prime) .none kV2 dc2 pm2 an2 cd2 ct2
    | 15 => PySem.W.fnOf "need_prime" "need_prime" (defArgs s_need_prime) (defBody s_need_prime) (defScope s_need_prime) .none kV3 dc3 pm3 an3 cd3 ct3
    | 30 => PySem.W.fnOf "turned_by" "turned_by" (defArgs s_turned_by) (defBody s_turned_by) (defScope s_turned_by) .none kV4 dc4 pm4 an4 cd4 ct4
    | 11 => PySem.W.fnOf "need_rows" "need_rows" (defArgs s_need_rows) (defBody s_need_rows) (defScope s_need_rows) .none kV5 dc5 pm5 an5 cd5 ct5
    | 12 => PySem.W.fnOf "need_right" "need_right" (defArgs s_need_right) (defBody s_need_right) (defScope s_need_right) .none kV6 dc6 pm6 an6 cd6 ct6
    | 13 => PySem.W.fnOf "need_square" "need_square" (defArgs s_need_square) (defBody s_need_square) (defScope s_need_square) .none kV7 dc7 pm7 an7 cd7 ct7
    | 37 => PySem.W.fnOf "summed" "summed" (defArgs s_summed) (defBody s_summed) (defScope s_summed) .none kV8 dc8 pm8 an8 cd8 ct8
    | 38 => PySem.W.fnOf "times" "times" (defArgs s_times) (defBody s_times) (defScope s_times) .none kV9 dc9 pm9 an9 cd9 ct9
    | 28 => PySem.W.fnOf "lesser" "lesser" (defArgs s_lesser) (defBody s_lesser) (defScope s_lesser) .none kV10 dc10 pm10 an10 cd10 ct10
    | 31 => PySem.W.fnOf "turned_round" "turned_round" (defArgs s_turned_round) (defBody s_turned_round) (defScope s_turned_round) .none kV11 dc11 pm11 an11 cd11 ct11
    | 42 => PySem.W.fnOf "__init__" "Lifter.__init__" (defArgs s_Lifter___init__) (defBody s_Lifter___init__) (defScope s_Lifter___init__) .none kV12 dc12 pm12 an12 cd12 ct12
    | 43 => PySem.W.fnOf "go" "Lifter.go" (defArgs s_Lifter_go) (defBody s_Lifter_go) (defScope s_Lifter_go) .none kV13 dc13 pm13 an13 cd13 ct13
    | 39 => PySem.W.fnOf "fit" "fit" (defArgs s_fit) (defBody s_fit) (defScope s_fit) .none kV14 dc14 pm14 an14 cd14 ct14
    | 41 => PySem.W.fnOf "lifted" "lifted" (defArgs s_lifted) (defBody s_lifted) (defScope s_lifted) .none kV15 dc15 pm15 an15 cd15 ct15
    | 5 => PySem.W.fnOf "_law_taken" "_law_taken" (defArgs s__law_taken) (defBody s__law_taken) (defScope s__law_taken) .none kV16 dc16 pm16 an16 cd16 ct16
    | 17 => PySem.W.fnOf "_law_alike" "_law_alike" (defArgs s__law_alike) (defBody s__law_alike) (defScope s__law_alike) .none kV17 dc17 pm17 an17 cd17 ct17
    | 18 => PySem.W.fnOf "_law_drawn" "_law_drawn" (defArgs s__law_drawn) (defBody s__law_drawn) (defScope s__law_drawn) .none kV18 dc18 pm18 an18 cd18 ct18
    | 19 => PySem.W.fnOf "_law_right" "_law_right" (defArgs s__law_right) (defBody s__law_right) (defScope s__law_right) .none kV19 dc19 pm19 an19 cd19 ct19
    | 21 => PySem.W.fnOf "_law_square" "_law_square" (defArgs s__law_square) (defBody s__law_square) (defScope s__law_square) .none kV20 dc20 pm20 an20 cd20 ct20
    | 34 => PySem.W.fnOf "_law_rests_rank" "_law_rests_rank" (defArgs s__law_rests_rank) (defBody s__law_rests_rank) (defScope s__law_rests_rank) .none kV21 dc21 pm21 an21 cd21 ct21
    | 40 => PySem.W.fnOf "_law_digit" "_law_digit" (defArgs s__law_digit) (defBody s__law_digit) (defScope s__law_digit) .none kV22 dc22 pm22 an22 cd22 ct22
    | 9 => PySem.W.fnOf "law" "law" (defArgs s_law) (defBody s_law) (defScope s_law) .none kV23 dc23 pm23 an23 cd23 ct23
    | _ => PySem.W.fnOf "law" "law" (defArgs s_law) (defBody s_law) (defScope s_law) .none kV23 dc23 pm23 an23 cd23 ct23, fun i => match i with
    | 0 => ["thing"]
    | 2 => ["thing", "low", "high"]
    | 10 => ["number"]
    | 15 => ["prime"]
    | 30 => ["number", "prime"]
    | 11 => ["rows"]
    | 12 => ["rows", "right"]
    | 13 => ["rows"]
    | 37 => ["one", "other"]
    | 38 => ["rows", "side"]
    | 28 => ["row", "many", "other", "prime"]
    | 31 => ["rows", "prime"]
    | 42 => ["self", "rows", "back", "right", "prime"]
    | 43 => ["self", "many"]
    | 39 => ["rows", "right", "prime"]
    | 41 => ["rows", "right", "prime", "many"]
    | 5 => ["_law_row", "_law_many"]
    | 17 => ["_law_one", "_law_due"]
    | 18 => ["_law_row", "_law_many", "_law_wide"]
    | 19 => ["_law_row", "_law_rows"]
    | 21 => ["_law_row"]
    | 34 => ["_law_rows", "_law_by"]
    | 40 => ["_law_rows", "_law_left", "_law_prime"]
    | 9 => ["_law_script"]
    | _ => [], .none⟩, ?_, ?_, rfl, rfl, fun s v => .of_eq rfl, rfl⟩
  · refine ⟨rfl, ?_, ?_, ?_, PySem.W.mg_none_of X G z14, PySem.W.mg_none_of X G z15, PySem.W.mg_none_of X G z16, PySem.W.mg_none_of X G z17, ?_, fun c v dw h => wdOf_in h, rfl, ?_, ?_, ?_, ?_, ?_⟩
    · intro g hg d hd
      simp only [TT, List.mem_cons, List.not_mem_nil, or_false] at hg
      rcases hg with rfl | rfl | rfl | rfl | rfl
      · cases hd
        exact ⟨_, .int 2, PySem.W.mg_of X G u0, ⟨_, rfl⟩, fun F => .int _⟩
      · cases hd
        exact ⟨_, .int 9973, PySem.W.mg_of X G u1, ⟨_, rfl⟩, fun F => .int _⟩
      · cases hd
        exact ⟨_, .int 8, PySem.W.mg_of X G u2, ⟨_, rfl⟩, fun F => .int _⟩
      · cases hd
        exact ⟨_, .int 1000000000, PySem.W.mg_of X G u3, ⟨_, rfl⟩, fun F => .int _⟩
      · cases hd
        exact ⟨_, .int 200, PySem.W.mg_of X G u4, ⟨_, rfl⟩, fun F => .int _⟩
    · intro b hb
      cases b <;> first | (simp [okBi] at hb; done) | skip
      · exact PySem.W.mg_none_of X G z1
      · exact PySem.W.mg_none_of X G z2
      · exact PySem.W.mg_none_of X G z3
      · exact PySem.W.mg_none_of X G z4
      · exact PySem.W.mg_none_of X G z3
      · exact PySem.W.mg_none_of X G z4
      · exact PySem.W.mg_none_of X G z5
      · exact PySem.W.mg_none_of X G z6
      · exact PySem.W.mg_none_of X G z7
      · exact PySem.W.mg_none_of X G z8
      · exact PySem.W.mg_none_of X G z9
      · exact PySem.W.mg_none_of X G z10
      · exact PySem.W.mg_none_of X G z11
      · exact PySem.W.mg_none_of X G z12
    · intro t
      cases t
      · exact PySem.W.mg_none_of X G z5
      · exact PySem.W.mg_none_of X G z13
      · exact PySem.W.mg_none_of X G z6
      · exact PySem.W.mg_none_of X G z10
      · exact PySem.W.mg_none_of X G z9
    · intro c hc
      simp only [TT, List.mem_cons, List.not_mem_nil, or_false] at hc
    · intro c g hc
      rw [show Γ.cf = fun c f => cfl.contains (c, f) from rfl] at hc
      simp only [cfl, List.contains_cons, List.contains_nil, Bool.or_false, Bool.or_eq_true, beq_iff_eq, Prod.mk.injEq, List.elem_nil] at hc
      have two : ∀ g', Γ.cf c g' = true → TT.fl g = TT.fl g' → g = g' := fun g' hc' e => by
        rw [show Γ.cf = fun c f => cfl.contains (c, f) from rfl] at hc'
        simp only [cfl, List.contains_cons, List.contains_nil, Bool.or_false, Bool.or_eq_true, beq_iff_eq, Prod.mk.injEq, List.elem_nil] at hc'
        rcases hc with ⟨rfl, rfl⟩ | ⟨rfl, rfl⟩ | ⟨rfl, rfl⟩ | ⟨rfl, rfl⟩ | ⟨rfl, rfl⟩ <;> rcases hc' with ⟨h1, rfl⟩ | ⟨h1, rfl⟩ | ⟨h1, rfl⟩ | ⟨h1, rfl⟩ | ⟨h1, rfl⟩ <;> first | rfl | (exact absurd e (by decide +kernel))
      rcases hc with ⟨rfl, rfl⟩ | ⟨rfl, rfl⟩ | ⟨rfl, rfl⟩ | ⟨rfl, rfl⟩ | ⟨rfl, rfl⟩
      · exact ⟨⟨vgLifter, vdLifter, voLifter, vsLifter⟩, wLifter_rows, two⟩
      · exact ⟨⟨vgLifter, vdLifter, voLifter, vsLifter⟩, wLifter_back, two⟩
      · exact ⟨⟨vgLifter, vdLifter, voLifter, vsLifter⟩, wLifter_prime, two⟩
      · exact ⟨⟨vgLifter, vdLifter, voLifter, vsLifter⟩, wLifter_left, two⟩
      · exact ⟨⟨vgLifter, vdLifter, voLifter, vsLifter⟩, wLifter_taken, two⟩
    · intro c m f hq
      rw [show Γ.meth = fun c m => match c, m with | 7, 0 => some 43 | _, _ => none from rfl] at hq
      dsimp only at hq
      split at hq
      · cases hq
        refine ⟨by decide, ⟨vgLifter, vdLifter, voLifter, vsLifter⟩, ⟨a13, vf13, k13⟩, rfl, fun g hg => ?_⟩
        rw [show Γ.cf = fun c f => cfl.contains (c, f) from rfl] at hg
        simp only [cfl, List.contains_cons, List.contains_nil, Bool.or_false, Bool.or_eq_true, beq_iff_eq, Prod.mk.injEq, List.elem_nil] at hg
        rcases hg with ⟨h1, rfl⟩ | ⟨h1, rfl⟩ | ⟨h1, rfl⟩ | ⟨h1, rfl⟩ | ⟨h1, rfl⟩ <;> first | decide +kernel | (exact absurd h1 (by decide))
      · cases hq
    · intro c hc
      simp only [TT, List.mem_cons, List.not_mem_nil, or_false] at hc
      rcases hc with rfl
      · exact fun z => nomatch z
    · intro c f hq
      rw [show Γ.init = fun c => match c with | 7 => some 42 | _ => none from rfl] at hq
      dsimp only at hq
      split at hq
      · cases hq
        exact ⟨by decide, ⟨vmLifter, a12, vf12, vkLifter⟩, PySem.W.mg_of X G vnLifter, rfl⟩
      · cases hq
    · intro f hf
      simp only [TT, List.mem_cons, List.not_mem_nil, or_false] at hf
      rcases hf with rfl | rfl | rfl | rfl | rfl | rfl | rfl | rfl | rfl | rfl | rfl | rfl | rfl | rfl | rfl | rfl | rfl | rfl | rfl | rfl | rfl | rfl | rfl | rfl
      · exact ⟨fun _ => ⟨PySem.W.mg_of X G a0, k0⟩, [], [], b0, .nil, fun F => .nil⟩
      · exact ⟨fun _ => ⟨PySem.W.mg_of X G a1, k1⟩, [], [], b1, .nil, fun F => .nil⟩
      · exact ⟨fun _ => ⟨PySem.W.mg_of X G a2, k2⟩, [], [], b2, .nil, fun F => .nil⟩
      · exact ⟨fun _ => ⟨PySem.W.mg_of X G a3, k3⟩, [], [], b3, .nil, fun F => .nil⟩
      · exact ⟨fun _ => ⟨PySem.W.mg_of X G a4, k4⟩, [], [], b4, .nil, fun F => .nil⟩
      · exact ⟨fun _ => ⟨PySem.W.mg_of X G a5, k5⟩, [], [], b5, .nil, fun F => .nil⟩
      · exact ⟨fun _ => ⟨PySem.W.mg_of X G a6, k6⟩, [], [], b6, .nil, fun F => .nil⟩
      · exact ⟨fun _ => ⟨PySem.W.mg_of X G a7, k7⟩, [], [], b7, .nil, fun F => .nil⟩
      · exact ⟨fun _ => ⟨PySem.W.mg_of X G a8, k8⟩, [], [], b8, .nil, fun F => .nil⟩
      · exact ⟨fun _ => ⟨PySem.W.mg_of X G a9, k9⟩, [], [], b9, .nil, fun F => .nil⟩
      · exact ⟨fun _ => ⟨PySem.W.mg_of X G a10, k10⟩, [], [], b10, .nil, fun F => .nil⟩
      · exact ⟨fun _ => ⟨PySem.W.mg_of X G a11, k11⟩, [], [], b11, .nil, fun F => .nil⟩
      · exact ⟨fun z => absurd z (by decide), [], [], b12, .nil, fun F => .nil⟩
      · exact ⟨fun z => absurd z (by decide), [], [], b13, .nil, fun F => .nil⟩
      · exact ⟨fun _ => ⟨PySem.W.mg_of X G a14, k14⟩, [], [], b14, .nil, fun F => .nil⟩
      · exact ⟨fun _ => ⟨PySem.W.mg_of X G a15, k15⟩, [], [], b15, .nil, fun F => .nil⟩
      · exact ⟨fun _ => ⟨PySem.W.mg_of X G a16, k16⟩, [], [], b16, .nil, fun F => .nil⟩
      · exact ⟨fun _ => ⟨PySem.W.mg_of X G a17, k17⟩, [], [], b17, .nil, fun F => .nil⟩
      · exact ⟨fun _ => ⟨PySem.W.mg_of X G a18, k18⟩, [], [], b18, .nil, fun F => .nil⟩
      · exact ⟨fun _ => ⟨PySem.W.mg_of X G a19, k19⟩, [], [], b19, .nil, fun F => .nil⟩
      · exact ⟨fun _ => ⟨PySem.W.mg_of X G a20, k20⟩, [], [], b20, .nil, fun F => .nil⟩
      · exact ⟨fun _ => ⟨PySem.W.mg_of X G a21, k21⟩, [], [], b21, .nil, fun F => .nil⟩
      · exact ⟨fun _ => ⟨PySem.W.mg_of X G a22, k22⟩, [], [], b22, .nil, fun F => .nil⟩
      · exact ⟨fun _ => ⟨PySem.W.mg_of X G a23, k23⟩, [], [], b23, .nil, fun F => .nil⟩
  · intro f hf
    simp only [TT, List.mem_cons, List.not_mem_nil, or_false] at hf
    rcases hf with rfl | rfl | rfl | rfl | rfl | rfl | rfl | rfl | rfl | rfl | rfl | rfl | rfl | rfl | rfl | rfl | rfl | rfl | rfl | rfl | rfl | rfl | rfl | rfl
    · exact ⟨_, _, _, _, _, rfl, F0, sc_is_whole, m_is_whole, rfl, rfl, fun z => absurd z (by decide +kernel)⟩
    · exact ⟨_, _, _, _, _, rfl, F1, sc_is_number, m_is_number, rfl, rfl, fun z => absurd z (by decide +kernel)⟩
    · exact ⟨_, _, _, _, _, rfl, F2, sc_is_prime, m_is_prime, rfl, rfl, fun z => absurd z (by decide +kernel)⟩
    · exact ⟨_, _, _, _, _, rfl, F3, sc_need_prime, m_need_prime, rfl, rfl, fun z => absurd z (by decide +kernel)⟩
    · exact ⟨_, _, _, _, _, rfl, F4, sc_turned_by, m_turned_by, rfl, rfl, fun z => absurd z (by decide +kernel)⟩
    · exact ⟨_, _, _, _, _, rfl, F5, sc_need_rows, m_need_rows, rfl, rfl, fun z => absurd z (by decide +kernel)⟩
    · exact ⟨_, _, _, _, _, rfl, F6, sc_need_right, m_need_right, rfl, rfl, fun z => absurd z (by decide +kernel)⟩
    · exact ⟨_, _, _, _, _, rfl, F7, sc_need_square, m_need_square, rfl, rfl, fun z => absurd z (by decide +kernel)⟩
    · exact ⟨_, _, _, _, _, rfl, F8, sc_summed, m_summed, rfl, rfl, fun z => absurd z (by decide +kernel)⟩
    · exact ⟨_, _, _, _, _, rfl, F9, sc_times, m_times, rfl, rfl, fun z => absurd z (by decide +kernel)⟩
    · exact ⟨_, _, _, _, _, rfl, F10, sc_lesser, m_lesser, rfl, rfl, fun z => absurd z (by decide +kernel)⟩
    · exact ⟨_, _, _, _, _, rfl, F11, sc_turned_round, m_turned_round, rfl, rfl, fun z => absurd z (by decide +kernel)⟩
    · exact ⟨_, _, _, _, _, rfl, F12, sc_Lifter___init__, m_Lifter___init__, rfl, rfl, fun z => absurd z (by decide +kernel)⟩
    · exact ⟨_, _, _, _, _, rfl, F13, sc_Lifter_go, m_Lifter_go, rfl, rfl, fun z => absurd z (by decide +kernel)⟩
    · exact ⟨_, _, _, _, _, rfl, F14, sc_fit, m_fit, rfl, rfl, fun z => absurd z (by decide +kernel)⟩
    · exact ⟨_, _, _, _, _, rfl, F15, sc_lifted, m_lifted, rfl, rfl, fun z => absurd z (by decide +kernel)⟩
    · exact ⟨_, _, _, _, _, rfl, F16, sc__law_taken, m__law_taken, rfl, rfl, fun z => absurd z (by decide +kernel)⟩
    · exact ⟨_, _, _, _, _, rfl, F17, sc__law_alike, m__law_alike, rfl, rfl, fun z => absurd z (by decide +kernel)⟩
    · exact ⟨_, _, _, _, _, rfl, F18, sc__law_drawn, m__law_drawn, rfl, rfl, fun z => absurd z (by decide +kernel)⟩
    · exact ⟨_, _, _, _, _, rfl, F19, sc__law_right, m__law_right, rfl, rfl, fun z => absurd z (by decide +kernel)⟩
    · exact ⟨_, _, _, _, _, rfl, F20, sc__law_square, m__law_square, rfl, rfl, fun z => absurd z (by decide +kernel)⟩
    · exact ⟨_, _, _, _, _, rfl, F21, sc__law_rests_rank, m__law_rests_rank, rfl, rfl, fun z => absurd z (by decide +kernel)⟩
    · exact ⟨_, _, _, _, _, rfl, F22, sc__law_digit, m__law_digit, rfl, rfl, fun z => absurd z (by decide +kernel)⟩
    · exact ⟨_, _, _, _, _, rfl, F23, sc_law, m_law, rfl, rfl, fun z => absurd z (by decide +kernel)⟩
end
theorem walk_end {l : PySem.W.OpenLaw} {q : Program} {loose : List Str} {XP : (Str → Option Value) → Heap → Prop} {YP : World → Heap → Prop} {d : DefRec} {K : Params → PySem.W.Frag} {n : Nat} (law : ∀ ns : List Int, ns.length ≤ 63 → callN Γ n 9 [(.scr ns, false)] = .ret (.bl true, false) none)
    (hr : Room (4 * n) callerA) (hm : l.most = some 63) (hdf : d.params.defaults = [])
    (hY : ∀ (w : World) (h : Heap), YP w h → (K w.params).In h)
    (A : ∀ (w : World) (mg : Str → Option Value) (fa : Addr) (h : Heap), (K w.params).In h → h.Ns mainGlobals mg → mg d.name = some (.ref fa) →
      ∃ (M : Nm) (L : Lk), Top (K w.params) mg M TT L Γ ∧ (∀ f ∈ TT.fs, FnI (K w.params) TT L Γ f) ∧ L.fa 9 = fa ∧ L.ps 9 = (["_law_script"] : List Str) ∧ (∀ (s : Shared) (v : Value), BindsTo s (L.fd 9) ⟨[v], []⟩ [("_law_script", v)]) ∧ M.tb = []) :
    PySem.W.WalkO q loose XP YP l.row.toRowW d [] (fun f vs => PySem.call f vs) := by
  refine L2.walk_of (n := 63) (k := 4 * n) (x := "_law_script") (CX := fun w => L2.CX l.prog w) (sp := fun w => spLaw (K w.params)) hm (by decide) hdf hr hY ?_ (fun _ _ a ns hl _ hS => ⟨a, ns, rfl, hS, hl, fun _ => rfl⟩) fun _ _ _ _ _ ⟨_, _, _, _, _, _, _, _, _, _, _, _, z⟩ => z
  intro w mg fa h KX G hmg
  obtain ⟨M, L, t, hf, e1, e2, hb, htb⟩ := A w mg fa h KX G hmg
  subst e1
  refine ⟨L.fd 9, hb, fun base _ _ => ?_⟩
  refine (law_ok htb rfl t hf (f := 9) (by decide) e2 (fun _ => True) fun ns hl _ => law ns hl).imp fun vs H Q E hs => ?_
  obtain ⟨a, ns, e, hS, hl, q⟩ := hs
  exact ⟨a, ns, e, hS, hl, trivial, q⟩
end PL
/-! RBase: calls; is_whole, is_number; the law's draws. (For any Γ with defs 0, 2, 5.) -/
namespace PL
open PySem
theorem callN_eq {n f : Nat} {F : FnE} {args : List (D × Bool)} (h : Γ.fn f = some F) : callN Γ (n + 1) f args = body Γ (callN Γ n) F args := by
  show (match Γ.fn f with | some F => body Γ (callN Γ n) F args | none => .err) = _
  rw [h]
theorem dfl_nil (f : Nat) : Γ.dfl f = [] := rfl
theorem r_is_whole (n : Nat) (i : Int) : callN Γ (n + 1) 0 [(.int i, false)] = .ret (.bl true, false) none := by
  rw [callN_eq rfl]
  simp [body, b_is_whole]
theorem r_is_number (n : Nat) (i a b : Int) : callN Γ (n + 2) 2 [(.int i, false), (.int a, false), (.int b, false)] = .ret (.bl (decide (a ≤ i) && decide (i ≤ b)), false) none := by
  rw [callN_eq rfl]
  by_cases h : a ≤ i <;> simp [body, b_is_number, h, r_is_whole, dfl_nil]
/-- the law's row: the script, how many are taken, two numbers -/
abbrev rwD (ns : List Int) (i x y : Int) : D := .lst [.scr ns, .int i, .int x, .int y]
theorem r_taken (n : Nat) (ns : List Int) (i x y m : Int) (hi : 0 ≤ i) (hm : 0 < m) (hl : m.natAbs.log2 < 9000) : ∃ v i' x' y', 0 ≤ i' ∧ 0 ≤ v ∧ v < m ∧ callN Γ (n + 1) 5 [(rwD ns i x y, true), (.int m, false)] = .ret (.int v, false) (some (rwD ns i' x' y')) := by
  rw [callN_eq rfl]
  have s1 : ∀ z : Int, MulOk z 48271 := fun z => mulOk_r (by omega)
  by_cases h1 : 0 < y
  · refine ⟨y % m, i, x, y / m, hi, Int.emod_nonneg _ (by omega), Int.emod_lt_of_pos _ hm, ?_⟩
    simp [body, b__law_taken, ixn, h1, hm, hl]
  · by_cases h2 : (ns.length : Int) < i + 1
    · refine ⟨(x * 48271 + 11) % 2147483647 / 7 % m, i + 1, (x * 48271 + 11) % 2147483647, y, by omega, Int.emod_nonneg _ (by omega), Int.emod_lt_of_pos _ hm, ?_⟩
      have l8 : Nat.log2 7 < 9000 := by decide
      simp [body, b__law_taken, b__law_taken_1, ixn, h1, hm, h2, s1, l8]
    · have hj : i.toNat < ns.length := by omega
      by_cases h3 : 1000000000000000000 ≤ ns[i.toNat]
      · refine ⟨ns[i.toNat] % m, i + 1, (x * 48271 + ns[i.toNat] + 11) % 2147483647, ns[i.toNat] / m, by omega, Int.emod_nonneg _ (by omega), Int.emod_lt_of_pos _ hm, ?_⟩
        simp [body, b__law_taken, b__law_taken_1, b__law_taken_2, b__law_taken_3, ixn, h1, hm, hl, h2, s1, hi, hj, show i < (ns.length : Int) by omega, h3, show i + 1 - 1 = i by omega]
      · refine ⟨ns[i.toNat] % m, i + 1, (x * 48271 + ns[i.toNat] + 11) % 2147483647, y, by omega, Int.emod_nonneg _ (by omega), Int.emod_lt_of_pos _ hm, ?_⟩
        simp [body, b__law_taken, b__law_taken_1, b__law_taken_2, b__law_taken_3, ixn, h1, hm, h2, s1, hi, hj, show i < (ns.length : Int) by omega, h3, show i + 1 - 1 = i by omega]
/-- a draw of a small number of things -/
theorem lg {z : Int} (h1 : 0 < z) (h2 : z ≤ 1000000000000000000000000) : z.natAbs.log2 < 9000 := by
  have := natAbs_log2_lt (a := z) (k := 200) (by omega) (by omega)
  omega
/-- a row that the law draws from -/
def RwD (ns : List Int) (d : D) : Prop := ∃ i x y, 0 ≤ i ∧ d = rwD ns i x y
theorem RwD.take {ns : List Int} {d : D} (h : RwD ns d) (n : Nat) {m : Int} (hm : 0 < m) (hl : m ≤ 1000000000000000000000000) : ∃ v d', RwD ns d' ∧ 0 ≤ v ∧ v < m ∧ callN Γ (n + 1) 5 [(d, true), (.int m, false)] = .ret (.int v, false) (some d') := by
  obtain ⟨i, x, y, hi, rfl⟩ := h
  obtain ⟨v, i', x', y', h1, h2, h3, h4⟩ := r_taken n ns i x y m hi hm (lg hm hl)
  exact ⟨v, _, ⟨i', x', y', h1, rfl⟩, h2, h3, h4⟩
theorem RwD.rdv {ns : List Int} {d : D} (h : RwD ns d) (env : Fm) (k : Nat) (o : Bool) (e : env[k]? = some (some (d, o))) : rdv k env = some d := by
  obtain ⟨i, x, y, hi, rfl⟩ := h
  simp only [PL.rdv]
  rw [e]
end PL
/-! RLst: rows as data; what is walked. -/
namespace PL
open PySem
/-! ### rows as data -/
abbrev vD (r : List Int) : List D := r.map .int
abbrev tD (r : List Int) : D := .tup (vD r)
abbrev lD (r : List Int) : D := .lst (vD r)
abbrev mD (m : List (List Int)) : D := .tup (m.map tD)
def Siz (x : Int) : Prop := -1000000000 ≤ x ∧ x ≤ 1000000000
structure RowsOk (m : List (List Int)) (w : Nat) : Prop where
  ne : m ≠ []
  few : m.length ≤ 8
  w1 : 1 ≤ w
  w8 : w ≤ 8
  len : ∀ r ∈ m, r.length = w
  siz : ∀ r ∈ m, ∀ x ∈ r, Siz x
theorem rgD_len (a b : Int) : (rgD a b).length = (b - a).toNat := by
  unfold rgD
  simp
theorem rgD_get {a b : Int} {i : Nat} {d : D} (h : (rgD a b)[i]? = some d) : d = .int (a + i) ∧ i < (b - a).toNat := by
  have hl := (List.getElem?_eq_some_iff.mp h).1
  rw [rgD_len] at hl
  refine ⟨?_, hl⟩
  unfold rgD at h
  rw [List.getElem?_map, List.getElem?_range hl] at h
  simpa using h.symm
/-- an item of enumerate -/
theorem enm_get {l : List D} {i : Nat} {d : D} (h : ((rgD 0 l.length).zipWith (fun a b => D.tup [a, b]) l)[i]? = some d) : ∃ x, l[i]? = some x ∧ d = .tup [.int i, x] := by
  rw [List.getElem?_zipWith] at h
  cases h1 : (rgD 0 l.length)[i]? with
  | none => rw [h1] at h; simp at h
  | some a =>
    cases h2 : l[i]? with
    | none => rw [h1, h2] at h; simp at h
    | some b =>
      rw [h1, h2] at h
      obtain ⟨rfl, _⟩ := rgD_get h1
      simp at h
      exact ⟨b, rfl, h.symm⟩
theorem enm_len (l : List D) : ((rgD 0 l.length).zipWith (fun a b => D.tup [a, b]) l).length = l.length := by
  rw [List.length_zipWith, rgD_len]
  omega
theorem zip_get {l m : List D} {i : Nat} {d : D} (h : (l.zipWith (fun a b => D.tup [a, b]) m)[i]? = some d) : ∃ x y, l[i]? = some x ∧ m[i]? = some y ∧ d = .tup [x, y] := by
  rw [List.getElem?_zipWith] at h
  cases h1 : l[i]? with
  | none => rw [h1] at h; simp at h
  | some a =>
    cases h2 : m[i]? with
    | none => rw [h1, h2] at h; simp at h
    | some b =>
      rw [h1, h2] at h
      simp at h
      exact ⟨a, b, rfl, rfl, h.symm⟩
theorem intsOf_vD (r : List Int) : intsOf (vD r) = some r := by
  induction r with
  | nil => rfl
  | cons x r ih =>
    show (intsOf (vD r)).map (x :: ·) = some (x :: r)
    rw [ih]
    rfl
end PL
/-! RTurn: turned_by, lesser. (Defs 28, 30.) -/
namespace PL
open PySem
theorem Cg.pow {p a b : Int} (h : Cg p a b) : ∀ n : Nat, Cg p (a ^ n) (b ^ n)
  | 0 => by
    simp only [Int.pow_zero]
    exact Cg.rf _ _
  | n + 1 => by
    rw [Int.pow_succ, Int.pow_succ]
    exact (h.pow n).mul h
theorem turn_loop {n : Nat} {a p : Int} (hp : 2 ≤ p) (hs : p ≤ 9973) : ∀ (k : Nat) (f w : Int) (l : Nat), l ≤ k → 0 ≤ f → f < p → 0 ≤ w → w < p → ∃ f' w', 0 ≤ f' ∧ f' < p ∧ Cg p f' (f * w ^ l) ∧
    whl Γ (callN Γ n) false (.cmpv .gt 4 (.cst (.int 0))) b_turned_by_2 [some (.int a, false), some (.int p, false), some (.int f, false), some (.int w, false), some (.int (l : Int), false)] =
      .nx [some (.int a, false), some (.int p, false), some (.int f', false), some (.int w', false), some (.int 0, false)] := by
  intro k
  induction k with
  | zero =>
    intro f w l hl f0 f1 w0 w1
    have e : l = 0 := by omega
    subst e
    refine ⟨f, w, f0, f1, by simpa using Cg.rf _ _, ?_⟩
    unfold whl
    rw [whlG_done (by simp; exact ⟨rfl, rfl⟩)]
  | succ k ih =>
    intro f w l hl f0 f1 w0 w1
    by_cases e : l = 0
    · subst e
      refine ⟨f, w, f0, f1, by simpa using Cg.rf _ _, ?_⟩
      unfold whl
      rw [whlG_done (by simp; exact ⟨rfl, rfl⟩)]
    · have q0 := Int.emod_nonneg (w * w) (show p ≠ 0 by omega)
      have q1 := Int.emod_lt_of_pos (w * w) (show 0 < p by omega)
      have m1 : MulOk w w := mulOk_l (by omega)
      have m2 : MulOk f w := mulOk_l (by omega)
      have l2 : Nat.log2 2 < 9000 := by decide
      by_cases o : l % 2 = 1
      · obtain ⟨f', w', h1, h2, h3, h4⟩ := ih (f * w % p) (w * w % p) (l / 2) (by omega) (Int.emod_nonneg _ (by omega)) (Int.emod_lt_of_pos _ (by omega)) q0 q1
        refine ⟨f', w', h1, h2, h3.tr ?_, ?_⟩
        · have e2 : f * w ^ l = f * w * (w * w) ^ (l / 2) := by
            have e3 : (w * w) ^ (l / 2) = w ^ (2 * (l / 2)) := by
              rw [Int.pow_mul]
              congr 1
              rw [Int.pow_succ, Int.pow_succ, Int.pow_zero, Int.one_mul]
            rw [e3]
            have e4 : l = 2 * (l / 2) + 1 := by omega
            have e5 : w ^ l = w ^ (2 * (l / 2) + 1) := by rw [← e4]
            rw [e5, Int.pow_succ, Int.mul_assoc, Int.mul_comm w]
          rw [e2]
          exact (Cg.emod _ _).mul ((Cg.emod _ _).pow _)
        · rw [show ((l / 2 : Nat) : Int) = (l : Int) / 2 by omega] at h4
          rw [← h4]
          unfold whl
          have ho : ((l : Int) % 2 == 1) = true := by rw [beq_iff_eq]; omega
          rw [whlG_more (by simp [show 0 < l by omega]; exact ⟨rfl, rfl⟩) (by simp [b_turned_by_2, b_turned_by_3, dpk_int, ho, m1, m2, l2, show 0 < p by omega]; rfl)]
      · obtain ⟨f', w', h1, h2, h3, h4⟩ := ih f (w * w % p) (l / 2) (by omega) f0 f1 q0 q1
        refine ⟨f', w', h1, h2, h3.tr ?_, ?_⟩
        · have e2 : f * w ^ l = f * (w * w) ^ (l / 2) := by
            have e3 : (w * w) ^ (l / 2) = w ^ (2 * (l / 2)) := by
              rw [Int.pow_mul]
              congr 1
              rw [Int.pow_succ, Int.pow_succ, Int.pow_zero, Int.one_mul]
            rw [e3]
            have e4 : l = 2 * (l / 2) := by omega
            rw [← e4]
          rw [e2]
          exact (Cg.rf _ _).mul ((Cg.emod _ _).pow _)
        · rw [show ((l / 2 : Nat) : Int) = (l : Int) / 2 by omega] at h4
          rw [← h4]
          unfold whl
          have ho : ((l : Int) % 2 == 1) = false := by rw [beq_eq_false_iff_ne]; omega
          rw [whlG_more (by simp [show 0 < l by omega]; exact ⟨rfl, rfl⟩) (by simp [b_turned_by_2, b_turned_by_3, dpk_int, ho, m1, m2, l2, show 0 < p by omega]; rfl)]
theorem r_turned_by (n : Nat) (a : Int) {p : Int} (hp : 2 ≤ p) (hs : p ≤ 9973) : callN Γ (n + 1) 30 [(.int a, false), (.int p, false)] = .ret (.int (inv p a), false) none := by
  rw [callN_eq rfl]
  obtain ⟨f', w', h1, h2, h3, h4⟩ := turn_loop (n := n) (a := a) hp hs (p - 2).toNat 1 (a % p) (p - 2).toNat (Nat.le_refl _) (by omega) (by omega) (Int.emod_nonneg _ (by omega)) (Int.emod_lt_of_pos _ (by omega))
  rw [show (((p - 2).toNat : Nat) : Int) = p - 2 by omega] at h4
  unfold inv
  by_cases e : 2 < p
  · have e2 : f' = (a % p) ^ (p - 2).toNat % p := by
      rw [Int.one_mul] at h3
      exact (h3.tr (Cg.emod _ _).sy).eq h1 h2 (Int.emod_nonneg _ (by omega)) (Int.emod_lt_of_pos _ (by omega))
    simp [body, b_turned_by, b_turned_by_1, show 0 < p by omega, h4, e, e2]
  · simp [body, b_turned_by, b_turned_by_1, show 0 < p by omega, h4, e]
/-- a line, a row of D's -/
abbrev sq (b : Bool) (l : List D) : D := if b then .tup l else .lst l
theorem r_lesser (n : Nat) {p : Int} (r s : List Int) (m : Int) (hp : 0 < p) (hl : r.length ≤ 1000) (hs : ∀ y ∈ s, MulOk m y) :
    callN Γ (n + 1) 28 [(lD r, false), (.int m, false), (lD s, false), (.int p, false)] = .ret (lD (lsr p r m s), true) none := by
  rw [callN_eq rfl]
  have h := lcl_mapA Γ (callN Γ n) (tg := .many [4, 5]) (body := .bin .mod (.bin .sub (.var 4) (.bin .mul (.var 1) (.var 5))) (.var 3)) (fun q : Int × Int => D.tup [.int q.1, .int q.2]) (fun q => D.int ((q.1 - m * q.2) % p)) (r.zip s)
    [some (lD r, false), some (.int m, false), some (lD s, false), some (.int p, false), none, none] [] (by simp [LIM]; omega) (by
      rintro ⟨x, y⟩ hq
      have my := hs y (List.of_mem_zip hq).2
      refine ⟨_, [some (lD r, false), some (.int m, false), some (lD s, false), some (.int p, false), some (.int x, false), some (.int y, false)], false, rfl, ?_, rfl⟩
      simp [my, hp])
  have e1 : (vD r).zipWith (fun a b => D.tup [a, b]) (vD s) = (r.zip s).map fun q : Int × Int => D.tup [.int q.1, .int q.2] := by
    simp only [List.zip, List.zipWith_map, List.map_zipWith]
  have e2 : (r.zip s).map (fun q : Int × Int => D.int ((q.1 - m * q.2) % p)) = vD (lsr p r m s) := by
    simp only [List.zip, lsr, List.map_zipWith]
  rw [e2] at h
  obtain ⟨s4, s5, hc⟩ := lc2t Γ (callN Γ n) (it := .zip (.var 0) (.var 2)) (i := 4) (j := 5) (c := .none) (body := .bin .mod (.bin .sub (.var 4) (.bin .mul (.var 1) (.var 5))) (.var 3)) (env := [some (lD r, false), some (.int m, false), some (lD s, false), some (.int p, false), none, none]) (e1 := [some (lD r, false), some (.int m, false), some (lD s, false), some (.int p, false), none, none]) (items := (r.zip s).map fun q : Int × Int => D.tup [.int q.1, .int q.2]) (by
    rw [← e1]
    simp) h
  simp only [List.set_cons_succ, List.set_cons_zero, List.nil_append] at hc
  have hc' : ev Γ (callN Γ n) c_lesser_1 [some (lD r, false), some (.int m, false), some (lD s, false), some (.int p, false), none, none] = _ := hc
  simp [body, b_lesser, hc']
theorem enm_zip (r : List Int) : (rgD 0 (vD r).length).zipWith (fun a b => D.tup [a, b]) (vD r) = (r.zipIdx 0).map fun q : Int × Nat => D.tup [.int (q.2 : Int), .int q.1] := by
  apply List.ext_getElem
  · simp [rgD_len]
  · intro i h1 h2
    have hr : i < r.length := by simpa using h2
    simp [rgD, List.getElem_zipIdx]
end PL
/-! RRound: turned_round. (Def 31.) -/
namespace PL
open PySem
/-- rows as lists or tuples -/
abbrev rwsD (b c : Bool) (A : List (List Int)) : D := sq b (A.map fun r => sq c (vD r))
/-- the rows worked at -/
abbrev nwD (N : List (List Int)) : D := .lst (N.map lD)
theorem sq_evi {call : Nat → List (D × Bool) → CRes} (b : Bool) (l : List D) (i : Nat) (env : Fm) (h : env[i]? = some (some (sq b l, false))) : evi Γ call (.seq (.var i)) env = .ok l env := by
  cases b <;> simp [sq] at h <;> simp [h]
theorem mod_lc {call : Nat → List (D × Bool) → CRes} (p : Int) (hp : 0 < p) (r : List Int) (c : Bool) (hl : r.length ≤ 1000) (s0 s2 s3 s4 s6 s7 s8 s9 : Sl) :
    ∃ s6', ev Γ call c_turned_round_1 [s0, some (.int p, false), s2, s3, s4, some (sq c (vD r), false), s6, s7, s8, s9] = .ok (lD (rst_ p r), true) [s0, some (.int p, false), s2, s3, s4, some (sq c (vD r), false), s6', s7, s8, s9] := by
  have h := lcl_mapA Γ call (tg := .one 6) (body := .bin .mod (.var 6) (.var 1)) (fun x : Int => D.int x) (fun x => D.int (x % p)) r
    [s0, some (.int p, false), s2, s3, s4, some (sq c (vD r), false), none, s7, s8, s9] [] (by simp [LIM]; omega) (by
      intro x hx
      refine ⟨_, [s0, some (.int p, false), s2, s3, s4, some (sq c (vD r), false), some (.int x, false), s7, s8, s9], false, rfl, ?_, rfl⟩
      simp [hp])
  have e := lc1 Γ call (it := .seq (.var 5)) (i := 6) (c := .none) (body := .bin .mod (.var 6) (.var 1)) (env := [s0, some (.int p, false), s2, s3, s4, some (sq c (vD r), false), s6, s7, s8, s9]) (sq_evi c (vD r) 5 _ rfl) h
  simp only [List.nil_append] at e
  have e2 : (r.map fun x => D.int (x % p)) = vD (rst_ p r) := by simp [rst_]
  rw [e2] at e
  exact ⟨_, e⟩
theorem ons_lc {call : Nat → List (D × Bool) → CRes} (n i : Nat) (hl : n ≤ 1000) (s0 s1 s3 s5 s6 s7 s8 s9 : Sl) :
    ∃ s7', ev Γ call c_turned_round_2 [s0, s1, some (.int n, false), s3, some (.int i, false), s5, s6, s7, s8, s9] = .ok (lD (ons n i), true) [s0, s1, some (.int n, false), s3, some (.int i, false), s5, s6, s7', s8, s9] := by
  have h := lcl_mapA Γ call (tg := .one 7) (body := .bi .int1 (.cons (.cmpv .eq 4 (.var 7)) .nil)) (fun k : Nat => D.int k) (fun k => D.int (if i = k then 1 else 0)) (List.range n)
    [s0, s1, some (.int n, false), s3, some (.int i, false), s5, s6, none, s8, s9] [] (by simp [LIM]; omega) (by
      intro k hk
      refine ⟨_, [s0, s1, some (.int n, false), s3, some (.int i, false), s5, s6, some (.int k, false), s8, s9], false, rfl, ?_, rfl⟩
      by_cases e : i = k
      · subst e
        simp [dpk_int]
      · have : ((i : Int) == (k : Int)) = false := by rw [beq_eq_false_iff_ne]; omega
        simp [dpk_int, this, e])
  have e := lc1 Γ call (it := .rng1 (.var 2)) (i := 7) (c := .none) (body := .bi .int1 (.cons (.cmpv .eq 4 (.var 7)) .nil)) (env := [s0, s1, some (.int n, false), s3, some (.int i, false), s5, s6, s7, s8, s9])
    (e1 := [s0, s1, some (.int n, false), s3, some (.int i, false), s5, s6, s7, s8, s9]) (items := (List.range n).map fun k : Nat => D.int k) (by
      rw [← rgD_nat]
      simp
      omega) h
  simp only [List.nil_append] at e
  have e2 : ((List.range n).map fun k => D.int (if i = k then 1 else 0)) = vD (ons n i) := by simp [ons]
  rw [e2] at e
  exact ⟨_, e⟩
/-- the rows at first -/
def st0 (p : Int) (n : Nat) (A : List (List Int)) : List (List Int) := (List.range n).map fun i => rst_ p (ln A i) ++ ons n i
theorem st0_ln {p : Int} {n : Nat} {A : List (List Int)} {i : Nat} (hi : i < n) : ln (st0 p n A) i = rst_ p (ln A i) ++ ons n i := by
  rw [ln_eq (by simp [st0, hi])]
  simp [st0]
theorem enm_sq {call : Nat → List (D × Bool) → CRes} (b : Bool) (l : List D) (i : Nat) (env : Fm) (h : env[i]? = some (some (sq b l, false))) : evi Γ call (.enm (.var i)) env = .ok ((rgD 0 l.length).zipWith (fun a b => D.tup [a, b]) l) env := by
  cases b <;> simp [sq] at h <;> simp [h]
theorem round_start {n : Nat} {p : Int} {A : List (List Int)} {m : Nat} {b c : Bool} (hp : 0 < p) (hn : A.length = m) (hm : m ≤ 500) (hA : ∀ i, i < m → (ln A i).length = m) :
    ∃ s4 s5 s6 s7, frl Γ (callN Γ n) false (.many [4, 5]) b_turned_round_2 ((rgD 0 (A.map fun r => sq c (vD r)).length).zipWith (fun a b => D.tup [a, b]) (A.map fun r => sq c (vD r))) [some (rwsD b c A, false), some (.int p, false), some (.int m, false), some (.lst [], true), none, none, none, none, none, none] =
      .nx [some (rwsD b c A, false), some (.int p, false), some (.int m, false), some (nwD (st0 p m A), true), s4, s5, s6, s7, none, none] := by
  obtain ⟨env', h1, s4, s5, s6, s7, h2⟩ := frl_inv Γ (callN Γ n) (io := false) (tg := .many [4, 5]) (b := b_turned_round_2) (fun k env => ∃ s4 s5 s6 s7, env = [some (rwsD b c A, false), some (.int p, false), some (.int m, false), some (nwD ((List.range k).map fun i => rst_ p (ln A i) ++ ons m i), true), s4, s5, s6, s7, none, none])
    ((rgD 0 (A.map fun r => sq c (vD r)).length).zipWith (fun a b => D.tup [a, b]) (A.map fun r => sq c (vD r))) 0 [some (rwsD b c A, false), some (.int p, false), some (.int m, false), some (.lst [], true), none, none, none, none, none, none] ⟨_, _, _, _, rfl⟩ (by
      rintro i d env hd ⟨s4, s5, s6, s7, rfl⟩
      obtain ⟨y, hy, rfl⟩ := enm_get hd
      have hi : i < A.length := by
        have := (List.getElem?_eq_some_iff.mp hy).1
        simpa using this
      have hy2 : y = sq c (vD (ln A i)) := by
        rw [List.getElem?_map, List.getElem?_eq_getElem hi] at hy
        rw [ln_eq hi]
        exact (Option.some.inj hy).symm
      subst hy2
      have al := hA i (by omega)
      obtain ⟨s6', e1⟩ := mod_lc (call := callN Γ n) p hp (ln A i) c (by omega) (some (rwsD b c A, false)) (some (.int m, false)) (some (nwD ((List.range i).map fun i => rst_ p (ln A i) ++ ons m i), true)) (some (.int i, false)) s6 s7 none none
      obtain ⟨s7', e2⟩ := ons_lc (call := callN Γ n) m i (by omega) (some (rwsD b c A, false)) (some (.int p, false)) (some (nwD ((List.range i).map fun i => rst_ p (ln A i) ++ ons m i), true)) (some (sq c (vD (ln A i)), false)) s6' s7 none none
      refine ⟨_, _, rfl, ?_, some (.int i, false), some (sq c (vD (ln A i)), false), s6', s7', rfl⟩
      have g : (rst_ p (ln A i)).length + (ons m i).length ≤ 1000000 := by
        simp only [rst_, ons, List.length_map, List.length_range]
        omega
      simp only [Nat.zero_add]
      simp [b_turned_round_2, e1, e2, LIM, g, List.range_succ, show i < 1000000 by omega])
  subst h2
  simp only [List.length_zipWith, rgD_len, List.length_map, hn] at h1 ⊢
  refine ⟨s4, s5, s6, s7, ?_⟩
  rw [h1]
  have : (0 + min ((m : Int) - 0).toNat m) = m := by omega
  rw [this]
  rfl
end PL
/-! RRoun2: turned_round, its places. (Def 31.) -/
namespace PL
open PySem
theorem nw_ix {N : List (List Int)} {i : Nat} (h : i < N.length) : (N.map lD)[i]? = some (lD (ln N i)) := by
  rw [List.getElem?_map, List.getElem?_eq_getElem h, ln_eq h]
  rfl
theorem v_ix {r : List Int} {k : Nat} (h : k < r.length) : (vD r)[k]? = some (.int (at' r k)) := by
  rw [List.getElem?_map, List.getElem?_eq_getElem h, at_eq h]
  rfl
/-- the rows in which there's something at a place -/
def smI (N : List (List Int)) (n q : Nat) : List Nat := ((List.range (n - q)).map (q + ·)).filter fun i => !(at' (ln N i) q == 0)
theorem some_lc {call : Nat → List (D × Bool) → CRes} {n q w : Nat} {N : List (List Int)} (hN : N.length = n) (hn : n ≤ 1000) (hw : ∀ i, i < n → (ln N i).length = w) (hq : q < n) (hqw : q < w) (s0 s1 s4 s5 s6 s8 s9 : Sl) :
    ∃ s4', ev Γ call c_turned_round_3 [s0, s1, some (.int n, false), some (nwD N, true), s4, s5, s6, some (.int q, false), s8, s9] = .ok (.lst ((smI N n q).map fun i : Nat => .int i), true) [s0, s1, some (.int n, false), some (nwD N, true), s4', s5, s6, some (.int q, false), s8, s9] := by
  have h := lcl_filterA Γ call (tg := .one 4) (c := .cmp .ne (.idx (.idxv 3 (.var 4)) (.var 7)) (.cst (.int 0))) (body := .var 4) (fun i : Nat => D.int i) (fun i => !(at' (ln N i) q == 0)) (fun i : Nat => D.int i) ((List.range (n - q)).map (q + ·))
    [s0, s1, some (.int n, false), some (nwD N, true), none, s5, s6, some (.int q, false), s8, s9] [] (by simp [LIM]; omega) (by
      intro i hi
      have hi : i < n := by
        simp at hi
        omega
      have x1 := nw_ix (N := N) (i := i) (by omega)
      have x2 := v_ix (r := ln N i) (k := q) (by rw [hw i hi]; exact hqw)
      have n1 := ixn_nat (n := N.length) (i := i) (by omega)
      have n2 := ixn_nat (n := (ln N i).length) (i := q) (by rw [hw i hi]; exact hqw)
      refine ⟨_, [s0, s1, some (.int n, false), some (nwD N, true), some (.int i, false), s5, s6, some (.int q, false), s8, s9], false, rfl, ?_, fun _ => rfl, fun _ => ⟨[s0, s1, some (.int n, false), some (nwD N, true), some (.int i, false), s5, s6, some (.int q, false), s8, s9], false, ?_, rfl⟩⟩
      · simp [n1, n2, dpk_int, -List.getElem?_map, x1, x2]
      · simp)
  have e := lc1 Γ call (it := .rng2 (.var 7) (.var 2)) (i := 4) (c := .some (.cmp .ne (.idx (.idxv 3 (.var 4)) (.var 7)) (.cst (.int 0)))) (body := .var 4) (env := [s0, s1, some (.int n, false), some (nwD N, true), s4, s5, s6, some (.int q, false), s8, s9])
    (e1 := [s0, s1, some (.int n, false), some (nwD N, true), s4, s5, s6, some (.int q, false), s8, s9]) (items := ((List.range (n - q)).map (q + ·)).map fun i : Nat => D.int i) (by
      have : rgD q n = ((List.range (n - q)).map (q + ·)).map fun i : Nat => D.int i := by
        unfold rgD
        rw [List.map_map, show ((n : Int) - (q : Int)).toNat = n - q by omega]
        apply List.map_congr_left
        intro i _
        simp
      rw [← this]
      simp
      omega) h
  simp only [List.nil_append] at e
  exact ⟨_, e⟩
theorem scl_lc {call : Nat → List (D × Bool) → CRes} {q : Nat} {p b : Int} {N : List (List Int)} (hp : 0 < p) (hq : q < N.length) (hl : (ln N q).length ≤ 1000) (hb : -(2 ^ 64) < b ∧ b < 2 ^ 64) (s0 s2 s4 s5 s6 s8 : Sl) :
    ∃ s6', ev Γ call c_turned_round_4 [s0, some (.int p, false), s2, some (nwD N, true), s4, s5, s6, some (.int q, false), s8, some (.int b, false)] = .ok (lD (scl p (ln N q) b), true) [s0, some (.int p, false), s2, some (nwD N, true), s4, s5, s6', some (.int q, false), s8, some (.int b, false)] := by
  have h := lcl_mapA Γ call (tg := .one 6) (body := .bin .mod (.bin .mul (.var 6) (.var 9)) (.var 1)) (fun x : Int => D.int x) (fun x => D.int (x * b % p)) (ln N q)
    [s0, some (.int p, false), s2, some (nwD N, true), s4, s5, none, some (.int q, false), s8, some (.int b, false)] [] (by simp [LIM]; omega) (by
      intro x hx
      refine ⟨_, [s0, some (.int p, false), s2, some (nwD N, true), s4, s5, some (.int x, false), some (.int q, false), s8, some (.int b, false)], false, rfl, ?_, rfl⟩
      simp [hp, mulOk_r hb])
  have x1 := nw_ix (N := N) (i := q) hq
  have n1 := ixn_nat (n := N.length) (i := q) hq
  have e := lc1 Γ call (it := .seq (.idxv 3 (.var 7))) (i := 6) (c := .none) (body := .bin .mod (.bin .mul (.var 6) (.var 9)) (.var 1)) (env := [s0, some (.int p, false), s2, some (nwD N, true), s4, s5, s6, some (.int q, false), s8, some (.int b, false)])
    (e1 := [s0, some (.int p, false), s2, some (nwD N, true), s4, s5, s6, some (.int q, false), s8, some (.int b, false)]) (items := (ln N q).map fun x : Int => D.int x) (by
      simp [n1, -List.getElem?_map, x1]) h
  simp only [List.nil_append] at e
  have e2 : ((ln N q).map fun x => D.int (x * b % p)) = vD (scl p (ln N q) b) := by simp [scl]
  rw [e2] at e
  exact ⟨_, e⟩
theorem ln_set {N : List (List Int)} {i j : Nat} {r : List Int} (h : i < N.length) : ln (N.set i r) j = if j = i then r else ln N j := by
  show (N.set i r).getD j [] = if j = i then r else N.getD j []
  rw [List.getD_eq_getElem?_getD, List.getD_eq_getElem?_getD, List.getElem?_set]
  by_cases e : i = j
  · subst e
    simp [h]
  · rw [if_neg e, if_neg (fun z => e z.symm)]
theorem nw_set (N : List (List Int)) (i : Nat) (r : List Int) : (N.map lD).set i (lD r) = (N.set i r).map lD := List.map_set.symm
/-- the others less what is to go -/
theorem others (n : Nat) {k q w : Nat} {p : Int} {N1 : List (List Int)} {P : List Int} (h2 : 2 ≤ p) (hs : p ≤ 9973) (hN : N1.length = k) (hk : k ≤ 500) (hw : ∀ i, i < k → Rl p w (ln N1 i)) (hw1 : w ≤ 1000) (hP : ln N1 q = P) (hq : q < k) (hqw : q < w) (s0 s4 s5 s6 s8 s9 : Sl) :
    ∃ N3 s4', N3.length = k ∧ (∀ i, i < k → ln N3 i = if i = q then P else lsr p (ln N1 i) (at' (ln N1 i) q) P) ∧
      frl Γ (callN Γ (n + 1)) false (.one 4) b_turned_round_6 (rgD 0 k) [s0, some (.int p, false), some (.int k, false), some (nwD N1, true), s4, s5, s6, some (.int q, false), s8, s9] =
      .nx [s0, some (.int p, false), some (.int k, false), some (nwD N3, true), s4', s5, s6, some (.int q, false), s8, s9] := by
  have pP : Rl p w P := by rw [← hP]; exact hw q hq
  obtain ⟨env', h1, N3, s4', h3, h4, h5⟩ := frl_inv Γ (callN Γ (n + 1)) (io := false) (tg := .one 4) (b := b_turned_round_6) (fun j env => ∃ M s4', M.length = k ∧ (∀ i, i < k → ln M i = if i < j ∧ i ≠ q then lsr p (ln N1 i) (at' (ln N1 i) q) P else ln N1 i) ∧ env = [s0, some (.int p, false), some (.int k, false), some (nwD M, true), s4', s5, s6, some (.int q, false), s8, s9])
    (rgD 0 k) 0 [s0, some (.int p, false), some (.int k, false), some (nwD N1, true), s4, s5, s6, some (.int q, false), s8, s9] ⟨N1, s4, hN, fun i hi => by rw [if_neg (by omega)], rfl⟩ (by
      rintro j d env hd ⟨M, s4', m1, m2, rfl⟩
      obtain ⟨rfl, hj⟩ := rgD_get hd
      have hj : j < k := by omega
      simp only [Nat.zero_add, Int.zero_add] at m2 ⊢
      by_cases e : j = q
      · subst e
        refine ⟨_, _, rfl, ?_, M, some (.int j, false), m1, fun i hi => ?_, rfl⟩
        · simp [b_turned_round_6, dpk_int]
        · rw [m2 i hi]
          by_cases c : i < j ∧ i ≠ j
          · rw [if_pos c, if_pos ⟨by omega, c.2⟩]
          · rw [if_neg c, if_neg (by omega)]
      · have mj : ln M j = ln N1 j := by rw [m2 j hj, if_neg (by omega)]
        have mq : ln M q = P := by rw [m2 q hq, if_neg (by omega), hP]
        have rj := hw j hj
        have x1 := nw_ix (N := M) (i := j) (by omega)
        have x2 := nw_ix (N := M) (i := q) (by omega)
        have x3 := v_ix (r := ln N1 j) (k := q) (by rw [rj.len]; exact hqw)
        have n1 := ixn_nat (n := M.length) (i := j) (by omega)
        have n2 := ixn_nat (n := M.length) (i := q) (by omega)
        have n3 := ixn_nat (n := (ln N1 j).length) (i := q) (by rw [rj.len]; exact hqw)
        rw [mj] at x1
        rw [mq] at x2
        have c := r_lesser n (p := p) (ln N1 j) P (at' (ln N1 j) q) (by omega) (by rw [rj.len]; omega) fun y hy => mulOk_r (by
          have := pP.lo y hy
          have := pP.hi y hy
          omega)
        have eb : ((j : Int) == (q : Int)) = false := by rw [beq_eq_false_iff_ne]; omega
        refine ⟨_, _, rfl, ?_, M.set j (lsr p (ln N1 j) (at' (ln N1 j) q) P), some (.int j, false), by simp [m1], fun i hi => ?_, rfl⟩
        · simp [b_turned_round_6, dpk_int, eb, n1, n2, n3, dfl_nil, -List.getElem?_map, x1, x2, x3, c]
        · rw [ln_set (by omega)]
          by_cases c1 : i = j
          · rw [if_pos c1, if_pos ⟨by omega, by omega⟩, c1]
          · rw [if_neg c1, m2 i hi]
            by_cases c2 : i < j ∧ i ≠ q
            · rw [if_pos c2, if_pos ⟨by omega, c2.2⟩]
            · rw [if_neg c2, if_neg (by omega)])
  refine ⟨N3, s4', h3, fun i hi => ?_, ?_⟩
  · rw [h4 i hi]
    by_cases e : i = q
    · rw [if_pos e, if_neg (by omega), e, hP]
    · rw [if_neg e, if_pos ⟨by rw [rgD_len]; omega, e⟩]
  · rw [h1, h5]
end PL
/-! RRoun3: turned_round. (Def 31.) -/
namespace PL
open PySem
theorem mem_smI {N : List (List Int)} {n q f : Nat} (h : f ∈ smI N n q) : q ≤ f ∧ f < n ∧ at' (ln N f) q ≠ 0 := by
  unfold smI at h
  obtain ⟨h1, h2⟩ := List.mem_filter.mp h
  obtain ⟨i, hi, rfl⟩ := List.mem_map.mp h1
  have := List.mem_range.mp hi
  refine ⟨by omega, by omega, ?_⟩
  simpa using h2
theorem smI_nil {N : List (List Int)} {n q : Nat} (h : smI N n q = []) (i : Nat) (h1 : q ≤ i) (h2 : i < n) : at' (ln N i) q = 0 := by
  have := List.filter_eq_nil_iff.mp h i (List.mem_map.mpr ⟨i - q, List.mem_range.mpr (by omega), by omega⟩)
  simpa using this
theorem dpk_lst (n : Nat) (l : List D) (h : ∀ x ∈ l, Dpk n x) : Dpk (n + 1) (.lst l) := h
theorem eqbs_nil (l : List D) : eqbs l [] = l.isEmpty := by
  cases l <;> simp
theorem round_place (n : Nat) {k q : Nat} {p : Int} {A N : List (List Int)} (hp : PrI p) (hs : p ≤ 9973) (hk : k ≤ 500) (h : TI p k A q N) (hq : q < k) (s0 s4 s5 s6 s8 s9 : Sl) :
    (∃ N3 s4' s6' s8' s9', TI p k A (q + 1) N3 ∧ exs Γ (callN Γ (n + 1)) false b_turned_round_4 [s0, some (.int p, false), some (.int k, false), some (nwD N, true), s4, s5, s6, some (.int q, false), s8, s9] =
      .nx [s0, some (.int p, false), some (.int k, false), some (nwD N3, true), s4', s5, s6', some (.int q, false), s8', s9']) ∨
    ((∃ x : Nat → Int, (∀ i, i < k → p ∣ dt k (ln A i) x) ∧ x q = 1) ∧ ∃ e, exs Γ (callN Γ (n + 1)) false b_turned_round_4 [s0, some (.int p, false), some (.int k, false), some (nwD N, true), s4, s5, s6, some (.int q, false), s8, s9] = .rt (.non, false) e) := by
  have h2 := hp.1
  obtain ⟨s4', e1⟩ := some_lc (call := callN Γ (n + 1)) h.len (by omega) (fun i hi => (h.rl i hi).len) hq (by omega) s0 (some (.int p, false)) s4 s5 s6 s8 s9
  have dF : Dpk 16 (.lst ((smI N k q).map fun i : Nat => D.int i)) := fun x hx => by
    obtain ⟨i, _, rfl⟩ := List.mem_map.mp hx
    exact dpk_int _ _
  have d0 : Dpk 16 (.lst []) := fun x hx => nomatch hx
  cases hF : smI N k q with
  | nil =>
    right
    refine ⟨h.stuck (by omega) hq fun i a b => smI_nil hF i a b, ?_⟩
    rw [hF] at e1 dF
    simp only [List.map_nil] at e1 dF
    exact ⟨_, by simp [b_turned_round_4, e1, LIM, d0]; rfl⟩
  | cons f rest =>
    left
    obtain ⟨f1, f2, f3⟩ := mem_smI (N := N) (n := k) (q := q) (f := f) (by rw [hF]; simp)
    rw [hF] at e1 dF
    simp only [List.map_cons] at e1 dF
    let N1 := (N.set q (ln N f)).set f (ln N q)
    have l1 : N1.length = k := by simp [N1, h.len]
    have hl := h.len
    have a1 : ∀ i, ln N1 i = if i = q then ln N f else if i = f then ln N q else ln N i := fun i => by
      show ln ((N.set q (ln N f)).set f (ln N q)) i = _
      rw [ln_set (by simp; omega), ln_set (by omega)]
      by_cases c : i = q
      · by_cases c2 : i = f
        · rw [if_pos c2, if_pos c, ← c, ← c2]
        · rw [if_neg c2, if_pos c, if_pos c]
      · rw [if_neg c, if_neg c]
    have b0 := inv_lo h2 (at' (ln N f) q)
    have b1 := inv_hi h2 (at' (ln N f) q)
    have t := r_turned_by n (at' (ln N f) q) h2 hs
    obtain ⟨b, hb⟩ : ∃ b, inv p (at' (ln N f) q) = b := ⟨_, rfl⟩
    rw [hb] at b0 b1 t
    have rP : Rl p (k + k) (scl p (ln N f) b) := scl_rl (by omega) (h.rl f f2).len
    obtain ⟨P, hP⟩ : ∃ P, scl p (ln N f) b = P := ⟨_, rfl⟩
    rw [hP] at rP
    have n1q : ln N1 q = ln N f := by rw [a1, if_pos rfl]
    have rl1 : ∀ i, i < k → Rl p (k + k) (ln N1 i) := fun i hi => by
      rw [a1]
      split
      · exact h.rl f f2
      · split
        · exact h.rl q hq
        · exact h.rl i hi
    obtain ⟨s6', e3⟩ := scl_lc (call := callN Γ (n + 1)) (q := q) (p := p) (b := b) (N := N1) (by omega) (by omega) (by rw [n1q, (h.rl f f2).len]; omega) (by omega) s0 (some (.int k, false)) s4' s5 s6 (some (.lst (.int f :: rest.map fun i : Nat => D.int i), true))
    rw [n1q, hP] at e3
    let N2 := N1.set q P
    have a2 : ∀ i, ln N2 i = if i = q then P else ln N1 i := fun i => ln_set (by omega)
    obtain ⟨N3, s4'', l3, a3, e4⟩ := others n (k := k) (q := q) (w := k + k) (p := p) (N1 := N2) (P := P) h2 hs (by simp [N2, l1]) hk (fun i hi => by
      rw [a2]
      split
      · exact rP
      · exact rl1 i hi) (by omega) (by rw [a2, if_pos rfl]) hq (by omega) s0 s4' s5 s6' (some (.lst (.int f :: rest.map fun i : Nat => D.int i), true)) (some (.int b, false))
    refine ⟨N3, s4'', s6', some (.lst (.int f :: rest.map fun i : Nat => D.int i), true), some (.int b, false), h.step hp f1 f2 f3 P (fun i => ln N1 i) (by rw [hb, hP]) a1 l3 (fun i hi => ?_), ?_⟩
    · rw [a3 i hi, a2]
      by_cases c : i = q
      · rw [if_pos c, if_pos c]
      · rw [if_neg c, if_neg c, if_neg c]
    · have x1 := nw_ix (N := N) (i := f) (by omega)
      have x2 := nw_ix (N := N) (i := q) (by omega)
      have x3 := nw_ix (N := N1) (i := q) (by omega)
      have x4 := v_ix (r := ln N f) (k := q) (by rw [(h.rl f f2).len]; omega)
      have m1 := ixn_nat (n := (N.map lD).length) (i := f) (by simp; omega)
      have m2 := ixn_nat (n := (N.map lD).length) (i := q) (by simp; omega)
      have m4 := ixn_nat (n := (vD (ln N f)).length) (i := q) (by rw [List.length_map, (h.rl f f2).len]; omega)
      have m0 : ixn ((rest.map fun i : Nat => D.int i).length + 1) 0 = some 0 := ixn_nat (i := 0) (by omega)
      rw [n1q] at x3
      have z1 : ((N.map lD).set q (lD (ln N f))).set f (lD (ln N q)) = N1.map lD := by rw [nw_set, nw_set]
      have z2 : (N1.map lD).set q (lD P) = N2.map lD := by rw [nw_set]
      have y1 : exs Γ (callN Γ (n + 1)) false b_turned_round_5 [s0, some (.int p, false), some (.int k, false), some (nwD N, true), s4', s5, s6, some (.int q, false), some (.lst (.int f :: rest.map fun i : Nat => D.int i), true), s9] =
          .nx [s0, some (.int p, false), some (.int k, false), some (nwD N3, true), s4'', s5, s6', some (.int q, false), some (.lst (.int f :: rest.map fun i : Nat => D.int i), true), some (.int b, false)] := by
        have g1 : ixn (N1.map lD).length (q : Int) = some q := ixn_nat (by simp; omega)
        simp only [nwD] at e3 e4
        have k1 : -100000000 ≤ (k : Int) ∧ (k : Int) ≤ 100000000 := by omega
        simp [b_turned_round_5, sto, m0, m1, m2, m4, dfl_nil, -List.getElem?_map, -List.map_set, -List.length_map, x1, x2, x3, x4, z1, z2, g1, t, e3, k1, show ((k:Int) ≤ 100000000) by omega, e4]
      simp [b_turned_round_4, e1, LIM, d0, dF, y1]
theorem drop_lc {call : Nat → List (D × Bool) → CRes} (n k : Nat) (N : List (List Int)) (hN : N.length ≤ 1000) (s0 s1 s4 s5 s6 s7 s8 s9 : Sl) :
    ∃ s5', ev Γ call c_turned_round_5 [s0, s1, some (.int k, false), some (nwD N, true), s4, s5, s6, s7, s8, s9] = .ok (nwD (N.map fun r => r.drop k), true) [s0, s1, some (.int k, false), some (nwD N, false), s4, s5', s6, s7, s8, s9] := by
  have h := lcl_mapA Γ call (tg := .one 5) (body := .slc (.var 5) (.some (.var 2)) .none) (fun r : List Int => lD r) (fun r => lD (r.drop k)) N
    [s0, s1, some (.int k, false), some (nwD N, false), s4, none, s6, s7, s8, s9] [] (by simp [LIM]; omega) (by
      intro r hr
      refine ⟨_, [s0, s1, some (.int k, false), some (nwD N, false), s4, some (lD r, false), s6, s7, s8, s9], true, rfl, ?_, rfl⟩
      have : cut (vD r) (some (k : Int)) none = vD (r.drop k) := by
        have c1 : ∀ L : Nat, clp L 0 (some (k : Int)) = min k L := fun L => by
          unfold clp
          dsimp only
          rw [if_neg (by omega)]
          omega
        have c2 : ∀ L : Nat, clp L L none = L := fun L => rfl
        unfold cut
        rw [c1, c2]
        simp only [List.length_map]
        rw [List.take_of_length_le (by simp)]
        rcases Nat.le_total k r.length with z | z
        · rw [Nat.min_eq_left z]
          exact List.map_drop.symm
        · rw [Nat.min_eq_right z, List.drop_eq_nil_of_le (by simp), List.drop_eq_nil_of_le z]
          rfl
      simp [this])
  have e := lc1 Γ call (it := .seq (.var 3)) (i := 5) (c := .none) (body := .slc (.var 5) (.some (.var 2)) .none) (env := [s0, s1, some (.int k, false), some (nwD N, true), s4, s5, s6, s7, s8, s9]) (e1 := [s0, s1, some (.int k, false), some (nwD N, false), s4, s5, s6, s7, s8, s9]) (items := N.map lD) (by simp) h
  simp only [List.nil_append] at e
  rw [show N.map (fun r => lD (r.drop k)) = (N.map fun r => r.drop k).map lD by rw [List.map_map]; rfl] at e
  exact ⟨_, e⟩
/-- what turned_round tells -/
theorem r_turned_round (n : Nat) {k : Nat} {p : Int} {A : List (List Int)} (b c : Bool) (hp : PrI p) (hs : p ≤ 9973) (hk : k ≤ 500) (hl : A.length = k) (hA : ∀ i, i < k → (ln A i).length = k) :
    (∃ B, Tr p k A B ∧ callN Γ (n + 2) 31 [(rwsD b c A, false), (.int p, false)] = .ret (nwD B, true) none) ∨
    ((∃ (x : Nat → Int) (q : Nat), (∀ i, i < k → p ∣ dt k (ln A i) x) ∧ q < k ∧ x q = 1) ∧ callN Γ (n + 2) 31 [(rwsD b c A, false), (.int p, false)] = .ret (.non, false) none) := by
  have h2 := hp.1
  rw [callN_eq rfl]
  obtain ⟨s4, s5, s6, s7, e1⟩ := round_start (n := n + 1) (p := p) (A := A) (m := k) (b := b) (c := c) (by omega) hl hk hA
  have t0 : TI p k A 0 (st0 p k A) := .start (by omega) hA (by simp [st0]) fun i hi => st0_ln hi
  have e2 := frl_or Γ (callN Γ (n + 1)) (io := false) (tg := .one 7) (b := b_turned_round_4)
    (fun q env => ∃ N s4 s5 s6 s7 s8 s9, TI p k A q N ∧ env = [some (rwsD b c A, false), some (.int p, false), some (.int k, false), some (nwD N, true), s4, s5, s6, s7, s8, s9])
    (fun r => (∃ (x : Nat → Int) (q : Nat), (∀ i, i < k → p ∣ dt k (ln A i) x) ∧ q < k ∧ x q = 1) ∧ ∃ e, r = .rt (.non, false) e) (rgD 0 k) 0 _ ⟨st0 p k A, s4, s5, s6, s7, none, none, t0, rfl⟩ (by
      rintro q d env hd ⟨N, s4, s5, s6, s7, s8, s9, ti, rfl⟩
      obtain ⟨rfl, hj⟩ := rgD_get hd
      have hj : q < k := by omega
      simp only [Nat.zero_add, Int.zero_add] at ti ⊢
      refine ⟨_, rfl, ?_⟩
      rcases round_place n hp hs hk ti hj (some (rwsD b c A, false)) s4 s5 s6 s8 s9 with ⟨N3, t4, t6, t8, t9, z1, z2⟩ | ⟨⟨x, z1, z2⟩, e, z3⟩
      · exact .inl ⟨_, z2, N3, t4, s5, t6, _, t8, t9, z1, rfl⟩
      · exact .inr ⟨_, _, z3, ⟨x, q, z1, hj, z2⟩, e, rfl⟩)
  have le : ∀ env : Fm, env[0]? = some (some (rwsD b c A, false)) → ev Γ (callN Γ (n + 1)) (.bi .len (.cons (.var 0) .nil)) env = .ok (.int k, false) env := fun env he => by
    cases b <;> simp [rwsD, sq] at he <;> simp [he, hl]
  have en := enm_sq (call := callN Γ (n + 1)) b (A.map fun r => sq c (vD r)) 0 [some (rwsD b c A, false), some (.int p, false), some (.int k, false), some (.lst [], true), none, none, none, none, none, none] rfl
  simp only [List.length_map] at e1 en
  rw [rgD_len] at e2
  have lz : ((k : Int) - 0).toNat = k := by omega
  rw [lz, Nat.zero_add] at e2
  have k1 : (k : Int) ≤ 100000000 := by omega
  have k2 : -100000000 ≤ (k : Int) := by omega
  rcases e2 with ⟨env', e2, N, t4, t5, t6, t7, t8, t9, ti, rfl⟩ | ⟨h1, e, e2⟩
  · left
    obtain ⟨t5', e3⟩ := drop_lc (call := callN Γ (n + 1)) n k N (by rw [ti.len]; omega) (some (rwsD b c A, false)) (some (.int p, false)) t4 t5 t6 t7 t8 t9
    refine ⟨N.map fun r => r.drop k, ti.done (by omega) (by simp [ti.len]) (fun i hi => ?_), ?_⟩
    · rw [ln_eq (by simp [ti.len, hi]), ln_eq (by rw [ti.len]; exact hi)]
      simp
    · simp only [body, b_turned_round]
      simp [le, en, LIM, -evi_enm, e1, b_turned_round_1, e2, k1, k2, b_turned_round_3, e3]
  · right
    refine ⟨h1, ?_⟩
    simp only [body, b_turned_round]
    simp [le, en, LIM, -evi_enm, e1, b_turned_round_1, e2, k1, k2]
end PL
/-! RKept: the kept lines as data. -/
namespace PL
open PySem
/-- the kept lines -/
abbrev kD (o : Nat × List Int) : D := .tup [.int (o.1 : Int), lD o.2]
abbrev kpD (K : Kp) : D := .lst (K.map kD)
abbrev plI (K : Kp) : List Int := K.map fun o => (o.1 : Int)
abbrev profD (s : Kp × List Nat) : D := .tup [.lst (s.2.map fun i : Nat => .int i), lD (srtI (plI s.1))]
theorem insI_len (a : Int) : ∀ l : List Int, (insI a l).length = l.length + 1
  | [] => rfl
  | b :: r => by
    unfold insI
    split
    · rfl
    · simp [insI_len a r]
theorem srtI_len : ∀ l : List Int, (srtI l).length = l.length
  | [] => rfl
  | a :: r => by
    show (insI a (srtI r)).length = _
    rw [insI_len, srtI_len r]
    rfl
end PL
/-! RNeeds: what is let by: rows. (Def 11.) -/
namespace PL
open PySem
theorem glb3 : Γ.glb 3 = some (.int 8) := rfl
theorem glb4 : Γ.glb 4 = some (.int 1000000000) := rfl
theorem need_row_in (n : Nat) {m : List (List Int)} {r : List Int} (i : Int) (x3 x4 : Sl) (hs : ∀ x ∈ r, Siz x) :
    ∃ x3' x4', frl Γ (callN Γ (n + 2)) false (.many [3, 4]) b_need_rows_5 ((rgD 0 (vD r).length).zipWith (fun a b => D.tup [a, b]) (vD r)) [some (mD m, false), some (.int i, false), some (tD r, false), x3, x4] = .nx [some (mD m, false), some (.int i, false), some (tD r, false), x3', x4'] := by
  obtain ⟨env', h1, x3', x4', h2⟩ := frl_inv Γ (callN Γ (n + 2)) (io := false) (tg := .many [3, 4]) (b := b_need_rows_5) (fun _ env => ∃ a b, env = [some (mD m, false), some (.int i, false), some (tD r, false), a, b])
    ((rgD 0 (vD r).length).zipWith (fun a b => D.tup [a, b]) (vD r)) 0 [some (mD m, false), some (.int i, false), some (tD r, false), x3, x4] ⟨_, _, rfl⟩ (by
      rintro j d env hd ⟨a, b, rfl⟩
      obtain ⟨y, hy, rfl⟩ := enm_get hd
      obtain ⟨z, hz, rfl⟩ : ∃ z, z ∈ r ∧ D.int z = y := by
        have := List.mem_of_getElem? hy
        simpa using this
      have q := hs z hz
      refine ⟨_, _, rfl, ?_, some (.int j, false), some (.int z, false), rfl⟩
      simp [b_need_rows_5, r_is_number, dfl_nil, glb4, q.1, q.2])
  subst h2
  exact ⟨x3', x4', h1⟩
theorem r_need_rows (n : Nat) {m : List (List Int)} {w : Nat} (h : RowsOk m w) : callN Γ (n + 3) 11 [(mD m, false)] = .ret (.non, false) none := by
  rw [callN_eq rfl]
  obtain ⟨ne, few, w1, w8, len, siz⟩ := id h
  cases m with
  | nil => exact (ne rfl).elim
  | cons r0 m =>
  obtain ⟨env', h1, x1, x2, x3, x4, h2⟩ := frl_inv Γ (callN Γ (n + 2)) (io := false) (tg := .many [1, 2]) (b := b_need_rows_2) (fun _ env => ∃ a b c d, env = [some (mD (r0 :: m), false), a, b, c, d])
    ((rgD 0 ((r0 :: m).map tD).length).zipWith (fun a b => D.tup [a, b]) ((r0 :: m).map tD)) 0 [some (mD (r0 :: m), false), none, none, none, none] ⟨_, _, _, _, rfl⟩ (by
      rintro j d env hd ⟨a, b, c, e, rfl⟩
      obtain ⟨y, hy, rfl⟩ := enm_get hd
      have hj : j < (r0 :: m).length := by
        have := (List.getElem?_eq_some_iff.mp hy).1
        simpa using this
      obtain ⟨r, hr, rfl⟩ : ∃ z, z ∈ r0 :: m ∧ tD z = y := by
        have := List.mem_of_getElem? hy
        rw [List.mem_map] at this
        exact this
      obtain ⟨x3', x4', h3⟩ := need_row_in n (m := r0 :: m) (j : Int) c e (siz r hr)
      have l0 := len r0 (by simp)
      have l1 := len r hr
      refine ⟨_, _, rfl, ?_, some (.int j, false), some (tD r, false), x3', x4', rfl⟩
      have j8 : ((j : Int) == 8) = false := by
        rw [beq_eq_false_iff_ne]
        omega
      have ww : ((w : Int) == (w : Int)) = true := by simp
      have l8 : (w : Int) ≤ 8 := by omega
      have l9 : (1 : Int) ≤ (w : Int) := by omega
      simp only [List.length_map, l1] at h3
      simp [b_need_rows_2, b_need_rows_3, b_need_rows_4, glb3, dpk_int, j8, l0, l1, l9, l8, ixn, h3])
  subst h2
  simp only [List.map_cons, List.length_cons, List.length_map] at h1
  push_cast at h1
  simp [body, b_need_rows, b_need_rows_1, LIM, Dpk, h1]
end PL
/-! RNeed2: squares, primes. (Defs 10, 13, 15.) -/
namespace PL
open PySem
theorem glb1 : Γ.glb 1 = some (.int 2) := rfl
theorem glb2 : Γ.glb 2 = some (.int 9973) := rfl
theorem r_need_square (n : Nat) {m : List (List Int)} {w : Nat} (h : RowsOk m w) (hs : m.length = w) : callN Γ (n + 1) 13 [(mD m, false)] = .ret (.non, false) none := by
  rw [callN_eq rfl]
  obtain ⟨ne, few, w1, w8, len, siz⟩ := id h
  cases m with
  | nil => exact (ne rfl).elim
  | cons r0 m =>
  have l0 := len r0 (by simp)
  rw [List.length_cons] at hs
  simp [body, b_need_square, ixn, l0, dpk_int, show ((m.length : Int) + 1 == (w : Int)) = true by rw [beq_iff_eq]; omega]
/-! ### primes -/
theorem is_prime_loop {n : Nat} {p : Int} (hp : ∀ d : Int, 2 ≤ d → d * d ≤ p → p % d ≠ 0) (hs : p < 1000000) : ∀ (k : Nat) (d : Int), 2 ≤ d → (p - d).toNat ≤ k → d ≤ p + 2 → ∃ d', whl Γ (callN Γ n) false (.cmp .le (.bin .mul (.var 1) (.var 1)) (.var 0)) b_is_prime_3 [some (.int p, false), some (.int d, false)] = .nx [some (.int p, false), some (.int d', false)] := by
  intro k
  induction k with
  | zero =>
    intro d hd hk h2
    have mo : MulOk d d := mulOk_l (by omega)
    have h3 : p ≤ d := by omega
    have h4 : d * 2 ≤ d * d := Int.mul_le_mul_of_nonneg_left hd (by omega)
    refine ⟨d, ?_⟩
    unfold whl
    rw [whlG_done (by simp [mo, show ¬ d * d ≤ p by omega]; exact ⟨rfl, rfl⟩)]
  | succ k ih =>
    intro d hd hk h2
    have mo : MulOk d d := mulOk_l (by omega)
    by_cases h3 : d * d ≤ p
    · have h4 : d * 2 ≤ d * d := Int.mul_le_mul_of_nonneg_left hd (by omega)
      obtain ⟨d', e⟩ := ih (d + 1) (by omega) (by omega) (by omega)
      refine ⟨d', ?_⟩
      rw [← e]
      unfold whl
      have hq : (p % d == 0) = false := by
        rw [beq_eq_false_iff_ne]
        exact hp d hd h3
      rw [whlG_more (by simp [mo, h3]; exact ⟨rfl, rfl⟩) (by simp [b_is_prime_3, b_is_prime_4, show 0 < d by omega, dpk_int, hq]; rfl)]
    · refine ⟨d, ?_⟩
      unfold whl
      rw [whlG_done (by simp [mo, h3]; exact ⟨rfl, rfl⟩)]
theorem r_is_prime (n : Nat) {p : Int} (h : PrI p) (hs : p < 1000000) : callN Γ (n + 1) 10 [(.int p, false)] = .ret (.bl true, false) none := by
  rw [callN_eq rfl]
  obtain ⟨d', e⟩ := is_prime_loop (n := n) h.2 hs (p - 2).toNat 2 (by omega) (by omega) (by have := h.1; omega)
  have := h.1
  simp [body, b_is_prime, b_is_prime_1, b_is_prime_2, glb1, show ¬ p < 2 by omega, e]
theorem r_need_prime (n : Nat) {p : Int} (h : PrI p) (hs : p ≤ 9973) : callN Γ (n + 3) 15 [(.int p, false)] = .ret (.non, false) none := by
  rw [callN_eq rfl]
  have := h.1
  simp [body, b_need_prime, glb1, glb2, r_is_number, dfl_nil, this, hs, r_is_prime (n + 1) h (by omega)]
end PL
/-! RNeedR: right sides. (Def 12.) -/
namespace PL
open PySem
structure RightOk (b : List Int) (n : Nat) : Prop where
  len : b.length = n
  siz : ∀ x ∈ b, Siz x
theorem r_need_right (n : Nat) {m : List (List Int)} {b : List Int} (h : RightOk b m.length) : callN Γ (n + 3) 12 [(mD m, false), (tD b, false)] = .ret (.non, false) none := by
  rw [callN_eq rfl]
  obtain ⟨env', h1, x2, x3, h2⟩ := frl_inv Γ (callN Γ (n + 2)) (io := false) (tg := .many [2, 3]) (b := b_need_right_3) (fun _ env => ∃ c d, env = [some (mD m, false), some (tD b, false), c, d])
    ((rgD 0 (vD b).length).zipWith (fun a b => D.tup [a, b]) (vD b)) 0 [some (mD m, false), some (tD b, false), none, none] ⟨_, _, rfl⟩ (by
      rintro j d env hd ⟨c, e, rfl⟩
      obtain ⟨y, hy, rfl⟩ := enm_get hd
      have hj : j < b.length := by
        have := (List.getElem?_eq_some_iff.mp hy).1
        simpa using this
      obtain ⟨z, hz, rfl⟩ : ∃ z, z ∈ b ∧ D.int z = y := by
        have := List.mem_of_getElem? hy
        simpa using this
      have q := h.siz z hz
      have l := h.len
      refine ⟨_, _, rfl, ?_, some (.int j, false), some (.int z, false), rfl⟩
      have j8 : ((j : Int) == (m.length : Int)) = false := by
        rw [beq_eq_false_iff_ne]
        omega
      simp [b_need_right_3, glb4, dpk_int, j8, r_is_number, dfl_nil, q.1, q.2])
  subst h2
  simp only [List.length_map] at h1
  have l := h.len
  simp [body, b_need_right, b_need_right_1, b_need_right_2, h1, show ¬ (b.length : Int) < (m.length : Int) by omega]
end PL
/-! RSum: sums of products. (Defs 37, 38.) -/
namespace PL
open PySem
theorem r_summed (n : Nat) (b c : Bool) (r x : List Int) (hl : r.length ≤ 100000) (hm : ∀ q ∈ r.zip x, MulOk q.1 q.2) : callN Γ (n + 1) 37 [(sq b (vD r), false), (sq c (vD x), false)] = .ret (.int (sdot r x), false) none := by
  rw [callN_eq rfl]
  obtain ⟨s, t, e⟩ := lcm2s Γ (callN Γ n) (it := .zip (.var 0) (.var 1)) (i := 2) (j := 3) (body := .bin .mul (.var 2) (.var 3)) (env := [some (sq b (vD r), false), some (sq c (vD x), false), none, none])
    (e1 := [some (sq b (vD r), false), some (sq c (vD x), false), none, none]) (r.zip x) (fun q => .int q.1) (fun q => .int q.2) (fun q => .int (q.1 * q.2)) (by
      have z : (vD r).zipWith (fun a b => D.tup [a, b]) (vD x) = (r.zip x).map fun q : Int × Int => D.tup [.int q.1, .int q.2] := by
        simp only [List.zip, List.zipWith_map, List.map_zipWith]
      rw [← z]
      cases b <;> cases c <;> simp [sq]) (by simp [LIM]; omega) (by decide) (by
      intro q hq
      exact ⟨false, by simp [hm q hq]⟩)
  have e : ev Γ (callN Γ n) c_summed_1 _ = _ := e
  have z : (r.zip x).map (fun q : Int × Int => D.int (q.1 * q.2)) = vD (List.zipWith (· * ·) r x) := by
    simp only [List.zip, List.map_zipWith]
  rw [z] at e
  have i := intsOf_vD (List.zipWith (· * ·) r x)
  have d : sdot r x = (List.zipWith (· * ·) r x).sum := rfl
  generalize List.zipWith (· * ·) r x = q at e i d
  simp [body, b_summed, e, i, d]
theorem r_times (n : Nat) (b c f : Bool) (A : List (List Int)) (x : List Int) (hA : A.length ≤ 100000) (hl : ∀ r ∈ A, r.length ≤ 100000) (hm : ∀ r ∈ A, ∀ q ∈ r.zip x, MulOk q.1 q.2) :
    callN Γ (n + 2) 38 [(sq b (A.map fun r => sq c (vD r)), false), (sq f (vD x), false)] = .ret (lD (A.map fun r => sdot r x), true) none := by
  rw [callN_eq rfl]
  obtain ⟨s, e⟩ := lcm Γ (callN Γ (n + 1)) (it := .seq (.var 0)) (i := 2) (body := .fn 37 (.cons (.var 2) (.cons (.var 1) .nil))) (env := [some (sq b (A.map fun r => sq c (vD r)), false), some (sq f (vD x), false), none])
    (e1 := [some (sq b (A.map fun r => sq c (vD r)), false), some (sq f (vD x), false), none]) A (fun r => sq c (vD r)) (fun r => .int (sdot r x)) (by cases b <;> simp [sq]) (by simp [LIM]; omega) (by
      intro r hr
      have q := r_summed n c f r x (hl r hr) (hm r hr)
      exact ⟨false, by simp [dfl_nil, q]⟩)
  have e : ev Γ (callN Γ (n + 1)) c_times_1 _ = _ := e
  have z : A.map (fun r => D.int (sdot r x)) = vD (A.map fun r => sdot r x) := by simp
  rw [z] at e
  simp [-List.map_map, body, b_times, e]
end PL
/-! RFit: what turns rows round, where there is such; fit. (Defs 31, 39.) -/
namespace PL
open PySem
theorem tr_only {p : Int} {n : Nat} {A B C : List (List Int)} (hp : 2 ≤ p) (h : Tr p n A B) (g : Tr p n A C) : B = C := by
  refine List.ext_getElem (by rw [h.len, g.len]) fun i h1 h2 => ?_
  have hi : i < n := by have := h.len; omega
  rw [← ln_eq h1, ← ln_eq h2]
  refine ext_at (h.rl i hi).len (g.rl i hi).len fun j hj => ?_
  refine Cg.eq ?_ ((h.rl i hi).at_lo j) ((h.rl i hi).at_hi (by omega) j) ((g.rl i hi).at_lo j) ((g.rl i hi).at_hi (by omega) j)
  -- B = B (A C) = (B A) C = C
  have e1 : Cg p (sm (fun k => at' (ln B i) k * dp n (at' (ln A k)) (fun l => at' (ln C l) j)) n) (sm (fun k => at' (ln B i) k * (if k = j then 1 else 0)) n) := Cg.sm fun k hk => (Cg.rf _ _).mul (g.ab k j hk hj)
  have e2 : sm (fun k => at' (ln B i) k * (if k = j then 1 else 0)) n = at' (ln B i) j := by
    rw [sm_one (j := j) hj fun k hk hne => by rw [if_neg hne, Int.mul_zero], if_pos rfl, Int.mul_one]
  rw [e2, sm_assoc n n (at' (ln B i)) (fun k => at' (ln A k)) (fun l => at' (ln C l) j)] at e1
  have e3 : Cg p (sm (fun l => sm (fun k => at' (ln B i) k * at' (ln A k) l) n * at' (ln C l) j) n) (sm (fun l => (if i = l then 1 else 0) * at' (ln C l) j) n) := Cg.sm fun l hl => (h.ba i l hi hl).mul (Cg.rf _ _)
  rw [sm_ones hi] at e3
  exact e1.sy.tr e3
theorem Tr.inj {p : Int} {n : Nat} {A B : List (List Int)} (h : Tr p n A B) : Ns_ p n fun i => at' (ln A i) := fun x hx c hc => by
  have e1 : p ∣ sm (fun k => at' (ln B c) k * dp n (at' (ln A k)) x) n := sm_dvd fun k hk => Int.dvd_mul_of_dvd_right (hx k hk)
  rw [sm_assoc n n (at' (ln B c)) (fun k => at' (ln A k)) x] at e1
  have e3 : Cg p (sm (fun l => sm (fun k => at' (ln B c) k * at' (ln A k) l) n * x l) n) (sm (fun l => (if c = l then 1 else 0) * x l) n) := Cg.sm fun l hl => (h.ba c l hc hl).mul (Cg.rf _ _)
  rw [sm_ones hc] at e3
  exact e3.dvd.1 e1
theorem r_turned (n : Nat) {k : Nat} {p : Int} {A B : List (List Int)} (b c : Bool) (hp : PrI p) (hs : p ≤ 9973) (hk : k ≤ 500) (hl : A.length = k) (hA : ∀ i, i < k → (ln A i).length = k) (h : Tr p k A B) :
    callN Γ (n + 2) 31 [(rwsD b c A, false), (.int p, false)] = .ret (nwD B, true) none := by
  have h2 := hp.1
  rcases r_turned_round n b c hp hs hk hl hA with ⟨C, hC, e⟩ | ⟨⟨x, q, h1, hq, h3⟩, _⟩
  · rw [tr_only h2 h hC]
    exact e
  · have z := h.inj x h1 q hq
    rw [h3] at z
    exact absurd z hp.ip.2
theorem r_fit (n : Nat) {p : Int} {m B : List (List Int)} {b : List Int} (hp : PrI p) (hs : p ≤ 9973) (h : RowsOk m m.length) (hb : RightOk b m.length) (hT : Tr p m.length m B) :
    callN Γ (n + 4) 39 [(mD m, false), (tD b, false), (.int p, false)] = .ret (nwD B, false) none := by
  rw [callN_eq rfl]
  have few := h.few
  have e1 := r_need_rows n h
  have e2 := r_need_right n hb
  have e3 := r_need_square (n + 2) h rfl
  have e4 := r_need_prime n hp hs
  have e5 := r_turned (n + 1) true true hp hs (by omega) rfl (fun i hi => h.len _ (ln_mem hi)) hT
  have e5 : callN Γ (n + 3) 31 [(mD m, false), (.int p, false)] = _ := e5
  have dn : Dpk 16 .non := trivial
  simp [body, b_fit, dfl_nil, e1, e2, e3, e4, e5, b_fit_1]
end PL
/-! RLift: a Lifter made, lifted. (Defs 42, 43.) -/
namespace PL
open PySem
/-- a Lifter -/
abbrev lfD (a b : D) (p : Int) (L : List Int) (T : List (List Int)) : D := .ins 7 [0, 1, 2, 3, 4] [a, b, .int p, lD L, nwD T]
theorem cf7 : ∀ f, f < 5 → Γ.cf 7 f = true := by decide
theorem cf70 : Γ.cf 7 0 = true := rfl
theorem cf71 : Γ.cf 7 1 = true := rfl
theorem cf72 : Γ.cf 7 2 = true := rfl
theorem cf73 : Γ.cf 7 3 = true := rfl
theorem cf74 : Γ.cf 7 4 = true := rfl
theorem om70 : Γ.om 7 0 = false := rfl
theorem om71 : Γ.om 7 1 = false := rfl
theorem om72 : Γ.om 7 2 = false := rfl
theorem om73 : Γ.om 7 3 = false := rfl
theorem om74 : Γ.om 7 4 = true := rfl
theorem r_linit (n : Nat) (a b : D) (f : Bool) (s : List Int) (p : Int) : callN Γ (n + 1) 42 [(.ins 7 [] [], true), (a, false), (b, false), (sq f (vD s), false), (.int p, false)] = .ret (.non, false) (some (lfD a b p s [])) := by
  rw [callN_eq rfl]
  cases f <;> simp [body, b_Lifter___init__, cf70, cf71, cf72, cf73, cf74, om70, om71, om72, om73, om74, fput, sq, LIM]
/-- what a Lifter is handed: rows, what turns them round, a side, all small -/
structure LfOk (p : Int) (n : Nat) (A B : List (List Int)) (s : List Int) : Prop extends LI p n A B s where
  hp9 : p ≤ 9973
  n8 : n ≤ 8
  sA : ∀ i, i < n → asm (at' (ln A i)) n ≤ 8000000000
  ss : ∀ i, i < n → ((at' s i).natAbs : Int) ≤ 8000000000
theorem LfOk.ms {p : Int} {n : Nat} {A B : List (List Int)} {s : List Int} (h : LfOk p n A B s) (k : Nat) : ∀ x ∈ (lrun p A B s k).1, -8000000000 ≤ x ∧ x ≤ 8000000000 := fun x hx => by
  obtain ⟨i, hi, rfl⟩ := List.getElem_of_mem hx
  rw [← at_eq hi]
  rw [h.toLI.left k] at hi
  have := h.toLI.small h.sA h.ss k i hi
  omega
theorem mem_ln {M : List (List Int)} {r : List Int} (h : r ∈ M) : ∃ i, i < M.length ∧ ln M i = r := by
  obtain ⟨i, hi, rfl⟩ := List.getElem_of_mem h
  exact ⟨i, hi, ln_eq hi⟩
/-- one step -/
theorem go_step (n k : Nat) {p : Int} {w : Nat} {A B : List (List Int)} {s : List Int} (c d e : Bool) (h : LfOk p w A B s) (s1 s2 s3 s4 s5 s6 : Sl) (hk : k ≤ 5000) :
    ∃ s3' s4' s5' s6', exs Γ (callN Γ (n + 2)) true b_Lifter_go_1 [some (lfD (rwsD c d A) (rwsD e false B) p (lrun p A B s k).1 (lrun p A B s k).2, true), s1, s2, s3, s4, s5, s6] =
      .nx [some (lfD (rwsD c d A) (rwsD e false B) p (lrun p A B s (k + 1)).1 (lrun p A B s (k + 1)).2, true), s1, s2, s3', s4', s5', s6'] := by
  have hp := h.hp.1
  have hp9 := h.hp9
  have n8 := h.n8
  have ll := h.toLI.left k
  have ms := h.ms k
  have tl := lrun_len p A B s k
  obtain ⟨L, hL⟩ : ∃ L, (lrun p A B s k).1 = L := ⟨_, rfl⟩
  obtain ⟨T, hT⟩ : ∃ T, (lrun p A B s k).2 = T := ⟨_, rfl⟩
  have eL : (lrun p A B s (k + 1)).1 = nxl p A L (dgt p B L) := by rw [← hL]; rfl
  have eT : (lrun p A B s (k + 1)).2 = T ++ [dgt p B L] := by rw [← hL, ← hT]; rfl
  rw [eL, eT, hL, hT]
  rw [hL] at ll ms
  rw [hT] at tl
  have dr := dgt_rl (by omega) h.tr.len L (p := p)
  have t1 : callN Γ (n + 2) 38 [(rwsD e false B, false), (lD L, false)] = _ := r_times n e false false B L (by rw [h.tr.len]; omega) (fun r hr => by
    obtain ⟨i, hi, rfl⟩ := mem_ln hr
    rw [(h.tr.rl i (by rw [← h.tr.len]; exact hi)).len]
    omega) (fun r hr q hq => by
    obtain ⟨i, hi, rfl⟩ := mem_ln hr
    have rl := h.tr.rl i (by rw [← h.tr.len]; exact hi)
    have := rl.lo _ (List.of_mem_zip hq).1
    have := rl.hi _ (List.of_mem_zip hq).1
    exact mulOk_l (by omega))
  have t2 : callN Γ (n + 2) 38 [(rwsD c d A, false), (lD (dgt p B L), false)] = _ := r_times n c d false A (dgt p B L) (by rw [h.hA]; omega) (fun r hr => by
    obtain ⟨i, hi, rfl⟩ := mem_ln hr
    rw [h.hr i (by rw [← h.hA]; exact hi)]
    omega) (fun r hr q hq => by
    have := dr.lo _ (List.of_mem_zip hq).2
    have := dr.hi _ (List.of_mem_zip hq).2
    exact mulOk_r (by omega))
  -- the digit
  have ed : dgt p B L = (B.map fun r => sdot r L).map fun x => x % p := by
    unfold dgt
    rw [List.map_map]
    rfl
  have bl : (B.map fun r => sdot r L).length = w := by rw [List.length_map, h.tr.len]
  have al : (A.map fun r => sdot r (dgt p B L)).length = w := by rw [List.length_map, h.hA]
  have en : nxl p A L (dgt p B L) = List.zipWith (fun a b => (a - b) / p) L (A.map fun r => sdot r (dgt p B L)) := rfl
  have dl := dr.len
  generalize B.map (fun r => sdot r L) = q at *
  obtain ⟨u4, e1⟩ := lcm Γ (callN Γ (n + 2)) (it := .seq (.fn 38 (.cons (.atr (.var 0) 1) (.cons (.atr (.var 0) 3) .nil)))) (i := 4) (body := .bin .mod (.var 4) (.atr (.var 0) 2))
    (env := [some (lfD (rwsD c d A) (rwsD e false B) p L T, true), s1, s2, s3, s4, s5, s6]) (e1 := [some (lfD (rwsD c d A) (rwsD e false B) p L T, true), s1, s2, s3, s4, s5, s6]) q (fun x => .int x) (fun x => .int (x % p)) (by
      simp [cf70, cf71, cf72, cf73, cf74, om70, om71, om72, om73, om74, fget, dfl_nil, t1]) (by simp [LIM]; omega) (by
      intro x hx
      exact ⟨false, by simp [cf70, cf71, cf72, cf73, cf74, om70, om71, om72, om73, om74, fget, show 0 < p by omega]⟩)
  have e1 : ev Γ (callN Γ (n + 2)) c_Lifter_go_1 _ = _ := e1
  have z1 : q.map (fun x => D.int (x % p)) = vD (dgt p B L) := by rw [ed]; simp
  rw [z1] at e1
  generalize dgt p B L = g at *
  generalize A.map (fun r => sdot r g) = y at *
  obtain ⟨u6, u4', e2⟩ := lcm2s Γ (callN Γ (n + 2)) (it := .zip (.atr (.var 0) 3) (.var 5)) (i := 4) (j := 6) (body := .bin .div (.bin .sub (.var 4) (.var 6)) (.atr (.var 0) 2))
    (env := [some (lfD (rwsD c d A) (rwsD e false B) p L T, true), s1, s2, some (lD g, false), u4, some (lD y, true), s6]) (e1 := [some (lfD (rwsD c d A) (rwsD e false B) p L T, true), s1, s2, some (lD g, false), u4, some (lD y, false), s6]) (L.zip y) (fun x => .int x.1) (fun x => .int x.2) (fun x => .int ((x.1 - x.2) / p)) (by
      have z : (vD L).zipWith (fun a b => D.tup [a, b]) (vD y) = (L.zip y).map fun q : Int × Int => D.tup [.int q.1, .int q.2] := by
        simp only [List.zip, List.zipWith_map, List.map_zipWith]
      rw [← z]
      simp [cf70, cf71, cf72, cf73, cf74, om70, om71, om72, om73, om74, fget]) (by simp [LIM]; omega) (by decide) (by
      intro x hx
      have lg : p.natAbs.log2 < 9000 := lg (by omega) (by omega)
      exact ⟨false, by simp [cf70, cf71, cf72, cf73, cf74, om70, om71, om72, om73, om74, fget, show 0 < p by omega, lg]⟩)
  have e2 : ev Γ (callN Γ (n + 2)) c_Lifter_go_2 _ = _ := e2
  have z2 : (L.zip y).map (fun x => D.int ((x.1 - x.2) / p)) = vD (nxl p A L g) := by
    rw [en]
    simp only [List.zip, List.map_zipWith]
  rw [z2] at e2
  have dT : T.length < LIM := by simp [LIM]; omega
  simp only [List.set_cons_succ, List.set_cons_zero] at e1 e2
  refine ⟨some (lD g, false), u6, some (lD y, false), u4', ?_⟩
  simp [b_Lifter_go_1, e1, e2, dfl_nil, cf70, cf71, cf72, cf73, cf74, om70, om71, om72, om73, om74, fget, fput, t2, dT]
/-- so many more -/
theorem r_lgo (n k j : Nat) {p : Int} {w : Nat} {A B : List (List Int)} {s : List Int} (c d e : Bool) (h : LfOk p w A B s) (hk : k + j ≤ 5000) :
    callN Γ (n + 3) 43 [(lfD (rwsD c d A) (rwsD e false B) p (lrun p A B s k).1 (lrun p A B s k).2, true), (.int j, false)] =
      .ret (.non, false) (some (lfD (rwsD c d A) (rwsD e false B) p (lrun p A B s (k + j)).1 (lrun p A B s (k + j)).2)) := by
  rw [callN_eq rfl]
  obtain ⟨env', e1, s2, s3, s4, s5, s6, h3⟩ := frl_inv Γ (callN Γ (n + 2)) (io := true) (tg := .one 2) (b := b_Lifter_go_1)
    (fun i env => ∃ s2 s3 s4 s5 s6, env = [some (lfD (rwsD c d A) (rwsD e false B) p (lrun p A B s (k + i)).1 (lrun p A B s (k + i)).2, true), some (.int j, false), s2, s3, s4, s5, s6])
    (rgD 0 j) 0 [some (lfD (rwsD c d A) (rwsD e false B) p (lrun p A B s k).1 (lrun p A B s k).2, true), some (.int j, false), none, none, none, none, none] ⟨_, _, _, _, _, rfl⟩ (by
      rintro i x env hd ⟨s2, s3, s4, s5, s6, rfl⟩
      obtain ⟨rfl, hi⟩ := rgD_get hd
      obtain ⟨t3, t4, t5, t6, z⟩ := go_step n (k + i) c d e h (some (.int j, false)) (some (.int i, false)) s3 s4 s5 s6 (by omega)
      rw [Nat.zero_add, Int.zero_add]
      exact ⟨_, _, rfl, z, _, _, _, _, _, rfl⟩)
  subst h3
  rw [rgD_len, show 0 + ((j : Int) - 0).toNat = j by omega] at e1
  simp [body, b_Lifter_go, show -100000000 ≤ (j : Int) by omega, show (j : Int) ≤ 100000000 by omega, e1]
end PL
/-! RLifd: lifted. (Def 41.) -/
namespace PL
open PySem
theorem glb9 : Γ.glb 9 = some (.int 200) := rfl
theorem asm_siz {r : List Int} : ∀ {n : Nat}, (∀ x ∈ r, Siz x) → asm (at' r) n ≤ n * 1000000000
  | 0, _ => by
    show (0 : Int) ≤ _
    omega
  | n + 1, h => by
    have ih := asm_siz (n := n) h
    show asm (at' r) n + ((at' r n).natAbs : Int) ≤ _
    have q : ((at' r n).natAbs : Int) ≤ 1000000000 := by
      by_cases z : n < r.length
      · have := h _ (List.getElem_mem z)
        rw [at_eq z]
        unfold Siz at this
        omega
      · have : at' r n = 0 := by
          show r.getD n 0 = 0
          rw [List.getD_eq_getElem?_getD, List.getElem?_eq_none (by omega)]
          rfl
        rw [this]
        decide
    push_cast
    omega
theorem siz_abs {r : List Int} (h : ∀ x ∈ r, Siz x) (i : Nat) : ((at' r i).natAbs : Int) ≤ 1000000000 := by
  have a := asm_siz (n := 0) h
  by_cases z : i < r.length
  · have := h _ (List.getElem_mem z)
    rw [at_eq z]
    unfold Siz at this
    omega
  · have : at' r i = 0 := by
      show r.getD i 0 = 0
      rw [List.getD_eq_getElem?_getD, List.getElem?_eq_none (by omega)]
      rfl
    rw [this]
    decide
theorem lfOk_of {p : Int} {m B : List (List Int)} {b : List Int} (hp : PrI p) (hs : p ≤ 9973) (h : RowsOk m m.length) (hb : RightOk b m.length) (hT : Tr p m.length m B) : LfOk p m.length m B b where
  hp := hp
  hA := rfl
  hr := fun i hi => h.len _ (ln_mem hi)
  tr := hT
  hs := hb.len
  hp9 := hs
  n8 := h.few
  sA := fun i hi => by
    have := asm_siz (n := m.length) (h.siz _ (ln_mem hi))
    have := h.few
    omega
  ss := fun i hi => by
    have := siz_abs hb.siz i
    omega
theorem r_lifted (n j : Nat) {p : Int} {m B : List (List Int)} {b : List Int} (hp : PrI p) (hs : p ≤ 9973) (h : RowsOk m m.length) (hb : RightOk b m.length) (hT : Tr p m.length m B) (hj : j ≤ 200) :
    callN Γ (n + 5) 41 [(mD m, false), (tD b, false), (.int p, false), (.int j, false)] = .ret (.lst ((lrun p m B b j).2.map tD), true) none := by
  rw [callN_eq rfl]
  have e1 := r_fit n hp hs h hb hT
  have e2 := r_is_number (n + 2) j 0 200
  have e3 : callN Γ (n + 4) 42 [(.ins 7 [] [], true), (mD m, false), (nwD B, false), (tD b, false), (.int p, false)] = _ := r_linit (n + 3) (mD m) (nwD B) true b p
  have e4 := r_lgo (n + 1) 0 j (c := true) (d := true) (e := false) (lfOk_of hp hs h hb hT) (by omega)
  rw [Nat.zero_add] at e4
  have e4 : callN Γ (n + 4) 43 [(lfD (mD m) (nwD B) p b [], true), (.int j, false)] = _ := e4
  have tl := lrun_len p m B b j
  generalize (lrun p m B b j).1 = L at e4
  generalize (lrun p m B b j).2 = T at e4 tl ⊢
  obtain ⟨u, e5⟩ := lcm Γ (callN Γ (n + 4)) (it := .seq (.atr (.var 5) 4)) (i := 6) (body := .bi .tuple (.cons (.var 6) .nil))
    (env := [some (mD m, false), some (tD b, false), some (.int p, false), some (.int j, false), some (nwD B, false), some (lfD (rwsD true true m) (rwsD false false B) p L T, true), none])
    (e1 := [some (mD m, false), some (tD b, false), some (.int p, false), some (.int j, false), some (nwD B, false), some (lfD (rwsD true true m) (rwsD false false B) p L T, false), none]) T lD tD (by
      simp [cf70, cf71, cf72, cf73, cf74, om70, om71, om72, om73, om74, fget]) (by simp [LIM]; omega) (by
      intro x hx
      exact ⟨false, by simp⟩)
  have e5 : ev Γ (callN Γ (n + 4)) c_lifted_1 _ = _ := e5
  have i0 : Γ.init 7 = some 42 := rfl
  have m0 : Γ.meth 7 0 = some 43 := rfl
  simp [body, b_lifted, b_lifted_1, dfl_nil, e1, e2, e3, glb9, i0, m0, e4, cf70, cf71, cf72, cf73, cf74, show (j : Int) ≤ 200 by omega, e5]
end PL
/-! RIx: items of rows told as data. -/
namespace PL
open PySem
@[simp high] theorem ixn_natS {n k : Nat} (h : k < n) : ixn n (k : Int) = some k := ixn_nat h
@[simp high] theorem get_ln {N : List (List Int)} {k : Nat} (h : k < N.length) : N[k]? = some (ln N k) := by
  rw [List.getElem?_eq_getElem h, ln_eq h]
@[simp high] theorem get_at {r : List Int} {k : Nat} (h : k < r.length) : r[k]? = some (at' r k) := by
  rw [List.getElem?_eq_getElem h, at_eq h]
theorem ixn_0S (n : Nat) : ixn (n + 1) 0 = some 0 := ixn_nat (i := 0) (by omega)
theorem setI_nw {N : List (List Int)} {k : Nat} {r : List Int} (h : k < N.length) : setI (N.map lD) (k : Int) (lD r) = some ((N.set k r).map lD) := by
  have x := ixn_nat (n := (N.map lD).length) (i := k) (by simpa using h)
  simp only [setI, x, Option.map_some]
  rw [List.map_set]
end PL
/-! RRest: the law's own ranks by rests. (Def 34.) -/
namespace PL
open PySem
theorem ledL_head : ∀ r : List Int, ((List.range r.length).filter fun k => !(at' r k == 0)).head? = ledL r
  | [] => rfl
  | a :: r => by
    have ih := ledL_head r
    rw [List.length_cons, List.range_succ_eq_map, List.filter_cons, at_zero, List.filter_map]
    have e : ((fun k => !(at' (a :: r) k == 0)) ∘ Nat.succ) = fun k => !(at' r k == 0) := by
      funext k
      show (!(at' (a :: r) (k + 1) == 0)) = _
      rw [at_succ]
    rw [e]
    unfold ledL
    by_cases z : a = 0
    · subst z
      simp [ih]
    · have : (a == 0) = false := by simpa using z
      simp [this, z]
/-- the places where there's something -/
def smL (w : Nat) (r : List Int) : List Nat := (List.range w).filter fun k => !(at' r k == 0)
theorem smL_none {w : Nat} {r : List Int} (hw : r.length = w) (h : ledL r = none) : smL w r = [] := by
  have := ledL_head r
  rw [h, hw] at this
  exact List.head?_eq_none_iff.mp this
theorem smL_some {w f : Nat} {r : List Int} (hw : r.length = w) (h : ledL r = some f) : ∃ t, smL w r = f :: t := by
  have := ledL_head r
  rw [h, hw] at this
  unfold smL
  cases e : (List.range w).filter fun k => !(at' r k == 0) with
  | nil =>
    rw [e] at this
    cases this
  | cons a t =>
    rw [e] at this
    cases this
    exact ⟨t, rfl⟩
/-- what turns a number round, by trying -/
def bkL (p y : Int) : List Nat := (List.range (p - 1).toNat).filter fun i => ((1 + (i : Int)) * y % p == 1)
theorem bkL_head {p y : Int} (hp : PrI p) (hy : y % p ≠ 0) : ∃ i t, bkL p y = i :: t ∧ 1 + (i : Int) = inv p y := by
  have h2 := hp.1
  have e := hp.inv_mul hy
  have l1 := inv_lo h2 y
  have l2 := inv_hi h2 y
  have ne : inv p y ≠ 0 := fun z => by
    rw [z, Int.mul_zero, Int.zero_emod] at e
    omega
  have m : (inv p y - 1).toNat ∈ bkL p y := by
    refine List.mem_filter.mpr ⟨List.mem_range.mpr (by omega), ?_⟩
    rw [show (1 + (((inv p y - 1).toNat : Nat) : Int)) = inv p y by omega, Int.mul_comm, e]
    rfl
  cases h : bkL p y with
  | nil =>
    rw [h] at m
    cases m
  | cons i t =>
    refine ⟨i, t, rfl, ?_⟩
    have mi : i ∈ bkL p y := by rw [h]; simp
    obtain ⟨m1, m2⟩ := List.mem_filter.mp mi
    have m1 := List.mem_range.mp m1
    exact hp.inv_one (by omega) (by omega) (by simpa using m2)
theorem map_at {r : List Int} {w : Nat} (h : r.length = w) (f : Int → Int) : (List.range w).map (fun k => f (at' r k)) = r.map f := by
  apply List.ext_getElem (by simp [h])
  intro i h1 h2
  simp only [List.getElem_map, List.getElem_range]
  rw [at_eq]
theorem lsr_range {p m : Int} {w : Nat} {r s : List Int} (hr : r.length = w) (hs : s.length = w) : (List.range w).map (fun k => (at' r k - m * at' s k) % p) = lsr p r m s := by
  apply List.ext_getElem (by simp [lsr, hr, hs])
  intro i h1 h2
  have : i < w := by simpa using h1
  simp only [List.getElem_map, List.getElem_range, lsr, List.getElem_zipWith]
  rw [at_eq, at_eq]
theorem rest_red (n : Nat) {p : Int} {w : Nat} (h2 : 2 ≤ p) (hs : p ≤ 9973) (hw : w ≤ 1000) (s0 s2 s3 s4 s6 s10 s11 s12 : Sl) : ∀ (K : Kp) (v : List Int) (s7 s8 s9 : Sl), KI p w K → Rl p w v →
    ∃ s7' s8' s9', frl Γ (callN Γ n) false (.many [7, 8]) b__law_rests_rank_4 (K.map kD) [s0, some (.int p, false), s2, s3, s4, some (lD v, true), s6, s7, s8, s9, s10, s11, s12] =
      .nx [s0, some (.int p, false), s2, s3, s4, some (lD (red p K v), true), s6, s7', s8', s9', s10, s11, s12]
  | [], v, s7, s8, s9, _, _ => ⟨s7, s8, s9, rfl⟩
  | o :: K, v, s7, s8, s9, hK, hv => by
    have ro := hK.rl o (by simp)
    have lo := hK.pl o (by simp)
    have n1 := ixn_nat (n := (vD v).length) (i := o.1) (by rw [List.length_map, hv.len]; exact lo)
    have x1 := v_ix (r := v) (k := o.1) (by rw [hv.len]; exact lo)
    have hv' : Rl p w (lsr p v (at' v o.1) o.2) := lsr_rl (by omega) hv.len ro.len
    obtain ⟨t9, e1⟩ := lcm Γ (callN Γ n) (it := .rng1 (.bi .len (.cons (.var 5) .nil))) (i := 9) (body := .bin .mod (.bin .sub (.idxv 5 (.var 9)) (.bin .mul (.idxv 5 (.var 7)) (.idxv 8 (.var 9)))) (.var 1))
      (env := [s0, some (.int p, false), s2, s3, s4, some (lD v, true), s6, some (.int (o.1 : Int), false), some (lD o.2, false), s9, s10, s11, s12]) (e1 := [s0, some (.int p, false), s2, s3, s4, some (lD v, false), s6, some (.int (o.1 : Int), false), some (lD o.2, false), s9, s10, s11, s12]) (List.range w) (fun k => .int (k : Int)) (fun k => .int ((at' v k - at' v o.1 * at' o.2 k) % p)) (by
        rw [← rgD_nat]
        simp [hv.len]
        omega) (by simp [LIM]; omega) (fun k hk => ⟨false, by
        have hk := List.mem_range.mp hk
        have n2 := ixn_nat (n := (vD v).length) (i := k) (by rw [List.length_map, hv.len]; exact hk)
        have x2 := v_ix (r := v) (k := k) (by rw [hv.len]; exact hk)
        have n3 := ixn_nat (n := (vD o.2).length) (i := k) (by rw [List.length_map, ro.len]; exact hk)
        have x3 := v_ix (r := o.2) (k := k) (by rw [ro.len]; exact hk)
        have mo : MulOk (at' v o.1) (at' o.2 k) := mulOk_l (by
          have := hv.at_lo o.1
          have := hv.at_hi (by omega) o.1
          omega)
        simp [n1, n2, n3, -List.getElem?_map, -List.length_map, x1, x2, x3, mo, show 0 < p by omega]⟩)
    simp only [List.set_cons_succ, List.set_cons_zero] at e1
    have el : ((List.range w).map fun k => D.int ((at' v k - at' v o.1 * at' o.2 k) % p)) = vD (lsr p v (at' v o.1) o.2) := by
      rw [← lsr_range (m := at' v o.1) (p := p) hv.len ro.len]
      simp
    rw [el] at e1
    have e1 : ev Γ (callN Γ n) c__law_rests_rank_2 _ = _ := e1
    obtain ⟨s7', s8', s9', e⟩ := rest_red n h2 hs hw s0 s2 s3 s4 s6 s10 s11 s12 K (lsr p v (at' v o.1) o.2) (some (.int (o.1 : Int), false)) (some (lD o.2, false)) t9 hK.tail hv'
    refine ⟨s7', s8', s9', ?_⟩
    rw [show red p (o :: K) v = red p K (lsr p v (at' v o.1) o.2) from rfl, ← e]
    have st : exs Γ (callN Γ n) false b__law_rests_rank_4 [s0, some (.int p, false), s2, s3, s4, some (lD v, true), s6, some (.int (o.1 : Int), false), some (lD o.2, false), s9, s10, s11, s12] =
      .nx [s0, some (.int p, false), s2, s3, s4, some (lD (lsr p v (at' v o.1) o.2), true), s6, some (.int (o.1 : Int), false), some (lD o.2, false), t9, s10, s11, s12] := by
      simp [b__law_rests_rank_4, e1]
    rw [List.map_cons]
    simp only [frl, forF]
    rw [show bnd false (.many [7, 8]) (kD o, false) [s0, some (.int p, false), s2, s3, s4, some (lD v, true), s6, s7, s8, s9, s10, s11, s12] = some [s0, some (.int p, false), s2, s3, s4, some (lD v, true), s6, some (.int (o.1 : Int), false), some (lD o.2, false), s9, s10, s11, s12] from rfl]
    dsimp only
    rw [st]
/-- what was kept ahead, less the new line -/
theorem rest_old (n : Nat) {p : Int} {w f : Nat} {r : List Nat} {d : List Int} (h2 : 2 ≤ p) (hs : p ≤ 9973) (hw : w ≤ 1000) (hf : f < w) (hd : Rl p w d) (s0 s3 s4 s6 s11 s12 : Sl) : ∀ (K : Kp) (L : List D) (od : Bool) (s7 s8 s9 : Sl), KI p w K → L.length + K.length ≤ 900 →
    ∃ od' s7' s8' s9', frl Γ (callN Γ n) false (.many [7, 8]) b__law_rests_rank_6 (K.map kD) [s0, some (.int p, false), some (.lst L, true), s3, s4, some (lD d, od), s6, s7, s8, s9, some (.lst ((f :: r).map fun i : Nat => .int i), true), s11, s12] =
      .nx [s0, some (.int p, false), some (.lst (L ++ K.map fun o => kD (o.1, lsr p o.2 (at' o.2 f) d)), true), s3, s4, some (lD d, od'), s6, s7', s8', s9', some (.lst ((f :: r).map fun i : Nat => .int i), true), s11, s12]
  | [], L, od, s7, s8, s9, _, _ => ⟨od, s7, s8, s9, by
      rw [List.map_nil, List.map_nil, List.append_nil]
      rfl⟩
  | o :: K, L, od, s7, s8, s9, hK, hl => by
    have ro := hK.rl o (by simp)
    have lo := hK.pl o (by simp)
    obtain ⟨t9, e1⟩ := lcm Γ (callN Γ n) (it := .rng1 (.bi .len (.cons (.var 5) .nil))) (i := 9) (body := .bin .mod (.bin .sub (.idxv 8 (.var 9)) (.bin .mul (.idxv 8 (.idxv 10 (.cst (.int 0)))) (.idxv 5 (.var 9)))) (.var 1))
      (env := [s0, some (.int p, false), some (.lst L, true), s3, s4, some (lD d, od), s6, some (.int (o.1 : Int), false), some (lD o.2, false), s9, some (.lst ((f :: r).map fun i : Nat => .int i), true), s11, s12])
      (e1 := [s0, some (.int p, false), some (.lst L, true), s3, s4, some (lD d, false), s6, some (.int (o.1 : Int), false), some (lD o.2, false), s9, some (.lst ((f :: r).map fun i : Nat => .int i), true), s11, s12]) (List.range w) (fun k => .int (k : Int)) (fun k => .int ((at' o.2 k - at' o.2 f * at' d k) % p)) (by
        rw [← rgD_nat]
        cases od
        · simp [hd.len]
          omega
        · simp [hd.len]
          omega) (by simp [LIM]; omega) (fun k hk => ⟨false, by
        have hk := List.mem_range.mp hk
        have n0 : ixn ((r.map fun i : Nat => D.int i).length + 1) 0 = some 0 := ixn_nat (i := 0) (by omega)
        have n1 := ixn_nat (n := (vD d).length) (i := k) (by rw [List.length_map, hd.len]; exact hk)
        have x1 := v_ix (r := d) (k := k) (by rw [hd.len]; exact hk)
        have n2 := ixn_nat (n := (vD o.2).length) (i := k) (by rw [List.length_map, ro.len]; exact hk)
        have x2 := v_ix (r := o.2) (k := k) (by rw [ro.len]; exact hk)
        have n3 := ixn_nat (n := (vD o.2).length) (i := f) (by rw [List.length_map, ro.len]; exact hf)
        have x3 := v_ix (r := o.2) (k := f) (by rw [ro.len]; exact hf)
        have mo : MulOk (at' o.2 f) (at' d k) := mulOk_l (by
          have := ro.at_lo f
          have := ro.at_hi (by omega) f
          omega)
        simp [n0, n1, n2, n3, -List.getElem?_map, -List.length_map, x1, x2, x3, mo, show 0 < p by omega]⟩)
    simp only [List.set_cons_succ, List.set_cons_zero] at e1
    have el : ((List.range w).map fun k => D.int ((at' o.2 k - at' o.2 f * at' d k) % p)) = vD (lsr p o.2 (at' o.2 f) d) := by
      rw [← lsr_range (m := at' o.2 f) (p := p) ro.len hd.len]
      simp
    rw [el] at e1
    have e1 : ev Γ (callN Γ n) c__law_rests_rank_6 _ = _ := e1
    obtain ⟨od', s7', s8', s9', e⟩ := rest_old n h2 hs hw hf hd s0 s3 s4 s6 s11 s12 K (L ++ [kD (o.1, lsr p o.2 (at' o.2 f) d)]) false (some (.int (o.1 : Int), false)) (some (lD o.2, false)) t9 hK.tail (by simp at hl ⊢; omega)
    refine ⟨od', s7', s8', s9', ?_⟩
    rw [List.append_assoc] at e
    rw [List.map_cons, List.map_cons (f := fun o : Nat × List Int => kD (o.1, lsr p o.2 (at' o.2 f) d))]
    refine Eq.trans ?_ e
    have gl : L.length < 1000000 := by simp at hl; omega
    have st : exs Γ (callN Γ n) false b__law_rests_rank_6 [s0, some (.int p, false), some (.lst L, true), s3, s4, some (lD d, od), s6, some (.int (o.1 : Int), false), some (lD o.2, false), s9, some (.lst ((f :: r).map fun i : Nat => .int i), true), s11, s12] =
      .nx [s0, some (.int p, false), some (.lst (L ++ [kD (o.1, lsr p o.2 (at' o.2 f) d)]), true), s3, s4, some (lD d, false), s6, some (.int (o.1 : Int), false), some (lD o.2, false), t9, some (.lst ((f :: r).map fun i : Nat => .int i), true), s11, s12] := by
      simp only [List.map_cons] at e1
      simp [b__law_rests_rank_6, e1, LIM, gl]
    simp only [frl, forF]
    rw [show bnd false (.many [7, 8]) (kD o, false) [s0, some (.int p, false), some (.lst L, true), s3, s4, some (lD d, od), s6, s7, s8, s9, some (.lst ((f :: r).map fun i : Nat => .int i), true), s11, s12] = some [s0, some (.int p, false), some (.lst L, true), s3, s4, some (lD d, od), s6, some (.int (o.1 : Int), false), some (lD o.2, false), s9, some (.lst ((f :: r).map fun i : Nat => .int i), true), s11, s12] from rfl]
    dsimp only
    rw [st]
end PL
/-! RRest2: the law's own ranks by rests. (Def 34.) -/
namespace PL
open PySem
theorem ixn_z (n : Nat) : ixn (n + 1) 0 = some 0 := ixn_nat (i := 0) (by omega)
theorem rest_some {call : Nat → List (D × Bool) → CRes} {w : Nat} {r : List Int} (hr : r.length = w) (hw : w ≤ 500) (s0 s1 s2 s3 s4 s6 s7 s8 s9 s10 s11 s12 : Sl) :
    ∃ u7, ev Γ call c__law_rests_rank_3 [s0, s1, s2, s3, s4, some (lD r, true), s6, s7, s8, s9, s10, s11, s12] = .ok (.lst ((smL w r).map fun i : Nat => .int i), true) [s0, s1, s2, s3, s4, some (lD r, false), s6, u7, s8, s9, s10, s11, s12] := by
  obtain ⟨u7, e3⟩ := lcf Γ call (it := .rng1 (.bi .len (.cons (.var 5) .nil))) (i := 7) (c := .cmp .ne (.idxv 5 (.var 7)) (.cst (.int 0))) (body := .var 7)
    (env := [s0, s1, s2, s3, s4, some (lD r, true), s6, s7, s8, s9, s10, s11, s12])
    (e1 := [s0, s1, s2, s3, s4, some (lD r, false), s6, s7, s8, s9, s10, s11, s12]) (List.range w) (fun k => .int (k : Int)) (fun k => .int (k : Int)) (fun k => !(at' r k == 0)) (by
      rw [← rgD_nat]
      simp [hr]
      omega) (by simp [LIM]; omega) (fun k hk => ⟨false, by
      have hk := List.mem_range.mp hk
      have n1 := ixn_nat (n := (vD r).length) (i := k) (by rw [List.length_map, hr]; exact hk)
      have x1 := v_ix (r := r) (k := k) (by rw [hr]; exact hk)
      simp [n1, -List.getElem?_map, -List.length_map, x1, dpk_int]⟩) (fun k _ _ => ⟨false, by simp⟩)
  simp only [List.set_cons_succ, List.set_cons_zero] at e3
  exact ⟨u7, e3⟩
theorem rest_back1 {call : Nat → List (D × Bool) → CRes} {z p : Int} {f : Nat} {tl : List Nat} {r : List Int} (mo : MulOk z (at' r f)) (hp : 0 < p) (n1 : ixn (vD r).length f = some f) (x1 : (vD r)[f]? = some (.int (at' r f))) (s0 s2 s3 s4 s7 s8 s9 s11 s12 : Sl) :
    ev Γ call (.cmp .eq (.bin .mod (.bin .mul (.var 6) (.idxv 5 (.idxv 10 (.cst (.int 0))))) (.var 1)) (.cst (.int 1))) [s0, some (.int p, false), s2, s3, s4, some (lD r, false), some (.int z, false), s7, s8, s9, some (.lst (.int f :: tl.map fun i : Nat => .int i), true), s11, s12] =
      .ok (.bl (z * at' r f % p == 1), false) [s0, some (.int p, false), s2, s3, s4, some (lD r, false), some (.int z, false), s7, s8, s9, some (.lst (.int f :: tl.map fun i : Nat => .int i), true), s11, s12] := by
  simp [mo, hp, ixn_z, n1, x1, -List.length_map, -List.getElem?_map, dpk_int]
theorem rest_back {call : Nat → List (D × Bool) → CRes} {p : Int} {w f : Nat} {r : List Int} {tl : List Nat} (rr : Rl p w r) (h2 : 2 ≤ p) (hs : p ≤ 9973) (f1 : f < w) (s0 s2 s3 s4 s6 s7 s8 s9 s11 s12 : Sl) :
    ∃ u6, ev Γ call c__law_rests_rank_4 [s0, some (.int p, false), s2, s3, s4, some (lD r, false), s6, s7, s8, s9, some (.lst (.int f :: tl.map fun i : Nat => .int i), true), s11, s12] =
      .ok (.lst ((bkL p (at' r f)).map fun k : Nat => .int (1 + (k : Int))), true) [s0, some (.int p, false), s2, s3, s4, some (lD r, false), u6, s7, s8, s9, some (.lst (.int f :: tl.map fun i : Nat => .int i), true), s11, s12] := by
  have n1 := ixn_nat (n := (vD r).length) (i := f) (by rw [List.length_map, rr.len]; exact f1)
  have x1 := v_ix (r := r) (k := f) (by rw [rr.len]; exact f1)
  have a0 := rr.at_lo f
  have a1 := rr.at_hi (by omega) f
  obtain ⟨u6, e4⟩ := lcf Γ call (it := .rng2 (.cst (.int 1)) (.var 1)) (i := 6) (c := .cmp .eq (.bin .mod (.bin .mul (.var 6) (.idxv 5 (.idxv 10 (.cst (.int 0))))) (.var 1)) (.cst (.int 1))) (body := .var 6)
      (env := [s0, some (.int p, false), s2, s3, s4, some (lD r, false), s6, s7, s8, s9, some (.lst (.int f :: tl.map fun i : Nat => .int i), true), s11, s12])
      (e1 := [s0, some (.int p, false), s2, s3, s4, some (lD r, false), s6, s7, s8, s9, some (.lst (.int f :: tl.map fun i : Nat => .int i), true), s11, s12]) (List.range (p - 1).toNat) (fun k => .int (1 + (k : Int))) (fun k => .int (1 + (k : Int))) (fun k => ((1 + (k : Int)) * at' r f % p == 1)) (by
        have : rgD 1 p = (List.range (p - 1).toNat).map fun (i : Nat) => D.int (1 + (i : Int)) := rfl
        rw [← this]
        have q : -100000000 ≤ (1 : Int) ∧ (1 : Int) ≤ 100000000 ∧ -100000000 ≤ p ∧ p ≤ 100000000 := by omega
        simp [-Int.reduceLE, -Int.reduceNeg, q]) (by simp [LIM]; omega) (fun k hk => ⟨false, by
        have hk := List.mem_range.mp hk
        have mo : MulOk (1 + (k : Int)) (at' r f) := mulOk_l (by omega)
        exact rest_back1 mo (by omega) n1 x1 s0 s2 s3 s4 s7 s8 s9 s11 s12⟩) (fun k _ _ => ⟨false, by simp⟩)
  simp only [List.set_cons_succ, List.set_cons_zero] at e4
  exact ⟨u6, e4⟩
theorem rest_step (n : Nat) {p : Int} {w i : Nat} {m : List (List Int)} {KL K : Kp} {nm : List Nat} {ok : Bool} (hp : PrI p) (hs : p ≤ 9973) (hw : w ≤ 500) (hK : KI p w K) (hP : KL.Perm K) (hi : i < m.length) (hv : (ln m i).length = w) (hn : nm.length ≤ 500) (s5 s6 s7 s8 s9 s10 s11 s12 : Sl) :
    ∃ KL' ok' s5' s6' s7' s8' s9' s10' s11' s12', KL'.Perm (nxt p (K, nm) i (ln m i)).1 ∧ exs Γ (callN Γ n) false b__law_rests_rank_2 [some (mD m, false), some (.int p, false), some (kpD KL, ok), some (.lst (nm.map fun i : Nat => .int i), true), some (.int i, false), s5, s6, s7, s8, s9, s10, s11, s12] =
      .nx [some (mD m, false), some (.int p, false), some (kpD KL', ok'), some (.lst ((nxt p (K, nm) i (ln m i)).2.map fun i : Nat => .int i), true), some (.int i, false), s5', s6', s7', s8', s9', s10', s11', s12'] := by
  have h2 := hp.1
  have p0 : 0 < p := by omega
  have rv := rst_rl (p := p) p0 hv
  have hKL := hK.perm hP.symm
  have rr := red_rl p0 hKL rv
  have er := red_perm p0 hKL rv hP
  have kf := hKL.few
  have xi : (m.map tD)[i]? = some (tD (ln m i)) := by
    rw [List.getElem?_map, List.getElem?_eq_getElem hi, ln_eq hi]
    rfl
  have ni := ixn_nat (n := (m.map tD).length) (i := i) (by rw [List.length_map]; exact hi)
  obtain ⟨t6, e1⟩ := lcm Γ (callN Γ n) (it := .seq (.idxv 0 (.var 4))) (i := 6) (body := .bin .mod (.var 6) (.var 1)) (env := [some (mD m, false), some (.int p, false), some (kpD KL, ok), some (.lst (nm.map fun i : Nat => .int i), true), some (.int i, false), s5, s6, s7, s8, s9, s10, s11, s12])
    (e1 := [some (mD m, false), some (.int p, false), some (kpD KL, ok), some (.lst (nm.map fun i : Nat => .int i), true), some (.int i, false), s5, s6, s7, s8, s9, s10, s11, s12]) (ln m i) (fun x => .int x) (fun x => .int (x % p)) (by
      simp [ni, -List.getElem?_map, -List.length_map, xi]) (by simp [LIM]; omega) (fun a _ => ⟨false, by simp [p0]⟩)
  simp only [List.set_cons_succ, List.set_cons_zero] at e1
  rw [show ((ln m i).map fun x => D.int (x % p)) = vD (rst_ p (ln m i)) by simp [rst_]] at e1
  have e1 : ev Γ (callN Γ n) c__law_rests_rank_1 _ = _ := e1
  obtain ⟨t7, t8, t9, e2⟩ := rest_red n (p := p) (w := w) h2 hs (by omega) (some (mD m, false)) (some (kpD KL, false)) (some (.lst (nm.map fun i : Nat => .int i), true)) (some (.int i, false)) t6 s10 s11 s12 KL (rst_ p (ln m i)) s7 s8 s9 hKL rv
  unfold nxt
  dsimp only
  rw [← er]
  generalize red p KL (rst_ p (ln m i)) = r at rr e2
  -- the places where there's something
  obtain ⟨u7, e3⟩ := rest_some (call := callN Γ n) rr.len hw (some (mD m, false)) (some (.int p, false)) (some (kpD KL, false)) (some (.lst (nm.map fun i : Nat => .int i), true)) (some (.int i, false)) t6 t7 t8 t9 s10 s11 s12
  have dF : Dpk 16 (.lst ((smL w r).map fun i : Nat => D.int i)) := fun x hx => by
    obtain ⟨i, _, rfl⟩ := List.mem_map.mp hx
    exact dpk_int _ _
  have d0 : Dpk 16 (.lst []) := fun x hx => nomatch hx
  cases hl : ledL r with
  | none =>
    rw [smL_none rr.len hl] at e3
    refine ⟨KL, false, some (lD r, false), t6, u7, t8, t9, some (.lst [], true), s11, s12, hP, ?_⟩
    cases ok <;> simp [b__law_rests_rank_2, e1, e2, b__law_rests_rank_3, e3, LIM, d0]
  | some f =>
    obtain ⟨f1, f2, _⟩ := ledL_some hl
    rw [rr.len] at f1
    obtain ⟨tl, etl⟩ := smL_some rr.len hl
    rw [etl] at e3 dF
    have zm : at' r f % p ≠ 0 := by
      rw [Int.emod_eq_of_lt (rr.at_lo f) (rr.at_hi p0 f)]
      exact f2
    obtain ⟨j, jt, ej, ei⟩ := bkL_head hp zm
    have b0 := inv_lo h2 (at' r f)
    have b1 := inv_hi h2 (at' r f)
    have n0 : ixn ((tl.map fun i : Nat => D.int i).length + 1) 0 = some 0 := ixn_nat (i := 0) (by omega)
    have n1 := ixn_nat (n := (vD r).length) (i := f) (by rw [List.length_map, rr.len]; exact f1)
    have x1 := v_ix (r := r) (k := f) (by rw [rr.len]; exact f1)
    -- what turns it round
    obtain ⟨u6, e4⟩ := rest_back (call := callN Γ n) (tl := tl) rr h2 hs f1 (some (mD m, false)) (some (kpD KL, false)) (some (.lst (nm.map fun i : Nat => .int i), true)) (some (.int i, false)) t6 u7 t8 t9 s11 s12
    rw [ej] at e4
    simp only [List.map_cons] at e4
    rw [ei] at e4
    unfold nxtK
    dsimp only
    generalize inv p (at' r f) = b at b0 b1 e4
    obtain ⟨v6, e5⟩ := lcm Γ (callN Γ n) (it := .seq (.var 5)) (i := 6) (body := .bin .mod (.bin .mul (.var 6) (.var 11)) (.var 1)) (env := [some (mD m, false), some (.int p, false), some (kpD KL, false), some (.lst (nm.map fun i : Nat => .int i), true), some (.int i, false), some (lD r, false), u6, u7, t8, t9, some (.lst ((f :: tl).map fun i : Nat => .int i), true), some (.int b, false), s12])
      (e1 := [some (mD m, false), some (.int p, false), some (kpD KL, false), some (.lst (nm.map fun i : Nat => .int i), true), some (.int i, false), some (lD r, false), u6, u7, t8, t9, some (.lst ((f :: tl).map fun i : Nat => .int i), true), some (.int b, false), s12]) r (fun x => .int x) (fun x => .int (x * b % p)) (by simp) (by rw [rr.len]; simp [LIM]; omega) (fun a _ => ⟨false, by simp [p0, mulOk_r (a := a) (b := b) (by omega)]⟩)
    simp only [List.set_cons_succ, List.set_cons_zero] at e5
    rw [show (r.map fun x => D.int (x * b % p)) = vD (scl p r b) by simp [scl]] at e5
    have e5 : ev Γ (callN Γ n) c__law_rests_rank_5 _ = _ := e5
    have rb : Rl p w (scl p r b) := scl_rl p0 rr.len
    generalize scl p r b = d at e5 rb
    obtain ⟨od, w7, w8, w9, e6⟩ := rest_old n (p := p) (w := w) (f := f) (r := tl) (d := d) h2 hs (by omega) f1 rb (some (mD m, false)) (some (.lst (nm.map fun i : Nat => .int i), true)) (some (.int i, false)) v6 (some (.int b, false)) (some (kpD KL, false)) KL [kD (f, d)] false u7 t8 t9 hKL (by simp; omega)
    refine ⟨(f, d) :: KL.map (fun o => (o.1, lsr p o.2 (at' o.2 f) d)), true, some (lD d, od), v6, w7, w8, w9, some (.lst ((f :: tl).map fun i : Nat => .int i), true), some (.int b, false), some (kpD KL, false), ?_, ?_⟩
    · refine (List.perm_append_comm (l₁ := [(f, d)])).trans ?_
      exact (hP.map _).append_right _
    · have gm : (nm.map fun i : Nat => D.int i).length < 1000000 := by simp; omega
      simp only [List.map_cons] at e3 e4 e5 e6 dF
      have y : exs Γ (callN Γ n) false b__law_rests_rank_3 [some (mD m, false), some (.int p, false), some (kpD KL, false), some (.lst (nm.map fun i : Nat => .int i), true), some (.int i, false), some (lD r, true), t6, t7, t8, t9, s10, s11, s12] =
         .nx [some (mD m, false), some (.int p, false), some (kpD ((f, d) :: KL.map (fun o => (o.1, lsr p o.2 (at' o.2 f) d))), true), some (.lst ((nm ++ [i]).map fun i : Nat => .int i), true), some (.int i, false), some (lD d, od), v6, w7, w8, w9, some (.lst (.int f :: tl.map fun i : Nat => .int i), true), some (.int b, false), some (kpD KL, false)] := by
        have ek : (KL.map (fun o => kD (o.1, lsr p o.2 (at' o.2 f) d))) = (KL.map (fun o => (o.1, lsr p o.2 (at' o.2 f) d))).map kD := by rw [List.map_map]; rfl
        rw [ek] at e6
        simp [b__law_rests_rank_3, b__law_rests_rank_5, e3, LIM, d0, dF, e4, ixn_z, e5, e6, gm, -List.length_map]
      cases ok <;> simp [b__law_rests_rank_2, e1, e2, y]
end PL
/-! RRest3: the law's own ranks by rests: the same as profile's. (Def 34.) -/
namespace PL
open PySem
theorem srtI_of_perm {l m : List Int} (h : l.Perm m) : srtI l = srtI m :=
  sorted_one ((srtI_perm l).trans (h.trans (srtI_perm m).symm)) (srtI_sorted l) (srtI_sorted m)
theorem r_rests_rank (n : Nat) {p : Int} {m : List (List Int)} {w : Nat} (hp : PrI p) (hs : p ≤ 9973) (h : RowsOk m w) :
    callN Γ (n + 1) 34 [(mD m, false), (.int p, false)] = .ret (profD (prof p m m.length), false) none := by
  have h2 := hp.1
  have hm := h.few
  have hw := h.w8
  have hA : ∀ i, i < m.length → (ln m i).length = w := fun i hi => h.len _ (ln_mem hi)
  rw [callN_eq rfl]
  obtain ⟨env', e1, KL, ok, s4, s5, s6, s7, s8, s9, s10, s11, s12, hP, h3⟩ := frl_inv Γ (callN Γ n) (io := false) (tg := .one 4) (b := b__law_rests_rank_2)
    (fun k env => ∃ KL ok s4 s5 s6 s7 s8 s9 s10 s11 s12, KL.Perm (prof p m k).1 ∧ env = [some (mD m, false), some (.int p, false), some (kpD KL, ok), some (.lst ((prof p m k).2.map fun i : Nat => .int i), true), s4, s5, s6, s7, s8, s9, s10, s11, s12])
    (rgD 0 m.length) 0 [some (mD m, false), some (.int p, false), some (.lst [], true), some (.lst [], true), none, none, none, none, none, none, none, none, none] ⟨[], true, none, none, none, none, none, none, none, none, none, .nil, rfl⟩ (by
      rintro i d env hd ⟨KL, ok, s4, s5, s6, s7, s8, s9, s10, s11, s12, hP, rfl⟩
      obtain ⟨rfl, hi⟩ := rgD_get hd
      have hi : i < m.length := by omega
      have pi : PI p w m i (prof p m i) := PI.of hp fun j hj => hA j (by omega)
      simp only [Nat.zero_add, Int.zero_add] at hP ⊢
      obtain ⟨KL', ok', t5, t6, t7, t8, t9, t10, t11, t12, hP', e⟩ := rest_step n (p := p) (w := w) (i := i) (m := m) (KL := KL) (K := (prof p m i).1) (nm := (prof p m i).2) (ok := ok) hp hs (by omega) pi.ki hP hi (hA i hi) (by rw [pi.num]; have := pi.few; omega) s5 s6 s7 s8 s9 s10 s11 s12
      exact ⟨_, _, rfl, e, KL', ok', _, t5, t6, t7, t8, t9, t10, t11, t12, hP', rfl⟩)
  subst h3
  rw [rgD_len, show 0 + ((m.length : Int) - 0).toNat = m.length by omega] at e1 hP
  have pi : PI p w m m.length (prof p m m.length) := PI.of hp fun j hj => hA j hj
  have kf := pi.few
  generalize prof p m m.length = s at e1 pi kf hP
  have kl : KL.length = s.1.length := hP.length_eq
  obtain ⟨t7, t5, e2⟩ := lcm2 Γ (callN Γ n) (it := .seq (.var 2)) (i := 7) (j := 5) (body := .var 7) (env := [some (mD m, false), some (.int p, false), some (kpD KL, ok), some (.lst (s.2.map fun i : Nat => .int i), false), s4, s5, s6, s7, s8, s9, s10, s11, s12])
    (e1 := [some (mD m, false), some (.int p, false), some (kpD KL, false), some (.lst (s.2.map fun i : Nat => .int i), false), s4, s5, s6, s7, s8, s9, s10, s11, s12]) KL (fun o => .int (o.1 : Int)) (fun o => lD o.2) (fun o => .int (o.1 : Int)) (by cases ok <;> simp) (by simp [LIM]; omega) (by decide) (by
      intro o ho
      exact ⟨false, [some (mD m, false), some (.int p, false), some (kpD KL, false), some (.lst (s.2.map fun i : Nat => .int i), false), s4, some (lD o.2, false), s6, some (.int (o.1 : Int), false), s8, s9, s10, s11, s12], by simp, rfl⟩)
  have e2 : ev Γ (callN Γ n) c__law_rests_rank_7 _ = _ := e2
  simp only [List.set_cons_succ, List.set_cons_zero] at e2
  rw [show (KL.map fun o : Nat × List Int => D.int (o.1 : Int)) = vD (plI KL) by simp [plI]] at e2
  have z := intsOf_vD (plI KL)
  have z2 : (plI KL).length < 64 := by simp [plI]; omega
  have z3 : srtI (plI KL) = srtI (plI s.1) := srtI_of_perm (hP.map _)
  show _ = CRes.ret (.tup [.lst (s.2.map fun i : Nat => .int i), lD (srtI (plI s.1))], false) none
  rw [← z3]
  generalize plI KL = q at e2 z z2 ⊢
  have q1 : -100000000 ≤ (m.length : Int) := by omega
  have q2 : (m.length : Int) ≤ 100000000 := by omega
  simp [body, b__law_rests_rank, b__law_rests_rank_1, LIM, q1, q2, e1, e2, z, z2]
end PL
/-! RDraw: what the law draws: rows, right sides. (Defs 17, 18, 19.) -/
namespace PL
open PySem
theorem pick (l : List Int) {v : Int} (h0 : 0 ≤ v) (h1 : v < l.length) : ∃ j, ixn (vD l).length v = some j ∧ ∃ x ∈ l, (vD l)[j]? = some (.int x) := by
  refine ⟨v.toNat, ?_, l[v.toNat]'(by omega), List.getElem_mem _, ?_⟩
  · simp only [ixn, List.length_map]
    rw [if_pos h0, if_pos h1]
  · simp
theorem ints_of {xs : List D} {P : Int → Prop} (h : ∀ x ∈ xs, ∃ v, x = .int v ∧ P v) : ∃ r : List Int, xs = vD r ∧ ∀ x ∈ r, P x := by
  induction xs with
  | nil => exact ⟨[], rfl, by simp⟩
  | cons x xs ih =>
    obtain ⟨r, e1, e3⟩ := ih fun y hy => h y (by simp [hy])
    obtain ⟨v, rfl, v1⟩ := h x (by simp)
    subst e1
    refine ⟨v :: r, rfl, ?_⟩
    intro y hy
    rcases List.mem_cons.mp hy with rfl | hy
    · exact v1
    · exact e3 y hy
/-- the slots of the drawing -/
abbrev dE (d : D) (many wide far : Int) (s4 s5 s6 s7 s8 s9 s10 : Sl) : Fm := [some (d, true), some (.int many, false), some (.int wide, false), some (.int far, false), s4, s5, s6, s7, s8, s9, s10]
theorem drawn_c1 (n : Nat) {ns : List Int} {d : D} (hd : RwD ns d) (many far : Int) (wide : Nat) (s4 s5 s6 s7 s8 s9 s10 : Sl) (hw : wide ≤ 8) (hf : 1 ≤ far) (hf2 : far ≤ 1000000001) :
    ∃ d' r s7', RwD ns d' ∧ r.length = wide ∧ (∀ x ∈ r, -(far - 1) ≤ x ∧ x ≤ far - 1) ∧ ev Γ (callN Γ (n + 1)) c__law_drawn_1 (dE d many wide far s4 s5 s6 s7 s8 s9 s10) = .ok (lD r, true) (dE d' many wide far s4 s5 s6 s7' s8 s9 s10) := by
  unfold c__law_drawn_1
  obtain ⟨xs, env', h1, h2, ⟨d', hd', h3⟩, h4⟩ := lcl_inv Γ (callN Γ (n + 1)) (tg := .one 7) (body := .bin .add (.bin .sub (.fnv 5 0 (.cons (.bin .sub (.bin .mul (.cst (.int 2)) (.var 3)) (.cst (.int 1))) .nil)) (.var 3)) (.cst (.int 1)))
    (fun env => ∃ d, RwD ns d ∧ env = dE d many wide far s4 s5 s6 none s8 s9 s10) (fun x => ∃ v, x = .int v ∧ (-(far - 1) ≤ v ∧ v ≤ far - 1))
    (rgD 0 wide) (dE d many wide far s4 s5 s6 none s8 s9 s10) [] (by rw [rgD_len]; simp; unfold LIM; omega) ⟨d, hd, rfl⟩ (by
      rintro x hx env ⟨d, hd, rfl⟩
      obtain ⟨v, d', hd', v0, v1, e⟩ := hd.take n (m := 2 * far - 1) (by omega) (by omega)
      refine ⟨dE d many wide far s4 s5 s6 (some (x, false)) s8 s9 s10, dE d' many wide far s4 s5 s6 (some (x, false)) s8 s9 s10, .int (v - far + 1), false, rfl, ?_, ⟨d', hd', rfl⟩, v - far + 1, rfl, by omega, by omega⟩
      have r := hd.rdv (dE d many wide far s4 s5 s6 (some (x, false)) s8 s9 s10) 0 true rfl
      have mo : MulOk 2 far := mulOk_l (by omega)
      simp [r, mo, dfl_nil, e, -rdv])
  obtain ⟨r, rfl, e3⟩ := ints_of h4
  subst h3
  refine ⟨d', r, fz1 (dE d many wide far s4 s5 s6 s7 s8 s9 s10) 7, hd', by rw [rgD_len, List.length_map] at h2; omega, e3, ?_⟩
  rw [lc1 Γ _ (e1 := dE d many wide far s4 s5 s6 s7 s8 s9 s10) (items := rgD 0 wide) (by simp; omega) h1]
  rfl
theorem drawn_c2 (n : Nat) {ns : List Int} {d : D} (hd : RwD ns d) (many wide far : Int) (r : List Int) (B : Int) (s4 s5 s7 s8 s9 s10 : Sl) (hw : r.length ≤ 8) (hb : ∀ x ∈ r, -B ≤ x ∧ x ≤ B) :
    ∃ d' r' s9', RwD ns d' ∧ r'.length = r.length ∧ (∀ x ∈ r', -B ≤ x ∧ x ≤ B) ∧ ev Γ (callN Γ (n + 1)) c__law_drawn_2 (dE d many wide far s4 s5 (some (lD r, true)) s7 s8 s9 s10) = .ok (lD r', true) (dE d' many wide far s4 s5 (some (lD r, false)) s7 s8 s9' s10) := by
  unfold c__law_drawn_2
  obtain ⟨xs, env', h1, h2, ⟨d', hd', h3⟩, h4⟩ := lcl_inv Γ (callN Γ (n + 1)) (tg := .one 9) (body := .bin .mul (.var 9) (.bi .int1 (.cons (.cmp .eq (.fnv 5 0 (.cons (.cst (.int 2)) .nil)) (.cst (.int 0))) .nil)))
    (fun env => ∃ d, RwD ns d ∧ env = dE d many wide far s4 s5 (some (lD r, false)) s7 s8 none s10) (fun x => ∃ v, x = .int v ∧ (-B ≤ v ∧ v ≤ B))
    (vD r) (dE d many wide far s4 s5 (some (lD r, false)) s7 s8 none s10) [] (by simp; unfold LIM; omega) ⟨d, hd, rfl⟩ (by
      rintro x hx env ⟨d, hd, rfl⟩
      obtain ⟨z, hz, rfl⟩ : ∃ z, z ∈ r ∧ D.int z = x := by simpa using hx
      have hB := hb z hz
      obtain ⟨v, d', hd', v0, v1, e⟩ := hd.take n (m := 2) (by omega) (by omega)
      refine ⟨dE d many wide far s4 s5 (some (lD r, false)) s7 s8 (some (.int z, false)) s10, dE d' many wide far s4 s5 (some (lD r, false)) s7 s8 (some (.int z, false)) s10, .int (z * (if v = 0 then 1 else 0)), false, rfl, ?_, ⟨d', hd', rfl⟩, _, rfl, ?_⟩
      · have rr := hd.rdv (dE d many wide far s4 s5 (some (lD r, false)) s7 s8 (some (.int z, false)) s10) 0 true rfl
        by_cases q : v = 0
        · subst q
          have mo : MulOk z 1 := mulOk_r (by omega)
          simp [rr, mo, dfl_nil, e, -rdv, dpk_int]
        · have mo : MulOk z 0 := mulOk_r (by omega)
          have q' : (v == 0) = false := by simpa using q
          simp [rr, mo, dfl_nil, e, -rdv, dpk_int, q, q']
      · by_cases q : v = 0
        · rw [if_pos q]
          omega
        · rw [if_neg q]
          omega)
  obtain ⟨r', rfl, e3⟩ := ints_of h4
  subst h3
  refine ⟨d', r', fz1 (dE d many wide far s4 s5 (some (lD r, false)) s7 s8 s9 s10) 9, hd', by simpa using h2, e3, ?_⟩
  rw [lc1 Γ _ (e1 := dE d many wide far s4 s5 (some (lD r, false)) s7 s8 s9 s10) (items := vD r) (by simp) h1]
  rfl
theorem getV {r : List Int} {p : Nat} (h : p < r.length) : ixn (vD r).length (p : Int) = some p ∧ (vD r)[p]? = some (.int r[p]) := by
  constructor
  · simp only [ixn, List.length_map]
    rw [if_pos (by omega), if_pos (by omega)]
    simp
  · simp [h]
theorem drawn_c3 (n : Nat) {ns : List Int} {d : D} (hd : RwD ns d) (many far : Int) (wide : Nat) (r1 r2 : List Int) (B w : Int) (s4 s5 s6 s7 : Sl) (hw : wide ≤ 8) (h1 : r1.length = wide) (h2 : r2.length = wide) (b1 : ∀ x ∈ r1, -B ≤ x ∧ x ≤ B) (b2 : ∀ x ∈ r2, -B ≤ x ∧ x ≤ B) (hwy : w = 1 ∨ w = 2) (hB0 : 0 ≤ B) (hB : B ≤ 1000000000) :
    ∃ d' r' s7', RwD ns d' ∧ r'.length = wide ∧ (∀ x ∈ r', -(4 * B) ≤ x ∧ x ≤ 4 * B) ∧ ev Γ (callN Γ (n + 1)) c__law_drawn_3 (dE d many wide far s4 s5 s6 s7 (some (.int w, false)) (some (tD r1, false)) (some (tD r2, false))) = .ok (lD r', true) (dE d' many wide far s4 s5 s6 s7' (some (.int w, false)) (some (tD r1, false)) (some (tD r2, false))) := by
  unfold c__law_drawn_3
  obtain ⟨xs, env', g1, g2, ⟨d', hd', g3⟩, g4⟩ := lcl_inv Γ (callN Γ (n + 1)) (tg := .one 7) (body := .bin .add (.bin .mul (.idxv 9 (.var 7)) (.bin .sub (.var 8) (.cst (.int 3)))) (.bin .mul (.idxv 10 (.var 7)) (.fnv 5 0 (.cons (.cst (.int 3)) .nil))))
    (fun env => ∃ d, RwD ns d ∧ env = dE d many wide far s4 s5 s6 none (some (.int w, false)) (some (tD r1, false)) (some (tD r2, false))) (fun x => ∃ v, x = .int v ∧ (-(4 * B) ≤ v ∧ v ≤ 4 * B))
    (rgD 0 wide) (dE d many wide far s4 s5 s6 none (some (.int w, false)) (some (tD r1, false)) (some (tD r2, false))) [] (by rw [rgD_len]; simp; unfold LIM; omega) ⟨d, hd, rfl⟩ (by
      rintro x hx env ⟨d, hd, rfl⟩
      obtain ⟨p, hp⟩ := List.mem_iff_getElem?.mp hx
      obtain ⟨rfl, hp2⟩ := rgD_get hp
      rw [Int.zero_add]
      have p1 : p < r1.length := by omega
      have p2 : p < r2.length := by omega
      obtain ⟨v, d', hd', v0, v1, e⟩ := hd.take n (m := 3) (by omega) (by omega)
      have q1 := b1 _ (List.getElem_mem p1)
      have q2 := b2 _ (List.getElem_mem p2)
      generalize hx1 : r1[p] = x1 at q1
      generalize hx2 : r2[p] = x2 at q2
      refine ⟨dE d many wide far s4 s5 s6 (some (.int p, false)) (some (.int w, false)) (some (tD r1, false)) (some (tD r2, false)), dE d' many wide far s4 s5 s6 (some (.int p, false)) (some (.int w, false)) (some (tD r1, false)) (some (tD r2, false)), .int (x1 * (w - 3) + x2 * v), false, rfl, ?_, ⟨d', hd', rfl⟩, _, rfl, ?_⟩
      · have m1 : MulOk x1 (w - 3) := mulOk_r (by omega)
        have m2 : MulOk x2 v := mulOk_r (by omega)
        obtain ⟨i1, i2⟩ := getV p1
        obtain ⟨i3, i4⟩ := getV p2
        rw [List.length_map] at i1 i3
        rw [hx1] at i2
        rw [hx2] at i4
        simp only [List.getElem?_map] at i2 i4
        obtain ⟨i0, x0, y0, _, rfl⟩ := hd
        simp [m1, m2, dfl_nil, e, i1, i2, i3, i4]
      · have hv : v = 0 ∨ v = 1 ∨ v = 2 := by omega
        rcases hwy with rfl | rfl <;> rcases hv with rfl | rfl | rfl <;> omega)
  obtain ⟨r', rfl, e3⟩ := ints_of g4
  subst g3
  refine ⟨d', r', fz1 (dE d many wide far s4 s5 s6 s7 (some (.int w, false)) (some (tD r1, false)) (some (tD r2, false))) 7, hd', by rw [rgD_len, List.length_map] at g2; omega, e3, ?_⟩
  rw [lc1 Γ _ (e1 := dE d many wide far s4 s5 s6 s7 (some (.int w, false)) (some (tD r1, false)) (some (tD r2, false))) (items := rgD 0 wide) (by simp; omega) g1]
  rfl
/-- how great the numbers may be behind k rows -/
def Bd (far : Int) (k : Nat) : Int := if far < 1000000 then 1000 * 4 ^ k else 1000000000
theorem pow4 : ∀ k : Nat, k ≤ 7 → (4 : Int) ^ k ≤ 16384 ∧ 1 ≤ (4 : Int) ^ k := by
  intro k hk
  have : k = 0 ∨ k = 1 ∨ k = 2 ∨ k = 3 ∨ k = 4 ∨ k = 5 ∨ k = 6 ∨ k = 7 := by omega
  rcases this with h | h | h | h | h | h | h | h <;> subst h <;> decide
theorem Bd_step {far : Int} {k : Nat} : Bd far k ≤ Bd far (k + 1) ∧ 0 ≤ Bd far k := by
  unfold Bd
  split
  · have : (0 : Int) ≤ 4 ^ k := Int.le_of_lt (Int.pow_pos (by omega))
    rw [Int.pow_succ]
    omega
  · omega
theorem Bd_le {far : Int} {k : Nat} (h : k ≤ 8) : Bd far k ≤ 1000000000 := by
  unfold Bd
  split
  · have : k = 0 ∨ k = 1 ∨ k = 2 ∨ k = 3 ∨ k = 4 ∨ k = 5 ∨ k = 6 ∨ k = 7 ∨ k = 8 := by omega
    rcases this with h | h | h | h | h | h | h | h | h <;> subst h <;> decide
  · omega
structure RowsB (rows : List (List Int)) (wide : Nat) (B : Int) : Prop where
  len : ∀ r ∈ rows, r.length = wide
  siz : ∀ r ∈ rows, ∀ x ∈ r, -B ≤ x ∧ x ≤ B
theorem dpk_rows (n : Nat) (rows : List (List Int)) : Dpk (n + 2) (.lst (rows.map tD)) := by
  simp [Dpk, dpk_int]
theorem drawn_4 (n : Nat) {d : D} (many wide far : Int) (rows : List (List Int)) (r : List Int) (s5 s7 s8 s9 s10 : Sl) (hr : rows.length ≤ 8) :
    exs Γ (callN Γ n) true b__law_drawn_4 (dE d many wide far (some (.lst (rows.map tD), true)) s5 (some (lD r, true)) s7 s8 s9 s10) = .nx (dE d many wide far (some (.lst ((rows ++ [r]).map tD), true)) s5 (some (lD r, false)) s7 s8 s9 s10) := by
  simp [b__law_drawn_4, LIM, show rows.length < 1000000 by omega]
theorem drawn_3 (n : Nat) {ns : List Int} {d : D} (hd : RwD ns d) (many far : Int) (wide k : Nat) (rows : List (List Int)) (r : List Int) (w : Int) (s7 s9 s10 : Sl) (hw : wide ≤ 8) (hk : k ≤ 7) (hl : rows.length = k) (hr : RowsB rows wide (Bd far k)) (h1 : r.length = wide) (h2 : ∀ x ∈ r, -Bd far (k + 1) ≤ x ∧ x ≤ Bd far (k + 1)) :
    ∃ d' r' s6' s7' s9' s10', RwD ns d' ∧ r'.length = wide ∧ (∀ x ∈ r', -Bd far (k + 1) ≤ x ∧ x ≤ Bd far (k + 1)) ∧
      exs Γ (callN Γ (n + 1)) true b__law_drawn_3 (dE d many wide far (some (.lst (rows.map tD), true)) (some (.int k, false)) (some (lD r, true)) s7 (some (.int w, false)) s9 s10) =
        .nx (dE d' many wide far (some (.lst ((rows ++ [r']).map tD), true)) (some (.int k, false)) s6' s7' (some (.int w, false)) s9' s10') := by
  by_cases hc : (w = 1 ∨ w = 2) ∧ rows ≠ [] ∧ far < 1000000
  · obtain ⟨hwy, hne, hf⟩ := hc
    have hk0 : 0 < k := by
      cases rows with
      | nil => exact (hne rfl).elim
      | cons _ _ => simp at hl; omega
    obtain ⟨v1, d1, hd1, a0, a1, e1⟩ := hd.take n (m := k) (by omega) (by omega)
    obtain ⟨v2, d2, hd2, b0, b1, e2⟩ := hd1.take n (m := k) (by omega) (by omega)
    have i1 : v1.toNat < rows.length := by omega
    have i2 : v2.toNat < rows.length := by omega
    have m1 := List.getElem_mem i1
    have m2 := List.getElem_mem i2
    have B := Bd_step (far := far) (k := k)
    have B4 : 4 * Bd far k = Bd far (k + 1) := by
      unfold Bd
      rw [if_pos hf, if_pos hf, Int.pow_succ]
      omega
    have B9 : Bd far k ≤ 1000000000 := by
      unfold Bd
      rw [if_pos hf]
      have := pow4 k hk
      omega
    obtain ⟨d3, r', s7', hd3, l3, s3, e3⟩ := drawn_c3 n hd2 many far wide rows[v1.toNat] rows[v2.toNat] (Bd far k) w (some (.lst (rows.map tD), true)) (some (.int k, false)) (some (lD r, true)) s7 hw (hr.len _ m1) (hr.len _ m2) (hr.siz _ m1) (hr.siz _ m2) hwy B.2 B9
    rw [B4] at s3
    have e4 := drawn_4 (n + 1) (d := d3) many wide far rows r' (some (.int k, false)) s7' (some (.int w, false)) (some (tD rows[v1.toNat], false)) (some (tD rows[v2.toNat], false)) (by omega)
    refine ⟨d3, r', some (lD r', false), s7', some (tD rows[v1.toNat], false), some (tD rows[v2.toNat], false), hd3, l3, s3, ?_⟩
    have dp := dpk_rows 14 rows
    have ne : eqbs (rows.map tD) [] = false := by
      cases rows with
      | nil => exact (hne rfl).elim
      | cons _ _ => simp
    have g1 : ixn rows.length v1 = some v1.toNat := by
      simp only [ixn]
      rw [if_pos a0, if_pos (by omega)]
    have g2 : ixn rows.length v2 = some v2.toNat := by
      simp only [ixn]
      rw [if_pos b0, if_pos (by omega)]
    have t1 : rows[v1.toNat]? = some rows[v1.toNat] := List.getElem?_eq_getElem i1
    have t2 : rows[v2.toNat]? = some rows[v2.toNat] := List.getElem?_eq_getElem i2
    have cw : ((1 == w) || (2 == w)) = true := by
      rcases hwy with h | h <;> subst h <;> rfl
    generalize rows[v1.toNat] = q1 at e3 e4 t1
    generalize rows[v2.toNat] = q2 at e3 e4 t2
    obtain ⟨z1, z2, z3, _, rfl⟩ := hd
    obtain ⟨z4, z5, z6, _, rfl⟩ := hd1
    simp [b__law_drawn_3, LIM, cw, ne, dpk_int, Dpk, hf, e1, e2, e3, e4, dfl_nil, g1, g2, t1, t2]
  · have e4 := drawn_4 (n + 1) (d := d) many wide far rows r (some (.int k, false)) s7 (some (.int w, false)) s9 s10 (by omega)
    refine ⟨d, r, some (lD r, false), s7, s9, s10, hd, h1, h2, ?_⟩
    obtain ⟨z1, z2, z3, _, rfl⟩ := hd
    by_cases cw : w = 1 ∨ w = 2
    · have cw' : ((1 == w) || (2 == w)) = true := by
        rcases cw with h | h <;> subst h <;> rfl
      have dp := dpk_rows 14 rows
      cases rows with
      | nil => simp [b__law_drawn_3, LIM, cw', dpk_int, Dpk, e4] at e4 ⊢; exact e4
      | cons q rows =>
        have hf : ¬ far < 1000000 := fun h => hc ⟨cw, by simp, h⟩
        simp [b__law_drawn_3, LIM, cw', dpk_int, Dpk, hf] at e4 ⊢
        exact e4
    · have cw' : ((1 == w) || (2 == w)) = false := by
        simp only [not_or] at cw
        simp [Ne.symm cw.1, Ne.symm cw.2]
      simp [b__law_drawn_3, LIM, cw'] at e4 ⊢
      exact e4
/-- how far the drawn numbers go -/
def FarOk (far : Int) : Prop := 1 ≤ far ∧ (far ≤ 1000 ∨ far = 1000000001)
theorem far_Bd {far : Int} (h : FarOk far) (k : Nat) : far - 1 ≤ Bd far k := by
  unfold Bd
  have : (0 : Int) < 4 ^ k := Int.pow_pos (by omega)
  obtain ⟨h1, h2⟩ := h
  split <;> omega
theorem drawn_2 (n : Nat) {ns : List Int} {d : D} (hd : RwD ns d) (many far : Int) (wide k : Nat) (rows : List (List Int)) (s6 s7 s8 s9 s10 : Sl) (hf : FarOk far) (hw : wide ≤ 8) (hk : k ≤ 7) (hl : rows.length = k) (hr : RowsB rows wide (Bd far k)) :
    ∃ d' r' s6' s7' s8' s9' s10', RwD ns d' ∧ r'.length = wide ∧ (∀ x ∈ r', -Bd far (k + 1) ≤ x ∧ x ≤ Bd far (k + 1)) ∧
      exs Γ (callN Γ (n + 1)) true b__law_drawn_2 (dE d many wide far (some (.lst (rows.map tD), true)) (some (.int k, false)) s6 s7 s8 s9 s10) =
        .nx (dE d' many wide far (some (.lst ((rows ++ [r']).map tD), true)) (some (.int k, false)) s6' s7' s8' s9' s10') := by
  obtain ⟨d1, r, s7', hd1, l1, b1, e1⟩ := drawn_c1 n hd many far wide (some (.lst (rows.map tD), true)) (some (.int k, false)) s6 s7 s8 s9 s10 hw hf.1 (by have := hf.2; omega)
  obtain ⟨w, d2, hd2, w0, w1, e2⟩ := hd1.take n (m := 8) (by omega) (by omega)
  have fb := far_Bd hf (k + 1)
  have b1' : ∀ x ∈ r, -Bd far (k + 1) ≤ x ∧ x ≤ Bd far (k + 1) := fun x hx => by
    have := b1 x hx
    omega
  by_cases hw0 : w = 0
  · obtain ⟨d3, r', s9', hd3, l3, b3, e3⟩ := drawn_c2 n hd2 many wide far r (Bd far (k + 1)) (some (.lst (rows.map tD), true)) (some (.int k, false)) s7' (some (.int w, false)) s9 s10 (by omega) b1'
    obtain ⟨d4, r4, s64, s74, s94, s104, hd4, l4, b4, e4⟩ := drawn_3 n hd3 many far wide k rows r' w s7' s9' s10 hw hk hl hr (by omega) b3
    refine ⟨d4, r4, s64, s74, some (.int w, false), s94, s104, hd4, l4, b4, ?_⟩
    rw [← e4]
    subst hw0
    obtain ⟨z1, z2, z3, _, rfl⟩ := hd1
    simp [b__law_drawn_2, e1, e2, e3, dfl_nil, dpk_int]
  · obtain ⟨d4, r4, s64, s74, s94, s104, hd4, l4, b4, e4⟩ := drawn_3 n hd2 many far wide k rows r w s7' s9 s10 hw hk hl hr l1 b1'
    refine ⟨d4, r4, s64, s74, some (.int w, false), s94, s104, hd4, l4, b4, ?_⟩
    rw [← e4]
    have hq : (w == 0) = false := by simpa using hw0
    obtain ⟨z1, z2, z3, _, rfl⟩ := hd1
    simp [b__law_drawn_2, e1, e2, dfl_nil, dpk_int, hq]
theorem RowsB.snoc {rows : List (List Int)} {wide : Nat} {B C : Int} {r : List Int} (h : RowsB rows wide B) (hB : B ≤ C) (h1 : r.length = wide) (h2 : ∀ x ∈ r, -C ≤ x ∧ x ≤ C) : RowsB (rows ++ [r]) wide C where
  len := fun q hq => by
    rcases List.mem_append.mp hq with z | z
    · exact h.len q z
    · simp at z
      subst z
      exact h1
  siz := fun q hq x hx => by
    rcases List.mem_append.mp hq with z | z
    · have := h.siz q z x hx
      omega
    · simp at z
      subst z
      exact h2 x hx
theorem r_drawn (n : Nat) {ns : List Int} {d : D} (hd : RwD ns d) (many wide : Nat) (hm1 : 1 ≤ many) (hm : many ≤ 8) (hw1 : 1 ≤ wide) (hw : wide ≤ 8) :
    ∃ m d', RwD ns d' ∧ RowsOk m wide ∧ m.length = many ∧ callN Γ (n + 2) 18 [(d, true), (.int many, false), (.int wide, false)] = .ret (mD m, false) (some d') := by
  rw [callN_eq rfl]
  obtain ⟨v, d1, hd1, v0, v1, e1⟩ := hd.take n (m := 4) (by omega) (by omega)
  obtain ⟨j, far, hj, hfar, hf⟩ : ∃ j far, ixn 4 v = some j ∧ [D.int 3, D.int 10, D.int 1000, D.int 1000000001][j]? = some (.int far) ∧ FarOk far := by
    refine ⟨v.toNat, ?_⟩
    have : v = 0 ∨ v = 1 ∨ v = 2 ∨ v = 3 := by omega
    rcases this with z | z | z | z <;> subst z <;> simp [ixn, FarOk]
  obtain ⟨env', h1, d', s5, s6, s7, s8, s9, s10, rows, hd', h2, hl, hr⟩ := frl_inv Γ (callN Γ (n + 1)) (io := true) (tg := .one 5) (b := b__law_drawn_2)
    (fun k env => ∃ d s5 s6 s7 s8 s9 s10 rows, RwD ns d ∧ env = dE d many wide far (some (.lst (rows.map tD), true)) s5 s6 s7 s8 s9 s10 ∧ rows.length = k ∧ RowsB rows wide (Bd far k))
    (rgD 0 many) 0 (dE d1 many wide far (some (.lst [], true)) none none none none none none) ⟨d1, none, none, none, none, none, none, [], hd1, rfl, rfl, ⟨by simp, by simp⟩⟩ (by
      rintro i x env hx ⟨d, s5, s6, s7, s8, s9, s10, rows, hd, rfl, hl, hr⟩
      obtain ⟨rfl, hi⟩ := rgD_get hx
      rw [Int.zero_add]
      rw [Nat.zero_add] at hl hr ⊢
      obtain ⟨d', r', s6', s7', s8', s9', s10', hd', l1, b1, e⟩ := drawn_2 n hd many far wide i rows s6 s7 s8 s9 s10 hf hw (by omega) hl hr
      exact ⟨dE d many wide far (some (.lst (rows.map tD), true)) (some (.int i, false)) s6 s7 s8 s9 s10, _, rfl, e, d', _, s6', s7', s8', s9', s10', rows ++ [r'], hd', rfl, by simp [hl], hr.snoc Bd_step.1 l1 b1⟩)
  rw [Nat.zero_add, rgD_len] at hl hr
  have hlen : rows.length = many := by omega
  refine ⟨rows, d', hd', ⟨?_, by omega, hw1, hw, hr.len, fun r hrm x hx => ?_⟩, hlen, ?_⟩
  · intro z
    subst z
    simp at hlen
    omega
  · have := hr.siz r hrm x hx
    have := Bd_le (far := far) (k := ((many : Int) - 0).toNat) (by omega)
    unfold Siz
    omega
  · subst h2
    obtain ⟨z1, z2, z3, _, rfl⟩ := hd
    obtain ⟨z4, z5, z6, _, rfl⟩ := hd'
    simp [body, b__law_drawn, b__law_drawn_1, LIM, e1, dfl_nil, hj, hfar, h1, show (many : Int) ≤ 100000000 by omega, show -100000000 ≤ (many : Int) by omega]
end PL
/-! RRight: right sides. (Def 19.) -/
namespace PL
open PySem
theorem maxL_ge : ∀ {l : List Int} {x : Int}, x ∈ l → x ≤ maxL l
  | [a], x, h => by
    simp at h
    subst h
    exact Int.le_refl _
  | a :: b :: l, x, h => by
    show x ≤ max a (maxL (b :: l))
    rcases List.mem_cons.mp h with rfl | h
    · omega
    · have := maxL_ge h
      omega
abbrev rE (d : D) (m : List (List Int)) (s2 s3 s4 s5 s6 : Sl) : Fm := [some (d, true), some (mD m, false), s2, s3, s4, s5, s6]
theorem right_c1 (n : Nat) {ns : List Int} {d : D} (hd : RwD ns d) (m : List (List Int)) (hm : m.length ≤ 8) (s2 s3 s4 s5 s6 : Sl) :
    ∃ d' b s2', RwD ns d' ∧ RightOk b m.length ∧ ev Γ (callN Γ (n + 1)) c__law_right_1 (rE d m s2 s3 s4 s5 s6) = .ok (lD b, true) (rE d' m s2' s3 s4 s5 s6) := by
  unfold c__law_right_1
  obtain ⟨xs, env', h1, h2, ⟨d', hd', h3⟩, h4⟩ := lcl_inv Γ (callN Γ (n + 1)) (tg := .one 2) (body := .bin .sub (.fnv 5 0 (.cons (.cst (.int 2001)) .nil)) (.cst (.int 1000)))
    (fun env => ∃ d, RwD ns d ∧ env = rE d m none s3 s4 s5 s6) (fun x => ∃ v, x = .int v ∧ Siz v) (m.map tD) (rE d m none s3 s4 s5 s6) [] (by simp; unfold LIM; omega) ⟨d, hd, rfl⟩ (by
      rintro x hx env ⟨d, hd, rfl⟩
      obtain ⟨v, d', hd', v0, v1, e⟩ := hd.take n (m := 2001) (by omega) (by omega)
      refine ⟨rE d m (some (x, false)) s3 s4 s5 s6, rE d' m (some (x, false)) s3 s4 s5 s6, .int (v - 1000), false, rfl, ?_, ⟨d', hd', rfl⟩, _, rfl, by unfold Siz; omega⟩
      obtain ⟨z1, z2, z3, _, rfl⟩ := hd
      simp [dfl_nil, e])
  obtain ⟨r, rfl, e3⟩ := ints_of h4
  subst h3
  refine ⟨d', r, fz1 (rE d m s2 s3 s4 s5 s6) 2, hd', ⟨by simpa using h2, e3⟩, ?_⟩
  rw [lc1 Γ _ (e1 := rE d m s2 s3 s4 s5 s6) (items := m.map tD) (by simp) h1]
  rfl
theorem right_c2 (n : Nat) {ns : List Int} {d : D} (hd : RwD ns d) (r0 : List Int) (m : List (List Int)) (hw : r0.length ≤ 8) (s2 s3 s4 s5 s6 : Sl) :
    ∃ d' b s4', RwD ns d' ∧ b.length = r0.length ∧ (∀ x ∈ b, -4 ≤ x ∧ x ≤ 4) ∧ ev Γ (callN Γ (n + 1)) c__law_right_2 (rE d (r0 :: m) s2 s3 s4 s5 s6) = .ok (lD b, true) (rE d' (r0 :: m) s2 s3 s4' s5 s6) := by
  unfold c__law_right_2
  obtain ⟨xs, env', h1, h2, ⟨d', hd', h3⟩, h4⟩ := lcl_inv Γ (callN Γ (n + 1)) (tg := .one 4) (body := .bin .sub (.fnv 5 0 (.cons (.cst (.int 9)) .nil)) (.cst (.int 4)))
    (fun env => ∃ d, RwD ns d ∧ env = rE d (r0 :: m) s2 s3 none s5 s6) (fun x => ∃ v, x = .int v ∧ (-4 ≤ v ∧ v ≤ 4)) (vD r0) (rE d (r0 :: m) s2 s3 none s5 s6) [] (by simp; unfold LIM; omega) ⟨d, hd, rfl⟩ (by
      rintro x hx env ⟨d, hd, rfl⟩
      obtain ⟨v, d', hd', v0, v1, e⟩ := hd.take n (m := 9) (by omega) (by omega)
      refine ⟨rE d (r0 :: m) s2 s3 (some (x, false)) s5 s6, rE d' (r0 :: m) s2 s3 (some (x, false)) s5 s6, .int (v - 4), false, rfl, ?_, ⟨d', hd', rfl⟩, _, rfl, by omega⟩
      obtain ⟨z1, z2, z3, _, rfl⟩ := hd
      simp [dfl_nil, e])
  obtain ⟨r, rfl, e3⟩ := ints_of h4
  subst h3
  refine ⟨d', r, fz1 (rE d (r0 :: m) s2 s3 s4 s5 s6) 4, hd', by simpa using h2, e3, ?_⟩
  rw [lc1 Γ _ (e1 := rE d (r0 :: m) s2 s3 s4 s5 s6) (items := vD r0) (by simp [ixn]) h1]
  rfl
theorem right_c4 (n : Nat) {d : D} (m : List (List Int)) (r b : List Int) (hw : b.length ≤ 8) (hl : r.length = b.length) (hb : ∀ x ∈ b, -4 ≤ x ∧ x ≤ 4) (o : Bool) (s4 s5 s6 : Sl) :
    ∃ c s6', ev Γ (callN Γ n) c__law_right_4 (rE d m (some (tD r, false)) (some (lD b, o)) s4 s5 s6) = .ok (lD c, true) (rE d m (some (tD r, false)) (some (lD b, false)) s4 s5 s6') := by
  unfold c__law_right_4
  obtain ⟨xs, env', h1, h2, h3, h4⟩ := lcl_inv Γ (callN Γ n) (tg := .one 6) (body := .bin .mul (.idxv 2 (.var 6)) (.idxv 3 (.var 6)))
    (fun env => env = rE d m (some (tD r, false)) (some (lD b, false)) s4 s5 none) (fun x => ∃ v, x = .int v ∧ True) (rgD 0 b.length) (rE d m (some (tD r, false)) (some (lD b, false)) s4 s5 none) [] (by rw [rgD_len]; simp; unfold LIM; omega) rfl (by
      rintro x hx env rfl
      obtain ⟨p, hp⟩ := List.mem_iff_getElem?.mp hx
      obtain ⟨rfl, hp2⟩ := rgD_get hp
      rw [Int.zero_add]
      have p1 : p < r.length := by omega
      have p2 : p < b.length := by omega
      have q2 := hb _ (List.getElem_mem p2)
      obtain ⟨i1, i2⟩ := getV p1
      obtain ⟨i3, i4⟩ := getV p2
      generalize r[p] = x1 at i2
      generalize b[p] = x2 at i4 q2
      have m1 : MulOk x1 x2 := mulOk_r (by omega)
      refine ⟨rE d m (some (tD r, false)) (some (lD b, false)) s4 s5 (some (.int p, false)), rE d m (some (tD r, false)) (some (lD b, false)) s4 s5 (some (.int p, false)), .int (x1 * x2), false, rfl, ?_, rfl, _, rfl, trivial⟩
      rw [List.length_map] at i1 i3
      simp only [List.getElem?_map] at i2 i4
      simp [m1, i1, i2, i3, i4])
  obtain ⟨c, rfl, _⟩ := ints_of h4
  subst h3
  refine ⟨c, fz1 (rE d m (some (tD r, false)) (some (lD b, false)) s4 s5 s6) 6, ?_⟩
  rw [lc1 Γ _ (e1 := rE d m (some (tD r, false)) (some (lD b, false)) s4 s5 s6) (items := rgD 0 b.length) (by cases o <;> simp <;> omega) h1]
  rfl
theorem right_c3 (n : Nat) {d : D} (m : List (List Int)) (b : List Int) (hm : m.length ≤ 8) (hw : b.length ≤ 8) (hl : ∀ r ∈ m, r.length = b.length) (hb : ∀ x ∈ b, -4 ≤ x ∧ x ≤ 4) (s2 s4 s5 s6 : Sl) :
    ∃ c s2' o s6', c.length = m.length ∧ ev Γ (callN Γ n) c__law_right_3 (rE d m s2 (some (lD b, true)) s4 s5 s6) = .ok (lD c, true) (rE d m s2' (some (lD b, o)) s4 s5 s6') := by
  unfold c__law_right_3
  obtain ⟨xs, env', h1, h2, ⟨o, s6', h3⟩, h4⟩ := lcl_inv Γ (callN Γ n) (tg := .one 2) (body := .bi .sum (.cons (c__law_right_4) .nil))
    (fun env => ∃ o s6, env = rE d m none (some (lD b, o)) s4 s5 s6) (fun x => ∃ v, x = .int v ∧ True) (m.map tD) (rE d m none (some (lD b, true)) s4 s5 s6) [] (by simp; unfold LIM; omega) ⟨_, _, rfl⟩ (by
      rintro x hx env ⟨o, s6, rfl⟩
      obtain ⟨r, hr, rfl⟩ := List.mem_map.mp hx
      obtain ⟨c, s6', e⟩ := right_c4 n (d := d) m r b hw (hl r hr) hb o s4 s5 s6
      refine ⟨rE d m (some (tD r, false)) (some (lD b, o)) s4 s5 s6, rE d m (some (tD r, false)) (some (lD b, false)) s4 s5 s6', .int c.sum, false, rfl, ?_, ⟨false, s6', rfl⟩, _, rfl, trivial⟩
      simp [e, intsOf_vD])
  obtain ⟨c, rfl, _⟩ := ints_of h4
  subst h3
  refine ⟨c, fz1 (rE d m s2 (some (lD b, true)) s4 s5 s6) 2, o, s6', by simpa using h2, ?_⟩
  rw [lc1 Γ _ (e1 := rE d m s2 (some (lD b, true)) s4 s5 s6) (items := m.map tD) (by simp) h1]
  rfl
theorem right_c5 (n : Nat) {d : D} (m : List (List Int)) (c : List Int) (hc : c.length ≤ 8) (s2 s3 s4 s6 : Sl) :
    ∃ s4', ev Γ (callN Γ n) c__law_right_5 (rE d m s2 s3 s4 (some (tD c, false)) s6) = .ok (lD (c.map fun x => (x.natAbs : Int)), true) (rE d m s2 s3 s4' (some (tD c, false)) s6) := by
  unfold c__law_right_5
  have h := lcl_map Γ (callN Γ n) (tg := .one 4) (body := .bi .abs (.cons (.var 4) .nil)) (fun x => match x with | .int i => .int (i.natAbs : Int) | _ => .non) (vD c) (rE d m s2 s3 none (some (tD c, false)) s6) [] (by simp; unfold LIM; omega) (by
    intro x hx
    obtain ⟨z, hz, rfl⟩ : ∃ z, z ∈ c ∧ D.int z = x := by simpa using hx
    exact ⟨_, rE d m s2 s3 (some (.int z, false)) (some (tD c, false)) s6, false, rfl, by simp [abs_if], rfl⟩)
  refine ⟨fz1 (rE d m s2 s3 s4 (some (tD c, false)) s6) 4, ?_⟩
  rw [lc1 Γ _ (e1 := rE d m s2 s3 s4 (some (tD c, false)) s6) (items := vD c) (by simp) h]
  simp
theorem right_c6 (n : Nat) {d : D} (m : List (List Int)) {w : Nat} (h : RowsOk m w) (s2 s3 s4 s5 s6 : Sl) :
    ∃ c s2', RightOk c m.length ∧ ev Γ (callN Γ n) c__law_right_6 (rE d m s2 s3 s4 s5 s6) = .ok (lD c, true) (rE d m s2' s3 s4 s5 s6) := by
  unfold c__law_right_6
  have hf := h.few
  obtain ⟨xs, env', h1, h2, h3, h4⟩ := lcl_inv Γ (callN Γ n) (tg := .one 2) (body := .idxv 2 (.cst (.int 0)))
    (fun env => env = rE d m none s3 s4 s5 s6) (fun x => ∃ v, x = .int v ∧ Siz v) (m.map tD) (rE d m none s3 s4 s5 s6) [] (by simp; unfold LIM; omega) rfl (by
      rintro x hx env rfl
      obtain ⟨r, hr, rfl⟩ := List.mem_map.mp hx
      have hl := h.len r hr
      have h1 := h.w1
      have hs := h.siz r hr
      cases r with
      | nil => simp at hl; omega
      | cons y r =>
        exact ⟨rE d m (some (tD (y :: r), false)) s3 s4 s5 s6, rE d m (some (tD (y :: r), false)) s3 s4 s5 s6, .int y, false, rfl, by simp [ixn], rfl, _, rfl, hs y (by simp)⟩)
  obtain ⟨c, rfl, e3⟩ := ints_of h4
  subst h3
  refine ⟨c, fz1 (rE d m s2 s3 s4 s5 s6) 2, ⟨by simpa using h2, e3⟩, ?_⟩
  rw [lc1 Γ _ (e1 := rE d m s2 s3 s4 s5 s6) (items := m.map tD) (by simp) h1]
  rfl
theorem r_right (n : Nat) {ns : List Int} {d : D} (hd : RwD ns d) (m : List (List Int)) {w : Nat} (h : RowsOk m w) :
    ∃ b d', RwD ns d' ∧ RightOk b m.length ∧ callN Γ (n + 2) 19 [(d, true), (mD m, false)] = .ret (tD b, false) (some d') := by
  rw [callN_eq rfl]
  obtain ⟨v, d1, hd1, v0, v1, e1⟩ := hd.take n (m := 3) (by omega) (by omega)
  by_cases hv : v = 0
  · subst hv
    obtain ⟨d2, b, s2', hd2, hb, e2⟩ := right_c1 n hd1 m h.few none none none none none
    refine ⟨b, d2, hd2, hb, ?_⟩
    obtain ⟨z1, z2, z3, _, rfl⟩ := hd
    obtain ⟨z4, z5, z6, _, rfl⟩ := hd2
    simp [body, b__law_right, dfl_nil, e1, dpk_int, e2]
  · have hq : (v == 0) = false := by simpa using hv
    have few := h.few
    cases m with
    | nil => exact (h.ne rfl).elim
    | cons r0 m =>
    have l0 := h.len r0 (by simp)
    have w8 := h.w8
    obtain ⟨d2, b, s4', hd2, hbl, hbs, e2⟩ := right_c2 n hd1 r0 m (by omega) none none none none none
    obtain ⟨c, s2', o, s6', hcl, e3⟩ := right_c3 (n + 1) (d := d2) (r0 :: m) b few (by omega) (fun r hr => by rw [h.len r hr]; omega) hbs none s4' none none
    obtain ⟨s4'', e4⟩ := right_c5 (n + 1) (d := d2) (r0 :: m) c (by omega) s2' (some (lD b, o)) s4' s6'
    have hne : (c.map fun x => (x.natAbs : Int)) ≠ [] := by
      intro z
      have : c = [] := by simpa using z
      subst this
      simp at hcl
    by_cases hmax : 1000000000 < maxL (c.map fun x => (x.natAbs : Int))
    · obtain ⟨c6, s26, hc6, e6⟩ := right_c6 (n + 1) (d := d2) (r0 :: m) h s2' (some (lD b, o)) s4'' (some (tD c, false)) s6'
      refine ⟨c6, d2, hd2, hc6, ?_⟩
      obtain ⟨z1, z2, z3, _, rfl⟩ := hd
      obtain ⟨z4, z5, z6, _, rfl⟩ := hd2
      generalize (c.map fun x => (x.natAbs : Int)) = a at e4 hne hmax
      simp [body, b__law_right, b__law_right_1, dfl_nil, e1, dpk_int, hq, e2, e3, e4, intsOf_vD, hne, hmax, e6]
    · refine ⟨c, d2, hd2, ⟨by simpa using hcl, fun x hx => ?_⟩, ?_⟩
      · have := maxL_ge (l := c.map fun x => (x.natAbs : Int)) (List.mem_map.mpr ⟨x, hx, rfl⟩)
        unfold Siz
        omega
      · obtain ⟨z1, z2, z3, _, rfl⟩ := hd
        obtain ⟨z4, z5, z6, _, rfl⟩ := hd2
        generalize (c.map fun x => (x.natAbs : Int)) = a at e4 hne hmax
        simp [body, b__law_right, b__law_right_1, b__law_right_2, dfl_nil, e1, dpk_int, hq, e2, e3, e4, intsOf_vD, hne, hmax]
end PL
/-! RAlike: the same, of the same kinds. (Def 17.) -/
namespace PL
open PySem
/-- of depth at most n, not too long -/
def Alk : Nat → D → Prop
  | _, .non => True
  | _, .bl _ => True
  | _, .int _ => True
  | _, .str s => s.cps.all (· < 0x110000) = true
  | n + 1, .tup l => l.length ≤ LIM ∧ ∀ x ∈ l, Alk n x
  | n + 1, .lst l => l.length ≤ LIM ∧ ∀ x ∈ l, Alk n x
  | _, _ => False
mutual
theorem eqb_refl : ∀ (d : D) (n : Nat), Dpk n d → eqb d d = true
  | .non, _, _ => by simp
  | .bl b, _, _ => by simp
  | .int i, _, _ => by simp
  | .str s, _, _ => by simp
  | .tup l, n, h => by
    cases n with
    | zero => exact h.elim
    | succ n =>
      rw [eqb_tup_tup]
      exact eqbs_refl l n h
  | .lst l, n, h => by
    cases n with
    | zero => exact h.elim
    | succ n =>
      rw [eqb_lst_lst]
      exact eqbs_refl l n h
  | .scr _, n, h => by cases n <;> exact h.elim
  | .dic _ _, n, h => by cases n <;> exact h.elim
  | .ins _ _ _, n, h => by cases n <;> exact h.elim
  | .obj _ _, n, h => by cases n <;> exact h.elim
theorem eqbs_refl : ∀ (l : List D) (n : Nat), (∀ x ∈ l, Dpk n x) → eqbs l l = true
  | [], _, _ => by simp
  | d :: l, n, h => by
    rw [eqbs_cc, eqb_refl d n (h d (by simp)), eqbs_refl l n fun x hx => h x (by simp [hx])]
    rfl
end
theorem r_alike_flat (n : Nat) (d : D) (hf : flat d = true) (hd : Dpk 16 d) : callN Γ (n + 1) 17 [(d, false), (d, false)] = .ret (.bl true, false) none := by
  rw [callN_eq rfl]
  have e := eqb_refl d 16 hd
  cases d <;> first | (simp [flat] at hf; done) | (simp [body, b__law_alike, b__law_alike_1, hd, dpk_bl, dpk_int, dpk_non, e])
theorem alike_c (n : Nat) (l : List D) (t : Bool) (hz : l.length ≤ LIM) (h : ∀ x ∈ l, callN Γ n 17 [(x, false), (x, false)] = .ret (.bl true, false) none) (s2 : Sl) :
    ∃ s2', ev Γ (callN Γ n) c__law_alike_1 [some ((if t = true then D.tup l else D.lst l), false), some ((if t = true then D.tup l else D.lst l), false), s2] = .ok (.lst [], true) [some ((if t = true then D.tup l else D.lst l), false), some ((if t = true then D.tup l else D.lst l), false), s2'] := by
  unfold c__law_alike_1
  have e := lcl_filter Γ (callN Γ n) (tg := .one 2) (c := .not (.fn 17 (.cons (.idxv 0 (.var 2)) (.cons (.idxv 1 (.var 2)) .nil)))) (body := .var 2) (fun _ => false) id (rgD 0 l.length)
    [some ((if t = true then D.tup l else D.lst l), false), some ((if t = true then D.tup l else D.lst l), false), none] [] (by rw [rgD_len]; simp; omega) (by
      intro x hx
      obtain ⟨p, hp⟩ := List.mem_iff_getElem?.mp hx
      obtain ⟨rfl, hp2⟩ := rgD_get hp
      rw [Int.zero_add]
      have p1 : p < l.length := by omega
      have g1 : ixn l.length (p : Int) = some p := by
        simp only [ixn]
        rw [if_pos (by omega), if_pos (by omega)]
        simp
      have q := h _ (List.getElem_mem p1)
      refine ⟨_, [some ((if t = true then D.tup l else D.lst l), false), some ((if t = true then D.tup l else D.lst l), false), some (.int p, false)], false, rfl, ?_, fun _ => rfl, fun z => nomatch z⟩
      cases t <;> simp [g1, p1, q, dfl_nil])
  refine ⟨fz1 [some ((if t = true then D.tup l else D.lst l), false), some ((if t = true then D.tup l else D.lst l), false), s2] 2, ?_⟩
  rw [lc1 Γ _ (e1 := [some ((if t = true then D.tup l else D.lst l), false), some ((if t = true then D.tup l else D.lst l), false), s2]) (items := rgD 0 l.length) (by unfold LIM at hz; cases t <;> simp <;> omega) e]
  simp
theorem r_alike : ∀ (k n : Nat) (d : D), k ≤ 15 → Alk k d → callN Γ (n + k + 1) 17 [(d, false), (d, false)] = .ret (.bl true, false) none
  | k, n, .non, _, _ => r_alike_flat _ _ rfl (dpk_non _)
  | k, n, .bl b, _, _ => r_alike_flat _ _ rfl (dpk_bl _ _)
  | k, n, .int i, _, _ => r_alike_flat _ _ rfl (dpk_int _ _)
  | k, n, .str s, _, h => r_alike_flat _ _ rfl (by cases k <;> exact h)
  | 0, _, .tup _, _, h => h.elim
  | 0, _, .lst _, _, h => h.elim
  | k + 1, n, .tup l, hk, h => by
    rw [callN_eq rfl]
    obtain ⟨s2', e⟩ := alike_c (n + (k + 1)) l true h.1 (fun x hx => by
      have := r_alike k n x (by omega) (h.2 x hx)
      rw [show n + (k + 1) = n + k + 1 by omega]
      exact this) none
    simp at e
    simp [body, b__law_alike, b__law_alike_2, dpk_bl, dpk_int, e, Dpk, LIM]
  | k + 1, n, .lst l, hk, h => by
    rw [callN_eq rfl]
    obtain ⟨s2', e⟩ := alike_c (n + (k + 1)) l false h.1 (fun x hx => by
      have := r_alike k n x (by omega) (h.2 x hx)
      rw [show n + (k + 1) = n + k + 1 by omega]
      exact this) none
    simp at e
    simp [body, b__law_alike, b__law_alike_2, dpk_bl, dpk_int, e, Dpk, LIM]
  | 0, _, .scr _, _, h => h.elim
  | _ + 1, _, .scr _, _, h => h.elim
  | 0, _, .dic _ _, _, h => h.elim
  | _ + 1, _, .dic _ _, _, h => h.elim
  | 0, _, .ins _ _ _, _, h => h.elim
  | _ + 1, _, .ins _ _ _, _, h => h.elim
  | 0, _, .obj _ _, _, h => h.elim
  | _ + 1, _, .obj _ _, _, h => h.elim
end PL
/-! RSquare: square systems. (Def 21.) -/
namespace PL
open PySem
theorem r_square (n : Nat) {ns : List Int} {d : D} (hd : RwD ns d) : ∃ m b d', RwD ns d' ∧ RowsOk m m.length ∧ RightOk b m.length ∧ callN Γ (n + 3) 21 [(d, true)] = .ret (.tup [mD m, tD b], false) (some d') := by
  rw [callN_eq rfl]
  obtain ⟨v, d1, hd1, v0, v1, e1⟩ := hd.take (n + 1) (m := 3) (by omega) (by omega)
  obtain ⟨j, s, hj, hs, h1, h2⟩ : ∃ j s, ixn 3 v = some j ∧ [D.int 3, D.int 5, D.int 8][j]? = some (.int s) ∧ 1 ≤ s ∧ s ≤ 8 := by
    refine ⟨v.toNat, ?_⟩
    have : v = 0 ∨ v = 1 ∨ v = 2 := by omega
    rcases this with z | z | z <;> subst z <;> simp [ixn]
  obtain ⟨u, d2, hd2, u0, u1, e2⟩ := hd1.take (n + 1) (m := s) (by omega) (by omega)
  obtain ⟨k, rfl⟩ : ∃ k : Nat, u = (k : Int) := ⟨u.toNat, by omega⟩
  obtain ⟨m, d3, hd3, hm, hl, e3⟩ := r_drawn n hd2 (k + 1) (k + 1) (by omega) (by omega) (by omega) (by omega)
  obtain ⟨b, d4, hd4, hb, e4⟩ := r_right n hd3 m hm
  refine ⟨m, b, d4, hd4, by rw [hl]; exact hm, hb, ?_⟩
  have ek : ((k + 1 : Nat) : Int) = 1 + (k : Int) := by push_cast; omega
  rw [ek] at e3
  obtain ⟨z1, z2, z3, _, rfl⟩ := hd
  obtain ⟨z4, z5, z6, _, rfl⟩ := hd1
  obtain ⟨y1, y2, y3, _, rfl⟩ := hd2
  obtain ⟨y4, y5, y6, _, rfl⟩ := hd3
  obtain ⟨x4, x5, x6, _, rfl⟩ := hd4
  simp [body, b__law_square, LIM, e1, dfl_nil, hj, hs, e2, e3, e4]
end PL
set_option maxRecDepth 100000
/-! RDigit: the law's own digit: lines worked off. (Def 40.) -/
namespace PL
open PySem
/-- the lines at first -/
def aug0 (p : Int) (n : Nat) (A : List (List Int)) (L : List Int) : List (List Int) := (List.range n).map fun i => rst_ p (ln A i) ++ [at' L i % p]
theorem aug0_ln {p : Int} {n : Nat} {A : List (List Int)} {L : List Int} {i : Nat} (hi : i < n) : ln (aug0 p n A L) i = rst_ p (ln A i) ++ [at' L i % p] := by
  rw [ln_eq (by simp [aug0, hi])]
  simp [aug0]
theorem dig_start {call : Nat → List (D × Bool) → CRes} {n : Nat} {p : Int} {A : List (List Int)} {L : List Int} (hp : 0 < p) (hn : n ≤ 500) (hA : A.length = n) (hr : ∀ i, i < n → (ln A i).length = n) (hL : L.length = n) (lp : p.natAbs.log2 < 9000) (s4 s5 s6 s7 s8 s9 s10 s11 s12 s13 s14 : Sl) :
    ∃ s5' s6', ev Γ call c__law_digit_1 [some (mD A, false), some (lD L, false), some (.int p, false), some (.int n, false), s4, s5, s6, s7, s8, s9, s10, s11, s12, s13, s14] = .ok (nwD (aug0 p n A L), true) [some (mD A, false), some (lD L, false), some (.int p, false), some (.int n, false), s4, s5', s6', s7, s8, s9, s10, s11, s12, s13, s14] := by
  obtain ⟨e3, t, e, t5, rfl⟩ := lcmP Γ call (it := .rng1 (.var 3)) (i := 6) (body := .bin .add (c__law_digit_2) (.lst (.cons (.bin .mod (.idxv 1 (.var 6)) (.var 2)) .nil))) (env := [some (mD A, false), some (lD L, false), some (.int p, false), some (.int n, false), s4, s5, s6, s7, s8, s9, s10, s11, s12, s13, s14])
    (e1 := [some (mD A, false), some (lD L, false), some (.int p, false), some (.int n, false), s4, s5, s6, s7, s8, s9, s10, s11, s12, s13, s14]) (fun env => ∃ s5, env = [some (mD A, false), some (lD L, false), some (.int p, false), some (.int n, false), s4, s5, none, s7, s8, s9, s10, s11, s12, s13, s14]) (List.range n) (fun i => .int (i : Int)) (fun i => lD (rst_ p (ln A i) ++ [at' L i % p]))
    (evi_rng Γ call (by simp; rfl) (by omega)) (by simp [LIM]; omega) ⟨s5, rfl⟩ (by
      rintro i hi env ⟨s5, rfl⟩
      have hi := List.mem_range.mp hi
      have li := hr i hi
      obtain ⟨t, e⟩ := lcm Γ call (it := .seq (.idxv 0 (.var 6))) (i := 5) (body := .bin .mod (.var 5) (.var 2)) (env := [some (mD A, false), some (lD L, false), some (.int p, false), some (.int n, false), s4, s5, some (.int i, false), s7, s8, s9, s10, s11, s12, s13, s14])
        (e1 := [some (mD A, false), some (lD L, false), some (.int p, false), some (.int n, false), s4, s5, some (.int i, false), s7, s8, s9, s10, s11, s12, s13, s14]) (ln A i) (fun x => .int x) (fun x => .int (x % p)) (by
          simp [show i < A.length by omega]) (by simp [LIM]; omega) (fun x _ => ⟨false, by simp [hp, lp]⟩)
      have e : ev Γ call c__law_digit_2 _ = _ := e
      have z : (ln A i).map (fun x => D.int (x % p)) = vD (rst_ p (ln A i)) := by simp [rst_]
      rw [z] at e
      have rl : (rst_ p (ln A i)).length = n := by simp [rst_, li]
      generalize rst_ p (ln A i) = r at e rl
      simp only [List.set_cons_succ, List.set_cons_zero] at e ⊢
      refine ⟨true, [some (mD A, false), some (lD L, false), some (.int p, false), some (.int n, false), s4, t, some (.int i, false), s7, s8, s9, s10, s11, s12, s13, s14], ?_, t, rfl⟩
      simp [e, show i < L.length by omega, hp, lp, LIM, rl, show n + 1 ≤ 1000000 by omega]
      )
  have e : ev Γ call c__law_digit_1 _ = _ := e
  have z : (List.range n).map (fun i => lD (rst_ p (ln A i) ++ [at' L i % p])) = (aug0 p n A L).map lD := by simp [aug0]
  rw [z] at e
  simp only [List.set_cons_succ, List.set_cons_zero] at e
  exact ⟨t5, t, e⟩
theorem dig_some {call : Nat → List (D × Bool) → CRes} {n q w : Nat} {N : List (List Int)} (hN : N.length = n) (hn : n ≤ 1000) (hw : ∀ i, i < n → (ln N i).length = w) (hqw : q < w) (hq : q ≤ n) (s0 s1 s2 s5 s6 s8 s9 s10 s11 s12 s13 s14 : Sl) :
    ∃ s6', ev Γ call c__law_digit_3 [s0, s1, s2, some (.int n, false), some (nwD N, true), s5, s6, some (.int q, false), s8, s9, s10, s11, s12, s13, s14] = .ok (.lst ((smI N n q).map fun i : Nat => .int i), true) [s0, s1, s2, some (.int n, false), some (nwD N, true), s5, s6', some (.int q, false), s8, s9, s10, s11, s12, s13, s14] := by
  obtain ⟨t, e⟩ := lcf Γ call (it := .rng2 (.var 7) (.var 3)) (i := 6) (c := .cmp .ne (.idx (.idxv 4 (.var 6)) (.var 7)) (.cst (.int 0))) (body := .var 6)
    (env := [s0, s1, s2, some (.int n, false), some (nwD N, true), s5, s6, some (.int q, false), s8, s9, s10, s11, s12, s13, s14]) (e1 := [s0, s1, s2, some (.int n, false), some (nwD N, true), s5, s6, some (.int q, false), s8, s9, s10, s11, s12, s13, s14]) ((List.range (n - q)).map (q + ·)) (fun i => .int (i : Int)) (fun i => .int (i : Int)) (fun i => !(at' (ln N i) q == 0))
    (evi_rngqS Γ call (by simp) (by simp) (by omega) (by omega)) (by simp [LIM]; omega) (fun i hi => by
      have hi : i < n := by
        simp at hi
        omega
      exact ⟨false, by simp [show i < N.length by omega, hw i hi, hqw, dpk_int]⟩) (fun i _ _ => ⟨false, by simp⟩)
  exact ⟨t, e⟩
theorem dig_back1 {call : Nat → List (D × Bool) → CRes} {z p y : Int} (mo : MulOk z y) (hp : 0 < p) (s0 s1 s3 s4 s6 s7 s9 s10 s11 s12 s13 s14 : Sl) :
    ev Γ call (.cmp .eq (.bin .mod (.bin .mul (.var 5) (.var 8)) (.var 2)) (.cst (.int 1))) [s0, s1, some (.int p, false), s3, s4, some (.int z, false), s6, s7, some (.int y, false), s9, s10, s11, s12, s13, s14] = .ok (.bl (z * y % p == 1), false) [s0, s1, some (.int p, false), s3, s4, some (.int z, false), s6, s7, some (.int y, false), s9, s10, s11, s12, s13, s14] := by
  simp [mo, hp, dpk_int]
theorem dig_back {call : Nat → List (D × Bool) → CRes} {p y : Int} (h2 : 2 ≤ p) (hs : p ≤ 9973) (y0 : 0 ≤ y) (y1 : y < p) (s0 s1 s3 s4 s5 s6 s7 s9 s10 s11 s12 s13 s14 : Sl) :
    ∃ s5', ev Γ call c__law_digit_4 [s0, s1, some (.int p, false), s3, s4, s5, s6, s7, some (.int y, false), s9, s10, s11, s12, s13, s14] = .ok (.lst ((bkL p y).map fun k : Nat => .int (1 + (k : Int))), true) [s0, s1, some (.int p, false), s3, s4, s5', s6, s7, some (.int y, false), s9, s10, s11, s12, s13, s14] := by
  obtain ⟨t, e⟩ := lcf Γ call (it := .rng2 (.cst (.int 1)) (.var 2)) (i := 5) (c := .cmp .eq (.bin .mod (.bin .mul (.var 5) (.var 8)) (.var 2)) (.cst (.int 1))) (body := .var 5)
    (env := [s0, s1, some (.int p, false), s3, s4, s5, s6, s7, some (.int y, false), s9, s10, s11, s12, s13, s14]) (e1 := [s0, s1, some (.int p, false), s3, s4, s5, s6, s7, some (.int y, false), s9, s10, s11, s12, s13, s14]) (List.range (p - 1).toNat) (fun k => .int (1 + (k : Int))) (fun k => .int (1 + (k : Int))) (fun k => ((1 + (k : Int)) * y % p == 1)) (by
      exact evi_rngp Γ call (by simp) (by simp) (by omega) (by omega)) (by simp [LIM]; omega) (fun k hk => by
      have hk := List.mem_range.mp hk
      have mo : MulOk (1 + (k : Int)) y := mulOk_l (by omega)
      exact ⟨false, dig_back1 mo (by omega) s0 s1 s3 s4 s6 s7 s9 s10 s11 s12 s13 s14⟩) (fun k _ _ => ⟨false, by simp⟩)
  exact ⟨t, e⟩
theorem dig_scl {call : Nat → List (D × Bool) → CRes} {q : Nat} {p b : Int} {N : List (List Int)} (hp : 0 < p) (hq : q < N.length) (hl : (ln N q).length ≤ 1000) (hb : -(2 ^ 64) < b ∧ b < 2 ^ 64) (s0 s1 s3 s5 s6 s8 s10 s11 s12 s13 s14 : Sl) :
    ∃ s5', ev Γ call c__law_digit_5 [s0, s1, some (.int p, false), s3, some (nwD N, true), s5, s6, some (.int q, false), s8, some (.int b, false), s10, s11, s12, s13, s14] = .ok (lD (scl p (ln N q) b), true) [s0, s1, some (.int p, false), s3, some (nwD N, true), s5', s6, some (.int q, false), s8, some (.int b, false), s10, s11, s12, s13, s14] := by
  obtain ⟨t, e⟩ := lcm Γ call (it := .seq (.idxv 4 (.var 7))) (i := 5) (body := .bin .mod (.bin .mul (.var 5) (.var 9)) (.var 2)) (env := [s0, s1, some (.int p, false), s3, some (nwD N, true), s5, s6, some (.int q, false), s8, some (.int b, false), s10, s11, s12, s13, s14])
    (e1 := [s0, s1, some (.int p, false), s3, some (nwD N, true), s5, s6, some (.int q, false), s8, some (.int b, false), s10, s11, s12, s13, s14]) (ln N q) (fun x => .int x) (fun x => .int (x * b % p)) (by simp [hq]) (by simp [LIM]; omega) (fun x _ => ⟨false, by simp [hp, mulOk_r hb]⟩)
  have z : (ln N q).map (fun x => D.int (x * b % p)) = vD (scl p (ln N q) b) := by simp [scl]
  rw [z] at e
  exact ⟨t, e⟩
/-- a row less so many times the top row -/
theorem dig_less {call : Nat → List (D × Bool) → CRes} {n j w : Nat} {p m : Int} {N : List (List Int)} {P : List Int} (h2 : 2 ≤ p) (hs : p ≤ 9973) (hj : j < N.length) (rj : Rl p w (ln N j)) (hw : w = n + 1) (hn : n ≤ 500) (rP : Rl p w P) (hm : 0 ≤ m ∧ m < p) (s0 s1 s5 s6 s7 s8 s9 s13 s14 : Sl) :
    ∃ s13', ev Γ call c__law_digit_6 [s0, s1, some (.int p, false), some (.int n, false), some (nwD N, true), s5, s6, s7, s8, s9, some (.int j, false), some (.int m, false), some (lD P, false), s13, s14] = .ok (lD (lsr p (ln N j) m P), true) [s0, s1, some (.int p, false), some (.int n, false), some (nwD N, true), s5, s6, s7, s8, s9, some (.int j, false), some (.int m, false), some (lD P, false), s13', s14] := by
  obtain ⟨t, e⟩ := lcm Γ call (it := .rng1 (.bin .add (.var 3) (.cst (.int 1)))) (i := 13) (body := .bin .mod (.bin .sub (.idx (.idxv 4 (.var 10)) (.var 13)) (.bin .mul (.var 11) (.idxv 12 (.var 13)))) (.var 2))
    (env := [s0, s1, some (.int p, false), some (.int n, false), some (nwD N, true), s5, s6, s7, s8, s9, some (.int j, false), some (.int m, false), some (lD P, false), s13, s14]) (e1 := [s0, s1, some (.int p, false), some (.int n, false), some (nwD N, true), s5, s6, s7, s8, s9, some (.int j, false), some (.int m, false), some (lD P, false), s13, s14]) (List.range w) (fun i => .int (i : Int)) (fun k => .int ((at' (ln N j) k - m * at' P k) % p))
    (evi_rngS Γ call (by subst hw; simp) (by omega)) (by simp [LIM]; omega) (fun k hk => by
      have hk := List.mem_range.mp hk
      have l1 := rj.len
      have l2 := rP.len
      have mo : MulOk m (at' P k) := mulOk_l (by omega)
      exact ⟨false, by simp [hj, l1, l2, hk, mo, show 0 < p by omega]⟩)
  have z : (List.range w).map (fun k => D.int ((at' (ln N j) k - m * at' P k) % p)) = vD (lsr p (ln N j) m P) := by
    rw [← lsr_range (m := m) (p := p) rj.len rP.len]
    simp
  rw [z] at e
  exact ⟨t, e⟩
theorem dig_st {call : Nat → List (D × Bool) → CRes} {j q : Nat} {p x : Int} {M : List (List Int)} {P lj r : List Int} (eb : ((j : Int) == (q : Int)) = false) (jM : j < M.length) (qM : q < M.length) (mj : ln M j = lj) (mq : ln M q = P) (ql : q < lj.length) (hx : at' lj q = x) (s0 s1 s5 s6 s8 s9 s11 s12 s13 s14 u v t : Sl) (k : Nat)
    (c : ev Γ call c__law_digit_6 [s0, s1, some (.int p, false), some (.int k, false), some (nwD M, true), s5, s6, some (.int q, false), s8, s9, some (.int j, false), some (.int x, false), some (lD P, false), s13, s14] = .ok (lD r, true) [s0, s1, some (.int p, false), some (.int k, false), some (nwD M, true), s5, s6, some (.int q, false), s8, s9, some (.int j, false), some (.int x, false), some (lD P, false), t, s14]) :
    exs Γ call false b__law_digit_3 [s0, s1, some (.int p, false), some (.int k, false), some (nwD M, true), s5, s6, some (.int q, false), s8, s9, some (.int j, false), s11, s12, s13, s14] = .nx [s0, s1, some (.int p, false), some (.int k, false), some (nwD (M.set j r), true), s5, s6, some (.int q, false), s8, s9, some (.int j, false), some (.int x, false), some (lD P, false), t, s14] := by
  have z := setI_nw (r := r) jM
  simp -implicitDefEqProofs [b__law_digit_3, dpk_int, eb, jM, qM, mj, mq, ql, hx, c, -List.map_set, -setI, z]
theorem dig_st0 {call : Nat → List (D × Bool) → CRes} {q : Nat} {p : Int} (M : List (List Int)) (s0 s1 s5 s6 s8 s9 s11 s12 s13 s14 : Sl) (k : Nat) :
    exs Γ call false b__law_digit_3 [s0, s1, some (.int p, false), some (.int k, false), some (nwD M, true), s5, s6, some (.int q, false), s8, s9, some (.int q, false), s11, s12, s13, s14] = .nx [s0, s1, some (.int p, false), some (.int k, false), some (nwD M, true), s5, s6, some (.int q, false), s8, s9, some (.int q, false), s11, s12, s13, s14] := by
  simp [b__law_digit_3, dpk_int]
/-- the others less what is to go -/
theorem dig_others (n : Nat) {k q w : Nat} {p : Int} {N1 : List (List Int)} {P : List Int} (h2 : 2 ≤ p) (hs : p ≤ 9973) (hN : N1.length = k) (hk : k ≤ 500) (hw : ∀ i, i < k → Rl p w (ln N1 i)) (hw1 : w = k + 1) (hP : ln N1 q = P) (hq : q < k) (s0 s1 s5 s6 s8 s9 s10 s11 s12 s13 s14 : Sl) :
    ∃ N3 s10' s11' s12' s13', N3.length = k ∧ (∀ i, i < k → ln N3 i = if i = q then P else lsr p (ln N1 i) (at' (ln N1 i) q) P) ∧
      frl Γ (callN Γ n) false (.one 10) b__law_digit_3 (rgD 0 k) [s0, s1, some (.int p, false), some (.int k, false), some (nwD N1, true), s5, s6, some (.int q, false), s8, s9, s10, s11, s12, s13, s14] =
      .nx [s0, s1, some (.int p, false), some (.int k, false), some (nwD N3, true), s5, s6, some (.int q, false), s8, s9, s10', s11', s12', s13', s14] := by
  have pP : Rl p w P := by rw [← hP]; exact hw q hq
  obtain ⟨env', h1, N3, s10', s11', s12', s13', h3, h4, h5⟩ := frl_inv Γ (callN Γ n) (io := false) (tg := .one 10) (b := b__law_digit_3) (fun j env => ∃ M s10 s11 s12 s13, M.length = k ∧ (∀ i, i < k → ln M i = if i < j ∧ i ≠ q then lsr p (ln N1 i) (at' (ln N1 i) q) P else ln N1 i) ∧ env = [s0, s1, some (.int p, false), some (.int k, false), some (nwD M, true), s5, s6, some (.int q, false), s8, s9, s10, s11, s12, s13, s14])
    (rgD 0 k) 0 [s0, s1, some (.int p, false), some (.int k, false), some (nwD N1, true), s5, s6, some (.int q, false), s8, s9, s10, s11, s12, s13, s14] ⟨N1, s10, s11, s12, s13, hN, fun i hi => by rw [if_neg (by omega)], rfl⟩ (by
      rintro j d env hd ⟨M, s10, s11, s12, s13, m1, m2, rfl⟩
      obtain ⟨rfl, hj⟩ := rgD_get hd
      have hj : j < k := by omega
      simp only [Nat.zero_add, Int.zero_add] at m2 ⊢
      by_cases e : j = q
      · subst e
        refine ⟨_, _, rfl, ?_, M, some (.int j, false), s11, s12, s13, m1, fun i hi => ?_, rfl⟩
        · exact dig_st0 M s0 s1 s5 s6 s8 s9 s11 s12 s13 s14 k
        · rw [m2 i hi]
          by_cases c : i < j ∧ i ≠ j
          · rw [if_pos c, if_pos ⟨by omega, c.2⟩]
          · rw [if_neg c, if_neg (by omega)]
      · have mj : ln M j = ln N1 j := by rw [m2 j hj, if_neg (by omega)]
        have mq : ln M q = P := by rw [m2 q hq, if_neg (by omega), hP]
        have rj := hw j hj
        have a0 := rj.at_lo q
        have a1 := rj.at_hi (by omega) q
        obtain ⟨t, c⟩ := dig_less (call := callN Γ n) (n := k) (j := j) (w := w) (p := p) (m := at' (ln N1 j) q) (N := M) (P := P) h2 hs (by omega) (by rw [mj]; exact rj) hw1 hk pP ⟨a0, a1⟩ s0 s1 s5 s6 (some (.int q, false)) s8 s9 s13 s14
        rw [mj] at c
        have eb : ((j : Int) == (q : Int)) = false := by rw [beq_eq_false_iff_ne]; omega
        have jM : j < M.length := by omega
        have qM : q < M.length := by omega
        have ql : q < (ln N1 j).length := by rw [rj.len]; omega
        have lj : (ln N1 j).length = w := rj.len
        refine ⟨_, [s0, s1, some (.int p, false), some (.int k, false), some (nwD (M.set j (lsr p (ln N1 j) (at' (ln N1 j) q) P)), true), s5, s6, some (.int q, false), s8, s9, some (.int j, false), some (.int (at' (ln N1 j) q), false), some (lD P, false), t, s14], rfl, ?_, M.set j (lsr p (ln N1 j) (at' (ln N1 j) q) P), some (.int j, false), some (.int (at' (ln N1 j) q), false), some (lD P, false), t, by simp [m1], fun i hi => ?_, rfl⟩
        · exact dig_st eb jM qM mj mq ql rfl s0 s1 s5 s6 s8 s9 s11 s12 s13 s14 s0 s0 t k c
        · rw [ln_set (by omega)]
          by_cases c1 : i = j
          · rw [if_pos c1, if_pos ⟨by omega, by omega⟩, c1]
          · rw [if_neg c1, m2 i hi]
            by_cases c2 : i < j ∧ i ≠ q
            · rw [if_pos c2, if_pos ⟨by omega, c2.2⟩]
            · rw [if_neg c2, if_neg (by omega)])
  refine ⟨N3, s10', s11', s12', s13', h3, fun i hi => ?_, ?_⟩
  · rw [h4 i hi]
    by_cases e : i = q
    · rw [if_pos e, if_neg (by omega), e, hP]
    · rw [if_neg e, if_pos ⟨by rw [rgD_len]; omega, e⟩]
  · rw [h1, h5]
theorem dig_ne {w : Nat} {p : Int} {N : List (List Int)} {A B : List (List Int)} {L : List Int} {n q : Nat} (hp : PrI p) (hT : Tr p n A B) (hq : q < n) (h : TJ p n (n + 1) (fun x => ∀ i, i < n → p ∣ dt (n + 1) (ln (aug0 p n A L) i) x) q N) (hr : ∀ i, i < n → (ln A i).length = n) : smI N n q ≠ [] := fun z => by
  obtain ⟨x, h1, h2, h3⟩ := h.stuck hq fun i a b => smI_nil z i a b
  have k := hT.inj x (fun i hi => ?_) q hq
  · rw [h2] at k
    exact hp.ip.2 k
  · have e := h1 i hi
    have e2 : dt (n + 1) (ln (aug0 p n A L) i) x = dt n (rst_ p (ln A i)) x := by
      show sm _ n + _ * x n = _
      rw [h3 n hq, Int.mul_zero, Int.add_zero]
      refine sm_congr fun c hc => ?_
      rw [aug0_ln hi, at_app1 (by simp [rst_, hr i hi]; exact hc)]
    rw [e2] at e
    exact (dt_rst x).dvd.1 e
theorem dig_place (m : Nat) {n q : Nat} {p : Int} {N A B : List (List Int)} {L : List Int} (hp : PrI p) (hs : p ≤ 9973) (hn : n ≤ 400) (hT : Tr p n A B) (hr : ∀ i, i < n → (ln A i).length = n) (hq : q < n) (h : TJ p n (n + 1) (fun x => ∀ i, i < n → p ∣ dt (n + 1) (ln (aug0 p n A L) i) x) q N) (s0 s1 s5 s6 s8 s9 s10 s11 s12 s13 s14 : Sl) :
    ∃ N3 s5' s6' s8' s9' s10' s11' s12' s13', TJ p n (n + 1) (fun x => ∀ i, i < n → p ∣ dt (n + 1) (ln (aug0 p n A L) i) x) (q + 1) N3 ∧
      exs Γ (callN Γ m) false b__law_digit_2 [s0, s1, some (.int p, false), some (.int n, false), some (nwD N, true), s5, s6, some (.int q, false), s8, s9, s10, s11, s12, s13, s14] =
      .nx [s0, s1, some (.int p, false), some (.int n, false), some (nwD N3, true), s5', s6', some (.int q, false), s8', s9', s10', s11', s12', s13', s14] := by
  have h2 := hp.1
  have hl := h.len
  obtain ⟨t6, e1⟩ := dig_some (call := callN Γ m) (n := n) (q := q) (w := n + 1) (N := N) h.len (by omega) (fun i hi => (h.rl i hi).len) (by omega) (by omega) s0 s1 (some (.int p, false)) s5 s6 s8 s9 s10 s11 s12 s13 s14
  cases hF : smI N n q with
  | nil => exact absurd hF (dig_ne (w := 0) hp hT hq h hr)
  | cons f rest =>
    obtain ⟨f1, f2, f3⟩ := mem_smI (N := N) (n := n) (q := q) (f := f) (by rw [hF]; simp)
    rw [hF] at e1
    simp only [List.map_cons] at e1
    let N1 := (N.set q (ln N f)).set f (ln N q)
    have l1 : N1.length = n := by simp [N1, h.len]
    have a1 : ∀ i, ln N1 i = if i = q then ln N f else if i = f then ln N q else ln N i := fun i => by
      show ln ((N.set q (ln N f)).set f (ln N q)) i = _
      rw [ln_set (by simp; omega), ln_set (by omega)]
      by_cases c : i = q
      · by_cases c2 : i = f
        · rw [if_pos c2, if_pos c, ← c, ← c2]
        · rw [if_neg c2, if_pos c, if_pos c]
      · rw [if_neg c, if_neg c]
    have n1q : ln N1 q = ln N f := by rw [a1, if_pos rfl]
    have rf := h.rl f f2
    have y0 := rf.at_lo q
    have y1 := rf.at_hi (by omega) q
    obtain ⟨t5, e2⟩ := dig_back (call := callN Γ m) (y := at' (ln N f) q) h2 hs y0 y1 s0 s1 (some (.int n, false)) (some (nwD N1, true)) s5 (some (.int f, false)) (some (.int q, false)) s9 s10 s11 s12 s13 s14
    obtain ⟨bi, bt, eb, ebi⟩ := bkL_head (p := p) (y := at' (ln N f) q) hp (by rw [Int.emod_eq_of_lt y0 y1]; exact f3)
    rw [eb] at e2
    simp only [List.map_cons] at e2
    rw [ebi] at e2
    have b0 := inv_lo h2 (at' (ln N f) q)
    have b1 := inv_hi h2 (at' (ln N f) q)
    obtain ⟨b, hb⟩ : ∃ b, inv p (at' (ln N f) q) = b := ⟨_, rfl⟩
    rw [hb] at b0 b1 e2
    have rP : Rl p (n + 1) (scl p (ln N f) b) := scl_rl (by omega) rf.len
    obtain ⟨t5', e3⟩ := dig_scl (call := callN Γ m) (q := q) (p := p) (b := b) (N := N1) (by omega) (by omega) (by rw [n1q, rf.len]; omega) (by omega) s0 s1 (some (.int n, false)) t5 (some (.int f, false)) (some (.int (at' (ln N f) q), false)) s10 s11 s12 s13 s14
    rw [n1q] at e3
    obtain ⟨P, hP⟩ : ∃ P, scl p (ln N f) b = P := ⟨_, rfl⟩
    rw [hP] at rP e3
    have rl1 : ∀ i, i < n → Rl p (n + 1) (ln N1 i) := fun i hi => by
      rw [a1]
      split
      · exact rf
      · split
        · exact h.rl q hq
        · exact h.rl i hi
    let N2 := N1.set q P
    have a2 : ∀ i, ln N2 i = if i = q then P else ln N1 i := fun i => ln_set (by omega)
    obtain ⟨N3, t10, t11, t12, t13, l3, a3, e4⟩ := dig_others m (k := n) (q := q) (w := n + 1) (p := p) (N1 := N2) (P := P) h2 hs (by simp [N2, l1]) (by omega) (fun i hi => by
      rw [a2]
      split
      · exact rP
      · exact rl1 i hi) rfl (by rw [a2, if_pos rfl]) hq s0 s1 t5' (some (.int f, false)) (some (.int (at' (ln N f) q), false)) (some (.int b, false)) s10 s11 s12 s13 s14
    refine ⟨N3, t5', some (.int f, false), some (.int (at' (ln N f) q), false), some (.int b, false), t10, t11, t12, t13, h.step hp f1 f2 f3 P (fun i => ln N1 i) (by rw [hb, hP]) a1 l3 (fun i hi => ?_), ?_⟩
    · rw [a3 i hi, a2]
      by_cases c : i = q
      · rw [if_pos c, if_pos c]
      · rw [if_neg c, if_neg c, if_neg c]
    · have z1 := setI_nw (N := N) (k := q) (r := ln N f) (by omega)
      have z2 := setI_nw (N := N.set q (ln N f)) (k := f) (r := ln N q) (by simp; omega)
      have z3 := setI_nw (N := N1) (k := q) (r := P) (by omega)
      have z1 : setI (N.map lD) (q : Int) (lD (ln N f)) = some ((N.set q (ln N f)).map lD) := z1
      have z2 : setI ((N.set q (ln N f)).map lD) (f : Int) (lD (ln N q)) = some (N1.map lD) := z2
      have z3 : setI (N1.map lD) (q : Int) (lD P) = some (N2.map lD) := z3
      have i1 : q < N1.length := by omega
      have i2 : q < N.length := by omega
      have i3 : f < N.length := by omega
      have i4 : q < (ln N f).length := by rw [rf.len]; omega
      have k1 : -100000000 ≤ (n : Int) ∧ (n : Int) ≤ 100000000 := by omega
      simp only [nwD] at e1 e2 e3 e4
      generalize N2 = N2 at *
      generalize N1 = N1 at *
      simp -implicitDefEqProofs [b__law_digit_2, e1, e2, e3, e4, ixn_0S, i1, i2, i3, i4, n1q, -List.map_set, -setI, z1, z2, z3, k1, sto]
theorem dig_only {n : Nat} {p : Int} {N A B : List (List Int)} {L : List Int} (hp : PrI p) (hT : Tr p n A B) (hr : ∀ i, i < n → (ln A i).length = n) (hL : L.length = n) (h : TJ p n (n + 1) (fun x => ∀ i, i < n → p ∣ dt (n + 1) (ln (aug0 p n A L) i) x) n N) : (List.range n).map (fun i => at' (ln N i) n) = dgt p B L := by
  have h2 := hp.1
  have q := h.done
  refine dgt_only (by omega) hT hL ⟨by simp, fun a ha => ?_, fun a ha => ?_⟩ fun i hi => ?_
  · obtain ⟨i, hi, rfl⟩ := List.mem_map.mp ha
    exact (h.rl i (List.mem_range.mp hi)).at_lo n
  · obtain ⟨i, hi, rfl⟩ := List.mem_map.mp ha
    exact (h.rl i (List.mem_range.mp hi)).at_hi (by omega) n
  · have e := q i hi
    have l : (rst_ p (ln A i)).length = n := by simp [rst_, hr i hi]
    have e2 : dt (n + 1) (ln (aug0 p n A L) i) (fun c => if c < n then at' (ln N c) n else -1) = dt n (rst_ p (ln A i)) (fun c => at' (ln N c) n) - at' L i % p := by
      show sm _ n + at' (ln (aug0 p n A L) i) n * (if n < n then at' (ln N n) n else -1) = _
      rw [if_neg (Nat.lt_irrefl n), aug0_ln hi, show at' (rst_ p (ln A i) ++ [at' L i % p]) n = at' L i % p by
        have := at_app2 (r := rst_ p (ln A i)) (s := [at' L i % p]) (k := 0) l
        rw [Nat.add_zero] at this
        rw [this]
        rfl]
      rw [sm_congr (g := fun c => at' (rst_ p (ln A i)) c * at' (ln N c) n) fun c hc => by
        dsimp only
        rw [if_pos hc, at_app1 (by omega)]]
      show sm (fun c => at' (rst_ p (ln A i)) c * at' (ln N c) n) n + _ = sm (fun c => at' (rst_ p (ln A i)) c * at' (ln N c) n) n - _
      omega
    rw [e2] at e
    have z : Cg p (dt n (rst_ p (ln A i)) (fun c => at' (ln N c) n)) (at' L i % p) := e
    have z2 := (dt_rst (w := n) (p := p) (r := ln A i) (fun c => at' (ln N c) n)).sy.tr (z.tr (Cg.emod _ _))
    have z3 : dp n (at' (ln A i)) (at' ((List.range n).map fun i => at' (ln N i) n)) = dt n (ln A i) fun c => at' (ln N c) n := dp_congr fun c hc => by
      rw [at_eq (by simp; exact hc)]
      simp
    rw [z3]
    exact z2
theorem dig_tell {call : Nat → List (D × Bool) → CRes} {n : Nat} {N : List (List Int)} (hN : N.length = n) (hn : n ≤ 1000) (hw : ∀ i, i < n → (ln N i).length = n + 1) (s0 s1 s2 s5 s6 s7 s8 s9 s10 s11 s12 s13 s14 : Sl) :
    ∃ s14', ev Γ call c__law_digit_7 [s0, s1, s2, some (.int n, false), some (nwD N, true), s5, s6, s7, s8, s9, s10, s11, s12, s13, s14] = .ok (lD ((List.range n).map fun i => at' (ln N i) n), true) [s0, s1, s2, some (.int n, false), some (nwD N, false), s5, s6, s7, s8, s9, s10, s11, s12, s13, s14'] := by
  obtain ⟨t, e⟩ := lcm Γ call (it := .seq (.var 4)) (i := 14) (body := .idxv 14 (.var 3)) (env := [s0, s1, s2, some (.int n, false), some (nwD N, true), s5, s6, s7, s8, s9, s10, s11, s12, s13, s14]) (e1 := [s0, s1, s2, some (.int n, false), some (nwD N, false), s5, s6, s7, s8, s9, s10, s11, s12, s13, s14]) N lD (fun r => .int (at' r n)) (by simp) (by simp [LIM]; omega) (fun r hr => by
    obtain ⟨i, hi, rfl⟩ := mem_ln hr
    have l := hw i (by omega)
    exact ⟨false, by simp [l]⟩)
  have z : N.map (fun r => D.int (at' r n)) = vD ((List.range n).map fun i => at' (ln N i) n) := by
    refine List.ext_getElem (by simp [hN]) fun i h1 h2 => ?_
    have : i < N.length := by simpa using h1
    simp [ln_eq this]
  rw [z] at e
  exact ⟨t, e⟩
theorem r_digit (m : Nat) {n : Nat} {p : Int} {A B : List (List Int)} {L : List Int} (hp : PrI p) (hs : p ≤ 9973) (hn : n ≤ 400) (hA : A.length = n) (hr : ∀ i, i < n → (ln A i).length = n) (hT : Tr p n A B) (hL : L.length = n) :
    callN Γ (m + 1) 40 [(mD A, false), (lD L, false), (.int p, false)] = .ret (lD (dgt p B L), true) none := by
  rw [callN_eq rfl]
  have h2 := hp.1
  have lp : p.natAbs.log2 < 9000 := lg (by omega) (by omega)
  obtain ⟨t5, t6, e1⟩ := dig_start (call := callN Γ m) (n := n) (p := p) (A := A) (L := L) (by omega) (by omega) hA hr hL lp none none none none none none none none none none none
  have T0 : TJ p n (n + 1) (fun x => ∀ i, i < n → p ∣ dt (n + 1) (ln (aug0 p n A L) i) x) 0 (aug0 p n A L) := TJ.start (by omega) (by simp [aug0]) fun i hi => by
    have r1 := rst_rl (p := p) (r := ln A i) (w := n) (by omega) (hr i hi)
    rw [aug0_ln hi]
    refine ⟨by simp [r1.len], fun a ha => ?_, fun a ha => ?_⟩
    · rcases List.mem_append.mp ha with z | z
      · exact r1.lo a z
      · rw [List.mem_singleton.mp z]
        exact Int.emod_nonneg _ (by omega)
    · rcases List.mem_append.mp ha with z | z
      · exact r1.hi a z
      · rw [List.mem_singleton.mp z]
        exact Int.emod_lt_of_pos _ (by omega)
  obtain ⟨env', e2, N, s5, s6, s7, s8, s9, s10, s11, s12, s13, tj, h3⟩ := frl_inv Γ (callN Γ m) (io := false) (tg := .one 7) (b := b__law_digit_2)
    (fun q env => ∃ N s5 s6 s7 s8 s9 s10 s11 s12 s13, TJ p n (n + 1) (fun x => ∀ i, i < n → p ∣ dt (n + 1) (ln (aug0 p n A L) i) x) q N ∧ env = [some (mD A, false), some (lD L, false), some (.int p, false), some (.int n, false), some (nwD N, true), s5, s6, s7, s8, s9, s10, s11, s12, s13, none])
    (rgD 0 n) 0 [some (mD A, false), some (lD L, false), some (.int p, false), some (.int n, false), some (nwD (aug0 p n A L), true), t5, t6, none, none, none, none, none, none, none, none] ⟨_, t5, t6, none, none, none, none, none, none, none, T0, rfl⟩ (by
      rintro q d env hd ⟨N, s5, s6, s7, s8, s9, s10, s11, s12, s13, tj, rfl⟩
      obtain ⟨rfl, hq⟩ := rgD_get hd
      simp only [Nat.zero_add, Int.zero_add] at tj ⊢
      obtain ⟨N3, u5, u6, u8, u9, u10, u11, u12, u13, tj3, e⟩ := dig_place m hp hs hn hT hr (by omega) tj (some (mD A, false)) (some (lD L, false)) s5 s6 s8 s9 s10 s11 s12 s13 none
      exact ⟨_, _, rfl, e, N3, u5, u6, _, u8, u9, u10, u11, u12, u13, tj3, rfl⟩)
  subst h3
  rw [rgD_len, show 0 + ((n : Int) - 0).toNat = n by omega] at tj
  obtain ⟨t, e3⟩ := dig_tell (call := callN Γ m) (n := n) (N := N) tj.len (by omega) (fun i hi => (tj.rl i hi).len) (some (mD A, false)) (some (lD L, false)) (some (.int p, false)) s5 s6 s7 s8 s9 s10 s11 s12 s13 none
  rw [dig_only hp hT hr hL tj] at e3
  have k1 : -100000000 ≤ (n : Int) ∧ (n : Int) ≤ 100000000 := by omega
  generalize dgt p B L = g at *
  simp -implicitDefEqProofs [body, b__law_digit, b__law_digit_1, hA, e1, k1, e2, e3]
end PL
/-! K07R1: the law's own digits. -/
namespace PL
open PySem
theorem law_pick (v : Int) (h0 : 0 ≤ v) (h1 : v < 8) : ∃ j p, ixn 8 v = some j ∧ [D.int 2, D.int 3, D.int 5, D.int 7, D.int 11, D.int 13, D.int 97, D.int 101][j]? = some (.int p) ∧ PrI p ∧ p ≤ 9973 := by
  refine ⟨v.toNat, ?_⟩
  have : v = 0 ∨ v = 1 ∨ v = 2 ∨ v = 3 ∨ v = 4 ∨ v = 5 ∨ v = 6 ∨ v = 7 := by omega
  rcases this with z | z | z | z | z | z | z | z <;> subst z
  · exact ⟨2, rfl, rfl, prI_nat 2 (by omega) (by omega) (by decide +kernel), by omega⟩
  · exact ⟨3, rfl, rfl, prI_nat 3 (by omega) (by omega) (by decide +kernel), by omega⟩
  · exact ⟨5, rfl, rfl, prI_nat 5 (by omega) (by omega) (by decide +kernel), by omega⟩
  · exact ⟨7, rfl, rfl, prI_nat 7 (by omega) (by omega) (by decide +kernel), by omega⟩
  · exact ⟨11, rfl, rfl, prI_nat 11 (by omega) (by omega) (by decide +kernel), by omega⟩
  · exact ⟨13, rfl, rfl, prI_nat 13 (by omega) (by omega) (by decide +kernel), by omega⟩
  · exact ⟨97, rfl, rfl, prI_nat 97 (by omega) (by omega) (by decide +kernel), by omega⟩
  · exact ⟨101, rfl, rfl, prI_nat 101 (by omega) (by omega) (by decide +kernel), by omega⟩
/-- what a digit comes to -/
theorem law_done {call : Nat → List (D × Bool) → CRes} {n : Nat} {m : List (List Int)} {d : List Int} (hm : m.length = n) (hn : n ≤ 1000) (hr : ∀ r ∈ m, r.length = n) (hd : d.length = n) (mo : ∀ r ∈ m, ∀ j, MulOk (at' r j) (at' d j)) (s0 s1 s2 s4 s5 s6 s7 s8 s9 s11 s12 s13 s14 s15 : Sl) :
    ∃ s12' s13', ev Γ call c_law_1 [s0, s1, s2, some (mD m, false), s4, s5, s6, s7, s8, s9, some (lD d, false), s11, s12, s13, s14, s15] = .ok (lD (m.map fun r => sdot r d), true) [s0, s1, s2, some (mD m, false), s4, s5, s6, s7, s8, s9, some (lD d, false), s11, s12', s13', s14, s15] := by
  obtain ⟨e3, t, e, t12, rfl⟩ := lcmP Γ call (it := .seq (.var 3)) (i := 13) (body := .bi .sum (.cons (c_law_2) .nil)) (env := [s0, s1, s2, some (mD m, false), s4, s5, s6, s7, s8, s9, some (lD d, false), s11, s12, s13, s14, s15]) (e1 := [s0, s1, s2, some (mD m, false), s4, s5, s6, s7, s8, s9, some (lD d, false), s11, s12, s13, s14, s15])
    (fun env => ∃ s12, env = [s0, s1, s2, some (mD m, false), s4, s5, s6, s7, s8, s9, some (lD d, false), s11, s12, none, s14, s15]) m tD (fun r => .int (sdot r d)) (by simp) (by simp [LIM]; omega) ⟨s12, rfl⟩ (by
      rintro r hr0 env ⟨s12, rfl⟩
      have lr := hr r hr0
      obtain ⟨t, e⟩ := lcm Γ call (it := .rng1 (.bi .len (.cons (.var 3) .nil))) (i := 12) (body := .bin .mul (.idxv 13 (.var 12)) (.idxv 10 (.var 12))) (env := [s0, s1, s2, some (mD m, false), s4, s5, s6, s7, s8, s9, some (lD d, false), s11, s12, some (tD r, false), s14, s15])
        (e1 := [s0, s1, s2, some (mD m, false), s4, s5, s6, s7, s8, s9, some (lD d, false), s11, s12, some (tD r, false), s14, s15]) (List.range n) (fun j => .int (j : Int)) (fun j => .int (at' r j * at' d j)) (evi_rngS Γ call (by simp [hm]) (by omega)) (by simp [LIM]; omega) (fun j hj => by
          have hj := List.mem_range.mp hj
          exact ⟨false, by simp [lr, hd, hj, mo r hr0 j]⟩)
      have e : ev Γ call c_law_2 _ = _ := e
      have z : (List.range n).map (fun j => D.int (at' r j * at' d j)) = vD ((List.range n).map fun j => at' r j * at' d j) := by simp
      rw [z] at e
      have i := intsOf_vD ((List.range n).map fun j => at' r j * at' d j)
      have s := sdot_sum lr hd
      generalize (List.range n).map (fun j => at' r j * at' d j) = q at e i s
      simp only [List.set_cons_succ, List.set_cons_zero] at e ⊢
      refine ⟨false, [s0, s1, s2, some (mD m, false), s4, s5, s6, s7, s8, s9, some (lD d, false), s11, t, some (tD r, false), s14, s15], ?_, t, rfl⟩
      simp [e, i, s])
  have e : ev Γ call c_law_1 _ = _ := e
  have z : m.map (fun r => D.int (sdot r d)) = vD (m.map fun r => sdot r d) := by simp
  rw [z] at e
  simp only [List.set_cons_succ, List.set_cons_zero] at e
  exact ⟨t12, t, e⟩
theorem law_left {call : Nat → List (D × Bool) → CRes} {n : Nat} {p : Int} {m : List (List Int)} {L d : List Int} (hp : 0 < p) (lp : p.natAbs.log2 < 9000) (hm : m.length = n) (hn : n ≤ 1000) (hL : L.length = n) (s0 s1 s2 s4 s6 s8 s9 s10 s12 s13 s14 s15 : Sl) :
    ∃ s12', ev Γ call c_law_3 [s0, s1, s2, some (mD m, false), s4, some (.int p, false), s6, some (lD L, false), s8, s9, s10, some (lD (m.map fun r => sdot r d), true), s12, s13, s14, s15] = .ok (lD (nxl p m L d), true) [s0, s1, s2, some (mD m, false), s4, some (.int p, false), s6, some (lD L, false), s8, s9, s10, some (lD (m.map fun r => sdot r d), true), s12', s13, s14, s15] := by
  have en : nxl p m L d = List.zipWith (fun a b => (a - b) / p) L (m.map fun r => sdot r d) := rfl
  have ly : (m.map fun r => sdot r d).length = n := by simp [hm]
  generalize m.map (fun r => sdot r d) = y at en ly ⊢
  obtain ⟨t, e⟩ := lcm Γ call (it := .rng1 (.bi .len (.cons (.var 3) .nil))) (i := 12) (body := .bin .div (.bin .sub (.idxv 7 (.var 12)) (.idxv 11 (.var 12))) (.var 5)) (env := [s0, s1, s2, some (mD m, false), s4, some (.int p, false), s6, some (lD L, false), s8, s9, s10, some (lD y, true), s12, s13, s14, s15])
    (e1 := [s0, s1, s2, some (mD m, false), s4, some (.int p, false), s6, some (lD L, false), s8, s9, s10, some (lD y, true), s12, s13, s14, s15]) (List.range n) (fun j => .int (j : Int)) (fun j => .int ((at' L j - at' y j) / p)) (evi_rngS Γ call (by simp [hm]) (by omega)) (by simp [LIM]; omega) (fun j hj => by
      have hj := List.mem_range.mp hj
      exact ⟨false, by simp [hL, ly, hj, hp, lp]⟩)
  have z : (List.range n).map (fun j => D.int ((at' L j - at' y j) / p)) = vD (nxl p m L d) := by
    rw [en]
    refine List.ext_getElem (by simp [hL, ly]) fun i h1 h2 => ?_
    have hi : i < n := by simpa using h1
    simp [at_eq (show i < L.length by omega), at_eq (show i < y.length by omega)]
  rw [z] at e
  exact ⟨t, e⟩
/-- one digit more -/
theorem law_step (n k : Nat) {w : Nat} {p : Int} {m B : List (List Int)} {b : List Int} (hp : PrI p) (hs : p ≤ 9973) (h : RowsOk m m.length) (hw : w = m.length) (hb : RightOk b w) (hT : Tr p w m B) (hk : k ≤ 100) (s0 s1 s2 s4 s6 s9 s10 s11 s12 s13 s14 s15 : Sl) :
    ∃ s10' s11' s12' s13', exs Γ (callN Γ (n + 1)) false b_law_4 [s0, s1, s2, some (mD m, false), s4, some (.int p, false), s6, some (lD (lrun p m B b k).1, true), some (.lst ((lrun p m B b k).2.map tD), true), s9, s10, s11, s12, s13, s14, s15] =
      .nx [s0, s1, s2, some (mD m, false), s4, some (.int p, false), s6, some (lD (lrun p m B b (k + 1)).1, true), some (.lst ((lrun p m B b (k + 1)).2.map tD), true), s9, s10', s11', s12', s13', s14, s15] := by
  have h2 := hp.1
  subst hw
  have few := h.few
  have li := (lfOk_of hp hs h hb hT).toLI
  have lp : p.natAbs.log2 < 9000 := lg (by omega) (by omega)
  have ll := li.left k
  have tl := lrun_len p m B b k
  obtain ⟨L, hL⟩ : ∃ L, (lrun p m B b k).1 = L := ⟨_, rfl⟩
  obtain ⟨U, hU⟩ : ∃ U, (lrun p m B b k).2 = U := ⟨_, rfl⟩
  have eL : (lrun p m B b (k + 1)).1 = nxl p m L (dgt p B L) := by rw [← hL]; rfl
  have eU : (lrun p m B b (k + 1)).2 = U ++ [dgt p B L] := by rw [← hL, ← hU]; rfl
  rw [eL, eU, hL, hU]
  rw [hL] at ll
  rw [hU] at tl
  have e1 := r_digit n hp hs (by omega) rfl li.hr hT ll
  have dr := dgt_rl (by omega) hT.len L (p := p)
  have dl := dr.len
  have mo : ∀ r ∈ m, ∀ j, MulOk (at' r j) (at' (dgt p B L) j) := fun r _ j => mulOk_r (by
    have := dr.at_lo j
    have := dr.at_hi (by omega) j
    omega)
  obtain ⟨t12, t13, e2⟩ := law_done (call := callN Γ (n + 1)) (n := m.length) (m := m) (d := dgt p B L) rfl (by omega) (fun r hr => h.len r hr) dl mo s0 s1 s2 s4 (some (.int p, false)) s6 (some (lD L, false)) (some (.lst ((U ++ [dgt p B L]).map tD), true)) s9 s11 s12 s13 s14 s15
  obtain ⟨t12', e3⟩ := law_left (call := callN Γ (n + 1)) (n := m.length) (p := p) (m := m) (L := L) (d := dgt p B L) (by omega) lp rfl (by omega) ll s0 s1 s2 s4 s6 (some (.lst ((U ++ [dgt p B L]).map tD), true)) s9 (some (lD (dgt p B L), false)) t12 t13 s14 s15
  refine ⟨some (lD (dgt p B L), false), some (lD (m.map fun r => sdot r (dgt p B L)), true), t12', t13, ?_⟩
  generalize nxl p m L (dgt p B L) = L' at e3 ⊢
  generalize m.map (fun r => sdot r (dgt p B L)) = y at e2 e3
  generalize dgt p B L = d at *
  have lz : U.length < LIM := by simp [LIM]; omega
  rw [List.map_append, List.map_singleton] at e2 e3 ⊢
  simp -implicitDefEqProofs [b_law_4, dfl_nil, e1, e2, e3, lz]
end PL
/-! K07R2: the law. -/
namespace PL
open PySem
theorem dig_loop (n j : Nat) {w : Nat} {p : Int} {m B : List (List Int)} {b : List Int} (hp : PrI p) (hs : p ≤ 9973) (h : RowsOk m m.length) (hw : w = m.length) (hb : RightOk b w) (hT : Tr p w m B) (hj : j ≤ 100) (s0 s1 s2 s4 s6 s9 s10 s11 s12 s13 s14 s15 : Sl) :
    ∃ s9' s10' s11' s12' s13', frl Γ (callN Γ (n + 1)) false (.one 9) b_law_4 (rgD 0 j) [s0, s1, s2, some (mD m, false), s4, some (.int p, false), s6, some (lD b, true), some (.lst [], true), s9, s10, s11, s12, s13, s14, s15] =
      .nx [s0, s1, s2, some (mD m, false), s4, some (.int p, false), s6, some (lD (lrun p m B b j).1, true), some (.lst ((lrun p m B b j).2.map tD), true), s9', s10', s11', s12', s13', s14, s15] := by
  obtain ⟨env', e, s9', s10', s11', s12', s13', h3⟩ := frl_inv Γ (callN Γ (n + 1)) (io := false) (tg := .one 9) (b := b_law_4)
    (fun k env => ∃ s9 s10 s11 s12 s13, env = [s0, s1, s2, some (mD m, false), s4, some (.int p, false), s6, some (lD (lrun p m B b k).1, true), some (.lst ((lrun p m B b k).2.map tD), true), s9, s10, s11, s12, s13, s14, s15])
    (rgD 0 j) 0 [s0, s1, s2, some (mD m, false), s4, some (.int p, false), s6, some (lD b, true), some (.lst [], true), s9, s10, s11, s12, s13, s14, s15] ⟨s9, s10, s11, s12, s13, rfl⟩ (by
      rintro k d env hd ⟨s9, s10, s11, s12, s13, rfl⟩
      obtain ⟨rfl, hk⟩ := rgD_get hd
      obtain ⟨t10, t11, t12, t13, e⟩ := law_step n k hp hs h hw hb hT (by omega) s0 s1 s2 s4 s6 (some (.int k, false)) s10 s11 s12 s13 s14 s15
      simp only [Nat.zero_add, Int.zero_add]
      exact ⟨_, _, rfl, e, _, t10, t11, t12, t13, rfl⟩)
  subst h3
  rw [rgD_len, show 0 + ((j : Int) - 0).toNat = j by omega] at e
  exact ⟨s9', s10', s11', s12', s13', e⟩
theorem alk_dig {T : List (List Int)} {w : Nat} (h : ∀ d ∈ T, d.length = w) (hw : w ≤ 1000) (hT : T.length ≤ 1000) : Alk 2 (.lst (T.map tD)) := by
  refine ⟨by simp [LIM]; omega, fun x hx => ?_⟩
  obtain ⟨d, hd, rfl⟩ := List.mem_map.mp hx
  refine ⟨by have := h d hd; simp [LIM]; omega, fun y hy => ?_⟩
  obtain ⟨z, hz, rfl⟩ := List.mem_map.mp hy
  exact trivial
theorem law_again (n j : Nat) {w : Nat} {p : Int} {m B : List (List Int)} {b : List Int} (c : Bool) (hp : PrI p) (hs : p ≤ 9973) (h : RowsOk m m.length) (hw : w = m.length) (hb : RightOk b w) (hT : Tr p w m B) (hj : j ≤ 100) (s0 s1 s2 s7 s9 s10 s11 s12 s13 s14 s15 : Sl) :
    ∃ s15', exs Γ (callN Γ (n + 5)) false b_law_5 [s0, s1, s2, some (mD m, false), some (tD b, false), some (.int p, false), some (.int j, false), s7, some (.lst ((lrun p m B b j).2.map tD), c), s9, s10, s11, s12, s13, s14, s15] =
      .nx [s0, s1, s2, some (mD m, false), some (tD b, false), some (.int p, false), some (.int j, false), s7, some (.lst ((lrun p m B b j).2.map tD), false), s9, s10, s11, s12, s13, s14, s15'] := by
  subst hw
  have e1 := r_lifted n j hp hs h hb hT (by omega)
  have few := h.few
  have tl := lrun_len p m B b j
  have li := (lfOk_of hp hs h hb hT).toLI
  have ll := li.len j
  generalize (lrun p m B b j).2 = T at e1 tl ll ⊢
  have e2 := r_alike 2 (n + 2) (.lst (T.map tD)) (by omega) (alk_dig ll (by omega) (by omega))
  have e2 : callN Γ (n + 5) 17 [(.lst (T.map tD), false), (.lst (T.map tD), false)] = _ := e2
  have u1 : unl Γ.om (.lst (T.map tD)) = true := by
    cases T <;> rfl
  have t1 : thwR (.bl true, false) = true := rfl
  have lz : T.length < LIM := by simp [LIM]; omega
  refine ⟨some (.lst (T.map tD ++ [.int 5]), true), ?_⟩
  cases c <;> simp -implicitDefEqProofs [b_law_5, b_law_6, dfl_nil, e1, e2, u1, t1, lz]
end PL
/-! K07R3: the law. -/
namespace PL
open PySem
theorem law_twice (n j : Nat) {w : Nat} {p : Int} {m B : List (List Int)} {b : List Int} (hp : PrI p) (hs : p ≤ 9973) (h : RowsOk m m.length) (hw : w = m.length) (hb : RightOk b w) (hT : Tr p w m B) (hj : j ≤ 100) (s0 s1 s2 s7 s9 s10 s11 s12 s13 s14 s15 : Sl) :
    ∃ s8' s14' s15', exs Γ (callN Γ (n + 5)) false b_law_3 [s0, s1, s2, some (mD m, false), some (tD b, false), some (.int p, false), some (.int j, false), s7, some (.lst ((lrun p m B b j).2.map tD), true), s9, s10, s11, s12, s13, s14, s15] =
      .nx [s0, s1, s2, some (mD m, false), some (tD b, false), some (.int p, false), some (.int j, false), s7, s8', s9, s10, s11, s12, s13, s14', s15'] := by
  obtain ⟨env', e, c, s14', s15', h3⟩ := frl_inv Γ (callN Γ (n + 5)) (io := false) (tg := .one 14) (b := b_law_5)
    (fun k env => ∃ c s14 s15, env = [s0, s1, s2, some (mD m, false), some (tD b, false), some (.int p, false), some (.int j, false), s7, some (.lst ((lrun p m B b j).2.map tD), c), s9, s10, s11, s12, s13, s14, s15])
    (rgD 0 2) 0 [s0, s1, s2, some (mD m, false), some (tD b, false), some (.int p, false), some (.int j, false), s7, some (.lst ((lrun p m B b j).2.map tD), true), s9, s10, s11, s12, s13, s14, s15] ⟨true, s14, s15, rfl⟩ (by
      rintro k d env hd ⟨c, s14, s15, rfl⟩
      obtain ⟨rfl, hk⟩ := rgD_get hd
      obtain ⟨t15, e⟩ := law_again n j c hp hs h hw hb hT hj s0 s1 s2 s7 s9 s10 s11 s12 s13 (some (.int k, false)) s15
      simp only [Nat.zero_add, Int.zero_add]
      exact ⟨_, _, rfl, e, _, _, _, rfl⟩)
  subst h3
  refine ⟨some (.lst ((lrun p m B b j).2.map tD), c), s14', s15', ?_⟩
  generalize (lrun p m B b j).2 = T at e ⊢
  simp [b_law_3, e]
theorem law_turn (n : Nat) {ns : List Int} {d : D} (hd : RwD ns d) (s2 s3 s4 s5 s6 s7 s8 s9 s10 s11 s12 s13 s14 s15 : Sl) :
    ∃ d' s3' s4' s5' s6' s7' s8' s9' s10' s11' s12' s13' s14' s15', RwD ns d' ∧ exs Γ (callN Γ (n + 5)) false b_law_2 [some (.scr ns, false), some (d, true), s2, s3, s4, s5, s6, s7, s8, s9, s10, s11, s12, s13, s14, s15] = .nx [some (.scr ns, false), some (d', true), s2, s3', s4', s5', s6', s7', s8', s9', s10', s11', s12', s13', s14', s15'] := by
  obtain ⟨m, b, d1, hd1, hm, hb, e1⟩ := r_square (n + 2) hd
  obtain ⟨v, d2, hd2, v0, v1, e2⟩ := hd1.take (n + 4) (m := 8) (by omega) (by omega)
  obtain ⟨j, p, hj, hjp, hp, hs⟩ := law_pick v v0 v1
  obtain ⟨u, d3, hd3, u0, u1, e3⟩ := hd2.take (n + 4) (m := 9) (by omega) (by omega)
  have e4 := r_rests_rank (n + 4) hp hs hm
  have few := hm.few
  have hA : ∀ i, i < m.length → (ln m i).length = m.length := fun i hi => hm.len _ (ln_mem hi)
  rcases r_turned_round (n + 2) true true hp hs (by omega) rfl hA with ⟨B, hB, _⟩ | ⟨⟨x, q, x1, x2, x3⟩, _⟩
  · have full := prof_full hp hA hB m.length (Nat.le_refl _)
    obtain ⟨k, rfl⟩ : ∃ k : Nat, u = (k : Int) := ⟨u.toNat, by omega⟩
    obtain ⟨t9, t10, t11, t12, t13, e5⟩ := dig_loop (n + 4) k hp hs hm rfl hb hB (by omega) (some (.scr ns, false)) (some (d3, true)) s2 (some (tD b, false)) (some (.int k, false)) s9 s10 s11 s12 s13 s14 s15
    obtain ⟨t8, t14, t15, e6⟩ := law_twice n k hp hs hm rfl hb hB (by omega) (some (.scr ns, false)) (some (d3, true)) s2 (some (lD (lrun p m B b k).1, true)) t9 t10 t11 t12 t13 s14 s15
    refine ⟨d3, some (mD m, false), some (tD b, false), some (.int p, false), some (.int k, false), some (lD (lrun p m B b k).1, true), t8, t9, t10, t11, t12, t13, t14, t15, hd3, ?_⟩
    have fl : ((prof p m m.length).2.map fun i : Nat => D.int i).length = m.length := by rw [full]; simp
    have bl := hb.len
    generalize prof p m m.length = s at e4 fl
    simp only [profD] at e4
    generalize (lrun p m B b k).1 = L at e5 e6 ⊢
    generalize (lrun p m B b k).2 = U at e5 e6
    have fm : (m.map tD).length = m.length := by simp
    obtain ⟨z1, z2, z3, _, rfl⟩ := hd
    obtain ⟨z4, z5, z6, _, rfl⟩ := hd1
    obtain ⟨y1, y2, y3, _, rfl⟩ := hd2
    obtain ⟨x1, x2, x3, _, rfl⟩ := hd3
    simp only [rwD] at *
    simp -implicitDefEqProofs [-List.length_map, b_law_2, fm, dfl_nil, e1, e2, e3, e4, ixn_z, hj, hjp, fl, dpk_int, LIM, bl, show (k : Int) ≤ 100000000 by omega, show -100000000 ≤ (k : Int) by omega, e5, e6]
  · have less := prof_less hp hA x1 x2 x3
    refine ⟨d2, some (mD m, false), some (tD b, false), some (.int p, false), s6, s7, s8, s9, s10, s11, s12, s13, s14, s15, hd2, ?_⟩
    generalize prof p m m.length = s at e4 less
    simp only [profD] at e4
    have fl : (((s.2.map fun i : Nat => D.int i).length : Nat) : Int) ≠ (m.length : Int) := by
      rw [List.length_map]
      omega
    have fb : ((((s.2.map fun i : Nat => D.int i).length : Nat) : Int) == (m.length : Int)) = false := by
      rw [beq_eq_false_iff_ne]
      exact fl
    have fm : (m.map tD).length = m.length := by simp
    obtain ⟨z1, z2, z3, _, rfl⟩ := hd
    obtain ⟨z4, z5, z6, _, rfl⟩ := hd1
    obtain ⟨y1, y2, y3, _, rfl⟩ := hd2
    simp only [rwD] at *
    simp -implicitDefEqProofs [-List.length_map, b_law_2, fm, dfl_nil, e1, e2, e4, ixn_z, hj, hjp, fb, dpk_int, LIM]
theorem law_all (n : Nat) (ns : List Int) : ∀ (ds : List D) (d : D) (s2 s3 s4 s5 s6 s7 s8 s9 s10 s11 s12 s13 s14 s15 : Sl), RwD ns d →
    ∃ env, frl Γ (callN Γ (n + 5)) false (.one 2) b_law_2 ds [some (.scr ns, false), some (d, true), s2, s3, s4, s5, s6, s7, s8, s9, s10, s11, s12, s13, s14, s15] = .nx env := by
  intro ds
  induction ds with
  | nil =>
    intros
    exact ⟨_, rfl⟩
  | cons x ds ih =>
    intro d s2 s3 s4 s5 s6 s7 s8 s9 s10 s11 s12 s13 s14 s15 hd
    obtain ⟨d', s3', s4', s5', s6', s7', s8', s9', s10', s11', s12', s13', s14', s15', hd', e⟩ := law_turn n hd (some (x, false)) s3 s4 s5 s6 s7 s8 s9 s10 s11 s12 s13 s14 s15
    obtain ⟨env, z⟩ := ih d' (some (x, false)) s3' s4' s5' s6' s7' s8' s9' s10' s11' s12' s13' s14' s15' hd'
    refine ⟨env, ?_⟩
    rw [← z]
    simp only [frl, forF, bnd, List.set_cons_succ, List.set_cons_zero, Bool.false_eq_true, false_and, if_false]
    rw [e]
def depth : Nat := 6
theorem law_true : ∀ ns : List Int, ns.length ≤ 63 → callN Γ depth 9 [(.scr ns, false)] = .ret (.bl true, false) none := by
  intro ns _
  unfold depth
  rw [callN_eq rfl]
  obtain ⟨env, e⟩ := law_all 0 ns (rgD 0 3) (rwD ns 0 0 0) none none none none none none none none none none none none none none ⟨0, 0, 0, by omega, rfl⟩
  simp only [Nat.reduceAdd] at e
  simp [body, b_law, b_law_1, LIM, e]
end PL
open PySem PySem.W PyProof.Rows
set_option maxRecDepth 100000 in
set_option maxHeartbeats 0 in
theorem PySem.Challenge.cw_powerlift_k07_digits_of_the_solution_holds : PySem.Challenge.rw_powerlift_k07_digits_of_the_solution.Holds := by
  w_on; o_law; k_head; (case hw => w_witness2)
  k_fill
  refine PL.walk_end (l := PySem.Challenge.rw_powerlift_k07_digits_of_the_solution) (n := PL.depth) PL.law_true ⟨rfl, by decide, by decide⟩ rfl rfl (fun w h Y => PySem.W.kIn_of Y) ?F
  case F =>
    intro w mg fa h KX G hmg
    refine' PL.all_mk KX G hmg ?a0 ?l0 ?c0 ?k0 ?a1 ?l1 ?c1 ?k1 ?a2 ?l2 ?c2 ?k2 ?a3 ?l3 ?c3 ?k3 ?a4 ?l4 ?c4 ?k4 ?a5 ?l5 ?c5 ?k5 ?a6 ?l6 ?c6 ?k6 ?a7 ?l7 ?c7 ?k7 ?a8 ?l8 ?c8 ?k8 ?a9 ?l9 ?c9 ?k9 ?a10 ?l10 ?c10 ?k10 ?a11 ?l11 ?c11 ?k11 ?a12 ?l12 ?c12 ?k12 ?a13 ?l13 ?c13 ?k13 ?a14 ?l14 ?c14 ?k14 ?a15 ?l15 ?c15 ?k15 ?a16 ?l16 ?c16 ?k16 ?a17 ?l17 ?c17 ?k17 ?a18 ?l18 ?c18 ?k18 ?a19 ?l19 ?c19 ?k19 ?a20 ?l20 ?c20 ?k20 ?a21 ?l21 ?c21 ?k21 ?a22 ?l22 ?c22 ?k22 ?a23 ?l23 ?c23 ?k23 ?u0 ?u1 ?u2 ?u3 ?u4 ?z0 ?z1 ?z2 ?z3 ?z4 ?z5 ?z6 ?z7 ?z8 ?z9 ?z10 ?z11 ?z12 ?z13 ?z14 ?z15 ?z16 ?z17 ?vf12 ?vf13 ?vnLifter ?vgLifter ?vdLifter ?voLifter ?vsLifter ?vmLifter ?vkLifter ?wLifter_rows ?wLifter_back ?wLifter_prime ?wLifter_left ?wLifter_taken
    (case vnLifter => k_is); (case a0 => k_is); (case l0 => k_is); (case c0 => k_is); (case k0 => k_is); (case a1 => k_is); (case l1 => k_is); (case c1 => k_is); (case k1 => k_is); (case a2 => k_is); (case l2 => k_is); (case c2 => k_is); (case k2 => k_is); (case a3 => k_is); (case l3 => k_is); (case c3 => k_is); (case k3 => k_is); (case a4 => k_is); (case l4 => k_is); (case c4 => k_is); (case k4 => k_is); (case a5 => k_is); (case l5 => k_is); (case c5 => k_is); (case k5 => k_is); (case a6 => k_is); (case l6 => k_is); (case c6 => k_is); (case k6 => k_is); (case a7 => k_is); (case l7 => k_is); (case c7 => k_is); (case k7 => k_is); (case a8 => k_is); (case l8 => k_is); (case c8 => k_is); (case k8 => k_is); (case a9 => k_is); (case l9 => k_is); (case c9 => k_is); (case k9 => k_is); (case a10 => k_is); (case l10 => k_is); (case c10 => k_is); (case k10 => k_is); (case a11 => k_is); (case l11 => k_is); (case c11 => k_is); (case k11 => k_is); (case a12 => k_is); (case l12 => k_is); (case c12 => k_is); (case k12 => k_is); (case a13 => k_is); (case l13 => k_is); (case c13 => k_is); (case k13 => k_is); (case a14 => k_is); (case l14 => k_is); (case c14 => k_is); (case k14 => k_is); (case a15 => k_is); (case l15 => k_is); (case c15 => k_is); (case k15 => k_is); (case a16 => k_is); (case l16 => k_is); (case c16 => k_is); (case k16 => k_is); (case a17 => k_is); (case l17 => k_is); (case c17 => k_is); (case k17 => k_is); (case a18 => k_is); (case l18 => k_is); (case c18 => k_is); (case k18 => k_is); (case a19 => k_is); (case l19 => k_is); (case c19 => k_is); (case k19 => k_is); (case a20 => k_is); (case l20 => k_is); (case c20 => k_is); (case k20 => k_is); (case a21 => k_is); (case l21 => k_is); (case c21 => k_is); (case k21 => k_is); (case a22 => k_is); (case l22 => k_is); (case c22 => k_is); (case k22 => k_is); (case a23 => k_is); (case l23 => k_is); (case c23 => k_is); (case k23 => k_is); (case u0 => k_is); (case u1 => k_is); (case u2 => k_is); (case u3 => k_is); (case u4 => k_is); (case z0 => k_is); (case z1 => k_is); (case z2 => k_is); (case z3 => k_is); (case z4 => k_is); (case z5 => k_is); (case z6 => k_is); (case z7 => k_is); (case z8 => k_is); (case z9 => k_is); (case z10 => k_is); (case z11 => k_is); (case z12 => k_is); (case z13 => k_is); (case z14 => k_is); (case z15 => k_is); (case z16 => k_is); (case z17 => k_is); (case vf12 => k_is); (case vf13 => k_is); (case vgLifter => k_is); (case vdLifter => k_is); (case voLifter => k_is); (case vsLifter => k_is); (case vmLifter => k_is); (case vkLifter => k_is); (case wLifter_rows => k_is); (case wLifter_back => k_is); (case wLifter_prime => k_is); (case wLifter_left => k_is); (case wLifter_taken => k_is)

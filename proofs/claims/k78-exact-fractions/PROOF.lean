import PyProof.Rows.All
import Wide.All
import OpenK.AllK
import Wide.FinOn
import HandS.ForMost
import HandS.Exc
import HandS.Wide
import HandS.Deep
import HandS.OwnEq
import HandS.Slots
import HandS.Codes
import HandS.ExcInit
import HandS.TupLe
import HandS.TupAny
import HandS.SortInts
import HandS.Flow
import HandS.ExcOwn
import HandS.More
import HandS.SlotsOwn
import HandS.HeadWalk
import HandS.Conv
import HandS.IsInst
import HandS.Iter
import HandS.Zip
import HandS.Comp
import HandS.Defaults
import HandS.WordsExc
import HandS.WideBits
import HandS.FStr
import KE.KOpsOwn
import HandS.Nested
import HandS.ExcField
import KE.KExcSuper
import HandS.Small
import HandS.ExcIs
import KE.KExcIs
import HandS.HeadHook2
import HandS.ExcValue
import HandS.ClsMeth
import HandS.HeadNt
import HandS.Head0
import KE.KStateDown
import Lean
import HandS.Head1
import HandS.Head2
import HandS.HeadEnd
import HandS.HeadHook1
import PySem.Challenge.RW_steprows_k78_exact_fractions
set_option Elab.async false
set_option linter.all false
set_option maxRecDepth 100000
/-! Ev1: data, results, the core text, its evaluation (plain Lean) -/
namespace Ev
open PySem

/-- data: what a value stands for -/
inductive D where
  | non | bl (b : Bool) | int (i : Int) | str (s : Str)
  | tup (l : List D) | lst (l : List D)
  | ins (c : Nat) (l : List D)
  | cls (c : Nat)
  | exc (c : Nat) (l : List D)
  | scr (l : List Int)
  deriving Inhabited

/-- an exception: its class, what it keeps -/
structure Xc where
  c : Nat
  l : List D

/-- a result -/
inductive R (α : Type) where
  | ok (a : α) | err (x : Xc) | stk

def R.bind {α β : Type} : R α → (α → R β) → R β
  | .ok a, f => f a
  | .err x, _ => .err x
  | .stk, _ => .stk
theorem R.bind_ok {α β : Type} {a : α} {f : α → R β} : (R.ok a).bind f = f a := rfl
theorem R.bind_err {α β : Type} {x : Xc} {f : α → R β} : (R.err x).bind f = .err x := rfl
theorem R.bind_stk {α β : Type} {f : α → R β} : (R.stk : R α).bind f = .stk := rfl

abbrev Nv := List (Option D)
def gt : Nv → Nat → Option D
  | [], _ => none
  | a :: _, 0 => a
  | _ :: l, n + 1 => gt l n
def st : Nv → Nat → Option D → Nv
  | [], _, _ => []
  | _ :: l, 0, d => d :: l
  | a :: l, n + 1, d => a :: st l n d
theorem gt_eq (l : Nv) (j : Nat) : gt l j = (l[j]?).join := by
  induction l generalizing j with
  | nil => rfl
  | cons a l ih => cases j with
    | zero => rfl
    | succ j => exact ih j
theorem st_len (l : Nv) (j : Nat) (d : Option D) : (st l j d).length = l.length := by
  induction l generalizing j with
  | nil => rfl
  | cons a l ih => cases j with
    | zero => rfl
    | succ j => exact congrArg Nat.succ (ih j)
theorem gt_st_same {l : Nv} {j : Nat} {d : Option D} (h : j < l.length) : gt (st l j d) j = d := by
  induction l generalizing j with
  | nil => exact absurd h (Nat.not_lt_zero _)
  | cons a l ih => cases j with
    | zero => rfl
    | succ j => exact ih (Nat.lt_of_succ_lt_succ h)
theorem gt_st_ne {l : Nv} {i j : Nat} {d : Option D} (h : i ≠ j) : gt (st l j d) i = gt l i := by
  induction l generalizing i j with
  | nil => rfl
  | cons a l ih => cases j with
    | zero => cases i with
      | zero => exact absurd rfl h
      | succ i => rfl
    | succ j => cases i with
      | zero => rfl
      | succ i => exact ih (fun e => h (congrArg Nat.succ e))
theorem gt_lt {l : Nv} {j : Nat} {d : D} (h : gt l j = some d) : j < l.length := by
  induction l generalizing j with
  | nil => cases h
  | cons a l ih => cases j with
    | zero => exact Nat.succ_pos _
    | succ j => exact Nat.succ_lt_succ (ih h)
theorem gt_st_some {l : Nv} {i j : Nat} {d : Option D} {e : D} (h : gt (st l j d) i = some e) : (i = j ∧ d = some e) ∨ (i ≠ j ∧ gt l i = some e) := by
  by_cases q : i = j
  · subst q
    have hl := gt_lt h
    rw [st_len] at hl
    rw [gt_st_same hl] at h
    exact .inl ⟨rfl, h⟩
  · rw [gt_st_ne q] at h
    exact .inr ⟨q, h⟩

/-! ### equality of plain data -/
mutual
def toPy : D → Option PyData
  | .non => some .none
  | .bl b => some (.bool b)
  | .int i => some (.int i)
  | .str s => some (.str s)
  | .tup l => match toPyL l with
    | some p => some (.tuple p)
    | none => none
  | .lst l => match toPyL l with
    | some p => some (.list p)
    | none => none
  | _ => none
def toPyL : List D → Option (List PyData)
  | [] => some []
  | d :: l => match toPy d, toPyL l with
    | some p, some q => some (p :: q)
    | _, _ => none
end

/-! ### the core text -/
inductive BO where | add | sub | mul | fdiv | mod | pow
  deriving DecidableEq
inductive CO where | eq | ne | lt | le | gt | ge | isin | notin
  deriving DecidableEq
inductive Ty where | int | bool | str | tuple | list | own (c : Nat)
  deriving DecidableEq
inductive BI where | len | abs | int | bool | str | tuple | list | sum | max | min | sorted | any | all | max2 | min2 | lrng1 | lrng2
  deriving DecidableEq
/-- a name that is stored: its slot, the other slots of the same name -/
abbrev Nm := Nat × List Nat
inductive Tg where
  | name (n : Nm)
  | tup (l : List Nm)
mutual
inductive E where
  | v (j : Nat) | mov (j : Nat)
  | non | bl (b : Bool) | int (i : Int) | str (s : Str)
  | tup (l : Es) | lst (l : Es)
  | bin (o : BO) (a b : E)
  | neg (a : E) | nt (a : E)
  | cmp (o : CO) (a b : E) | chn (o u : CO) (a b c : E)
  | isN (a : E) | notN (a : E)
  | and (a b : E) | or (a b : E)
  | ife (c a b : E)
  | sub (a i : E)
  | slc (a : E) (lo hi : Eo)
  | fld (a : E) (f : Nat)
  | call (f : Nat) (l : Es)
  | callI (f j p : Nat) (l : Es)
  | new (c f : Nat) (l : Es)
  | mth (m : Nat) (o : E) (l : Es)
  | bi (b : BI) (l : Es)
  | isi (a : E) (t : List Ty)
  | xis (j : Nat) (cs : List Nat)
  | newx (c : Nat) (l : Es)
  | xfl (a : E) (f : Nat)
  | xisv (a : E) (cs : List Nat)
  | blen (a : E)
  | boo (a : E)
  | fmt (a : E) | js (l : Es)
  | nev
  | popl (j : Nat) | popi (j : Nat) (i : E)
  | lc (x : E) (c : Cl)
inductive Es where
  | nil
  | cons (e : E) (l : Es)
inductive Eo where
  | none
  | some (e : E)
inductive It where
  | seq (e : E) | rng1 (a : E) | rng2 (a b : E) | rng3 (a b c : E) | enum (e : E) | zip (a b : E)
inductive Cl where
  | one (t : Tg) (i : It) (c : Eo)
end

/-- of an expression: its value and the names behind it -/
inductive RE (α : Type) where
  | ok (d : α) (e : Nv) | err (x : Xc) (e : Nv) | stk
def RE.bind {α β : Type} : RE α → (α → Nv → RE β) → RE β
  | .ok a e, f => f a e
  | .err x e, _ => .err x e
  | .stk, _ => .stk
theorem RE.bind_ok {α β : Type} {a : α} {e : Nv} {f : α → Nv → RE β} : (RE.ok a e).bind f = f a e := rfl

def tru : D → Option Bool
  | .non => some false
  | .bl b => some b
  | .int i => some (i != 0)
  | .str s => if s.length ≤ sizeLine then some ((s.length : Int) != 0) else none
  | .tup l => some (!l.isEmpty)
  | .lst l => some (!l.isEmpty)
  | _ => none
/-- ints of a row -/
def intsOf : List D → Option (List Int)
  | [] => some []
  | .int i :: l => match intsOf l with
    | some r => some (i :: r)
    | none => none
  | _ :: _ => none
/-- what the functions answer, for arguments: the value and the last contents of the list that is lent -/
inductive RF where
  | ok (d : D) (o : D) | err (x : Xc) | stk
abbrev Phi := Nat → List D → RF
/-- of values alone -/
inductive RV where
  | ok (d : D) | err (x : Xc) | stk
/-- what the classes have: own operators (the functions' numbers) -/
inductive Dn where | add | radd | sub | rsub | mul | rmul | neg | eq | bool | len | iter | contains
  deriving DecidableEq
structure Cls where
  dn : Dn → Option Nat := fun _ => none
  /-- fields and methods, by the names' numbers -/
  fd : Nat → Option Nat := fun _ => none
  mt : Nat → Option Nat := fun _ => none
  /-- a class of the program -/
  is : Bool := false
structure Pt where
  cls : Nat → Cls
  /-- the class x is c or below it (exceptions) -/
  below : Nat → Nat → Bool
  /-- an exception of the class may be made of these -/
  xok : Nat → List D → Bool := fun _ _ => false
  /-- an error class of the program -/
  isx : Nat → Bool := fun _ => false
  /-- its fields, by the names' numbers -/
  xfd : Nat → Nat → Option Nat := fun _ _ => none

def RF.val : RF → RV
  | .ok d _ => .ok d
  | .err x => .err x
  | .stk => .stk
def fwd : BO → Option Dn
  | .add => some .add | .sub => some .sub | .mul => some .mul | _ => none
def rev : BO → Option Dn
  | .add => some .radd | .sub => some .rsub | .mul => some .rmul | _ => none
def mulOk (i j : Int) : Bool := decide (i.natAbs.log2 + j.natAbs.log2 < 1000000)
def divOk (j : Int) : Bool := j != 0 && decide (j.natAbs.log2 < 9000)
def binInt : BO → Int → Int → RV
  | .add, i, j => .ok (.int (i + j))
  | .sub, i, j => .ok (.int (i - j))
  | .mul, i, j => if mulOk i j then .ok (.int (i * j)) else .stk
  | .fdiv, i, j => if divOk j then .ok (.int (i.fdiv j)) else .stk
  | .mod, i, j => if j != 0 then .ok (.int (i.fmod j)) else .stk
  | .pow, i, j => if decide (0 ≤ j) && decide (j ≤ 1000000) && decide (i.natAbs < 2 ^ 64) then .ok (.int (i ^ j.toNat)) else .stk
/-- an own operator -/
def own2 (φ : Phi) (P : Pt) (o : BO) (c : Nat) (ds : List D) : RV := match fwd o with
  | some n => match (P.cls c).dn n with
    | some f => (φ f ds).val
    | none => .stk
  | none => .stk
/-- .. of the right side: int op instance -/
def own2R (φ : Phi) (P : Pt) (o : BO) (c : Nat) (ds : List D) : RV := match rev o with
  | some n => match (P.cls c).dn n with
    | some f => (φ f ds).val
    | none => .stk
  | none => .stk
def opBin (φ : Phi) (P : Pt) : BO → D → D → RV
  | o, .int i, .int j => binInt o i j
  | .add, .str s, .str t => if s.length + t.length ≤ sizeLine then .ok (.str (s ++ t)) else .stk
  | .add, .lst l, .lst m => if l.length + m.length ≤ sizeLine then .ok (.lst (l ++ m)) else .stk
  | .add, .tup l, .tup m => if l.length + m.length ≤ sizeLine then .ok (.tup (l ++ m)) else .stk
  | .mul, .lst l, .int k => if decide (-(2 ^ 63) ≤ k) && decide (k < 2 ^ 63) && decide (l.length * k.toNat ≤ sizeLine) then .ok (.lst (List.replicate k.toNat l).flatten) else .stk
  | o, .ins c l, .int j => own2 φ P o c [.ins c l, .int j]
  | o, .ins c l, .ins d m => if c = d then own2 φ P o c [.ins c l, .ins d m] else .stk
  | o, .int i, .ins c l => own2R φ P o c [.ins c l, .int i]
  | _, _, _ => .stk
/-- name op= e: of ints alone -/
def opAug : BO → D → D → RV
  | .pow, _, _ => .stk
  | o, .int i, .int j => binInt o i j
  | _, _, _ => .stk
def isShaped (p : PyData) : Bool := SeqAt.shaped p
def eqD (x y : D) : Option Bool := match toPy x, toPy y with
  | some p, some q => if SeqAt.shaped p && SeqAt.shaped q then some (PyData.eqv p q) else none
  | _, _ => none
def inD (x : D) (y : List D) : Option Bool := match toPy x, toPyL y with
  | some p, some q => if SeqAt.shaped p && SeqAt.shaped (.list q) then some (q.any fun z => PyData.eqv z p) else none
  | _, _ => none
def ordI : CO → Int → Int → Option Bool
  | .lt, i, j => some (decide (i < j))
  | .le, i, j => some (decide (i ≤ j))
  | .gt, i, j => some (decide (j < i))
  | .ge, i, j => some (decide (j ≤ i))
  | _, _, _ => none
def ownE (φ : Phi) (P : Pt) (c : Nat) (ds : List D) : RV := match (P.cls c).dn .eq with
  | some f => (φ f ds).val
  | none => .stk
/-- two items that are equal: the same int, or the own == says so -/
def sameI (φ : Phi) (P : Pt) : D → D → Bool
  | .int i, .int j => i == j
  | .ins c l, .ins d m => match ownE φ P c [.ins c l, .ins d m] with
    | .ok (.bl true) => true
    | _ => false
  | _, _ => false
def sameL (φ : Phi) (P : Pt) : List D → List D → Bool
  | [], [] => true
  | x :: l, y :: m => sameI φ P x y && sameL φ P l m
  | _, _ => false
/-- != of two lists whose items are pairwise equal -/
def neL (φ : Phi) (P : Pt) : D → D → RV
  | .lst l, .lst m => if sameL φ P l m then .ok (.bl false) else .stk
  | _, _ => .stk
def opCmp (φ : Phi) (P : Pt) : CO → D → D → RV
  | .eq, .ins c l, .int j => ownE φ P c [.ins c l, .int j]
  | .eq, .ins c l, .ins d m => ownE φ P c [.ins c l, .ins d m]
  | .eq, .ins c l, .non => ownE φ P c [.ins c l, .non]
  | .eq, .ins c l, .tup m => ownE φ P c [.ins c l, .tup m]
  | .eq, x, y => match eqD x y with
    | some b => .ok (.bl b)
    | none => .stk
  | .ne, x, y => match eqD x y with
    | some b => .ok (.bl (!b))
    | none => neL φ P x y
  | .isin, x, .lst l => match inD x l with
    | some b => .ok (.bl b)
    | none => .stk
  | .isin, x, .tup l => match inD x l with
    | some b => .ok (.bl b)
    | none => .stk
  | .notin, x, .lst l => match inD x l with
    | some b => .ok (.bl (!b))
    | none => .stk
  | .notin, x, .tup l => match inD x l with
    | some b => .ok (.bl (!b))
    | none => .stk
  | o, .int i, .int j => match ordI o i j with
    | some b => .ok (.bl b)
    | none => .stk
  | .lt, .tup l, .tup m => match intsOf l, intsOf m with
    | some a, some b => .ok (.bl (HT.lexLt a b))
    | _, _ => .stk
  | _, _, _ => .stk
def tyIs (P : Pt) : Ty → D → Bool
  | .int, .int _ => true
  | .int, .bl _ => true
  | .bool, .bl _ => true
  | .str, .str _ => true
  | .tuple, .tup _ => true
  | .list, .lst _ => true
  | .own c, .ins d _ => c == d
  | _, _ => false
/-- isinstance may be asked of it -/
def tagged (P : Pt) : D → Bool
  | .ins c _ => (P.cls c).is
  | .cls _ => false
  | .exc _ _ => false
  | .scr _ => false
  | _ => true
def ixOf (n : Nat) (i : Int) : Option Nat := L2.ixN n i
def opSub : D → D → RV
  | .scr l, .int i => match L2.atI l i with
    | some d => .ok (.int d)
    | none => .stk
  | .lst l, .int i => match L2.atI l i with
    | some d => .ok d
    | none => .stk
  | .tup l, .int i => match L2.atI l i with
    | some d => .ok d
    | none => .stk
  | _, _ => .stk

def sumD (l : List D) : RV := match intsOf l with
  | some r => .ok (.int r.sum)
  | none => .stk
/-- the ints of a row, ascending -/
def insI (i : Int) : List Int → List Int
  | [] => [i]
  | j :: r => if i ≤ j then i :: j :: r else j :: insI i r
def sortI : List Int → List Int
  | [] => []
  | i :: r => insI i (sortI r)
def maxI : Int → List Int → Int
  | m, [] => m
  | m, i :: r => maxI (if m < i then i else m) r
def minI : Int → List Int → Int
  | m, [] => m
  | m, i :: r => minI (if i < m then i else m) r
def boolsOf : List D → Option (List Bool)
  | [] => some []
  | .bl b :: l => match boolsOf l with
    | some r => some (b :: r)
    | none => none
  | _ :: _ => none
def rgL (a b : Int) : List D := (List.range (b - a).toNat).map fun i => .int (a + (i : Nat))
def rgOk (a b : Int) : Bool := decide (-(2 ^ 62) ≤ a) && decide (a < 2 ^ 62) && decide (-(2 ^ 62) ≤ b) && decide (b < 2 ^ 62)
def opBi : BI → List D → RV
  | .len, [.str s] => if s.length ≤ sizeLine then .ok (.int s.length) else .stk
  | .len, [.lst l] => .ok (.int l.length)
  | .len, [.scr l] => .ok (.int l.length)
  | .len, [.tup l] => .ok (.int l.length)
  | .abs, [.int i] => .ok (.int (if i < 0 then -i else i))
  | .int, [.int i] => .ok (.int i)
  | .int, [.bl b] => .ok (.int (if b then 1 else 0))
  | .bool, [.int i] => .ok (.bl (i != 0))
  | .bool, [.bl b] => .ok (.bl b)
  | .str, [.int i] => if i.natAbs.log2 < 1920 then .ok (.str (toString i)) else .stk
  | .tuple, [.lst l] => .ok (.tup l)
  | .tuple, [.tup l] => .ok (.tup l)
  | .list, [.lst l] => .ok (.lst l)
  | .list, [.tup l] => .ok (.lst l)
  | .sum, [.lst l] => sumD l
  | .max, [.lst (.int i :: l)] => match intsOf l with
    | some r => .ok (.int (maxI i r))
    | none => .stk
  | .min, [.lst (.int i :: l)] => match intsOf l with
    | some r => .ok (.int (minI i r))
    | none => .stk
  | .sorted, [.lst l] => match intsOf l with
    | some r => .ok (.lst ((sortI r).map .int))
    | none => .stk
  | .any, [.lst l] => match boolsOf l with
    | some r => .ok (.bl (r.any id))
    | none => .stk
  | .all, [.lst l] => match boolsOf l with
    | some r => .ok (.bl (r.all id))
    | none => .stk
  | .max2, [.int i, .int j] => .ok (.int (if j > i then j else i))
  | .min2, [.int i, .int j] => .ok (.int (if j < i then j else i))
  | .lrng1, [.int b] => if rgOk 0 b && decide (b ≤ 16777216) then .ok (.lst (rgL 0 b)) else .stk
  | .lrng2, [.int a, .int b] => if rgOk a b && decide (b - a ≤ 16777216) then .ok (.lst (rgL a b)) else .stk
  | _, _ => .stk
def cutL (l : List D) (lo hi : Option Int) : List D := (l.drop (HT.sIx l.length 0 lo)).take (HT.sIx l.length l.length hi - HT.sIx l.length 0 lo)
/-- the text of a thing -/
def fmtD : D → Option Str
  | .str y => if y.length ≤ sizeLine then some y else none
  | .int i => if i.natAbs.log2 < 1920 then some (toString i) else none
  | .non => some "None"
  | .bl b => some (if b then "True" else "False")
  | _ => none
def opSlc : D → Option Int → Option Int → RV
  | .lst l, lo, hi => .ok (.lst (cutL l lo hi))
  | .tup l, lo, hi => .ok (.tup (cutL l lo hi))
  | _, _, _ => .stk
def RV.at {α : Type} (e : Nv) (r : RV) (f : D → RE α) : RE α := match r with
  | .ok d => f d
  | .err x => .err x e
  | .stk => .stk
def RV.re (e : Nv) : RV → RE D
  | .ok d => .ok d e
  | .err x => .err x e
  | .stk => .stk
def kill (ks : List Nat) (e : Nv) : Nv := ks.foldl (fun e j => st e j none) e
def stN (n : Nm) (d : D) (e : Nv) : Nv := st (kill n.2 e) n.1 (some d)
def stNs : List Nm → List D → Nv → Option Nv
  | [], [], e => some e
  | n :: l, d :: r, e => stNs l r (stN n d e)
  | _, _, _ => none
def stT : Tg → D → Nv → Option Nv
  | .name n, d, e => some (stN n d e)
  | .tup l, .tup r, e => stNs l r e
  | _, _, _ => none
/-- the slots that a target stores -/
def tgS : Tg → List Nat
  | .name n => n.1 :: n.2
  | .tup l => l.flatMap fun n => n.1 :: n.2
/-- the names as they were: those at js -/
def back (js : List Nat) (e e' : Nv) : Nv := js.foldl (fun x j => st x j (gt e j)) e'
/-- the turns of a comprehension: the targets are forgotten behind each -/
def lcRun (tg : Tg) (tst : Nv → RE D) (elt : Nv → RE D) : List D → List D → Nv → RE (List D)
  | [], acc, e => if acc.length ≤ sizeLine then .ok acc e else .stk
  | d :: r, acc, e => match stT tg d e with
    | none => .stk
    | some e1 => match tst e1 with
      | .ok c e2 => match tru c with
        | some true => match elt e2 with
          | .ok x e3 => if acc.length < sizeLine then lcRun tg tst elt r (acc ++ [x]) (kill (tgS tg) e3) else .stk
          | _ => .stk
        | some false => lcRun tg tst elt r acc (kill (tgS tg) e2)
        | none => .stk
      | _ => .stk
def insA {α : Type} (p : Nat) (x : α) (l : List α) : List α := l.take p ++ x :: l.drop p
/-- a call to which the thing in the slot j is lent, at the place p -/
def lendR (j : Nat) (e : Nv) : RF → RE D
  | .ok r o => .ok r (st e j (some o))
  | .err x => .err x (st e j none)
  | .stk => .stk
def lend (φ : Phi) (f j p : Nat) (ds : List D) (e : Nv) : RE D := match gt e j with
  | some d => if p ≤ ds.length then lendR j e (φ f (insA p d ds)) else .stk
  | none => .stk
def popAt (j : Nat) (y : D) (e : Nv) : RE D := match gt e j, y with
  | some (.lst l), .int i => match L2.ixN l.length i with
    | some k => match l[k]? with
      | some d => .ok d (st e j (some (.lst (l.eraseIdx k))))
      | none => .stk
    | none => .stk
  | _, _ => .stk
/-- i, i + 1 .. and the items -/
def enumL : Nat → List D → List D
  | _, [] => []
  | i, d :: l => .tup [.int (i : Nat), d] :: enumL (i + 1) l
def zipL : List D → List D → List D
  | a :: l, b :: m => .tup [a, b] :: zipL l m
  | _, _ => []
mutual
def ev (φ : Phi) (P : Pt) : E → Nv → RE D
  | .v j, e => match gt e j with
    | some d => .ok d e
    | none => .stk
  | .mov j, e => match gt e j with
    | some d => .ok d (st e j none)
    | none => .stk
  | .non, e => .ok .non e
  | .bl b, e => .ok (.bl b) e
  | .int i, e => .ok (.int i) e
  | .str s, e => .ok (.str s) e
  | .tup l, e => (evs φ P l e).bind fun ds e => if ds.length ≤ sizeLine then .ok (.tup ds) e else .stk
  | .lst l, e => (evs φ P l e).bind fun ds e => if ds.length ≤ sizeLine then .ok (.lst ds) e else .stk
  | .bin o a b, e => (ev φ P a e).bind fun x e => (ev φ P b e).bind fun y e => (opBin φ P o x y).re e
  | .neg a, e => (ev φ P a e).bind fun x e => match x with
    | .int i => .ok (.int (-i)) e
    | .ins c l => match (P.cls c).dn .neg with
      | some f => (φ f [.ins c l]).val.re e
      | none => .stk
    | _ => .stk
  | .nt a, e => (ev φ P a e).bind fun x e => match tru x with
    | some b => .ok (.bl (!b)) e
    | none => .stk
  | .cmp o a b, e => (ev φ P a e).bind fun x e => (ev φ P b e).bind fun y e => (opCmp φ P o x y).re e
  | .chn o u a b c, e => (ev φ P a e).bind fun x e => (ev φ P b e).bind fun y e => (opCmp φ P o x y).at e fun z => match z with
    | .bl true => (ev φ P c e).bind fun w e => (opCmp φ P u y w).re e
    | .bl false => .ok (.bl false) e
    | _ => .stk
  | .isN a, e => (ev φ P a e).bind fun x e => .ok (.bl (match x with | .non => true | _ => false)) e
  | .notN a, e => (ev φ P a e).bind fun x e => .ok (.bl (match x with | .non => false | _ => true)) e
  | .and a b, e => (ev φ P a e).bind fun x e => match tru x with
    | some true => ev φ P b e
    | some false => .ok x e
    | none => .stk
  | .or a b, e => (ev φ P a e).bind fun x e => match tru x with
    | some true => .ok x e
    | some false => ev φ P b e
    | none => .stk
  | .ife c a b, e => (ev φ P c e).bind fun x e => match tru x with
    | some true => ev φ P a e
    | some false => ev φ P b e
    | none => .stk
  | .sub a i, e => (ev φ P a e).bind fun x e => (ev φ P i e).bind fun y e => (opSub x y).re e
  | .slc a lo hi, e => (ev φ P a e).bind fun x e => (evo φ P lo e).bind fun p e => (evo φ P hi e).bind fun q e => match p, q with
    | .non, .non => (opSlc x none none).re e
    | .int i, .non => (opSlc x (some i) none).re e
    | .non, .int j => (opSlc x none (some j)).re e
    | .int i, .int j => (opSlc x (some i) (some j)).re e
    | _, _ => .stk
  | .fld a f, e => (ev φ P a e).bind fun x e => match x with
    | .ins c l => match ((P.cls c).fd f).bind fun k => l[k]? with
      | some d => .ok d e
      | none => .stk
    | _ => .stk
  | .call f l, e => (evs φ P l e).bind fun ds e => (φ f ds).val.re e
  | .callI f j p l, e => match gt e j with
    | none => .stk
    | some _ => (evs φ P l e).bind fun ds e => lend φ f j p ds e
  | .new c f l, e => (evs φ P l e).bind fun ds e => match φ f (.ins c [] :: ds) with
    | .ok .non o => .ok o e
    | .err x => .err x e
    | _ => .stk
  | .mth m o l, e => (ev φ P o e).bind fun x e => match x with
    | .ins c ys => match (P.cls c).mt m with
      | some f => (evs φ P l e).bind fun ds e => (φ f (.ins c ys :: ds)).val.re e
      | none => .stk
    | _ => .stk
  | .bi b l, e => (evs φ P l e).bind fun ds e => (opBi b ds).re e
  | .isi a t, e => (ev φ P a e).bind fun x e => if tagged P x then .ok (.bl (t.any fun t => tyIs P t x)) e else .stk
  | .xis j cs, e => match gt e j with
    | some (.cls c) => if P.isx c && cs.all (fun k => P.isx k || k == 999) then .ok (.bl (cs.any fun k => P.below c k)) e else .stk
    | _ => .stk
  | .newx c l, e => (evs φ P l e).bind fun ds e => if P.xok c ds then .ok (.exc c ds) e else .stk
  | .xfl a f, e => (ev φ P a e).bind fun x e => match x with
    | .exc c l => match (P.xfd c f).bind fun k => l[k]? with
      | some d => .ok d e
      | none => .stk
    | _ => .stk
  | .xisv a cs, e => (ev φ P a e).bind fun x e => match x with
    | .exc c _ => if P.isx c && cs.all (fun k => P.isx k || k == 999) then .ok (.bl (cs.any fun k => P.below c k)) e else .stk
    | _ => .stk
  | .nev, _ => .stk
  | .fmt a, e => (ev φ P a e).bind fun x e => match fmtD x with
    | some y => .ok (.str y) e
    | none => .stk
  | .js l, e => evj φ P l Str.empty e
  | .boo a, e => (ev φ P a e).bind fun x e => match x with
    | .ins c l => match (P.cls c).dn .bool with
      | some n => match φ n [.ins c l] with
        | .ok (.bl b) _ => .ok (.bl b) e
        | _ => .stk
      | none => .stk
    | _ => .stk
  | .blen a, e => (ev φ P a e).bind fun x e => match x with
    | .int i => .ok (.int (Builtin.Int.intBits i : Nat)) e
    | _ => .stk
  | .popl j, e => match gt e j with
    | some (.lst l) => match l[l.length - 1]? with
      | some d => .ok d (st e j (some (.lst l.dropLast)))
      | none => .stk
    | _ => .stk
  | .popi j i, e => match gt e j with
    | some (.lst _) => (ev φ P i e).bind fun y e => popAt j y e
    | _ => .stk
  | .lc x c, e => match c with
    | .one tg it cnd => (evi φ P it e).bind fun ds e => (lcRun tg (evc φ P cnd) (ev φ P x) ds [] (kill (tgS tg) e)).bind fun r e' => .ok (.lst r) (back (tgS tg) e e')
def evs (φ : Phi) (P : Pt) : Es → Nv → RE (List D)
  | .nil, e => .ok [] e
  | .cons a l, e => (ev φ P a e).bind fun x e => (evs φ P l e).bind fun r e => .ok (x :: r) e
def evj (φ : Phi) (P : Pt) : Es → Str → Nv → RE D
  | .nil, acc, e => .ok (.str acc) e
  | .cons a l, acc, e => (ev φ P a e).bind fun x e => match x with
    | .str y => if (acc ++ y).length ≤ sizeLine then evj φ P l (acc ++ y) e else .stk
    | _ => .stk
def evo (φ : Phi) (P : Pt) : Eo → Nv → RE D
  | .none, e => .ok .non e
  | .some a, e => (ev φ P a e).bind fun d e => match d with
    | .int i => .ok (.int i) e
    | _ => .stk
def evc (φ : Phi) (P : Pt) : Eo → Nv → RE D
  | .none, e => .ok (.bl true) e
  | .some a, e => ev φ P a e
def evi (φ : Phi) (P : Pt) : It → Nv → RE (List D)
  | .seq a, e => (ev φ P a e).bind fun x e => match x with
    | .lst l => .ok l e
    | .tup l => .ok l e
    | _ => .stk
  | .rng1 a, e => (ev φ P a e).bind fun x e => match x with
    | .int b => if rgOk 0 b then .ok (rgL 0 b) e else .stk
    | _ => .stk
  | .rng2 a b, e => (ev φ P a e).bind fun x e => (ev φ P b e).bind fun y e => match x, y with
    | .int a, .int b => if rgOk a b then .ok (rgL a b) e else .stk
    | _, _ => .stk
  | .rng3 _ _ _, _ => .stk
  | .enum a, e => (ev φ P a e).bind fun x e => match x with
    | .lst l => .ok (enumL 0 l) e
    | _ => .stk
  | .zip a b, e => (ev φ P a e).bind fun x e => (ev φ P b e).bind fun y e => match x, y with
    | .lst l, .lst m => .ok (zipL l m) e
    | _, _ => .stk
end

mutual
inductive S where
  | expr (e : E)
  | asg (t : Tg) (e : E)
  | par (n m : Nm) (a b : E)
  | app (j : Nat) (p : Es) (e : E)
  | set (j : Nat) (p : Es) (i e : E)
  | aug (n : Nm) (o : BO) (e : E)
  | rvs (j : Nat)
  | sfld (j k : Nat) (e : E)
  | sfld2 (j k m : Nat) (e : E)
  | iff (c : E) (a b : Ss)
  | whl (n : Nat) (c : E) (b : Ss)
  | forr (t : Tg) (i : It) (b : Ss)
  | ret (e : E) | retN
  | raise (c : Nat) (l : Es)
  | try_ (b : Ss) (h : Hs)
  | pass | brk | cnt
  | frz (j i : Nat)
  | nev
inductive Ss where
  | nil
  | cons (s : S) (l : Ss)
/-- except clauses: the class, what is told of the exception (where it has a name): the class' slot, the fields' slots, by their names' numbers -/
inductive Hs where
  | nil
  | cons (c : Nat) (n : Option (Nat × List (Nat × Nat))) (b : Ss) (l : Hs)
end
inductive O where
  | nx (e : Nv) | ret (d : D) (e : Nv) | bk (e : Nv) | ct (e : Nv) | err (x : Xc) (e : Nv) | stk
def RE.o {α : Type} (r : RE α) (f : α → Nv → O) : O := match r with
  | .ok d e => f d e
  | .err x e => .err x e
  | .stk => .stk
def forRun (tg : Tg) (body : Nv → O) : List D → Nv → O
  | [], e => .nx e
  | d :: r, e => match stT tg d e with
    | none => .stk
    | some e1 => match body e1 with
      | .nx e2 => forRun tg body r e2
      | .ct e2 => forRun tg body r e2
      | .bk e2 => .nx e2
      | o => o
def whlRun (tst : Nv → RE D) (body : Nv → O) : Nat → Nv → O
  | 0, _ => .stk
  | n + 1, e => (tst e).o fun c e1 => match tru c with
    | some true => match body e1 with
      | .nx e2 => whlRun tst body n e2
      | .ct e2 => whlRun tst body n e2
      | .bk e2 => .nx e2
      | o => o
    | some false => .nx e1
    | none => .stk
def updP (f : D → Option D) : List D → D → Option D
  | [], d => f d
  | .int i :: p, .lst l => match L2.ixN l.length i with
    | some k => match l[k]? with
      | some d => match updP f p d with
        | some d' => some (.lst (l.set k d'))
        | none => none
      | none => none
    | none => none
  | _, _ => none
def appF (x : D) : D → Option D
  | .lst l => if l.length < sizeLine then some (.lst (l ++ [x])) else none
  | _ => none
def setF (i x : D) : D → Option D
  | .lst l => match i with
    | .int i => match L2.ixN l.length i with
      | some k => some (.lst (l.set k x))
      | none => none
    | _ => none
  | _ => none
/-- the next field of what is made -/
def fldF (P : Pt) (f : Nat) (x : D) : D → Option D
  | .ins c l => if (P.cls c).fd f = some l.length then some (.ins c (l ++ [x])) else none
  | _ => none
def upd1 (j : Nat) (f : D → Option D) (e : Nv) : O := match gt e j with
  | some d => match f d with
    | some d' => .nx (st e j (some d'))
    | none => .stk
  | none => .stk
/-- a suite lets no error out -/
def noErr : O → O
  | .err _ _ => .stk
  | o => o
/-- the fields of what is caught, told to their slots -/
def bindX (P : Pt) (x : Xc) : List (Nat × Nat) → Nv → Option Nv
  | [], e => some e
  | (j, f) :: r, e => match (P.xfd x.c f).bind fun k => x.l[k]? with
    | some d => bindX P x r (st e j (some d))
    | none => none
mutual
def evS (φ : Phi) (P : Pt) : S → Nv → O
  | .expr a, e => (ev φ P a e).o fun _ e => .nx e
  | .asg t a, e => (ev φ P a e).o fun d e => match stT t d e with
    | some e => .nx e
    | none => .stk
  | .par n m a b, e => (ev φ P a e).o fun x e => (ev φ P b e).o fun y e => .nx (stN m y (stN n x e))
  | .app j p a, e => match gt e j with
    | some (.lst _) => (evs φ P p e).o fun q e => (ev φ P a e).o fun x e => upd1 j (updP (appF x) q) e
    | _ => .stk
  | .set j p i a, e => (ev φ P a e).o fun x e => match gt e j with
    | some (.lst _) => (evs φ P p e).o fun q e => (ev φ P i e).o fun y e => upd1 j (updP (setF y x) q) e
    | _ => .stk
  | .aug n o a, e => match gt e n.1 with
    | some d => (ev φ P a e).o fun x e => match opAug o d x with
      | .ok y => .nx (stN n y e)
      | .err x => .err x e
      | .stk => .stk
    | none => .stk
  | .rvs j, e => upd1 j (fun d => match d with
    | .lst l => some (.lst l.reverse)
    | _ => none) e
  | .sfld j f a, e => (ev φ P a e).o fun x e => upd1 j (fldF P f x) e
  | .sfld2 j f m a, e => (ev φ P a e).o fun x e => match x with
    | .tup [y, z] => upd1 j (fun d => (fldF P f y d).bind (fldF P m z)) e
    | _ => .stk
  | .iff c a b, e => (ev φ P c e).o fun x e => match tru x with
    | some true => evSs φ P a e
    | some false => evSs φ P b e
    | none => .stk
  | .whl n c b, e => whlRun (ev φ P c) (evSs φ P b) n e
  | .forr t i b, e => (evi φ P i e).o fun ds e => forRun t (evSs φ P b) ds e
  | .ret a, e => (ev φ P a e).o fun x e => .ret x e
  | .retN, e => .ret .non e
  | .raise c l, e => (evs φ P l e).o fun ds e => if P.xok c ds then .err ⟨c, ds⟩ e else .stk
  | .try_ b h, e => match evSs φ P b e with
    | .err x e => if P.isx x.c then evH φ P h x e else .stk
    | o => o
  | .pass, e => .nx e
  | .brk, e => .bk e
  | .cnt, e => .ct e
  | .nev, _ => .stk
  | .frz j i, e => match gt e j with
    | some d => .nx (st (st e j none) i (some d))
    | none => .stk
def evSs (φ : Phi) (P : Pt) : Ss → Nv → O
  | .nil, e => .nx e
  | .cons s l, e => match evS φ P s e with
    | .nx e => evSs φ P l e
    | o => o
def evH (φ : Phi) (P : Pt) : Hs → Xc → Nv → O
  | .nil, x, e => .err x e
  | .cons c n b l, x, e => if P.below x.c c then (match n with
      | none => noErr (evSs φ P b e)
      | some q => match bindX P x q.2 (st e q.1 (some (.cls x.c))) with
        | some e1 => noErr (evSs φ P b e1)
        | none => .stk)
    else evH φ P l x e
end
end Ev
set_option Elab.async false
set_option linter.all false
set_option maxRecDepth 100000
set_option maxHeartbeats 1000000
/-! Ev2: what data stand for in the abstract heap: frozen, owned; the names; how a step keeps them -/
namespace Ev
open PySem L2

/-- what the text's classes are -/
structure G where
  K : PySem.W.Frag
  cl : Nat → Addr
  nm : Nat → List Str
  sl : Nat → Bool
  /-- with slots: the slot of the i-th field -/
  pm : Nat → Nat → Nat

def Sub (A B : Hp) : Prop := ∀ a o, A a = some o → B a = some o
theorem Sub.rfl' {A : Hp} : Sub A A := fun _ _ h => h
theorem Sub.trans {A B C : Hp} (h : Sub A B) (k : Sub B C) : Sub A C := fun a o e => k a o (h a o e)

section
variable (g : G)
/-- the slots hold the fields -/
def SlP (c : Nat) (xs : List V) (vs : List (Option V)) : Prop := ∀ (i : Nat) (v : V), xs[i]? = some v → vs[g.pm c i]? = some (some v)
/-- an instance, its values -/
def InsD (F : Hp) (c : Nat) (a : Addr) (xs : List V) : Prop :=
  ∃ dx, if g.sl c = true then dx ≠ a ∧ ∃ vs, SlP g c xs vs ∧ SlX.Slt F a (g.cl c) dx vs else F a = some (.ins (g.cl c) dx ((g.nm c).zip xs))
mutual
def Den (F : Hp) : D → V → Prop
  | .non, v => v = .non
  | .bl b, v => v = .bl b
  | .int i, v => v = .int i
  | .str s, v => v = .str s
  | .tup l, v => ∃ a xs, v = .ref a ∧ SqT g.K F a xs ∧ DenL F l xs
  | .lst l, v => ∃ a xs, v = .ref a ∧ F a = some (.lst xs) ∧ DenL F l xs
  | .ins c l, v => ∃ a xs, v = .ref a ∧ InsD g F c a xs ∧ DenL F l xs
  | .cls c, v => v = .ref (g.cl c)
  | .exc c l, v => ∃ a, v = .ref a ∧ ((l = [] ∧ F a = some (exo a (g.cl c) none)) ∨ ∃ d vs, F a = some (exo a (g.cl c) (some d)) ∧ F d = some (exd d ((g.nm c).zip vs).reverse) ∧ DenL F l vs)
  | .scr l, v => ∃ a, v = .ref a ∧ SqL g.K F a (l.map V.int)
def DenL (F : Hp) : List D → List V → Prop
  | [], xs => xs = []
  | d :: l, xs => ∃ x r, xs = x :: r ∧ Den F d x ∧ DenL F l r
end
/-- a row of owned things -/
def OwnA (p : D → V → List Addr → Prop) : List D → List V → List Addr → Prop
  | [], xs, f => xs = [] ∧ f = []
  | d :: l, xs, f => ∃ x r f1 f2, xs = x :: r ∧ f = f1 ++ f2 ∧ p d x f1 ∧ OwnA p l r f2
def InsO (H : Hp) (c : Nat) (a : Addr) (xs : List V) (f : List Addr) : Prop :=
  ∃ dx, if g.sl c = true then dx ≠ a ∧ (∃ vs, SlP g c xs vs ∧ SlX.Slt H a (g.cl c) dx vs) ∧ H dx ≠ none ∧ f = [a, dx] else H a = some (.ins (g.cl c) dx ((g.nm c).zip xs)) ∧ f = [a]
/-- owned to the depth k: a list, its items owned to k - 1; or an instance in the making -/
def Own (H F : Hp) : Nat → D → V → List Addr → Prop
  | 0, d, v, f => Den g F d v ∧ f = []
  | k + 1, d, v, f => match d with
    | .lst l => ∃ a xs f', v = .ref a ∧ H a = some (.lst xs) ∧ OwnA (Own H F k) l xs f' ∧ f = a :: f'
    | .ins c l => k = 1 ∧ ∃ a xs, v = .ref a ∧ InsO g H c a xs f ∧ DenL g F l xs
    | _ => False
end

section
variable {g : G} {A B F F' H H' : Hp}
theorem Sub.rd {a : Addr} {u : HO} (s : Sub A B) (h : Rd A a u) : Rd B a u := by
  rcases h with h | ⟨o, h⟩
  · exact .inl (s _ _ h)
  · exact .inr ⟨o, s _ _ h⟩
theorem Sub.sqL {K : PySem.W.Frag} {a : Addr} {xs : List V} (s : Sub A B) (h : SqL K A a xs) : SqL K B a xs := by
  rcases h with h | h
  · exact .inl (s.rd h)
  · exact .inr h
theorem Sub.sqT {K : PySem.W.Frag} {a : Addr} {xs : List V} (s : Sub A B) (h : SqT K A a xs) : SqT K B a xs := by
  rcases h with h | h
  · exact .inl (s.rd h)
  · exact .inr h
theorem Sub.slt {a C dx : Addr} {vs : List (Option V)} (s : Sub A B) (h : SlX.Slt A a C dx vs) : SlX.Slt B a C dx vs := by
  rcases h with ⟨h1, h2⟩ | ⟨h1, h2⟩
  · exact .inl ⟨s _ _ h1, h2⟩
  · exact .inr ⟨s _ _ h1, s _ _ h2⟩
theorem InsD.mono {c : Nat} {a : Addr} {xs : List V} (s : Sub A B) (h : InsD g A c a xs) : InsD g B c a xs := by
  obtain ⟨dx, h⟩ := h
  refine ⟨dx, ?_⟩
  by_cases q : g.sl c = true
  · rw [if_pos q] at h ⊢
    obtain ⟨h1, vs, hp, h2⟩ := h
    exact ⟨h1, vs, hp, s.slt h2⟩
  · rw [if_neg q] at h ⊢
    exact s _ _ h
mutual
theorem Den.mono (s : Sub A B) : ∀ {d : D} {v : V}, Den g A d v → Den g B d v
  | .non, _, h => h
  | .bl _, _, h => h
  | .int _, _, h => h
  | .str _, _, h => h
  | .tup l, _, h => by
    obtain ⟨a, xs, e, h1, h2⟩ := h
    exact ⟨a, xs, e, s.sqT h1, DenL.mono s h2⟩
  | .lst l, _, h => by
    obtain ⟨a, xs, e, h1, h2⟩ := h
    exact ⟨a, xs, e, s _ _ h1, DenL.mono s h2⟩
  | .ins c l, _, h => by
    obtain ⟨a, xs, e, h1, h2⟩ := h
    exact ⟨a, xs, e, h1.mono s, DenL.mono s h2⟩
  | .cls _, _, h => h
  | .exc c l, _, h => by
    obtain ⟨a, e, h1⟩ := h
    rcases h1 with ⟨h1, h2⟩ | ⟨d, vs, h1, h2, h3⟩
    · exact ⟨a, e, .inl ⟨h1, s _ _ h2⟩⟩
    · exact ⟨a, e, .inr ⟨d, vs, s _ _ h1, s _ _ h2, DenL.mono s h3⟩⟩
  | .scr l, _, h => by
    obtain ⟨a, e, h1⟩ := h
    exact ⟨a, e, s.sqL h1⟩
theorem DenL.mono (s : Sub A B) : ∀ {l : List D} {xs : List V}, DenL g A l xs → DenL g B l xs
  | [], _, h => h
  | d :: l, _, h => by
    obtain ⟨x, r, e, h1, h2⟩ := h
    exact ⟨x, r, e, Den.mono s h1, DenL.mono s h2⟩
end
theorem DenL.length : ∀ {l : List D} {xs : List V}, DenL g F l xs → xs.length = l.length
  | [], _, h => by cases h; rfl
  | d :: l, _, h => by
    obtain ⟨x, r, e, h1, h2⟩ := h
    subst e
    exact congrArg Nat.succ (DenL.length h2)
theorem DenL.get : ∀ {l : List D} {xs : List V} {i : Nat} {d : D}, DenL g F l xs → l[i]? = some d → ∃ x, xs[i]? = some x ∧ Den g F d x
  | [], _, i, _, h, e => by simp at e
  | d :: l, _, 0, _, h, e => by
    obtain ⟨x, r, q, h1, h2⟩ := h
    subst q
    cases e
    exact ⟨x, rfl, h1⟩
  | d :: l, _, i + 1, _, h, e => by
    obtain ⟨x, r, q, h1, h2⟩ := h
    subst q
    exact DenL.get (i := i) h2 e
theorem DenL.app : ∀ {l m : List D} {xs ys : List V}, DenL g F l xs → DenL g F m ys → DenL g F (l ++ m) (xs ++ ys)
  | [], _, _, _, h, k => by cases h; exact k
  | d :: l, _, _, _, h, k => by
    obtain ⟨x, r, q, h1, h2⟩ := h
    subst q
    exact ⟨x, _, rfl, h1, DenL.app h2 k⟩
theorem DenL.take : ∀ {l : List D} {xs : List V} (n : Nat), DenL g F l xs → DenL g F (l.take n) (xs.take n)
  | _, _, 0, h => rfl
  | [], _, n + 1, h => by cases h; rfl
  | d :: l, _, n + 1, h => by
    obtain ⟨x, r, q, h1, h2⟩ := h
    subst q
    exact ⟨x, _, rfl, h1, DenL.take n h2⟩
theorem DenL.drop : ∀ {l : List D} {xs : List V} (n : Nat), DenL g F l xs → DenL g F (l.drop n) (xs.drop n)
  | _, _, 0, h => h
  | [], _, n + 1, h => by cases h; rfl
  | d :: l, _, n + 1, h => by
    obtain ⟨x, r, q, h1, h2⟩ := h
    subst q
    exact DenL.drop n h2
theorem DenL.set {d : D} {x : V} (k : Den g F d x) : ∀ {l : List D} {xs : List V} (i : Nat), DenL g F l xs → DenL g F (l.set i d) (xs.set i x)
  | [], _, _, h => by cases h; exact rfl
  | e :: l, _, 0, h => by
    obtain ⟨y, r, q, h1, h2⟩ := h
    subst q
    exact ⟨x, _, rfl, k, h2⟩
  | e :: l, _, i + 1, h => by
    obtain ⟨y, r, q, h1, h2⟩ := h
    subst q
    exact ⟨y, _, rfl, h1, DenL.set k i h2⟩
theorem DenL.rev : ∀ {l : List D} {xs : List V}, DenL g F l xs → DenL g F l.reverse xs.reverse
  | [], _, h => by cases h; rfl
  | d :: l, _, h => by
    obtain ⟨x, r, q, h1, h2⟩ := h
    subst q
    rw [List.reverse_cons, List.reverse_cons]
    exact (DenL.rev h2).app ⟨x, [], rfl, h1, rfl⟩
theorem DenL.erase : ∀ {l : List D} {xs : List V} (i : Nat), DenL g F l xs → DenL g F (l.eraseIdx i) (xs.eraseIdx i)
  | [], _, _, h => by cases h; exact rfl
  | d :: l, _, 0, h => by
    obtain ⟨x, r, q, h1, h2⟩ := h
    subst q
    exact h2
  | d :: l, _, i + 1, h => by
    obtain ⟨x, r, q, h1, h2⟩ := h
    subst q
    exact ⟨x, _, rfl, h1, DenL.erase i h2⟩
theorem DenL.dropLast : ∀ {l : List D} {xs : List V}, DenL g F l xs → DenL g F l.dropLast xs.dropLast
  | [], _, h => by cases h; rfl
  | [d], _, h => by
    obtain ⟨x, r, q, h1, h2⟩ := h
    subst q
    cases h2
    rfl
  | d :: e :: l, _, h => by
    obtain ⟨x, r, q, h1, h2⟩ := h
    subst q
    obtain ⟨y, r', q', h3, h4⟩ := id h2
    subst q'
    exact ⟨x, _, rfl, h1, DenL.dropLast h2⟩
theorem DenL.ints : ∀ {l : List D} {xs : List V} {ns : List Int}, DenL g F l xs → intsOf l = some ns → xs = ns.map V.int
  | [], _, _, h, e => by cases h; cases e; rfl
  | d :: l, _, ns, h, e => by
    obtain ⟨x, r, q, h1, h2⟩ := h
    subst q
    cases d with
    | int i =>
      unfold intsOf at e
      cases k : intsOf l with
      | none => rw [k] at e; cases e
      | some m =>
        rw [k] at e
        cases e
        have h1 : x = V.int i := h1
        rw [h1, DenL.ints h2 k]
        rfl
    | _ => cases e
theorem denL_ints : ∀ ns : List Int, DenL g F (ns.map D.int) (ns.map V.int)
  | [] => rfl
  | n :: r => ⟨_, _, rfl, rfl, denL_ints r⟩
theorem DenL.bools : ∀ {l : List D} {xs : List V} {ns : List Bool}, DenL g F l xs → boolsOf l = some ns → xs = ns.map V.bl
  | [], _, _, h, e => by cases h; cases e; rfl
  | d :: l, _, ns, h, e => by
    obtain ⟨x, r, q, h1, h2⟩ := h
    subst q
    cases d with
    | bl i =>
      unfold boolsOf at e
      cases k : boolsOf l with
      | none => rw [k] at e; cases e
      | some m =>
        rw [k] at e
        cases e
        have h1 : x = V.bl i := h1
        rw [h1, DenL.bools h2 k]
        rfl
    | _ => cases e

/-! ### owned things -/
theorem OwnA.mono {p q : D → V → List Addr → Prop} : ∀ {l : List D} {xs : List V} {f : List Addr}, OwnA p l xs f → (∀ d x f1, (∀ a ∈ f1, a ∈ f) → p d x f1 → q d x f1) → OwnA q l xs f
  | [], _, _, h, _ => h
  | d :: l, _, _, h, k => by
    obtain ⟨x, r, f1, f2, e1, e2, h1, h2⟩ := h
    subst e1 e2
    refine ⟨x, r, f1, f2, rfl, rfl, k d x f1 (fun a ha => List.mem_append_left _ ha) h1, OwnA.mono h2 fun d x f3 h3 => k d x f3 fun a ha => List.mem_append_right _ (h3 a ha)⟩
theorem OwnA.length {p : D → V → List Addr → Prop} : ∀ {l : List D} {xs : List V} {f : List Addr}, OwnA p l xs f → xs.length = l.length
  | [], _, _, h => by cases h.1; rfl
  | d :: l, _, _, h => by
    obtain ⟨x, r, f1, f2, e1, e2, h1, h2⟩ := h
    subst e1
    exact congrArg Nat.succ (OwnA.length h2)
theorem OwnA.den : ∀ {l : List D} {xs : List V} {f : List Addr}, OwnA (fun d v f => Den g F d v ∧ f = []) l xs f → DenL g F l xs ∧ f = []
  | [], _, _, h => ⟨h.1, h.2⟩
  | d :: l, _, _, h => by
    obtain ⟨x, r, f1, f2, e1, e2, h1, h2⟩ := h
    obtain ⟨k1, k2⟩ := OwnA.den h2
    subst e1 e2
    exact ⟨⟨x, r, rfl, h1.1, k1⟩, by rw [h1.2, k2]; rfl⟩
theorem OwnA.of_den : ∀ {l : List D} {xs : List V}, DenL g F l xs → OwnA (fun d v f => Den g F d v ∧ f = []) l xs []
  | [], _, h => ⟨h, rfl⟩
  | d :: l, _, h => by
    obtain ⟨x, r, e, h1, h2⟩ := h
    exact ⟨x, r, [], [], e, rfl, ⟨h1, rfl⟩, OwnA.of_den h2⟩
theorem InsO.keep {c : Nat} {a : Addr} {xs : List V} {f : List Addr} (h : InsO g H c a xs f) (k : ∀ b ∈ f, ∀ o, H b = some o → H' b = some o) : InsO g H' c a xs f := by
  obtain ⟨dx, h⟩ := h
  refine ⟨dx, ?_⟩
  by_cases q : g.sl c = true
  · rw [if_pos q] at h ⊢
    obtain ⟨h1, ⟨vs, hp, h2⟩, h3, h4⟩ := h
    subst h4
    refine ⟨h1, ⟨vs, hp, ?_⟩, ?_, rfl⟩
    · rcases h2 with ⟨h5, h6⟩ | ⟨h5, h6⟩
      · exact .inl ⟨k _ (by simp) _ h5, h6⟩
      · exact .inr ⟨k _ (by simp) _ h5, k _ (by simp) _ h6⟩
    · cases e : H dx with
      | none => exact absurd e h3
      | some o =>
        rw [k dx (by simp) o e]
        intro z
        cases z
  · rw [if_neg q] at h ⊢
    obtain ⟨h1, h2⟩ := h
    subst h2
    exact ⟨k _ (by simp) _ h1, rfl⟩
theorem InsO.den {c : Nat} {a : Addr} {xs : List V} {f : List Addr} (h : InsO g H c a xs f) : InsD g H c a xs := by
  obtain ⟨dx, h⟩ := h
  refine ⟨dx, ?_⟩
  by_cases q : g.sl c = true
  · rw [if_pos q] at h ⊢
    exact ⟨h.1, h.2.1⟩
  · rw [if_neg q] at h ⊢
    exact h.1
theorem InsO.there {c : Nat} {a : Addr} {xs : List V} {f : List Addr} (h : InsO g H c a xs f) : ∀ b ∈ f, H b ≠ none := by
  obtain ⟨dx, h⟩ := h
  by_cases q : g.sl c = true
  · rw [if_pos q] at h
    obtain ⟨h1, ⟨vs, hp, h2⟩, h3, h4⟩ := h
    subst h4
    intro b hb
    rcases List.mem_cons.mp hb with e | hb
    · subst e
      rcases h2 with ⟨h5, _⟩ | ⟨h5, _⟩ <;> rw [h5] <;> intro z <;> cases z
    · have e : b = dx := by simpa using hb
      subst e
      exact h3
  · rw [if_neg q] at h
    obtain ⟨h1, h2⟩ := h
    subst h2
    intro b hb
    have e : b = a := by simpa using hb
    subst e
    rw [h1]
    intro z
    cases z
theorem Own.keep (s : Sub F F') : ∀ {k : Nat} {d : D} {v : V} {f : List Addr}, Own g H F k d v f → (∀ b ∈ f, ∀ o, H b = some o → H' b = some o) → Own g H' F' k d v f
  | 0, _, _, _, h, _ => ⟨h.1.mono s, h.2⟩
  | k + 1, d, v, f, h, w => by
    cases d with
    | lst l =>
      obtain ⟨a, xs, f', e1, e2, e3, e4⟩ := h
      subst e4
      refine ⟨a, xs, f', e1, w a List.mem_cons_self _ e2, e3.mono fun d x f1 hf h1 => Own.keep s h1 fun b hb => w b (List.mem_cons_of_mem _ (hf b hb)), rfl⟩
    | ins c l =>
      obtain ⟨ek, a, xs, e1, e2, e3⟩ := h
      exact ⟨ek, a, xs, e1, e2.keep w, e3.mono s⟩
    | _ => exact h.elim
theorem OwnA.there {p : D → V → List Addr → Prop} (hp : ∀ d v f, p d v f → ∀ b ∈ f, H b ≠ none) : ∀ {l : List D} {xs : List V} {f : List Addr}, OwnA p l xs f → ∀ b ∈ f, H b ≠ none
  | [], _, _, h, b, hb => by rw [h.2] at hb; cases hb
  | d :: l, _, _, h, b, hb => by
    obtain ⟨x, r, f1, f2, e1, e2, h1, h2⟩ := h
    subst e2
    rcases List.mem_append.mp hb with hb | hb
    · exact hp _ _ _ h1 b hb
    · exact OwnA.there hp h2 b hb
theorem Own.there : ∀ {k : Nat} {d : D} {v : V} {f : List Addr}, Own g H F k d v f → ∀ b ∈ f, H b ≠ none
  | 0, _, _, _, h, b, hb => by rw [h.2] at hb; cases hb
  | k + 1, d, v, f, h, b, hb => by
    cases d with
    | lst l =>
      obtain ⟨a, xs, f', e1, e2, e3, e4⟩ := h
      subst e4
      rcases List.mem_cons.mp hb with e | hb
      · subst e; rw [e2]; intro z; cases z
      · exact OwnA.there (fun d v f h => Own.there h) e3 b hb
    | ins c l =>
      obtain ⟨ek, a, xs, e1, e2, e3⟩ := h
      exact e2.there b hb
    | _ => exact h.elim
theorem OwnA.denL {q : D → V → List Addr → Prop} (w : ∀ d v f, q d v f → Den g B d v) : ∀ {l : List D} {xs : List V} {f : List Addr}, OwnA q l xs f → DenL g B l xs
  | [], _, _, h => h.1
  | d :: l, _, _, h => by
    obtain ⟨x, r, f1, f2, e1, e2, h1, h2⟩ := h
    exact ⟨x, r, e1, w _ _ _ h1, OwnA.denL w h2⟩
/-- what is owned, seen in the whole heap (or in any that holds the frozen part and its own cells) -/
theorem Own.den : ∀ {k : Nat} {d : D} {v : V} {f : List Addr}, Own g H F k d v f → Sub F B → (∀ b ∈ f, ∀ o, H b = some o → B b = some o) → Den g B d v
  | 0, _, _, _, h, s, _ => h.1.mono s
  | k + 1, d, v, f, h, s, w => by
    cases d with
    | lst l =>
      obtain ⟨a, xs, f', e1, e2, e3, e4⟩ := h
      subst e4
      have e3' : OwnA (fun d v f1 => Own g H F k d v f1 ∧ ∀ b ∈ f1, b ∈ f') l xs f' := e3.mono fun d x f1 hf h1 => ⟨h1, hf⟩
      exact ⟨a, xs, e1, w a List.mem_cons_self _ e2, OwnA.denL (fun d v f1 h1 => Own.den h1.1 s fun b hb => w b (List.mem_cons_of_mem _ (h1.2 b hb))) e3'⟩
    | ins c l =>
      obtain ⟨ek, a, xs, e1, e2, e3⟩ := h
      have e4 : InsO g B c a xs f := e2.keep w
      exact ⟨a, xs, e1, e4.den, e3.mono s⟩
    | _ => exact h.elim
theorem DenL.rep {l : List D} {xs : List V} (h : DenL g F l xs) : ∀ n : Nat, DenL g F (List.replicate n l).flatten (List.replicate n xs).flatten
  | 0 => rfl
  | n + 1 => by
    rw [List.replicate_succ, List.replicate_succ, List.flatten_cons, List.flatten_cons]
    exact h.app (DenL.rep h n)
end
end Ev
set_option Elab.async false
set_option linter.all false
set_option maxRecDepth 100000
set_option maxHeartbeats 1000000
/-! Ev3: the names' state, a step's frame, what is wanted behind an expression -/
namespace Ev
open PySem L2

abbrev Fps := Nat → List Addr
/-- the core's slots: the place and the depth of each; the places that stay as they were -/
structure Sls where
  l : List (Nat × Nat)
  pin : List (Nat × V) := []
  fz : List (Addr × HO) := []
/-- the names e stand in the slots and the heap: F frozen, fp what each one owns -/
structure Ns (g : G) (ty : Sls) (σ : L2.St) (H F : Hp) (e : Nv) (fp : Fps) : Prop where
  sub : Sub F H
  val : ∀ j d, gt e j = some d → ∃ p k v, ty.l[j]? = some (p, k) ∧ σ[p]? = some (some v) ∧ Own g H F k d v (fp j)
  nil : ∀ j, gt e j = none → fp j = []
  fr : ∀ j, ∀ a ∈ fp j, F a = none
  nd : ∀ j, (fp j).Nodup
  dj : ∀ i j, i ≠ j → ∀ a ∈ fp i, a ∉ fp j
  len : ∀ (j q k : Nat), ty.l[j]? = some (q, k) → q < σ.length
  el : e.length = ty.l.length
  pn : ∀ x ∈ ty.pin, σ[x.1]? = some (some x.2)
  fz : ∀ x ∈ ty.fz, F x.1 = some x.2
/-- what a step leaves: all that stood but what the names own (p: that too) -/
structure Tr (p : Bool) (H F : Hp) (fp : Fps) (H' F' : Hp) (fp' : Fps) : Prop where
  sub : Sub F F'
  keep : ∀ a o, H a = some o → (p = true ∨ ∀ j, a ∉ fp j) → H' a = some o
  nofr : ∀ a, H a ≠ none → F a = none → (p = true ∨ ∀ j, a ∉ fp j) → F' a = none
  new : ∀ j, ∀ a ∈ fp' j, (∃ i, a ∈ fp i) ∨ H a = none
  same : p = true → fp' = fp

section
variable {g : G} {ty : Sls} {σ : L2.St} {H F H1 F1 H2 F2 : Hp} {e : Nv} {fp fp1 fp2 : Fps} {p q : Bool}
theorem Tr.refl (p : Bool) : Tr p H F fp H F fp := ⟨Sub.rfl', fun _ _ h _ => h, fun _ _ h _ => h, fun j a h => .inl ⟨j, h⟩, fun _ => rfl⟩
theorem Tr.weak (t : Tr p H F fp H1 F1 fp1) (h : q = true → p = true) : Tr q H F fp H1 F1 fp1 :=
  ⟨t.sub, fun a o k w => t.keep a o k (w.imp h id), fun a k l w => t.nofr a k l (w.imp h id), t.new, fun k => t.same (h k)⟩
theorem Tr.dom (t : Tr p H F fp H1 F1 fp1) {a : Addr} (h : H a ≠ none) (w : p = true ∨ ∀ j, a ∉ fp j) : H1 a ≠ none := by
  cases k : H a with
  | none => exact absurd k h
  | some o =>
    rw [t.keep a o k w]
    intro z
    cases z
/-- what is new behind the second step was owned or not there ahead of the first -/
theorem Tr.back (t : Tr p H F fp H1 F1 fp1) {a : Addr} (h : (∃ i, a ∈ fp1 i) ∨ H1 a = none) : (∃ i, a ∈ fp i) ∨ H a = none := by
  rcases h with ⟨i, h⟩ | h
  · exact t.new i a h
  · by_cases w : ∃ i, a ∈ fp i
    · exact .inl w
    · refine .inr ?_
      cases k : H a with
      | none => rfl
      | some o =>
        rw [t.keep a o k (.inr fun j hj => w ⟨j, hj⟩)] at h
        cases h
theorem Tr.out (t : Tr p H F fp H1 F1 fp1) {a : Addr} (h : H a ≠ none) (w : ∀ j, a ∉ fp j) : ∀ j, a ∉ fp1 j := fun j hj => by
  rcases t.new j a hj with ⟨i, hi⟩ | hn
  · exact w i hi
  · exact h hn
theorem Tr.trans (t : Tr p H F fp H1 F1 fp1) (u : Tr q H1 F1 fp1 H2 F2 fp2) : Tr (p && q) H F fp H2 F2 fp2 := by
  have step : ∀ a, H a ≠ none → ((p && q) = true ∨ ∀ j, a ∉ fp j) → (p = true ∨ ∀ j, a ∉ fp j) ∧ (q = true ∨ ∀ j, a ∉ fp1 j) := fun a ha w => by
    rcases w with w | w
    · obtain ⟨w1, w2⟩ := Bool.and_eq_true_iff.mp w
      exact ⟨.inl w1, .inl w2⟩
    · exact ⟨.inr w, .inr (t.out ha w)⟩
  refine ⟨t.sub.trans u.sub, fun a o k w => ?_, fun a k l w => ?_, fun j a h => t.back (u.new j a h), fun w => ?_⟩
  · obtain ⟨w1, w2⟩ := step a (by rw [k]; intro z; cases z) w
    exact u.keep a o (t.keep a o k w1) w2
  · obtain ⟨w1, w2⟩ := step a k w
    exact u.nofr a (t.dom k w1) (t.nofr a k l w1) w2
  · obtain ⟨w1, w2⟩ := Bool.and_eq_true_iff.mp w
    rw [u.same w2, t.same w1]
/-- a new object is laid (not frozen) -/
theorem Tr.lay {a : Addr} {o : HO} (h : H a = none) : Tr true H F fp (upd H a o) F fp :=
  ⟨Sub.rfl', fun b u k _ => by rw [upd_ne (ne_of_none k h)]; exact k, fun _ _ k _ => k, fun j b hb => .inl ⟨j, hb⟩, fun _ => rfl⟩
theorem sub_upd {a : Addr} {o : HO} (h : H a = none) : Sub H (upd H a o) := fun b u k => by rw [upd_ne (ne_of_none k h)]; exact k
theorem sub_upd2 {a : Addr} {o : HO} (s : Sub F H) (h : H a = none) : Sub (upd F a o) (upd H a o) := fun b u k => by
  by_cases e : b = a
  · subst e
    rw [upd_same] at k ⊢
    exact k
  · rw [upd_ne e] at k ⊢
    exact s _ _ k
theorem Sub.none (s : Sub F H) {a : Addr} (h : H a = none) : F a = none := by
  cases k : F a with
  | none => rfl
  | some o => rw [s _ _ k] at h; cases h
/-- .. and frozen -/
theorem Tr.layF {a : Addr} {o : HO} (s : Sub F H) (h : H a = none) : Tr true H F fp (upd H a o) (upd F a o) fp :=
  ⟨sub_upd (s.none h), fun b u k _ => by rw [upd_ne (ne_of_none k h)]; exact k, fun b k l _ => by
    by_cases e : b = a
    · subst e; exact absurd h k
    · rw [upd_ne e]; exact l, fun j b hb => .inl ⟨j, hb⟩, fun _ => rfl⟩
theorem Ns.there (N : Ns g ty σ H F e fp) (j : Nat) : ∀ a ∈ fp j, H a ≠ none := fun a ha => by
  cases k : gt e j with
  | none => rw [N.nil j k] at ha; cases ha
  | some d =>
    obtain ⟨p, n, v, _, _, h⟩ := N.val j d k
    exact h.there a ha
/-- the names stay where nothing of theirs is touched -/
theorem Ns.keep (N : Ns g ty σ H F e fp) (s : Sub F F1) (s1 : Sub F1 H1) (k : ∀ j, ∀ a ∈ fp j, ∀ o, H a = some o → H1 a = some o) (w : ∀ j, ∀ a ∈ fp j, F1 a = none) : Ns g ty σ H1 F1 e fp :=
  ⟨s1, fun j d h => by
    obtain ⟨p, n, v, h1, h2, h3⟩ := N.val j d h
    exact ⟨p, n, v, h1, h2, h3.keep s (k j)⟩, N.nil, w, N.nd, N.dj, N.len, N.el, N.pn, fun x hx => s _ _ (N.fz x hx)⟩
theorem Ns.lay (N : Ns g ty σ H F e fp) {a : Addr} {o : HO} (h : H a = none) : Ns g ty σ (upd H a o) F e fp :=
  N.keep Sub.rfl' (N.sub.trans (sub_upd h)) (fun j b hb u k => by rw [upd_ne (ne_of_none k h)]; exact k) N.fr
theorem Ns.layF (N : Ns g ty σ H F e fp) {a : Addr} {o : HO} (h : H a = none) : Ns g ty σ (upd H a o) (upd F a o) e fp :=
  N.keep (sub_upd (N.sub.none h)) (sub_upd2 N.sub h) (fun j b hb u k => by rw [upd_ne (ne_of_none k h)]; exact k) fun j b hb => by
    by_cases z : b = a
    · subst z; exact absurd h (N.there j _ hb)
    · rw [upd_ne z]; exact N.fr j b hb
end

/-- how a value is had: frozen; owned anew to a depth; borrowed of a name -/
inductive Kd where
  | F | own (k : Nat) | bor (k : Nat)
  deriving DecidableEq
section
variable (g : G) (ty : Sls)
def Res (H0 : Hp) (fp0 : Fps) (H F : Hp) (fp : Fps) : Kd → D → V → Prop
  | .F, d, v => Den g F d v
  | .own k, d, v => ∃ f, Own g H F k d v f ∧ f.Nodup ∧ ∀ a ∈ f, F a = none ∧ (∀ j, a ∉ fp j) ∧ ((∃ i, a ∈ fp0 i) ∨ H0 a = none)
  | .bor k, d, v => ∃ f, Own g H F k d v f
/-- an exception as it leaves -/
def XcAt (F : Hp) (x : Xc) (c : Value) (dd : Option Addr) : Prop :=
  c = .ref (g.cl x.c) ∧ ((x.l = [] ∧ dd = none) ∨ ∃ a vs, dd = some a ∧ F a = some (.xd ((g.nm x.c).zip vs).reverse) ∧ DenL g F x.l vs)
/-- what is wanted behind an expression -/
def Post (kd : Kd) (p : Bool) (r : RE D) (σ : L2.St) (H F : Hp) (fp : Fps) (W : WX) (Q : VK) : Prop := match r with
  | .ok d e => ∀ v H1 F1 fp1, Tr p H F fp H1 F1 fp1 → Ns g ty σ H1 F1 e fp1 → Res g H fp H1 F1 fp1 kd d v → Q v H1
  | .err x e => ∀ c dd H1 F1 fp1, Tr p H F fp H1 F1 fp1 → Ns g ty σ H1 F1 e fp1 → XcAt g F1 x c dd → W c dd σ H1
  | .stk => False
def PostL (p : Bool) (r : RE (List D)) (σ : L2.St) (H F : Hp) (fp : Fps) (W : WX) (Q : List V → Hp → Prop) : Prop := match r with
  | .ok d e => ∀ v H1 F1 fp1, Tr p H F fp H1 F1 fp1 → Ns g ty σ H1 F1 e fp1 → DenL g F1 d v → Q v H1
  | .err x e => ∀ c dd H1 F1 fp1, Tr p H F fp H1 F1 fp1 → Ns g ty σ H1 F1 e fp1 → XcAt g F1 x c dd → W c dd σ H1
  | .stk => False
end
section
variable {g : G} {ty : Sls} {σ : L2.St} {H F H1 F1 H0 : Hp} {e : Nv} {fp fp1 fp0 : Fps} {p pa pb : Bool} {W : WX} {Q : VK} {kd ka : Kd} {r : RE D}
theorem Res.view {d : D} {v : V} (h : Res g H0 fp0 H F fp kd d v) (s : Sub F H) : Den g H d v := by
  cases kd with
  | F => exact Den.mono s h
  | own k =>
    obtain ⟨f, h1, _⟩ := h
    exact h1.den s fun _ _ _ k => k
  | bor k =>
    obtain ⟨f, h1⟩ := h
    exact h1.den s fun _ _ _ k => k
/-- a value that was had ahead of a step is had behind it -/
theorem Res.keep {d : D} {v : V} {Ha : Hp} {fpa : Fps} (h : Res g Ha fpa H F fp kd d v) (t : Tr p H F fp H1 F1 fp1) (w : ∀ k, kd = .bor k → p = true) : Res g Ha fpa H1 F1 fp1 kd d v := by
  cases kd with
  | F => exact Den.mono t.sub h
  | own k =>
    obtain ⟨f, h1, h2, h3⟩ := h
    refine ⟨f, h1.keep t.sub fun b hb o ho => t.keep b o ho (.inr (h3 b hb).2.1), h2, fun a ha => ?_⟩
    obtain ⟨k1, k2, k3⟩ := h3 a ha
    have k4 := h1.there a ha
    exact ⟨t.nofr a k4 k1 (.inr k2), t.out k4 k2, k3⟩
  | bor k =>
    obtain ⟨f, h1⟩ := h
    exact ⟨f, h1.keep t.sub fun b hb o ho => t.keep b o ho (.inl (w k rfl))⟩
/-- the state ahead moves on -/
theorem Post.shift (h : Post g ty kd (pa && pb) r σ H F fp W Q) (t : Tr pa H F fp H1 F1 fp1) : Post g ty kd pb r σ H1 F1 fp1 W Q := by
  cases r with
  | stk => exact h
  | err x e => exact fun c dd H2 F2 fp2 t2 n2 x2 => h c dd H2 F2 fp2 (t.trans t2) n2 x2
  | ok d e =>
    refine fun v H2 F2 fp2 t2 n2 r2 => h v H2 F2 fp2 (t.trans t2) n2 ?_
    cases kd with
    | F => exact r2
    | bor k => exact r2
    | own k =>
      obtain ⟨f, h1, h2, h3⟩ := r2
      exact ⟨f, h1, h2, fun a ha => ⟨(h3 a ha).1, (h3 a ha).2.1, t.back (h3 a ha).2.2⟩⟩
theorem PostL.shift {r : RE (List D)} {Q : List V → Hp → Prop} (h : PostL g ty (pa && pb) r σ H F fp W Q) (t : Tr pa H F fp H1 F1 fp1) : PostL g ty pb r σ H1 F1 fp1 W Q := by
  cases r with
  | stk => exact h
  | err x e => exact fun c dd H2 F2 fp2 t2 n2 x2 => h c dd H2 F2 fp2 (t.trans t2) n2 x2
  | ok d e => exact fun v H2 F2 fp2 t2 n2 r2 => h v H2 F2 fp2 (t.trans t2) n2 r2
theorem Post.wk {q : Bool} (h : Post g ty kd p r σ H F fp W Q) (hp : p = true → q = true) : Post g ty kd q r σ H F fp W Q := by
  cases r with
  | stk => exact h
  | err x e => exact fun c dd H2 F2 fp2 t2 n2 x2 => h c dd H2 F2 fp2 (t2.weak hp) n2 x2
  | ok d e => exact fun v H2 F2 fp2 t2 n2 r2 => h v H2 F2 fp2 (t2.weak hp) n2 r2
/-- first this, then that -/
theorem Post.bind {k : D → Nv → RE D} {Q' : VK} (h : Post g ty kd p (r.bind k) σ H F fp W Q) (hp : p = true → pa = true)
    (w : ∀ d e1 v H1 F1 fp1, r = .ok d e1 → Post g ty kd p (k d e1) σ H F fp W Q → Tr pa H F fp H1 F1 fp1 → Ns g ty σ H1 F1 e1 fp1 → Res g H fp H1 F1 fp1 ka d v → Q' v H1) : Post g ty ka pa r σ H F fp W Q' := by
  cases r with
  | stk => exact h
  | err x e => exact fun c dd H2 F2 fp2 t2 n2 x2 => h c dd H2 F2 fp2 (t2.weak hp) n2 x2
  | ok d e => exact fun v H2 F2 fp2 t2 n2 r2 => w d e v H2 F2 fp2 rfl h t2 n2 r2
theorem Post.bindL {r : RE (List D)} {k : List D → Nv → RE D} {Q' : List V → Hp → Prop} (h : Post g ty kd p (r.bind k) σ H F fp W Q) (hp : p = true → pa = true)
    (w : ∀ d e1 v H1 F1 fp1, r = .ok d e1 → Post g ty kd p (k d e1) σ H F fp W Q → Tr pa H F fp H1 F1 fp1 → Ns g ty σ H1 F1 e1 fp1 → DenL g F1 d v → Q' v H1) : PostL g ty pa r σ H F fp W Q' := by
  cases r with
  | stk => exact h
  | err x e => exact fun c dd H2 F2 fp2 t2 n2 x2 => h c dd H2 F2 fp2 (t2.weak hp) n2 x2
  | ok d e => exact fun v H2 F2 fp2 t2 n2 r2 => w d e v H2 F2 fp2 rfl h t2 n2 r2
theorem PostL.bind {k : D → Nv → RE (List D)} {Q : List V → Hp → Prop} {Q' : VK} (h : PostL g ty p (r.bind k) σ H F fp W Q) (hp : p = true → pa = true)
    (w : ∀ d e1 v H1 F1 fp1, r = .ok d e1 → PostL g ty p (k d e1) σ H F fp W Q → Tr pa H F fp H1 F1 fp1 → Ns g ty σ H1 F1 e1 fp1 → Res g H fp H1 F1 fp1 ka d v → Q' v H1) : Post g ty ka pa r σ H F fp W Q' := by
  cases r with
  | stk => exact h
  | err x e => exact fun c dd H2 F2 fp2 t2 n2 x2 => h c dd H2 F2 fp2 (t2.weak hp) n2 x2
  | ok d e => exact fun v H2 F2 fp2 t2 n2 r2 => w d e v H2 F2 fp2 rfl h t2 n2 r2
theorem PostL.bindL {r : RE (List D)} {k : List D → Nv → RE (List D)} {Q Q' : List V → Hp → Prop} (h : PostL g ty p (r.bind k) σ H F fp W Q) (hp : p = true → pa = true)
    (w : ∀ d e1 v H1 F1 fp1, r = .ok d e1 → PostL g ty p (k d e1) σ H F fp W Q → Tr pa H F fp H1 F1 fp1 → Ns g ty σ H1 F1 e1 fp1 → DenL g F1 d v → Q' v H1) : PostL g ty pa r σ H F fp W Q' := by
  cases r with
  | stk => exact h
  | err x e => exact fun c dd H2 F2 fp2 t2 n2 x2 => h c dd H2 F2 fp2 (t2.weak hp) n2 x2
  | ok d e => exact fun v H2 F2 fp2 t2 n2 r2 => w d e v H2 F2 fp2 rfl h t2 n2 r2
/-- what is owned anew is frozen -/
theorem freeze (N : Ns g ty σ H F e fp) {f : List Addr} (h1 : ∀ a ∈ f, F a = none ∧ ∀ j, a ∉ fp j) :
    ∃ F', Sub F F' ∧ Sub F' H ∧ (∀ b ∈ f, ∀ o, H b = some o → F' b = some o) ∧ Ns g ty σ H F' e fp ∧ ∀ a, F a = none → a ∉ f → F' a = none := by
  refine ⟨fun a => if a ∈ f then H a else F a, fun a o h => ?_, fun a o h => ?_, fun b hb o h => ?_, ?_, fun a h k => ?_⟩
  · have n : a ∉ f := fun z => by rw [(h1 a z).1] at h; cases h
    show (if a ∈ f then H a else F a) = some o
    rw [if_neg n]
    exact h
  · have h : (if a ∈ f then H a else F a) = some o := h
    by_cases n : a ∈ f
    · rw [if_pos n] at h; exact h
    · rw [if_neg n] at h; exact N.sub _ _ h
  · show (if b ∈ f then H b else F b) = some o
    rw [if_pos hb]
    exact h
  · refine N.keep (fun a o h => ?_) (fun a o h => ?_) (fun _ _ _ _ k => k) fun j a ha => ?_
    · have n : a ∉ f := fun z => by rw [(h1 a z).1] at h; cases h
      show (if a ∈ f then H a else F a) = some o
      rw [if_neg n]
      exact h
    · have h : (if a ∈ f then H a else F a) = some o := h
      by_cases n : a ∈ f
      · rw [if_pos n] at h; exact h
      · rw [if_neg n] at h; exact N.sub _ _ h
    · show (if a ∈ f then H a else F a) = none
      rw [if_neg fun z => (h1 a z).2 j ha]
      exact N.fr j a ha
  · show (if a ∈ f then H a else F a) = none
    rw [if_neg k]
    exact h
/-- an owned answer may be had frozen -/
theorem Post.low {k : Nat} (h : Post g ty .F p r σ H F fp W Q) : Post g ty (.own k) p r σ H F fp W Q := by
  cases r with
  | stk => exact h
  | err x e => exact h
  | ok d e =>
    refine fun v H1 F1 fp1 t n r1 => ?_
    obtain ⟨f, h1, h2, h3⟩ := r1
    obtain ⟨F', s1, s2, s3, n', s4⟩ := freeze n (f := f) fun a ha => ⟨(h3 a ha).1, (h3 a ha).2.1⟩
    refine h v H1 F' fp1 ⟨t.sub.trans s1, t.keep, fun a k l w => s4 a (t.nofr a k l w) fun z => ?_, t.new, t.same⟩ n' (h1.den s1 s3)
    rcases w with w | w
    · rcases (h3 a z).2.2 with ⟨i, hi⟩ | hn
      · have e := t.same w
        have z' := (h3 a z).2.1 i
        rw [e] at z'
        exact z' hi
      · exact k hn
    · rcases (h3 a z).2.2 with ⟨i, hi⟩ | hn
      · exact w i hi
      · exact k hn
end
theorem PE.imp {X : Cx} {e : Expr} {t t' : TE} (h : PE X e t) (k : ∀ σ H Q, t' σ H Q → t σ H Q) : PE X e t' := ⟨fun pins s σ H Q I w => h.run pins s σ H Q I (k σ H Q w)⟩
theorem PT.imp {X : Cx} {e : Expr} {t t' : TT} (h : PT X e t) (k : ∀ σ H Q, t' σ H Q → t σ H Q) : PT X e t' := ⟨fun pins s σ H Q I w => h.run pins s σ H Q I (k σ H Q w)⟩
theorem PA.imp {X : Cx} {e : List Expr} {t t' : TA} (h : PA X e t) (k : ∀ σ H Q, t' σ H Q → t σ H Q) : PA X e t' := ⟨fun pos pins s σ H Q I w => h.run pos pins s σ H Q I (k σ H Q w)⟩
theorem PS.imp {X : Cx} {e : Stmt} {t t' : TS} (h : PS X e t) (k : ∀ D σ H, t' D σ H → t D σ H) : PS X e t' := ⟨fun pins s σ H D I w => h.run pins s σ H D I (k D σ H w)⟩
theorem PSs.imp {X : Cx} {e : List Stmt} {t t' : TS} (h : PSs X e t) (k : ∀ D σ H, t' D σ H → t D σ H) : PSs X e t' := ⟨fun pins s σ H D I w => h.run pins s σ H D I (k D σ H w)⟩
end Ev
set_option Elab.async false
set_option linter.all false
set_option maxRecDepth 100000
set_option maxHeartbeats 1000000
/-! Ev4: the expressions' readings: names, constants, operators on plain data -/
namespace Ev
open PySem L2 PySem.Spec PyProof.Rows

mutual
def pureE : E → Bool
  | .mov _ => false
  | .callI _ _ _ _ => false
  | .popl _ => false
  | .popi _ _ => false
  | .tup l => pureEs l
  | .lst l => pureEs l
  | .bin _ a b => pureE a && pureE b
  | .neg a => pureE a
  | .nt a => pureE a
  | .cmp _ a b => pureE a && pureE b
  | .chn _ _ a b c => pureE a && pureE b && pureE c
  | .isN a => pureE a
  | .notN a => pureE a
  | .and a b => pureE a && pureE b
  | .or a b => pureE a && pureE b
  | .ife c a b => pureE c && pureE a && pureE b
  | .sub a i => pureE a && pureE i
  | .slc a lo hi => pureE a && pureO lo && pureO hi
  | .fld a _ => pureE a
  | .call _ l => pureEs l
  | .new _ _ l => pureEs l
  | .newx _ l => pureEs l
  | .xfl a _ => pureE a
  | .xisv a _ => pureE a
  | .mth _ o l => pureE o && pureEs l
  | .bi _ l => pureEs l
  | .isi a _ => pureE a
  | .blen a => pureE a
  | .boo a => pureE a
  | .fmt a => pureE a
  | .js l => pureEs l
  | .lc _ _ => false
  | _ => true
def pureEs : Es → Bool
  | .nil => true
  | .cons a l => pureE a && pureEs l
def pureO : Eo → Bool
  | .none => true
  | .some a => pureE a
def pureI : It → Bool
  | .seq a => pureE a
  | .rng1 a => pureE a
  | .rng2 a b => pureE a && pureE b
  | .rng3 a b c => pureE a && pureE b && pureE c
  | .enum a => pureE a
  | .zip a b => pureE a && pureE b
def pureC : Cl → Bool
  | .one _ i c => pureI i && pureO c
end

section
variable (g : G) (φ : Phi) (P : Pt) (ty : Sls) (W : WX)
def tE (kd : Kd) (c : E) : TE := fun σ H Q => ∃ e F fp, Ns g ty σ H F e fp ∧ Post g ty kd (pureE c) (ev φ P c e) σ H F fp W Q
def tEs (l : Es) : TA := fun σ H Q => ∃ e F fp, Ns g ty σ H F e fp ∧ PostL g ty (pureEs l) (evs φ P l e) σ H F fp W Q
/-- plain, or a list whose items are frozen -/
def Vw (H F : Hp) (d : D) (v : V) : Prop := Den g F d v ∨ ∃ l a xs, d = .lst l ∧ v = .ref a ∧ H a = some (.lst xs) ∧ DenL g F l xs
end
def flatK : Kd → Bool
  | .F => true
  | .own k => k == 1
  | .bor k => k == 1
section
variable {g : G} {φ : Phi} {P : Pt} {ty : Sls} {W : WX} {X : Cx} {kd ka kb : Kd} {a b c : E} {xa xb xc : Expr} {pos : Pos}
variable {σ : L2.St} {H F H1 F1 H0 : Hp} {e : Nv} {fp fp1 fp0 : Fps} {p pa pb : Bool} {Q : VK}
theorem Res.vw {d : D} {v : V} (h : Res g H0 fp0 H F fp kd d v) (hk : flatK kd = true) : Vw g H F d v := by
  have one : ∀ f, Own g H F 1 d v f → Vw g H F d v := fun f h => by
    cases d with
    | lst l =>
      obtain ⟨a, xs, f', e1, e2, e3, e4⟩ := h
      exact .inr ⟨l, a, xs, rfl, e1, e2, (OwnA.den e3).1⟩
    | ins c l => exact absurd h.1 (by decide)
    | _ => exact h.elim
  cases kd with
  | F => exact .inl h
  | own k =>
    have e : k = 1 := by simpa [flatK] using hk
    subst e
    obtain ⟨f, h1, _⟩ := h
    exact one f h1
  | bor k =>
    have e : k = 1 := by simpa [flatK] using hk
    subst e
    obtain ⟨f, h1⟩ := h
    exact one f h1
theorem Vw.lst {l : List D} {v : V} (h : Vw g H F (.lst l) v) (s : Sub F H) : ∃ a xs, v = .ref a ∧ H a = some (.lst xs) ∧ DenL g F l xs := by
  rcases h with ⟨a, xs, h1, h2, h3⟩ | ⟨m, a, xs, e, h1, h2, h3⟩
  · exact ⟨a, xs, h1, s _ _ h2, h3⟩
  · cases e
    exact ⟨a, xs, h1, h2, h3⟩
theorem Vw.den {d : D} {v : V} (h : Vw g H F d v) (n : ∀ l, d ≠ .lst l) : Den g F d v := by
  rcases h with h | ⟨m, a, xs, e, h1, h2, h3⟩
  · exact h
  · exact absurd e (n m)
theorem Vw.all {d : D} {v : V} (h : Vw g H F d v) (s : Sub F H) : Den g H d v := by
  rcases h with h | ⟨m, a, xs, e, h1, h2, h3⟩
  · exact Den.mono s h
  · subst e
    exact ⟨a, xs, h1, h2, DenL.mono s h3⟩

/-! ### ends -/
/-- a plain answer -/
theorem Post.fin {d : D} {v : V} (h : Post g ty .F p (.ok d e) σ H F fp W Q) (N : Ns g ty σ H F e fp) (k : Den g F d v) : Q v H := h v H F fp (Tr.refl p) N k
/-- an answer that is a new object -/
theorem Post.finN {d : D} {q : Addr} {o : HO} (h : Post g ty .F p (.ok d e) σ H F fp W Q) (N : Ns g ty σ H F e fp) (hq : H q = none) (k : Den g (upd F q o) d (.ref q)) : Q (.ref q) (upd H q o) :=
  h (.ref q) _ _ fp ((Tr.layF N.sub hq).weak fun _ => rfl) (N.layF hq) k
/-- a new list of one's own -/
theorem Post.finO {l : List D} {xs : List V} {q : Addr} (h : Post g ty (.own 1) p (.ok (.lst l) e) σ H F fp W Q) (N : Ns g ty σ H F e fp) (hq : H q = none) (k : DenL g F l xs) : Q (.ref q) (upd H q (.lst xs)) := by
  refine h (.ref q) _ F fp ((Tr.lay hq).weak fun _ => rfl) (N.lay hq) ⟨[q], ⟨q, xs, [], rfl, upd_same, OwnA.of_den k, rfl⟩, by simp, fun a ha => ?_⟩
  have ea : a = q := by simpa using ha
  subst ea
  exact ⟨N.sub.none hq, fun j hj => N.there j _ hj hq, .inr hq⟩
theorem newL {l : List D} {xs : List V} {q : Addr} (k : DenL g F l xs) (h : F q = none) : Den g (upd F q (.lst xs)) (.lst l) (.ref q) := ⟨q, xs, rfl, upd_same, DenL.mono (sub_upd h) k⟩
theorem newT {l : List D} {xs : List V} {q : Addr} (k : DenL g F l xs) (h : F q = none) : Den g (upd F q (.tup xs)) (.tup l) (.ref q) := ⟨q, xs, rfl, SqT.of upd_same, DenL.mono (sub_upd h) k⟩

/-! ### names, constants -/
theorem s_v {j p k : Nat} {x : Str} (hty : ty.l[j]? = some (p, k)) (hN : X.N[p]? = some x) (hv : Vis X.env.scope x) (hd : (x == ("__debug__" : Str)) = false) (hc : (x == ("__classdict__" : Str)) = false) :
    PE X (.Name x pos) (tE g φ P ty W (if k = 0 then .F else .bor k) (.v j)) := by
  refine PE.imp (pe_var hN hv hd hc) fun σ H Q ⟨e, F, fp, N, h⟩ => ?_
  unfold ev at h
  cases hj : gt e j with
  | none => rw [hj] at h; exact h.elim
  | some d =>
    rw [hj] at h
    obtain ⟨p', k', v, h1, h2, h3⟩ := N.val j d hj
    rw [hty] at h1
    cases h1
    refine ⟨v, h2, h v H F fp (Tr.refl _) N ?_⟩
    by_cases z : k = 0
    · subst z
      rw [if_pos rfl]
      exact h3.1
    · rw [if_neg z]
      exact ⟨fp j, h3⟩
theorem s_int {i : Int} {j : Nat} : PE X (.Constant (.int i) j pos) (tE g φ P ty W .F (.int i)) := PE.imp pe_int fun σ H Q ⟨e, F, fp, N, h⟩ => Post.fin h N rfl
theorem s_bl {i : Bool} {j : Nat} : PE X (.Constant (.bool i) j pos) (tE g φ P ty W .F (.bl i)) := PE.imp pe_bl fun σ H Q ⟨e, F, fp, N, h⟩ => Post.fin h N rfl
theorem s_non {j : Nat} : PE X (.Constant .none j pos) (tE g φ P ty W .F .non) := PE.imp pe_non fun σ H Q ⟨e, F, fp, N, h⟩ => Post.fin h N rfl
theorem s_str {i : Str} {j : Nat} : PE X (.Constant (.str i) j pos) (tE g φ P ty W .F (.str i)) := PE.imp pe_str fun σ H Q ⟨e, F, fp, N, h⟩ => Post.fin h N rfl

/-! ### lower kinds -/
theorem s_low {k : Nat} (h : PE X xa (tE g φ P ty W (.own k) a)) : PE X xa (tE g φ P ty W .F a) := PE.imp h fun σ H Q ⟨e, F, fp, N, h⟩ => ⟨e, F, fp, N, Post.low (k := k) h⟩

/-! ### two operands -/
/-- a two-place operation on values, where what is raised may be wished for at the slots -/
def OpS (X : Cx) (f : Value → Value → Sem Value) (r : L2.St → V → V → Hp → VK → Prop) : Prop :=
  ∀ (pins : List (Addr × Obj)) (s : Shared) (σ : L2.St) (H : Hp) (x y : V) (v u : Value) (Q : VK), Inv X pins σ H s → RelV x v → RelV y u → r σ x y H Q →
    wpAny (model X.prog X.w) X.A (f v u) (EP X pins σ Q) X.xe s
theorem OpS.of {f : Value → Value → Sem Value} {r : R2} (h : OpR X f r) : OpS X f fun _ => r := fun pins s σ H x y v u Q I rx ry q => h pins s σ H x y v u Q I rx ry q
/-- what two values are, and the answer wished for -/
def rTwo (g : G) (ty : Sls) (W : WX) (vw : G → Hp → Hp → D → V → Prop) (f : D → D → RV) : L2.St → V → V → Hp → VK → Prop := fun σ x y H Q =>
  ∃ e F fp dx dy, Ns g ty σ H F e fp ∧ vw g H F dx x ∧ vw g H F dy y ∧ Post g ty .F true ((f dx dy).re e) σ H F fp W Q
/-- seen in the heap alone -/
def Sn (g : G) (H F : Hp) (d : D) (v : V) : Prop := Den g H d v ∧ (Den g F d v ∨ ∃ l, d = .lst l)
/-- the two operands, one behind the other -/
theorem two {vw : G → Hp → Hp → D → V → Prop} {f : D → D → RV} {cc : E} (hev : ∀ e, ev φ P cc e = (ev φ P a e).bind fun x e => (ev φ P b e).bind fun y e => (f x y).re e) (hpu : pureE cc = (pureE a && pureE b))
    (hka : ∀ H0 fp0 H F fp d v, Res g H0 fp0 H F fp ka d v → Sub F H → vw g H F d v) (hkb : ∀ H0 fp0 H F fp d v, Res g H0 fp0 H F fp kb d v → Sub F H → vw g H F d v) (hb : ∀ k, ka = .bor k → pureE b = true) :
    ∀ σ H Q, tE g φ P ty W .F cc σ H Q → tE g φ P ty W ka a σ H fun x H1 => tE g φ P ty W kb b σ H1 fun y H2 => rTwo g ty W vw f σ x y H2 Q := by
  intro σ H Q ⟨e, F, fp, N, h⟩
  rw [hev, hpu] at h
  refine ⟨e, F, fp, N, Post.bind h (fun z => (Bool.and_eq_true_iff.mp z).1) fun dx e1 x H1 F1 fp1 _ h1 t1 n1 r1 => ⟨e1, F1, fp1, n1, ?_⟩⟩
  refine Post.bind (Post.shift h1 t1) (fun z => z) fun dy e2 y H2 F2 fp2 _ h2 t2 n2 r2 => ?_
  have h3 : Post g ty .F true ((f dx dy).re e2) σ H2 F2 fp2 W Q := Post.shift (pa := pureE b) (by rw [Bool.and_true]; exact h2) t2
  exact ⟨e2, F2, fp2, dx, dy, n2, hka _ _ _ _ _ _ _ (r1.keep t2 hb) n2.sub, hkb _ _ _ _ _ _ _ r2 n2.sub, h3⟩
def bop : BO → Operator
  | .add => .Add | .sub => .Sub | .mul => .Mult | .fdiv => .FloorDiv | .mod => .Mod | .pow => .Pow
theorem s_bin {o : BO} (ha : PE X xa (tE g φ P ty W ka a)) (hb : PE X xb (tE g φ P ty W kb b)) (hka : flatK ka = true) (hkb : flatK kb = true) (hp : ∀ k, ka = .bor k → pureE b = true)
    (ho : OpS X (binaryOp (bop o)) (rTwo g ty W Vw (opBin φ P o))) : PE X (.BinOp xa (bop o) xb pos) (tE g φ P ty W .F (.bin o a b)) := by
  refine PE.imp (t := fun σ H Q => tE g φ P ty W ka a σ H fun x H1 => tE g φ P ty W kb b σ H1 fun y H2 => rTwo g ty W Vw (opBin φ P o) σ x y H2 Q) ⟨fun pins s σ H Q I h => ?_⟩ (two (fun e => by rw [ev]) (by rw [pureE]) (fun _ _ _ _ _ _ _ h _ => h.vw hka) (fun _ _ _ _ _ _ _ h _ => h.vw hkb) hp)
  exact wpAny_BinOp (binT ha hb I h fun v u s2 x y H2 I2 rx ry q => ho pins s2 σ H2 x y v u Q I2 rx ry q)
def cop : CO → CmpOp
  | .eq => .Eq | .ne => .NotEq | .lt => .Lt | .le => .LtE | .gt => .Gt | .ge => .GtE | .isin => .In | .notin => .NotIn
theorem Res.sn {d : D} {v : V} (h : Res g H0 fp0 H F fp kd d v) (hk : flatK kd = true) (s : Sub F H) : Sn g H F d v := by
  refine ⟨h.view s, ?_⟩
  rcases h.vw hk with h | ⟨l, a, xs, h, _⟩
  · exact .inl h
  · exact .inr ⟨l, h⟩
theorem s_cmp {o : CO} (ha : PE X xa (tE g φ P ty W ka a)) (hb : PE X xb (tE g φ P ty W kb b)) (hka : flatK ka = true) (hkb : flatK kb = true) (hp : ∀ k, ka = .bor k → pureE b = true)
    (ho : OpS X (compareOp (cop o)) (rTwo g ty W Sn (opCmp φ P o))) (hm : behindInMarks (cop o) xb = false) : PE X (.Compare xa [cop o] [xb] pos) (tE g φ P ty W .F (.cmp o a b)) := by
  refine PE.imp (t := fun σ H Q => tE g φ P ty W ka a σ H fun x H1 => tE g φ P ty W kb b σ H1 fun y H2 => rTwo g ty W Sn (opCmp φ P o) σ x y H2 Q) ⟨fun pins s σ H Q I h => ?_⟩ (two (fun e => by rw [ev]) (by rw [pureE]) (fun _ _ _ _ _ _ _ h s => h.sn hka s) (fun _ _ _ _ _ _ _ h s => h.sn hkb s) hp)
  exact wpAny_Compare1 (binT ha hb I h fun v u s2 x y H2 I2 rx ry q => ho pins s2 σ H2 x y v u Q I2 rx ry q) hm

/-! ### operators on plain data -/
theorem fdiv_ok {i j : Int} (h : divOk j = true) : j ≠ 0 ∧ j.natAbs.log2 < 9000 := by
  unfold divOk at h
  obtain ⟨h1, h2⟩ := Bool.and_eq_true_iff.mp h
  exact ⟨by simpa using h1, of_decide_eq_true h2⟩
/-- one of them is an instance -/
def insD : D → Bool
  | .ins _ _ => true
  | _ => false
def rTwoI (g : G) (ty : Sls) (W : WX) (vw : G → Hp → Hp → D → V → Prop) (f : D → D → RV) : L2.St → V → V → Hp → VK → Prop := fun σ x y H Q =>
  ∃ e F fp dx dy, (insD dx = true ∨ insD dy = true) ∧ Ns g ty σ H F e fp ∧ vw g H F dx x ∧ vw g H F dy y ∧ Post g ty .F true ((f dx dy).re e) σ H F fp W Q
/-- two things that are compared: one is an instance, or they are not plain -/
def rTwoC (g : G) (ty : Sls) (W : WX) (o : CO) (f : D → D → RV) : L2.St → V → V → Hp → VK → Prop := fun σ x y H Q =>
  ∃ e F fp dx dy, (insD dx = true ∨ insD dy = true ∨ o = .ne ∧ eqD dx dy = none) ∧ Ns g ty σ H F e fp ∧ Sn g H F dx x ∧ Sn g H F dy y ∧ Post g ty .F true ((f dx dy).re e) σ H F fp W Q
theorem int_ops {o : BO} {i j : Int} : OpR X (binaryOp (bop o)) (fun x y H Q => x = .int i ∧ y = .int j ∧ ∃ k, binInt o i j = .ok (.int k) ∧ Q (.int k) H) := by
  intro pins s σ H x y v u Q I rx ry ⟨ex, ey, k, hk, q⟩
  subst ex ey
  cases o with
  | add => cases hk; exact op_add pins s σ H _ _ v u Q I rx ry ⟨i, j, rfl, rfl, q⟩
  | sub => cases hk; exact op_sub pins s σ H _ _ v u Q I rx ry ⟨i, j, rfl, rfl, q⟩
  | mul =>
    dsimp only [binInt] at hk
    by_cases z : mulOk i j = true
    · rw [if_pos z] at hk
      cases hk
      exact op_mulW pins s σ H _ _ v u Q I rx ry ⟨i, j, rfl, rfl, (show i.natAbs.log2 + j.natAbs.log2 < 1000000 from of_decide_eq_true z), q⟩
    · rw [if_neg z] at hk; cases hk
  | fdiv =>
    dsimp only [binInt] at hk
    by_cases z : divOk j = true
    · rw [if_pos z] at hk
      cases hk
      obtain ⟨h1, h2⟩ := fdiv_ok (i := i) z
      obtain ⟨t, rfl⟩ := rx
      obtain ⟨t', rfl⟩ := ry
      exact floordiv_int h1 ⟨.int _, H, I.tok _, ⟨_, rfl⟩, q⟩ (.inl (PyProof.noPylong_of_log2 h2))
    · rw [if_neg z] at hk; cases hk
  | mod =>
    dsimp only [binInt] at hk
    by_cases z : (j != 0) = true
    · rw [if_pos z] at hk
      cases hk
      exact op_modN pins s σ H _ _ v u Q I rx ry ⟨i, j, rfl, rfl, by simpa using z, q⟩
    · rw [if_neg z] at hk; cases hk
  | pow =>
    dsimp only [binInt] at hk
    by_cases z : (decide (0 ≤ j) && decide (j ≤ 1000000) && decide (i.natAbs < 2 ^ 64)) = true
    · rw [if_pos z] at hk
      cases hk
      obtain ⟨z1, z2⟩ := Bool.and_eq_true_iff.mp z
      obtain ⟨z3, z4⟩ := Bool.and_eq_true_iff.mp z1
      exact op_pow pins s σ H _ _ v u Q I rx ry ⟨i, j, rfl, rfl, ⟨of_decide_eq_true z3, of_decide_eq_true z4, of_decide_eq_true z2⟩, q⟩
    · rw [if_neg z] at hk; cases hk
theorem binInt_int {o : BO} {i j : Int} {r : RV} (h : binInt o i j = r) : (∃ k, r = .ok (.int k)) ∨ r = .stk := by
  subst h
  cases o <;> dsimp only [binInt] <;> first
    | exact .inl ⟨_, rfl⟩
    | (split
       · exact .inl ⟨_, rfl⟩
       · exact .inr rfl)

theorem two_int {o : BO} {dx dy : D} {i j : Int} {x y : V} (h : Post g ty .F true ((opBin φ P o dx dy).re e) σ H F fp W Q) (ex : dx = .int i) (ey : dy = .int j) (hx : Den g F dx x) (hy : Den g F dy y) (N : Ns g ty σ H F e fp) :
    x = .int i ∧ y = .int j ∧ ∃ k, binInt o i j = .ok (.int k) ∧ Q (.int k) H := by
  subst ex ey
  refine ⟨hx, hy, ?_⟩
  have e1 : opBin φ P o (.int i) (.int j) = binInt o i j := by cases o <;> rfl
  rw [e1] at h
  rcases binInt_int (o := o) (i := i) (j := j) rfl with ⟨k, hk⟩ | hk
  · rw [hk] at h
    exact ⟨k, hk, Post.fin h N rfl⟩
  · rw [hk] at h
    exact h.elim
theorem op_bin {o : BO} (hI : OpS X (binaryOp (bop o)) (rTwoI g ty W Vw (opBin φ P o))) (hK : X.K = g.K) : OpS X (binaryOp (bop o)) (rTwo g ty W Vw (opBin φ P o)) := by
  intro pins s σ H x y v u Q I rx ry ⟨e, F, fp, dx, dy, N, hx, hy, h⟩
  have ins : (insD dx = true ∨ insD dy = true) → wpAny (model X.prog X.w) X.A (binaryOp (bop o) v u) (EP X pins σ Q) X.xe s := fun z => hI pins s σ H x y v u Q I rx ry ⟨e, F, fp, dx, dy, z, N, hx, hy, h⟩
  cases dx with
  | ins c l => exact ins (.inl rfl)
  | int i =>
    cases dy with
    | ins c l => exact ins (.inr rfl)
    | int j => exact int_ops pins s σ H x y v u Q I rx ry (two_int h rfl rfl (hx.den fun _ z => by cases z) (hy.den fun _ z => by cases z) N)
    | _ => cases o <;> exact h.elim
  | str i =>
    cases dy with
    | ins c l => exact ins (.inr rfl)
    | str j =>
      cases o with
      | add =>
        have ex : x = .str i := hx.den fun _ z => by cases z
        have ey : y = .str j := hy.den fun _ z => by cases z
        dsimp only [opBin] at h
        by_cases z : i.length + j.length ≤ sizeLine
        · rw [if_pos z] at h
          exact op_add_str pins s σ H x y v u Q I rx ry ⟨i, j, ex, ey, z, Post.fin h N rfl⟩
        · rw [if_neg z] at h
          exact h.elim
      | _ => exact h.elim
    | _ => cases o <;> exact h.elim
  | lst l =>
    obtain ⟨a, xs, ex, sx, kx⟩ := hx.lst N.sub
    cases dy with
    | ins c m => exact ins (.inr rfl)
    | lst m =>
      obtain ⟨b, ys, ey, sy, ky⟩ := hy.lst N.sub
      cases o with
      | add =>
        dsimp only [opBin] at h
        by_cases z : l.length + m.length ≤ sizeLine
        · rw [if_pos z] at h
          refine op_cat pins s σ H x y v u Q I rx ry ⟨a, b, xs, ys, ex, ey, sx, sy, by rw [kx.length, ky.length]; exact z, fun q hq => Post.finN h N hq (newL (kx.app ky) (N.sub.none hq))⟩
        · rw [if_neg z] at h
          exact h.elim
      | _ => exact h.elim
    | int k =>
      cases o with
      | mul =>
        have ey : y = .int k := hy.den fun _ z => by cases z
        dsimp only [opBin] at h
        by_cases z : (decide (-(2 ^ 63) ≤ k) && decide (k < 2 ^ 63) && decide (l.length * k.toNat ≤ sizeLine)) = true
        · rw [if_pos z] at h
          obtain ⟨z1, z2⟩ := Bool.and_eq_true_iff.mp z
          obtain ⟨z3, z4⟩ := Bool.and_eq_true_iff.mp z1
          refine op_rep pins s σ H x y v u Q I rx ry ⟨a, k, xs, ex, ey, sx, of_decide_eq_true z3, of_decide_eq_true z4, by rw [kx.length]; exact of_decide_eq_true z2, fun q hq => Post.finN h N hq (newL (DenL.rep kx _) (N.sub.none hq))⟩
        · rw [if_neg z] at h
          exact h.elim
      | _ => exact h.elim
    | _ => cases o <;> exact h.elim
  | tup l =>
    obtain ⟨a, xs, ex, sx, kx⟩ := hx.den fun _ z => by cases z
    cases dy with
    | ins c m => exact ins (.inr rfl)
    | tup m =>
      obtain ⟨b, ys, ey, sy, ky⟩ := hy.den fun _ z => by cases z
      cases o with
      | add =>
        dsimp only [opBin] at h
        by_cases z : l.length + m.length ≤ sizeLine
        · rw [if_pos z] at h
          have nil : ∀ {l : List D} {xs : List V}, DenL g F l xs → (xs = [] ↔ l = []) := fun {l xs} k => by
            have e1 := k.length
            cases l <;> cases xs <;> first | exact ⟨fun _ => rfl, fun _ => rfl⟩ | (cases e1; done) | exact ⟨(fun z => absurd z (List.cons_ne_nil _ _)), (fun z => absurd z (List.cons_ne_nil _ _))⟩
          refine op_catA pins s σ H x y v u Q I rx ry ⟨a, b, xs, ys, ex, ey, by rw [hK]; exact N.sub.sqT sx, by rw [hK]; exact N.sub.sqT sy, by rw [kx.length, ky.length]; exact z, fun q => ?_, fun _ q => ?_, fun _ _ q hq => Post.finN h N hq (newT (kx.app ky) (N.sub.none hq))⟩
          · have q' := (nil kx).mp q
            subst q'
            exact Post.fin h N ⟨b, ys, rfl, sy, ky⟩
          · have q' := (nil ky).mp q
            subst q'
            rw [List.append_nil] at h
            exact Post.fin h N ⟨a, xs, rfl, sx, kx⟩
        · rw [if_neg z] at h
          exact h.elim
      | _ => exact h.elim
    | _ => cases o <;> exact h.elim
  | _ =>
    cases dy with
    | ins c l => exact ins (.inr rfl)
    | _ => cases o <;> exact h.elim
end
end Ev
set_option Elab.async false
set_option linter.all false
set_option maxRecDepth 100000
set_option maxHeartbeats 1000000
/-! Ev5: comparisons, tests, items, displays -/
namespace Ev
open PySem L2 PySem.Spec PyProof.Rows

section
variable {g : G} {φ : Phi} {P : Pt} {ty : Sls} {W : WX} {X : Cx} {kd ka kb kc : Kd} {a b c : E} {xa xb xc : Expr} {pos : Pos}
variable {σ : L2.St} {H F H1 F1 H0 : Hp} {e : Nv} {fp fp1 fp0 : Fps} {p pa pb : Bool} {Q : VK}
mutual
theorem den_dp : ∀ {d : D} {v : V} {q : PyData}, Den g H d v → toPy d = some q → Dp g.K H v q
  | .non, _, _, h, e => by cases e; cases h; exact .non
  | .bl b, _, _, h, e => by cases e; cases h; exact .bl b
  | .int i, _, _, h, e => by cases e; cases h; exact .int i
  | .str s, _, _, h, e => by cases e; cases h; exact .str s
  | .tup l, _, _, h, e => by
    obtain ⟨a, xs, e1, h1, h2⟩ := h
    rw [toPy] at e
    cases k : toPyL l with
    | none => rw [k] at e; cases e
    | some r =>
      rw [k] at e
      cases e
      rw [e1]
      exact .tup h1 (denL_dp h2 k)
  | .lst l, _, _, h, e => by
    obtain ⟨a, xs, e1, h1, h2⟩ := h
    rw [toPy] at e
    cases k : toPyL l with
    | none => rw [k] at e; cases e
    | some r =>
      rw [k] at e
      cases e
      rw [e1]
      exact .lst (SqL.of h1) (denL_dp h2 k)
  | .ins _ _, _, _, _, e => by cases e
  | .cls _, _, _, _, e => by cases e
  | .exc _ _, _, _, _, e => by cases e
  | .scr _, _, _, _, e => by cases e
theorem denL_dp : ∀ {l : List D} {xs : List V} {q : List PyData}, DenL g H l xs → toPyL l = some q → DpAll g.K H xs q
  | [], _, _, h, e => by cases e; cases h; exact .nil
  | d :: l, _, _, h, e => by
    obtain ⟨x, r, e1, h1, h2⟩ := h
    rw [toPyL] at e
    cases k1 : toPy d with
    | none => rw [k1] at e; cases e
    | some p =>
      cases k2 : toPyL l with
      | none => rw [k1, k2] at e; cases e
      | some q =>
        rw [k1, k2] at e
        cases e
        rw [e1]
        exact .cons (den_dp h1 k1) (denL_dp h2 k2)
end
theorem eqD_dp {dx dy : D} {x y : V} {b : Bool} (hx : Den g H dx x) (hy : Den g H dy y) (h : eqD dx dy = some b) : ∃ d e, Dp g.K H x d ∧ Dp g.K H y e ∧ SeqAt.shaped d = true ∧ SeqAt.shaped e = true ∧ PyData.eqv d e = b := by
  unfold eqD at h
  cases k1 : toPy dx with
  | none => rw [k1] at h; cases h
  | some p =>
    cases k2 : toPy dy with
    | none => rw [k1, k2] at h; cases h
    | some q =>
      rw [k1, k2] at h
      dsimp only at h
      by_cases z : (SeqAt.shaped p && SeqAt.shaped q) = true
      · rw [if_pos z] at h
        obtain ⟨z1, z2⟩ := Bool.and_eq_true_iff.mp z
        exact ⟨p, q, den_dp hx k1, den_dp hy k2, z1, z2, Option.some.inj h⟩
      · rw [if_neg z] at h
        cases h
theorem inD_dp {dx : D} {l : List D} {x : V} {ys : List V} {b : Bool} (hx : Den g H dx x) (hy : DenL g H l ys) (h : inD dx l = some b) :
    ∃ d ds, Dp g.K H x d ∧ DpAll g.K H ys ds ∧ SeqAt.shaped d = true ∧ SeqAt.shaped (.list ds) = true ∧ (ds.any fun z => PyData.eqv z d) = b := by
  unfold inD at h
  cases k1 : toPy dx with
  | none => rw [k1] at h; cases h
  | some p =>
    cases k2 : toPyL l with
    | none => rw [k1, k2] at h; cases h
    | some q =>
      rw [k1, k2] at h
      dsimp only at h
      by_cases z : (SeqAt.shaped p && SeqAt.shaped (.list q)) = true
      · rw [if_pos z] at h
        obtain ⟨z1, z2⟩ := Bool.and_eq_true_iff.mp z
        exact ⟨p, q, den_dp hx k1, denL_dp hy k2, z1, z2, Option.some.inj h⟩
      · rw [if_neg z] at h
        cases h
theorem op_inT (hu : X.A.units + 65 < cLine) (neg : Bool) : OpR X (compareOp (if neg then .NotIn else .In)) (fun x y H Q => ∃ t ys d ds, y = .ref t ∧ Dp X.K H x d ∧ SqT X.K H t ys ∧ DpAll X.K H ys ds ∧ SeqAt.shaped d = true ∧ SeqAt.shaped (.list ds) = true ∧
    Q (.bl (if neg then !(ds.any fun z => PyData.eqv z d) else ds.any fun z => PyData.eqv z d)) H) := by
  intro pins s σ H x y v u Q I rx ry h
  obtain ⟨t, ys, d, ds, e, hd, ht, he, sd, se, q⟩ := h
  subst e
  obtain ⟨as, r1⟩ := Dp.reads I d x v hd rx
  obtain ⟨bs, r2⟩ := Dp.reads I (.tuple ds) (.ref t) u (.tup ht he) ry
  cases neg with
  | true => exact SeqAt.notIn_tuple_reads r2 r1 (SeqAt.canLay_of_shaped se) (SeqAt.canLay_of_shaped sd) (room_in_shaped sd hu) ⟨.bl _, H, I, rfl, q⟩
  | false => exact SeqAt.in_tuple_reads r2 r1 (SeqAt.canLay_of_shaped se) (SeqAt.canLay_of_shaped sd) (room_in_shaped sd hu) ⟨.bl _, H, I, rfl, q⟩
/-- where no instance stands -/
theorem cmp_eq {dx dy : D} (h : insD dx = false) : opCmp φ P .eq dx dy = match eqD dx dy with
    | some b => .ok (.bl b)
    | none => .stk := by
  cases dx <;> first | rfl | cases h
theorem cmp_ne {dx dy : D} (h : insD dx = false) : opCmp φ P .ne dx dy = match eqD dx dy with
    | some b => .ok (.bl (!b))
    | none => neL φ P dx dy := by
  cases dx <;> first | rfl | cases h
theorem op_cmp {o : CO} (hI : OpS X (compareOp (cop o)) (rTwoC g ty W o (opCmp φ P o))) (hK : X.K = g.K) (hu : X.A.units + 65 < cLine) : OpS X (compareOp (cop o)) (rTwo g ty W Sn (opCmp φ P o)) := by
  intro pins s σ H x y v u Q I rx ry ⟨e, F, fp, dx, dy, N, hx, hy, h⟩
  by_cases zi : insD dx = true ∨ insD dy = true
  · exact hI pins s σ H x y v u Q I rx ry ⟨e, F, fp, dx, dy, zi.imp id .inl, N, hx, hy, h⟩
  have nx : insD dx = false := Bool.eq_false_iff.mpr fun z => zi (.inl z)
  have ny : insD dy = false := Bool.eq_false_iff.mpr fun z => zi (.inr z)
  have ord : ∀ (o : CO) (i j : Int) (b : Bool), ordI o i j = some b → x = .int i → y = .int j → Q (.bl b) H → wpAny (model X.prog X.w) X.A (compareOp (cop o) v u) (EP X pins σ Q) X.xe s := by
    intro o i j b hb ex ey q
    cases o <;> dsimp only [ordI] at hb <;> cases hb
    · exact op_lt pins s σ H x y v u Q I rx ry ⟨i, j, ex, ey, q⟩
    · exact op_le pins s σ H x y v u Q I rx ry ⟨i, j, ex, ey, q⟩
    · exact op_gt pins s σ H x y v u Q I rx ry ⟨i, j, ex, ey, q⟩
    · exact op_ge pins s σ H x y v u Q I rx ry ⟨i, j, ex, ey, q⟩
  have fInt : ∀ (o : CO) (i j : Int), Post g ty .F true (RV.re e (match ordI o i j with | some b => .ok (.bl b) | none => .stk)) σ H F fp W Q → dx = .int i → dy = .int j → wpAny (model X.prog X.w) X.A (compareOp (cop o) v u) (EP X pins σ Q) X.xe s := by
    intro o i j hh ex ey
    subst ex ey
    cases k : ordI o i j with
    | none => rw [k] at hh; exact hh.elim
    | some b =>
      rw [k] at hh
      exact ord o i j b k hx.1 hy.1 (Post.fin hh N rfl)
  have fTup : ∀ (l m : List D), Post g ty .F true (RV.re e (match intsOf l, intsOf m with | some a, some b => .ok (.bl (HT.lexLt a b)) | _, _ => .stk)) σ H F fp W Q → dx = .tup l → dy = .tup m → wpAny (model X.prog X.w) X.A (compareOp .Lt v u) (EP X pins σ Q) X.xe s := by
    intro l m hh ex ey
    subst ex ey
    obtain ⟨a, xs, e1, e2, e3⟩ := hx.1
    obtain ⟨b, ys, e4, e5, e6⟩ := hy.1
    cases k : intsOf l with
    | none => rw [k] at hh; exact hh.elim
    | some ns =>
      cases k2 : intsOf m with
      | none => rw [k, k2] at hh; exact hh.elim
      | some ms =>
        rw [k, k2] at hh
        rw [e3.ints k] at e2
        rw [e6.ints k2] at e5
        refine op_ltT (by omega) pins s σ H x y v u Q I rx ry ⟨a, b, ns, ms, e1, e4, by rw [hK]; exact e2, by rw [hK]; exact e5, Post.fin hh N rfl⟩
  have sq : ∀ (neg : Bool) (l : List D), Post g ty .F true (RV.re e (match inD dx l with | some b => .ok (.bl (if neg then !b else b)) | none => .stk)) σ H F fp W Q → (dy = .lst l ∨ dy = .tup l) → wpAny (model X.prog X.w) X.A (compareOp (if neg then .NotIn else .In) v u) (EP X pins σ Q) X.xe s := by
    intro neg l hh ey
    cases k : inD dx l with
    | none => rw [k] at hh; exact hh.elim
    | some b =>
      rw [k] at hh
      have q : Q (.bl (if neg then !b else b)) H := Post.fin hh N rfl
      rcases ey with ey | ey
      · subst ey
        obtain ⟨a, ys, e1, e2, e3⟩ := hy.1
        obtain ⟨d, ds, q1, q2, q3, q4, q5⟩ := inD_dp hx.1 e3 k
        subst q5 e1
        cases neg with
        | true => exact op_notInD hu pins s σ H x _ v u Q I rx ry ⟨d, ds, by rw [hK]; exact q1, by rw [hK]; exact .lst (SqL.of e2) q2, q3, q4, q⟩
        | false => exact op_inD hu pins s σ H x _ v u Q I rx ry ⟨d, ds, by rw [hK]; exact q1, by rw [hK]; exact .lst (SqL.of e2) q2, q3, q4, q⟩
      · subst ey
        obtain ⟨a, ys, e1, e2, e3⟩ := hy.1
        obtain ⟨d, ds, q1, q2, q3, q4, q5⟩ := inD_dp hx.1 e3 k
        subst q5
        exact op_inT hu neg pins s σ H x y v u Q I rx ry ⟨a, ys, d, ds, e1, by rw [hK]; exact q1, by rw [hK]; exact e2, by rw [hK]; exact q2, q3, q4, q⟩
  cases o with
  | eq =>
    rw [cmp_eq nx] at h
    cases k : eqD dx dy with
    | none => rw [k] at h; exact h.elim
    | some b =>
      rw [k] at h
      obtain ⟨d, d', q1, q2, q3, q4, q5⟩ := eqD_dp hx.1 hy.1 k
      subst q5
      exact op_eqD (by omega) pins s σ H x y v u Q I rx ry ⟨d, d', by rw [hK]; exact q1, by rw [hK]; exact q2, q3, q4, Post.fin h N rfl⟩
  | ne =>
    have h0 := h
    rw [cmp_ne nx] at h
    cases k : eqD dx dy with
    | none => exact hI pins s σ H x y v u Q I rx ry ⟨e, F, fp, dx, dy, .inr (.inr ⟨rfl, k⟩), N, hx, hy, h0⟩
    | some b =>
      rw [k] at h
      obtain ⟨d, d', q1, q2, q3, q4, q5⟩ := eqD_dp hx.1 hy.1 k
      subst q5
      exact op_neD (by omega) pins s σ H x y v u Q I rx ry ⟨d, d', by rw [hK]; exact q1, by rw [hK]; exact q2, q3, q4, Post.fin h N rfl⟩
  | lt =>
    cases dx with
    | int i => cases dy with
      | int j => exact fInt .lt i j h rfl rfl
      | ins _ _ => cases ny
      | _ => exact h.elim
    | tup l => cases dy with
      | tup m => exact fTup l m h rfl rfl
      | ins _ _ => cases ny
      | _ => exact h.elim
    | ins _ _ => cases nx
    | _ => cases dy <;> first | exact h.elim | cases ny
  | isin =>
    cases dy with
    | lst l =>
      refine sq false l ?_ (.inl rfl)
      cases dx <;> first | exact h | cases nx
    | tup l =>
      refine sq false l ?_ (.inr rfl)
      cases dx <;> first | exact h | cases nx
    | ins _ _ => cases ny
    | _ => cases dx <;> first | exact h.elim | cases nx
  | notin =>
    cases dy with
    | lst l =>
      refine sq true l ?_ (.inl rfl)
      cases dx <;> first | exact h | cases nx
    | tup l =>
      refine sq true l ?_ (.inr rfl)
      cases dx <;> first | exact h | cases nx
    | ins _ _ => cases ny
    | _ => cases dx <;> first | exact h.elim | cases nx
  | le =>
    cases dx with
    | int i => cases dy with
      | int j => exact fInt .le i j h rfl rfl
      | ins _ _ => cases ny
      | _ => exact h.elim
    | ins _ _ => cases nx
    | _ => cases dy <;> first | exact h.elim | cases ny
  | gt =>
    cases dx with
    | int i => cases dy with
      | int j => exact fInt .gt i j h rfl rfl
      | ins _ _ => cases ny
      | _ => exact h.elim
    | ins _ _ => cases nx
    | _ => cases dy <;> first | exact h.elim | cases ny
  | ge =>
    cases dx with
    | int i => cases dy with
      | int j => exact fInt .ge i j h rfl rfl
      | ins _ _ => cases ny
      | _ => exact h.elim
    | ins _ _ => cases nx
    | _ => cases dy <;> first | exact h.elim | cases ny
end
end Ev
set_option Elab.async false
set_option linter.all false
set_option maxRecDepth 100000
set_option maxHeartbeats 1000000
/-! Ev6: tests, and, or, not, items, slices, displays -/
namespace Ev
open PySem L2 PySem.Spec PyProof.Rows

section
variable (g : G) (φ : Phi) (P : Pt) (ty : Sls) (W : WX)
def PostB (p : Bool) (r : RE D) (σ : L2.St) (H F : Hp) (fp : Fps) (W : WX) (Q : Bool → Hp → Prop) : Prop := match r with
  | .ok d e => ∃ b, tru d = some b ∧ ∀ H1 F1 fp1, Tr p H F fp H1 F1 fp1 → Ns g ty σ H1 F1 e fp1 → Q b H1
  | .err x e => ∀ c dd H1 F1 fp1, Tr p H F fp H1 F1 fp1 → Ns g ty σ H1 F1 e fp1 → XcAt g F1 x c dd → W c dd σ H1
  | .stk => False
def tT (c : E) : TT := fun σ H Q => ∃ e F fp, Ns g ty σ H F e fp ∧ PostB g ty (pureE c) (ev φ P c e) σ H F fp W Q
end
section
variable {g : G} {φ : Phi} {P : Pt} {ty : Sls} {W : WX} {X : Cx} {kd ka kb kc : Kd} {a b c : E} {xa xb xc : Expr} {pos : Pos}
variable {σ : L2.St} {H F H1 F1 H0 : Hp} {e : Nv} {fp fp1 fp0 : Fps} {p pa pb : Bool} {Q : VK}
theorem tru_v {d : D} {v : V} {k : Bool} (h : Den g H d v) (t : tru d = some k) : TruV g.K v H k := by
  cases d with
  | non => cases t; cases h; exact rfl
  | bl b => cases t; cases h; exact rfl
  | int i => cases t; cases h; exact rfl
  | str s =>
    cases h
    dsimp only [tru] at t
    by_cases z : s.length ≤ sizeLine
    · rw [if_pos z] at t
      cases t
      exact ⟨z, rfl⟩
    · rw [if_neg z] at t
      cases t
  | tup l =>
    cases t
    obtain ⟨q, xs, e1, e2, e3⟩ := h
    subst e1
    refine .inr (.inl ⟨xs, e2, ?_⟩)
    have := e3.length
    cases l <;> cases xs <;> first | rfl | cases this
  | lst l =>
    cases t
    obtain ⟨q, xs, e1, e2, e3⟩ := h
    subst e1
    refine .inl ⟨xs, SqL.of e2, ?_⟩
    have := e3.length
    cases l <;> cases xs <;> first | rfl | cases this
  | _ => cases t
/-- an expression as a test -/
theorem PostB.post {r : RE D} {Q : Bool → Hp → Prop} (h : PostB g ty p r σ H F fp W Q) : Post g ty kd p r σ H F fp W (fun x H1 => ∃ k, TruV g.K x H1 k ∧ Q k H1) := by
  cases r with
  | stk => exact h
  | err x e => exact h
  | ok d e =>
    obtain ⟨k, h1, h2⟩ := h
    exact fun v H1 F1 fp1 t n r => ⟨k, tru_v (r.view n.sub) h1, h2 H1 F1 fp1 t n⟩
theorem s_tru (ha : PE X xa (tE g φ P ty W ka a)) (hK : X.K = g.K) (he : ∀ whole, isTrue xa X.env whole = (do let v ← whole; standAt xa.pos; holding [v] (truthy v))) : PT X xa (tT g φ P ty W a) :=
  PT.imp (pt_truth ha he) fun σ H Q ⟨e, F, fp, N, h⟩ => ⟨e, F, fp, N, by rw [hK]; exact PostB.post h⟩
theorem PostB.bind {r : RE D} {k : D → Nv → RE D} {Q : Bool → Hp → Prop} {Q' : VK} (h : PostB g ty p (r.bind k) σ H F fp W Q) (hp : p = true → pa = true)
    (w : ∀ d e1 v H1 F1 fp1, r = .ok d e1 → PostB g ty p (k d e1) σ H F fp W Q → Tr pa H F fp H1 F1 fp1 → Ns g ty σ H1 F1 e1 fp1 → Res g H fp H1 F1 fp1 ka d v → Q' v H1) : Post g ty ka pa r σ H F fp W Q' := by
  cases r with
  | stk => exact h
  | err x e => exact fun c dd H2 F2 fp2 t2 n2 x2 => h c dd H2 F2 fp2 (t2.weak hp) n2 x2
  | ok d e => exact fun v H2 F2 fp2 t2 n2 r2 => w d e v H2 F2 fp2 rfl h t2 n2 r2
theorem PostB.shift {r : RE D} {Q : Bool → Hp → Prop} (h : PostB g ty (pa && pb) r σ H F fp W Q) (t : Tr pa H F fp H1 F1 fp1) : PostB g ty pb r σ H1 F1 fp1 W Q := by
  cases r with
  | stk => exact h
  | err x e => exact fun c dd H2 F2 fp2 t2 n2 x2 => h c dd H2 F2 fp2 (t.trans t2) n2 x2
  | ok d e =>
    obtain ⟨k, h1, h2⟩ := h
    exact ⟨k, h1, fun H2 F2 fp2 t2 n2 => h2 H2 F2 fp2 (t.trans t2) n2⟩
/-- a test, then what hangs on it -/
theorem Post.bindB {r : RE D} {k : D → Nv → RE D} {Q' : Bool → Hp → Prop} {m : Bool → Nv → RE D} (h : Post g ty kd p (r.bind k) σ H F fp W Q) (hp : p = true → pa = true)
    (hk : ∀ d e, k d e = match tru d with | some b => m b e | none => .stk)
    (w : ∀ b e1 H1 F1 fp1, Post g ty kd p (m b e1) σ H F fp W Q → Tr pa H F fp H1 F1 fp1 → Ns g ty σ H1 F1 e1 fp1 → Q' b H1) : PostB g ty pa r σ H F fp W Q' := by
  cases r with
  | stk => exact h
  | err x e => exact fun c dd H2 F2 fp2 t2 n2 x2 => h c dd H2 F2 fp2 (t2.weak hp) n2 x2
  | ok d e =>
    have h : Post g ty kd p (k d e) σ H F fp W Q := h
    rw [hk] at h
    cases q : tru d with
    | none => rw [q] at h; exact h.elim
    | some b =>
      rw [q] at h
      exact ⟨b, q, fun H2 F2 fp2 t2 n2 => w b e H2 F2 fp2 h t2 n2⟩
theorem PostB.bindB {r : RE D} {k : D → Nv → RE D} {Q Q' : Bool → Hp → Prop} {m : Bool → Nv → RE D} (h : PostB g ty p (r.bind k) σ H F fp W Q) (hp : p = true → pa = true)
    (hk : ∀ d e, (∀ b, tru d = some b → k d e = m b e) ∧ (tru d = none → k d e = .stk))
    (w : ∀ b e1 H1 F1 fp1 d, tru d = some b → PostB g ty p (k d e1) σ H F fp W Q → Tr pa H F fp H1 F1 fp1 → Ns g ty σ H1 F1 e1 fp1 → Q' b H1) : PostB g ty pa r σ H F fp W Q' := by
  cases r with
  | stk => exact h
  | err x e => exact fun c dd H2 F2 fp2 t2 n2 x2 => h c dd H2 F2 fp2 (t2.weak hp) n2 x2
  | ok d e =>
    have h : PostB g ty p (k d e) σ H F fp W Q := h
    cases q : tru d with
    | none => rw [(hk d e).2 q] at h; exact h.elim
    | some b => exact ⟨b, q, fun H2 F2 fp2 t2 n2 => w b e H2 F2 fp2 d q h t2 n2⟩
/-- a comparison as a test -/
theorem s_cmpT {o : CO} (ha : PE X xa (tE g φ P ty W ka a)) (hb : PE X xb (tE g φ P ty W kb b)) (hka : flatK ka = true) (hkb : flatK kb = true) (hp : ∀ k, ka = .bor k → pureE b = true)
    (ho : OpS X (compareOp (cop o)) (rTwo g ty W Sn (opCmp φ P o))) (hm : behindInMarks (cop o) xb = false) (hK : X.K = g.K) : PT X (.Compare xa [cop o] [xb] pos) (tT g φ P ty W (.cmp o a b)) := by
  refine ⟨fun pins s σ H Q I ⟨e, F, fp, N, h⟩ => ?_⟩
  have h2 : tE g φ P ty W .F (.cmp o a b) σ H (fun x H1 => ∃ k, TruV X.K x H1 k ∧ Q k H1) := ⟨e, F, fp, N, by rw [hK]; exact PostB.post h⟩
  have h3 := two (a := a) (b := b) (ka := ka) (kb := kb) (φ := φ) (P := P) (cc := .cmp o a b) (vw := Sn) (f := opCmp φ P o) (fun e => by rw [ev]) (by rw [pureE]) (fun _ _ _ _ _ _ _ h s => h.sn hka s) (fun _ _ _ _ _ _ _ h s => h.sn hkb s) hp σ H _ h2
  refine wpAny_isTrue_Compare1 (thn (ha.run pins s σ H _ I h3) fun v s1 ⟨x, H1, I1, r1, q1⟩ => thn (hb.run pins s1 σ H1 _ I1 q1) fun u s2 ⟨y, H2, I2, r2, q2⟩ =>
    thn (ho pins s2 σ H2 x y v u _ I2 r1 r2 q2) fun c s3 ⟨z, H3, I3, r3, q3⟩ => ?_) hm
  exact tru_ok pins s3 σ H3 z c Q I3 r3 q3
/-! ### not, and, or -/
theorem s_nt (ha : PE X xa (tE g φ P ty W ka a)) (hK : X.K = g.K) : PE X (.UnaryOp .Not xa pos) (tE g φ P ty W .F (.nt a)) := by
  refine PE.imp (pe_notT ha) fun σ H Q ⟨e, F, fp, N, h⟩ => ?_
  rw [ev, pureE] at h
  refine ⟨e, F, fp, N, Post.bind h (fun z => z) fun d e1 v H1 F1 fp1 _ h1 t1 n1 r1 => ?_⟩
  cases q : tru d with
  | none => rw [q] at h1; exact h1.elim
  | some b =>
    rw [q] at h1
    exact ⟨b, by rw [hK]; exact tru_v (r1.view n1.sub) q, h1 _ H1 F1 fp1 t1 n1 rfl⟩
theorem s_ntT (ha : PT X xa (tT g φ P ty W a)) : PT X (.UnaryOp .Not xa pos) (tT g φ P ty W (.nt a)) := by
  refine PT.imp (pt_not ha) fun σ H Q ⟨e, F, fp, N, h⟩ => ⟨e, F, fp, N, ?_⟩
  rw [ev, pureE] at h
  cases hr : ev φ P a e with
  | stk => rw [hr] at h; exact h.elim
  | err x e1 => rw [hr] at h; exact h
  | ok d e1 =>
    rw [hr] at h
    dsimp only [RE.bind] at h
    cases q : tru d with
    | none => rw [q] at h; exact h.elim
    | some k =>
      rw [q] at h
      obtain ⟨k', h1, h2⟩ := h
      cases h1
      exact ⟨k, q, h2⟩
/-- and: the first's truth is known -/
theorem and_cases {r : RE D} {m : Nv → RE D} {d : D} {e1 : Nv} {k : Bool} (q : tru d = some k) : (match tru d with | some true => m e1 | some false => .ok d e1 | none => (.stk : RE D)) = if k = true then m e1 else .ok d e1 := by
  rw [q]; cases k <;> rfl
theorem or_cases {r : RE D} {m : Nv → RE D} {d : D} {e1 : Nv} {k : Bool} (q : tru d = some k) : (match tru d with | some true => .ok d e1 | some false => m e1 | none => (.stk : RE D)) = if k = true then .ok d e1 else m e1 := by
  rw [q]; cases k <;> rfl
theorem s_and {rest : List Expr} (ha : PE X xa (tE g φ P ty W .F a)) (hb : PE X (.BoolOp .And (xb :: rest) pos) (tE g φ P ty W .F b)) (hK : X.K = g.K) : PE X (.BoolOp .And (xa :: xb :: rest) pos) (tE g φ P ty W .F (.and a b)) := by
  refine PE.imp (pe_andT ha hb) fun σ H Q ⟨e, F, fp, N, h⟩ => ?_
  rw [ev, pureE] at h
  refine ⟨e, F, fp, N, Post.bind h (fun z => (Bool.and_eq_true_iff.mp z).1) fun d e1 v H1 F1 fp1 _ h1 t1 n1 r1 => ?_⟩
  cases q : tru d with
  | none => rw [q] at h1; exact h1.elim
  | some k =>
    refine ⟨k, by rw [hK]; exact tru_v (r1.view n1.sub) q, ?_⟩
    rw [q] at h1
    cases k with
    | true => exact iteT ⟨e1, F1, fp1, n1, Post.shift h1 t1⟩
    | false => exact iteF (Post.fin (p := true) (d := d) (Post.shift (pb := true) (pa := pureE a && pureE b) (by rw [Bool.and_true]; exact h1) (t1.weak fun z => (Bool.and_eq_true_iff.mp z).1)) n1 r1)
theorem s_or {rest : List Expr} (ha : PE X xa (tE g φ P ty W .F a)) (hb : PE X (.BoolOp .Or (xb :: rest) pos) (tE g φ P ty W .F b)) (hK : X.K = g.K) : PE X (.BoolOp .Or (xa :: xb :: rest) pos) (tE g φ P ty W .F (.or a b)) := by
  refine PE.imp (pe_orT ha hb) fun σ H Q ⟨e, F, fp, N, h⟩ => ?_
  rw [ev, pureE] at h
  refine ⟨e, F, fp, N, Post.bind h (fun z => (Bool.and_eq_true_iff.mp z).1) fun d e1 v H1 F1 fp1 _ h1 t1 n1 r1 => ?_⟩
  cases q : tru d with
  | none => rw [q] at h1; exact h1.elim
  | some k =>
    refine ⟨k, by rw [hK]; exact tru_v (r1.view n1.sub) q, ?_⟩
    rw [q] at h1
    cases k with
    | false => exact iteF ⟨e1, F1, fp1, n1, Post.shift h1 t1⟩
    | true => exact iteT (Post.fin (p := true) (d := d) (Post.shift (pb := true) (pa := pureE a && pureE b) (by rw [Bool.and_true]; exact h1) (t1.weak fun z => (Bool.and_eq_true_iff.mp z).1)) n1 r1)
theorem s_one {o : BoolOp} (ha : PE X xa (tE g φ P ty W kd a)) : PE X (.BoolOp o [xa] pos) (tE g φ P ty W kd a) := pe_one ha
theorem s_andT {rest : List Expr} (ha : PT X xa (tT g φ P ty W a)) (hb : PW X (.BoolOp .And (xb :: rest) pos) (tT g φ P ty W b)) : PW X (.BoolOp .And (xa :: xb :: rest) pos) (tT g φ P ty W (.and a b)) := by
  have h0 := pw_and ha hb
  refine ⟨fun wh pins s σ H Q I ⟨e, F, fp, N, h⟩ => h0.run wh pins s σ H Q I ⟨e, F, fp, N, ?_⟩⟩
  rw [ev, pureE] at h
  cases hr : ev φ P a e with
  | stk => rw [hr] at h; exact h.elim
  | err x e1 => rw [hr] at h; exact fun c dd H2 F2 fp2 t2 n2 x2 => h c dd H2 F2 fp2 (t2.weak fun z => (Bool.and_eq_true_iff.mp z).1) n2 x2
  | ok d e1 =>
    rw [hr] at h
    dsimp only [RE.bind] at h
    cases q : tru d with
    | none => rw [q] at h; exact h.elim
    | some k =>
      rw [q] at h
      refine ⟨k, q, fun H1 F1 fp1 t1 n1 => ?_⟩
      cases k with
      | true => exact iteT ⟨e1, F1, fp1, n1, PostB.shift h t1⟩
      | false =>
        obtain ⟨k', h1, h2⟩ := h
        rw [q] at h1
        cases h1
        exact iteF (h2 H1 F1 fp1 (t1.weak fun z => (Bool.and_eq_true_iff.mp z).1) n1)
theorem s_orT {rest : List Expr} (ha : PT X xa (tT g φ P ty W a)) (hb : PW X (.BoolOp .Or (xb :: rest) pos) (tT g φ P ty W b)) : PW X (.BoolOp .Or (xa :: xb :: rest) pos) (tT g φ P ty W (.or a b)) := by
  have h0 := pw_or ha hb
  refine ⟨fun wh pins s σ H Q I ⟨e, F, fp, N, h⟩ => h0.run wh pins s σ H Q I ⟨e, F, fp, N, ?_⟩⟩
  rw [ev, pureE] at h
  cases hr : ev φ P a e with
  | stk => rw [hr] at h; exact h.elim
  | err x e1 => rw [hr] at h; exact fun c dd H2 F2 fp2 t2 n2 x2 => h c dd H2 F2 fp2 (t2.weak fun z => (Bool.and_eq_true_iff.mp z).1) n2 x2
  | ok d e1 =>
    rw [hr] at h
    dsimp only [RE.bind] at h
    cases q : tru d with
    | none => rw [q] at h; exact h.elim
    | some k =>
      rw [q] at h
      refine ⟨k, q, fun H1 F1 fp1 t1 n1 => ?_⟩
      cases k with
      | false => exact iteF ⟨e1, F1, fp1, n1, PostB.shift h t1⟩
      | true =>
        obtain ⟨k', h1, h2⟩ := h
        rw [q] at h1
        cases h1
        exact iteT (h2 H1 F1 fp1 (t1.weak fun z => (Bool.and_eq_true_iff.mp z).1) n1)
theorem s_ife (hc : PT X xc (tT g φ P ty W c)) (ha : PE X xa (tE g φ P ty W kd a)) (hb : PE X xb (tE g φ P ty W kd b)) : PE X (.IfExp xc xa xb pos) (tE g φ P ty W kd (.ife c a b)) := by
  refine PE.imp (pe_ifExp hc ha hb) fun σ H Q ⟨e, F, fp, N, h⟩ => ⟨e, F, fp, N, ?_⟩
  rw [ev, pureE] at h
  have hp : (pureE c && pureE a && pureE b) = true → pureE c = true := fun z => (Bool.and_eq_true_iff.mp (Bool.and_eq_true_iff.mp z).1).1
  cases hr : ev φ P c e with
  | stk => rw [hr] at h; exact h.elim
  | err x e1 => rw [hr] at h; exact fun c dd H2 F2 fp2 t2 n2 x2 => h c dd H2 F2 fp2 (t2.weak hp) n2 x2
  | ok d e1 =>
    rw [hr] at h
    dsimp only [RE.bind] at h
    cases q : tru d with
    | none => rw [q] at h; exact h.elim
    | some k =>
      rw [q] at h
      refine ⟨k, q, fun H1 F1 fp1 t1 n1 => ?_⟩
      have h3 : Post g ty kd (pureE a && pureE b) (if k = true then ev φ P a e1 else ev φ P b e1) σ H1 F1 fp1 W Q := by
        refine Post.shift (pa := pureE c) ?_ t1
        rw [← Bool.and_assoc]
        cases k <;> exact h
      cases k with
      | true => exact iteT ⟨e1, F1, fp1, n1, Post.wk h3 fun z => (Bool.and_eq_true_iff.mp z).1⟩
      | false => exact iteF ⟨e1, F1, fp1, n1, Post.wk h3 fun z => (Bool.and_eq_true_iff.mp z).2⟩
end
end Ev
set_option Elab.async false
set_option linter.all false
set_option maxRecDepth 100000
set_option maxHeartbeats 1000000
/-! Ev7: items, slices, displays, fields -/
namespace Ev
open PySem L2 PySem.Spec PyProof.Rows

section
variable {g : G} {φ : Phi} {P : Pt} {ty : Sls} {W : WX} {X : Cx} {kd ka kb kc : Kd} {a b c : E} {xa xb xc : Expr} {pos : Pos}
variable {σ : L2.St} {H F H1 F1 H0 : Hp} {e : Nv} {fp fp1 fp0 : Fps} {p pa pb : Bool} {Q : VK}
/-! ### items -/
theorem atI_den {l : List D} {xs : List V} {i : Int} {d : D} (h : DenL g F l xs) (k : atI l i = some d) : ∃ x, atI xs i = some x ∧ Den g F d x := by
  unfold atI at k ⊢
  rw [h.length]
  cases q : ixN l.length i with
  | none => rw [q] at k; cases k
  | some j =>
    rw [q] at k
    exact h.get k
theorem atI_own {q : D → V → List Addr → Prop} {i : Int} {d : D} : ∀ {l : List D} {xs : List V} {f : List Addr}, OwnA q l xs f → ∀ j : Nat, l[j]? = some d → ∃ x f1, xs[j]? = some x ∧ q d x f1 ∧ (∀ b ∈ f1, b ∈ f)
  | [], _, _, h, j, k => by simp at k
  | a :: l, _, _, h, j, k => by
    obtain ⟨x, r, f1, f2, e1, e2, h1, h2⟩ := h
    subst e1 e2
    cases j with
    | zero => cases k; exact ⟨x, f1, rfl, h1, fun b hb => List.mem_append_left _ hb⟩
    | succ j =>
      obtain ⟨y, f3, h3, h4, h5⟩ := atI_own (i := i) h2 j k
      exact ⟨y, f3, h3, h4, fun b hb => List.mem_append_right _ (h5 b hb)⟩
theorem atI_scr {l : List Int} {i k : Int} (h : atI l i = some k) : atI (l.map V.int) i = some (.int k) := by
  unfold atI at h ⊢
  rw [List.length_map]
  cases q : ixN l.length i with
  | none => rw [q] at h; cases h
  | some j =>
    rw [q] at h
    show (l.map V.int)[j]? = some (V.int k)
    rw [List.getElem?_map]
    have h : l[j]? = some k := h
    rw [h]
    rfl
/-- the kind of an item -/
def subK : Kd → Kd
  | .bor (k + 2) => .bor (k + 1)
  | _ => .F
def subOk : Kd → Bool
  | .F => true
  | .bor (_ + 1) => true
  | _ => false
theorem s_sub (ha : PE X xa (tE g φ P ty W ka a)) (hb : PE X xb (tE g φ P ty W .F b)) (hk : subOk ka = true) (hp : ∀ k, ka = .bor k → pureE b = true) (hs : PlainIx xb) (hK : X.K = g.K) :
    PE X (.Subscript xa xb pos) (tE g φ P ty W (subK ka) (.sub a b)) := by
  refine PE.imp (pe_ix (ix_list.or ix_tup) ha hb hs) fun σ H Q ⟨e, F, fp, N, h⟩ => ?_
  rw [ev, pureE] at h
  refine ⟨e, F, fp, N, Post.bind h (fun z => (Bool.and_eq_true_iff.mp z).1) fun dx e1 x H1 F1 fp1 _ h1 t1 n1 r1 => ⟨e1, F1, fp1, n1, ?_⟩⟩
  refine Post.bind (Post.shift h1 t1) (fun z => z) fun dy e2 y H2 F2 fp2 _ h2 t2 n2 r2 => ?_
  have h3 : Post g ty (subK ka) true ((opSub dx dy).re e2) σ H2 F2 fp2 W Q := Post.shift (pa := pureE b) (by rw [Bool.and_true]; exact h2) t2
  have r3 := r1.keep t2 hp
  have fin : ∀ (i : Int) (l : List D), dy = .int i → (match atI l i with | some d => (.ok d : RV) | none => .stk) = opSub dx dy → ∃ d, atI l i = some d ∧ Post g ty (subK ka) true (.ok d e2) σ H2 F2 fp2 W Q := fun i l ey ee => by
    rw [← ee] at h3
    cases q : atI l i with
    | none => rw [q] at h3; exact h3.elim
    | some d => rw [q] at h3; exact ⟨d, rfl, h3⟩
  cases dy with
  | int i =>
    have ey : y = .int i := r2
    cases dx with
    | scr l =>
      have hF : ∃ t, x = .ref t ∧ SqL g.K H2 t (l.map V.int) := by
        obtain ⟨t, e3, e4⟩ := r3.view n2.sub
        exact ⟨t, e3, e4⟩
      obtain ⟨t, e3, e4⟩ := hF
      have h4 : Post g ty (subK ka) true ((match atI l i with | some d => (.ok (.int d) : RV) | none => .stk).re e2) σ H2 F2 fp2 W Q := h3
      cases q : atI l i with
      | none => rw [q] at h4; exact h4.elim
      | some d =>
        rw [q] at h4
        refine .inl ⟨t, _, i, .int d, e3, ey, by rw [hK]; exact e4, atI_scr q, ?_⟩
        have kF : subK ka = .F := by
          cases ka with
          | F => rfl
          | own k => cases hk
          | bor k =>
            cases k with
            | zero => cases hk
            | succ k =>
              obtain ⟨f, h5⟩ := r3
              exact h5.elim
        rw [kF] at h4
        exact Post.fin h4 n2 rfl
    | tup l =>
      obtain ⟨d, h4, h5⟩ := fin i l rfl rfl
      have hF : Den g F2 (.tup l) x ∧ subK ka = .F := by
        cases ka with
        | F => exact ⟨r3, rfl⟩
        | own k => cases hk
        | bor k =>
          cases k with
          | zero => cases hk
          | succ k =>
            obtain ⟨f, h6⟩ := r3
            exact h6.elim
      obtain ⟨⟨t, xs, e3, e4, e5⟩, kF⟩ := hF
      obtain ⟨v, h6, h7⟩ := atI_den e5 h4
      rw [kF] at h5
      exact .inr ⟨t, xs, i, v, e3, ey, by rw [hK]; exact n2.sub.sqT e4, h6, Post.fin h5 n2 h7⟩
    | lst l =>
      obtain ⟨d, h4, h5⟩ := fin i l rfl rfl
      cases ka with
      | own k => cases hk
      | F =>
        obtain ⟨t, xs, e3, e4, e5⟩ := r3
        obtain ⟨v, h6, h7⟩ := atI_den e5 h4
        exact .inl ⟨t, xs, i, v, e3, ey, SqL.of (n2.sub _ _ e4), h6, Post.fin h5 n2 h7⟩
      | bor k =>
        cases k with
        | zero => cases hk
        | succ k =>
          obtain ⟨f, t, xs, f', e3, e4, e5, e6⟩ := r3
          have h8 : ∃ v f1, atI xs i = some v ∧ Own g H2 F2 k d v f1 := by
            unfold atI at h4 ⊢
            rw [e5.length]
            cases q : ixN l.length i with
            | none => rw [q] at h4; cases h4
            | some j =>
              rw [q] at h4
              obtain ⟨v, f1, h9, h10, _⟩ := atI_own (i := i) e5 j h4
              exact ⟨v, f1, h9, h10⟩
          obtain ⟨v, f1, h9, h10⟩ := h8
          refine .inl ⟨t, xs, i, v, e3, ey, SqL.of e4, h9, ?_⟩
          cases k with
          | zero => exact Post.fin h5 n2 h10.1
          | succ k => exact h5 v H2 F2 fp2 (Tr.refl _) n2 ⟨f1, h10⟩
    | _ => exact h3.elim
  | _ => cases dx <;> exact h3.elim
/-! ### slices -/
theorem cut_den {l : List D} {xs : List V} (h : DenL g F l xs) (lo hi : Option Int) : DenL g F (cutL l lo hi) (cutV xs lo hi) := by
  unfold cutL cutV
  rw [h.length]
  exact (h.drop _).take _
def PostO (g : G) (ty : Sls) (p : Bool) (r : RE D) (σ : L2.St) (H F : Hp) (fp : Fps) (W : WX) (Q : Option Int → Hp → Prop) : Prop := match r with
  | .ok d e => ∃ o, (d = .non ∧ o = none ∨ ∃ i, d = .int i ∧ o = some i) ∧ ∀ H1 F1 fp1, Tr p H F fp H1 F1 fp1 → Ns g ty σ H1 F1 e fp1 → Q o H1
  | .err x e => ∀ c dd H1 F1 fp1, Tr p H F fp H1 F1 fp1 → Ns g ty σ H1 F1 e fp1 → XcAt g F1 x c dd → W c dd σ H1
  | .stk => False
def tO (g : G) (φ : Phi) (P : Pt) (ty : Sls) (W : WX) (x : Eo) : TO := fun σ H Q => ∃ e F fp, Ns g ty σ H F e fp ∧ PostO g ty (pureO x) (evo φ P x e) σ H F fp W Q
theorem s_poN : PO X none (tO g φ P ty W .none) := by
  refine ⟨fun pins s σ H Q I ⟨e, F, fp, N, h⟩ => po_none.run pins s σ H Q I ?_⟩
  rw [evo] at h
  obtain ⟨o, h1, h2⟩ := h
  rcases h1 with ⟨_, h1⟩ | ⟨i, h1, _⟩
  · subst h1
    exact h2 H F fp (Tr.refl _) N
  · cases h1
theorem s_poS (ha : PE X xa (tE g φ P ty W .F a)) : PO X (some xa) (tO g φ P ty W (.some a)) := by
  refine ⟨fun pins s σ H Q I ⟨e, F, fp, N, h⟩ => (po_some ha).run pins s σ H Q I ⟨e, F, fp, N, ?_⟩⟩
  rw [evo, pureO] at h
  cases hr : ev φ P a e with
  | stk => rw [hr] at h; exact h.elim
  | err y e1 => rw [hr] at h; exact h
  | ok d e1 =>
    rw [hr] at h
    cases d with
    | int i =>
      obtain ⟨o, h1, h2⟩ := h
      rcases h1 with ⟨h1, _⟩ | ⟨k, h1, h3⟩
      · cases h1
      · cases h1
        subst h3
        exact fun v H1 F1 fp1 t n r => ⟨i, r, h2 H1 F1 fp1 t n⟩
    | _ => exact h.elim
theorem evo_shape {x : Eo} {e e1 : Nv} {d : D} (h : evo φ P x e = .ok d e1) : d = .non ∨ ∃ i, d = .int i := by
  cases x with
  | none => rw [evo] at h; cases h; exact .inl rfl
  | some a =>
    rw [evo] at h
    cases hr : ev φ P a e with
    | stk => rw [hr] at h; cases h
    | err y e2 => rw [hr] at h; cases h
    | ok y e2 =>
      rw [hr] at h
      cases y with
      | int i => cases h; exact .inr ⟨i, rfl⟩
      | _ => cases h
theorem PostO.of {r : RE D} {k : D → Nv → RE D} {Q' : Option Int → Hp → Prop} (h : Post g ty kd p (r.bind k) σ H F fp W Q) (hp : p = true → pa = true) (hk : ∀ d e, r = .ok d e → d = .non ∨ ∃ i, d = .int i)
    (w : ∀ d o e1 H1 F1 fp1, r = .ok d e1 → (d = .non ∧ o = none ∨ ∃ i, d = .int i ∧ o = some i) → Post g ty kd p (k d e1) σ H F fp W Q → Tr pa H F fp H1 F1 fp1 → Ns g ty σ H1 F1 e1 fp1 → Q' o H1) : PostO g ty pa r σ H F fp W Q' := by
  cases r with
  | stk => exact h
  | err x e => exact fun c dd H2 F2 fp2 t2 n2 x2 => h c dd H2 F2 fp2 (t2.weak hp) n2 x2
  | ok d e =>
    have h : Post g ty kd p (k d e) σ H F fp W Q := h
    rcases hk d e rfl with e1 | ⟨i, e1⟩
    · exact ⟨none, .inl ⟨e1, rfl⟩, fun H2 F2 fp2 t2 n2 => w d none e H2 F2 fp2 rfl (.inl ⟨e1, rfl⟩) h t2 n2⟩
    · exact ⟨some i, .inr ⟨i, e1, rfl⟩, fun H2 F2 fp2 t2 n2 => w d (some i) e H2 F2 fp2 rfl (.inr ⟨i, e1, rfl⟩) h t2 n2⟩
theorem opSlc_P {x : D} {lo hi : Option Int} {v : V} (hx : Vw g H F x v) (N : Ns g ty σ H F e fp) (hK : X.K = g.K) (h : Post g ty .F true ((opSlc x lo hi).re e) σ H F fp W Q) :
    rSlL X.K v lo hi H Q ∨ rSlA X.K v lo hi H Q := by
  cases x with
  | lst l =>
    obtain ⟨a, xs, e1, e2, e3⟩ := hx.lst N.sub
    exact .inl ⟨a, xs, e1, SqL.of e2, fun q hq => Post.finN h N hq (newL (cut_den e3 lo hi) (N.sub.none hq))⟩
  | tup l =>
    obtain ⟨a, xs, e1, e2, e3⟩ := hx.den fun _ z => by cases z
    have k := cut_den e3 lo hi
    refine .inr ⟨a, xs, e1, by rw [hK]; exact N.sub.sqT e2, fun hw => ?_, fun _ q hq => Post.finN h N hq (newT k (N.sub.none hq))⟩
    have e4 : cutV xs lo hi = xs := by
      unfold cutV
      rw [hw.1, hw.2]
      simp
    rw [e4] at k
    exact Post.fin h N ⟨a, xs, rfl, e2, k⟩
  | _ => exact h.elim
theorem s_slc {lo hi : Eo} {xlo xhi : Option Expr} {q : Pos} (ha : PE X xa (tE g φ P ty W ka a)) (hl : PO X xlo (tO g φ P ty W lo)) (hh : PO X xhi (tO g φ P ty W hi)) (hk : flatK ka = true) (hp : ∀ k, ka = .bor k → (pureO lo && pureO hi) = true) (hK : X.K = g.K) :
    PE X (.Subscript xa (.Slice xlo xhi none q) pos) (tE g φ P ty W .F (.slc a lo hi)) := by
  refine PE.imp (pe_slice (sl_list.or sl_tupA) ha hl hh) fun σ H Q ⟨e, F, fp, N, h⟩ => ⟨e, F, fp, N, ?_⟩
  rw [ev, pureE] at h
  rw [Bool.and_assoc] at h
  refine Post.bind h (fun z => (Bool.and_eq_true_iff.mp z).1) fun dx e1 x H1 F1 fp1 _ h1 t1 n1 r1 => ⟨e1, F1, fp1, n1, ?_⟩
  refine PostO.of (Post.shift h1 t1) (fun z => (Bool.and_eq_true_iff.mp z).1) (fun d e => evo_shape) fun d o e2 H2 F2 fp2 _ hd h2 t2 n2 => ⟨e2, F2, fp2, n2, ?_⟩
  · refine PostO.of (Post.shift h2 t2) (fun z => z) (fun d' e => evo_shape) fun d' o' e3 H3 F3 fp3 _ hd' h3 t3 n3 => ?_
    · have h4 : Post g ty .F true ((opSlc dx o o').re e3) σ H3 F3 fp3 W Q := by
        refine Post.shift (pa := pureO hi) ?_ t3
        rw [Bool.and_true]
        rcases hd with ⟨hd, ho⟩ | ⟨i, hd, ho⟩ <;> rcases hd' with ⟨hd', ho'⟩ | ⟨i', hd', ho'⟩ <;> subst hd ho hd' ho' <;> exact h3
      have r3 := (r1.keep t2 fun k z => (Bool.and_eq_true_iff.mp (hp k z)).1).keep t3 fun k z => (Bool.and_eq_true_iff.mp (hp k z)).2
      exact opSlc_P (r3.vw hk) n3 hK h4
/-! ### displays and arguments -/
def notStar : Expr → Bool
  | .Starred _ _ => false
  | _ => true
theorem star_cons {e : Expr} {es : List Expr} {env : Env} (h : notStar e = true) : starEach (e :: es) env = (false, eval e env) :: starEach es env := by
  cases e <;> first | rfl | cases h
theorem star_any {pos : Pos} {env : Env} : ∀ {es : List Expr}, es.all notStar = true → (backTo pos (starEach es env)).any (·.1) = false
  | [], _ => rfl
  | e :: es, h => by
    obtain ⟨h1, h2⟩ := Bool.and_eq_true_iff.mp (show (notStar e && es.all notStar) = true from h)
    rw [star_cons h1]
    exact star_any (es := es) h2
variable {l : Es} {es : List Expr}
theorem s_nil : PA X [] (tEs g φ P ty W .nil) := by
  refine PA.imp pa_nil fun σ H Q ⟨e, F, fp, N, h⟩ => ?_
  rw [evs] at h
  exact h [] H F fp (Tr.refl _) N rfl
theorem s_cons (ha : PE X xa (tE g φ P ty W .F a)) (hl : PA X es (tEs g φ P ty W l)) (hs : notStar xa = true) : PA X (xa :: es) (tEs g φ P ty W (.cons a l)) := by
  refine PA.imp (pa_cons ha hl (star_cons hs)) fun σ H Q ⟨e, F, fp, N, h⟩ => ?_
  rw [evs, pureEs] at h
  refine ⟨e, F, fp, N, PostL.bind h (fun z => (Bool.and_eq_true_iff.mp z).1) fun dx e1 x H1 F1 fp1 _ h1 t1 n1 r1 => ⟨e1, F1, fp1, n1, ?_⟩⟩
  refine PostL.bindL (PostL.shift h1 t1) (fun z => z) fun ds e2 xs H2 F2 fp2 _ h2 t2 n2 r2 => ?_
  have h3 : PostL g ty true (.ok (dx :: ds) e2) σ H2 F2 fp2 W Q := PostL.shift (pa := pureEs l) (by rw [Bool.and_true]; exact h2) t2
  exact h3 (x :: xs) H2 F2 fp2 (Tr.refl _) n2 ⟨x, xs, rfl, Den.mono t2.sub r1, r2⟩
theorem s_tup {k : Nat} (hl : PA X es (tEs g φ P ty W l)) : PE X (.Tuple es k pos) (tE g φ P ty W .F (.tup l)) := by
  refine PE.imp (pe_tup hl) fun σ H Q ⟨e, F, fp, N, h⟩ => ⟨e, F, fp, N, ?_⟩
  rw [ev, pureE] at h
  refine Post.bindL h (fun z => z) fun ds e1 xs H1 F1 fp1 _ h1 t1 n1 r1 => ?_
  by_cases z : ds.length ≤ sizeLine
  · rw [if_pos z] at h1
    have h3 : Post g ty .F true (.ok (.tup ds) e1) σ H1 F1 fp1 W Q := Post.shift (pa := pureEs l) (by rw [Bool.and_true]; exact h1) t1
    exact ⟨by rw [r1.length]; exact z, fun q hq => Post.finN h3 n1 hq (newT r1 (n1.sub.none hq))⟩
  · rw [if_neg z] at h1
    exact h1.elim
theorem s_lst (hl : PA X es (tEs g φ P ty W l)) : PE X (.List es pos) (tE g φ P ty W (.own 1) (.lst l)) := by
  refine PE.imp (pe_lst hl) fun σ H Q ⟨e, F, fp, N, h⟩ => ⟨e, F, fp, N, ?_⟩
  rw [ev, pureE] at h
  refine Post.bindL h (fun z => z) fun ds e1 xs H1 F1 fp1 _ h1 t1 n1 r1 => ?_
  by_cases z : ds.length ≤ sizeLine
  · rw [if_pos z] at h1
    have h3 : Post g ty (.own 1) true (.ok (.lst ds) e1) σ H1 F1 fp1 W Q := Post.shift (pa := pureEs l) (by rw [Bool.and_true]; exact h1) t1
    exact ⟨by rw [r1.length]; exact z, fun q hq => Post.finO h3 n1 hq r1⟩
  · rw [if_neg z] at h1
    exact h1.elim
/-! ### is None -/
theorem den_non {d : D} {v : V} (h : Den g H d v) : decide (v = .non) = (match d with | .non => true | _ => false) := by
  cases d with
  | non => cases h; rfl
  | bl b => cases h; rfl
  | int b => cases h; rfl
  | str b => cases h; rfl
  | cls b => cases h; rfl
  | tup b => obtain ⟨a, xs, e, _⟩ := h; cases e; rfl
  | lst b => obtain ⟨a, xs, e, _⟩ := h; cases e; rfl
  | ins b c => obtain ⟨a, xs, e, _⟩ := h; cases e; rfl
  | exc b c => obtain ⟨a, e, _⟩ := h; cases e; rfl
  | scr b => obtain ⟨a, e, _⟩ := h; cases e; rfl
theorem s_isN {j : Nat} {q : Pos} (ha : PE X xa (tE g φ P ty W ka a)) : PE X (.Compare xa [.Is] [.Constant .none j q] pos) (tE g φ P ty W .F (.isN a)) := by
  refine PE.imp (pe_cmpR op_isN ha pe_non (nomark _)) fun σ H Q ⟨e, F, fp, N, h⟩ => ⟨e, F, fp, N, ?_⟩
  rw [ev, pureE] at h
  refine Post.bind h (fun z => z) fun d e1 v H1 F1 fp1 _ h1 t1 n1 r1 => ⟨rfl, ?_⟩
  rw [den_non (r1.view n1.sub)]
  refine h1 _ H1 F1 fp1 t1 n1 ?_
  cases d <;> rfl
theorem s_notN {j : Nat} {q : Pos} (ha : PE X xa (tE g φ P ty W ka a)) : PE X (.Compare xa [.IsNot] [.Constant .none j q] pos) (tE g φ P ty W .F (.notN a)) := by
  refine PE.imp (pe_cmpR op_notN ha pe_non (nomark _)) fun σ H Q ⟨e, F, fp, N, h⟩ => ⟨e, F, fp, N, ?_⟩
  rw [ev, pureE] at h
  refine Post.bind h (fun z => z) fun d e1 v H1 F1 fp1 _ h1 t1 n1 r1 => ⟨rfl, ?_⟩
  rw [den_non (r1.view n1.sub)]
  refine h1 _ H1 F1 fp1 t1 n1 ?_
  cases d <;> rfl
end
end Ev
set_option Elab.async false
set_option linter.all false
set_option maxRecDepth 100000
set_option maxHeartbeats 1000000
/-! Ev8: calls: of defs, with a list that is lent; new instances; methods; fields -/
namespace Ev
open PySem L2 PySem.Spec PyProof.Rows

def nf : Fps := fun _ => []
def one1 (f : List Addr) : Fps := fun j => if j = 0 then f else []
def fpu (fp : Fps) (j : Nat) (f : List Addr) : Fps := fun i => if i = j then f else fp i
section
variable (g : G) (φ : Phi)
/-- what a def promises: of frozen things, an answer of the kind kd -/
def spP (kd : Kd) (n : Nat) : Sp := fun vs H Q E => ∃ F ds, Sub F H ∧ DenL g F ds vs ∧ match φ n ds with
  | .ok d _ => ∀ v H1 F1, Tr true H F nf H1 F1 nf → Sub F1 H1 → Res g H nf H1 F1 nf kd d v → Q v H1
  | .err x => ∀ c dd H1 F1, Tr true H F nf H1 F1 nf → Sub F1 H1 → XcAt g F1 x c dd → E c dd H1
  | .stk => False
/-- .. with one thing lent, owned to the depth k, at the place p -/
def spL (kd : Kd) (n p k : Nat) : Sp := fun vs H Q E => ∃ F ds fl d v ws, vs = insA p v ws ∧ Sub F H ∧ DenL g F ds ws ∧ Own g H F k d v fl ∧ fl.Nodup ∧ (∀ a ∈ fl, F a = none) ∧ p ≤ ws.length ∧ match φ n (insA p d ds) with
  | .ok r o => ∀ u H1 F1 f1, Tr false H F (one1 fl) H1 F1 (one1 f1) → Sub F1 H1 → Own g H1 F1 k o v f1 → f1.Nodup → (∀ a ∈ f1, F1 a = none) → Res g H (one1 fl) H1 F1 (one1 f1) kd r u → Q u H1
  | .err x => ∀ c dd H1 F1, Tr false H F (one1 fl) H1 F1 nf → Sub F1 H1 → XcAt g F1 x c dd → E c dd H1
  | .stk => False
end
section
variable {g : G} {φ : Phi} {P : Pt} {ty : Sls} {W : WX} {X : Cx} {kd ka kb : Kd} {a b c : E} {xa xb xc : Expr} {pos p2 : Pos} {l : Es} {es : List Expr}
variable {σ : L2.St} {H F H1 F1 H0 : Hp} {e : Nv} {fp fp1 fp0 : Fps} {p pa pb : Bool} {Q : VK}
theorem Tr.np (t : Tr true H F nf H1 F1 nf) : Tr true H F fp H1 F1 fp :=
  ⟨t.sub, fun a o h _ => t.keep a o h (.inl rfl), fun a h k _ => t.nofr a h k (.inl rfl), fun j a h => .inl ⟨j, h⟩, fun _ => rfl⟩
theorem Ns.np (N : Ns g ty σ H F e fp) (t : Tr true H F nf H1 F1 nf) (s : Sub F1 H1) : Ns g ty σ H1 F1 e fp :=
  N.keep t.sub s (fun j a ha o h => t.keep a o h (.inl rfl)) fun j a ha => t.nofr a (N.there j a ha) (N.fr j a ha) (.inl rfl)
theorem Res.np {d : D} {v : V} (N : Ns g ty σ H F e fp) (r : Res g H nf H1 F1 nf kd d v) : Res g H fp H1 F1 fp kd d v := by
  cases kd with
  | F => exact r
  | bor k => exact r
  | own k =>
    obtain ⟨f, h1, h2, h3⟩ := r
    refine ⟨f, h1, h2, fun a ha => ?_⟩
    obtain ⟨k1, k2, k3⟩ := h3 a ha
    have hn : H a = none := by
      rcases k3 with ⟨i, hi⟩ | k3
      · cases hi
      · exact k3
    exact ⟨k1, fun j hj => N.there j a hj hn, .inr hn⟩
theorem fpu_same {j : Nat} {f : List Addr} : fpu fp j f j = f := if_pos rfl
theorem fpu_ne {i j : Nat} {f : List Addr} (h : i ≠ j) : fpu fp j f i = fp i := if_neg h
theorem one1_0 {f : List Addr} : one1 f 0 = f := rfl
theorem one1_in {f : List Addr} {j : Nat} {a : Addr} (h : a ∈ one1 f j) : a ∈ f := by
  unfold one1 at h
  by_cases z : j = 0
  · rw [if_pos z] at h; exact h
  · rw [if_neg z] at h; cases h
/-- what happens to the cells of one name alone -/
theorem Tr.part {j : Nat} {f1 : List Addr} {f1s : Fps} (t : Tr false H F (one1 (fp j)) H1 F1 f1s) (h1 : ∀ i, ∀ a ∈ f1s i, a ∈ f1) (h2 : ∀ a ∈ f1, ∃ i, a ∈ f1s i) : Tr false H F fp H1 F1 (fpu fp j f1) := by
  refine ⟨t.sub, fun a o h w => t.keep a o h (.inr fun i hi => ?_), fun a h k w => t.nofr a h k (.inr fun i hi => ?_), fun i a ha => ?_, fun z => by cases z⟩
  · rcases w with w | w
    · cases w
    · exact w j (one1_in hi)
  · rcases w with w | w
    · cases w
    · exact w j (one1_in hi)
  · by_cases z : i = j
    · subst z
      rw [fpu_same] at ha
      obtain ⟨i', hi'⟩ := h2 a ha
      rcases t.new i' a hi' with ⟨i2, h3⟩ | h3
      · exact .inl ⟨i, one1_in h3⟩
      · exact .inr h3
    · rw [fpu_ne z] at ha
      exact .inl ⟨i, ha⟩
theorem Ns.part (N : Ns g ty σ H F e fp) {j : Nat} {f1 : List Addr} {o : Option D} (tsub : Sub F F1) (tn : ∀ a ∈ f1, a ∈ fp j ∨ ∀ i, a ∉ fp i) (ts : ∀ a o, H a = some o → a ∉ fp j → H1 a = some o) (tf : ∀ a, H a ≠ none → F a = none → a ∉ fp j → F1 a = none) (s : Sub F1 H1) (hl : j < e.length)
    (ho : ∀ d, o = some d → ∃ q k v, ty.l[j]? = some (q, k) ∧ σ[q]? = some (some v) ∧ Own g H1 F1 k d v f1) (hn : o = none → f1 = []) (nd : f1.Nodup) (fr : ∀ a ∈ f1, F1 a = none) : Ns g ty σ H1 F1 (st e j o) (fpu fp j f1) := by
  refine ⟨s, fun i d h => ?_, fun i h => ?_, fun i a ha => ?_, fun i => ?_, fun i i2 hne a ha hb => ?_, N.len, by rw [st_len]; exact N.el, N.pn, fun x hx => tsub _ _ (N.fz x hx)⟩
  · rcases gt_st_some h with ⟨h1, h2⟩ | ⟨h1, h2⟩
    · subst h1
      rw [fpu_same]
      exact ho d h2
    · obtain ⟨q, k, v, h3, h4, h5⟩ := N.val i d h2
      rw [fpu_ne h1]
      exact ⟨q, k, v, h3, h4, h5.keep tsub fun b hb u hu => ts b u hu fun z => N.dj i j h1 b hb z⟩
  · by_cases z : i = j
    · subst z
      rw [fpu_same]
      rw [gt_st_same hl] at h
      exact hn h
    · rw [fpu_ne z]
      rw [gt_st_ne z] at h
      exact N.nil i h
  · by_cases z : i = j
    · subst z
      rw [fpu_same] at ha
      exact fr a ha
    · rw [fpu_ne z] at ha
      exact tf a (N.there i a ha) (N.fr i a ha) fun y => N.dj i j z a ha y
  · by_cases z : i = j
    · subst z
      rw [fpu_same]
      exact nd
    · rw [fpu_ne z]
      exact N.nd i
  · by_cases z : i = j
    · subst z
      rw [fpu_same] at ha
      rw [fpu_ne (Ne.symm hne)] at hb
      rcases tn a ha with h | h
      · exact N.dj i i2 hne a h hb
      · exact h i2 hb
    · rw [fpu_ne z] at ha
      by_cases y : i2 = j
      · subst y
        rw [fpu_same] at hb
        rcases tn a hb with h | h
        · exact N.dj i i2 hne a ha h
        · exact h i ha
      · rw [fpu_ne y] at hb
        exact N.dj i i2 hne a ha hb
/-- the same from the frame of one -/
theorem Ns.part1 (N : Ns g ty σ H F e fp) {j : Nat} {f1 : List Addr} {f1s : Fps} {o : Option D} (t : Tr false H F (one1 (fp j)) H1 F1 f1s) (h1 : ∀ i, ∀ a ∈ f1s i, a ∈ f1) (h2 : ∀ a ∈ f1, ∃ i, a ∈ f1s i) (s : Sub F1 H1) (hl : j < e.length)
    (ho : ∀ d, o = some d → ∃ q k v, ty.l[j]? = some (q, k) ∧ σ[q]? = some (some v) ∧ Own g H1 F1 k d v f1) (hn : o = none → f1 = []) (nd : f1.Nodup) (fr : ∀ a ∈ f1, F1 a = none) : Ns g ty σ H1 F1 (st e j o) (fpu fp j f1) := by
  refine N.part t.sub (fun a ha => ?_) (fun a u h k => t.keep a u h (.inr fun i hi => k (one1_in hi))) (fun a h k w => t.nofr a h k (.inr fun i hi => w (one1_in hi))) s hl ho hn nd fr
  obtain ⟨i, hi⟩ := h2 a ha
  rcases t.new i a hi with ⟨i', h3⟩ | h3
  · exact .inl (one1_in h3)
  · exact .inr fun i' hi' => N.there i' a hi' h3

/-! ### the call of a def -/
theorem run_fnRS {k : Nat} {f : Addr} {sp : Sp} {E : L2.St → XK} {pins : List (Addr × Obj)} {s : Shared} {us : List Value} {vs : List V} (R : FnR X.prog X.w X.K X.mg X.base (L2.CX X.prog X.w) k f sp) (hr : Room k X.A) (hx : PassesAt (L2.CX X.prog X.w) X σ (E σ)) (I : Inv X pins σ H s) (r : Vals vs us) (h : sp vs H Q (E σ)) :
    codeAny (model X.prog X.w) X.A (.call (.ref f) ⟨us, []⟩) (fun r s' => match r with | .ok (.ret v) => EP X pins σ Q v s' | .ok _ => False | .error e => X.xe e s') s := by
  refine codeAny_mono (R X.A X.stack s H us vs Q (E σ) hr I.env0 r h) fun r s' hq => ?_
  cases r with
  | error e => exact hx pins H s e s' I hq
  | ok fl =>
    cases fl with
    | ret u => exact I.after hq
    | next => exact hq.elim
    | brk => exact hq.elim
    | cont => exact hq.elim
/-- a row without stars -/
theorem star_head {es : List Expr} {env : Env} (h : es.all notStar = true) : es = [] ∨ ∃ y ys, es = y :: ys ∧ starEach (y :: ys) env = (false, eval y env) :: starEach ys env ∧ ys.all notStar = true := by
  cases es with
  | nil => exact .inl rfl
  | cons y ys =>
    obtain ⟨h1, h2⟩ := Bool.and_eq_true_iff.mp (show (notStar y && ys.all notStar) = true from h)
    exact .inr ⟨y, ys, rfl, star_cons h1, h2⟩
theorem pe_callR {k : Nat} {f : Addr} {x : Str} {sp : Sp} {E : L2.St → XK} {t : TA} {y : Expr} (R : FnR X.prog X.w X.K X.mg X.base (L2.CX X.prog X.w) k f sp) (hr : Room k X.A) (hg : Gl X x) (hm : X.mg x = some (.ref f)) (hk : PySem.W.keepIn X.K (.ref f) = true) (hx : ∀ σ, PassesAt (L2.CX X.prog X.w) X σ (E σ))
    (ha : PA X (y :: es) t) (hdb : (x == ("__debug__" : Str)) = false) (h1 : starEach (y :: es) X.env = (false, eval y X.env) :: starEach es X.env) (h2 : es.all notStar = true) : PE X (.Call (.Name x p2) (y :: es) [] pos) (tCallS sp E t) := by
  refine ⟨fun pins s σ H Q I h => wpAny_Call_Name_kw (ld_glob I hg hm ?_ hdb)⟩
  refine PySem.W.callWith_K (h₀ := X.base) I.ok.mod.kin hk (thn (ha.run pos pins s σ H _ I h) fun us s1 ⟨vs, H1, I1, r, q⟩ => ⟨I1.kIn, ?_⟩) h1 (star_any h2)
  exact wpAny_call (run_fnRS R hr (hx σ) I1 r q)
theorem pe_callR0 {k : Nat} {f : Addr} {x : Str} {sp : Sp} {E : L2.St → XK} (R : FnR X.prog X.w X.K X.mg X.base (L2.CX X.prog X.w) k f sp) (hr : Room k X.A) (hg : Gl X x) (hm : X.mg x = some (.ref f)) (hk : PySem.W.keepIn X.K (.ref f) = true) (hx : ∀ σ, PassesAt (L2.CX X.prog X.w) X σ (E σ))
    (hdb : (x == ("__debug__" : Str)) = false) : PE X (.Call (.Name x p2) [] [] pos) (tCallS sp E tNil) := by
  refine ⟨fun pins s σ H Q I h => wpAny_Call_Name_kw (ld_glob I hg hm ?_ hdb)⟩
  refine PySem.W.callWith_K0 I.kIn hk ?_
  exact wpAny_call (run_fnRS (us := []) R hr (hx σ) I .nil h)
/-- what must hold at a call by name -/
structure CallAt (X : Cx) (x : Str) (k : Nat) (f : Addr) : Prop where
  room : Room k X.A
  gl : Gl X x
  mg : X.mg x = some (.ref f)
  kp : PySem.W.keepIn X.K (.ref f) = true
  db : (x == ("__debug__" : Str)) = false
theorem tEs_nil {Q : List V → Hp → Prop} (h : tEs g φ P ty W .nil σ H Q) : Q [] H := by
  obtain ⟨e, F, fp, N, h⟩ := h
  rw [evs] at h
  exact h [] H F fp (Tr.refl _) N rfl
/-- a call by name, either way of the row -/
theorem pe_callE {k : Nat} {f : Addr} {x : Str} {sp : Sp} {E : L2.St → XK} {t : TA} (R : FnR X.prog X.w X.K X.mg X.base (L2.CX X.prog X.w) k f sp) (c : CallAt X x k f) (hx : ∀ σ, PassesAt (L2.CX X.prog X.w) X σ (E σ))
    (ha : PA X es t) (hn : es = [] → ∀ σ H Q, t σ H Q → Q [] H) (hs : es.all notStar = true) : PE X (.Call (.Name x p2) es [] pos) (tCallS sp E t) := by
  rcases star_head (env := X.env) hs with z | ⟨y, ys, z, h1, h2⟩
  · subst z
    exact PE.imp (pe_callR0 R c.room c.gl c.mg c.kp hx c.db) fun σ H Q h => hn rfl σ H _ h
  · subst z
    exact pe_callR R c.room c.gl c.mg c.kp hx ha c.db h1 h2
/-- the answer of a def -/
theorem call_ans {n : Nat} {ds : List D} {vs : List V} (N : Ns g ty σ H F e fp) (hd : DenL g F ds vs) (h : Post g ty kd true ((φ n ds).val.re e) σ H F fp W Q) : spP g φ kd n vs H Q (WE W σ) := by
  refine ⟨F, ds, N.sub, hd, ?_⟩
  cases hr : φ n ds with
  | stk => rw [hr] at h; exact h.elim
  | err x =>
    rw [hr] at h
    exact fun c dd H1 F1 t s k => h c dd H1 F1 fp t.np (N.np t s) k
  | ok d o =>
    rw [hr] at h
    exact fun v H1 F1 t s r => h v H1 F1 fp t.np (N.np t s) (r.np N)
theorem s_call {k n : Nat} {f : Addr} {x : Str} (R : FnR X.prog X.w X.K X.mg X.base (L2.CX X.prog X.w) k f (spP g φ kd n)) (c : CallAt X x k f) (tk : Takes X W) (ha : PA X es (tEs g φ P ty W l)) (hn : es = [] → l = .nil) (hs : es.all notStar = true) :
    PE X (.Call (.Name x p2) es [] pos) (tE g φ P ty W kd (.call n l)) := by
  refine PE.imp (pe_callE R c (passAt tk) ha (fun z σ H Q h => by rw [hn z] at h; exact tEs_nil h) hs) fun σ H Q ⟨e, F, fp, N, h⟩ => ⟨e, F, fp, N, ?_⟩
  rw [ev, pureE] at h
  refine Post.bindL h (fun z => z) fun ds e1 xs H1 F1 fp1 _ h1 t1 n1 r1 => ?_
  exact call_ans n1 r1 (Post.shift (pa := pureEs l) (by rw [Bool.and_true]; exact h1) t1)

/-! ### one argument is lent -/
def tIns (q i : Nat) (t : TA) : TA := fun σ H Q => ∃ v, σ[q]? = some (some v) ∧ t σ H fun vs H1 => i ≤ vs.length ∧ Q (insA i v vs) H1
theorem tEs_cons {Q : List V → Hp → Prop} (h : tEs g φ P ty W (.cons a l) σ H Q) : tE g φ P ty W .F a σ H fun x H1 => tEs g φ P ty W l σ H1 fun xs H2 => Q (x :: xs) H2 := by
  obtain ⟨e, F, fp, N, h⟩ := h
  rw [evs, pureEs] at h
  refine ⟨e, F, fp, N, PostL.bind h (fun z => (Bool.and_eq_true_iff.mp z).1) fun dx e1 x H1 F1 fp1 _ h1 t1 n1 r1 => ⟨e1, F1, fp1, n1, ?_⟩⟩
  refine PostL.bindL (PostL.shift h1 t1) (fun z => z) fun ds e2 xs H2 F2 fp2 _ h2 t2 n2 r2 => ?_
  have h3 : PostL g ty true (.ok (dx :: ds) e2) σ H2 F2 fp2 W Q := PostL.shift (pa := pureEs l) (by rw [Bool.and_true]; exact h2) t2
  exact h3 (x :: xs) H2 F2 fp2 (Tr.refl _) n2 ⟨x, xs, rfl, Den.mono t2.sub r1, r2⟩
theorem pa_lent0 {q : Nat} {x : Str} (hN : X.N[q]? = some x) (hv : Vis X.env.scope x) (hd : (x == ("__debug__" : Str)) = false) (hc : (x == ("__classdict__" : Str)) = false) (ha : PA X es (tEs g φ P ty W l)) : PA X (.Name x p2 :: es) (tIns q 0 (tEs g φ P ty W l)) := by
  refine PA.imp (pa_cons (pe_var hN hv hd hc) ha (star_cons rfl)) fun σ H Q ⟨v, h1, h2⟩ => ⟨v, h1, ?_⟩
  obtain ⟨e, F, fp, N, h⟩ := h2
  refine ⟨e, F, fp, N, ?_⟩
  cases hr : evs φ P l e with
  | stk => rw [hr] at h; exact h
  | err x e1 => rw [hr] at h; exact h
  | ok d e1 =>
    rw [hr] at h
    exact fun vs H1 F1 fp1 t n r => (h vs H1 F1 fp1 t n r).2
theorem PostL.imp {r : RE (List D)} {Q Q' : List V → Hp → Prop} (h : PostL g ty p r σ H F fp W Q) (k : ∀ vs H1, Q vs H1 → Q' vs H1) : PostL g ty p r σ H F fp W Q' := by
  cases r with
  | stk => exact h
  | err x e => exact h
  | ok d e => exact fun v H1 F1 fp1 t n r => k _ _ (h v H1 F1 fp1 t n r)
theorem tEs_imp {Q Q' : List V → Hp → Prop} (h : tEs g φ P ty W l σ H Q) (k : ∀ vs H1, Q vs H1 → Q' vs H1) : tEs g φ P ty W l σ H Q' := by
  obtain ⟨e, F, fp, N, h⟩ := h
  exact ⟨e, F, fp, N, h.imp k⟩
theorem tE_imp {Q Q' : VK} (h : tE g φ P ty W kd a σ H Q) (k : ∀ vs H1, Q vs H1 → Q' vs H1) : tE g φ P ty W kd a σ H Q' := by
  obtain ⟨e, F, fp, N, h⟩ := h
  refine ⟨e, F, fp, N, ?_⟩
  cases hr : ev φ P a e with
  | stk => rw [hr] at h; exact h
  | err x e => rw [hr] at h; exact h
  | ok d e => rw [hr] at h; exact fun v H1 F1 fp1 t n r => k _ _ (h v H1 F1 fp1 t n r)
theorem pa_lentS {q i : Nat} (ha : PE X xa (tE g φ P ty W .F a)) (hl : PA X es (tIns q i (tEs g φ P ty W l))) (hs : notStar xa = true) : PA X (xa :: es) (tIns q (i + 1) (tEs g φ P ty W (.cons a l))) := by
  refine PA.imp (pa_cons ha hl (star_cons hs)) fun σ H Q ⟨v, h1, h2⟩ => ?_
  refine tE_imp (tEs_cons h2) fun x H1 h3 => ⟨v, h1, tEs_imp h3 fun xs H2 h4 => ⟨Nat.le_of_succ_le_succ h4.1, h4.2⟩⟩
theorem insA_len {α : Type} {i : Nat} {x : α} {l : List α} : (insA i x l).length = l.length + 1 := by
  unfold insA
  rw [List.length_append, List.length_cons, List.length_take, List.length_drop]
  omega
theorem s_callI {k n f j q i dp : Nat} {fa : Addr} {x : Str} (R : FnR X.prog X.w X.K X.mg X.base (L2.CX X.prog X.w) k fa (spL g φ kd n i dp)) (c : CallAt X x k fa) (tk : Takes X W) (hty : ty.l[j]? = some (q, dp)) (ha : PA X es (tIns q i (tEs g φ P ty W l))) (hn : es ≠ []) (hs : es.all notStar = true) (hk : ∀ m, kd ≠ .bor m) :
    PE X (.Call (.Name x p2) es [] pos) (tE g φ P ty W kd (.callI n j i l)) := by
  refine PE.imp (pe_callE R c (passAt tk) ha (fun z => absurd z hn) hs) fun σ H Q ⟨e, F, fp, N, h⟩ => ?_
  rw [ev, pureE] at h
  cases hj : gt e j with
  | none => rw [hj] at h; exact h.elim
  | some d0 =>
    rw [hj] at h
    obtain ⟨q0, k0, v, h1, hv, _⟩ := N.val j d0 hj
    rw [hty] at h1
    cases h1
    refine ⟨v, hv, e, F, fp, N, Post.bindL h (fun z => by cases z) fun ds e1 vs H1 F1 fp1 _ h2 t1 n1 r1 => ?_⟩
    have h3 : Post g ty kd false (lend φ n j i ds e1) σ H1 F1 fp1 W Q := Post.shift (pa := pureEs l) (by rw [Bool.and_false]; exact h2) t1
    unfold lend at h3
    cases hj1 : gt e1 j with
    | none => rw [hj1] at h3; exact h3.elim
    | some d =>
      rw [hj1] at h3
      obtain ⟨q1, k1, v1, h4, hv1, ho⟩ := n1.val j d hj1
      rw [hty] at h4
      cases h4
      rw [hv] at hv1
      cases hv1
      by_cases z : i ≤ ds.length
      · have z' : i ≤ vs.length := by rw [r1.length]; exact z
        have h3 : Post g ty kd false (lendR j e1 (φ n (insA i d ds))) σ H1 F1 fp1 W Q := by simpa only [if_pos z] using h3
        refine ⟨z', F1, ds, fp1 j, d, v, vs, rfl, n1.sub, r1, ho, n1.nd j, n1.fr j, z', ?_⟩
        have hl := gt_lt hj1
        cases hr : φ n (insA i d ds) with
        | stk => rw [hr] at h3; exact h3.elim
        | err x =>
          rw [hr] at h3
          refine fun c dd H2 F2 t s k => h3 c dd H2 F2 (fpu fp1 j []) (t.part (fun _ a ha => by cases ha) fun a ha => by cases ha) ?_ k
          exact n1.part1 t (fun _ a ha => by cases ha) (fun a ha => by cases ha) s hl (fun d z => by cases z) (fun _ => rfl) List.nodup_nil fun a ha => by cases ha
        | ok r o =>
          rw [hr] at h3
          intro u H2 F2 f1 t s own nd fr res
          have i1 : ∀ i, ∀ a ∈ one1 f1 i, a ∈ f1 := fun _ a ha => one1_in ha
          have i2 : ∀ a ∈ f1, ∃ i, a ∈ one1 f1 i := fun a ha => ⟨0, ha⟩
          refine h3 u H2 F2 (fpu fp1 j f1) (t.part i1 i2) (n1.part1 t i1 i2 s hl (fun d' z => by cases z; exact ⟨q, dp, v, hty, hv, own⟩) (fun z => by cases z) nd fr) ?_
          cases kd with
          | F => exact res
          | bor k => exact absurd rfl (hk k)
          | own k =>
            obtain ⟨f, g1, g2, g3⟩ := res
            refine ⟨f, g1, g2, fun a ha => ?_⟩
            obtain ⟨k1, k2, k3⟩ := g3 a ha
            refine ⟨k1, fun i' hi' => ?_, ?_⟩
            · by_cases y : i' = j
              · subst y
                rw [fpu_same] at hi'
                exact k2 0 hi'
              · rw [fpu_ne y] at hi'
                rcases k3 with ⟨i3, h5⟩ | h5
                · exact n1.dj i' j y a hi' (one1_in h5)
                · exact n1.there i' a hi' h5
            · rcases k3 with ⟨i3, h5⟩ | h5
              · exact .inl ⟨j, one1_in h5⟩
              · exact .inr h5
      · have h3 : Post g ty kd false (.stk) σ H1 F1 fp1 W Q := by simpa only [if_neg z] using h3
        exact h3.elim
end
end Ev
set_option Elab.async false
set_option linter.all false
set_option maxRecDepth 100000
set_option maxHeartbeats 1000000
/-! Ev9: new instances, methods, fields -/
namespace Ev
open PySem L2 PySem.Spec PyProof.Rows

section
variable {g : G} {φ : Phi} {P : Pt} {ty : Sls} {W : WX} {X : Cx} {kd ka kb : Kd} {a b c : E} {xa xb xc : Expr} {pos p2 apos : Pos} {l : Es} {es : List Expr}
variable {σ : L2.St} {H F H1 F1 H0 : Hp} {e : Nv} {fp fp1 fp0 : Fps} {p pa pb : Bool} {Q : VK}
/-! ### what is made -/
theorem run_makeR {k : Nat} {C f : Addr} {sp : Sp} {E : L2.St → XK} {pins : List (Addr × Obj)} {s : Shared} {us : List Value} {vs : List V} (M : Mk X.K C f) (R : FnR X.prog X.w X.K X.mg X.base (L2.CX X.prog X.w) k f sp) (hr : Room (k + 1) X.A) (hx : PassesAt (L2.CX X.prog X.w) X σ (E σ)) (I : Inv X pins σ H s) (r : Vals vs us)
    (h : ∀ x dx, H x = none → H dx = none → dx ≠ x → sp (.ref x :: vs) (upd (upd H dx (.own x)) x (.ins C dx [])) (fun v H2 => v = .non ∧ Q (.ref x) H2) (E σ)) :
    wpAny (model X.prog X.w) X.A (call (.ref C) us) (EP X pins σ Q) X.xe s := by
  have hq := h (s.heap.objs.size + 1) s.heap.objs.size (I.hok.fresh (Nat.le_succ _)) (I.hok.fresh (Nat.le_refl _)) (Nat.ne_of_lt (Nat.lt_succ_self _))
  have I2 := Inv.made (C := C) I
  refine wpAny_call (make_map (f := f) I.kIn M.makes M.init (beq_iff_eq.mp M.fn) (codeAny_mono (R _ X.stack _ _ (Value.ref (s.heap.objs.size + 1) :: us) _ _ (E σ) (hr.make C us []) (I2.env0.make C us []) (show Vals (V.ref (s.heap.objs.size + 1) :: vs) (Value.ref (s.heap.objs.size + 1) :: us) from .cons rfl r) hq) fun r s' hq' => ?_))
  cases r with
  | error e => exact hx pins _ _ e s' I2 hq'
  | ok fl =>
    cases fl with
    | ret u =>
      obtain ⟨v, H', I3, rv, ev, q3⟩ := I2.after hq'
      subst ev
      exact ⟨rv, ⟨V.ref (s.heap.objs.size + 1), H', I3, rfl, q3⟩⟩
    | next => exact hq'.elim
    | brk => exact hq'.elim
    | cont => exact hq'.elim
def tMakeS (C : Addr) (sp : Sp) (E : L2.St → XK) (t : TA) : TE := fun σ H Q => t σ H fun vs H1 => ∀ x dx, H1 x = none → H1 dx = none → dx ≠ x → sp (.ref x :: vs) (upd (upd H1 dx (.own x)) x (.ins C dx [])) (fun v H2 => v = .non ∧ Q (.ref x) H2) (E σ)
/-- what must hold where a class is called -/
structure MakeAt (X : Cx) (x : Str) (k : Nat) (C f : Addr) : Prop where
  mk' : Mk X.K C f
  room : Room (k + 1) X.A
  gl : Gl X x
  mg : X.mg x = some (.ref C)
  db : (x == ("__debug__" : Str)) = false
theorem pe_makeE {k : Nat} {C f : Addr} {x : Str} {sp : Sp} {E : L2.St → XK} {t : TA} (c : MakeAt X x k C f) (R : FnR X.prog X.w X.K X.mg X.base (L2.CX X.prog X.w) k f sp) (hx : ∀ σ, PassesAt (L2.CX X.prog X.w) X σ (E σ))
    (ha : PA X es t) (hn : es = [] → ∀ σ H Q, t σ H Q → Q [] H) (hs : es.all notStar = true) : PE X (.Call (.Name x p2) es [] pos) (tMakeS C sp E t) := by
  refine ⟨fun pins s σ H Q I h => wpAny_Call_Name_kw (ld_glob I c.gl c.mg ?_ c.db)⟩
  rcases star_head (env := X.env) hs with z | ⟨y, ys, z, h1, h2⟩
  · subst z
    exact PySem.W.callWith_K0 I.kIn c.mk'.kp (run_makeR (us := []) c.mk' R c.room (hx σ) I .nil (hn rfl σ H _ h))
  · subst z
    refine PySem.W.callWith_K (h₀ := X.base) I.ok.mod.kin c.mk'.kp (thn (ha.run pos pins s σ H _ I h) fun us s1 ⟨vs, H1, I1, r, q⟩ => ⟨I1.kIn, ?_⟩) h1 (star_any h2)
    exact run_makeR c.mk' R c.room (hx σ) I1 r q
/-- in the making -/
theorem making {c : Nat} {x dx : Addr} (h1 : H x = none) (h2 : H dx = none) (hne : dx ≠ x) : ∃ f, (∀ a ∈ f, H a = none) ∧ f.Nodup ∧ Own g (upd (upd H dx (.own x)) x (.ins (g.cl c) dx [])) F 2 (.ins c []) (.ref x) f := by
  by_cases q : g.sl c = true
  · refine ⟨[x, dx], fun a ha => ?_, by simp [Ne.symm hne], rfl, x, [], rfl, ⟨dx, ?_⟩, rfl⟩
    · rcases List.mem_cons.mp ha with e | ha
      · rw [e]; exact h1
      · have e : a = dx := by simpa using ha
        rw [e]; exact h2
    · rw [if_pos q]
      refine ⟨hne, ⟨[], (fun i v h => by simp at h), .inl ⟨upd_same, rfl⟩⟩, ?_, rfl⟩
      rw [upd_ne hne, upd_same]
      intro z
      cases z
  · refine ⟨[x], fun a ha => ?_, by simp, rfl, x, [], rfl, ⟨dx, ?_⟩, rfl⟩
    · have e : a = x := by simpa using ha
      rw [e]; exact h1
    · rw [if_neg q, List.zip_nil_right]
      exact ⟨upd_same, rfl⟩
theorem s_new {k n cn : Nat} {fA : Addr} {x : Str} (c : MakeAt X x k (g.cl cn) fA) (R : FnR X.prog X.w X.K X.mg X.base (L2.CX X.prog X.w) k fA (spL g φ .F n 0 2)) (tk : Takes X W) (ha : PA X es (tEs g φ P ty W l)) (hn : es = [] → l = .nil) (hs : es.all notStar = true) :
    PE X (.Call (.Name x p2) es [] pos) (tE g φ P ty W (.own 2) (.new cn n l)) := by
  refine PE.imp (pe_makeE c R (passAt tk) ha (fun z σ H Q h => by rw [hn z] at h; exact tEs_nil h) hs) fun σ H Q ⟨e, F, fp, N, h⟩ => ⟨e, F, fp, N, ?_⟩
  rw [ev, pureE] at h
  refine Post.bindL h (fun z => z) fun ds e1 vs H1 F1 fp1 _ h2 t1 n1 r1 x dx hx hdx hne => ?_
  have h3 := Post.shift (pa := pureEs l) (pb := true) (by rw [Bool.and_true]; exact h2) t1
  obtain ⟨f, hf, nd, ow⟩ := making (g := g) (F := F1) (c := cn) hx hdx hne
  have tl : Tr true H1 F1 fp1 (upd (upd H1 dx (.own x)) x (.ins (g.cl cn) dx [])) F1 fp1 := (Tr.lay hdx).trans (Tr.lay (by rw [upd_ne (Ne.symm hne)]; exact hx))
  refine ⟨F1, ds, f, .ins cn [], .ref x, vs, rfl, n1.sub.trans fun a o z => tl.keep a o z (.inl rfl), r1, ow, nd, fun a ha => n1.sub.none (hf a ha), Nat.zero_le _, ?_⟩
  have notf : ∀ a, H1 a ≠ none → ∀ j, a ∉ one1 f j := fun a ha j hj => ha (hf a (one1_in hj))
  have e0 : insA 0 (D.ins cn []) ds = .ins cn [] :: ds := rfl
  rw [e0]
  have fin : ∀ H2 F2 f1s, Tr false (upd (upd H1 dx (.own x)) x (.ins (g.cl cn) dx [])) F1 (one1 f) H2 F2 f1s → Tr true H1 F1 fp1 H2 F2 fp1 := fun H2 F2 f1s t =>
    ⟨t.sub, fun a o h _ => t.keep a o (tl.keep a o h (.inl rfl)) (.inr (notf a (by rw [h]; intro z; cases z))), fun a h k _ => t.nofr a (tl.dom h (.inl rfl)) k (.inr (notf a h)), fun j a h => .inl ⟨j, h⟩, fun _ => rfl⟩
  have ns : ∀ H2 F2, Tr true H1 F1 fp1 H2 F2 fp1 → Sub F2 H2 → Ns g ty σ H2 F2 e1 fp1 := fun H2 F2 t s => n1.keep t.sub s (fun j a ha o h => t.keep a o h (.inl rfl)) fun j a ha => t.nofr a (n1.there j a ha) (n1.fr j a ha) (.inl rfl)
  cases hr : φ n (.ins cn [] :: ds) with
  | stk => rw [hr] at h3; exact h3.elim
  | err y =>
    rw [hr] at h3
    exact fun c dd H2 F2 t s k => h3 c dd H2 F2 fp1 (fin H2 F2 _ t) (ns H2 F2 (fin H2 F2 _ t) s) k
  | ok r o =>
    rw [hr] at h3
    cases r with
    | non =>
      intro u H2 F2 f1 t s own nd1 fr res
      refine ⟨res, h3 (.ref x) H2 F2 fp1 (fin H2 F2 _ t) (ns H2 F2 (fin H2 F2 _ t) s) ⟨f1, own, nd1, fun a ha => ?_⟩⟩
      have hH : H1 a = none := by
        rcases t.new 0 a ha with ⟨i, hi⟩ | hi
        · exact hf a (one1_in hi)
        · cases z : H1 a with
          | none => rfl
          | some o => rw [tl.keep a o z (.inl rfl)] at hi; cases hi
      exact ⟨fr a ha, fun j hj => n1.there j a hj hH, .inr hH⟩
    | _ => exact h3.elim

/-! ### methods -/
/-- where the owner of an attribute is no call of super -/
def baseOk : Expr → Bool
  | .Call (.Name id _) [] [] _ => id != "super"
  | _ => true
theorem base_ok {o : Expr} {m : Str} {env : Env} {w : Sem Value} (h : baseOk o = true) : attributeBase o m env w = w := by
  unfold attributeBase
  split
  · have h : (_ != ("super" : Str)) = true := h
    rw [h]
    rfl
  · rfl
theorem few_ok {es : List Expr} {env : Env} {pos : Pos} (h : es.all notStar = true) (hl : es.length < 30) : methodCallForm (es.length + ([] : List Keyword).length) (backTo pos (starEach es env)) (backToKw pos (keywordEach [] env)) = true := by
  unfold methodCallForm
  have h1 := star_any (pos := pos) (env := env) h
  have h2 : (backTo pos (starEach es env)).all (fun x => !x.1) = true := by
    rw [List.all_eq_true]
    intro x hx
    rw [List.any_eq_false] at h1
    simpa using h1 x hx
  rw [h2]
  have h3 : backToKw pos (keywordEach [] env) = [] := rfl
  rw [h3]
  simpa using hl
theorem meth_eval {o : Expr} {m : Str} {es : List Expr} {env : Env} (hb : baseOk o = true) (h : es.all notStar = true) (hl : es.length < 30) (hp : (apos.endLine == pos.line) = true) :
    eval (.Call (.Attribute o m apos) es [] pos) env = (do
      let ov ← eval o env
      standAt apos.atName
      let (f, first) ← holding [ov] (getMethod ov m (plainOf o env))
      callWith pos f first (backTo pos (starEach es env)) (backToKw pos (keywordEach [] env))) := by
  rw [arm_eval_Call, base_ok hb]
  exact bind_congr fun ov => bind_congr fun _ => mcall_line (few_ok h hl) hp
structure MethAt (X : Cx) (g : G) (c : Nat) (m : Str) (k : Nat) (f : Addr) : Prop where
  room : Room k X.A
  mt : Meth X.K (g.cl c) m f
  cls : if g.sl c = true then SlX.SCls X.K (g.cl c) else L2.Cls X.K (g.cl c) ∧ ∀ xs : List V, ((g.nm c).zip xs).lookup m = none
theorem getmethE {c k : Nat} {m : Str} {f x : Addr} {xs : List V} {pins : List (Addr × Obj)} {s : Shared} {pl : Sem Bool} {R : Value × List Value → Shared → Prop} (M : MethAt X g c m k f) (I : Inv X pins σ H s) (h : InsD g H c x xs) (q : R (.ref f, [.ref x]) s) :
    wpAny (model X.prog X.w) X.A (getMethod (.ref x) m pl) R X.xe s := by
  obtain ⟨dx, h⟩ := h
  have hc := M.cls
  by_cases z : g.sl c = true
  · rw [if_pos z] at h hc
    obtain ⟨_, vs, _, h2⟩ := h
    exact SlX.getmethsl_ok I h2 hc M.mt q
  · rw [if_neg z] at h hc
    exact getmeth_ok I h hc.1 M.mt (hc.2 xs) q
theorem s_mth {m : Nat} {ms : Str} {o : Expr} (he : PE X o (tE g φ P ty W .F a)) (M : ∀ c n, (P.cls c).mt m = some n → ∃ k f, MethAt X g c ms k f ∧ FnR X.prog X.w X.K X.mg X.base (L2.CX X.prog X.w) k f (spP g φ kd n)) (tk : Takes X W)
    (ha : PA X es (tEs g φ P ty W l)) (hn : es = [] → l = .nil) (hs : es.all notStar = true) (hb : baseOk o = true) (hl : es.length < 30) (hp : (apos.endLine == pos.line) = true) :
    PE X (.Call (.Attribute o ms apos) es [] pos) (tE g φ P ty W kd (.mth m a l)) := by
  refine ⟨fun pins s σ H Q I ⟨e, F, fp, N, h⟩ => ?_⟩
  rw [ev, pureE] at h
  refine PySem.W.methodCall_KW (pl := plainOf o X.env) (thn (he.run pins s σ H (fun x H1 => ∃ c n b xs, x = .ref b ∧ InsD g H1 c b xs ∧ (P.cls c).mt m = some n ∧ tEs g φ P ty W l σ H1 fun vs H2 => spP g φ kd n (x :: vs) H2 Q (WE W σ)) I ⟨e, F, fp, N, ?_⟩) fun u s1 ⟨x, H1, I1, rx, c, n, b, xs, ex, hi, hm, q⟩ => ?_) (meth_eval hb hs hl hp)
  · refine Post.bind h (fun z => (Bool.and_eq_true_iff.mp z).1) fun dx e1 x H1 F1 fp1 _ h1 t1 n1 r1 => ?_
    have h1 := Post.shift h1 t1
    cases dx with
    | ins d ys =>
      cases hm : (P.cls d).mt m with
      | none =>
        have h1 : Post g ty kd (pureEs l) .stk σ H1 F1 fp1 W Q := by simpa only [hm] using h1
        exact h1.elim
      | some n =>
        have h1 : Post g ty kd (pureEs l) ((evs φ P l e1).bind fun ds e => (φ n (.ins d ys :: ds)).val.re e) σ H1 F1 fp1 W Q := by simpa only [hm] using h1
        obtain ⟨a, xs, ex, hi, hd⟩ := r1
        refine ⟨d, n, a, xs, ex, hi.mono n1.sub, hm, e1, F1, fp1, n1, Post.bindL h1 (fun z => z) fun ds e2 vs H2 F2 fp2 _ h2 t2 n2 r2 => ?_⟩
        have h3 := Post.shift (pa := pureEs l) (pb := true) (by rw [Bool.and_true]; exact h2) t2
        exact call_ans (ds := .ins d ys :: ds) n2 ⟨x, vs, rfl, Den.mono t2.sub (d := .ins d ys) ⟨a, xs, ex, hi, hd⟩, r2⟩ h3
    | _ => exact h1.elim
  · subst ex
    obtain rfl : u = Value.ref b := rx
    obtain ⟨k, f, hM, R⟩ := M c n hm
    refine getmethE hM I1 hi ?_
    rcases star_head (env := X.env) hs with z | ⟨y, ys, z, h1, h2⟩
    · subst z
      refine PySem.W.callWith_K0 (first := [.ref b]) I1.kIn hM.mt.kp (wpAny_call (run_fnRS (us := [.ref b]) (vs := [.ref b]) R hM.room (passAt tk σ) I1 (.cons rfl .nil) ?_))
      rw [hn rfl] at q
      exact tEs_nil q
    · subst z
      refine PySem.W.callWith_K (first := [.ref b]) (h₀ := X.base) I.ok.mod.kin hM.mt.kp (thn (ha.run pos pins s1 σ H1 _ I1 q) fun us s2 ⟨vs, H2, I2, r, q2⟩ => ⟨I2.kIn, ?_⟩) h1 (star_any h2)
      exact wpAny_call (run_fnRS (us := .ref b :: us) (vs := .ref b :: vs) R hM.room (passAt tk σ) I2 (.cons rfl r) q2)

/-! ### fields -/
structure FldAt (X : Cx) (g : G) (c : Nat) (f : Str) (k : Nat) : Prop where
  cls : if g.sl c = true then SlX.SCls X.K (g.cl c) ∧ ∃ p, SlX.Slot1 X.K (g.cl c) f p (g.pm c k) else L2.Cls X.K (g.cl c) ∧ NoAttr X.K (g.cl c) f ∧ ∀ (xs : List V) (v : V), xs[k]? = some v → ((g.nm c).zip xs).lookup f = some v
theorem getfldE {c k : Nat} {f : Str} {x : Addr} {xs : List V} {v : V} {b : Bool} {pins : List (Addr × Obj)} {s : Shared} {R : Value → Shared → Prop} (M : FldAt X g c f k) (I : Inv X pins σ H s) (h : InsD g H c x xs) (hv : xs[k]? = some v) (q : ∀ u s', Inv X pins σ H s' → RelV v u → R u s') :
    wpAny (model X.prog X.w) X.A (getAttr (.ref x) f b) R X.xe s := by
  obtain ⟨dx, h⟩ := h
  have hc := M.cls
  by_cases z : g.sl c = true
  · rw [if_pos z] at h hc
    obtain ⟨h1, p, h2⟩ := hc
    obtain ⟨_, vs, hp, h3⟩ := h
    exact SlX.getslot_ok I h3 h1 h2 (hp k v hv) q
  · rw [if_neg z] at h hc
    exact getattr_ok I h hc.1 hc.2.1 (hc.2.2 xs v hv) q
theorem s_fld {f : Nat} {fs : Str} {o : Expr} (he : PE X o (tE g φ P ty W .F a)) (hb : baseOk o = true) (M : ∀ c k, (P.cls c).fd f = some k → FldAt X g c fs k) : PE X (.Attribute o fs pos) (tE g φ P ty W .F (.fld a f)) := by
  refine ⟨fun pins s σ H Q I ⟨e, F, fp, N, h⟩ => ?_⟩
  rw [ev, pureE] at h
  refine attr_of (base_ok hb) (thn (he.run pins s σ H (fun x H1 => ∃ c k a xs v, x = .ref a ∧ InsD g H1 c a xs ∧ (P.cls c).fd f = some k ∧ xs[k]? = some v ∧ Q v H1) I ⟨e, F, fp, N, ?_⟩) fun u s1 ⟨x, H1, I1, rx, c, k, a, xs, v, ex, hi, hf, hv, q⟩ => ?_)
  · refine Post.bind h (fun z => z) fun dx e1 x H1 F1 fp1 _ h1 t1 n1 r1 => ?_
    cases dx with
    | ins c ys =>
      obtain ⟨a', xs, ex, hi, hd⟩ := r1
      cases hz : (P.cls c).fd f with
      | none =>
        have h1 : Post g ty .F (pureE a) .stk σ H F fp W Q := by simpa only [hz, Option.bind] using h1
        exact h1.elim
      | some k =>
        cases hk : ys[k]? with
        | none =>
          have h1 : Post g ty .F (pureE a) .stk σ H F fp W Q := by simpa only [hz, Option.bind, hk] using h1
          exact h1.elim
        | some d =>
          have h1 : Post g ty .F (pureE a) (.ok d e1) σ H F fp W Q := by simpa only [hz, Option.bind, hk] using h1
          obtain ⟨v, h4, h5⟩ := hd.get hk
          exact ⟨c, k, a', xs, v, ex, hi.mono n1.sub, hz, h4, h1 v H1 F1 fp1 t1 n1 h5⟩
    | _ => exact h1.elim
  · subst ex
    obtain rfl : u = Value.ref a := rx
    exact getfldE (M c k hf) I1 hi hv fun u' s2 I2 ru => ⟨v, H1, I2, ru, q⟩
end
end Ev
set_option Elab.async false
set_option linter.all false
set_option maxRecDepth 100000
set_option maxHeartbeats 1000000
/-! Ev10: built-in functions -/
namespace Ev
open PySem L2 PySem.Spec PyProof.Rows

/-! ### plain facts -/
theorem insI_mem {i j : Int} : ∀ {l : List Int}, j ∈ insI i l ↔ j = i ∨ j ∈ l
  | [] => by simp [insI]
  | k :: r => by
    unfold insI
    by_cases z : i ≤ k
    · rw [if_pos z]; simp
    · rw [if_neg z, List.mem_cons, insI_mem (l := r), List.mem_cons]
      constructor
      · rintro (h | h | h)
        · exact .inr (.inl h)
        · exact .inl h
        · exact .inr (.inr h)
      · rintro (h | h | h)
        · exact .inr (.inl h)
        · exact .inl h
        · exact .inr (.inr h)
theorem insI_perm {i : Int} : ∀ {l : List Int}, (insI i l).Perm (i :: l)
  | [] => .refl _
  | k :: r => by
    unfold insI
    by_cases z : i ≤ k
    · rw [if_pos z]
    · rw [if_neg z]
      exact (insI_perm (l := r)).cons k |>.trans (List.Perm.swap _ _ _)
theorem insI_sorted {i : Int} : ∀ {l : List Int}, l.Pairwise (· ≤ ·) → (insI i l).Pairwise (· ≤ ·)
  | [], _ => by simp [insI]
  | k :: r, h => by
    obtain ⟨h1, h2⟩ := List.pairwise_cons.mp h
    unfold insI
    by_cases z : i ≤ k
    · rw [if_pos z]
      refine List.pairwise_cons.mpr ⟨fun y hy => ?_, h⟩
      rcases List.mem_cons.mp hy with e | hy
      · rw [e]; exact z
      · exact Int.le_trans z (h1 y hy)
    · rw [if_neg z]
      refine List.pairwise_cons.mpr ⟨fun y hy => ?_, insI_sorted h2⟩
      rcases insI_mem.mp hy with e | hy
      · rw [e]; omega
      · exact h1 y hy
theorem sortI_perm : ∀ {l : List Int}, (sortI l).Perm l
  | [] => .refl _
  | i :: r => by
    unfold sortI
    exact insI_perm.trans (sortI_perm.cons i)
theorem sortI_sorted : ∀ {l : List Int}, (sortI l).Pairwise (· ≤ ·)
  | [] => List.Pairwise.nil
  | i :: r => by
    unfold sortI
    exact insI_sorted sortI_sorted
theorem sorted_eq : ∀ {l m : List Int}, l.Perm m → l.Pairwise (· ≤ ·) → m.Pairwise (· ≤ ·) → l = m
  | [], m, p, _, _ => by rw [List.nil_perm.mp p]
  | a :: l, [], p, _, _ => by simpa using p.length_eq
  | a :: l, b :: m, p, h, k => by
    obtain ⟨h1, h2⟩ := List.pairwise_cons.mp h
    obtain ⟨k1, k2⟩ := List.pairwise_cons.mp k
    have e : a = b := by
      rcases List.mem_cons.mp (p.mem_iff.mp (List.mem_cons_self (a := a) (l := l))) with e | e
      · exact e
      · rcases List.mem_cons.mp (p.mem_iff.mpr (List.mem_cons_self (a := b) (l := m))) with e' | e'
        · exact e'.symm
        · exact Int.le_antisymm (h1 b e') (k1 a e)
    subst e
    rw [sorted_eq (List.Perm.cons_inv p) h2 k2]
theorem maxI_ok : ∀ (r : List Int) (m : Int), maxI m r ∈ m :: r ∧ ∀ y ∈ m :: r, y ≤ maxI m r
  | [], m => ⟨List.mem_cons_self, fun y hy => by
    have e : y = m := by simpa using hy
    rw [e]
    exact Int.le_refl _⟩
  | i :: r, m => by
    obtain ⟨h1, h2⟩ := maxI_ok r (if m < i then i else m)
    unfold maxI
    refine ⟨?_, fun y hy => ?_⟩
    · rcases List.mem_cons.mp h1 with e | h
      · rw [e]
        by_cases z : m < i
        · rw [if_pos z]; exact List.mem_cons_of_mem _ List.mem_cons_self
        · rw [if_neg z]; exact List.mem_cons_self
      · exact List.mem_cons_of_mem _ (List.mem_cons_of_mem _ h)
    · have h3 := h2 (if m < i then i else m) List.mem_cons_self
      rcases List.mem_cons.mp hy with e | hy
      · rw [e]
        by_cases z : m < i
        · rw [if_pos z] at h3 ⊢; omega
        · rw [if_neg z] at h3 ⊢; exact h3
      · rcases List.mem_cons.mp hy with e | hy
        · rw [e]
          by_cases z : m < i
          · rw [if_pos z] at h3 ⊢; exact h3
          · rw [if_neg z] at h3 ⊢; omega
        · exact h2 y (List.mem_cons_of_mem _ hy)
theorem minI_ok : ∀ (r : List Int) (m : Int), minI m r ∈ m :: r ∧ ∀ y ∈ m :: r, minI m r ≤ y
  | [], m => ⟨List.mem_cons_self, fun y hy => by
    have e : y = m := by simpa using hy
    rw [e]
    exact Int.le_refl _⟩
  | i :: r, m => by
    obtain ⟨h1, h2⟩ := minI_ok r (if i < m then i else m)
    unfold minI
    refine ⟨?_, fun y hy => ?_⟩
    · rcases List.mem_cons.mp h1 with e | h
      · rw [e]
        by_cases z : i < m
        · rw [if_pos z]; exact List.mem_cons_of_mem _ List.mem_cons_self
        · rw [if_neg z]; exact List.mem_cons_self
      · exact List.mem_cons_of_mem _ (List.mem_cons_of_mem _ h)
    · have h3 := h2 (if i < m then i else m) List.mem_cons_self
      rcases List.mem_cons.mp hy with e | hy
      · rw [e]
        by_cases z : i < m
        · rw [if_pos z] at h3 ⊢; omega
        · rw [if_neg z] at h3 ⊢; exact h3
      · rcases List.mem_cons.mp hy with e | hy
        · rw [e]
          by_cases z : i < m
          · rw [if_pos z] at h3 ⊢; exact h3
          · rw [if_neg z] at h3 ⊢; omega
        · exact h2 y (List.mem_cons_of_mem _ hy)

/-! ### what each is -/
def blN : BI → Str
  | .len => "len" | .abs => "abs" | .int => "int" | .bool => "bool" | .str => "str" | .tuple => "tuple" | .list => "list" | .sum => "sum" | .max => "max" | .min => "min"
  | .sorted => "sorted" | .any => "any" | .all => "all" | .max2 => "max" | .min2 => "min" | .lrng1 => "list" | .lrng2 => "list"
def blV : BI → Value
  | .len => .builtin "len" | .abs => .builtin "abs" | .int => .type "int" | .bool => .type "bool" | .str => .type "str" | .tuple => .type "tuple" | .list => .type "list" | .sum => .builtin "sum" | .max => .builtin "max" | .min => .builtin "min"
  | .sorted => .builtin "sorted" | .any => .builtin "any" | .all => .builtin "all" | .max2 => .builtin "max" | .min2 => .builtin "min" | .lrng1 => .type "list" | .lrng2 => .type "list"
def kdB : BI → Kd
  | .sorted => .own 1 | .list => .own 1 | .lrng1 => .own 1 | .lrng2 => .own 1
  | _ => .F
def oneB : BI → Bool
  | .max2 => false | .min2 => false | .lrng1 => false | .lrng2 => false
  | _ => true
/-- the items go on -/
def needB : BI → Bool
  | .tuple => true | .list => true
  | _ => false

section
variable {g : G} {φ : Phi} {P : Pt} {ty : Sls} {W : WX} {X : Cx} {kd ka kb : Kd} {a b c : E} {xa xb xc : Expr} {pos p2 apos : Pos} {l : Es} {es : List Expr}
variable {σ : L2.St} {H F H1 F1 H0 : Hp} {e : Nv} {fp fp1 fp0 : Fps} {p pa pb : Bool} {Q : VK}
theorem Den.lstH {l : List D} {v : V} (h : Den g H (.lst l) v) : ∃ a xs, v = .ref a ∧ H a = some (.lst xs) ∧ DenL g H l xs := h
theorem blt_call {bi : BI} {r : List V → Hp → VK → Prop} {t : TA} {y : Expr} (hc : CallR X (blV bi) r) (hg : Gl X (blN bi)) (hm : X.mg (blN bi) = none) (ha : PA X (y :: es) t) (h1 : starEach (y :: es) X.env = (false, eval y X.env) :: starEach es X.env) (h2 : es.all notStar = true) :
    PE X (.Call (.Name (blN bi) p2) (y :: es) [] pos) (tCB r t) := by
  cases bi
  case len => exact pe_callB hc hg hm (by decide +kernel) ha (he := h1) (hpl := star_any h2)
  case abs => exact pe_callB hc hg hm (by decide +kernel) ha (he := h1) (hpl := star_any h2)
  case int => exact pe_callTy hc hg hm (by decide +kernel) ha (he := h1) (hpl := star_any h2)
  case bool => exact pe_callTy hc hg hm (by decide +kernel) ha (he := h1) (hpl := star_any h2)
  case str => exact pe_callTy hc hg hm (by decide +kernel) ha (he := h1) (hpl := star_any h2)
  case tuple => exact pe_callTy hc hg hm (by decide +kernel) ha (he := h1) (hpl := star_any h2)
  case list => exact pe_callTy hc hg hm (by decide +kernel) ha (he := h1) (hpl := star_any h2)
  case sum => exact pe_callB hc hg hm (by decide +kernel) ha (he := h1) (hpl := star_any h2)
  case max => exact pe_callB hc hg hm (by decide +kernel) ha (he := h1) (hpl := star_any h2)
  case min => exact pe_callB hc hg hm (by decide +kernel) ha (he := h1) (hpl := star_any h2)
  case sorted => exact pe_callB hc hg hm (by decide +kernel) ha (he := h1) (hpl := star_any h2)
  case any => exact pe_callB hc hg hm (by decide +kernel) ha (he := h1) (hpl := star_any h2)
  case all => exact pe_callB hc hg hm (by decide +kernel) ha (he := h1) (hpl := star_any h2)
  case max2 => exact pe_callB hc hg hm (by decide +kernel) ha (he := h1) (hpl := star_any h2)
  case min2 => exact pe_callB hc hg hm (by decide +kernel) ha (he := h1) (hpl := star_any h2)
  case lrng1 => exact pe_callTy hc hg hm (by decide +kernel) ha (he := h1) (hpl := star_any h2)
  case lrng2 => exact pe_callTy hc hg hm (by decide +kernel) ha (he := h1) (hpl := star_any h2)
def rB1 (g : G) (ty : Sls) (W : WX) (bi : BI) : List V → Hp → VK → Prop := fun xs H Q => ∃ σ e F fp d v, xs = [v] ∧ Ns g ty σ H F e fp ∧ Den g H d v ∧ (needB bi = true → Vw g H F d v) ∧ Post g ty (kdB bi) true ((opBi bi [d]).re e) σ H F fp W Q
theorem cr_b1 {bi : BI} (h1 : oneB bi = true) (hc : X.calm = true) (hK : X.K = g.K) : CallR X (blV bi) (rB1 g ty W bi) := by
  intro pins s σ0 H xs us Q I r ⟨σ, e, F, fp, d, v, ex, N, hd, hn, h⟩
  cases bi
  case len =>
    refine call_len pins s σ0 H xs us Q I r ?_
    cases d with
    | str s =>
      by_cases z : s.length ≤ sizeLine
      · have h : Post g ty .F true (.ok (.int s.length) e) σ H F fp W Q := by simpa only [opBi, RV.re, kdB, if_pos z] using h
        exact ⟨v, s.length, ex, by cases (show v = .str s from hd); exact ⟨z, rfl⟩, Post.fin h N rfl⟩
      · have h : Post g ty .F true .stk σ H F fp W Q := by simpa only [opBi, RV.re, kdB, if_neg z] using h
        exact h.elim
    | lst l =>
      obtain ⟨a, ys, ev, e1, e2⟩ := hd
      subst ev
      exact ⟨_, l.length, ex, .inl ⟨ys, SqL.of e1, e2.length.symm⟩, Post.fin h N rfl⟩
    | scr l =>
      obtain ⟨a, ev, e1⟩ := hd
      subst ev
      exact ⟨_, l.length, ex, .inl ⟨_, by rw [hK]; exact e1, by rw [List.length_map]⟩, Post.fin h N rfl⟩
    | tup l =>
      obtain ⟨a, ys, ev, e1, e2⟩ := hd
      subst ev
      exact ⟨_, l.length, ex, .inr ⟨ys, by rw [hK]; exact e1, e2.length.symm⟩, Post.fin h N rfl⟩
    | _ => exact h.elim
  case abs =>
    cases d with
    | int i => exact call_abs pins s σ0 H xs us Q I r ⟨i, by rw [ex, show v = .int i from hd], Post.fin h N rfl⟩
    | _ => exact h.elim
  case int =>
    cases d with
    | int i => exact call_int1 pins s σ0 H xs us Q I r (.inl ⟨i, by rw [ex, show v = .int i from hd], Post.fin h N rfl⟩)
    | bl i => exact call_int1 pins s σ0 H xs us Q I r (.inr ⟨i, by rw [ex, show v = .bl i from hd], Post.fin h N rfl⟩)
    | _ => exact h.elim
  case bool =>
    cases d with
    | int i => exact call_bool1 pins s σ0 H xs us Q I r (.inl ⟨i, by rw [ex, show v = .int i from hd], Post.fin h N rfl⟩)
    | bl i => exact call_bool1 pins s σ0 H xs us Q I r (.inr ⟨i, by rw [ex, show v = .bl i from hd], Post.fin h N rfl⟩)
    | _ => exact h.elim
  case str =>
    cases d with
    | int i =>
      by_cases z : i.natAbs.log2 < 1920
      · have h : Post g ty .F true (.ok (.str (toString i)) e) σ H F fp W Q := by simpa only [opBi, RV.re, kdB, if_pos z] using h
        exact call_str_int pins s σ0 H xs us Q I r ⟨i, by rw [ex, show v = .int i from hd], z, Post.fin h N rfl⟩
      · have h : Post g ty .F true .stk σ H F fp W Q := by simpa only [opBi, RV.re, kdB, if_neg z] using h
        exact h.elim
    | _ => exact h.elim
  case tuple =>
    refine call_tuple_of pins s σ0 H xs us Q I r ?_
    have hv := hn rfl
    cases d with
    | lst l =>
      obtain ⟨a, ys, e1, e2, e3⟩ := hv.lst N.sub
      subst e1
      exact ⟨a, ys, ex, .inl ⟨SqL.of e2, fun q hq => Post.finN h N hq (newT e3 (N.sub.none hq))⟩⟩
    | tup l =>
      obtain ⟨a, ys, e1, e2, e3⟩ := hv.den fun _ z => by cases z
      subst e1
      exact ⟨a, ys, ex, .inr ⟨by rw [hK]; exact N.sub.sqT e2, Post.fin h N ⟨a, ys, rfl, e2, e3⟩⟩⟩
    | _ => exact h.elim
  case list =>
    refine call_list_of pins s σ0 H xs us Q I r ?_
    have hv := hn rfl
    cases d with
    | lst l =>
      obtain ⟨a, ys, e1, e2, e3⟩ := hv.lst N.sub
      subst e1
      exact ⟨a, ys, ex, .inl (SqL.of e2), fun q hq => Post.finO h N hq e3⟩
    | tup l =>
      obtain ⟨a, ys, e1, e2, e3⟩ := hv.den fun _ z => by cases z
      subst e1
      exact ⟨a, ys, ex, .inr (by rw [hK]; exact N.sub.sqT e2), fun q hq => Post.finO h N hq e3⟩
    | _ => exact h.elim
  case sum =>
    cases d with
    | lst l =>
      cases hi : intsOf l with
      | none =>
        have h : Post g ty .F true .stk σ H F fp W Q := by simpa only [opBi, RV.re, kdB, sumD, hi] using h
        exact h.elim
      | some ns =>
        have h : Post g ty .F true (.ok (.int ns.sum) e) σ H F fp W Q := by simpa only [opBi, RV.re, kdB, sumD, hi] using h
        obtain ⟨a, ys, ev, e1, e2⟩ := hd
        subst ev
        exact cr_sum hc pins s σ0 H xs us Q I r ⟨a, ns, ex, by rw [← e2.ints hi]; exact SqL.of e1, Post.fin h N rfl⟩
    | _ => exact h.elim
  case max =>
    cases d with
    | lst l =>
      cases l with
      | nil => exact h.elim
      | cons d l =>
        cases d with
        | int i =>
          cases hi : intsOf l with
          | none =>
            have h : Post g ty .F true .stk σ H F fp W Q := by simpa only [opBi, RV.re, kdB, hi] using h
            exact h.elim
          | some ns =>
            have h : Post g ty .F true (.ok (.int (maxI i ns)) e) σ H F fp W Q := by simpa only [opBi, RV.re, kdB, hi] using h
            obtain ⟨a, ys, ev, e1, e2⟩ := hd
            subst ev
            have hi2 : intsOf (.int i :: l) = some (i :: ns) := by unfold intsOf; rw [hi]
            refine cr_max hc pins s σ0 H xs us Q I r ⟨a, i :: ns, ex, by rw [← e2.ints hi2]; exact SqL.of e1, Nat.succ_pos _, fun m hm hall => ?_⟩
            obtain ⟨k1, k2⟩ := maxI_ok ns i
            rw [Int.le_antisymm (k2 m hm) (hall _ k1)]
            exact Post.fin h N rfl
        | _ => exact h.elim
    | _ => exact h.elim
  case min =>
    cases d with
    | lst l =>
      cases l with
      | nil => exact h.elim
      | cons d l =>
        cases d with
        | int i =>
          cases hi : intsOf l with
          | none =>
            have h : Post g ty .F true .stk σ H F fp W Q := by simpa only [opBi, RV.re, kdB, hi] using h
            exact h.elim
          | some ns =>
            have h : Post g ty .F true (.ok (.int (minI i ns)) e) σ H F fp W Q := by simpa only [opBi, RV.re, kdB, hi] using h
            obtain ⟨a, ys, ev, e1, e2⟩ := hd
            subst ev
            have hi2 : intsOf (.int i :: l) = some (i :: ns) := by unfold intsOf; rw [hi]
            refine cr_min hc pins s σ0 H xs us Q I r ⟨a, i :: ns, ex, by rw [← e2.ints hi2]; exact SqL.of e1, Nat.succ_pos _, fun m hm hall => ?_⟩
            obtain ⟨k1, k2⟩ := minI_ok ns i
            rw [Int.le_antisymm (hall _ k1) (k2 m hm)]
            exact Post.fin h N rfl
        | _ => exact h.elim
    | _ => exact h.elim
  case sorted =>
    cases d with
    | lst l =>
      cases hi : intsOf l with
      | none =>
        have h : Post g ty (.own 1) true .stk σ H F fp W Q := by simpa only [opBi, RV.re, kdB, hi] using h
        exact h.elim
      | some ns =>
        have h : Post g ty (.own 1) true (.ok (.lst ((sortI ns).map .int)) e) σ H F fp W Q := by simpa only [opBi, RV.re, kdB, hi] using h
        obtain ⟨a, ys, ev, e1, e2⟩ := hd
        subst ev
        refine cr_sortedI pins s σ0 H xs us Q I r ⟨a, ns, ex, by rw [← e2.ints hi]; exact SqL.of e1, fun ns' p hp hs hq => ?_⟩
        have e3 : ns' = sortI ns := sorted_eq (hp.trans sortI_perm.symm) hs sortI_sorted
        subst e3
        exact Post.finO h N hq (denL_ints _)
    | _ => exact h.elim
  case any =>
    cases d with
    | lst l =>
      cases hi : boolsOf l with
      | none =>
        have h : Post g ty .F true .stk σ H F fp W Q := by simpa only [opBi, RV.re, kdB, hi] using h
        exact h.elim
      | some ns =>
        have h : Post g ty .F true (.ok (.bl (ns.any id)) e) σ H F fp W Q := by simpa only [opBi, RV.re, kdB, hi] using h
        obtain ⟨a, ys, ev, e1, e2⟩ := hd
        subst ev
        exact cr_any hc pins s σ0 H xs us Q I r ⟨a, ns, ex, by rw [← e2.bools hi]; exact SqL.of e1, Post.fin h N rfl⟩
    | _ => exact h.elim
  case all =>
    cases d with
    | lst l =>
      cases hi : boolsOf l with
      | none =>
        have h : Post g ty .F true .stk σ H F fp W Q := by simpa only [opBi, RV.re, kdB, hi] using h
        exact h.elim
      | some ns =>
        have h : Post g ty .F true (.ok (.bl (ns.all id)) e) σ H F fp W Q := by simpa only [opBi, RV.re, kdB, hi] using h
        obtain ⟨a, ys, ev, e1, e2⟩ := hd
        subst ev
        exact cr_all hc pins s σ0 H xs us Q I r ⟨a, ns, ex, by rw [← e2.bools hi]; exact SqL.of e1, Post.fin h N rfl⟩
    | _ => exact h.elim
  all_goals cases h1
theorem s_bi1 {bi : BI} (h1 : oneB bi = true) (hc : X.calm = true) (hK : X.K = g.K) (hg : Gl X (blN bi)) (hm : X.mg (blN bi) = none) (ha : PE X xa (tE g φ P ty W ka a)) (hk : needB bi = true → flatK ka = true) (hs : notStar xa = true) :
    PE X (.Call (.Name (blN bi) p2) [xa] [] pos) (tE g φ P ty W (kdB bi) (.bi bi (.cons a .nil))) := by
  refine PE.imp (blt_call (cr_b1 (g := g) (ty := ty) (W := W) h1 hc hK) hg hm (pa_cons ha pa_nil (star_cons hs)) (star_cons hs) rfl) fun σ H Q ⟨e, F, fp, N, h⟩ => ⟨e, F, fp, N, ?_⟩
  rw [ev, pureE, evs, pureEs, pureEs, Bool.and_true] at h
  cases hr : ev φ P a e with
  | stk => rw [hr] at h; exact h.elim
  | err y e1 => rw [hr] at h; exact h
  | ok d e1 =>
    rw [hr] at h
    have h : Post g ty (kdB bi) (pureE a) ((opBi bi [d]).re e1) σ H F fp W Q := by simpa only [RE.bind, evs] using h
    exact fun v H1 F1 fp1 t n r => ⟨σ, e1, F1, fp1, d, v, rfl, n, r.view n.sub, fun z => r.vw (hk z), Post.shift (pa := pureE a) (by rw [Bool.and_true]; exact h) t⟩
end
end Ev
set_option Elab.async false
set_option linter.all false
set_option maxRecDepth 100000
set_option maxHeartbeats 1000000
/-! Ev11: isinstance, negation, two of max and min, lists of ranges -/
namespace Ev
open PySem L2 PySem.Spec PyProof.Rows

def tagV (g : G) : D → Value
  | .non => .type "NoneType" | .bl _ => .type "bool" | .int _ => .type "int" | .str _ => .type "str" | .tup _ => .type "tuple" | .lst _ => .type "list"
  | .ins c _ => .ref (g.cl c)
  | _ => .none
def tyV (g : G) : Ty → Value
  | .int => .type "int" | .bool => .type "bool" | .str => .type "str" | .tuple => .type "tuple" | .list => .type "list" | .own c => .ref (g.cl c)
def tyC (g : G) : Ty → V
  | .int => .ty "int" | .bool => .ty "bool" | .str => .ty "str" | .tuple => .ty "tuple" | .list => .ty "list" | .own c => .ref (g.cl c)
/-- what isinstance asks of a class of the program -/
structure IsF (g : G) (c : Nat) : Prop where
  cls : if g.sl c = true then SlX.SCls g.K (g.cl c) else L2.Cls g.K (g.cl c)
  ca : PySem.W.findIn g.K (.ref (g.cl c)) "__class__" = some (some (.builtin "object.__class__"))
  cn : PySem.W.specialIn g.K (.builtin "object.__class__") "__get__" = some (some (.builtin "getset_descriptor.__get__"))
  ct : PySem.W.takesIn g.K (.builtin "object.__class__") = some true
  cm : PySem.W.mroIn g.K (g.cl c) (.type "object") = some true
section
variable {g : G} {φ : Phi} {P : Pt} {ty : Sls} {W : WX} {X : Cx} {kd ka kb : Kd} {a b c : E} {xa xb xc : Expr} {pos p2 apos : Pos} {l : Es} {es : List Expr}
variable {σ : L2.St} {H F H1 F1 H0 : Hp} {e : Nv} {fp fp1 fp0 : Fps} {p pa pb : Bool} {Q : VK}
theorem tyC_rel {t : Ty} : RelV (tyC g t) (tyV g t) := by cases t <;> exact rfl
theorem tyC_one {t : Ty} {w : Value} (h : RelV (tyC g t) w) : w = tyV g t := by cases t <;> exact h
theorem kitD {d : D} {v : V} {u : Value} {pins : List (Addr × Obj)} {s : Shared} (I : Inv X pins σ H s) (hK : X.K = g.K) (hd : Den g H d v) (r : RelV v u) (ht : tagged P d = true) (hi : ∀ c, (P.cls c).is = true → IsF g c) :
    ∃ R : Heap → Prop, PySem.W.KitX X.K u (tagV g d) R ∧ R s.heap ∧ u ≠ .builtin "__main__.__loader__#opaque" := by
  cases d with
  | non => cases hd; cases (show u = Value.none from r); exact ⟨_, PySem.W.kitx_none, True.intro, fun z => nomatch z⟩
  | bl b => cases hd; cases (show u = Value.bool b from r); exact ⟨_, PySem.W.kitx_bool, True.intro, fun z => nomatch z⟩
  | int b => cases hd; obtain ⟨t, q⟩ := (show ∃ t, u = Value.int b t from r); cases q; exact ⟨_, PySem.W.kitx_int, True.intro, fun z => nomatch z⟩
  | str b => cases hd; obtain ⟨t, q⟩ := (show ∃ t, u = Value.str b t from r); cases q; exact ⟨_, PySem.W.kitx_str, True.intro, fun z => nomatch z⟩
  | tup l =>
    obtain ⟨a, xs, ev, e1, e2⟩ := hd
    subst ev
    cases (show u = Value.ref a from r)
    rw [← hK] at e1
    obtain ⟨its, _, ⟨o, ho, hc, _⟩, _⟩ := I.tuple e1
    exact ⟨_, PySem.W.kitx_tuple, ⟨o, ho, hc⟩, fun z => nomatch z⟩
  | lst l =>
    obtain ⟨a, xs, ev, e1, e2⟩ := hd
    subst ev
    cases (show u = Value.ref a from r)
    obtain ⟨_, _, n, _, h1⟩ := (show ObjOk X.prog X.w H s.heap a (.lst xs) from I.hok a _ e1)
    exact ⟨_, PySem.W.kitx_list, ⟨_, h1, rfl⟩, fun z => nomatch z⟩
  | ins c l =>
    obtain ⟨a, xs, ev, e1, e2⟩ := hd
    subst ev
    cases (show u = Value.ref a from r)
    obtain ⟨hcl, ca, cn, ct, cm⟩ := hi c ht
    obtain ⟨dx, e1⟩ := e1
    rw [← hK] at hcl ca cn ct cm
    by_cases z : g.sl c = true
    · rw [if_pos z] at e1 hcl
      obtain ⟨_, vs, _, e2⟩ := e1
      obtain ⟨sl, od, _, J, _⟩ := SlX.slt_inst I e2
      exact ⟨_, OwX.kitx_slt hcl.ic (hcl.get _) ca cn ct cm, J, fun z => nomatch z⟩
    · rw [if_neg z] at e1 hcl
      obtain ⟨mA, O, _⟩ := ins_get I.hok e1
      obtain ⟨od, J, _⟩ := O.look
      exact ⟨_, PySem.W.kitx_own (hcl.get _) hcl.hd ca cn ct cm, J, fun z => nomatch z⟩
  | cls c => cases ht
  | exc c l => cases ht
  | scr l => cases ht
def rIs (g : G) (P : Pt) (ty : Sls) (W : WX) (ts : List Ty) (cv : V → Hp → Prop) : List V → Hp → VK → Prop := fun xs H Q => ∃ σ e F fp d v w, xs = [v, w] ∧ cv w H ∧ Ns g ty σ H F e fp ∧ Den g H d v ∧ Post g ty .F true (if tagged P d then .ok (.bl (ts.any fun t => tyIs P t d)) e else .stk) σ H F fp W Q
theorem cr_is1 {t : Ty} (hK : X.K = g.K) (hi : ∀ c, (P.cls c).is = true → IsF g c) (hk : ∀ d, tagged P d = true → PySem.W.kitOne X.K (tagV g d) (tyV g t) = some (tyIs P t d)) : CallR X (.builtin "isinstance") (rIs g P ty W [t] fun w _ => w = tyC g t) := by
  intro pins s σ0 H xs us Q I r ⟨σ, e, F, fp, d, v, w, ex, hw, N, hd, h⟩
  subst ex hw
  obtain ⟨u1, u2, rfl, r1, r2⟩ := vals2 r
  have e2 := tyC_one r2
  subst e2
  by_cases z : tagged P d = true
  · have h : Post g ty .F true (.ok (.bl (tyIs P t d)) e) σ H F fp W Q := by simpa only [if_pos z, List.any_cons, List.any_nil, Bool.or_false] using h
    obtain ⟨R, Z, q, hx⟩ := kitD I hK hd r1 z hi
    exact PySem.W.kia_one Z I.kIn q (hk d z) hx fun tk => ⟨.bl (tyIs P t d), H, I.tok tk, rfl, Post.fin h N rfl⟩
  · have h : Post g ty .F true .stk σ H F fp W Q := by simpa only [if_neg z] using h
    exact h.elim
theorem vals_ty : ∀ {ts : List Ty} {us : List Value}, Vals (ts.map (tyC g)) us → us = ts.map (tyV g)
  | [], _, r => by
    rw [List.map_nil] at r
    cases r
    rfl
  | t :: ts, _, r => by
    rw [List.map_cons] at r
    cases r with
    | cons r1 r2 => rw [tyC_one r1, vals_ty r2]; rfl
theorem cr_isT {ts : List Ty} (hK : X.K = g.K) (hi : ∀ c, (P.cls c).is = true → IsF g c) (hk : ∀ d, tagged P d = true → PySem.W.kitAny X.K (tagV g d) (ts.map (tyV g)) = some (ts.any fun t => tyIs P t d)) :
    CallR X (.builtin "isinstance") (rIs g P ty W ts fun w H => ∃ q, w = .ref q ∧ H q = some (.tup (ts.map (tyC g)))) := by
  intro pins s σ0 H xs us Q I r ⟨σ, e, F, fp, d, v, w, ex, ⟨tp, hw, hT⟩, N, hd, h⟩
  subst ex hw
  obtain ⟨u1, u2, rfl, r1, r2⟩ := vals2 r
  cases (show u2 = Value.ref tp from r2)
  obtain ⟨_, its, rv, o, h1, h2, n, h3⟩ := (show ObjOk X.prog X.w H s.heap tp (.tup (ts.map (tyC g))) from I.hok tp _ hT)
  have e3 := vals_ty rv
  subst e3
  by_cases z : tagged P d = true
  · have h : Post g ty .F true (.ok (.bl (ts.any fun t => tyIs P t d)) e) σ H F fp W Q := by simpa only [if_pos z] using h
    obtain ⟨R, Z, q, hx⟩ := kitD I hK hd r1 z hi
    obtain ⟨oc, od, dt, sl⟩ := o
    simp only at h2 h3
    subst h2 h3
    exact PySem.W.kia_tup Z I.kIn q h1 (hk d z) hx fun tk => ⟨.bl _, H, I.tok tk, rfl, Post.fin h N rfl⟩
  · have h : Post g ty .F true .stk σ H F fp W Q := by simpa only [if_neg z] using h
    exact h.elim
theorem s_isi1 {t : Ty} (hK : X.K = g.K) (hi : ∀ c, (P.cls c).is = true → IsF g c) (hk : ∀ d, tagged P d = true → PySem.W.kitOne X.K (tagV g d) (tyV g t) = some (tyIs P t d)) (hg : Gl X "isinstance") (hm : X.mg "isinstance" = none)
    (ha : PE X xa (tE g φ P ty W ka a)) (hc : PE X xc (tC (tyC g t))) (hs : notStar xa = true) (hs2 : notStar xc = true) : PE X (.Call (.Name "isinstance" p2) [xa, xc] [] pos) (tE g φ P ty W .F (.isi a [t])) := by
  refine PE.imp (pe_callB (cr_is1 (ty := ty) (W := W) hK hi hk) hg hm (by decide +kernel) (pa_cons ha (pa_cons hc pa_nil (star_cons hs2)) (star_cons hs)) (he := star_cons hs) (hpl := star_any (by simp [hs2]))) fun σ H Q ⟨e, F, fp, N, h⟩ => ⟨e, F, fp, N, ?_⟩
  rw [ev, pureE] at h
  exact Post.bind h (fun z => z) fun d e1 v H1 F1 fp1 _ h1 t1 n1 r1 => ⟨σ, e1, F1, fp1, d, v, _, rfl, rfl, n1, r1.view n1.sub, Post.shift (pa := pureE a) (by rw [Bool.and_true]; exact h1) t1⟩
/-- the classes of a tuple -/
inductive TyEs (X : Cx) (g : G) : List Expr → List Ty → Prop where
  | nil : TyEs X g [] []
  | cons {x : Expr} {xs : List Expr} {t : Ty} {ts : List Ty} (h : PE X x (tC (tyC g t))) (s : notStar x = true) (r : TyEs X g xs ts) : TyEs X g (x :: xs) (t :: ts)
theorem TyEs.row {xs : List Expr} {ts : List Ty} (h : TyEs X g xs ts) : PA X xs fun _ H Q => Q (ts.map (tyC g)) H := by
  induction h with
  | nil => exact pa_nil
  | cons h s r ih => exact PA.imp (pa_cons h ih (star_cons s)) fun σ H Q q => q
theorem s_isiT {ts : List Ty} {xs : List Expr} {k : Nat} {p3 : Pos} (hK : X.K = g.K) (hi : ∀ c, (P.cls c).is = true → IsF g c) (hk : ∀ d, tagged P d = true → PySem.W.kitAny X.K (tagV g d) (ts.map (tyV g)) = some (ts.any fun t => tyIs P t d)) (hg : Gl X "isinstance") (hm : X.mg "isinstance" = none)
    (ha : PE X xa (tE g φ P ty W ka a)) (hc : TyEs X g xs ts) (hl : ts.length ≤ sizeLine) (hs : notStar xa = true) : PE X (.Call (.Name "isinstance" p2) [xa, .Tuple xs k p3] [] pos) (tE g φ P ty W .F (.isi a ts)) := by
  refine PE.imp (pe_callB (cr_isT (ty := ty) (W := W) hK hi hk) hg hm (by decide +kernel) (pa_cons ha (pa_cons (pe_tup hc.row) pa_nil rfl) (star_cons hs)) (he := star_cons hs) (hpl := rfl)) fun σ H Q ⟨e, F, fp, N, h⟩ => ⟨e, F, fp, N, ?_⟩
  rw [ev, pureE] at h
  refine Post.bind h (fun z => z) fun d e1 v H1 F1 fp1 _ h1 t1 n1 r1 => ⟨by rw [List.length_map]; exact hl, fun q hq => ?_⟩
  have h2 : Post g ty .F true (if tagged P d then .ok (.bl (ts.any fun t => tyIs P t d)) e1 else .stk) σ H1 F1 fp1 W Q := Post.shift (pa := pureE a) (by rw [Bool.and_true]; exact h1) t1
  exact ⟨σ, e1, F1, fp1, d, v, _, rfl, ⟨q, rfl, upd_same⟩, n1.lay hq, Den.mono (sub_upd hq) (r1.view n1.sub), Post.shift (pa := true) h2 (Tr.lay hq)⟩
/-! ### negation -/
def UnS (X : Cx) (f : Value → Sem Value) (r : L2.St → V → Hp → VK → Prop) : Prop :=
  ∀ (pins : List (Addr × Obj)) (s : Shared) (σ : L2.St) (H : Hp) (x : V) (v : Value) (Q : VK), Inv X pins σ H s → RelV x v → r σ x H Q → wpAny (model X.prog X.w) X.A (f v) (EP X pins σ Q) X.xe s
/-- an instance's own operation without arguments -/
def rOneI (g : G) (φ : Phi) (P : Pt) (ty : Sls) (W : WX) (n : Dn) : L2.St → V → Hp → VK → Prop := fun σ x H Q =>
  ∃ e F fp c l f, (P.cls c).dn n = some f ∧ Ns g ty σ H F e fp ∧ Den g F (.ins c l) x ∧ Post g ty .F true ((φ f [.ins c l]).val.re e) σ H F fp W Q
theorem s_neg (ha : PE X xa (tE g φ P ty W .F a)) (hI : UnS X (unaryOp .USub) (rOneI g φ P ty W .neg)) : PE X (.UnaryOp .USub xa pos) (tE g φ P ty W .F (.neg a)) := by
  refine ⟨fun pins s σ H Q I ⟨e, F, fp, N, h⟩ => ?_⟩
  rw [ev, pureE] at h
  refine UnaryOp_ (thn (ha.run pins s σ H (fun x H1 => (∃ i, x = .int i ∧ Q (.int (-i)) H1) ∨ rOneI g φ P ty W .neg σ x H1 Q) I ⟨e, F, fp, N, ?_⟩) fun v s1 ⟨x, H1, I1, r1, q1⟩ => ?_)
  · refine Post.bind h (fun z => z) fun d e1 v H1 F1 fp1 _ h1 t1 n1 r1 => ?_
    have h1 := Post.shift (pa := pureE a) (pb := true) (by rw [Bool.and_true]; exact h1) t1
    cases d with
    | int i => exact .inl ⟨i, r1, Post.fin h1 n1 rfl⟩
    | ins c l =>
      cases hd : (P.cls c).dn .neg with
      | none =>
        have h1 : Post g ty .F true .stk σ H1 F1 fp1 W Q := by simpa only [hd] using h1
        exact h1.elim
      | some f =>
        have h1 : Post g ty .F true ((φ f [.ins c l]).val.re e1) σ H1 F1 fp1 W Q := by simpa only [hd] using h1
        exact .inr ⟨e1, F1, fp1, c, l, f, hd, n1, r1, h1⟩
    | _ => exact h1.elim
  · rcases q1 with ⟨i, ei, q⟩ | q
    · exact un_neg pins s1 σ H1 x v Q I1 r1 ⟨i, ei, q⟩
    · exact hI pins s1 σ H1 x v Q I1 r1 q
/-! ### two of them -/
def rB2 (g : G) (ty : Sls) (W : WX) (bi : BI) : List V → Hp → VK → Prop := fun xs H Q => ∃ σ e F fp ds, Ns g ty σ H F e fp ∧ DenL g F ds xs ∧ Post g ty .F true ((opBi bi ds).re e) σ H F fp W Q
theorem two_of {bi : BI} {ds : List D} {xs : List V} (h2 : bi = .max2 ∨ bi = .min2) (N : Ns g ty σ H F e fp) (hd : DenL g F ds xs) (h : Post g ty .F true ((opBi bi ds).re e) σ H F fp W Q) : ∃ i j k, xs = [.int i, .int j] ∧ opBi bi [.int i, .int j] = .ok (.int k) ∧ Q (.int k) H := by
  have st : ∀ r : RV, r = .stk → ¬ Post g ty .F true (r.re e) σ H F fp W Q := fun r hr hq => by subst hr; exact hq
  have e1 : ∃ i j, ds = [.int i, .int j] := by
    rcases h2 with z | z <;> subst z <;> (
      match ds, h with
      | [], h => exact h.elim
      | [x], h => cases x <;> exact h.elim
      | [x, y], h => cases x <;> first | exact h.elim | (cases y <;> first | exact h.elim | exact ⟨_, _, rfl⟩)
      | x :: y :: z :: r, h => cases x <;> first | exact h.elim | (cases y <;> exact h.elim))
  obtain ⟨i, j, e1⟩ := e1
  subst e1
  obtain ⟨x, r, ex, h3, y, r2, ey, h4, e5⟩ := hd
  subst ex ey e5
  have h3 : x = .int i := h3
  have h4 : y = .int j := h4
  subst h3 h4
  rcases h2 with z | z <;> subst z
  · exact ⟨i, j, _, rfl, rfl, Post.fin (h := show Post g ty .F true (.ok (.int (if j > i then j else i)) e) σ H F fp W Q from h) N rfl⟩
  · exact ⟨i, j, _, rfl, rfl, Post.fin (h := show Post g ty .F true (.ok (.int (if j < i then j else i)) e) σ H F fp W Q from h) N rfl⟩
theorem cr_b2 {bi : BI} (h2 : bi = .max2 ∨ bi = .min2) (hc : X.calm = true) : CallR X (blV bi) (rB2 g ty W bi) := by
  intro pins s σ0 H xs us Q I r ⟨σ, e, F, fp, ds, N, hd, h⟩
  obtain ⟨i, j, k, e1, e2, q⟩ := two_of h2 N hd h
  rcases h2 with z | z <;> subst z <;> cases e2
  · exact call_max2 hc pins s σ0 H xs us Q I r ⟨i, j, e1, q⟩
  · exact call_min2 hc pins s σ0 H xs us Q I r ⟨i, j, e1, q⟩
theorem s_bi2 {bi : BI} (h2 : bi = .max2 ∨ bi = .min2) (hc : X.calm = true) (hg : Gl X (blN bi)) (hm : X.mg (blN bi) = none) (ha : PA X (xa :: es) (tEs g φ P ty W l)) (hs : (xa :: es).all notStar = true) :
    PE X (.Call (.Name (blN bi) p2) (xa :: es) [] pos) (tE g φ P ty W .F (.bi bi l)) := by
  obtain ⟨h3, h4⟩ := Bool.and_eq_true_iff.mp (show (notStar xa && es.all notStar) = true from hs)
  refine PE.imp (blt_call (cr_b2 (g := g) (ty := ty) (W := W) h2 hc) hg hm ha (star_cons h3) h4) fun σ H Q ⟨e, F, fp, N, h⟩ => ⟨e, F, fp, N, ?_⟩
  rw [ev, pureE] at h
  exact Post.bindL h (fun z => z) fun ds e1 vs H1 F1 fp1 _ h1 t1 n1 r1 => ⟨σ, e1, F1, fp1, ds, n1, r1, Post.shift (pa := pureEs l) (by rw [Bool.and_true]; exact h1) t1⟩
/-! ### lists of ranges -/
theorem rg_den {i j : Int} : DenL g F (rgL i j) (rgV i j) := by
  unfold rgL rgV
  generalize List.range (j - i).toNat = r
  induction r with
  | nil => rfl
  | cons n r ih => exact ⟨_, _, rfl, rfl, ih⟩
theorem rgOk_P {i j : Int} (h : rgOk i j = true) : -(2 ^ 62) ≤ i ∧ i < 2 ^ 62 ∧ -(2 ^ 62) ≤ j ∧ j < 2 ^ 62 := by
  unfold rgOk at h
  obtain ⟨h1, h4⟩ := Bool.and_eq_true_iff.mp h
  obtain ⟨h1, h3⟩ := Bool.and_eq_true_iff.mp h1
  obtain ⟨h1, h2⟩ := Bool.and_eq_true_iff.mp h1
  exact ⟨of_decide_eq_true h1, of_decide_eq_true h2, of_decide_eq_true h3, of_decide_eq_true h4⟩
theorem s_lrng1 {p3 : Pos} (hc : X.calm = true) (hg : Gl X "list") (hm : X.mg "list" = none) (hg2 : Gl X "range") (hm2 : X.mg "range" = none) (ha : PE X xa (tE g φ P ty W .F a)) (hs : notStar xa = true) :
    PE X (.Call (.Name "list" p2) [.Call (.Name "range" p3) [xa] [] apos] [] pos) (tE g φ P ty W (.own 1) (.bi .lrng1 (.cons a .nil))) := by
  refine PE.imp (pe_listRg hc hg hm (prg_1 hg2 hm2 ha (star_cons hs))) fun σ H Q ⟨e, F, fp, N, h⟩ => ⟨e, F, fp, N, ?_⟩
  rw [ev, pureE, evs, pureEs, pureEs, Bool.and_true] at h
  cases hr : ev φ P a e with
  | stk => rw [hr] at h; exact h.elim
  | err y e1 => rw [hr] at h; exact h
  | ok d e1 =>
    rw [hr] at h
    have h : Post g ty (.own 1) (pureE a) ((opBi .lrng1 [d]).re e1) σ H F fp W Q := by simpa only [RE.bind, evs] using h
    intro v H1 F1 fp1 t n r
    cases d with
    | int j =>
      by_cases z : (rgOk 0 j && decide (j ≤ 16777216)) = true
      · have h : Post g ty (.own 1) (pureE a) (.ok (.lst (rgL 0 j)) e1) σ H F fp W Q := by simpa only [opBi, if_pos z, RV.re] using h
        obtain ⟨z1, z2⟩ := Bool.and_eq_true_iff.mp z
        obtain ⟨k1, k2, k3, k4⟩ := rgOk_P z1
        have k5 := of_decide_eq_true z2
        exact ⟨j, r, ⟨k1, k2, k3, k4, by omega⟩, fun q hq => Post.finO (Post.shift (pa := pureE a) (pb := true) (by rw [Bool.and_true]; exact h) t) n hq rg_den⟩
      · have h : Post g ty (.own 1) (pureE a) .stk σ H F fp W Q := by simpa only [opBi, if_neg z, RV.re] using h
        exact h.elim
    | _ => exact h.elim
end
end Ev
set_option Elab.async false
set_option linter.all false
set_option maxRecDepth 100000
set_option maxHeartbeats 1000000
/-! Ev12: statements: what is wanted, stores, sequence, if, while, return -/
namespace Ev
open PySem L2 PySem.Spec PyProof.Rows

section
variable (g : G) (φ : Phi) (P : Pt) (ty : Sls) (W : WX) (rk : Kd)
/-- what is wanted behind a statement -/
def PoS (r : O) (σ : L2.St) (H F : Hp) (fp : Fps) (D : Ends) : Prop := match r with
  | .nx e => ∀ σ1 H1 F1 fp1, Tr false H F fp H1 F1 fp1 → Ns g ty σ1 H1 F1 e fp1 → D.nx σ1 H1
  | .bk e => ∀ σ1 H1 F1 fp1, Tr false H F fp H1 F1 fp1 → Ns g ty σ1 H1 F1 e fp1 → D.bk σ1 H1
  | .ct e => ∀ σ1 H1 F1 fp1, Tr false H F fp H1 F1 fp1 → Ns g ty σ1 H1 F1 e fp1 → D.ct σ1 H1
  | .ret d e => ∀ v σ1 H1 F1 fp1, Tr false H F fp H1 F1 fp1 → Ns g ty σ1 H1 F1 e fp1 → Res g H fp H1 F1 fp1 rk d v → D.rt v H1
  | .err x e => ∀ c dd σ1 H1 F1 fp1, Tr false H F fp H1 F1 fp1 → Ns g ty σ1 H1 F1 e fp1 → XcAt g F1 x c dd → W c dd σ1 H1
  | .stk => False
def tS (s : S) : TS := fun D σ H => ∃ e F fp, Ns g ty σ H F e fp ∧ PoS g ty W rk (evS φ P s e) σ H F fp D
def tSs (s : Ss) : TS := fun D σ H => ∃ e F fp, Ns g ty σ H F e fp ∧ PoS g ty W rk (evSs φ P s e) σ H F fp D
end
section
variable {g : G} {φ : Phi} {P : Pt} {ty : Sls} {W : WX} {rk : Kd} {X : Cx} {kd ka kb : Kd} {a b c : E} {xa xb xc : Expr} {pos p2 apos : Pos} {l : Es} {es : List Expr}
variable {σ σ1 : L2.St} {H F H1 F1 H0 F0 : Hp} {e : Nv} {fp fp1 fp0 : Fps} {p pa pb : Bool} {Q : VK} {Z : Ends}
theorem Res.shift {d : D} {v : V} (r : Res g H1 fp1 H0 F0 fp0 kd d v) (t : Tr p H F fp H1 F1 fp1) : Res g H fp H0 F0 fp0 kd d v := by
  cases kd with
  | F => exact r
  | bor k => exact r
  | own k =>
    obtain ⟨f, h1, h2, h3⟩ := r
    exact ⟨f, h1, h2, fun a ha => ⟨(h3 a ha).1, (h3 a ha).2.1, t.back (h3 a ha).2.2⟩⟩
theorem PoS.shift {r : O} (h : PoS g ty W rk r σ H F fp Z) (t : Tr p H F fp H1 F1 fp1) : PoS g ty W rk r σ1 H1 F1 fp1 Z := by
  have t := t.weak (q := false) fun z => by cases z
  cases r with
  | nx e => exact fun σ2 H2 F2 fp2 t2 n2 => h σ2 H2 F2 fp2 (t.trans t2) n2
  | bk e => exact fun σ2 H2 F2 fp2 t2 n2 => h σ2 H2 F2 fp2 (t.trans t2) n2
  | ct e => exact fun σ2 H2 F2 fp2 t2 n2 => h σ2 H2 F2 fp2 (t.trans t2) n2
  | ret d e => exact fun v σ2 H2 F2 fp2 t2 n2 r2 => h v σ2 H2 F2 fp2 (t.trans t2) n2 (Res.shift r2 t)
  | err x e => exact fun c dd σ2 H2 F2 fp2 t2 n2 x2 => h c dd σ2 H2 F2 fp2 (t.trans t2) n2 x2
  | stk => exact h
/-- an expression, then what becomes of it -/
theorem PoS.bind {r : RE D} {k : D → Nv → O} {Q' : VK} (h : PoS g ty W rk (r.o k) σ H F fp Z)
    (w : ∀ d e1 v H1 F1 fp1, r = .ok d e1 → PoS g ty W rk (k d e1) σ H1 F1 fp1 Z → Tr pa H F fp H1 F1 fp1 → Ns g ty σ H1 F1 e1 fp1 → Res g H fp H1 F1 fp1 ka d v → Q' v H1) : Post g ty ka pa r σ H F fp W Q' := by
  cases r with
  | stk => exact h
  | err x e => exact fun c dd H2 F2 fp2 t2 n2 x2 => h c dd σ H2 F2 fp2 (t2.weak fun z => by cases z) n2 x2
  | ok d e => exact fun v H2 F2 fp2 t2 n2 r2 => w d e v H2 F2 fp2 rfl (PoS.shift h t2) t2 n2 r2
theorem PoS.bindL {r : RE (List D)} {k : List D → Nv → O} {Q' : List V → Hp → Prop} (h : PoS g ty W rk (r.o k) σ H F fp Z)
    (w : ∀ d e1 v H1 F1 fp1, r = .ok d e1 → PoS g ty W rk (k d e1) σ H1 F1 fp1 Z → Tr pa H F fp H1 F1 fp1 → Ns g ty σ H1 F1 e1 fp1 → DenL g F1 d v → Q' v H1) : PostL g ty pa r σ H F fp W Q' := by
  cases r with
  | stk => exact h
  | err x e => exact fun c dd H2 F2 fp2 t2 n2 x2 => h c dd σ H2 F2 fp2 (t2.weak fun z => by cases z) n2 x2
  | ok d e => exact fun v H2 F2 fp2 t2 n2 r2 => w d e v H2 F2 fp2 rfl (PoS.shift h t2) t2 n2 r2
theorem PoS.nx (h : PoS g ty W rk (.nx e) σ H F fp Z) (N : Ns g ty σ1 H F e fp) : Z.nx σ1 H := h σ1 H F fp (Tr.refl _) N

/-! ### stores -/
/-- the slots of the name's place: these and no others -/
structure NmOk (ty : Sls) (n : Nm) (q k : Nat) : Prop where
  at_ : ty.l[n.1]? = some (q, k)
  all : ∀ i q' k', ty.l[i]? = some (q', k') → q' = q → i = n.1 ∨ i ∈ n.2
  out : n.1 ∉ n.2
  pn : ∀ x ∈ ty.pin, x.1 ≠ q
def fpN (fp : Fps) (n : Nm) (f : List Addr) : Fps := fun i => if i = n.1 then f else if i ∈ n.2 then [] else fp i
theorem fpN_same {n : Nm} {f : List Addr} : fpN fp n f n.1 = f := if_pos rfl
theorem fpN_kill {n : Nm} {f : List Addr} {i : Nat} (h : i ≠ n.1) (k : i ∈ n.2) : fpN fp n f i = [] := by
  unfold fpN
  rw [if_neg h, if_pos k]
theorem fpN_else {n : Nm} {f : List Addr} {i : Nat} (h : i ≠ n.1) (k : i ∉ n.2) : fpN fp n f i = fp i := by
  unfold fpN
  rw [if_neg h, if_neg k]
theorem fpN_in {n : Nm} {f : List Addr} {i : Nat} {x : Addr} (h : x ∈ fpN fp n f i) : x ∈ f ∨ x ∈ fp i := by
  by_cases h1 : i = n.1
  · subst h1
    rw [fpN_same] at h
    exact .inl h
  · by_cases h2 : i ∈ n.2
    · rw [fpN_kill h1 h2] at h
      cases h
    · rw [fpN_else h1 h2] at h
      exact .inr h
theorem gt_kill : ∀ {ks : List Nat} {e : Nv} {i : Nat}, i ∉ ks → gt (kill ks e) i = gt e i
  | [], e, i, _ => rfl
  | j :: ks, e, i, h => by
    have h1 : i ≠ j := fun z => h (by rw [z]; exact List.mem_cons_self)
    have h2 : i ∉ ks := fun z => h (List.mem_cons_of_mem _ z)
    show gt (kill ks (st e j none)) i = gt e i
    rw [gt_kill h2, gt_st_ne h1]
theorem kill_len : ∀ {ks : List Nat} {e : Nv}, (kill ks e).length = e.length
  | [], e => rfl
  | j :: ks, e => by
    show (kill ks (st e j none)).length = e.length
    rw [kill_len, st_len]
theorem gt_kill_in : ∀ {ks : List Nat} {e : Nv} {i : Nat} {d : D}, i ∈ ks → gt (kill ks e) i = some d → False
  | j :: ks, e, i, d, h, k => by
    by_cases h2 : i ∈ ks
    · exact gt_kill_in (ks := ks) (e := st e j none) h2 k
    · have e1 : i = j := by
        rcases List.mem_cons.mp h with z | z
        · exact z
        · exact absurd z h2
      subst e1
      have k : gt (kill ks (st e i none)) i = some d := k
      rw [gt_kill h2] at k
      rcases gt_st_some k with ⟨_, z⟩ | ⟨z, _⟩
      · cases z
      · exact z rfl
theorem Ns.store (N : Ns g ty σ H F e fp) {n : Nm} {q k : Nat} {d : D} {v : V} {f : List Addr} (ok : NmOk ty n q k) (ho : Own g H F k d v f) (nd : f.Nodup) (fr : ∀ a ∈ f, F a = none ∧ ∀ j, a ∉ fp j) : Ns g ty (σ.set q (some v)) H F (stN n d e) (fpN fp n f) := by
  have gs : ∀ i d', gt (stN n d e) i = some d' → (i = n.1 ∧ d' = d) ∨ (i ≠ n.1 ∧ i ∉ n.2 ∧ gt e i = some d') := fun i d' h => by
    rcases gt_st_some h with ⟨h1, h2⟩ | ⟨h1, h2⟩
    · exact .inl ⟨h1, by cases h2; rfl⟩
    · refine .inr ⟨h1, fun z => gt_kill_in z h2, ?_⟩
      rw [gt_kill fun z => gt_kill_in z h2] at h2
      exact h2
  refine ⟨N.sub, fun i d' h => ?_, fun i h => ?_, fun i a ha => ?_, fun i => ?_, fun i j hne a ha hb => ?_, fun j q' k' h => by rw [List.length_set]; exact N.len j q' k' h, by unfold stN; rw [st_len, kill_len]; exact N.el, fun x hx => by rw [List.getElem?_set_ne (Ne.symm (ok.pn x hx))]; exact N.pn x hx, N.fz⟩
  · rcases gs i d' h with ⟨h1, h2⟩ | ⟨h1, h2, h3⟩
    · subst h1 h2
      refine ⟨q, k, v, ok.at_, ?_, by rw [fpN_same]; exact ho⟩
      rw [List.getElem?_set_self (N.len _ _ _ ok.at_)]
    · obtain ⟨q', k', v', h4, h5, h6⟩ := N.val i d' h3
      refine ⟨q', k', v', h4, ?_, by rw [fpN_else h1 h2]; exact h6⟩
      rw [List.getElem?_set_ne fun z => ?_]
      · exact h5
      · rcases ok.all i q' k' h4 z.symm with z | z
        · exact h1 z
        · exact h2 z
  · by_cases h1 : i = n.1
    · subst h1
      have hl : (kill n.2 e).length = e.length := kill_len
      have h2 : n.1 < e.length := by
        rw [N.el]
        exact (List.getElem?_eq_some_iff.mp ok.at_).1
      have h3 : gt (stN n d e) n.1 = some d := gt_st_same (by rw [hl]; exact h2)
      rw [h3] at h
      cases h
    · by_cases h2 : i ∈ n.2
      · exact fpN_kill h1 h2
      · rw [fpN_else h1 h2]
        have h3 : gt (st (kill n.2 e) n.1 (some d)) i = none := h
        rw [gt_st_ne h1, gt_kill h2] at h3
        exact N.nil i h3
  · rcases fpN_in ha with h | h
    · exact (fr a h).1
    · exact N.fr i a h
  · by_cases h1 : i = n.1
    · subst h1; rw [fpN_same]; exact nd
    · by_cases h2 : i ∈ n.2
      · rw [fpN_kill h1 h2]; exact List.nodup_nil
      · rw [fpN_else h1 h2]; exact N.nd i
  · by_cases h1 : i = n.1
    · subst h1
      rw [fpN_same] at ha
      have h2 : j ≠ n.1 := Ne.symm hne
      by_cases h3 : j ∈ n.2
      · rw [fpN_kill h2 h3] at hb; cases hb
      · rw [fpN_else h2 h3] at hb
        exact (fr a ha).2 j hb
    · by_cases h2 : i ∈ n.2
      · rw [fpN_kill h1 h2] at ha; cases ha
      · rw [fpN_else h1 h2] at ha
        by_cases h3 : j = n.1
        · subst h3
          rw [fpN_same] at hb
          exact (fr a hb).2 i ha
        · by_cases h4 : j ∈ n.2
          · rw [fpN_kill h3 h4] at hb; cases hb
          · rw [fpN_else h3 h4] at hb
            exact N.dj i j hne a ha hb
/-! ### rows of statements -/
theorem ss_nil : PSs X [] (tSs g φ P ty W rk .nil) := ⟨fun pins s σ H Z I ⟨e, F, fp, N, h⟩ => pss_nil.run pins s σ H Z I (by rw [evSs] at h; exact PoS.nx h N)⟩
theorem ss_cons {xs : Stmt} {xr : List Stmt} {s : S} {r : Ss} (h1 : PS X xs (tS g φ P ty W rk s)) (h2 : PSs X xr (tSs g φ P ty W rk r)) : PSs X (xs :: xr) (tSs g φ P ty W rk (.cons s r)) := by
  refine PSs.imp (pss_cons h1 h2) fun Z σ H ⟨e, F, fp, N, h⟩ => ⟨e, F, fp, N, ?_⟩
  rw [evSs] at h
  cases hr : evS φ P s e with
  | nx e1 =>
    rw [hr] at h
    exact fun σ1 H1 F1 fp1 t n => ⟨e1, F1, fp1, n, PoS.shift h t⟩
  | bk e1 => rw [hr] at h; exact h
  | ct e1 => rw [hr] at h; exact h
  | ret d e1 => rw [hr] at h; exact h
  | err x e1 => rw [hr] at h; exact h
  | stk => rw [hr] at h; exact h
/-- a row that leaves no way on, and what follows it -/
theorem s_pass : PS X (.Pass pos) (tS g φ P ty W rk .pass) := ⟨fun pins s σ H Z I ⟨e, F, fp, N, h⟩ => ps_pass.run pins s σ H Z I (by rw [evS] at h; exact PoS.nx h N)⟩
theorem s_doc {x j pos pos'} : PS X (.Expr (.Constant (.str x) j pos) pos') (tS g φ P ty W rk .pass) := ⟨fun pins s σ H Z I ⟨e, F, fp, N, h⟩ => ps_doc.run pins s σ H Z I (by rw [evS] at h; exact PoS.nx h N)⟩
theorem s_brk : PS X (.Break pos) (tS g φ P ty W rk .brk) := ⟨fun pins s σ H Z I ⟨e, F, fp, N, h⟩ => ps_break.run pins s σ H Z I (by rw [evS] at h; exact h σ H F fp (Tr.refl _) N)⟩
theorem s_cnt : PS X (.Continue pos) (tS g φ P ty W rk .cnt) := ⟨fun pins s σ H Z I ⟨e, F, fp, N, h⟩ => ps_continue.run pins s σ H Z I (by rw [evS] at h; exact h σ H F fp (Tr.refl _) N)⟩
def noComp : Expr → Bool
  | .ListComp _ _ _ _ => false
  | .SetComp _ _ _ _ => false
  | .DictComp _ _ _ _ _ => false
  | _ => true
theorem swaps_no {x : Expr} {t : Option Expr} {n : Nat} {env : Env} (h : noComp x = true) : swapsWith x t n env = pure false := by
  cases x <;> first | rfl | cases h
theorem s_expr (ha : PE X xa (tE g φ P ty W kd a)) (hc : noComp xa = true) : PS X (.Expr xa pos) (tS g φ P ty W rk (.expr a)) := by
  refine PS.imp (ps_expr ha (swaps_no hc)) fun Z σ H ⟨e, F, fp, N, h⟩ => ⟨e, F, fp, N, ?_⟩
  rw [evS] at h
  exact PoS.bind h fun d e1 v H1 F1 fp1 _ h1 t1 n1 r1 => PoS.nx h1 n1
theorem s_ret (ha : PE X xa (tE g φ P ty W rk a)) : PS X (.Return (some xa) pos) (tS g φ P ty W rk (.ret a)) := by
  refine PS.imp (ps_ret ha) fun Z σ H ⟨e, F, fp, N, h⟩ => ⟨e, F, fp, N, ?_⟩
  rw [evS] at h
  cases hr : ev φ P a e with
  | stk => rw [hr] at h; exact h.elim
  | err x e1 => rw [hr] at h; exact fun c dd H2 F2 fp2 t2 n2 x2 => h c dd σ H2 F2 fp2 (t2.weak fun z => by cases z) n2 x2
  | ok d e1 => rw [hr] at h; exact fun v H2 F2 fp2 t2 n2 r2 => h v σ H2 F2 fp2 (t2.weak fun z => by cases z) n2 r2
theorem s_retN (hk : rk = .F) : PS X (.Return none pos) (tS g φ P ty W rk .retN) := ⟨fun pins s σ H Z I ⟨e, F, fp, N, h⟩ => ps_retN.run pins s σ H Z I (by
  rw [evS] at h
  subst hk
  exact h .non σ H F fp (Tr.refl _) N rfl)⟩
theorem s_iff {xt xe : List Stmt} {t u : Ss} (hc : PT X xc (tT g φ P ty W c)) (ha : PSs X xt (tSs g φ P ty W rk t)) (hb : PSs X xe (tSs g φ P ty W rk u)) : PS X (.If xc xt xe pos) (tS g φ P ty W rk (.iff c t u)) := by
  refine PS.imp (ps_if hc ha hb) fun Z σ H ⟨e, F, fp, N, h⟩ => ⟨e, F, fp, N, ?_⟩
  rw [evS] at h
  cases hr : ev φ P c e with
  | stk => rw [hr] at h; exact h.elim
  | err x e1 => rw [hr] at h; exact fun c dd H2 F2 fp2 t2 n2 x2 => h c dd σ H2 F2 fp2 (t2.weak fun z => by cases z) n2 x2
  | ok d e1 =>
    rw [hr] at h
    cases hd : tru d with
    | none =>
      have h : PoS g ty W rk .stk σ H F fp Z := by simpa only [RE.o, hd] using h
      exact h.elim
    | some b =>
      refine ⟨b, hd, fun H1 F1 fp1 t1 n1 => ?_⟩
      cases b with
      | true =>
        have h : PoS g ty W rk (evSs φ P t e1) σ H F fp Z := by simpa only [RE.o, hd] using h
        exact ⟨e1, F1, fp1, n1, PoS.shift h t1⟩
      | false =>
        have h : PoS g ty W rk (evSs φ P u e1) σ H F fp Z := by simpa only [RE.o, hd] using h
        exact ⟨e1, F1, fp1, n1, PoS.shift h t1⟩
/-! ### stores into names -/
def kOf : Nat → Kd
  | 0 => .F
  | k + 1 => .own (k + 1)
theorem Res.own {k : Nat} {d : D} {v : V} (N : Ns g ty σ H F e fp) (t : Tr p H0 F0 fp0 H F fp) (r : Res g H0 fp0 H F fp (kOf k) d v) : ∃ f, Own g H F k d v f ∧ f.Nodup ∧ (∀ a ∈ f, F a = none ∧ ∀ j, a ∉ fp j) ∧ ∀ a ∈ f, (∃ i, a ∈ fp0 i) ∨ H0 a = none := by
  cases k with
  | zero => exact ⟨[], ⟨r, rfl⟩, List.nodup_nil, fun a ha => (by cases ha), fun a ha => by cases ha⟩
  | succ k =>
    obtain ⟨f, h1, h2, h3⟩ := r
    exact ⟨f, h1, h2, fun a ha => ⟨(h3 a ha).1, (h3 a ha).2.1⟩, fun a ha => (h3 a ha).2.2⟩
theorem Tr.store (t : Tr p H0 F0 fp0 H F fp) {n : Nm} {f : List Addr} (h : ∀ a ∈ f, (∃ i, a ∈ fp0 i) ∨ H0 a = none) : Tr false H0 F0 fp0 H F (fpN fp n f) :=
  have t' := t.weak (q := false) fun z => by cases z
  ⟨t'.sub, t'.keep, t'.nofr, fun j a ha => by
    rcases fpN_in ha with z | z
    · exact h a z
    · exact t'.new j a z, fun z => by cases z⟩
/-- name = value -/
theorem s_set {q k : Nat} {n : Nm} {x : Str} {p' : Pos} (ha : PE X xa (tE g φ P ty W (kOf k) a)) (ok : NmOk ty n q k) (hN : X.N.Nodup) (hi : X.N[q]? = some x) (hx : Loc X.env.scope x) (hf : X.fn x = true ∨ X.env.scope.names.lookup x = some .local) (hc : noComp xa = true) :
    PS X (.Assign [.Name x p'] xa pos) (tS g φ P ty W rk (.asg (.name n) a)) := by
  refine PS.imp (ps_set hN hi hx ha (swaps_no hc) hf) fun Z σ H ⟨e, F, fp, N, h⟩ => ⟨e, F, fp, N, ?_⟩
  rw [evS] at h
  cases hr : ev φ P a e with
  | stk => rw [hr] at h; exact h.elim
  | err y e1 => rw [hr] at h; exact fun c dd H2 F2 fp2 t2 n2 x2 => h c dd σ H2 F2 fp2 (t2.weak fun z => by cases z) n2 x2
  | ok d e1 =>
    rw [hr] at h
    have h : PoS g ty W rk (.nx (stN n d e1)) σ H F fp Z := by simpa only [RE.o, stT] using h
    intro v H1 F1 fp1 t1 n1 r1
    obtain ⟨f, h1, h2, h3, h4⟩ := r1.own n1 t1
    exact h _ H1 F1 _ (t1.store h4) (n1.store ok h1 h2 h3)
/-! ### while -/
theorem s_whl {n : Nat} {xb' : List Stmt} {b : Ss} (hp : PassesOwn (model X.prog X.w) X.A X.env X.xe) (hc : PT X xc (tT g φ P ty W c)) (hb : PSs X xb' (tSs g φ P ty W rk b)) : PS X (.While xc xb' [] pos) (tS g φ P ty W rk (.whl n c b)) := by
  refine PS.imp (ps_while hp hc hb) fun Z σ H ⟨e, F, fp, N, h⟩ => ?_
  rw [evS] at h
  refine ⟨fun m σ H => ∃ e F fp, Ns g ty σ H F e fp ∧ PoS g ty W rk (whlRun (ev φ P c) (evSs φ P b) m e) σ H F fp Z, ⟨n, e, F, fp, N, h⟩, fun m σ H ⟨e, F, fp, N, h⟩ => ⟨e, F, fp, N, ?_⟩⟩
  cases m with
  | zero => exact h.elim
  | succ m =>
    rw [whlRun] at h
    cases hr : ev φ P c e with
    | stk => rw [hr] at h; exact h.elim
    | err y e1 => rw [hr] at h; exact fun c dd H2 F2 fp2 t2 n2 x2 => h c dd σ H2 F2 fp2 (t2.weak fun z => by cases z) n2 x2
    | ok d e1 =>
      rw [hr] at h
      cases hd : tru d with
      | none =>
        have h : PoS g ty W rk .stk σ H F fp Z := by simpa only [RE.o, hd] using h
        exact h.elim
      | some v =>
        refine ⟨v, hd, fun H1 F1 fp1 t1 n1 => ?_⟩
        cases v with
        | false =>
          have h : PoS g ty W rk (.nx e1) σ H F fp Z := by simpa only [RE.o, hd] using h
          exact PoS.nx (σ := σ) (PoS.shift h t1) n1
        | true =>
          refine ⟨fun σ H => ∃ e F fp, Ns g ty σ H F e fp ∧ PoS g ty W rk (whlRun (ev φ P c) (evSs φ P b) m e) σ H F fp Z, fun σ' H' w => ⟨m, Nat.lt_succ_self _, w⟩, e1, F1, fp1, n1, ?_⟩
          have h := PoS.shift (σ1 := σ) h t1
          cases hb' : evSs φ P b e1 with
          | stk =>
            have h : PoS g ty W rk .stk σ H1 F1 fp1 Z := by simpa only [RE.o, hd, hb'] using h
            exact h.elim
          | nx e2 =>
            have h : PoS g ty W rk (whlRun (ev φ P c) (evSs φ P b) m e2) σ H1 F1 fp1 Z := by simpa only [RE.o, hd, hb'] using h
            exact fun σ2 H2 F2 fp2 t2 n2 => ⟨e2, F2, fp2, n2, PoS.shift h t2⟩
          | ct e2 =>
            have h : PoS g ty W rk (whlRun (ev φ P c) (evSs φ P b) m e2) σ H1 F1 fp1 Z := by simpa only [RE.o, hd, hb'] using h
            exact fun σ2 H2 F2 fp2 t2 n2 => ⟨e2, F2, fp2, n2, PoS.shift h t2⟩
          | bk e2 =>
            have h : PoS g ty W rk (.nx e2) σ H1 F1 fp1 Z := by simpa only [RE.o, hd, hb'] using h
            exact fun σ2 H2 F2 fp2 t2 n2 => h σ2 H2 F2 fp2 t2 n2
          | ret d2 e2 =>
            have h : PoS g ty W rk (.ret d2 e2) σ H1 F1 fp1 Z := by simpa only [RE.o, hd, hb'] using h
            exact h
          | err y e2 =>
            have h : PoS g ty W rk (.err y e2) σ H1 F1 fp1 Z := by simpa only [RE.o, hd, hb'] using h
            exact h
end
end Ev
set_option Elab.async false
set_option linter.all false
set_option maxRecDepth 100000
set_option maxHeartbeats 1000000
/-! Ev13: targets, what is walked, for -/
namespace Ev
open PySem L2 PySem.Spec PyProof.Rows

/-- J yields ds, in every heap whose frozen part is above F -/
structure ItD (g : G) (J : L2.It) (F : Hp) (ds : List D) : Prop where
  stop : ∀ H, Sub F H → J.stop ds.length H
  go : ∀ i H, Sub F H → i < ds.length → J.go i H
  yld : ∀ (i : Nat) (H F2 : Hp) (x : V) (H' : Hp) (ty : Sls) (σ : L2.St) (e : Nv) (fp : Fps), Sub F F2 → Ns g ty σ H F2 e fp → J.yld i H x H' → i < ds.length →
    ∃ F3 d, Tr true H F2 fp H' F3 fp ∧ Ns g ty σ H' F3 e fp ∧ ds[i]? = some d ∧ Den g F3 d x
section
variable {g : G} {φ : Phi} {P : Pt} {ty : Sls} {W : WX} {rk : Kd} {X : Cx} {kd ka kb : Kd} {a b c : E} {xa xb xc : Expr} {pos p2 apos : Pos} {l : Es} {es : List Expr}
variable {σ σ1 : L2.St} {H F H1 F1 H0 F0 : Hp} {e : Nv} {fp fp1 fp0 : Fps} {p pa pb : Bool} {Q : VK} {Z : Ends}
theorem itd_list {t : Addr} {l : List D} {xs : List V} (h : F t = some (.lst xs)) (hd : DenL g F l xs) : ItD g (Itl g.K t) F l where
  stop := fun H s => ⟨xs, SqL.of (s _ _ h), by rw [hd.length]; exact Nat.le_refl _⟩
  go := fun i H s hi => ⟨xs, xs[i]'(by rw [hd.length]; exact hi), SqL.of (s _ _ h), by simp [hd.length, hi]⟩
  yld := fun i H F2 x H' ty σ e fp s N y hi => by
    obtain ⟨e1, y⟩ := y
    subst e1
    obtain ⟨v, h1, h2⟩ := hd.get (List.getElem?_eq_getElem hi)
    have h3 := y xs (SqL.of (N.sub _ _ (s _ _ h)))
    rw [h1] at h3
    cases h3
    exact ⟨F2, l[i], Tr.refl _, N, List.getElem?_eq_getElem hi, h2.mono s⟩
theorem itd_tup {t : Addr} {l : List D} {xs : List V} (h : SqT g.K F t xs) (hd : DenL g F l xs) : ItD g (Itt g.K t) F l where
  stop := fun H s => ⟨xs, s.sqT h, by rw [hd.length]; exact Nat.le_refl _⟩
  go := fun i H s hi => ⟨xs, xs[i]'(by rw [hd.length]; exact hi), s.sqT h, by simp [hd.length, hi]⟩
  yld := fun i H F2 x H' ty σ e fp s N y hi => by
    obtain ⟨e1, y⟩ := y
    subst e1
    obtain ⟨v, h1, h2⟩ := hd.get (List.getElem?_eq_getElem hi)
    have h3 := y xs (N.sub.sqT (s.sqT h))
    rw [h1] at h3
    cases h3
    exact ⟨F2, l[i], Tr.refl _, N, List.getElem?_eq_getElem hi, h2.mono s⟩
theorem rgL_len {i j : Int} : (rgL i j).length = (j - i).toNat := by unfold rgL; rw [List.length_map, List.length_range]
theorem itd_rng {i j : Int} : ItD g (Itr i (j - i).toNat) F (rgL i j) where
  stop := fun H s => by rw [rgL_len]; exact Nat.le_refl _
  go := fun k H s hi => by rw [rgL_len] at hi; exact hi
  yld := fun k H F2 x H' ty σ e fp s N y hi => by
    obtain ⟨e1, y⟩ := y
    subst e1 y
    refine ⟨F2, .int (i + k), Tr.refl _, N, ?_, rfl⟩
    rw [rgL_len] at hi
    unfold rgL
    rw [List.getElem?_map, List.getElem?_range hi]
    rfl
theorem enumL_len : ∀ (l : List D) (i : Nat), (enumL i l).length = l.length
  | [], _ => rfl
  | d :: l, i => congrArg Nat.succ (enumL_len l (i + 1))
theorem enumL_get : ∀ (l : List D) (i j : Nat), (enumL i l)[j]? = (l[j]?).map fun d => D.tup [.int ((i + j : Nat) : Int), d]
  | [], _, j => by simp [enumL]
  | d :: l, i, 0 => rfl
  | d :: l, i, j + 1 => by
    show (enumL (i + 1) l)[j]? = _
    rw [enumL_get l (i + 1) j]
    have e1 : i + 1 + j = i + (j + 1) := by omega
    rw [e1]
    rfl
theorem itd_enum {t : Addr} {l : List D} {xs : List V} (h : F t = some (.lst xs)) (hd : DenL g F l xs) : ItD g (Ite g.K t) F (enumL 0 l) where
  stop := fun H s => ⟨xs, SqL.of (s _ _ h), by rw [enumL_len, hd.length]; exact Nat.le_refl _⟩
  go := fun i H s hi => ⟨xs, xs[i]'(by rw [enumL_len] at hi; rw [hd.length]; exact hi), SqL.of (s _ _ h), by rw [enumL_len] at hi; simp [hd.length, hi]⟩
  yld := fun i H F2 x H' ty σ e fp s N y hi => by
    rw [enumL_len] at hi
    obtain ⟨T, z, ex, hT, eH, y⟩ := y
    subst ex eH
    obtain ⟨v, h1, h2⟩ := hd.get (List.getElem?_eq_getElem hi)
    have h3 := y xs (SqL.of (N.sub _ _ (s _ _ h)))
    rw [h1] at h3
    cases h3
    refine ⟨upd F2 T (.tup [.int (i : Nat), z]), .tup [.int ((0 + i : Nat) : Int), l[i]], Tr.layF N.sub hT, N.layF hT, ?_, ?_⟩
    · rw [enumL_get, List.getElem?_eq_getElem hi]
      rfl
    · rw [Nat.zero_add]
      exact newT ⟨_, _, rfl, rfl, _, _, rfl, h2.mono s, rfl⟩ (N.sub.none hT)
theorem zipL_len : ∀ (l m : List D), (zipL l m).length = min l.length m.length
  | [], m => by simp [zipL]
  | a :: l, [] => by simp [zipL]
  | a :: l, b :: m => by
    show (zipL l m).length + 1 = _
    rw [zipL_len l m]
    simp only [List.length_cons]
    omega
theorem zipL_get : ∀ (l m : List D) (j : Nat) (x y : D), l[j]? = some x → m[j]? = some y → (zipL l m)[j]? = some (.tup [x, y])
  | [], m, j, x, y, h, _ => by simp at h
  | a :: l, [], j, x, y, _, h => by simp at h
  | a :: l, b :: m, 0, x, y, h, k => by cases h; cases k; rfl
  | a :: l, b :: m, j + 1, x, y, h, k => zipL_get l m j x y h k
theorem itd_zip {t u : Addr} {l m : List D} {xs ys : List V} (h : F t = some (.lst xs)) (hd : DenL g F l xs) (k : F u = some (.lst ys)) (kd : DenL g F m ys) : ItD g (Itz g.K t u) F (zipL l m) where
  stop := fun H s => ⟨xs, ys, SqL.of (s _ _ h), SqL.of (s _ _ k), by rw [zipL_len, hd.length, kd.length]; omega⟩
  go := fun i H s hi => by
    rw [zipL_len] at hi
    exact ⟨xs, ys, xs[i]'(by rw [hd.length]; omega), ys[i]'(by rw [kd.length]; omega), SqL.of (s _ _ h), SqL.of (s _ _ k), List.getElem?_eq_getElem _, List.getElem?_eq_getElem _⟩
  yld := fun i H F2 x H' ty σ e fp s N y hi => by
    rw [zipL_len] at hi
    obtain ⟨T, z, w, ex, hT, eH, y1, y2⟩ := y
    subst ex eH
    have i1 : i < l.length := by omega
    have i2 : i < m.length := by omega
    obtain ⟨v, h1, h2⟩ := hd.get (List.getElem?_eq_getElem i1)
    have h3 := y1 xs (SqL.of (N.sub _ _ (s _ _ h)))
    rw [h1] at h3
    cases h3
    obtain ⟨v2, k1, k2⟩ := kd.get (List.getElem?_eq_getElem i2)
    have k3 := y2 ys (SqL.of (N.sub _ _ (s _ _ k)))
    rw [k1] at k3
    cases k3
    refine ⟨upd F2 T (.tup [z, w]), .tup [l[i], m[i]], Tr.layF N.sub hT, N.layF hT, zipL_get _ _ _ _ _ (List.getElem?_eq_getElem i1) (List.getElem?_eq_getElem i2), ?_⟩
    exact newT ⟨_, _, rfl, h2.mono s, _, _, rfl, k2.mono s, rfl⟩ (N.sub.none hT)

/-- what is wanted behind what is walked -/
def PostI (g : G) (ty : Sls) (p : Bool) (r : RE (List D)) (σ : L2.St) (H F : Hp) (fp : Fps) (W : WX) (R : L2.It → Hp → Prop) : Prop := match r with
  | .ok ds e => ∀ J H1 F1 fp1, Tr p H F fp H1 F1 fp1 → Ns g ty σ H1 F1 e fp1 → ItD g J F1 ds → R J H1
  | .err x e => ∀ c dd H1 F1 fp1, Tr p H F fp H1 F1 fp1 → Ns g ty σ H1 F1 e fp1 → XcAt g F1 x c dd → W c dd σ H1
  | .stk => False
def tI (g : G) (φ : Phi) (P : Pt) (ty : Sls) (W : WX) (i : Ev.It) : TI := fun σ H R => ∃ e F fp, Ns g ty σ H F e fp ∧ PostI g ty (pureI i) (evi φ P i e) σ H F fp W R
theorem PI.imp {tg it : Expr} {t t' : TI} (h : PI X tg it t) (k : ∀ σ H R, t' σ H R → t σ H R) : PI X tg it t' := ⟨fun pins s σ H R I w => h.run pins s σ H R I (k σ H R w)⟩
theorem PostI.bind {r : RE D} {k : D → Nv → RE (List D)} {R : L2.It → Hp → Prop} {Q' : VK} (h : PostI g ty p (r.bind k) σ H F fp W R) (hp : p = true → pa = true)
    (w : ∀ d e1 v H1 F1 fp1, r = .ok d e1 → PostI g ty p (k d e1) σ H F fp W R → Tr pa H F fp H1 F1 fp1 → Ns g ty σ H1 F1 e1 fp1 → Res g H fp H1 F1 fp1 ka d v → Q' v H1) : Post g ty ka pa r σ H F fp W Q' := by
  cases r with
  | stk => exact h
  | err x e => exact fun c dd H2 F2 fp2 t2 n2 x2 => h c dd H2 F2 fp2 (t2.weak hp) n2 x2
  | ok d e => exact fun v H2 F2 fp2 t2 n2 r2 => w d e v H2 F2 fp2 rfl h t2 n2 r2
theorem PostI.shift {r : RE (List D)} {R : L2.It → Hp → Prop} (h : PostI g ty (pa && pb) r σ H F fp W R) (t : Tr pa H F fp H1 F1 fp1) : PostI g ty pb r σ H1 F1 fp1 W R := by
  cases r with
  | stk => exact h
  | err x e => exact fun c dd H2 F2 fp2 t2 n2 x2 => h c dd H2 F2 fp2 (t.trans t2) n2 x2
  | ok d e => exact fun J H2 F2 fp2 t2 n2 r2 => h J H2 F2 fp2 (t.trans t2) n2 r2
theorem PostI.fin {ds : List D} {R : L2.It → Hp → Prop} {J : L2.It} (h : PostI g ty p (.ok ds e) σ H F fp W R) (N : Ns g ty σ H F e fp) (i : ItD g J F ds) : R J H := h J H F fp (Tr.refl _) N i
/-! ### what is walked -/
/-- a list or a tuple, as it comes -/
theorem pi_seq {tg l : Expr} {tl : TE} (hl : PE X l tl) : PI X tg l (fun σ H R => tl σ H fun x H1 => (∃ a, x = .ref a ∧ (∃ xs, SqL X.K H1 a xs) ∧ R (Itl X.K a) H1) ∨ ∃ a, x = .ref a ∧ (∃ xs, SqT X.K H1 a xs) ∧ R (Itt X.K a) H1) := by
  refine ⟨fun pins s σ H R I h => ?_⟩
  refine thn (hl.run pins s σ H _ I h) fun v s1 ⟨x, H1, I1, r1, q1⟩ => ?_
  rcases q1 with ⟨a, e, ⟨xs, hq⟩, q⟩ | ⟨a, e, ⟨xs, hq⟩, q⟩
  · subst e
    cases r1
    obtain ⟨its, rv, p, hz⟩ := I1.list hq
    refine wpAny_pyIter_list p.isList ?_
    refine ⟨s1.heap.objs.size, [s1.heap.objs.size], _, _, H1, rfl, I1.kept (t' := s1.toks) fun b o e => Heap.get?_push_of_some _ e, turn_list a _, ⟨_, Heap.get?_push_size _ rfl, rfl, rfl⟩, fun b hb => ?_, q⟩
    have e : b = s1.heap.objs.size := by simpa using hb
    subst e
    exact I1.fpOk (Nat.le_refl _) (I1.hok.fresh (Nat.le_refl _))
  · subst e
    cases r1
    obtain ⟨its, rv, p, hz⟩ := I1.tuple hq
    refine wpAny_pyIter_tuple (show s1.heap.IsTuple a its.toArray from p) ?_
    refine ⟨s1.heap.objs.size, [s1.heap.objs.size], _, _, H1, rfl, I1.kept (t' := s1.toks) fun b o e => Heap.get?_push_of_some _ e, turn_tuple a _, ⟨_, Heap.get?_push_size _ rfl, rfl, rfl⟩, fun b hb => ?_, q⟩
    have e : b = s1.heap.objs.size := by simpa using hb
    subst e
    exact I1.fpOk (Nat.le_refl _) (I1.hok.fresh (Nat.le_refl _))
theorem s_seq {tg : Expr} (hK : X.K = g.K) (ha : PE X xa (tE g φ P ty W .F a)) : PI X tg xa (tI g φ P ty W (.seq a)) := by
  refine PI.imp (pi_seq ha) fun σ H R ⟨e, F, fp, N, h⟩ => ⟨e, F, fp, N, ?_⟩
  rw [evi, pureI] at h
  refine PostI.bind h (fun z => z) fun d e1 v H1 F1 fp1 _ h1 t1 n1 r1 => ?_
  cases d with
  | lst l =>
    obtain ⟨t, xs, ev, h2, h3⟩ := r1
    rw [hK]
    exact .inl ⟨t, ev, ⟨xs, SqL.of (n1.sub _ _ h2)⟩, PostI.fin (PostI.shift (pa := pureE a) (pb := true) (by rw [Bool.and_true]; exact h1) t1) n1 (itd_list h2 h3)⟩
  | tup l =>
    obtain ⟨t, xs, ev, h2, h3⟩ := r1
    rw [hK]
    exact .inr ⟨t, ev, ⟨xs, n1.sub.sqT h2⟩, PostI.fin (PostI.shift (pa := pureE a) (pb := true) (by rw [Bool.and_true]; exact h1) t1) n1 (itd_tup h2 h3)⟩
  | _ => exact h1.elim
theorem star1 {x : Expr} {env : Env} (h : notStar x = true) : starEach [x] env = [(false, eval x env)] := star_cons h
theorem star2 {x y : Expr} {env : Env} (h : notStar x = true) (k : notStar y = true) : starEach [x, y] env = [(false, eval x env), (false, eval y env)] := by
  rw [star_cons h, star1 k]
theorem s_rng1 {tg : Expr} (hg : Gl X "range") (hm : X.mg "range" = none) (ha : PE X xa (tE g φ P ty W .F a)) (hs : notStar xa = true) : PI X tg (.Call (.Name "range" p2) [xa] [] pos) (tI g φ P ty W (.rng1 a)) := by
  refine PI.imp (pi_range1 hg hm (pa_cons ha pa_nil (star_cons hs)) (star1 hs)) fun σ H R ⟨e, F, fp, N, h⟩ => ⟨e, F, fp, N, ?_⟩
  rw [evi, pureI] at h
  refine PostI.bind h (fun z => z) fun d e1 v H1 F1 fp1 _ h1 t1 n1 r1 => ?_
  have h1 := PostI.shift (pa := pureE a) (pb := true) (by rw [Bool.and_true]; exact h1) t1
  cases d with
  | int j =>
    by_cases z : rgOk 0 j = true
    · have h1 : PostI g ty true (.ok (rgL 0 j) e1) σ H1 F1 fp1 W R := by simpa only [if_pos z] using h1
      obtain ⟨k1, k2, k3, k4⟩ := rgOk_P z
      refine ⟨j, by rw [show v = .int j from r1], k3, k4, PostI.fin h1 n1 ?_⟩
      have e1 : j.toNat = (j - 0).toNat := by rw [Int.sub_zero]
      rw [e1]
      exact itd_rng
    · have h1 : PostI g ty true .stk σ H1 F1 fp1 W R := by simpa only [if_neg z] using h1
      exact h1.elim
  | _ => exact h1.elim
theorem s_rng2 {tg : Expr} (hg : Gl X "range") (hm : X.mg "range" = none) (ha : PE X xa (tE g φ P ty W .F a)) (hb : PE X xb (tE g φ P ty W .F b)) (hs : notStar xa = true) (hs2 : notStar xb = true) : PI X tg (.Call (.Name "range" p2) [xa, xb] [] pos) (tI g φ P ty W (.rng2 a b)) := by
  refine PI.imp (pi_range2 hg hm (pa_cons ha (pa_cons hb pa_nil (star_cons hs2)) (star_cons hs)) (star2 hs hs2) (star1 hs2)) fun σ H R ⟨e, F, fp, N, h⟩ => ⟨e, F, fp, N, ?_⟩
  rw [evi, pureI] at h
  refine PostI.bind h (fun z => (Bool.and_eq_true_iff.mp z).1) fun d e1 v H1 F1 fp1 _ h1 t1 n1 r1 => ⟨e1, F1, fp1, n1, ?_⟩
  refine PostI.bind (PostI.shift h1 t1) (fun z => z) fun d2 e2 v2 H2 F2 fp2 _ h2 t2 n2 r2 => ?_
  have h2 := PostI.shift (pa := pureE b) (pb := true) (by rw [Bool.and_true]; exact h2) t2
  have st : ∀ {d d2 : D}, (∀ i j, d = .int i → d2 = .int j → False) → ¬ PostI g ty true (match d, d2 with
    | .int a, .int b => if rgOk a b then .ok (rgL a b) e2 else .stk
    | _, _ => .stk) σ H2 F2 fp2 W R := fun {d d2} k q => by
      cases d <;> first | exact q.elim | (cases d2 <;> first | exact q.elim | exact k _ _ rfl rfl)
  cases d with
  | int i =>
    cases d2 with
    | int j =>
      by_cases z : rgOk i j = true
      · have h2 : PostI g ty true (.ok (rgL i j) e2) σ H2 F2 fp2 W R := by simpa only [if_pos z] using h2
        obtain ⟨k1, k2, k3, k4⟩ := rgOk_P z
        exact ⟨i, j, by rw [show v = .int i from r1, show v2 = .int j from r2], ⟨k1, k2, k3, k4⟩, PostI.fin h2 n2 itd_rng⟩
      · have h2 : PostI g ty true .stk σ H2 F2 fp2 W R := by simpa only [if_neg z] using h2
        exact h2.elim
    | _ => exact h2.elim
  | _ => cases d2 <;> exact h2.elim
theorem s_enum {elts : List Expr} {kk : Nat} {tpos : Pos} (hK : X.K = g.K) (hg : Gl X "enumerate") (hm : X.mg "enumerate" = none) (ha : PE X xa (tE g φ P ty W .F a)) (hs : notStar xa = true) : PI X (.Tuple elts kk tpos) (.Call (.Name "enumerate" p2) [xa] [] pos) (tI g φ P ty W (.enum a)) := by
  refine PI.imp (pi_enum hg hm (pa_cons ha pa_nil (star_cons hs)) (star1 hs)) fun σ H R ⟨e, F, fp, N, h⟩ => ⟨e, F, fp, N, ?_⟩
  rw [evi, pureI] at h
  refine PostI.bind h (fun z => z) fun d e1 v H1 F1 fp1 _ h1 t1 n1 r1 => ?_
  cases d with
  | lst l =>
    obtain ⟨t, xs, ev, h2, h3⟩ := r1
    subst ev
    refine ⟨t, xs, rfl, SqL.of (n1.sub _ _ h2), ?_⟩
    rw [hK]
    exact PostI.fin (PostI.shift (pa := pureE a) (pb := true) (by rw [Bool.and_true]; exact h1) t1) n1 (itd_enum h2 h3)
  | _ => exact h1.elim
theorem s_zip {elts : List Expr} {kk : Nat} {tpos : Pos} (hK : X.K = g.K) (hg : Gl X "zip") (hm : X.mg "zip" = none) (ha : PE X xa (tE g φ P ty W .F a)) (hb : PE X xb (tE g φ P ty W .F b)) (hs : notStar xa = true) (hs2 : notStar xb = true) : PI X (.Tuple elts kk tpos) (.Call (.Name "zip" p2) [xa, xb] [] pos) (tI g φ P ty W (.zip a b)) := by
  refine PI.imp (pi_zip hg hm (pa_cons ha (pa_cons hb pa_nil (star_cons hs2)) (star_cons hs)) (star_cons hs) (star_any (by simp [hs2]))) fun σ H R ⟨e, F, fp, N, h⟩ => ⟨e, F, fp, N, ?_⟩
  rw [evi, pureI] at h
  refine PostI.bind h (fun z => (Bool.and_eq_true_iff.mp z).1) fun d e1 v H1 F1 fp1 _ h1 t1 n1 r1 => ⟨e1, F1, fp1, n1, ?_⟩
  refine PostI.bind (PostI.shift h1 t1) (fun z => z) fun d2 e2 v2 H2 F2 fp2 _ h2 t2 n2 r2 => ?_
  have h2 := PostI.shift (pa := pureE b) (pb := true) (by rw [Bool.and_true]; exact h2) t2
  cases d with
  | lst l =>
    cases d2 with
    | lst m =>
      obtain ⟨t, xs, ev, h3, h4⟩ := r1
      obtain ⟨t', ys, ev', h5, h6⟩ := r2
      subst ev ev'
      have h3 := t2.sub _ _ h3
      refine ⟨t, t', xs, ys, rfl, SqL.of (n2.sub _ _ h3), SqL.of (n2.sub _ _ h5), ?_⟩
      rw [hK]
      exact PostI.fin h2 n2 (itd_zip h3 (h4.mono t2.sub) h5 h6)
    | _ => exact h2.elim
  | _ => cases d2 <;> exact h2.elim

/-! ### targets -/
/-- nothing changed but the slots' places -/
def SigEq (ty : Sls) (js : List Nat) (σ σ1 : L2.St) : Prop := σ1.length = σ.length ∧ ∀ q : Nat, (∀ i ∈ js, ∀ k : Nat, ty.l[i]? ≠ some (q, k)) → σ1[q]? = σ[q]?
def gD (g : G) (ty : Sls) (tg : Tg) : TG := fun v σ H Q => ∃ e F fp d e', Ns g ty σ H F e fp ∧ Den g F d v ∧ stT tg d e = some e' ∧ ∀ σ1 fp1, SigEq ty (tgS tg) σ σ1 → Tr false H F fp H F fp1 → Ns g ty σ1 H F e' fp1 → Q σ1 H
def gDs (g : G) (ty : Sls) (l : List Nm) : TGs := fun vs σ H Q => ∃ e F fp ds e', Ns g ty σ H F e fp ∧ DenL g F ds vs ∧ stNs l ds e = some e' ∧ ∀ σ1 fp1, SigEq ty (l.flatMap fun n => n.1 :: n.2) σ σ1 → Tr false H F fp H F fp1 → Ns g ty σ1 H F e' fp1 → Q σ1 H
theorem PG.imp {x : Expr} {t t' : TG} (h : PG X x t) (k : ∀ v σ H Q, t' v σ H Q → t v σ H Q) : PG X x t' := ⟨fun pins s σ H v u Q I r w => h.run pins s σ H v u Q I r (k v σ H Q w)⟩
theorem PGs.imp {x : List Expr} {t t' : TGs} (h : PGs X x t) (k : ∀ v σ H Q, t' v σ H Q → t v σ H Q) : PGs X x t' := ⟨fun pins s σ H v u Q I r w => h.run pins s σ H v u Q I r (k v σ H Q w)⟩
/-- a plain name -/
structure NmAt (X : Cx) (ty : Sls) (n : Nm) (x : Str) : Prop where
  q : ∃ q, NmOk ty n q 0 ∧ X.N[q]? = some x
  loc : Loc X.env.scope x
  fn : X.fn x = true ∨ X.env.scope.names.lookup x = some .local
theorem Ns.store0 (N : Ns g ty σ H F e fp) {n : Nm} {q : Nat} {d : D} {v : V} (ok : NmOk ty n q 0) (hd : Den g F d v) : Ns g ty (σ.set q (some v)) H F (stN n d e) (fpN fp n []) :=
  N.store ok ⟨hd, rfl⟩ List.nodup_nil fun a ha => by cases ha
theorem Tr.store0 (t : Tr p H0 F0 fp0 H F fp) {n : Nm} : Tr false H0 F0 fp0 H F (fpN fp n []) := t.store fun a ha => by cases ha
theorem SigEq.set {js : List Nat} {n : Nm} {q k : Nat} {v : Option V} (ok : NmOk ty n q k) (h : n.1 ∈ js) : SigEq ty js σ (σ.set q v) :=
  ⟨List.length_set, fun q' hq => List.getElem?_set_ne fun z => hq n.1 h k (by rw [← z]; exact ok.at_)⟩
theorem SigEq.refl {js : List Nat} : SigEq ty js σ σ := ⟨rfl, fun _ _ => rfl⟩
theorem SigEq.trans {js ks : List Nat} {σ2 : L2.St} (h : SigEq ty js σ σ1) (k : SigEq ty ks σ1 σ2) (hs : ∀ i ∈ js, i ∈ ks) : SigEq ty ks σ σ2 :=
  ⟨k.1.trans h.1, fun q hq => (k.2 q hq).trans (h.2 q fun i hi => hq i (hs i hi))⟩
theorem SigEq.mono {js ks : List Nat} (h : SigEq ty js σ σ1) (hs : ∀ i ∈ js, i ∈ ks) : SigEq ty ks σ σ1 := ⟨h.1, fun q hq => h.2 q fun i hi => hq i (hs i hi)⟩
theorem s_gname {n : Nm} {x : Str} (hN : X.N.Nodup) (h : NmAt X ty n x) : PG X (.Name x pos) (gD g ty (.name n)) := by
  obtain ⟨⟨q, ok, hi⟩, hl, hf⟩ := h
  refine PG.imp (pg_name hN hi hl hf) fun v σ H Q ⟨e, F, fp, d, e', N, hd, hs, k⟩ => ?_
  cases hs
  exact k _ _ (SigEq.set ok (List.mem_cons_self)) (Tr.store0 (Tr.refl false)) (N.store0 ok hd)
inductive NmsAt (X : Cx) (ty : Sls) : List Expr → List Nm → Prop where
  | nil : NmsAt X ty [] []
  | cons {n : Nm} {x : Str} {p : Pos} {xs : List Expr} {l : List Nm} (h : NmAt X ty n x) (r : NmsAt X ty xs l) : NmsAt X ty (.Name x p :: xs) (n :: l)
theorem each_name {x : Str} {p : Pos} {xs : List Expr} {env : Env} : assignEach (.Name x p :: xs) env = (false, assign (.Name x p) env) :: assignEach xs env := rfl
theorem NmsAt.each {xs : List Expr} {l : List Nm} (h : NmsAt X ty xs l) (env : Env) : (assignEach xs env).length = l.length ∧ (assignEach xs env).findIdx? (·.1) = none := by
  induction h with
  | nil => exact ⟨rfl, rfl⟩
  | cons h r ih =>
    rw [each_name]
    refine ⟨by rw [List.length_cons, List.length_cons, ih.1], ?_⟩
    rw [List.findIdx?_cons, ih.2]
    rfl
theorem s_gnames (hN : X.N.Nodup) {xs : List Expr} {l : List Nm} (h : NmsAt X ty xs l) : PGs X xs (gDs g ty l) := by
  induction h with
  | nil =>
    refine PGs.imp pgs_nil fun vs σ H Q ⟨e, F, fp, ds, e', N, hd, hs, k⟩ => ?_
    cases ds with
    | nil =>
      cases hs
      exact ⟨hd, k σ fp SigEq.refl (Tr.refl _) N⟩
    | cons d ds => cases hs
  | @cons n x p xs l h r ih =>
    obtain ⟨⟨q, ok, hi⟩, hl, hf⟩ := h
    refine PGs.imp (pgs_cons (pg_name hN hi hl hf) ih (by rw [each_name]; rfl)) fun vs σ H Q ⟨e, F, fp, ds, e', N, hd, hs, k⟩ => ?_
    cases ds with
    | nil => cases hs
    | cons d ds =>
      obtain ⟨v, r, ev, h4, h5⟩ := hd
      subst ev
      have hs : stNs l ds (stN n d e) = some e' := hs
      exact ⟨v, r, rfl, stN n d e, F, fpN fp n [], ds, e', N.store0 ok h4, h5, hs, fun σ1 fp1 sq t1 n1 => k σ1 fp1 (SigEq.trans (SigEq.set (js := n.1 :: n.2) ok List.mem_cons_self) (sq.mono fun i hi => by rw [List.flatMap_cons]; exact List.mem_append_right _ hi) fun i hi => by rw [List.flatMap_cons]; exact List.mem_append_left _ hi) ((Tr.store0 (Tr.refl false)).trans t1) n1⟩
theorem stNs_len : ∀ {l : List Nm} {ds : List D} {e e' : Nv}, stNs l ds e = some e' → ds.length = l.length
  | [], [], _, _, _ => rfl
  | [], _ :: _, _, _, h => by cases h
  | _ :: _, [], _, _, h => by cases h
  | n :: l, d :: ds, e, e', h => congrArg Nat.succ (stNs_len (l := l) (ds := ds) (e := stN n d e) (e' := e') h)
theorem s_gtup {xs : List Expr} {l : List Nm} {k : Nat} (hK : X.K = g.K) (hc : X.calm = true) (hN : X.N.Nodup) (h : NmsAt X ty xs l) : PG X (.Tuple xs k pos) (gD g ty (.tup l)) := by
  refine PG.imp (pg_tup hc (s_gnames (g := g) hN h) (h.each X.env).1 (h.each X.env).2) fun v σ H Q ⟨e, F, fp, d, e', N, hd, hs, q⟩ => ?_
  cases d with
  | tup ds =>
    obtain ⟨t, vs, ev, h1, h2⟩ := hd
    have hs : stNs l ds e = some e' := hs
    exact ⟨t, vs, ev, by rw [hK]; exact N.sub.sqT h1, by rw [h2.length, stNs_len hs], e, F, fp, ds, e', N, h2, hs, q⟩
  | _ => cases hs
def notTup : Expr → Bool
  | .Tuple _ _ _ => false
  | _ => true
theorem swapped_no {tg v : Expr} {env : Env} (h : notTup v = true) : swappedStores [tg] v env = pure none := by
  cases v <;> first | (cases tg <;> rfl) | cases h
/-- a, b, .. = what is no display -/
theorem s_asgT {tg : Tg} {xt : Expr} (ha : PE X xa (tE g φ P ty W .F a)) (hg : PG X xt (gD g ty tg)) (hc : noComp xa = true) (ht : notTup xa = true) (h1 : (assignEach [xt] X.env).map (·.2) = [assign xt X.env]) : PS X (.Assign [xt] xa pos) (tS g φ P ty W rk (.asg tg a)) := by
  refine PS.imp (ps_asg ha hg (swaps_no hc) (swapped_no ht) h1) fun Z σ H ⟨e, F, fp, N, h⟩ => ⟨e, F, fp, N, ?_⟩
  rw [evS] at h
  refine PoS.bind h fun d e1 v H1 F1 fp1 _ h2 t1 n1 r1 => ?_
  cases hs : stT tg d e1 with
  | none =>
    have h2 : PoS g ty W rk .stk σ H1 F1 fp1 Z := by simpa only [hs] using h2
    exact h2.elim
  | some e2 =>
    have h2 : PoS g ty W rk (.nx e2) σ H1 F1 fp1 Z := by simpa only [hs] using h2
    exact ⟨e1, F1, fp1, d, e2, n1, r1, hs, fun σ1 fp2 _ t2 n2 => h2 σ1 H1 F1 fp2 t2 n2⟩
/-- a, b = x, y: plain local names -/
theorem s_par {n m : Nm} {q r : Nat} {x y : Str} {px py pt : Pos} {kt k2 : Nat} {pt2 : Pos} (hc : X.calm = true) (hN : X.N.Nodup) (hi : X.N[q]? = some x) (hj : X.N[r]? = some y) (hij : q ≠ r) (ok : NmOk ty n q 0) (ok2 : NmOk ty m r 0)
    (hx : X.env.scope.names.lookup x = some .local) (hy : X.env.scope.names.lookup y = some .local) (ha : PE X xa (tE g φ P ty W .F a)) (hb : PE X xb (tE g φ P ty W .F b)) (hs : notStar xa = true) (hs2 : notStar xb = true)
    (hw : swappedStores [.Tuple [.Name x px, .Name y py] kt pt] (.Tuple [xa, xb] k2 pt2) X.env = pure (some [x, y])) : PS X (.Assign [.Tuple [.Name x px, .Name y py] kt pt] (.Tuple [xa, xb] k2 pt2) pos) (tS g φ P ty W rk (.par n m a b)) := by
  refine PS.imp (ps_par hc hN hi hj hij hx hy (pa_cons ha (pa_cons hb pa_nil (star_cons hs2)) (star_cons hs)) hw) fun Z σ H ⟨e, F, fp, N, h⟩ => ⟨e, F, fp, N, ?_⟩
  rw [evS] at h
  refine PoS.bind h fun d e1 v H1 F1 fp1 _ h1 t1 n1 r1 => ⟨e1, F1, fp1, n1, ?_⟩
  refine PoS.bind h1 fun d2 e2 v2 H2 F2 fp2 _ h2 t2 n2 r2 => ⟨v, v2, rfl, ?_⟩
  have n3 := (n2.store0 ok (Den.mono t2.sub r1)).store0 ok2 r2
  exact h2 _ H2 F2 _ ((Tr.store0 (Tr.refl false)).store0) n3
/-! ### for -/
theorem s_for {tg : Tg} {it : Ev.It} {xt xi : Expr} {xb' : List Stmt} {b : Ss} (hp : PassesOwn (model X.prog X.w) X.A X.env X.xe) (hc : X.calm = true) (hi : PI X xt xi (tI g φ P ty W it)) (hg : PG X xt (gD g ty tg)) (hb : PSs X xb' (tSs g φ P ty W rk b)) (hs : ∀ x, foldedSetIterable xi X.env x = pure x) :
    PS X (.For xt xi xb' [] pos) (tS g φ P ty W rk (.forr tg it b)) := by
  refine PS.imp (ps_for hp hc hi hg hb hs) fun Z σ H ⟨e, F, fp, N, h⟩ => ⟨e, F, fp, N, ?_⟩
  rw [evS] at h
  cases hr : evi φ P it e with
  | stk => rw [hr] at h; exact h.elim
  | err y e1 => rw [hr] at h; exact fun c dd H2 F2 fp2 t2 n2 x2 => h c dd σ H2 F2 fp2 (t2.weak fun z => by cases z) n2 x2
  | ok ds e1 =>
    rw [hr] at h
    have h : PoS g ty W rk (forRun tg (evSs φ P b) ds e1) σ H F fp Z := h
    intro J H1 F1 fp1 t1 n1 hJ
    have h := PoS.shift (σ1 := σ) h t1
    refine ⟨fun i m σ H => m = ds.length - i ∧ i ≤ ds.length ∧ ∃ e F fp, Sub F1 F ∧ Ns g ty σ H F e fp ∧ PoS g ty W rk (forRun tg (evSs φ P b) (ds.drop i) e) σ H F fp Z, ⟨ds.length, rfl, Nat.zero_le _, e1, F1, fp1, Sub.rfl', n1, h⟩, ?_⟩
    rintro i m σ H ⟨em, hle, e, F, fp, sb, N, h⟩
    subst em
    by_cases hlt : i < ds.length
    · refine .inr ⟨hJ.go i H (sb.trans N.sub) hlt, fun σ H => ∃ e F fp, Sub F1 F ∧ Ns g ty σ H F e fp ∧ PoS g ty W rk (forRun tg (evSs φ P b) (ds.drop (i + 1)) e) σ H F fp Z, fun σ' H' w => ⟨ds.length - (i + 1), by omega, rfl, hlt, w⟩, fun x H' y => ?_⟩
      obtain ⟨F3, d, t3, n3, hd, hx⟩ := hJ.yld i H F x H' ty σ e fp sb N y hlt
      have ed : ds.drop i = d :: ds.drop (i + 1) := by
        rw [List.getElem?_eq_getElem hlt] at hd
        cases hd
        exact List.drop_eq_getElem_cons hlt
      rw [ed, forRun] at h
      cases hst : stT tg d e with
      | none =>
        have h : PoS g ty W rk .stk σ H F fp Z := by simpa only [hst] using h
        exact h.elim
      | some e2 =>
        refine ⟨e, F3, fp, d, e2, n3, hx, hst, fun σ1 fp4 _ t4 n4 => ⟨e2, F3, fp4, n4, ?_⟩⟩
        have t5 := (t3.weak (q := false) fun z => by cases z).trans t4
        have s5 : Sub F1 F3 := sb.trans t3.sub
        cases hb' : evSs φ P b e2 with
        | stk =>
          have h : PoS g ty W rk .stk σ H F fp Z := by simpa only [hst, hb'] using h
          exact h.elim
        | nx e3 =>
          have h : PoS g ty W rk (forRun tg (evSs φ P b) (ds.drop (i + 1)) e3) σ H F fp Z := by simpa only [hst, hb'] using h
          exact fun σ2 H2 F2 fp2 t2 n2 => ⟨e3, F2, fp2, s5.trans t2.sub, n2, PoS.shift (PoS.shift (σ1 := σ2) h t5) t2⟩
        | ct e3 =>
          have h : PoS g ty W rk (forRun tg (evSs φ P b) (ds.drop (i + 1)) e3) σ H F fp Z := by simpa only [hst, hb'] using h
          exact fun σ2 H2 F2 fp2 t2 n2 => ⟨e3, F2, fp2, s5.trans t2.sub, n2, PoS.shift (PoS.shift (σ1 := σ2) h t5) t2⟩
        | bk e3 =>
          have h : PoS g ty W rk (.nx e3) σ H F fp Z := by simpa only [hst, hb'] using h
          exact fun σ2 H2 F2 fp2 t2 n2 => PoS.shift (σ1 := σ2) h t5 σ2 H2 F2 fp2 t2 n2
        | ret d2 e3 =>
          have h : PoS g ty W rk (.ret d2 e3) σ H F fp Z := by simpa only [hst, hb'] using h
          exact PoS.shift (σ := σ) (σ1 := σ1) h t5
        | err y e3 =>
          have h : PoS g ty W rk (.err y e3) σ H F fp Z := by simpa only [hst, hb'] using h
          exact PoS.shift (σ := σ) (σ1 := σ1) h t5
    · have e1' : i = ds.length := by omega
      subst e1'
      rw [List.drop_length, forRun] at h
      exact .inl ⟨hJ.stop H (sb.trans N.sub), PoS.nx h N⟩
def notSet : Expr → Bool
  | .Set _ _ _ => false
  | _ => true
theorem folded_no {x : Expr} {env : Env} (h : notSet x = true) : ∀ v, foldedSetIterable x env v = pure v := fun v => by
  cases x <;> first | rfl | cases h
end
end Ev
set_option Elab.async false
set_option linter.all false
set_option maxRecDepth 100000
set_option maxHeartbeats 1000000
/-! Ev14: lists of one's own: append, store, reverse, pop; name op= e -/
namespace Ev
open PySem L2 PySem.Spec PyProof.Rows

section
variable {g : G} {φ : Phi} {P : Pt} {ty : Sls} {W : WX} {rk : Kd} {X : Cx} {kd ka kb : Kd} {a b c : E} {xa xb xc : Expr} {pos p2 apos cpos : Pos} {l : Es} {es : List Expr}
variable {σ σ1 : L2.St} {H F H1 F1 H0 F0 H' : Hp} {e : Nv} {fp fp1 fp0 : Fps} {p pa pb : Bool} {Q : VK} {Z : Ends}
theorem Tr.mut (t0 : Tr p H0 F0 fp0 H F fp) {j : Nat} {f1 : List Addr} (ts : ∀ a o, H a = some o → a ∉ fp j → H' a = some o) (hn : ∀ a ∈ f1, a ∈ fp j ∨ (∃ i, a ∈ fp0 i) ∨ H0 a = none) : Tr false H0 F0 fp0 H' F (fpu fp j f1) := by
  refine ⟨t0.sub, fun a o h w => ?_, fun a h k w => ?_, fun i a ha => ?_, fun z => by cases z⟩
  · rcases w with w | w
    · cases w
    · exact ts a o (t0.keep a o h (.inr w)) (t0.out (by rw [h]; intro z; cases z) w j)
  · rcases w with w | w
    · cases w
    · exact t0.nofr a h k (.inr w)
  · by_cases z : i = j
    · subst z
      rw [fpu_same] at ha
      rcases hn a ha with h | h
      · exact t0.new i a h
      · exact h
    · rw [fpu_ne z] at ha
      exact t0.new i a ha
/-- one's own thing is changed -/
theorem Ns.mut (N : Ns g ty σ H F e fp) {j : Nat} {f1 : List Addr} {q k : Nat} {d : D} {v : V} (ts : ∀ a o, H a = some o → a ∉ fp j → H' a = some o) (hty : ty.l[j]? = some (q, k)) (hv : σ[q]? = some (some v)) (hl : j < e.length)
    (ho : Own g H' F k d v f1) (nd : f1.Nodup) (hn : ∀ a ∈ f1, a ∈ fp j ∨ (F a = none ∧ ∀ i, a ∉ fp i)) (hj : ∀ a ∈ fp j, H' a ≠ none → True) (sub : Sub F H') : Ns g ty σ H' F (st e j (some d)) (fpu fp j f1) := by
  refine N.part Sub.rfl' (fun a ha => (hn a ha).imp id fun z => z.2) ts (fun a h k w => k) sub hl (fun d' z => by cases z; exact ⟨q, k, v, hty, hv, ho⟩) (fun z => by cases z) nd fun a ha => ?_
  rcases hn a ha with h | h
  · exact N.fr j a h
  · exact h.1
theorem sub_mut (N : Ns g ty σ H F e fp) {j : Nat} {t : Addr} {o : HO} (h : t ∈ fp j) : Sub F (upd H t o) := fun a u k => by
  have n : a ≠ t := fun z => by
    subst z
    rw [N.fr j _ h] at k
    cases k
  rw [upd_ne n]
  exact N.sub _ _ k
theorem keep_mut {j : Nat} {t : Addr} {o : HO} (h : t ∈ fp j) : ∀ a u, H a = some u → a ∉ fp j → upd H t o a = some u := fun a u k n => by
  have n2 : a ≠ t := fun z => n (by rw [z]; exact h)
  rw [upd_ne n2]
  exact k
theorem OwnA.app {q : D → V → List Addr → Prop} {x : D} {y : V} {fx : List Addr} (hx : q x y fx) : ∀ {l : List D} {xs : List V} {f : List Addr}, OwnA q l xs f → OwnA q (l ++ [x]) (xs ++ [y]) (f ++ fx)
  | [], _, _, h => by
    obtain ⟨h1, h2⟩ := h
    subst h1 h2
    exact ⟨y, [], fx, [], rfl, by simp, hx, rfl, rfl⟩
  | d :: l, _, _, h => by
    obtain ⟨z, r, f1, f2, e1, e2, h1, h2⟩ := h
    subst e1 e2
    exact ⟨z, r ++ [y], f1, f2 ++ fx, rfl, by simp, h1, OwnA.app hx h2⟩
theorem OwnA.at {q : D → V → List Addr → Prop} : ∀ {l : List D} {xs : List V} {f : List Addr} {i : Nat} {d : D}, OwnA q l xs f → l[i]? = some d → ∃ x f1 fa fb, xs[i]? = some x ∧ q d x f1 ∧ f = fa ++ (f1 ++ fb) ∧
    ∀ (q' : D → V → List Addr → Prop) (d' : D) (x' : V) (f1' : List Addr), q' d' x' f1' → (∀ d x f2, (∀ a ∈ f2, a ∈ fa ∨ a ∈ fb) → q d x f2 → q' d x f2) → OwnA q' (l.set i d') (xs.set i x') (fa ++ (f1' ++ fb))
  | [], _, _, i, d, h, k => by simp at k
  | a :: l, _, _, 0, d, h, k => by
    obtain ⟨z, r, f1, f2, e1, e2, h1, h2⟩ := h
    subst e1 e2
    cases k
    exact ⟨z, f1, [], f2, rfl, h1, rfl, fun q' d' x' f1' hq hk => ⟨x', r, f1', f2, rfl, rfl, hq, h2.mono fun d x f3 h3 => hk d x f3 fun a ha => .inr (h3 a ha)⟩⟩
  | a :: l, _, _, i + 1, d, h, k => by
    obtain ⟨z, r, f1, f2, e1, e2, h1, h2⟩ := h
    subst e1 e2
    obtain ⟨x, f3, fa, fb, h3, h4, h5, h6⟩ := OwnA.at (i := i) h2 k
    subst h5
    refine ⟨x, f3, f1 ++ fa, fb, h3, h4, by simp, fun q' d' x' f1' hq hk => ⟨z, r.set i x', f1, fa ++ (f1' ++ fb), rfl, by simp, hk a z f1 (fun b hb => .inl (List.mem_append_left _ hb)) h1, h6 q' d' x' f1' hq fun d x f4 h7 => hk d x f4 fun b hb => (h7 b hb).imp (List.mem_append_right _) id⟩⟩
/-- one's own list is written anew -/
theorem Own.list (N : Ns g ty σ H F e fp) {j q k : Nat} {l : List D} {v : V} (hj : gt e j = some (.lst l)) (hty : ty.l[j]? = some (q, k + 1)) (hv : σ[q]? = some (some v)) : ∃ t xs f', v = .ref t ∧ H t = some (.lst xs) ∧ fp j = t :: f' ∧ OwnA (Own g H F k) l xs f' ∧ t ∉ f' ∧ xs.length = l.length ∧
    ∀ ys, OwnA (Own g (upd H t (.lst ys)) F k) l xs f' ∧ ∀ d x f, t ∉ f → Own g H F k d x f → Own g (upd H t (.lst ys)) F k d x f := by
  obtain ⟨q', k', v', h1, h2, h3⟩ := N.val j _ hj
  rw [hty] at h1
  cases h1
  rw [hv] at h2
  cases h2
  obtain ⟨t, xs, f', e1, e2, e3, e4⟩ := h3
  have nd := N.nd j
  rw [e4] at nd
  have ht : t ∉ f' := (List.nodup_cons.mp nd).1
  have kp : ∀ ys d x f, t ∉ f → Own g H F k d x f → Own g (upd H t (.lst ys)) F k d x f := fun ys d x f hf h => h.keep Sub.rfl' fun b hb o ho => by
    have n : b ≠ t := fun z => hf (by rw [← z]; exact hb)
    rw [upd_ne n]
    exact ho
  exact ⟨t, xs, f', e1, e2, e4, e3, ht, e3.length, fun ys => ⟨e3.mono fun d x f1 h1 h2 => kp ys d x f1 (fun z => ht (h1 _ z)) h2, kp ys⟩⟩
theorem tyL {t : Addr} {xs : List V} (h : H t = some (.lst xs))  : L2.tyV X.K "list" (.ref t) H := .inl ⟨rfl, xs, SqL.of h⟩
/-- name.append(e) -/
theorem s_app {j q k : Nat} {x : Str} (hty : ty.l[j]? = some (q, k + 1)) (hN : X.N[q]? = some x) (hv : Vis X.env.scope x) (hd : (x == ("__debug__" : Str)) = false) (hc : (x == ("__classdict__" : Str)) = false) (ha : PE X xa (tE g φ P ty W (kOf k) a)) (hs : notStar xa = true) (hline : (apos.endLine == cpos.line) = true) :
    PS X (.Expr (.Call (.Attribute (.Name x p2) "append" apos) [xa] [] cpos) pos) (tS g φ P ty W rk (.app j .nil a)) := by
  have hfew : ((backTo cpos (starEach [xa] X.env)).all (fun x => !x.1) && (backToKw cpos (keywordEach [] X.env)).all (fun x => x.1.isSome) && decide ([xa].length + ([] : List Keyword).length + (if ([] : List Keyword).isEmpty then 0 else 1) < 30)) = true := few_ok (es := [xa]) (by simp [hs]) (by simp)
  refine PS.imp (ps_expr (pe_bm PySem.F.plainAttrs_list PySem.F.slot_list_append PySem.F.type_list_append mt_append (pe_var hN hv hd hc) (pa_cons ha pa_nil (star_cons hs)) rfl hfew hline (star_cons hs) rfl) rfl) fun Z σ H ⟨e, F, fp, N, h⟩ => ?_
  rw [evS] at h
  cases hj : gt e j with
  | none => rw [hj] at h; exact h.elim
  | some d0 =>
    rw [hj] at h
    cases d0 with
    | lst l0 =>
      have h : PoS g ty W rk ((ev φ P a e).o fun x e => upd1 j (updP (appF x) []) e) σ H F fp Z := by simpa only [evs, RE.o] using h
      obtain ⟨q', k', v, h1, hσ, _⟩ := N.val j _ hj
      rw [hty] at h1
      cases h1
      obtain ⟨t, xs, f', ev', e2, _⟩ := Own.list N hj hty hσ
      subst ev'
      refine ⟨.ref t, hσ, tyL e2, e, F, fp, N, ?_⟩
      cases hr : ev φ P a e with
      | stk => rw [hr] at h; exact h.elim
      | err y e1 => rw [hr] at h; exact fun c dd H2 F2 fp2 t2 n2 x2 => h c dd σ H2 F2 fp2 (t2.weak fun z => by cases z) n2 x2
      | ok d e1 =>
      rw [hr] at h
      intro y H1 F1 fp1 t1 n1 r1
      have h1 : PoS g ty W rk (upd1 j (updP (appF d) []) e1) σ H F fp Z := h
      unfold upd1 at h1
      cases hj1 : gt e1 j with
      | none => rw [hj1] at h1; exact h1.elim
      | some d1 =>
        rw [hj1] at h1
        cases d1 with
        | lst l1 =>
          obtain ⟨t', xs1, f1, ev1, e3, e4, e5, e6, e7, e8⟩ := Own.list n1 hj1 hty hσ
          cases ev1
          by_cases z : l1.length < sizeLine
          · have h1 : PoS g ty W rk (.nx (st e1 j (some (.lst (l1 ++ [d]))))) σ H F fp Z := by simpa only [updP, appF, if_pos z] using h1
            obtain ⟨fx, o1, o2, o3, o4⟩ := r1.own n1 t1
            have ht : t ∈ fp1 j := by rw [e4]; exact List.mem_cons_self
            have hx : t ∉ fx := fun w => (o3 t w).2 j ht
            refine ⟨t, xs1, y, rfl, rfl, e3, by rw [e7]; exact z, ?_⟩
            have hown : Own g (upd H1 t (.lst (xs1 ++ [y]))) F1 (k + 1) (.lst (l1 ++ [d])) (.ref t) (t :: (f1 ++ fx)) :=
              ⟨t, xs1 ++ [y], f1 ++ fx, rfl, upd_same, OwnA.app ((e8 _).2 d y fx hx o1) (e8 _).1, rfl⟩
            have nd := n1.nd j
            rw [e4] at nd
            obtain ⟨nd1, nd2⟩ := List.nodup_cons.mp nd
            have nd3 : (t :: (f1 ++ fx)).Nodup := by
              refine List.nodup_cons.mpr ⟨fun w => (List.mem_append.mp w).elim e6 hx, List.nodup_append.mpr ⟨nd2, o2, fun a ha b hb z => ?_⟩⟩
              subst z
              exact (o3 a hb).2 j (by rw [e4]; exact List.mem_cons_of_mem _ ha)
            have hin : ∀ a ∈ t :: (f1 ++ fx), a ∈ fp1 j ∨ a ∈ fx := fun a ha => by
              rcases List.mem_cons.mp ha with w | w
              · rw [w]; exact .inl ht
              · rcases List.mem_append.mp w with w | w
                · exact .inl (by rw [e4]; exact List.mem_cons_of_mem _ w)
                · exact .inr w
            exact h1 σ _ F1 (fpu fp1 j (t :: (f1 ++ fx))) (Tr.mut t1 (keep_mut ht) fun a ha => (hin a ha).imp id fun w => o4 a w)
              (n1.mut (keep_mut ht) hty hσ (gt_lt hj1) hown nd3 (fun a ha => (hin a ha).imp id fun w => o3 a w) (fun _ _ _ => trivial) (sub_mut n1 ht))
          · have h1 : PoS g ty W rk .stk σ H F fp Z := by simpa only [updP, appF, if_neg z] using h1
            exact h1.elim
        | _ => exact h1.elim
    | _ => exact h.elim
theorem swapsS_no {t x : Expr} {n : Nat} {env : Env} (h : noComp x = true) : swapsWithSole [t] x n env = pure false := by
  cases x <;> first | rfl | cases h
/-- name[i] = e -/
def plainIx : Expr → Bool
  | .Slice _ _ _ _ => false
  | _ => true
theorem asg_sub {o i : Expr} {env : Env} (h : plainIx i = true) : ∀ v, assign (.Subscript o i pos) env v = (do
      let ov ← holding [v] (eval o env)
      let iv ← holding [v, ov] (eval i env)
      standAt pos
      holding [v, ov, iv] (setItem ov iv v)
      release [v, ov, iv] []) := fun v => by cases i <;> first | rfl | cases h
theorem s_setI {j q k : Nat} {x : Str} (hty : ty.l[j]? = some (q, k + 1)) (hN : X.N[q]? = some x) (hv : Vis X.env.scope x) (hd : (x == ("__debug__" : Str)) = false) (hc : (x == ("__classdict__" : Str)) = false) (ha : PE X xa (tE g φ P ty W (kOf k) a)) (hb : PE X xb (tE g φ P ty W .F b)) (hn : noComp xa = true) (hx : plainIx xb = true) :
    PS X (.Assign [.Subscript (.Name x p2) xb apos] xa pos) (tS g φ P ty W rk (.set j .nil b a)) := by
  refine PS.imp (ps_asg ha (pg_sub (pe_var hN hv hd hc) hb set_list (asg_sub hx)) (swapsS_no hn) (by cases xa <;> rfl) rfl) fun Z σ H ⟨e, F, fp, N, h⟩ => ⟨e, F, fp, N, ?_⟩
  rw [evS] at h
  cases hr : ev φ P a e with
  | stk => rw [hr] at h; exact h.elim
  | err y e1 => rw [hr] at h; exact fun c dd H2 F2 fp2 t2 n2 x2 => h c dd σ H2 F2 fp2 (t2.weak fun z => by cases z) n2 x2
  | ok d e1 =>
    rw [hr] at h
    intro y H1 F1 fp1 t1 n1 r1
    cases hj : gt e1 j with
    | none =>
      have h : PoS g ty W rk .stk σ H F fp Z := by simpa only [RE.o, hj] using h
      exact h.elim
    | some d0 =>
      cases d0 with
      | lst l0 =>
        have h : PoS g ty W rk ((ev φ P b e1).o fun y e => upd1 j (updP (setF y d) []) e) σ H F fp Z := by simpa only [RE.o, hj, evs] using h
        obtain ⟨q', k', v, h1, hσ, _⟩ := n1.val j _ hj
        rw [hty] at h1
        cases h1
        refine ⟨v, hσ, e1, F1, fp1, n1, ?_⟩
        cases hr2 : ev φ P b e1 with
        | stk => rw [hr2] at h; exact h.elim
        | err y2 e2 => rw [hr2] at h; exact fun c dd H2 F2 fp2 t2 n2 x2 => h c dd σ H2 F2 fp2 (((t1.weak (q := false) fun z => by cases z)).trans (t2.weak (q := false) fun z => by cases z)) n2 x2
        | ok d2 e2 =>
          rw [hr2] at h
          intro iv H2 F2 fp2 t2 n2 r2
          have h : PoS g ty W rk (upd1 j (updP (setF d2 d) []) e2) σ H F fp Z := h
          unfold upd1 at h
          cases hj1 : gt e2 j with
          | none => rw [hj1] at h; exact h.elim
          | some d1 =>
            rw [hj1] at h
            cases d1 with
            | lst l1 =>
              cases d2 with
              | int i =>
                cases hix : ixN l1.length i with
                | none =>
                  have h : PoS g ty W rk .stk σ H F fp Z := by simpa only [updP, setF, hix] using h
                  exact h.elim
                | some m =>
                  have h : PoS g ty W rk (.nx (st e2 j (some (.lst (l1.set m d))))) σ H F fp Z := by simpa only [updP, setF, hix] using h
                  obtain ⟨t, xs1, f1, ev1, e3, e4, e5, e6, e7, e8⟩ := Own.list n2 hj1 hty hσ
                  subst ev1
                  have hm : m < l1.length := (ixN_seq hix).2.1
                  obtain ⟨z, fz, fa, fb, g1, g2, g3, g4⟩ := OwnA.at e5 (List.getElem?_eq_getElem hm)
                  have t12 : Tr (pureE a && pureE b) H F fp H2 F2 fp2 := t1.trans t2
                  obtain ⟨fx, o1, o2, o3, o4⟩ := (r1.keep t2 (by cases k <;> intro k' z <;> cases z)).own n2 t12
                  have ht : t ∈ fp2 j := by rw [e4]; exact List.mem_cons_self
                  have hx : t ∉ fx := fun w => (o3 t w).2 j ht
                  refine ⟨t, xs1, i, m, rfl, r2, e3, by rw [e7]; exact hix, ?_⟩
                  have nt : ∀ w, w ∈ fa ∨ w ∈ fb → w ∈ f1 := fun w hw => by
                    rw [g3]
                    rcases hw with hw | hw
                    · exact List.mem_append_left _ hw
                    · exact List.mem_append_right _ (List.mem_append_right _ hw)
                  have hown : Own g (upd H2 t (.lst (xs1.set m y))) F2 (k + 1) (.lst (l1.set m d)) (.ref t) (t :: (fa ++ (fx ++ fb))) :=
                    ⟨t, xs1.set m y, fa ++ (fx ++ fb), rfl, upd_same, g4 _ d y fx ((e8 _).2 d y fx hx o1) fun d x f2 h2 h3 => (e8 _).2 d x f2 (fun w => e6 (nt t (h2 t w))) h3, rfl⟩
                  have nd := n2.nd j
                  rw [e4] at nd
                  obtain ⟨nd1, nd2⟩ := List.nodup_cons.mp nd
                  rw [g3] at nd2
                  obtain ⟨na, nb, nc⟩ := List.nodup_append.mp nd2
                  obtain ⟨nb1, nb2, nb3⟩ := List.nodup_append.mp nb
                  have fx1 : ∀ w ∈ fx, w ∉ f1 := fun w hw hw2 => (o3 w hw).2 j (by rw [e4]; exact List.mem_cons_of_mem _ hw2)
                  have nd3 : (t :: (fa ++ (fx ++ fb))).Nodup := by
                    refine List.nodup_cons.mpr ⟨fun w => ?_, List.nodup_append.mpr ⟨na, List.nodup_append.mpr ⟨o2, nb2, fun a ha b hb z => fx1 a ha (by rw [z]; exact nt b (.inr hb))⟩, fun a ha b hb z => ?_⟩⟩
                    · rcases List.mem_append.mp w with w | w
                      · exact e6 (nt t (.inl w))
                      · rcases List.mem_append.mp w with w | w
                        · exact hx w
                        · exact e6 (nt t (.inr w))
                    · rcases List.mem_append.mp hb with w | w
                      · exact fx1 b w (by rw [← z]; exact nt a (.inl ha))
                      · exact nc a ha b (List.mem_append_right _ w) z
                  have hin : ∀ w ∈ t :: (fa ++ (fx ++ fb)), w ∈ fp2 j ∨ w ∈ fx := fun w hw => by
                    rcases List.mem_cons.mp hw with hw | hw
                    · rw [hw]; exact .inl ht
                    · rcases List.mem_append.mp hw with hw | hw
                      · exact .inl (by rw [e4]; exact List.mem_cons_of_mem _ (nt w (.inl hw)))
                      · rcases List.mem_append.mp hw with hw | hw
                        · exact .inr hw
                        · exact .inl (by rw [e4]; exact List.mem_cons_of_mem _ (nt w (.inr hw)))
                  exact h σ _ F2 (fpu fp2 j (t :: (fa ++ (fx ++ fb)))) (Tr.mut t12 (keep_mut ht) fun a ha => (hin a ha).imp id fun w => o4 a w)
                    (n2.mut (keep_mut ht) hty hσ (gt_lt hj1) hown nd3 (fun a ha => (hin a ha).imp id fun w => o3 a w) (fun _ _ _ => trivial) (sub_mut n2 ht))
              | _ => exact h.elim
            | _ => exact h.elim
      | _ =>
        have h : PoS g ty W rk .stk σ H F fp Z := by simpa only [RE.o, hj] using h
        exact h.elim
/-- one's own flat list, written anew, nothing else -/
theorem wr1 {j q : Nat} {l l2 : List D} {t : Addr} {ys : List V} (N : Ns g ty σ H F e fp) (hj : gt e j = some (.lst l)) (hty : ty.l[j]? = some (q, 1)) (hv : σ[q]? = some (some (.ref t))) (hd : DenL g F l2 ys) :
    Tr false H F fp (upd H t (.lst ys)) F (fpu fp j [t]) ∧ Ns g ty σ (upd H t (.lst ys)) F (st e j (some (.lst l2))) (fpu fp j [t]) := by
  obtain ⟨t', xs1, f1, ev1, e3, e4, e5, e6, e7, e8⟩ := Own.list N hj hty hv
  cases ev1
  have ht : t ∈ fp j := by rw [e4]; exact List.mem_cons_self
  have hin : ∀ a ∈ [t], a ∈ fp j := fun a ha => by
    have e : a = t := by simpa using ha
    rw [e]; exact ht
  exact ⟨Tr.mut (Tr.refl false) (keep_mut ht) fun a ha => .inl (hin a ha), N.mut (keep_mut ht) hty hv (gt_lt hj) (k := 1) ⟨t, ys, [], rfl, upd_same, OwnA.of_den hd, rfl⟩ (by simp) (fun a ha => .inl (hin a ha)) (fun _ _ _ => trivial) (sub_mut N ht)⟩
theorem flat1 {j q : Nat} {l : List D} {v : V} (N : Ns g ty σ H F e fp) (hj : gt e j = some (.lst l)) (hty : ty.l[j]? = some (q, 1)) (hv : σ[q]? = some (some v)) : ∃ t xs, v = .ref t ∧ H t = some (.lst xs) ∧ DenL g F l xs := by
  obtain ⟨t', xs1, f1, ev1, e3, e4, e5, e6, e7, e8⟩ := Own.list N hj hty hv
  exact ⟨t', xs1, ev1, e3, (OwnA.den e5).1⟩
theorem s_rvs {j q : Nat} {x : Str} (hty : ty.l[j]? = some (q, 1)) (hN : X.N[q]? = some x) (hv : Vis X.env.scope x) (hd : (x == ("__debug__" : Str)) = false) (hc : (x == ("__classdict__" : Str)) = false) (hline : (apos.endLine == cpos.line) = true) :
    PS X (.Expr (.Call (.Attribute (.Name x p2) "reverse" apos) [] [] cpos) pos) (tS g φ P ty W rk (.rvs j)) := by
  refine PS.imp (ps_expr (pe_bm0 PySem.F.plainAttrs_list PySem.F.slot_list_reverse PySem.F.type_list_reverse mt_reverse (pe_var hN hv hd hc) rfl hline) rfl) fun Z σ H ⟨e, F, fp, N, h⟩ => ?_
  rw [evS] at h
  unfold upd1 at h
  cases hj : gt e j with
  | none => rw [hj] at h; exact h.elim
  | some d0 =>
    rw [hj] at h
    cases d0 with
    | lst l =>
      have h : PoS g ty W rk (.nx (st e j (some (.lst l.reverse)))) σ H F fp Z := h
      obtain ⟨q', k', v, h1, hσ, _⟩ := N.val j _ hj
      rw [hty] at h1
      cases h1
      obtain ⟨t, xs, ev1, e2, e3⟩ := flat1 N hj hty hσ
      subst ev1
      obtain ⟨w1, w2⟩ := wr1 N hj hty hσ e3.rev
      exact ⟨.ref t, hσ, tyL e2, t, xs, rfl, rfl, e2, h σ _ F _ w1 w2⟩
    | _ => exact h.elim
/-- name.pop() -/
theorem s_popl {j q : Nat} {x : Str} (hty : ty.l[j]? = some (q, 1)) (hN : X.N[q]? = some x) (hv : Vis X.env.scope x) (hd : (x == ("__debug__" : Str)) = false) (hc : (x == ("__classdict__" : Str)) = false) (hline : (apos.endLine == cpos.line) = true) :
    PE X (.Call (.Attribute (.Name x p2) "pop" apos) [] [] cpos) (tE g φ P ty W .F (.popl j)) := by
  refine PE.imp (pe_bm0 PySem.F.plainAttrs_list PySem.F.slot_list_pop PySem.F.type_list_pop mt_pop (pe_var hN hv hd hc) rfl hline) fun σ H Q ⟨e, F, fp, N, h⟩ => ?_
  rw [ev] at h
  cases hj : gt e j with
  | none => rw [hj] at h; exact h.elim
  | some d0 =>
    rw [hj] at h
    cases d0 with
    | lst l =>
      obtain ⟨q', k', v, h1, hσ, _⟩ := N.val j _ hj
      rw [hty] at h1
      cases h1
      obtain ⟨t, xs, ev1, e2, e3⟩ := flat1 N hj hty hσ
      subst ev1
      cases hl : l[l.length - 1]? with
      | none =>
        have h : Post g ty .F (pureE (.popl j)) .stk σ H F fp W Q := by simpa only [hl] using h
        exact h.elim
      | some d =>
        have h : Post g ty .F (pureE (.popl j)) (.ok d (st e j (some (.lst l.dropLast)))) σ H F fp W Q := by simpa only [hl] using h
        obtain ⟨y, h4, h5⟩ := e3.get hl
        obtain ⟨w1, w2⟩ := wr1 N hj hty hσ e3.dropLast
        refine ⟨.ref t, hσ, tyL e2, t, xs, y, rfl, rfl, e2, by rw [e3.length]; exact h4, h y _ F _ (by rw [pureE]; exact w1) w2 h5⟩
    | _ => exact h.elim
/-- name op= e on plain things -/
theorem s_aug {o : BO} {n : Nm} {q : Nat} {x : Str} {p' : Pos} (ok : NmOk ty n q 0) (hN : X.N.Nodup) (hi : X.N[q]? = some x) (hx : Loc X.env.scope x) (hf : X.fn x = true ∨ X.env.scope.names.lookup x = some .local) (ha : PE X xa (tE g φ P ty W .F a)) (ho : OpS X (inplaceOp (bop o)) (rTwo g ty W Vw (opAug o))) :
    PS X (.AugAssign (.Name x p') (bop o) xa pos) (tS g φ P ty W rk (.aug n o a)) := by
  refine ⟨fun pins s σ H Z I ⟨e, F, fp, N, h⟩ => ?_⟩
  rw [evS] at h
  cases hj : gt e n.1 with
  | none => rw [hj] at h; exact h.elim
  | some d =>
    rw [hj] at h
    obtain ⟨q', k', v, h1, hσ, hown⟩ := N.val n.1 d hj
    rw [ok.at_] at h1
    cases h1
    obtain ⟨m, hn, hl⟩ := I.loc
    have vis : Vis X.env.scope x := by rcases hx with k | k; exact .inl k; exact .inr (.inl k)
    obtain ⟨u, r, lk⟩ := hl q x v hi hσ vis
    refine wpAny_AugAssign_Name ?_
    have go : wpAny (model X.prog X.w) X.A (eval xa X.env) (fun w s₂ => wpAny (model X.prog X.w) X.A (inplaceOp (bop o) u w) (fun r s₃ => wpAny (model X.prog X.w) X.A (storeName X.env x r) (fun _ => SP X pins Z .next) X.xe s₃) X.xe s₂) X.xe s := by
      refine thn (ha.run pins s σ H (fun y H1 => rTwo g ty W Vw (opAug o) σ v y H1 fun z H2 => Z.nx (σ.set q (some z)) H2) I ⟨e, F, fp, N, ?_⟩) fun w s1 ⟨y, H1, I1, r1, q1⟩ => ?_
      · refine PoS.bind (pa := pureE a) h fun d2 e2 y H1 F1 fp1 _ h1 t1 n1 r1 => ⟨e2, F1, fp1, d, d2, n1, .inl (Den.mono t1.sub hown.1), .inl r1, ?_⟩
        cases hr : opAug o d d2 with
        | stk =>
          have h1 : PoS g ty W rk .stk σ H1 F1 fp1 Z := by simpa only [hr] using h1
          exact h1.elim
        | err y2 =>
          have h1 : PoS g ty W rk (.err y2 e2) σ H1 F1 fp1 Z := by simpa only [hr] using h1
          exact fun c dd H2 F2 fp2 t2 n2 x2 => h1 c dd σ H2 F2 fp2 (t2.weak fun z => by cases z) n2 x2
        | ok z =>
          have h1 : PoS g ty W rk (.nx (stN n z e2)) σ H1 F1 fp1 Z := by simpa only [hr] using h1
          exact fun zv H2 F2 fp2 t2 n2 r2 => h1 _ H2 F2 _ t2.store0 (n2.store0 ok r2)
      · refine thn (ho pins s1 σ H1 v y u w _ I1 r r1 q1) fun z s2 ⟨zv, H2, I2, r2, q2⟩ => ?_
        exact store_ok I2 hN hi hx r2 (fun s3 I3 => ⟨_, H2, I3, q2⟩) hf
    rcases lk with ⟨hk, hm⟩ | ⟨hk, c, hc, hcell⟩
    · exact wpAny_loadName_local I.ok.kind hk hn hm go
    · rcases hk with hk | hk
      · exact wpAny_loadName_cell I.ok.kind hk hc hcell go
      · rcases hx with k | k
        · have : X.env.scope.names.lookup x = some .free := hk
          rw [k] at this; cases this
        · have : X.env.scope.names.lookup x = some .free := hk
          rw [k] at this; cases this
end
end Ev
set_option Elab.async false
set_option linter.all false
set_option maxRecDepth 100000
set_option maxHeartbeats 1000000
/-! Ev15: list comprehensions of one clause -/
namespace Ev
open PySem L2 PySem.Spec PyProof.Rows

/-- the targets' slots ks have the places vs, and no others have -/
structure LcOk (ty : Sls) (vs ks : List Nat) : Prop where
  h1 : ∀ (i q k : Nat), ty.l[i]? = some (q, k) → q ∈ vs → i ∈ ks
  h2 : ∀ i ∈ ks, ∀ (q k : Nat), ty.l[i]? = some (q, k) → q ∈ vs
  h3 : ∀ x ∈ ty.pin, x.1 ∉ vs
def fpK (fp : Fps) (ks : List Nat) : Fps := fun i => if i ∈ ks then [] else fp i
def fpB (fp : Fps) (ks : List Nat) (fp' : Fps) : Fps := fun i => if i ∈ ks then fp i else fp' i
def WF : WX := fun _ _ _ _ => False
theorem back_len : ∀ {js : List Nat} {e x : Nv}, (back js e x).length = x.length
  | [], e, x => rfl
  | j :: js, e, x => by
    show (back js e (st x j (gt e j))).length = x.length
    rw [back_len, st_len]
theorem gt_back_out : ∀ {js : List Nat} {e x : Nv} {i : Nat}, i ∉ js → gt (back js e x) i = gt x i
  | [], e, x, i, _ => rfl
  | j :: js, e, x, i, h => by
    have h1 : i ≠ j := fun z => h (by rw [z]; exact List.mem_cons_self)
    have h2 : i ∉ js := fun z => h (List.mem_cons_of_mem _ z)
    show gt (back js e (st x j (gt e j))) i = gt x i
    rw [gt_back_out h2, gt_st_ne h1]
theorem gt_none {l : Nv} {j : Nat} (h : ¬ j < l.length) : gt l j = none := by
  cases k : gt l j with
  | none => rfl
  | some d => exact absurd (gt_lt k) h
theorem gt_back_in : ∀ {js : List Nat} {e x : Nv} {i : Nat}, x.length = e.length → i ∈ js → gt (back js e x) i = gt e i
  | j :: js, e, x, i, hl, h => by
    show gt (back js e (st x j (gt e j))) i = gt e i
    by_cases h2 : i ∈ js
    · exact gt_back_in (by rw [st_len]; exact hl) h2
    · have e1 : i = j := by
        rcases List.mem_cons.mp h with z | z
        · exact z
        · exact absurd z h2
      subst e1
      rw [gt_back_out h2]
      by_cases h3 : i < x.length
      · exact gt_st_same h3
      · rw [gt_none (by rw [st_len]; exact h3), gt_none (by rw [← hl]; exact h3)]
section
variable {g : G} {φ : Phi} {P : Pt} {ty : Sls} {W : WX} {rk : Kd} {X : Cx} {kd ka kb : Kd} {a b c : E} {xa xb xc : Expr} {pos p2 apos cpos : Pos} {l : Es} {es : List Expr}
variable {σ σ1 : L2.St} {H F H1 F1 H0 F0 H' F' : Hp} {e e' : Nv} {fp fp1 fp0 fp' : Fps} {p pa pb : Bool} {Q : VK} {Z : Ends} {vs ks : List Nat}
theorem Ns.wipe (N : Ns g ty σ H F e fp) (ok : LcOk ty vs ks) : Ns g ty (L2.wipe σ vs) H F (kill ks e) (fpK fp ks) := by
  have gs : ∀ j d, gt (kill ks e) j = some d → j ∉ ks ∧ gt e j = some d := fun j d h => by
    have h1 : j ∉ ks := fun z => gt_kill_in z h
    rw [gt_kill h1] at h
    exact ⟨h1, h⟩
  have sub : ∀ j x, x ∈ fpK fp ks j → j ∉ ks ∧ x ∈ fp j := fun j x h => by
    unfold fpK at h
    by_cases z : j ∈ ks
    · rw [if_pos z] at h; cases h
    · rw [if_neg z] at h; exact ⟨z, h⟩
  refine ⟨N.sub, fun j d h => ?_, fun j h => ?_, fun j x h => N.fr j x (sub j x h).2, fun j => ?_, fun i j hne x hx hy => N.dj i j hne x (sub i x hx).2 (sub j x hy).2, fun j q k h => by rw [wipe_length]; exact N.len j q k h, by rw [kill_len]; exact N.el, fun x hx => by rw [wipe_out (ok.h3 x hx)]; exact N.pn x hx, N.fz⟩
  · obtain ⟨h1, h2⟩ := gs j d h
    obtain ⟨q, k, v, h3, h4, h5⟩ := N.val j d h2
    refine ⟨q, k, v, h3, ?_, ?_⟩
    · rw [wipe_out fun z => h1 (ok.h1 j q k h3 z)]
      exact h4
    · unfold fpK
      rw [if_neg h1]
      exact h5
  · unfold fpK
    by_cases z : j ∈ ks
    · rw [if_pos z]
    · rw [if_neg z]
      rw [gt_kill z] at h
      exact N.nil j h
  · unfold fpK
    by_cases z : j ∈ ks
    · rw [if_pos z]; exact List.nodup_nil
    · rw [if_neg z]; exact N.nd j
theorem fpK_in {i : Nat} {x : Addr} (h : x ∈ fpK fp ks i) : i ∉ ks ∧ x ∈ fp i := by
  unfold fpK at h
  by_cases z : i ∈ ks
  · rw [if_pos z] at h; cases h
  · rw [if_neg z] at h; exact ⟨z, h⟩
theorem fpB_in {i : Nat} {x : Addr} (h : x ∈ fpB fp ks fp' i) : (i ∈ ks ∧ x ∈ fp i) ∨ (i ∉ ks ∧ x ∈ fp' i) := by
  unfold fpB at h
  by_cases z : i ∈ ks
  · rw [if_pos z] at h; exact .inl ⟨z, h⟩
  · rw [if_neg z] at h; exact .inr ⟨z, h⟩
theorem Tr.unwipe (N : Ns g ty σ H F e fp) (t : Tr p H F (fpK fp ks) H' F' fp') : Tr p H F fp H' F' (fpB fp ks fp') := by
  have nk : ∀ a, (∀ j, a ∉ fp j) → ∀ j, a ∉ fpK fp ks j := fun a h j hj => h j (fpK_in hj).2
  refine ⟨t.sub, fun a o h w => t.keep a o h (w.imp id (nk a)), fun a h k w => t.nofr a h k (w.imp id (nk a)), fun j a ha => ?_, fun w => ?_⟩
  · rcases fpB_in ha with ⟨_, h⟩ | ⟨_, h⟩
    · exact .inl ⟨j, h⟩
    · rcases t.new j a h with ⟨i, hi⟩ | h
      · exact .inl ⟨i, (fpK_in hi).2⟩
      · exact .inr h
  · funext j
    have e1 := congrFun (t.same w) j
    unfold fpB
    by_cases z : j ∈ ks
    · rw [if_pos z]
    · rw [if_neg z, e1]
      unfold fpK
      rw [if_neg z]
theorem Ns.unwipe (N : Ns g ty σ H F e fp) (ok : LcOk ty vs ks) (t : Tr p H F (fpK fp ks) H' F' fp') (n : Ns g ty (L2.wipe σ vs) H' F' e' fp') : Ns g ty σ H' F' (back ks e e') (fpB fp ks fp') := by
  have hl : e'.length = e.length := by rw [n.el, N.el]
  have out : ∀ i x, i ∈ ks → x ∈ fp i → ∀ j, x ∉ fpK fp ks j := fun i x hi hx j hj => by
    obtain ⟨h1, h2⟩ := fpK_in hj
    exact N.dj i j (fun z => h1 (by rw [← z]; exact hi)) x hx h2
  refine ⟨n.sub, fun j d h => ?_, fun j h => ?_, fun j x h => ?_, fun j => ?_, fun i j hne x hx hy => ?_, N.len, by rw [back_len]; exact n.el, N.pn, n.fz⟩
  · by_cases z : j ∈ ks
    · rw [gt_back_in hl z] at h
      obtain ⟨q, k, v, h3, h4, h5⟩ := N.val j d h
      refine ⟨q, k, v, h3, h4, ?_⟩
      unfold fpB
      rw [if_pos z]
      exact h5.keep t.sub fun b hb o ho => t.keep b o ho (.inr (out j b z hb))
    · rw [gt_back_out z] at h
      obtain ⟨q, k, v, h3, h4, h5⟩ := n.val j d h
      refine ⟨q, k, v, h3, (wipe_some h4).1, ?_⟩
      unfold fpB
      rw [if_neg z]
      exact h5
  · unfold fpB
    by_cases z : j ∈ ks
    · rw [gt_back_in hl z] at h
      rw [if_pos z]
      exact N.nil j h
    · rw [gt_back_out z] at h
      rw [if_neg z]
      exact n.nil j h
  · rcases fpB_in h with ⟨h1, h2⟩ | ⟨h1, h2⟩
    · exact t.nofr x (N.there j x h2) (N.fr j x h2) (.inr (out j x h1 h2))
    · exact n.fr j x h2
  · unfold fpB
    by_cases z : j ∈ ks
    · rw [if_pos z]; exact N.nd j
    · rw [if_neg z]; exact n.nd j
  · have mix : ∀ i j x, i ∈ ks → x ∈ fp i → x ∈ fp' j → False := fun i j x hi h1 h2 => by
      rcases t.new j x h2 with ⟨i', h3⟩ | h3
      · exact out i x hi h1 i' h3
      · exact N.there i x h1 h3
    rcases fpB_in hx with ⟨h1, h2⟩ | ⟨h1, h2⟩ <;> rcases fpB_in hy with ⟨h3, h4⟩ | ⟨h3, h4⟩
    · exact N.dj i j hne x h2 h4
    · exact mix i j x h1 h2 h4
    · exact mix j i x h3 h4 h2
    · exact n.dj i j hne x h2 h4
theorem wipe_in : ∀ {vs : List Nat} {σ : L2.St} {q : Nat}, q ∈ vs → (L2.wipe σ vs)[q]? = if q < σ.length then some none else none
  | v :: vs, σ, q, h => by
    unfold L2.wipe
    by_cases z : q = v
    · subst z
      by_cases y : q < σ.length
      · rw [if_pos y, List.getElem?_set_self (by rw [wipe_length]; exact y)]
      · rw [if_neg y]
        exact List.getElem?_eq_none (by rw [List.length_set, wipe_length]; omega)
    · rw [List.getElem?_set_ne fun w => z w.symm]
      rcases List.mem_cons.mp h with w | w
      · exact absurd w z
      · exact wipe_in w
theorem wipe_back {σ2 : L2.St} (ok : LcOk ty vs ks) (h : SigEq ty ks (L2.wipe σ vs) σ2) : L2.wipe σ2 vs = L2.wipe σ vs := by
  have hl : σ2.length = σ.length := by rw [h.1, wipe_length]
  refine List.ext_getElem? fun q => ?_
  by_cases z : q ∈ vs
  · rw [wipe_in z, wipe_in z, hl]
  · rw [wipe_out z, h.2 q fun i hi k hk => z (ok.h2 i hi q k hk)]
/-- a new thing of no one's changes -/
theorem Tr.updN {D : Addr} {o : HO} (t : Tr p H F fp H1 F1 fp1) (h : H D = none) : Tr p H F fp (upd H1 D o) F1 fp1 :=
  ⟨t.sub, fun a u k w => by
    have n : a ≠ D := fun z => by rw [z, h] at k; cases k
    rw [upd_ne n]
    exact t.keep a u k w, t.nofr, t.new, t.same⟩
theorem Ns.updN {D : Addr} {o : HO} (N : Ns g ty σ H F e fp) (hf : F D = none) (h : ∀ j, D ∉ fp j) : Ns g ty σ (upd H D o) F e fp :=
  N.keep Sub.rfl' (fun a u k => by
    have n : a ≠ D := fun z => by rw [z, hf] at k; cases k
    rw [upd_ne n]
    exact N.sub _ _ k) (fun j a ha u k => by
    have n : a ≠ D := fun z => h j (by rw [← z]; exact ha)
    rw [upd_ne n]
    exact k) N.fr
/-- the tests of a clause -/
def tC1 (g : G) (φ : Phi) (P : Pt) (ty : Sls) (cnd : Eo) : TT := fun σ H Q => ∃ e F fp, Ns g ty σ H F e fp ∧ PostB g ty (pureO cnd) (evc φ P cnd e) σ H F fp WF Q
theorem s_c0 : PTs X [] (tC1 g φ P ty .none) := ⟨fun pins s σ H Q I ⟨e, F, fp, N, h⟩ => pts_nil.run pins s σ H Q I (by
  rw [evc] at h
  obtain ⟨b, h1, h2⟩ := h
  cases h1
  exact h2 H F fp (Tr.refl _) N)⟩
theorem s_c1 (h : PT X xc (tT g φ P ty WF c)) : PTs X [xc] (tC1 g φ P ty (.some c)) := ⟨fun pins s σ H Q I ⟨e, F, fp, N, w⟩ => (pts_one h).run pins s σ H Q I (by
  rw [evc] at w
  exact ⟨e, F, fp, N, w⟩)⟩
theorem OwnA.keepS {k : Nat} {l : List D} {xs : List V} {f : List Addr} (h : OwnA (Own g H F k) l xs f) (s : Sub F F1) (w : ∀ b ∈ f, ∀ o, H b = some o → H1 b = some o) : OwnA (Own g H1 F1 k) l xs f :=
  h.mono fun d x f1 hf h1 => h1.keep s fun b hb => w b (hf b hb)
theorem OwnA.dom {k : Nat} {l : List D} {xs : List V} {f : List Addr} (h : OwnA (Own g H F k) l xs f) : ∀ b ∈ f, H b ≠ none := OwnA.there (fun d v f h => h.there) h
/-- the turns' state: what is made so far is xs, at D -/
def LcI (g : G) (φ : Phi) (P : Pt) (ty : Sls) (k : Nat) (tg : Tg) (tst elt : Nv → RE D) (ds : List D) (R : RE (List D)) (p : Bool) (σw : L2.St) (H1 F1 : Hp) (fk : Fps) (Da : Addr) (i : Nat) (H : Hp) : Prop :=
  ∃ e F fp acc xs f, Tr p H1 F1 fk H F fp ∧ Ns g ty σw H F e fp ∧ H Da = some (.lst xs) ∧ OwnA (Own g H F k) acc xs f ∧ f.Nodup ∧ Da ∉ f ∧ (∀ a ∈ f, F a = none ∧ (∀ j, a ∉ fp j) ∧ ((∃ i, a ∈ fk i) ∨ H1 a = none)) ∧ F Da = none ∧ (∀ j, Da ∉ fp j) ∧ lcRun tg tst elt (ds.drop i) acc e = R
theorem lc_read {k : Nat} {own : List (Str × Nat)} {tg : Tg} {it : Ev.It} {cnd : Eo} {x : E} (lk : LcOk ty (own.map (·.2)) (tgS tg)) (σ : L2.St) (H : Hp) (Q : VK) (w : tE g φ P ty W (.own (k + 1)) (.lc x (.one tg it cnd)) σ H Q) :
    tLc (tI g φ P ty W it) (gD g ty tg) (tC1 g φ P ty cnd) (tE g φ P ty WF (kOf k) x) (own.map (·.2)) σ H Q := by
  obtain ⟨e, F, fp, N, h⟩ := w
  refine ⟨e, F, fp, N, ?_⟩
  rw [ev, pureE] at h
  cases hr : evi φ P it e with
  | stk => rw [hr] at h; exact h.elim
  | err y e1 => rw [hr] at h; exact fun c dd H2 F2 fp2 t2 n2 x2 => h c dd H2 F2 fp2 (t2.weak fun z => by cases z) n2 x2
  | ok ds e1 =>
    rw [hr] at h
    intro J H1 F1 fp1 t1 n1 hJ D hD
    have h : Post g ty (.own (k + 1)) false ((lcRun tg (evc φ P cnd) (ev φ P x) ds [] (kill (tgS tg) e1)).bind fun r e' => .ok (.lst r) (Ev.back (tgS tg) e1 e')) σ H1 F1 fp1 W Q := Post.shift (pa := pureI it) (by rw [Bool.and_false]; exact h) t1
    have nD : F1 D = none := n1.sub.none hD
    have fD : ∀ j, D ∉ fp1 j := fun j hj => n1.there j D hj hD
    generalize hR : lcRun tg (evc φ P cnd) (ev φ P x) ds [] (kill (tgS tg) e1) = R at h
    have hns : R ≠ .stk := fun z => by rw [z] at h; exact h
    refine ⟨fun i m H => m = ds.length - i ∧ i ≤ ds.length ∧ LcI g φ P ty k tg (evc φ P cnd) (ev φ P x) ds R false (wipe σ (own.map (·.2))) H1 F1 (fpK fp1 (tgS tg)) D i H, ⟨ds.length, rfl, Nat.zero_le _, kill (tgS tg) e1, F1, fpK fp1 (tgS tg), [], [], [], ?_, ?_, upd_same, ⟨rfl, rfl⟩, List.nodup_nil, (fun z => by cases z), (fun a ha => by cases ha), nD, (fun j hj => fD j (fpK_in hj).2), hR⟩, ?_⟩
    · exact (Tr.refl _).updN hD
    · exact (n1.wipe lk).updN nD fun j hj => fD j (fpK_in hj).2
    rintro i m H ⟨em, hle, e, F, fp, acc, xs, f, t, n, hH, ho, nd, nDf, hf, hFD, hfD, hrun⟩
    subst em
    by_cases hlt : i < ds.length
    · refine .inr ⟨hJ.go i H (t.sub.trans n.sub) hlt, LcI g φ P ty k tg (evc φ P cnd) (ev φ P x) ds R false (wipe σ (own.map (·.2))) H1 F1 (fpK fp1 (tgS tg)) D (i + 1), fun H' w => ⟨ds.length - (i + 1), by omega, rfl, hlt, w⟩, fun v H' y => ?_⟩
      obtain ⟨F3, d, t3, n3, hd, hx⟩ := hJ.yld i H F v H' ty _ e fp t.sub n y hlt
      have ed : ds.drop i = d :: ds.drop (i + 1) := by
        rw [List.getElem?_eq_getElem hlt] at hd
        cases hd
        exact List.drop_eq_getElem_cons hlt
      rw [ed, lcRun] at hrun
      cases hst : stT tg d e with
      | none => rw [hst] at hrun; exact absurd hrun.symm hns
      | some e2 =>
        rw [hst] at hrun
        refine ⟨e, F3, fp, d, e2, n3, hx, hst, fun σ2 fp4 sq t4 n4 => ?_⟩
        have wb := wipe_back lk sq
        have fp4s : ∀ j, ∀ a ∈ fp4 j, (∃ i, a ∈ fp i) ∨ H a = none := fun j a ha => t3.back (t4.new j a ha)
        -- what is made so far stays, and so does the place of the list
        have step : ∀ {e5 : Nv} {H5 F5 : Hp} {fp5 : Fps}, Tr false H' F3 fp4 H5 F5 fp5 → Ns g ty σ2 H5 F5 e5 fp5 → Tr false H F fp H5 F5 fp5 ∧ Tr false H1 F1 (fpK fp1 (tgS tg)) H5 F5 fp5 ∧ H5 D = some (.lst xs) ∧ OwnA (Own g H5 F5 k) acc xs f ∧ (∀ a ∈ f, F5 a = none ∧ ∀ j, a ∉ fp5 j) ∧ F5 D = none ∧ (∀ j, D ∉ fp5 j) := fun {e5 H5 F5 fp5} t5 n5 => by
          have u : Tr false H F fp H5 F5 fp5 := ((t3.weak (q := false) fun z => by cases z).trans t4).trans t5
          have nH : H D ≠ none := by rw [hH]; intro z; cases z
          exact ⟨u, t.trans u, u.keep _ _ hH (.inr hfD), ho.keepS u.sub fun b hb o hbo => u.keep b o hbo (.inr (hf b hb).2.1), fun a ha => ⟨u.nofr a (ho.dom a ha) (hf a ha).1 (.inr (hf a ha).2.1), u.out (ho.dom a ha) (hf a ha).2.1⟩, u.nofr D nH hFD (.inr hfD), u.out nH hfD⟩
        have wp : ∀ {e5 : Nv} {H5 F5 : Hp} {fp5 : Fps}, Ns g ty σ2 H5 F5 e5 fp5 → Ns g ty (wipe σ (own.map (·.2))) H5 F5 (kill (tgS tg) e5) (fpK fp5 (tgS tg)) := fun {e5 H5 F5 fp5} n5 => by
          have q := n5.wipe lk
          rw [wb] at q
          exact q
        have tk : ∀ {H5 F5 : Hp} {fp5 : Fps}, Tr false H1 F1 (fpK fp1 (tgS tg)) H5 F5 fp5 → Tr false H1 F1 (fpK fp1 (tgS tg)) H5 F5 (fpK fp5 (tgS tg)) := fun {H5 F5 fp5} u =>
          ⟨u.sub, u.keep, u.nofr, fun j a ha => u.new j a (fpK_in ha).2, fun z => by cases z⟩
        refine ⟨wb, e2, F3, fp4, n4, ?_⟩
        cases hcn : evc φ P cnd e2 with
        | stk => simp only [hcn] at hrun; exact absurd hrun.symm hns
        | err y2 e3 => simp only [hcn] at hrun; exact absurd hrun.symm hns
        | ok c e3 =>
          simp only [hcn] at hrun
          cases hct : tru c with
          | none => simp only [hct] at hrun; exact absurd hrun.symm hns
          | some bb =>
            refine ⟨bb, hct, fun H5 F5 fp5 t5 n5 => ?_⟩
            have t5 := t5.weak (q := false) fun z => by cases z
            cases bb with
            | false =>
              simp only [hct] at hrun
              obtain ⟨u1, u2, u3, u4, u5, u6, u7⟩ := step t5 n5
              show (if false = true then _ else _)
              rw [if_neg (by decide)]
              exact ⟨kill (tgS tg) e3, F5, fpK fp5 (tgS tg), acc, xs, f, tk u2, wp n5, u3, u4, nd, nDf, fun a ha => ⟨(u5 a ha).1, fun j hj => (u5 a ha).2 j (fpK_in hj).2, (hf a ha).2.2⟩, u6, fun j hj => u7 j (fpK_in hj).2, hrun⟩
            | true =>
              simp only [hct] at hrun
              show (if true = true then _ else _)
              rw [if_pos rfl]
              refine ⟨e3, F5, fp5, n5, ?_⟩
              cases hel : ev φ P x e3 with
              | stk => simp only [hel] at hrun; exact absurd hrun.symm hns
              | err y2 e4 => simp only [hel] at hrun; exact absurd hrun.symm hns
              | ok dx e4 =>
                simp only [hel] at hrun
                by_cases hz : acc.length < sizeLine
                · rw [if_pos hz] at hrun
                  intro yv H6 F6 fp6 t6 n6 r6
                  have t56 := t5.trans (t6.weak (q := false) fun z => by cases z)
                  obtain ⟨v1, v2, v3, v4, v5, v6, v7⟩ := step t5 n5
                  obtain ⟨u1, u2, u3, u4, u5, u6, u7⟩ := step t56 n6
                  obtain ⟨fx, o1, o2, o3, o4⟩ := r6.own n6 t6
                  have xD : D ∉ fx := fun w => by
                    rcases o4 D w with ⟨i', hi'⟩ | h0
                    · exact v7 i' hi'
                    · rw [v3] at h0; cases h0
                  have xf : ∀ a ∈ f, a ∉ fx := fun a ha w => by
                    rcases o4 a w with ⟨i', hi'⟩ | h0
                    · exact (v5 a ha).2 i' hi'
                    · exact v4.dom a ha h0
                  have kp : ∀ b, b ≠ D → ∀ o, H6 b = some o → upd H6 D (.lst (xs ++ [yv])) b = some o := fun b hb o hbo => by rw [upd_ne hb]; exact hbo
                  refine ⟨xs, u3, by rw [u4.length]; exact hz, kill (tgS tg) e4, F6, fpK fp6 (tgS tg), acc ++ [dx], xs ++ [yv], f ++ fx, (tk u2).updN hD, (wp n6).updN u6 fun j hj => u7 j (fpK_in hj).2, upd_same, OwnA.app (o1.keep Sub.rfl' fun b hb => kp b fun z => xD (by rw [← z]; exact hb)) (u4.keepS Sub.rfl' fun b hb => kp b fun z => nDf (by rw [← z]; exact hb)), List.nodup_append.mpr ⟨nd, o2, fun a ha b hb z => xf a ha (by rw [z]; exact hb)⟩, fun w => (List.mem_append.mp w).elim nDf xD, fun a ha => ?_, u6, fun j hj => u7 j (fpK_in hj).2, hrun⟩
                  rcases List.mem_append.mp ha with w | w
                  · exact ⟨(u5 a w).1, fun j hj => (u5 a w).2 j (fpK_in hj).2, (hf a w).2.2⟩
                  · exact ⟨(o3 a w).1, fun j hj => (o3 a w).2 j (fpK_in hj).2, v2.back (o4 a w)⟩
                · rw [if_neg hz] at hrun
                  exact absurd hrun.symm hns
    · have e1' : i = ds.length := by omega
      subst e1'
      rw [List.drop_length, lcRun] at hrun
      refine .inl ⟨hJ.stop H (t.sub.trans n.sub), ?_⟩
      by_cases z : acc.length ≤ sizeLine
      · rw [if_pos z] at hrun
        rw [← hrun] at h
        have h : Post g ty (.own (k + 1)) false (.ok (.lst acc) (Ev.back (tgS tg) e1 e)) σ H1 F1 fp1 W Q := h
        refine h (.ref D) H F _ (Tr.unwipe n1 t) (n1.unwipe lk t n) ⟨D :: f, ⟨D, xs, f, rfl, hH, ho, rfl⟩, List.nodup_cons.mpr ⟨nDf, nd⟩, fun a ha => ?_⟩
        rcases List.mem_cons.mp ha with w | w
        · rw [w]
          refine ⟨hFD, fun j hj => ?_, .inr hD⟩
          rcases fpB_in hj with ⟨_, h1⟩ | ⟨_, h1⟩
          · exact fD j h1
          · exact hfD j h1
        · obtain ⟨k1, k2, k3⟩ := hf a w
          refine ⟨k1, fun j hj => ?_, k3.imp (fun ⟨i, hi⟩ => ⟨i, (fpK_in hi).2⟩) id⟩
          rcases fpB_in hj with ⟨h0, h1⟩ | ⟨_, h1⟩
          · rcases k3 with ⟨i, hi⟩ | h2
            · obtain ⟨h3, h4⟩ := fpK_in hi
              exact n1.dj i j (fun z => h3 (by rw [z]; exact h0)) a h4 h1
            · exact n1.there j a h1 h2
          · exact k2 j h1
      · rw [if_neg z] at hrun
        exact absurd hrun.symm hns
theorem s_lc {k : Nat} {own : List (Str × Nat)} {tg : Tg} {it : Ev.It} {cnd : Eo} {x : E} {xt xi xe : Expr} {ifs : List Expr} {scope : Scope} (hc : X.calm = true) (hN : X.N.Nodup) (ok : BlkOk X.N X.env.scope scope own) (lk : LcOk ty (own.map (·.2)) (tgS tg))
    (hi : PI X xt xi (tI g φ P ty W it))
    (hg : ∀ (s : Shared) (H : Hp) (C : Addr) (cl : List (Str × Addr)) (fp : List Addr), PG (X.blk s H scope (compEnvC scope cl C X.env) fp) xt (gD g ty tg))
    (ht : ∀ (s : Shared) (H : Hp) (C : Addr) (cl : List (Str × Addr)) (fp : List Addr), PTs (X.blk s H scope (compEnvC scope cl C X.env) fp) ifs (tC1 g φ P ty cnd))
    (he : ∀ (s : Shared) (H : Hp) (C : Addr) (cl : List (Str × Addr)) (fp : List Addr), PE (X.blk s H scope (compEnvC scope cl C X.env) fp) xe (tE g φ P ty WF (kOf k) x)) (hs : ∀ v, foldedSetIterable xi X.env v = pure v) :
    PE X (.ListComp xe [⟨xt, xi, ifs, 0⟩] scope pos) (tE g φ P ty W (.own (k + 1)) (.lc x (.one tg it cnd))) := PE.imp (pe_lc hc hN hi ok hg ht he hs) (lc_read lk)
theorem tE_low {k : Nat} (h : tE g φ P ty W .F a σ H Q) : tE g φ P ty W (.own k) a σ H Q := by
  obtain ⟨e, F, fp, N, h⟩ := h
  exact ⟨e, F, fp, N, Post.low h⟩
theorem set_read {q d : Nat} {n : Nm} (nk : NmOk ty n q d) (h : tS g φ P ty W rk (.asg (.name n) a) Z σ H) : tE g φ P ty W (kOf d) a σ H fun x H1 => Z.nx (σ.set q (some x)) H1 := by
  obtain ⟨e, F, fp, N, h⟩ := h
  refine ⟨e, F, fp, N, ?_⟩
  rw [evS] at h
  cases hr : ev φ P a e with
  | stk => rw [hr] at h; exact h.elim
  | err y e1 => rw [hr] at h; exact fun c dd H2 F2 fp2 t2 n2 x2 => h c dd σ H2 F2 fp2 (t2.weak fun z => by cases z) n2 x2
  | ok d e1 =>
    rw [hr] at h
    have h : PoS g ty W rk (.nx (stN n d e1)) σ H F fp Z := by simpa only [RE.o, stT] using h
    intro v H1 F1 fp1 t1 n1 r1
    obtain ⟨f, h1, h2, h3, h4⟩ := r1.own n1 t1
    exact h _ H1 F1 _ (t1.store h4) (n1.store nk h1 h2 h3)
/-- name = [..] on one line -/
theorem s_setLc {k : Nat} {own : List (Str × Nat)} {tg : Tg} {it : Ev.It} {cnd : Eo} {x : E} {xt xi xe : Expr} {ifs : List Expr} {scope : Scope} {d q : Nat} {n : Nm} {y : Str} {py spos : Pos} (hd : d = 0 ∨ d = k + 1) (nk : NmOk ty n q d) (hy : X.N[q]? = some y) (hyl : X.env.scope.names.lookup y = some .local)
    (hsw : swapsWith (.ListComp xe [⟨xt, xi, ifs, 0⟩] scope pos) (some (.Name y py)) spos.line X.env = pure true) (hc : X.calm = true) (hN : X.N.Nodup) (ok : BlkOk X.N X.env.scope scope own) (lk : LcOk ty (own.map (·.2)) (tgS tg))
    (hi : PI X xt xi (tI g φ P ty W it))
    (hg : ∀ (s : Shared) (H : Hp) (C : Addr) (cl : List (Str × Addr)) (fp : List Addr), PG (X.blk s H scope (compEnvC scope cl C X.env) fp) xt (gD g ty tg))
    (ht : ∀ (s : Shared) (H : Hp) (C : Addr) (cl : List (Str × Addr)) (fp : List Addr), PTs (X.blk s H scope (compEnvC scope cl C X.env) fp) ifs (tC1 g φ P ty cnd))
    (he : ∀ (s : Shared) (H : Hp) (C : Addr) (cl : List (Str × Addr)) (fp : List Addr), PE (X.blk s H scope (compEnvC scope cl C X.env) fp) xe (tE g φ P ty WF (kOf k) x)) (hs : ∀ v, foldedSetIterable xi X.env v = pure v) :
    PS X (.Assign [.Name y py] (.ListComp xe [⟨xt, xi, ifs, 0⟩] scope pos) spos) (tS g φ P ty W rk (.asg (.name n) (.lc x (.one tg it cnd)))) := by
  refine PS.imp (ps_setLc hc hN hy hyl hsw hi ok hg ht he hs) fun Z σ H h => lc_read lk σ H _ ?_
  have h1 := set_read nk h
  rcases hd with z | z <;> subst z
  · exact tE_low h1
  · exact h1
/-- name = e, where the name is a cell, or on more lines -/
theorem s_setC {q k : Nat} {n : Nm} {x : Str} {p' : Pos} (ha : PE X xa (tE g φ P ty W (kOf k) a)) (nk : NmOk ty n q k) (hN : X.N.Nodup) (hi : X.N[q]? = some x) (hx : Loc X.env.scope x) (hf : X.fn x = true ∨ X.env.scope.names.lookup x = some .local) (hs : swapsWith xa (some (.Name x p')) pos.line X.env = pure false) :
    PS X (.Assign [.Name x p'] xa pos) (tS g φ P ty W rk (.asg (.name n) a)) := PS.imp (ps_set hN hi hx ha hs hf) fun Z σ H h => set_read nk h
theorem sw_false {elt : Expr} {gs : List Comprehension} {scope : Scope} {pos py : Pos} {y : Str} {l : Nat} {env : Env} (hy : env.scope.names.lookup y = some .cell) : swapsWith (.ListComp elt gs scope pos) (some (.Name y py)) l env = pure false := by
  have ky : env.kindOf y = some .cell := hy
  unfold swapsWith
  simp only [ky]
  have e1 : ((some NameKind.cell : Option NameKind) == some NameKind.local) = false := rfl
  simp only [e1, Bool.and_false, Bool.false_and]
end
end Ev
set_option Elab.async false
set_option linter.all false
set_option maxRecDepth 100000
set_option maxHeartbeats 1000000
/-! Ev16: defs: what the core of a def computes; a def keeps its promise -/
namespace Ev
open PySem L2 PySem.Spec PyProof.Rows

/-- the core of a def -/
structure Fc where
  ar : Nat
  n : Nat
  body : Ss
  ret : Kd := .F
  lent : Option (Nat × Nat) := none
  /-- what is given behind the arguments (defaults) -/
  app : List D := []
def ini (n : Nat) (ds : List D) : Nv := ds.map some ++ List.replicate (n - ds.length) none
def isF : Kd → Bool
  | .F => true
  | _ => false
def fin0 (b : Bool) : O → RF
  | .ret d _ => .ok d .non
  | .nx _ => if b then .ok .non .non else .stk
  | .err x _ => .err x
  | _ => .stk
def finL (b : Bool) (p : Nat) : O → RF
  | .ret d e => match gt e p with
    | some o => .ok d o
    | none => .stk
  | .nx e => match gt e p with
    | some o => if b then .ok .non o else .stk
    | none => .stk
  | .err x _ => .err x
  | _ => .stk
def runF (φ : Phi) (P : Pt) (c : Fc) (ds : List D) : RF := if ds.length = c.ar then (match c.lent with
  | none => fin0 (isF c.ret) (evSs φ P c.body (ini c.n ds))
  | some (p, _) => finL (isF c.ret) p (evSs φ P c.body (ini c.n ds))) else .stk
/-- the program, r calls deep -/
def phiAt (T : Nat → Fc) (P : Pt) : Nat → Phi
  | 0 => fun _ _ => .stk
  | r + 1 => fun n ds => runF (phiAt T P r) P (T n) (ds ++ (T n).app)
theorem gt_ini {n : Nat} {ds : List D} {j : Nat} {d : D} (h : gt (ini n ds) j = some d) : ds[j]? = some d := by
  rw [gt_eq] at h
  unfold ini at h
  by_cases z : j < ds.length
  · rw [List.getElem?_append_left (by simpa using z), List.getElem?_map] at h
    cases e : ds[j]? with
    | none => rw [e] at h; cases h
    | some a => rw [e] at h; exact h
  · rw [List.getElem?_append_right (by simpa using z), List.getElem?_replicate] at h
    split at h <;> cases h
theorem start_get {N : List Str} {vs : List V} {j : Nat} {v : V} (h : vs[j]? = some v) : (L2.start N vs)[j]? = some (some v) := by
  have z : j < vs.length := (List.getElem?_eq_some_iff.mp h).1
  unfold L2.start
  rw [List.getElem?_append_left (by simpa using z), List.getElem?_map, h]
  rfl
theorem start_len' {N : List Str} {vs : List V} (h : vs.length ≤ N.length) : (L2.start N vs).length = N.length := by
  unfold L2.start
  rw [List.length_append, List.length_map, List.length_replicate]
  omega
/-- the slots of a def's core: the parameters first -/
structure TyOk (c : Fc) (l : List (Nat × Nat)) (N : List Str) (ps : List Str) : Prop where
  len : l.length = c.n
  ar : c.ar = ps.length
  le : c.ar ≤ c.n
  leN : ps.length ≤ N.length
  inN : ∀ x ∈ l, x.1 < N.length
  par : ∀ i, i < c.ar → l[i]? = some (i, match c.lent with | some (p, k) => if i = p then k else 0 | none => 0)
  lt : ∀ p k, c.lent = some (p, k) → p < c.ar
  nb : ∀ k, c.ret ≠ .bor k
section
variable {g : G} {φ : Phi} {P : Pt} {W : WX} {rk : Kd}
variable {σ σ1 : L2.St} {H F H1 F1 H0 F0 H' F' : Hp} {e e' : Nv} {fp fp1 fp0 fp' : Fps} {p pa pb : Bool} {Q : VK} {E : XK}
theorem start_ns {c : Fc} {l : List (Nat × Nat)} {N ps : List Str} {ds : List D} {vs : List V} (ok : TyOk c l N ps) (hl : c.lent = none) (s : Sub F H) (hd : DenL g F ds vs) (ha : ds.length = c.ar) : Ns g ⟨l, [], []⟩ (L2.start N vs) H F (ini c.n ds) nf := by
  have hv : vs.length = ds.length := hd.length
  refine ⟨s, fun j d h => ?_, fun _ _ => rfl, fun j a ha => (by cases ha), fun _ => List.nodup_nil, fun i j _ a ha => (by cases ha), fun j q k h => ?_, ?_, fun x hx => (by cases hx), fun x hx => (by cases hx)⟩
  · have h1 := gt_ini h
    have hj : j < c.ar := by rw [← ha]; exact (List.getElem?_eq_some_iff.mp h1).1
    obtain ⟨v, h2, h3⟩ := hd.get h1
    have h4 := ok.par j hj
    rw [hl] at h4
    exact ⟨j, 0, v, h4, start_get h2, h3, rfl⟩
  · rw [start_len' (by rw [hv, ha, ok.ar]; exact ok.leN)]
    exact ok.inN _ (List.mem_of_getElem? h)
  · have h1 := ok.len
    have h2 := ok.le
    show (ini c.n ds).length = l.length
    unfold ini
    rw [List.length_append, List.length_map, List.length_replicate]
    omega
theorem Tr.np' (t : Tr false H F nf H1 F1 fp1) : Tr true H F nf H1 F1 nf :=
  ⟨t.sub, fun a o h _ => t.keep a o h (.inr fun j hj => (by cases hj)), fun a h k _ => t.nofr a h k (.inr fun j hj => (by cases hj)), fun j a h => (by cases h), fun _ => rfl⟩
theorem Res.nf' {kd : Kd} {d : D} {v : V} (nb : ∀ k, kd ≠ .bor k) (r : Res g H nf H1 F1 fp1 kd d v) : Res g H nf H1 F1 nf kd d v := by
  cases kd with
  | F => exact r
  | bor k => exact absurd rfl (nb k)
  | own k =>
    obtain ⟨f, h1, h2, h3⟩ := r
    exact ⟨f, h1, h2, fun a ha => ⟨(h3 a ha).1, fun j hj => (by cases hj), (h3 a ha).2.2⟩⟩
theorem isF_eq {kd : Kd} (h : isF kd = true) : kd = .F := by cases kd <;> first | rfl | cases h
theorem body_plain {c : Fc} {l : List (Nat × Nat)} {N ps : List Str} {vs : List V} (ok : TyOk c l N ps) (hl : c.lent = none) {n : Nat} {φ1 : Phi} (hφ : ∀ ds, φ1 n ds = runF φ P c ds) (h : spP g φ1 c.ret n vs H Q E) :
    vs.length = ps.length ∧ tSs g φ P ⟨l, [], []⟩ (fun c dd _ H' => E c dd H') c.ret c.body { nx := fun _ H' => Q .non H', rt := Q } (L2.start N vs) H := by
  obtain ⟨F, ds, s, hd, h⟩ := h
  rw [hφ] at h
  by_cases ha : ds.length = c.ar
  · have N1 := start_ns (g := g) (N := N) ok hl s hd ha
    refine ⟨by rw [hd.length, ha, ok.ar], _, F, nf, N1, ?_⟩
    have e1 : runF φ P c ds = fin0 (isF c.ret) (evSs φ P c.body (ini c.n ds)) := by
      unfold runF
      rw [if_pos ha, hl]
    rw [e1] at h
    cases hr : evSs φ P c.body (ini c.n ds) with
    | stk => rw [hr] at h; exact h.elim
    | bk e => rw [hr] at h; exact h.elim
    | ct e => rw [hr] at h; exact h.elim
    | err x e =>
      rw [hr] at h
      exact fun c dd σ1 H1 F1 fp1 t n x2 => h c dd H1 F1 t.np' n.sub x2
    | nx e =>
      rw [hr] at h
      by_cases hb : isF c.ret = true
      · have e2 : fin0 (isF c.ret) (.nx e) = .ok .non .non := by unfold fin0; rw [if_pos hb]
        rw [e2] at h
        refine fun σ1 H1 F1 fp1 t n => h .non H1 F1 t.np' n.sub ?_
        rw [isF_eq hb]
        exact rfl
      · have e2 : fin0 (isF c.ret) (.nx e) = .stk := by unfold fin0; rw [if_neg hb]
        rw [e2] at h
        exact h.elim
    | ret d e =>
      rw [hr] at h
      exact fun v σ1 H1 F1 fp1 t n r => h v H1 F1 t.np' n.sub (r.nf' ok.nb)
  · have e1 : runF φ P c ds = .stk := by
      unfold runF
      rw [if_neg ha]
    rw [e1] at h
    exact h.elim
/-! ### with one thing lent -/
def fpL (p : Nat) (f : List Addr) : Fps := fun j => if j = p then f else []
theorem fpL_in {p j : Nat} {f : List Addr} {a : Addr} (h : a ∈ fpL p f j) : j = p ∧ a ∈ f := by
  unfold fpL at h
  by_cases z : j = p
  · rw [if_pos z] at h; exact ⟨z, h⟩
  · rw [if_neg z] at h; cases h
theorem insA_at {α : Type} {p : Nat} {x : α} {l : List α} (h : p ≤ l.length) : (insA p x l)[p]? = some x := by
  unfold insA
  rw [List.getElem?_append_right (by rw [List.length_take]; omega)]
  have e : p - (l.take p).length = 0 := by rw [List.length_take]; omega
  rw [e]
  rfl
theorem insA_ne {α β : Type} {p : Nat} {x : α} {y : β} {l : List α} {m : List β} {R : α → β → Prop} (hl : m.length = l.length) (hp : p ≤ l.length) (h : ∀ (i : Nat) (d : α), l[i]? = some d → ∃ v, m[i]? = some v ∧ R d v) {i : Nat} {d : α} (hi : i ≠ p) (hd : (insA p x l)[i]? = some d) :
    ∃ v, (insA p y m)[i]? = some v ∧ R d v := by
  unfold insA at hd ⊢
  by_cases z : i < p
  · rw [List.getElem?_append_left (by rw [List.length_take]; omega), List.getElem?_take_of_lt z] at hd
    obtain ⟨v, h1, h2⟩ := h i d hd
    exact ⟨v, by rw [List.getElem?_append_left (by rw [List.length_take]; omega), List.getElem?_take_of_lt z]; exact h1, h2⟩
  · have e1 : i - p = (i - p - 1) + 1 := by omega
    rw [List.getElem?_append_right (by rw [List.length_take]; omega), List.length_take, Nat.min_eq_left hp, e1, List.getElem?_cons_succ, List.getElem?_drop] at hd
    obtain ⟨v, h1, h2⟩ := h _ d hd
    refine ⟨v, ?_, h2⟩
    rw [List.getElem?_append_right (by rw [List.length_take]; omega), List.length_take, Nat.min_eq_left (by rw [hl]; exact hp), e1, List.getElem?_cons_succ, List.getElem?_drop]
    exact h1
theorem start_nsL {c : Fc} {l : List (Nat × Nat)} {N ps : List Str} {ds : List D} {ws : List V} {p k : Nat} {d : D} {v : V} {fl : List Addr} (ok : TyOk c l N ps) (hl : c.lent = some (p, k)) (s : Sub F H) (hd : DenL g F ds ws) (ha : (insA p d ds).length = c.ar) (hp : p ≤ ws.length)
    (ho : Own g H F k d v fl) (nd : fl.Nodup) (fr : ∀ a ∈ fl, F a = none) : Ns g ⟨l, [(p, v)], []⟩ (L2.start N (insA p v ws)) H F (ini c.n (insA p d ds)) (fpL p fl) := by
  have hv : ws.length = ds.length := hd.length
  have hp' : p ≤ ds.length := by rw [← hv]; exact hp
  have hlen : (insA p v ws).length = c.ar := by rw [insA_len, hv, ← insA_len (i := p) (x := d), ha]
  have hpv : (L2.start N (insA p v ws))[p]? = some (some v) := start_get (insA_at hp)
  refine ⟨s, fun j d' h => ?_, fun j h => ?_, fun j a ha => fr a (fpL_in ha).2, fun j => ?_, fun i j hne a ha hb => hne ((fpL_in ha).1.trans (fpL_in hb).1.symm), fun j q k h => ?_, ?_, fun x hx => ?_, fun x hx => (by cases hx)⟩
  · have h1 := gt_ini h
    have hj : j < c.ar := by rw [← ha]; exact (List.getElem?_eq_some_iff.mp h1).1
    have h4 := ok.par j hj
    rw [hl] at h4
    by_cases z : j = p
    · subst z
      rw [insA_at hp'] at h1
      cases h1
      refine ⟨j, k, v, by simpa using h4, hpv, ?_⟩
      unfold fpL
      rw [if_pos rfl]
      exact ho
    · obtain ⟨v', h2, h3⟩ := insA_ne (y := v) (R := fun d v => Den g F d v) hv hp' (fun i d h => hd.get h) z h1
      refine ⟨j, 0, v', by simpa [z] using h4, start_get h2, h3, ?_⟩
      unfold fpL
      rw [if_neg z]
  · unfold fpL
    by_cases z : j = p
    · subst z
      have hj : gt (ini c.n (insA j d ds)) j = some d := by
        rw [gt_eq]
        unfold ini
        have h2 : j < (insA j d ds).length := by rw [insA_len]; omega
        rw [List.getElem?_append_left (by rw [List.length_map]; exact h2), List.getElem?_map, insA_at hp']
        rfl
      rw [hj] at h
      cases h
    · rw [if_neg z]
  · unfold fpL
    by_cases z : j = p
    · rw [if_pos z]; exact nd
    · rw [if_neg z]; exact List.nodup_nil
  · rw [start_len' (by rw [hlen, ok.ar]; exact ok.leN)]
    exact ok.inN _ (List.mem_of_getElem? h)
  · have h1 := ok.len
    have h2 := ok.le
    show (ini c.n (insA p d ds)).length = l.length
    unfold ini
    rw [List.length_append, List.length_map, List.length_replicate]
    omega
  · have e : x = (p, v) := by simpa using hx
    rw [e]
    exact hpv
theorem Tr.one {q : Nat} {fl : List Addr} (t : Tr false H F (fpL q fl) H1 F1 fp1) : Tr false H F (one1 fl) H1 F1 (one1 (fp1 q)) ∧ Tr false H F (one1 fl) H1 F1 nf := by
  have k : ∀ a, (∀ j, a ∉ one1 fl j) → ∀ j, a ∉ fpL q fl j := fun a h j hj => h 0 (fpL_in hj).2
  have nw : ∀ a ∈ fp1 q, (∃ i, a ∈ one1 fl i) ∨ H a = none := fun a ha => by
    rcases t.new q a ha with ⟨i, hi⟩ | h
    · exact .inl ⟨0, (fpL_in hi).2⟩
    · exact .inr h
  exact ⟨⟨t.sub, fun a o h w => t.keep a o h (w.imp id (k a)), fun a h k' w => t.nofr a h k' (w.imp id (k a)), fun j a ha => nw a (one1_in ha), fun z => by cases z⟩,
    ⟨t.sub, fun a o h w => t.keep a o h (w.imp id (k a)), fun a h k' w => t.nofr a h k' (w.imp id (k a)), fun j a ha => (by cases ha), fun z => by cases z⟩⟩
theorem body_lent {c : Fc} {l : List (Nat × Nat)} {N ps : List Str} {vs : List V} {q k : Nat} (ok : TyOk c l N ps) (hl : c.lent = some (q, k)) {n : Nat} {φ1 : Phi} (hφ : ∀ ds, φ1 n ds = runF φ P c ds) (h : spL g φ1 c.ret n q k vs H Q E) :
    vs.length = ps.length ∧ ∃ v, tSs g φ P ⟨l, [(q, v)], []⟩ (fun c dd _ H' => E c dd H') c.ret c.body { nx := fun _ H' => Q .non H', rt := Q } (L2.start N vs) H := by
  obtain ⟨F, ds, fl, d, v, ws, ev, s, hd, ho, nd, fr, hp, h⟩ := h
  subst ev
  rw [hφ] at h
  have hv : ws.length = ds.length := hd.length
  by_cases ha : (insA q d ds).length = c.ar
  · have N1 := start_nsL (g := g) (N := N) ok hl s hd ha hp ho nd fr
    have hq : l[q]? = some (q, k) := by
      have h4 := ok.par q (ok.lt q k hl)
      rw [hl] at h4
      simpa using h4
    refine ⟨by rw [insA_len, hv, ← insA_len (i := q) (x := d), ha, ok.ar], v, _, F, _, N1, ?_⟩
    have e1 : runF φ P c (insA q d ds) = finL (isF c.ret) q (evSs φ P c.body (ini c.n (insA q d ds))) := by
      unfold runF
      rw [if_pos ha, hl]
    rw [e1] at h
    have slot : ∀ {σ1 : L2.St} {H1 F1 : Hp} {e : Nv} {fp1 : Fps} {o : D}, Ns g ⟨l, [(q, v)], []⟩ σ1 H1 F1 e fp1 → gt e q = some o → Own g H1 F1 k o v (fp1 q) := fun {σ1 H1 F1 e fp1 o} n1 ho => by
      obtain ⟨q', k', v', h1, h2, h3⟩ := n1.val q o ho
      have h1 : l[q]? = some (q', k') := h1
      rw [hq] at h1
      cases h1
      have h4 := n1.pn (q, v) List.mem_cons_self
      rw [h4] at h2
      cases h2
      exact h3
    cases hr : evSs φ P c.body (ini c.n (insA q d ds)) with
    | stk => rw [hr] at h; exact h.elim
    | bk e => rw [hr] at h; exact h.elim
    | ct e => rw [hr] at h; exact h.elim
    | err x e =>
      rw [hr] at h
      exact fun c dd σ1 H1 F1 fp1 t n x2 => h c dd H1 F1 t.one.2 n.sub x2
    | nx e =>
      rw [hr] at h
      cases hg : gt e q with
      | none =>
        have e2 : finL (isF c.ret) q (.nx e) = .stk := by unfold finL; simp only [hg]
        rw [e2] at h
        exact h.elim
      | some o =>
        by_cases hb : isF c.ret = true
        · have e2 : finL (isF c.ret) q (.nx e) = .ok .non o := by unfold finL; simp only [hg, if_pos hb]
          rw [e2] at h
          refine fun σ1 H1 F1 fp1 t n => h .non H1 F1 (fp1 q) t.one.1 n.sub (slot n hg) (n.nd q) (n.fr q) ?_
          rw [isF_eq hb]
          exact rfl
        · have e2 : finL (isF c.ret) q (.nx e) = .stk := by unfold finL; simp only [hg, if_neg hb]
          rw [e2] at h
          exact h.elim
    | ret d e =>
      rw [hr] at h
      cases hg : gt e q with
      | none =>
        have e2 : finL (isF c.ret) q (.ret d e) = .stk := by unfold finL; simp only [hg]
        rw [e2] at h
        exact h.elim
      | some o =>
        have e2 : finL (isF c.ret) q (.ret d e) = .ok d o := by unfold finL; simp only [hg]
        rw [e2] at h
        refine fun u σ1 H1 F1 fp1 t n r => h u H1 F1 (fp1 q) t.one.1 n.sub (slot n hg) (n.nd q) (n.fr q) ?_
        have nb := ok.nb
        revert r nb
        generalize c.ret = kd
        intro r nb
        cases kd with
        | F => exact r
        | bor k => exact absurd rfl (nb k)
        | own k =>
          obtain ⟨f, h1, h2, h3⟩ := r
          exact ⟨f, h1, h2, fun a ha => ⟨(h3 a ha).1, fun j hj => (h3 a ha).2.1 q (one1_in hj), (h3 a ha).2.2.imp (fun ⟨i, hi⟩ => ⟨0, (fpL_in hi).2⟩) id⟩⟩
  · have e1 : runF φ P c (insA q d ds) = .stk := by
      unfold runF
      rw [if_neg ha]
    rw [e1] at h
    exact h.elim
end
end Ev
set_option Elab.async false
set_option linter.all false
set_option maxRecDepth 100000
set_option maxHeartbeats 1000000
/-! Ev17: handing a list on, freezing; the program's table and the calls by it -/
namespace Ev
open PySem L2 PySem.Spec PyProof.Rows

section
variable {g : G} {φ : Phi} {P : Pt} {ty : Sls} {W : WX} {rk : Kd} {X : Cx} {kd ka kb : Kd} {a b c : E} {xa xb xc : Expr} {pos p2 apos cpos : Pos} {l : Es} {es : List Expr}
variable {σ σ1 : L2.St} {H F H1 F1 H0 F0 H' F' : Hp} {e e' : Nv} {fp fp1 fp0 fp' : Fps} {p pa pb : Bool} {Q : VK} {Z : Ends}
/-- a name's thing is forgotten -/
theorem Ns.drop (N : Ns g ty σ H F e fp) {j : Nat} (hl : j < e.length) : Ns g ty σ H F (st e j none) (fpu fp j []) :=
  N.part Sub.rfl' (fun a ha => by cases ha) (fun a o h _ => h) (fun a _ h _ => h) N.sub hl (fun d z => by cases z) (fun _ => rfl) List.nodup_nil fun a ha => by cases ha
theorem Tr.drop {j : Nat} : Tr false H F fp H F (fpu fp j []) :=
  ⟨Sub.rfl', fun _ _ h _ => h, fun _ _ h _ => h, fun i a ha => by
    by_cases z : i = j
    · subst z; rw [fpu_same] at ha; cases ha
    · rw [fpu_ne z] at ha; exact .inl ⟨i, ha⟩, fun z => by cases z⟩
theorem s_mov {j q k : Nat} {x : Str} (hty : ty.l[j]? = some (q, k + 1)) (hN : X.N[q]? = some x) (hv : Vis X.env.scope x) (hd : (x == ("__debug__" : Str)) = false) (hc : (x == ("__classdict__" : Str)) = false) :
    PE X (.Name x pos) (tE g φ P ty W (.own (k + 1)) (.mov j)) := by
  refine PE.imp (pe_var hN hv hd hc) fun σ H Q ⟨e, F, fp, N, h⟩ => ?_
  rw [ev] at h
  cases hj : gt e j with
  | none => rw [hj] at h; exact h.elim
  | some d =>
    rw [hj] at h
    have h : Post g ty (.own (k + 1)) false (.ok d (st e j none)) σ H F fp W Q := h
    obtain ⟨q', k', v, h1, h2, h3⟩ := N.val j d hj
    rw [hty] at h1
    cases h1
    refine ⟨v, h2, h v H F (fpu fp j []) Tr.drop (N.drop (gt_lt hj)) ⟨fp j, h3, N.nd j, fun a ha => ⟨N.fr j a ha, fun i hi => ?_, .inl ⟨j, ha⟩⟩⟩⟩
    by_cases z : i = j
    · subst z; rw [fpu_same] at hi; cases hi
    · rw [fpu_ne z] at hi; exact N.dj i j z a hi ha
/-- freezing: no statement of the text -/
theorem ss_frz {j i q k : Nat} {xs : List Stmt} {r : Ss} (hj : ty.l[j]? = some (q, k + 1)) (hi : ty.l[i]? = some (q, 0)) (hne : i ≠ j) (h : PSs X xs (tSs g φ P ty W rk r)) : PSs X xs (tSs g φ P ty W rk (.cons (.frz j i) r)) := by
  refine PSs.imp h fun Z σ H ⟨e, F, fp, N, h⟩ => ?_
  rw [evSs, evS] at h
  cases hg : gt e j with
  | none => rw [hg] at h; exact h.elim
  | some d =>
    rw [hg] at h
    have h : PoS g ty W rk (evSs φ P r (st (st e j none) i (some d))) σ H F fp Z := h
    obtain ⟨q', k', v, h1, h2, h3⟩ := N.val j d hg
    rw [hj] at h1
    cases h1
    have N1 := N.drop (gt_lt hg)
    have nf1 : ∀ a ∈ fp j, ∀ i', a ∉ fpu fp j [] i' := fun a ha i' hi' => by
      by_cases z : i' = j
      · subst z; rw [fpu_same] at hi'; cases hi'
      · rw [fpu_ne z] at hi'; exact N.dj i' j z a hi' ha
    obtain ⟨F', s1, s2, s3, n', s4⟩ := freeze N1 (f := fp j) fun a ha => ⟨N.fr j a ha, nf1 a ha⟩
    have hd : Den g F' d v := h3.den s1 s3
    -- the frozen thing goes to its other slot
    have N2 : Ns g ty σ H F' (st (st e j none) i (some d)) (fpu (fpu fp j []) i []) := by
      refine n'.part Sub.rfl' (fun a ha => by cases ha) (fun a o h _ => h) (fun a _ h _ => h) s2 (by rw [st_len, N.el]; exact (List.getElem?_eq_some_iff.mp hi).1) (fun d' z => ?_) (fun z => by cases z) List.nodup_nil fun a ha => by cases ha
      cases z
      exact ⟨q, 0, v, hi, h2, hd, rfl⟩
    refine ⟨_, F', _, N2, PoS.shift (p := false) h ⟨s1, fun _ _ h _ => h, fun a k l w => s4 a l fun z => ?_, fun i' a ha => ?_, fun z => by cases z⟩⟩
    · rcases w with w | w
      · cases w
      · exact w j z
    · by_cases z : i' = i
      · subst z; rw [fpu_same] at ha; cases ha
      · rw [fpu_ne z] at ha
        by_cases y : i' = j
        · subst y; rw [fpu_same] at ha; cases ha
        · rw [fpu_ne y] at ha; exact .inl ⟨i', ha⟩
end
/-! ### the program's table -/
def spOf (g : G) (φ : Phi) (T : Nat → Fc) (n : Nat) : Sp := match (T n).lent with
  | none => spP g φ (T n).ret n
  | some (p, k) => spL g φ (T n).ret n p k
/-- what a body finds: the defs by name, the built-in names free -/
structure Tab (prog : Program) (w : World) (K : PySem.W.Frag) (mg : Str → Option Value) (base : Heap) (g : G) (φ : Phi) (T : Nat → Fc) (nm : List (Option Str)) (fr : List Str) (k : Nat) : Prop where
  eK : g.K = K
  fn : ∀ (n : Nat) (x : Str), nm[n]? = some (some x) → ∃ f, mg x = some (.ref f) ∧ PySem.W.keepIn K (.ref f) = true ∧ FnR prog w K mg base (L2.CX prog w) k f (spOf g φ T n)
  free : ∀ x ∈ fr, mg x = none
section
variable {g : G} {φ : Phi} {P : Pt} {ty : Sls} {W : WX} {rk : Kd} {X : Cx} {kd ka kb : Kd} {a b c : E} {xa xb xc : Expr} {pos p2 apos cpos : Pos} {l : Es} {es : List Expr} {T : Nat → Fc} {nm : List (Option Str)} {fr : List Str} {k : Nat}
theorem t_call (B : Tab X.prog X.w X.K X.mg X.base g φ T nm fr k) (hr : Room k X.A) (tk : Takes X W) (n : Nat) (x : Str) (hx : nm[n]? = some (some x)) (hl : (T n).lent = none) (hk : (T n).ret = kd) (hg : Gl X x) (hd : (x == ("__debug__" : Str)) = false) (ha : PA X es (tEs g φ P ty W l)) (hn : es = [] → l = .nil) (hs : es.all notStar = true) :
    PE X (.Call (.Name x p2) es [] pos) (tE g φ P ty W kd (.call n l)) := by
  obtain ⟨f, h1, h2, h3⟩ := B.fn n x hx
  unfold spOf at h3
  rw [hl, hk] at h3
  exact s_call h3 ⟨hr, hg, h1, h2, hd⟩ tk ha hn hs
theorem t_callI (B : Tab X.prog X.w X.K X.mg X.base g φ T nm fr k) (hr : Room k X.A) (tk : Takes X W) (n j q i dp : Nat) (x : Str) (hx : nm[n]? = some (some x)) (hl : (T n).lent = some (i, dp)) (hk : (T n).ret = kd) (hkb : ∀ m, kd ≠ .bor m) (hg : Gl X x) (hd : (x == ("__debug__" : Str)) = false) (hty : ty.l[j]? = some (q, dp)) (ha : PA X es (tIns q i (tEs g φ P ty W l))) (hn : es ≠ []) (hs : es.all notStar = true) :
    PE X (.Call (.Name x p2) es [] pos) (tE g φ P ty W kd (.callI n j i l)) := by
  obtain ⟨f, h1, h2, h3⟩ := B.fn n x hx
  unfold spOf at h3
  rw [hl, hk] at h3
  exact s_callI (f := 0) h3 ⟨hr, hg, h1, h2, hd⟩ tk hty ha hn hs hkb
end
/-- a def of the table, by its body -/
theorem fn_plain {prog : Program} {w : World} {K : PySem.W.Frag} {mg : Str → Option Value} {base : Heap} {g : G} {φ φ1 : Phi} {P : Pt} {T : Nat → Fc} {n k : Nat} {x qual : Str} {params : Arguments} {body : List Stmt} {scope : Scope} {dvs : List V} {kws : List (Str × V)} {f : Addr} {fd : FuncData} {N ps : List Str} {l : List (Nat × Nat)}
    (F : FunD K x qual params body scope dvs kws f fd) (S : FnScope N ps scope) (ok : TyOk (T n) l N ps) (hl : (T n).lent = none) (hφ : ∀ ds, φ1 n ds = runF φ P (T n) ds)
    (hb : ∀ (cdv : Value) (A : Around) (outer : List Env) (s : Shared) (H : Hp) (E : XK), Room k (A.deeper (envOfC qual scope s.heap.objs.size f cdv)) → PSs (cxOf (L2.CX prog w) prog w K mg base N qual scope f cdv A outer s H E) body (tSs g φ P ⟨l, [], []⟩ (fun c dd _ H' => E c dd H') (T n).ret (T n).body)) :
    FnOk prog w K mg base (L2.CX prog w) (k + 1) f fd ps (spOf g φ1 T n) := by
  unfold spOf
  rw [hl]
  exact F.ok S (fun vs H Q E h => (body_plain (N := N) ok hl hφ h).1) fun cdv A outer s H vs Q E hr h => ⟨_, hb cdv A outer s H E hr, (body_plain ok hl hφ h).2⟩
theorem fn_lent {prog : Program} {w : World} {K : PySem.W.Frag} {mg : Str → Option Value} {base : Heap} {g : G} {φ φ1 : Phi} {P : Pt} {T : Nat → Fc} {n k p d : Nat} {x qual : Str} {params : Arguments} {body : List Stmt} {scope : Scope} {dvs : List V} {kws : List (Str × V)} {f : Addr} {fd : FuncData} {N ps : List Str} {l : List (Nat × Nat)}
    (F : FunD K x qual params body scope dvs kws f fd) (S : FnScope N ps scope) (ok : TyOk (T n) l N ps) (hl : (T n).lent = some (p, d)) (hφ : ∀ ds, φ1 n ds = runF φ P (T n) ds)
    (hb : ∀ (v : V) (cdv : Value) (A : Around) (outer : List Env) (s : Shared) (H : Hp) (E : XK), Room k (A.deeper (envOfC qual scope s.heap.objs.size f cdv)) → PSs (cxOf (L2.CX prog w) prog w K mg base N qual scope f cdv A outer s H E) body (tSs g φ P ⟨l, [(p, v)], []⟩ (fun c dd _ H' => E c dd H') (T n).ret (T n).body)) :
    FnOk prog w K mg base (L2.CX prog w) (k + 1) f fd ps (spOf g φ1 T n) := by
  unfold spOf
  rw [hl]
  refine F.ok S (fun vs H Q E h => (body_lent (N := N) ok hl hφ h).1) fun cdv A outer s H vs Q E hr h => ?_
  obtain ⟨v, q⟩ := (body_lent (N := N) ok hl hφ h).2
  exact ⟨_, hb v cdv A outer s H E hr, q⟩
section
variable {prog : Program} {w : World} {K : PySem.W.Frag} {mg : Str → Option Value} {base : Heap} {N : List Str} {qual : Str} {scope : Scope} {f : Addr} {cd : Value} {A : Around} {outer : List Env} {s : Shared} {H : Hp} {E : XK}
theorem tk_fn : Takes (cxOf (L2.CX prog w) prog w K mg base N qual scope f cd A outer s H E) (fun c dd _ H' => E c dd H') := takes_of rfl rfl rfl rfl
theorem po_fn : PassesOwn (model prog w) (cxOf (L2.CX prog w) prog w K mg base N qual scope f cd A outer s H E).A (cxOf (L2.CX prog w) prog w K mg base N qual scope f cd A outer s H E).env (cxOf (L2.CX prog w) prog w K mg base N qual scope f cd A outer s H E).xe := passes_of rfl
end
end Ev
set_option Elab.async false
set_option linter.all false
set_option maxRecDepth 100000
set_option maxHeartbeats 1000000
/-! Ev18: the short forms that the printed proofs use -/
namespace Ev
open PySem L2 PySem.Spec PyProof.Rows

section
variable {g : G} {φ : Phi} {P : Pt} {ty : Sls} {W : WX} {rk : Kd} {X : Cx} {kd ka kb : Kd} {a b c : E} {xa xb xc : Expr} {pos p2 apos cpos : Pos} {l : Es} {es : List Expr}
theorem nbF {q : Prop} : ∀ k, Kd.F = .bor k → q := fun _ z => by cases z
theorem nbO {q : Prop} {n : Nat} : ∀ k, Kd.own n = .bor k → q := fun _ z => by cases z
/-- a name of depth 0; a list of one's own, looked at -/
theorem v0 (j : Nat) {q : Nat} {x : Str} (hty : ty.l[j]? = some (q, 0)) (hN : X.N[q]? = some x) (hv : Vis X.env.scope x) (hd : (x == ("__debug__" : Str)) = false) (hc : (x == ("__classdict__" : Str)) = false) : PE X (.Name x pos) (tE g φ P ty W .F (.v j)) := s_v hty hN hv hd hc
theorem vb (j : Nat) {q k : Nat} {x : Str} (hty : ty.l[j]? = some (q, k + 1)) (hN : X.N[q]? = some x) (hv : Vis X.env.scope x) (hd : (x == ("__debug__" : Str)) = false) (hc : (x == ("__classdict__" : Str)) = false) : PE X (.Name x pos) (tE g φ P ty W (.bor (k + 1)) (.v j)) := s_v hty hN hv hd hc
/-- operators, where instances have their own -/
structure OpsH (X : Cx) (g : G) (φ : Phi) (P : Pt) (ty : Sls) (W : WX) : Prop where
  bin : ∀ o, OpS X (binaryOp (bop o)) (rTwoI g ty W Vw (opBin φ P o))
  cmp : ∀ o, OpS X (compareOp (cop o)) (rTwoC g ty W o (opCmp φ P o))
  inp : ∀ o, OpS X (inplaceOp (bop o)) (rTwo g ty W Vw (opAug o))
  neg : UnS X (unaryOp .USub) (rOneI g φ P ty W .neg)
theorem room_un {k : Nat} {A : Around} (hr : Room k A) : A.units + 65 < cLine := by
  have h := hr.un
  omega
theorem pbin {o : BO} (O : OpsH X g φ P ty W) (hK : X.K = g.K) (ha : PE X xa (tE g φ P ty W ka a)) (hb : PE X xb (tE g φ P ty W kb b)) (hka : flatK ka = true) (hkb : flatK kb = true) (hp : ∀ k, ka = .bor k → pureE b = true) : PE X (.BinOp xa (bop o) xb pos) (tE g φ P ty W .F (.bin o a b)) :=
  s_bin ha hb hka hkb hp (op_bin (O.bin o) hK)
theorem pcmp {o : CO} {k : Nat} (O : OpsH X g φ P ty W) (hK : X.K = g.K) (hr : Room k X.A) (ha : PE X xa (tE g φ P ty W ka a)) (hb : PE X xb (tE g φ P ty W kb b)) (hka : flatK ka = true) (hkb : flatK kb = true) (hp : ∀ k, ka = .bor k → pureE b = true) (hm : behindInMarks (cop o) xb = false) : PE X (.Compare xa [cop o] [xb] pos) (tE g φ P ty W .F (.cmp o a b)) :=
  s_cmp ha hb hka hkb hp (op_cmp (O.cmp o) hK (room_un hr)) hm
theorem tcmp {o : CO} {k : Nat} (O : OpsH X g φ P ty W) (hK : X.K = g.K) (hr : Room k X.A) (ha : PE X xa (tE g φ P ty W ka a)) (hb : PE X xb (tE g φ P ty W kb b)) (hka : flatK ka = true) (hkb : flatK kb = true) (hp : ∀ k, ka = .bor k → pureE b = true) (hm : behindInMarks (cop o) xb = false) : PT X (.Compare xa [cop o] [xb] pos) (tT g φ P ty W (.cmp o a b)) :=
  s_cmpT ha hb hka hkb hp (op_cmp (O.cmp o) hK (room_un hr)) hm hK
/-- a name's slots, looked at -/
def nmC (l : List (Nat × Nat)) (pins : List Nat) (n : Nm) (q k : Nat) : Bool :=
  (l[n.1]? == some (q, k)) && ((List.range l.length).all fun i => (match l[i]? with
    | some (q', _) => !(q' == q) || (i == n.1) || n.2.contains i
    | none => true)) && !(n.2.contains n.1) && !(pins.contains q)
theorem nmok {n : Nm} {q k : Nat} (h : nmC ty.l (ty.pin.map (·.1)) n q k = true) : NmOk ty n q k := by
  unfold nmC at h
  obtain ⟨h, h4⟩ := Bool.and_eq_true_iff.mp h
  obtain ⟨h, h3⟩ := Bool.and_eq_true_iff.mp h
  obtain ⟨h1, h2⟩ := Bool.and_eq_true_iff.mp h
  refine ⟨by simpa using h1, fun i q' k' hi e => ?_, by simpa using h3, fun x hx e => ?_⟩
  · have hl : i < ty.l.length := (List.getElem?_eq_some_iff.mp hi).1
    have h5 := List.all_eq_true.mp h2 i (List.mem_range.mpr hl)
    simp only [hi, e, beq_self_eq_true, Bool.not_true, Bool.false_or, Bool.or_eq_true, beq_iff_eq] at h5
    rcases h5 with h5 | h5
    · exact .inl h5
    · exact .inr (by simpa using h5)
  · have h6 : x.1 ∉ ty.pin.map (·.1) → False := fun z => z (List.mem_map.mpr ⟨x, hx, rfl⟩)
    have h7 : q ∉ ty.pin.map (·.1) := by simpa using h4
    rw [← e] at h7
    exact h6 h7
def lcC (l : List (Nat × Nat)) (pins vs ks : List Nat) : Bool :=
  ((List.range l.length).all fun i => (match l[i]? with
    | some (q', _) => (vs.contains q') == (ks.contains i)
    | none => true)) && pins.all fun q => !(vs.contains q)
theorem lcok {vs ks : List Nat} (h : lcC ty.l (ty.pin.map (·.1)) vs ks = true) : LcOk ty vs ks := by
  unfold lcC at h
  obtain ⟨h1, h2⟩ := Bool.and_eq_true_iff.mp h
  have key : ∀ (i q k : Nat), ty.l[i]? = some (q, k) → vs.contains q = ks.contains i := fun i q k hi => by
    have h5 := List.all_eq_true.mp h1 i (List.mem_range.mpr (List.getElem?_eq_some_iff.mp hi).1)
    simpa [hi] using h5
  refine ⟨fun i q k hi hq => ?_, fun i hi q k hq => ?_, fun x hx hq => ?_⟩
  · have h3 := key i q k hi
    rw [List.contains_iff_mem.mpr hq] at h3
    exact List.contains_iff_mem.mp h3.symm
  · have h3 := key i q k hq
    rw [List.contains_iff_mem.mpr hi] at h3
    exact List.contains_iff_mem.mp h3
  · have h3 := List.all_eq_true.mp h2 x.1 (List.mem_map.mpr ⟨x, hx, rfl⟩)
    have h4 : x.1 ∉ vs := by simpa using h3
    exact h4 hq
end
/-- isinstance's facts about the text -/
structure Kits (K : PySem.W.Frag) (P : Pt) (g : G) : Prop where
  isF : ∀ c, (P.cls c).is = true → IsF g c
  one : ∀ (t : Ty) (d : D), (match t with | .own c => (P.cls c).is | _ => true) = true → tagged P d = true → PySem.W.kitOne K (tagV g d) (tyV g t) = some (tyIs P t d)
/-- .. of several classes -/
structure KitsT (K : PySem.W.Frag) (P : Pt) (g : G) : Prop where
  many : ∀ (ts : List Ty) (d : D), (ts.all fun t => match t with | .own c => (P.cls c).is | _ => true) = true → tagged P d = true → PySem.W.kitAny K (tagV g d) (ts.map (tyV g)) = some (ts.any fun t => tyIs P t d)
/-- operators' rules at every body -/
structure OpsAll (prog : Program) (w : World) (K : PySem.W.Frag) (mg : Str → Option Value) (base : Heap) (g : G) (φ : Phi) (P : Pt) (k : Nat) : Prop where
  all : ∀ (X : Cx) (ty : Sls) (W : WX), X.prog = prog → X.w = w → X.K = K → X.mg = mg → X.base = base → Room (k + 1) X.A → Takes X W → OpsH X g φ P ty W
section
variable {prog : Program} {w : World} {K : PySem.W.Frag} {mg : Str → Option Value} {base : Heap} {g : G} {φ : Phi} {P : Pt} {k : Nat} {ty : Sls} {N : List Str} {qual : Str} {scope : Scope} {f : Addr}
theorem OpsAll.fn (O : OpsAll prog w K mg base g φ P k) (cdv : Value) (A : Around) (outer : List Env) (s : Shared) (H : Hp) (E : XK) (hr : Room (k + 1) (A.deeper (envOfC qual scope s.heap.objs.size f cdv))) :
    OpsH (cxOf (L2.CX prog w) prog w K mg base N qual scope f cdv A outer s H E) g φ P ty (fun c dd _ H' => E c dd H') := O.all _ _ _ rfl rfl rfl rfl rfl hr tk_fn
theorem OpsAll.blk (O : OpsAll prog w K mg base g φ P k) (cdv : Value) (A : Around) (outer : List Env) (s : Shared) (H : Hp) (E : XK) (hr : Room (k + 1) (A.deeper (envOfC qual scope s.heap.objs.size f cdv))) {s' : Shared} {H' : Hp} {sc : Scope} {cenv : Env} {fp : List Addr} :
    OpsH ((cxOf (L2.CX prog w) prog w K mg base N qual scope f cdv A outer s H E).blk s' H' sc cenv fp) g φ P ty WF := O.all _ _ _ rfl rfl rfl rfl rfl hr takes0
end
section
variable {g : G} {φ : Phi} {P : Pt} {ty : Sls} {W : WX} {X : Cx} {ka : Kd} {a : E} {xa : Expr} {pos p2 p3 : Pos} {T : Nat → Fc} {nm : List (Option Str)} {fr : List Str} {k : Nat}
def tyN : Ty → Str
  | .int => "int" | .bool => "bool" | .str => "str" | .tuple => "tuple" | .list => "list" | .own _ => ""
def blt5 : Ty → Bool
  | .own _ => false
  | _ => true
theorem pe_tyN (t : Ty) (ht : blt5 t = true) (hg : Gl X (tyN t)) (hm : X.mg (tyN t) = none) : PE X (.Name (tyN t) pos) (tC (tyC g t)) := by
  cases t
  case own => cases ht
  all_goals exact pe_bltn hg hm (by decide +kernel) rfl
theorem t_isi (B : Tab X.prog X.w X.K X.mg X.base g φ T nm fr k) (KF : Kits X.K P g) (t : Ty) (ht : blt5 t = true) (hg : Gl X "isinstance") (hg2 : Gl X (tyN t)) (hm : X.mg "isinstance" = none) (hm2 : X.mg (tyN t) = none) (ha : PE X xa (tE g φ P ty W ka a)) (hs : notStar xa = true) :
    PE X (.Call (.Name "isinstance" p2) [xa, .Name (tyN t) p3] [] pos) (tE g φ P ty W .F (.isi a [t])) :=
  s_isi1 B.eK.symm KF.isF (fun d hd => KF.one t d (by cases t <;> first | rfl | cases ht) hd) hg hm ha (pe_tyN t ht hg2 hm2) hs rfl
theorem t_isiT {xs : List Expr} {j : Nat} {p4 : Pos} (B : Tab X.prog X.w X.K X.mg X.base g φ T nm fr k) (KF : Kits X.K P g) (KT : KitsT X.K P g) (ts : List Ty) (ht : (ts.all fun t => match t with | .own c => (P.cls c).is | _ => true) = true) (hg : Gl X "isinstance") (hm : X.mg "isinstance" = none) (ha : PE X xa (tE g φ P ty W ka a)) (hc : TyEs X g xs ts) (hl : ts.length ≤ sizeLine) (hs : notStar xa = true) :
    PE X (.Call (.Name "isinstance" p2) [xa, .Tuple xs j p4] [] pos) (tE g φ P ty W .F (.isi a ts)) :=
  s_isiT B.eK.symm KF.isF (fun d hd => KT.many ts d ht hd) hg hm ha hc hl hs
end
end Ev
set_option Elab.async false
set_option linter.all false
set_option maxRecDepth 100000
set_option maxHeartbeats 1000000
/-! Ev19: bit_length; fields of an instance in the making -/
namespace Ev
open PySem L2 PySem.Spec PyProof.Rows

section
variable {g : G} {φ : Phi} {P : Pt} {ty : Sls} {W : WX} {rk : Kd} {X : Cx} {kd ka kb : Kd} {a b c : E} {xa xb xc : Expr} {pos p2 p3 p4 apos cpos : Pos} {l : Es} {es : List Expr}
variable {σ σ1 : L2.St} {H F H1 F1 H0 F0 H' F' : Hp} {e e' : Nv} {fp fp1 fp0 fp' : Fps} {p pa pb : Bool} {Q : VK} {Z : Ends}
theorem st_st : ∀ {l : Nv} {j : Nat} {x y : Option D}, st (st l j x) j y = st l j y
  | [], _, _, _ => rfl
  | a :: l, 0, _, _ => rfl
  | a :: l, j + 1, x, y => congrArg (a :: ·) (st_st (l := l) (j := j) (x := x) (y := y))
theorem s_blen (ha : PE X xa (tE g φ P ty W .F a)) (hb : baseOk xa = true) (hline : (apos.endLine == pos.line) = true) : PE X (.Call (.Attribute xa "bit_length" apos) [] [] pos) (tE g φ P ty W .F (.blen a)) := by
  refine PE.imp (pe_bits ha (base_ok hb) hline) fun σ H Q ⟨e, F, fp, N, h⟩ => ⟨e, F, fp, N, ?_⟩
  rw [ev, pureE] at h
  refine Post.bind h (fun z => z) fun d e1 v H1 F1 fp1 _ h1 t1 n1 r1 => ?_
  cases d with
  | int i =>
    have h2 : Post g ty .F true (.ok (.int (Builtin.Int.intBits i : Nat)) e1) σ H1 F1 fp1 W Q := Post.shift (pa := pureE a) (pb := true) (by rw [Bool.and_true]; exact h1) t1
    exact ⟨i, r1, Post.fin h2 n1 rfl⟩
  | _ => exact h1.elim
/-- a field that is stored: the next one of its class -/
structure SetAt (X : Cx) (g : G) (c : Nat) (f : Str) (k : Nat) : Prop where
  cls : if g.sl c = true then SlX.SCls X.K (g.cl c) ∧ (∃ p, SlX.Slot1 X.K (g.cl c) f p (g.pm c k)) ∧ ∀ j, j < k → g.pm c j ≠ g.pm c k else L2.Cls X.K (g.cl c) ∧ NoAttr X.K (g.cl c) f ∧ k < 900 ∧ ∀ (xs : List V) (v : V), xs.length = k → putF f v ((g.nm c).zip xs) = (g.nm c).zip (xs ++ [v])
/-- .. on the heap -/
theorem setfldE {c : Nat} {f : Str} {x : Addr} {xs : List V} {fl : List Addr} {v : V} {u : Value} {pins : List (Addr × Obj)} {s : Shared} {R : Unit → Shared → Prop} (M : SetAt X g c f xs.length) (I : Inv X pins σ H s) (h : InsO g H c x xs fl) (r : RelV v u)
    (q : ∀ H' s', Inv X pins σ H' s' → InsO g H' c x (xs ++ [v]) fl → (∀ a o, H a = some o → a ∉ fl → H' a = some o) → R () s') : wpAny (model X.prog X.w) X.A (setAttr (.ref x) f u) R X.xe s := by
  obtain ⟨dx, h⟩ := h
  have hc := M.cls
  by_cases z : g.sl c = true
  · rw [if_pos z] at h hc
    obtain ⟨h1, ⟨vs, hp, h2⟩, h3, h4⟩ := h
    obtain ⟨c1, ⟨pp, c2⟩, c3⟩ := hc
    subst h4
    refine SlX.setslot_ok I h2 c1 c2 r fun s' I' => q _ s' I' ⟨dx, ?_⟩ fun a o ho ha => ?_
    · rw [if_pos z]
      refine ⟨h1, ⟨_, fun i y hi => ?_, SlX.slH_slt h1⟩, ?_, rfl⟩
      · by_cases hi2 : i < xs.length
        · rw [List.getElem?_append_left hi2] at hi
          exact (SlX.putS_ne (c3 i hi2)).mpr (hp i y hi)
        · rw [List.getElem?_append_right (Nat.le_of_not_lt hi2)] at hi
          have hj : i - xs.length = 0 := by
            have := (List.getElem?_eq_some_iff.mp hi).1
            simp at this
            omega
          rw [hj] at hi
          have ei : i = xs.length := by omega
          have ey : v = y := by simpa using hi
          rw [ei, ey]
          exact SlX.putS_get _ _ _
      unfold SlX.slH
      rw [upd_ne h1, upd_same]
      intro w
      cases w
    · have n1 : a ≠ x := fun w => ha (by rw [w]; simp)
      have n2 : a ≠ dx := fun w => ha (by rw [w]; simp)
      rw [SlX.slH_ne n1 n2]
      exact ho
  · rw [if_neg z] at h hc
    obtain ⟨h1, h2⟩ := h
    subst h2
    obtain ⟨c1, c2, c3, c4⟩ := hc
    have hl : ((g.nm c).zip xs).length < 1000 := by
      rw [List.length_zip]
      omega
    refine setattr_ok I h1 c1 c2 hl r fun s' I' => q _ s' I' ⟨dx, ?_⟩ fun a o ho ha => ?_
    · rw [if_neg z, c4 xs v rfl]
      exact ⟨upd_same, rfl⟩
    · have n1 : a ≠ x := fun w => ha (by rw [w]; simp)
      rw [upd_ne n1]
      exact ho
/-- self.f = e -/
theorem s_sfld {j q f : Nat} {x fs : Str} (hty : ty.l[j]? = some (q, 2)) (hN : X.N[q]? = some x) (hv : Vis X.env.scope x) (hd : (x == ("__debug__" : Str)) = false) (hc : (x == ("__classdict__" : Str)) = false) (M : ∀ c k, (P.cls c).fd f = some k → SetAt X g c fs k) (ha : PE X xa (tE g φ P ty W .F a)) (hn : noComp xa = true) :
    PS X (.Assign [.Attribute (.Name x p2) fs p3] xa pos) (tS g φ P ty W rk (.sfld j f a)) := by
  refine ⟨fun pins s σ H Z I ⟨e, F, fp, N, h⟩ => ?_⟩
  rw [evS] at h
  refine plainObj_wpAny_Assign_Attribute (thn (ha.run pins s σ H (fun y H1 => ∃ e1 F1 fp1 d, Ns g ty σ H1 F1 e1 fp1 ∧ Den g F1 d y ∧ PoS g ty W rk (upd1 j (fldF P f d) e1) σ H1 F1 fp1 Z) I ⟨e, F, fp, N, PoS.bind (pa := pureE a) h fun d e1 y H1 F1 fp1 _ h1 t1 n1 r1 => ⟨e1, F1, fp1, d, n1, r1, h1⟩⟩) fun u s1 ⟨y, H1, I1, ry, e1, F1, fp1, d, n1, r1, h1⟩ => ?_) (swaps_no hn)
  unfold upd1 at h1
  cases hj : gt e1 j with
  | none => rw [hj] at h1; exact h1.elim
  | some d0 =>
    rw [hj] at h1
    cases d0 with
    | ins c l =>
      by_cases z : (P.cls c).fd f = some l.length
      · have h1 : PoS g ty W rk (.nx (st e1 j (some (.ins c (l ++ [d]))))) σ H1 F1 fp1 Z := by simpa only [fldF, if_pos z] using h1
        obtain ⟨q', k', v, g1, g2, g3⟩ := n1.val j _ hj
        rw [hty] at g1
        cases g1
        obtain ⟨_, t, xs, ev', hi, hl⟩ := g3
        subst ev'
        have hM := M c _ z
        rw [← hl.length] at hM
        refine thn ((pe_var (pos := p2) hN hv hd hc).run pins s1 σ H1 (fun w H2 => w = .ref t ∧ H2 = H1) I1 ⟨.ref t, g2, rfl, rfl⟩) fun ov s2 ⟨w, H2, I2, rw', ew, eH⟩ => ?_
        subst ew eH
        obtain rfl : ov = Value.ref t := rw'
        refine setfldE hM I2 hi ry fun H' s' I' hi' hk => ⟨σ, H', I', ?_⟩
        have hown : Own g H' F1 2 (.ins c (l ++ [d])) (.ref t) (fp1 j) := ⟨rfl, t, xs ++ [y], rfl, hi', hl.app ⟨y, [], rfl, r1, rfl⟩⟩
        have sub : Sub F1 H' := fun a o ho => hk a o (n1.sub _ _ ho) fun w => by rw [n1.fr j a w] at ho; cases ho
        exact h1 σ H' F1 (fpu fp1 j (fp1 j)) (Tr.mut (Tr.refl false) hk fun a ha => .inl ha) (n1.mut hk hty g2 (gt_lt hj) hown (n1.nd j) (fun a ha => .inl ha) (fun _ _ _ => trivial) sub)
      · have h1 : PoS g ty W rk .stk σ H1 F1 fp1 Z := by simpa only [fldF, if_neg z] using h1
        exact h1.elim
    | _ => exact h1.elim
/-- self.f as a target -/
def gA (g : G) (ty : Sls) (P : Pt) (j f : Nat) : TG := fun v σ H Q => ∃ e F fp d e', Ns g ty σ H F e fp ∧ Den g F d v ∧ upd1 j (fldF P f d) e = .nx e' ∧ ∀ H' fp1, Tr false H F fp H' F fp1 → Ns g ty σ H' F e' fp1 → Q σ H'
theorem s_gA {j q f : Nat} {x fs : Str} (hty : ty.l[j]? = some (q, 2)) (hN : X.N[q]? = some x) (hv : Vis X.env.scope x) (hd : (x == ("__debug__" : Str)) = false) (hc : (x == ("__classdict__" : Str)) = false) (M : ∀ c k, (P.cls c).fd f = some k → SetAt X g c fs k) :
    PG X (.Attribute (.Name x p2) fs p3) (gA g ty P j f) := by
  refine ⟨fun pins s σ H v u Q I r ⟨e1, F1, fp1, d, e', n1, r1, h1, k⟩ => ?_⟩
  have ha : assign (.Attribute (.Name x p2) fs p3) X.env u = (do
      let ov ← holding [u] (eval (.Name x p2) X.env)
      standAt p3.atName
      holding [u, ov] (setAttr ov fs u)
      release [u, ov] []) := rfl
  rw [ha]
  unfold upd1 at h1
  cases hj : gt e1 j with
  | none => rw [hj] at h1; cases h1
  | some d0 =>
    rw [hj] at h1
    cases d0 with
    | ins c l =>
      by_cases z : (P.cls c).fd f = some l.length
      · have h1 : st e1 j (some (.ins c (l ++ [d]))) = e' := by simpa only [fldF, if_pos z, O.nx.injEq] using h1
        subst h1
        obtain ⟨q', k', w, g1, g2, g3⟩ := n1.val j _ hj
        rw [hty] at g1
        cases g1
        obtain ⟨_, t, xs, ev', hi, hl⟩ := g3
        subst ev'
        have hM := M c _ z
        rw [← hl.length] at hM
        refine wpAny_bind (wpAny_holding (thn ((pe_var (pos := p2) hN hv hd hc).run pins s σ H (fun w H2 => w = .ref t ∧ H2 = H) I ⟨.ref t, g2, rfl, rfl⟩) fun ov s2 ⟨w, H2, I2, rw', ew, eH⟩ => ?_))
        subst ew eH
        obtain rfl : ov = Value.ref t := rw'
        refine wpAny_bind (wpAny_standAt (wpAny_bind (wpAny_holding (setfldE hM I2 hi r fun H' s' I' hi' hk => wpAny_release ⟨σ, H', I', ?_⟩))))
        have hown : Own g H' F1 2 (.ins c (l ++ [d])) (.ref t) (fp1 j) := ⟨rfl, t, xs ++ [v], rfl, hi', hl.app ⟨v, [], rfl, r1, rfl⟩⟩
        have sub : Sub F1 H' := fun a o ho => hk a o (n1.sub _ _ ho) fun w => by rw [n1.fr j a w] at ho; cases ho
        exact k H' (fpu fp1 j (fp1 j)) (Tr.mut (Tr.refl false) hk fun a ha => .inl ha) (n1.mut hk hty g2 (gt_lt hj) hown (n1.nd j) (fun a ha => .inl ha) (fun _ _ _ => trivial) sub)
      · have h1 : (O.stk : O) = .nx e' := by simpa only [fldF, if_neg z] using h1
        cases h1
    | _ => cases h1
/-- self.a, self.b = what is no display -/
theorem s_sfld2 {j q f m k : Nat} {x fs ms : Str} {p5 p6 : Pos} (hK : X.K = g.K) (hcm : X.calm = true) (hty : ty.l[j]? = some (q, 2)) (hN : X.N[q]? = some x) (hv : Vis X.env.scope x) (hd : (x == ("__debug__" : Str)) = false) (hc : (x == ("__classdict__" : Str)) = false) (M : ∀ c k, (P.cls c).fd f = some k → SetAt X g c fs k) (M2 : ∀ c k, (P.cls c).fd m = some k → SetAt X g c ms k)
    (ha : PE X xa (tE g φ P ty W .F a)) (hn : noComp xa = true) (ht : notTup xa = true) : PS X (.Assign [.Tuple [.Attribute (.Name x p2) fs p3, .Attribute (.Name x p4) ms p5] k p6] xa pos) (tS g φ P ty W rk (.sfld2 j f m a)) := by
  have hg := pg_tup (pos := p6) (k := k) hcm (pgs_cons (s_gA (p2 := p2) (p3 := p3) (g := g) (P := P) hty hN hv hd hc M) (pgs_cons (s_gA (p2 := p4) (p3 := p5) (g := g) (P := P) hty hN hv hd hc M2) pgs_nil))
  refine PS.imp (ps_asg ha hg (swapsS_no hn) (swapped_no ht)) fun Z σ H ⟨e, F, fp, N, h⟩ => ⟨e, F, fp, N, ?_⟩
  rw [evS] at h
  refine PoS.bind h fun d e1 v H1 F1 fp1 _ h1 t1 n1 r1 => ?_
  cases d with
  | tup ds =>
    match ds, r1, h1 with
    | [y, z], r1, h1 =>
      obtain ⟨t, xs, ev', e2, v1, xs1, ex1, r2, v2, xs2, ex2, r3, e5⟩ := r1
      subst ev' ex1 ex2 e5
      have h1 : PoS g ty W rk (upd1 j (fun d => (fldF P f y d).bind (fldF P m z)) e1) σ H1 F1 fp1 Z := h1
      refine ⟨t, [v1, v2], rfl, by rw [hK]; exact n1.sub.sqT e2, rfl, v1, [v2], rfl, ?_⟩
      unfold upd1 at h1
      cases hj : gt e1 j with
      | none => rw [hj] at h1; exact h1.elim
      | some d0 =>
        rw [hj] at h1
        have h1 : PoS g ty W rk (match (fldF P f y d0).bind (fldF P m z) with | some d' => .nx (Ev.st e1 j (some d')) | none => .stk) σ H1 F1 fp1 Z := h1
        cases hf1 : fldF P f y d0 with
        | none => rw [hf1] at h1; exact h1.elim
        | some d1 =>
          rw [hf1] at h1
          have h1 : PoS g ty W rk (match fldF P m z d1 with | some d' => .nx (Ev.st e1 j (some d')) | none => .stk) σ H1 F1 fp1 Z := h1
          cases hf2 : fldF P m z d1 with
          | none => rw [hf2] at h1; exact h1.elim
          | some d2 =>
            rw [hf2] at h1
            have h1 : PoS g ty W rk (.nx (Ev.st e1 j (some d2))) σ H1 F1 fp1 Z := h1
            refine ⟨e1, F1, fp1, y, Ev.st e1 j (some d1), n1, r2, by unfold upd1; rw [hj]; simp only [hf1], fun H' fp2 t2 n2 => ⟨v2, [], rfl, ?_⟩⟩
            have hj2 : gt (Ev.st e1 j (some d1)) j = some d1 := gt_st_same (gt_lt hj)
            refine ⟨Ev.st e1 j (some d1), F1, fp2, z, Ev.st (Ev.st e1 j (some d1)) j (some d2), n2, r3, by unfold upd1; rw [hj2]; simp only [hf2], fun H'' fp3 t3 n3 => ⟨rfl, ?_⟩⟩
            have h3 : Ev.st (Ev.st e1 j (some d1)) j (some d2) = Ev.st e1 j (some d2) := st_st
            rw [h3] at n3
            exact h1 σ H'' F1 fp3 (t2.trans t3) n3
    | [], r1, h1 => exact h1.elim
    | [_], r1, h1 => exact h1.elim
    | _ :: _ :: _ :: _, r1, h1 => exact h1.elim
  | _ => exact h1.elim
theorem isN_read (h : tE g φ P ty W .F (.isN a) σ H Q) : tE g φ P ty W ka a σ H fun x H1 => Q (.bl (decide (x = .non))) H1 := by
  obtain ⟨e, F, fp, N, h⟩ := h
  refine ⟨e, F, fp, N, ?_⟩
  rw [ev, pureE] at h
  refine Post.bind h (fun z => z) fun d e1 v H1 F1 fp1 _ h1 t1 n1 r1 => ?_
  rw [den_non (r1.view n1.sub)]
  refine h1 _ H1 F1 fp1 t1 n1 ?_
  cases d <;> rfl
theorem notN_read (h : tE g φ P ty W .F (.notN a) σ H Q) : tE g φ P ty W ka a σ H fun x H1 => Q (.bl (!decide (x = .non))) H1 := by
  obtain ⟨e, F, fp, N, h⟩ := h
  refine ⟨e, F, fp, N, ?_⟩
  rw [ev, pureE] at h
  refine Post.bind h (fun z => z) fun d e1 v H1 F1 fp1 _ h1 t1 n1 r1 => ?_
  rw [den_non (r1.view n1.sub)]
  refine h1 _ H1 F1 fp1 t1 n1 ?_
  cases d <;> rfl
theorem t_isN {j : Nat} (ha : PE X xa (tE g φ P ty W ka a)) (hK : X.K = g.K) : PT X (.Compare xa [.Is] [.Constant .none j p2] pos) (tT g φ P ty W (.isN a)) := by
  refine ⟨fun pins s σ H Q I ⟨e, F, fp, N, h⟩ => ?_⟩
  have h2 : tE g φ P ty W .F (.isN a) σ H (fun x H1 => ∃ k, TruV X.K x H1 k ∧ Q k H1) := ⟨e, F, fp, N, by rw [hK]; exact PostB.post h⟩
  refine wpAny_isTrue_Compare1 (thn (ha.run pins s σ H _ I (isN_read h2)) fun v s1 ⟨x, H1, I1, r1, q1⟩ => thn ((pe_non (pos := p2) (j := j)).run pins s1 σ H1 (fun y H2 => y = .non ∧ H2 = H1) I1 ⟨rfl, rfl⟩) fun u s2 ⟨y, H2, I2, r2, ey, eH⟩ => ?_) (nomark _)
  subst eH
  refine thn (op_isN pins s2 σ _ x y v u (fun x H1 => ∃ k, TruV X.K x H1 k ∧ Q k H1) I2 r1 r2 ⟨ey, q1⟩) fun c s3 ⟨z, H3, I3, r3, q3⟩ => ?_
  exact tru_ok pins s3 σ H3 z c Q I3 r3 q3
theorem t_notN {j : Nat} (ha : PE X xa (tE g φ P ty W ka a)) (hK : X.K = g.K) : PT X (.Compare xa [.IsNot] [.Constant .none j p2] pos) (tT g φ P ty W (.notN a)) := by
  refine ⟨fun pins s σ H Q I ⟨e, F, fp, N, h⟩ => ?_⟩
  have h2 : tE g φ P ty W .F (.notN a) σ H (fun x H1 => ∃ k, TruV X.K x H1 k ∧ Q k H1) := ⟨e, F, fp, N, by rw [hK]; exact PostB.post h⟩
  refine wpAny_isTrue_Compare1 (thn (ha.run pins s σ H _ I (notN_read h2)) fun v s1 ⟨x, H1, I1, r1, q1⟩ => thn ((pe_non (pos := p2) (j := j)).run pins s1 σ H1 (fun y H2 => y = .non ∧ H2 = H1) I1 ⟨rfl, rfl⟩) fun u s2 ⟨y, H2, I2, r2, ey, eH⟩ => ?_) (nomark _)
  subst eH
  refine thn (op_notN pins s2 σ _ x y v u (fun x H1 => ∃ k, TruV X.K x H1 k ∧ Q k H1) I2 r1 r2 ⟨ey, q1⟩) fun c s3 ⟨z, H3, I3, r3, q3⟩ => ?_
  exact tru_ok pins s3 σ H3 z c Q I3 r3 q3
/-- a, b, .. = a display of constants -/
theorem s_asgK {tg : Tg} {xt : Expr} (ha : PE X xa (tE g φ P ty W .F a)) (hg : PG X xt (gD g ty tg)) (hc : noComp xa = true) (hw : swappedStores [xt] xa X.env = pure none) (h1 : (assignEach [xt] X.env).map (·.2) = [assign xt X.env]) : PS X (.Assign [xt] xa pos) (tS g φ P ty W rk (.asg tg a)) := by
  refine PS.imp (ps_asg ha hg (swapsS_no hc) hw h1) fun Z σ H ⟨e, F, fp, N, h⟩ => ⟨e, F, fp, N, ?_⟩
  rw [evS] at h
  refine PoS.bind h fun d e1 v H1 F1 fp1 _ h2 t1 n1 r1 => ?_
  cases hs : stT tg d e1 with
  | none =>
    have h2 : PoS g ty W rk .stk σ H1 F1 fp1 Z := by simpa only [hs] using h2
    exact h2.elim
  | some e2 =>
    have h2 : PoS g ty W rk (.nx e2) σ H1 F1 fp1 Z := by simpa only [hs] using h2
    exact ⟨e1, F1, fp1, d, e2, n1, r1, hs, fun σ1 fp2 _ t2 n2 => h2 σ1 H1 F1 fp2 t2 n2⟩
/-! ### f-strings -/
/-- a thing's text -/
def tFmtA (te : TE) : TE := fun σ H Q => te σ H fun x H1 => (∃ y : Str, x = .str y ∧ y.length ≤ sizeLine ∧ Q (.str y) H1) ∨ (∃ i : Int, x = .int i ∧ i.natAbs.log2 < 1920 ∧ Q (.str (toString i)) H1) ∨
  (x = .non ∧ Q (.str "None") H1) ∨ ∃ b : Bool, x = .bl b ∧ Q (.str (if b then "True" else "False")) H1
theorem pe_fmtA {e : Expr} {te : TE} {pos : Pos} (he : PE X e te) : PE X (.FormattedValue e (-1) none pos) (tFmtA te) := by
  refine ⟨fun pins s σ H Q I h => ?_⟩
  refine wpAny_FormattedValue_plain (thn (he.run pins s σ H _ I h) fun v s1 hv => ?_)
  obtain ⟨x, H1, I1, r1, q⟩ := hv
  rcases q with ⟨y, rfl, hz, q⟩ | ⟨i, rfl, hz, q⟩ | ⟨rfl, q⟩ | ⟨b, rfl, q⟩
  · obtain ⟨t, rfl⟩ := r1
    exact wpAny_formatField_str ⟨.str y, H1, I1, ⟨t, rfl⟩, q⟩ ⟨.str y, H1, I1.tok _, ⟨_, rfl⟩, q⟩ hz
  · obtain ⟨t, rfl⟩ := r1
    exact wpAny_formatField_int hz ⟨.str (toString i), H1, I1.tok _, ⟨_, rfl⟩, q⟩
  · cases r1
    exact wpAny_formatField_none ⟨.str "None", H1, I1.tok _, ⟨_, rfl⟩, q⟩
  · cases r1
    exact wpAny_formatField_bool ⟨.str (if b then "True" else "False"), H1, I1.tok _, ⟨_, by cases b <;> rfl⟩, q⟩
theorem s_fmt (ha : PE X xa (tE g φ P ty W .F a)) : PE X (.FormattedValue xa (-1) none pos) (tE g φ P ty W .F (.fmt a)) := by
  refine PE.imp (pe_fmtA ha) fun σ H Q ⟨e, F, fp, N, h⟩ => ⟨e, F, fp, N, ?_⟩
  rw [ev, pureE] at h
  refine Post.bind h (fun z => z) fun d e1 v H1 F1 fp1 _ h1 t1 n1 r1 => ?_
  cases hd : fmtD d with
  | none =>
    simp only [hd] at h1
    exact h1.elim
  | some y =>
    simp only [hd] at h1
    have fin := h1 (.str y) H1 F1 fp1 t1 n1 rfl
    cases d with
    | str y' =>
      by_cases z : y'.length ≤ sizeLine
      · simp only [fmtD, if_pos z, Option.some.injEq] at hd
        subst hd
        exact .inl ⟨y', r1, z, fin⟩
      · simp only [fmtD, if_neg z] at hd
        cases hd
    | int i =>
      by_cases z : i.natAbs.log2 < 1920
      · simp only [fmtD, if_pos z, Option.some.injEq] at hd
        subst hd
        exact .inr (.inl ⟨i, r1, z, fin⟩)
      · simp only [fmtD, if_neg z] at hd
        cases hd
    | non =>
      simp only [fmtD, Option.some.injEq] at hd
      subst hd
      exact .inr (.inr (.inl ⟨r1, fin⟩))
    | bl b =>
      simp only [fmtD, Option.some.injEq] at hd
      subst hd
      exact .inr (.inr (.inr ⟨b, r1, fin⟩))
    | _ => simp only [fmtD] at hd; cases hd
inductive JsOk (X : Cx) (g : G) (φ : Phi) (P : Pt) (ty : Sls) (W : WX) : List Expr → Es → Prop where
  | nil : JsOk X g φ P ty W [] .nil
  | cons {x : Expr} {xs : List Expr} {a : E} {l : Es} (h : PE X x (tE g φ P ty W .F a)) (r : JsOk X g φ P ty W xs l) : JsOk X g φ P ty W (x :: xs) (.cons a l)
theorem JsOk.pj {xs : List Expr} {l : Es} (h : JsOk X g φ P ty W xs l) : ∃ ts, PJ X xs ts ∧ ∀ (acc : Str) (σ : L2.St) (H : Hp) (Q : Str → Hp → Prop), (∃ e F fp, Ns g ty σ H F e fp ∧ Post g ty .F (pureEs l) (evj φ P l acc e) σ H F fp W fun v H1 => ∃ s, v = .str s ∧ Q s H1) → tJs ts acc σ H Q := by
  induction h with
  | nil =>
    refine ⟨[], .nil, fun acc σ H Q ⟨e, F, fp, N, h⟩ => ?_⟩
    rw [evj] at h
    obtain ⟨s, e1, q⟩ := Post.fin (v := .str acc) h N rfl
    cases e1
    exact q
  | @cons x xs a l h r ih =>
    obtain ⟨ts, h1, h2⟩ := ih
    refine ⟨_ :: ts, .cons h h1, fun acc σ H Q ⟨e, F, fp, N, w⟩ => ⟨e, F, fp, N, ?_⟩⟩
    rw [evj, pureEs] at w
    refine Post.bind w (fun z => (Bool.and_eq_true_iff.mp z).1) fun d e1 v H1 F1 fp1 _ w1 t1 n1 r1 => ?_
    have w1 := Post.shift w1 t1
    cases d with
    | str y =>
      by_cases z : (acc ++ y).length ≤ sizeLine
      · have w1 : Post g ty .F (pureEs l) (evj φ P l (acc ++ y) e1) σ H1 F1 fp1 W (fun v H1 => ∃ s, v = .str s ∧ Q s H1) := by simpa only [if_pos z] using w1
        exact ⟨y, r1, z, h2 (acc ++ y) σ H1 Q ⟨e1, F1, fp1, n1, w1⟩⟩
      · have w1 : Post g ty .F (pureEs l) .stk σ H1 F1 fp1 W (fun v H1 => ∃ s, v = .str s ∧ Q s H1) := by simpa only [if_neg z] using w1
        exact w1.elim
    | _ => exact w1.elim
theorem evj_str : ∀ {l : Es} {acc : Str} {e e1 : Nv} {d : D}, evj φ P l acc e = .ok d e1 → ∃ s, d = .str s
  | .nil, acc, e, e1, d, h => by rw [evj] at h; cases h; exact ⟨_, rfl⟩
  | .cons a l, acc, e, e1, d, h => by
    rw [evj] at h
    cases hr : ev φ P a e with
    | stk => rw [hr] at h; cases h
    | err y e2 => rw [hr] at h; cases h
    | ok x e2 =>
      rw [hr] at h
      cases x with
      | str y =>
        by_cases z : (acc ++ y).length ≤ sizeLine
        · have h : evj φ P l (acc ++ y) e2 = .ok d e1 := by simpa only [RE.bind, if_pos z] using h
          exact evj_str h
        · have h : (RE.stk : RE D) = .ok d e1 := by simpa only [RE.bind, if_neg z] using h
          cases h
      | _ => cases h
theorem s_js {x1 x2 : Expr} {xs : List Expr} (h : JsOk X g φ P ty W (x1 :: x2 :: xs) l) : PE X (.JoinedStr (x1 :: x2 :: xs) pos) (tE g φ P ty W .F (.js l)) := by
  obtain ⟨ts, h1, h2⟩ := h.pj
  refine PE.imp (pe_joined h1) fun σ H Q ⟨e, F, fp, N, h⟩ => h2 Str.empty σ H _ ⟨e, F, fp, N, ?_⟩
  rw [ev, pureE] at h
  cases hr : evj φ P l Str.empty e with
  | stk => rw [hr] at h; exact h
  | err y e1 => rw [hr] at h; exact h
  | ok d e1 =>
    rw [hr] at h
    obtain ⟨s, es⟩ := evj_str hr
    subst es
    exact fun v H1 F1 fp1 t n r => ⟨s, r, by rw [← show v = .str s from r]; exact h v H1 F1 fp1 t n r⟩
/-! ### what is never come to -/
theorem s_neve {x : Expr} : PE X x (tE g φ P ty W kd .nev) := ⟨fun pins s σ H Q I ⟨e, F, fp, N, h⟩ => by rw [ev] at h; exact h.elim⟩
theorem s_nevt {x : Expr} : PT X x (tT g φ P ty W .nev) := ⟨fun pins s σ H Q I ⟨e, F, fp, N, h⟩ => by rw [ev] at h; exact h.elim⟩
theorem s_nev {x : Stmt} : PS X x (tS g φ P ty W rk .nev) := ⟨fun pins s σ H Z I ⟨e, F, fp, N, h⟩ => by rw [evS] at h; exact h.elim⟩
/-! ### the program's classes -/
end
/-- what a body finds of the classes: those that are made (name, class, __init__), methods and fields by the names' numbers -/
structure TabC (prog : Program) (w : World) (K : PySem.W.Frag) (mg : Str → Option Value) (base : Heap) (g : G) (φ : Phi) (P : Pt) (T : Nat → Fc) (mks : List (Str × Nat × Nat)) (mn fnm : List Str) (k : Nat) : Prop where
  made : ∀ t ∈ mks, ∃ f, Mk K (g.cl t.2.1) f ∧ mg t.1 = some (.ref (g.cl t.2.1)) ∧ FnR prog w K mg base (L2.CX prog w) k f (spOf g φ T t.2.2)
  mt : ∀ (c m n : Nat) (x : Str), mn[m]? = some x → (P.cls c).mt m = some n → (T n).lent = none → ∃ f, Meth K (g.cl c) x f ∧ (if g.sl c = true then SlX.SCls K (g.cl c) else L2.Cls K (g.cl c) ∧ ∀ xs : List V, ((g.nm c).zip xs).lookup x = none) ∧ FnR prog w K mg base (L2.CX prog w) k f (spP g φ (T n).ret n)
  mret : ∀ (c m n : Nat), (P.cls c).mt m = some n → (T n).lent = none ∧ (T n).ret = .F
  fd : ∀ (c f i : Nat) (x : Str), fnm[f]? = some x → (P.cls c).fd f = some i → (if g.sl c = true then SlX.SCls K (g.cl c) ∧ ∃ p, SlX.Slot1 K (g.cl c) x p (g.pm c i) else L2.Cls K (g.cl c) ∧ NoAttr K (g.cl c) x ∧ ∀ (xs : List V) (v : V), xs[i]? = some v → ((g.nm c).zip xs).lookup x = some v)
  sf : ∀ (c f i : Nat) (x : Str), fnm[f]? = some x → (P.cls c).fd f = some i → (if g.sl c = true then SlX.SCls K (g.cl c) ∧ (∃ p, SlX.Slot1 K (g.cl c) x p (g.pm c i)) ∧ ∀ j, j < i → g.pm c j ≠ g.pm c i else L2.Cls K (g.cl c) ∧ NoAttr K (g.cl c) x ∧ i < 900 ∧ ∀ (xs : List V) (v : V), xs.length = i → putF x v ((g.nm c).zip xs) = (g.nm c).zip (xs ++ [v]))
  glo : ∀ t ∈ mks, mg t.1 = some (.ref (g.cl t.2.1))
section
variable {g : G} {φ : Phi} {P : Pt} {ty : Sls} {W : WX} {rk : Kd} {X : Cx} {kd ka kb : Kd} {a b c : E} {xa xb xc : Expr} {pos p2 p3 p4 apos cpos : Pos} {l : Es} {es : List Expr} {T : Nat → Fc} {mks : List (Str × Nat × Nat)} {mn fnm : List Str} {k : Nat}
theorem t_new (B : TabC X.prog X.w X.K X.mg X.base g φ P T mks mn fnm k) (hr : Room (k + 1) X.A) (tk : Takes X W) (x : Str) (cn n : Nat) (hx : (x, cn, n) ∈ mks) (hl : (T n).lent = some (0, 2)) (hk : (T n).ret = .F) (hg : Gl X x) (hd : (x == ("__debug__" : Str)) = false) (ha : PA X es (tEs g φ P ty W l)) (hn : es = [] → l = .nil) (hs : es.all notStar = true) :
    PE X (.Call (.Name x p2) es [] pos) (tE g φ P ty W (.own 2) (.new cn n l)) := by
  obtain ⟨f, h1, h2, h3⟩ := B.made _ hx
  unfold spOf at h3
  dsimp only at h1 h2 h3
  rw [hl, hk] at h3
  exact s_new ⟨h1, hr, hg, h2, hd⟩ h3 tk ha hn hs
theorem t_mth (B : TabC X.prog X.w X.K X.mg X.base g φ P T mks mn fnm k) (hr : Room k X.A) (tk : Takes X W) (m : Nat) (x : Str) (hx : mn[m]? = some x) {o : Expr} (he : PE X o (tE g φ P ty W .F a)) (ha : PA X es (tEs g φ P ty W l)) (hn : es = [] → l = .nil) (hs : es.all notStar = true) (hb : baseOk o = true) (hl : es.length < 30) (hp : (apos.endLine == pos.line) = true) :
    PE X (.Call (.Attribute o x apos) es [] pos) (tE g φ P ty W .F (.mth m a l)) := by
  refine s_mth he (fun c n h => ?_) tk ha hn hs hb hl hp
  obtain ⟨hl2, hk⟩ := B.mret c m n h
  obtain ⟨f, h1, h2, h3⟩ := B.mt c m n x hx h hl2
  rw [hk] at h3
  exact ⟨k, f, ⟨hr, h1, h2⟩, h3⟩
theorem t_fld (B : TabC X.prog X.w X.K X.mg X.base g φ P T mks mn fnm k) (f : Nat) (x : Str) (hx : fnm[f]? = some x) {o : Expr} (he : PE X o (tE g φ P ty W .F a)) (hb : baseOk o = true) : PE X (.Attribute o x pos) (tE g φ P ty W .F (.fld a f)) :=
  s_fld he hb fun c i h => ⟨B.fd c f i x hx h⟩
theorem t_sf (B : TabC X.prog X.w X.K X.mg X.base g φ P T mks mn fnm k) (f : Nat) (x : Str) (hx : fnm[f]? = some x) : ∀ c i, (P.cls c).fd f = some i → SetAt X g c x i := fun c i h => ⟨B.sf c f i x hx h⟩
/-- isinstance of an own class -/
theorem t_isiO (B : TabC X.prog X.w X.K X.mg X.base g φ P T mks mn fnm k) (hK : X.K = g.K) (KF : Kits X.K P g) (x : Str) (cn n : Nat) (hx : (x, cn, n) ∈ mks) (hc : (P.cls cn).is = true) (hg : Gl X "isinstance") (hg2 : Gl X x) (hd : (x == ("__debug__" : Str)) = false) (hm : X.mg "isinstance" = none) (ha : PE X xa (tE g φ P ty W ka a)) (hs : notStar xa = true) :
    PE X (.Call (.Name "isinstance" p2) [xa, .Name x p3] [] pos) (tE g φ P ty W .F (.isi a [.own cn])) :=
  s_isi1 hK KF.isF (fun d hd => KF.one (.own cn) d hc hd) hg hm ha (pe_glob hg2 (B.glo _ hx) rfl hd) hs rfl
end
end Ev
set_option Elab.async false
set_option linter.all false
set_option maxRecDepth 100000
set_option maxHeartbeats 1000000
/-! Ev20: operators of own classes -/
namespace Ev
open PySem L2 PySem.Spec PyProof.Rows

section
variable {prog : Program} {w : World} {A : Around} {E : Value → Shared → Prop} {s : Shared}
theorem int_no {name : String} {f : Int → Int → Sem Fin} {i : Int} {t : Tok} {x : Addr} {ox : Obj} {Q : Fin → Shared → Prop} (hx : s.heap.get? x = some ox) (hp : ∀ v, ox.data ≠ .prim v) (h : Q (.done (.ret .notImplemented)) s) :
    wpAny (model prog w) A (Builtin.Int.intBinary name f false ⟨[.int i t, .ref x], []⟩) Q E s := by
  obtain ⟨hp', g, d, tk, os⟩ := s
  obtain ⟨cl, dd, dt, sl⟩ := ox
  unfold Builtin.Int.intBinary
  cases dt
  all_goals wp_walk
  all_goals first | exact h | exact absurd rfl (hp _)
/-- int op instance, by the instance's reflected method -/
theorem bin_refl {op : Operator} {id name : String} {fi : Int → Int → Sem Fin} {K : PySem.W.Frag} {C x f f0 : Addr} {ox : Obj} {od : Option Obj} {i : Int} {t : Tok} {Q : Value → Shared → Prop}
    (fills : fillsNumberSlot (.type "int") op.info.2 = pure true) (slot : Slot "int" (PySem.dunder op.info.2) id) (entry : entryFor table id = some (Builtin.Int.intBinary name fi)) (args : argsOk id ⟨[.int i t, .ref x], []⟩)
    (X : K.In s.heap) (I : PySem.W.InstAt s.heap x ox C od) (hp : ∀ v, ox.data ≠ .prim v) (hc : PySem.W.selfFirst K C = true) (hs0 : PySem.W.findIn K (.ref C) (PySem.dunder op.info.2) = some (some (.ref f0)))
    (hs : PySem.W.findIn K (.ref C) (dunderR op.info.2) = some (some (.ref f))) (hf : PySem.W.isFn K (.ref f) = true) (hsub : PySem.W.subIn K (.ref C) (.type "int") = some false)
    (h : wpAny (model prog w) A (call (.ref f) [.ref x, .int i t]) (PySem.W.CmpBack Q) E s) : wpAny (model prog w) A (binaryOp op (.int i t) (.ref x)) Q E s := by
  obtain ⟨cd, rest, hcd, hm⟩ := PySem.W.ksp_first hc
  rcases hi : op.info with ⟨sym, nm⟩
  rw [hi] at fills slot hs0 hs
  dsimp only at fills slot hs0 hs
  have two := PySem.W.ksp_try X I hs hf h
  have L3 : PySem.W.Looks (model prog w) s.heap (fillsNumberSlot (.ref C) nm) true := PySem.W.fills_K X hcd hm hs0
  have L5 : PySem.W.Looks (model prog w) s.heap (isSubtype (.ref C) (.type "int")) false := PySem.W.looks_subIn X hsub
  have hne : (Value.type "int" == Value.ref C) = false := Bool.eq_false_iff.mpr fun q => by cases beq_iff_eq.mp q
  have dec : ∀ {R : Option Value → Shared → Prop}, R none s → wpAny (model prog w) A (tryMethod (.int i t) (PySem.dunder nm) (.ref x)) R E s := fun {R} hR =>
    wpAny_tryMethod_declines (typeIs_int s i t) slot (GQ.call_here slot (typeIs_int s i t) entry args (int_no I.at_ hp ⟨rfl, hR⟩))
  simp only [binaryOp, hi]
  refine wpAny_holding (wpAny_bind ?_)
  unfold binaryOp1
  refine wpAny_bind (wpAny_typeOf (typeIs_int s i t) (wpAny_bind (I.type.here (wpAny_bind (wpAny_of_eq fills ?_)))))
  simp only [hne, Bool.false_eq_true, if_false]
  refine wpAny_bind (L3.here ?_)
  simp only [Bool.and_self, if_true]
  refine wpAny_bind (L5.here ?_)
  have hpy : numberSlotInPython (.type "int") nm = pure false := rfl
  simp only [Bool.false_eq_true, if_false, pure_bind, Bool.not_false, Bool.and_self, if_true, hpy]
  refine wpAny_bind (dec ?_)
  simp only
  refine wpAny_bind (wpAny_mono two (fun r s' hr => ?_) fun _ _ z => z)
  obtain ⟨v, rfl, hq⟩ := hr
  exact wpAny_bind (wpAny_rule (wpAny_pure (wpAny_pure hq)))
end
/-- what the text has of own operators -/
structure DnF (prog : Program) (w : World) (K : PySem.W.Frag) (mg : Str → Option Value) (base : Heap) (g : G) (φ : Phi) (P : Pt) (k : Nat) : Prop where
  eK : g.K = K
  bin : ∀ (c : Nat) (o : BO) (d : Dn) (n : Nat), fwd o = some d → (P.cls c).dn d = some n → ∃ (f : Addr) (fo ro rc : Option Value),
    PySem.W.findIn K (.ref (g.cl c)) (PySem.dunder (bop o).info.2) = some (some (.ref f)) ∧ PySem.W.isFn K (.ref f) = true ∧ PySem.W.selfFirst K (g.cl c) = true ∧
    PySem.W.findIn K (.ref (g.cl c)) (dunderR (bop o).info.2) = some rc ∧ (rc = none ∨ ∃ r : Addr, rc = some (.ref r)) ∧
    PySem.W.findIn K (.type "int") (PySem.dunder (bop o).info.2) = some fo ∧ PySem.W.findIn K (.type "int") (dunderR (bop o).info.2) = some ro ∧ PySem.W.subIn K (.type "int") (.ref (g.cl c)) = some false ∧
    FnR prog w K mg base (L2.CX prog w) k f (spP g φ .F n)
  rbin : ∀ (c : Nat) (o : BO) (d : Dn) (n : Nat), rev o = some d → (P.cls c).dn d = some n → ∃ (f f0 : Addr), PySem.W.findIn K (.ref (g.cl c)) (PySem.dunder (bop o).info.2) = some (some (.ref f0)) ∧ PySem.W.selfFirst K (g.cl c) = true ∧
    PySem.W.findIn K (.ref (g.cl c)) (dunderR (bop o).info.2) = some (some (.ref f)) ∧ PySem.W.isFn K (.ref f) = true ∧ PySem.W.subIn K (.ref (g.cl c)) (.type "int") = some false ∧ FnR prog w K mg base (L2.CX prog w) k f (spP g φ .F n)
  eq : ∀ (c n : Nat), (P.cls c).dn .eq = some n → ∃ f : Addr, PySem.W.findIn K (.ref (g.cl c)) (cmpInfo .Eq).2.1 = some (some (.ref f)) ∧ PySem.W.isFn K (.ref f) = true ∧
    PySem.W.notFirst K (g.cl c) (.type "int") = true ∧ (∀ d, PySem.W.notFirst K (g.cl c) (.ref (g.cl d)) = true) ∧ PySem.W.notFirst K (g.cl c) (.type "NoneType") = true ∧ PySem.W.notFirst K (g.cl c) (.type "tuple") = true ∧ FnR prog w K mg base (L2.CX prog w) k f (spP g φ .F n)
  neg : ∀ (c n : Nat), (P.cls c).dn .neg = some n → ∃ f : Addr, PySem.W.findIn K (.ref (g.cl c)) "__neg__" = some (some (.ref f)) ∧ PySem.W.isFn K (.ref f) = true ∧ FnR prog w K mg base (L2.CX prog w) k f (spP g φ .F n)
section
variable {g : G} {φ : Phi} {P : Pt} {ty : Sls} {W : WX} {X : Cx} {k : Nat}
variable {σ : L2.St} {H F : Hp} {e : Nv} {fp : Fps} {Q : VK}
theorem insInst {c : Nat} {x : Addr} {xs : List V} {pins : List (Addr × Obj)} {s : Shared} (I : Inv X pins σ H s) (h : InsD g H c x xs) : ∃ ox od, PySem.W.InstAt s.heap x ox (g.cl c) od ∧ ∀ v, ox.data ≠ .prim v := by
  obtain ⟨dx, h⟩ := h
  by_cases z : g.sl c = true
  · rw [if_pos z] at h
    obtain ⟨_, vs, _, h2⟩ := h
    obtain ⟨sl, od, _, J, _⟩ := SlX.slt_inst I h2
    exact ⟨_, _, J, fun v z => by cases z⟩
  · rw [if_neg z] at h
    obtain ⟨mA, O, _⟩ := ins_get I.hok h
    obtain ⟨od, J, _⟩ := O.look
    exact ⟨_, _, J, fun v z => by cases z⟩
theorem own_call {n : Nat} {f : Addr} {ds : List D} {vs : List V} {us : List Value} {pins : List (Addr × Obj)} {s : Shared} (R : FnR X.prog X.w X.K X.mg X.base (L2.CX X.prog X.w) k f (spP g φ .F n)) (hr : Room k X.A) (tk : Takes X W) (I : Inv X pins σ H s) (r : Vals vs us)
    (N : Ns g ty σ H F e fp) (hd : DenL g F ds vs) (h : Post g ty .F true ((φ n ds).val.re e) σ H F fp W Q) : wpAny (model X.prog X.w) X.A (call (.ref f) us) (EP X pins σ Q) X.xe s :=
  wpAny_call (run_fnRS R hr (passAt tk σ) I r (call_ans N hd h))
theorem back_cmp {pins : List (Addr × Obj)} {v : Value} {s' : Shared} (z : EP X pins σ Q v s') : PySem.W.CmpBack (EP X pins σ Q) v s' := by
  obtain ⟨z', H', I', rz, qz⟩ := z
  exact SlX.cmpback rz ⟨z', H', I', rz, qz⟩
theorem ops_bin (B : DnF X.prog X.w X.K X.mg X.base g φ P k) (hr : Room k X.A) (tk : Takes X W) (o : BO) : OpS X (binaryOp (bop o)) (rTwoI g ty W Vw (opBin φ P o)) := by
  intro pins s σ H x y v u Q I rx ry ⟨e, F, fp, dx, dy, z, N, hx, hy, h⟩
  cases dx with
  | ins c l =>
    obtain ⟨a, xs, ex, hi, hl⟩ := hx.den fun _ z => by cases z
    subst ex
    obtain rfl : v = Value.ref a := rx
    obtain ⟨ox, od, J, hpr⟩ := insInst I (hi.mono N.sub)
    obtain ⟨m, hF⟩ := I.fr
    have own : ∀ ds, Post g ty .F true ((own2 φ P o c ds).re e) σ H F fp W Q → ∃ d n, fwd o = some d ∧ (P.cls c).dn d = some n ∧ Post g ty .F true ((φ n ds).val.re e) σ H F fp W Q := fun ds q => by
      unfold own2 at q
      cases hf : fwd o with
      | none => rw [hf] at q; exact q.elim
      | some d =>
        rw [hf] at q
        cases hn : (P.cls c).dn d with
        | none => simp only [hn] at q; exact q.elim
        | some n => simp only [hn] at q; exact ⟨d, n, rfl, hn, q⟩
    cases dy with
    | int j =>
      have ey : y = .int j := hy.den fun _ z => by cases z
      subst ey
      obtain ⟨t, rfl⟩ := ry
      have h : Post g ty .F true ((own2 φ P o c [.ins c l, .int j]).re e) σ H F fp W Q := by cases o <;> exact h
      obtain ⟨d, n, h1, h2, h3⟩ := own _ h
      obtain ⟨f, fo, ro, rc, g1, g2, g3, g4, g5, g6, g7, g8, R⟩ := B.bin c o d n h1 h2
      refine PySem.W.ksp_binT (T := "int") hF I.ok.mod.kin J rfl g3 g1 g2 g4 g5 g6 g7 g8 ?_
      exact wpAny_mono (own_call (ds := [.ins c l, .int j]) (vs := [.ref a, .int j]) (us := [.ref a, .int j t]) R hr tk I (.cons rfl (.cons ⟨t, rfl⟩ .nil)) N ⟨_, _, rfl, ⟨a, xs, rfl, hi, hl⟩, _, _, rfl, rfl, rfl⟩ h3) (fun _ _ z => back_cmp z) fun _ _ z => z
    | ins c' l' =>
      obtain ⟨b, ys, ey, hi', hl'⟩ := hy.den fun _ z => by cases z
      subst ey
      obtain rfl : u = Value.ref b := ry
      by_cases ec : c = c'
      · subst ec
        have h : Post g ty .F true ((own2 φ P o c [.ins c l, .ins c l']).re e) σ H F fp W Q := by
          have h' : Post g ty .F true ((if c = c then own2 φ P o c [.ins c l, .ins c l'] else .stk : RV).re e) σ H F fp W Q := by cases o <;> exact h
          rw [if_pos rfl] at h'
          exact h'
        obtain ⟨d, n, h1, h2, h3⟩ := own _ h
        obtain ⟨f, fo, ro, rc, g1, g2, g3, g4, g5, g6, g7, g8, R⟩ := B.bin c o d n h1 h2
        obtain ⟨ox', od', J', hpr'⟩ := insInst I (hi'.mono N.sub)
        refine PySem.W.binop_K hF I.ok.mod.kin J J'.type g3 g1 g2 ?_
        exact wpAny_mono (own_call (ds := [.ins c l, .ins c l']) (vs := [.ref a, .ref b]) (us := [.ref a, .ref b]) R hr tk I (.cons rfl (.cons rfl .nil)) N ⟨_, _, rfl, ⟨a, xs, rfl, hi, hl⟩, _, _, rfl, ⟨b, ys, rfl, hi', hl'⟩, rfl⟩ h3) (fun _ _ z => back_cmp z) fun _ _ z => z
      · have h' : Post g ty .F true ((if c = c' then own2 φ P o c [.ins c l, .ins c' l'] else .stk : RV).re e) σ H F fp W Q := by cases o <;> exact h
        rw [if_neg ec] at h'
        exact h'.elim
    | _ => cases o <;> exact h.elim
  | int i =>
    cases dy with
    | ins c l =>
      have ex : x = .int i := hx.den fun _ z => by cases z
      subst ex
      obtain ⟨t, rfl⟩ := rx
      obtain ⟨b, ys, ey, hi', hl'⟩ := hy.den fun _ z => by cases z
      subst ey
      obtain rfl : u = Value.ref b := ry
      have h : Post g ty .F true ((own2R φ P o c [.ins c l, .int i]).re e) σ H F fp W Q := by cases o <;> exact h
      obtain ⟨d, n, h1, h2, h3⟩ : ∃ d n, rev o = some d ∧ (P.cls c).dn d = some n ∧ Post g ty .F true ((φ n [.ins c l, .int i]).val.re e) σ H F fp W Q := by
        unfold own2R at h
        cases hf : rev o with
        | none => rw [hf] at h; exact h.elim
        | some d =>
          rw [hf] at h
          cases hn : (P.cls c).dn d with
          | none => simp only [hn] at h; exact h.elim
          | some n => simp only [hn] at h; exact ⟨d, n, rfl, hn, h⟩
      obtain ⟨f, f0, g1, g2, g3, g4, g5, R⟩ := B.rbin c o d n h1 h2
      obtain ⟨ox, od, J, hpr⟩ := insInst I (hi'.mono N.sub)
      have fin : wpAny (model X.prog X.w) X.A (call (.ref f) [.ref b, .int i t]) (PySem.W.CmpBack (EP X pins σ Q)) X.xe s :=
        wpAny_mono (own_call (ds := [.ins c l, .int i]) (vs := [.ref b, .int i]) (us := [.ref b, .int i t]) R hr tk I (.cons rfl (.cons ⟨t, rfl⟩ .nil)) N ⟨_, _, rfl, ⟨b, ys, rfl, hi', hl'⟩, _, _, rfl, rfl, rfl⟩ h3) (fun _ _ z => back_cmp z) fun _ _ z => z
      cases o with
      | add => exact bin_refl (op := .Add) PySem.F.fills_int_add PySem.F.slot_int_add PySem.F.entry_int_add (PySem.F.args_int_add_2 _ _) I.kIn J hpr g2 g1 g3 g4 g5 fin
      | sub => exact bin_refl (op := .Sub) PySem.F.fills_int_sub PySem.F.slot_int_sub PySem.F.entry_int_sub (PySem.F.args_int_sub_2 _ _) I.kIn J hpr g2 g1 g3 g4 g5 fin
      | mul => exact bin_refl (op := .Mult) PySem.F.fills_int_mul PySem.F.slot_int_mul PySem.F.entry_int_mul (PySem.F.args_int_mul_2 _ _) I.kIn J hpr g2 g1 g3 g4 g5 fin
      | _ => cases h1
    | _ => exact absurd z (by simp [insD])
  | str i =>
    cases dy with
    | ins c l => cases o <;> exact h.elim
    | _ => exact absurd z (by simp [insD])
  | lst i =>
    cases dy with
    | ins c l => cases o <;> exact h.elim
    | _ => exact absurd z (by simp [insD])
  | _ =>
    cases dy with
    | ins c l => cases o <;> exact h.elim
    | _ => exact absurd z (by simp [insD])
theorem ops_neg (B : DnF X.prog X.w X.K X.mg X.base g φ P k) (hr : Room k X.A) (tk : Takes X W) : UnS X (unaryOp .USub) (rOneI g φ P ty W .neg) := by
  intro pins s σ H x v Q I rx ⟨e, F, fp, c, l, n, hn, N, hd, h⟩
  obtain ⟨a, xs, ex, hi, hl⟩ := hd
  subst ex
  obtain rfl : v = Value.ref a := rx
  obtain ⟨ox, od, J, hpr⟩ := insInst I (hi.mono N.sub)
  obtain ⟨m, hF⟩ := I.fr
  obtain ⟨f, g1, g2, R⟩ := B.neg c n hn
  exact PySem.W.ksp_neg hF I.ok.mod.kin J g1 g2 (own_call (ds := [.ins c l]) (vs := [.ref a]) (us := [.ref a]) R hr tk I (.cons rfl .nil) N ⟨_, _, rfl, ⟨a, xs, rfl, hi, hl⟩, rfl⟩ h)
end
/-! ### != of two lists whose items are pairwise equal -/
section
open AutoSeq1 (wpAny_loadPart')
open MeetsSeq MeetsSeq2 MeetsSeq3 SeqRoads2 SeqAt
variable {prog : Program} {w : World} {A : Around} {R : Result → Shared → Prop}
theorem ne_loopG (l b : Addr) (N : Nat) (I : Nat → Shared → Prop) (hl : GQ.ListI prog w A (fun e s' => R (.error e) s') l b N I)
    (fin : ∀ s, I N s → R (.ok (.ret (.bool false))) s) (k : Nat) :
    ∀ i : Nat, N - i = k → i ≤ N → ∀ s, I i s →
      wpAny (model prog w) A.in1 (Builtin.«list.__eq__.loop» ⟨[.ref l, .ref b, rawInt i, rawInt 3], []⟩) (GQ.FinOf prog w A R) (fun e s' => R (.error e) s') s := by
  induction k with
  | zero =>
    intro i hk hi s h
    obtain ⟨items, items2, n, n2, hl1, hb1, hs1, hs2, _⟩ := hl _ _ h
    have hi' : i = N := by omega
    have hR : R (.ok (.ret (.bool false))) s := fin s (hi' ▸ h)
    obtain ⟨hp, g, d, tk, os⟩ := s
    wp_walk using wpAny_loadPart' hl1, wpAny_loadPart' hb1
    have hi1 : items[((i : Nat) : Int).toNat]? = none := by simp; omega
    have hi2 : items2[((i : Nat) : Int).toNat]? = none := by simp; omega
    rw [hi1, hi2]
    wp_walk using wpAny_loadPart' hl1, wpAny_loadPart' hb1
    show R (.ok (.ret (.bool (items.size != items2.size)))) _
    rw [hs1, hs2]
    simpa using hR
  | succ k ih =>
    intro i hk hi s h
    obtain ⟨items, items2, n, n2, hl1, hb1, hs1, hs2, turn⟩ := hl _ _ h
    have hlt : i < items.size := by omega
    have hlt2 : i < items2.size := by omega
    have ht := turn hlt hlt2
    obtain ⟨hp, g, d, tk, os⟩ := s
    wp_walk using wpAny_loadPart' hl1, wpAny_loadPart' hb1
    have hi1 : items[((i : Nat) : Int).toNat]? = some items[i] := by simp [hlt]
    have hi2 : items2[((i : Nat) : Int).toNat]? = some items2[i] := by simp [hlt2]
    have hc : ((i : Int) + 1) = ((i + 1 : Nat) : Int) := by omega
    rw [hi1, hi2]
    refine wpAny_bind (wpAny_mono ht (fun r s2 h2 => ?_) fun _ _ x => x)
    obtain ⟨hr, h2⟩ := h2
    subst hr
    have hrec := ih (i + 1) (by omega) (by omega) s2 h2
    obtain ⟨hp2, g2, d2, tk2, os2⟩ := s2
    wp_walk
    rw [hc]
    exact ⟨plainId_quiet plain_eq_loop _, codeAny_builtin entry_eq_loop (by
      rw [Around.under_plainId plain_eq_loop _]
      exact hrec)⟩
theorem list_neG (l b : Addr) (N : Nat) (I : Nat → Shared → Prop) (hl : GQ.ListI prog w A (fun e s' => R (.error e) s') l b N I)
    (fin : ∀ s, I N s → R (.ok (.ret (.bool false))) s) {s : Shared} (h : I 0 s) :
    wpAny (model prog w) A.in1 (Builtin.«list.__ne__» ⟨[.ref l, .ref b], []⟩) (GQ.FinOf prog w A R) (fun e s' => R (.error e) s') s := by
  obtain ⟨items, items2, n, n2, hl1, hb1, hs1, hs2, _⟩ := hl _ _ h
  have hrec := ne_loopG (A := A) (R := R) l b N I hl fin _ 0 rfl (Nat.zero_le _) s h
  obtain ⟨hp, g, d, tk, os⟩ := s
  have f3 := AutoSeq1.sub_list_list
  have hne : ¬ (items.size != items2.size) = true := by simp [hs1, hs2]
  wp_walk using wpAny_loadPart' hl1, wpAny_loadPart' hb1
  exact ⟨plainId_quiet plain_eq_loop _, codeAny_builtin entry_eq_loop (by
    rw [Around.under_plainId plain_eq_loop _]
    exact hrec)⟩
theorem rc_listNe {l b : Addr} {N : Nat} {Q : Value → Shared → Prop} {E : Value → Shared → Prop} {s : Shared} (hu : A.units < cLine) (I : Nat → Shared → Prop) (hl : GQ.ListI prog w A E l b N I)
    (fin : ∀ s, I N s → Q (.bool false) s) (h : I 0 s) : wpAny (model prog w) A (richCompare .NotEq (.ref l) (.ref b)) Q E s := by
  obtain ⟨items, items2, n, n2, hl1, hb1, _, _, _⟩ := hl _ _ h
  refine wpAny_richCompare_same_room (op := .NotEq) ⟨_, hl1, rfl⟩ ⟨_, hb1, rfl⟩ PySem.F.slot_list_ne (GQ.call_here PySem.F.slot_list_ne ⟨_, hl1, rfl⟩ PySem.F.entry_list_ne (PySem.F.args_list_ne_2 _ _) ?_) hu
  exact list_neG (R := wants (fun v s' => v ≠ .notImplemented ∧ Q v s') E) l b N I hl (fun s' q => ⟨(fun x => nomatch x), fin s' q⟩) h
end
/-- two items of which sameI says that they are equal -/
def DSm (g : G) (φ : Phi) (P : Pt) : Eqv := fun x y H => ∃ d1 d2, Den g H d1 x ∧ Den g H d2 y ∧ sameI φ P d1 d2 = true
theorem mon_sm {g : G} {φ : Phi} {P : Pt} : Mon (DSm g φ P) := fun _ _ _ _ e ⟨d1, d2, h1, h2, h3⟩ => ⟨d1, d2, Den.mono e h1, Den.mono e h2, h3⟩
section
variable {g : G} {φ : Phi} {P : Pt} {ty : Sls} {W : WX} {X : Cx} {k : Nat}
variable {σ : L2.St} {H F : Hp} {e : Nv} {fp : Fps} {Q : VK}
theorem sameI_ins {c d : Nat} {l m : List D} (h : sameI φ P (.ins c l) (.ins d m) = true) : ∃ n o, (P.cls c).dn .eq = some n ∧ φ n [.ins c l, .ins d m] = .ok (.bl true) o := by
  unfold sameI ownE at h
  cases hn : (P.cls c).dn .eq with
  | none => simp [hn] at h
  | some n =>
    simp only [hn] at h
    cases hv : φ n [.ins c l, .ins d m] with
    | stk => rw [hv] at h; cases h
    | err x => rw [hv] at h; cases h
    | ok r o =>
      rw [hv] at h
      cases r with
      | bl b =>
        cases b with
        | true => exact ⟨n, o, rfl, hv⟩
        | false => cases h
      | _ => cases h
theorem eqG_sm (B : DnF X.prog X.w X.K X.mg X.base g φ P k) : EqG X k (DSm g φ P) := by
  intro A pins s σ H x y u v sb I rx ry ⟨d1, d2, h1, h2, hs⟩
  cases d1 with
  | int i =>
    cases d2 with
    | int j =>
      have ex : x = .int i := h1
      have ey : y = .int j := h2
      have eij : i = j := by simpa [sameI] using hs
      subst ex ey eij
      exact eqG_flat A pins s σ H _ _ u v (sb.mono (Nat.zero_le _)) I rx ry ⟨rfl, rfl, by simp [eqV]⟩
    | _ => cases hs
  | ins c l =>
    cases d2 with
    | ins d m =>
      obtain ⟨n, o, hn, hφ⟩ := sameI_ins hs
      obtain ⟨a, xs, e1, hi, hl⟩ := h1
      obtain ⟨b, ys, e2, hi', hl'⟩ := h2
      subst e1 e2
      obtain rfl : u = Value.ref a := rx
      obtain rfl : v = Value.ref b := ry
      by_cases hab : a = b
      · subst hab
        exact SeqAt.EqAt.same (A := A) (s := s) (.ref a) X.prog X.w X.xe _ ⟨rfl, H, I, Ext.rfl'⟩
      · refine GQ.eqBool_refG hab ?_
        obtain ⟨f, g1, g2, g3, g4, g5, g6, R⟩ := B.eq c n hn
        obtain ⟨ox, od, J, hpr⟩ := insInst I hi
        obtain ⟨ox', od', J', hpr'⟩ := insInst I hi'
        obtain ⟨mm, hF⟩ := I.fr
        refine PySem.W.cmp_K (op := .Eq) (tb := .ref (g.cl d)) sb.room.units0 hF I.ok.mod.kin J J'.type (g4 d) g1 g2 ?_
        have e0 : Env0 X.prog X.w X.K X.mg X.base A X.stack s H := by
          have e := I.env0
          exact ⟨by rw [sb.fr]; exact e.frames, e.mod, e.bs, e.bsz, e.funs, e.frf, e.hok, e.bare⟩
        have r2 : Vals [V.ref a, V.ref b] [Value.ref a, Value.ref b] := .cons rfl (.cons rfl .nil)
        have hsp : spP g φ .F n [V.ref a, V.ref b] H (fun v H' => v = .bl true ∧ Ext H H') (fun _ _ _ => False) := by
          refine ⟨H, [.ins c l, .ins d m], Sub.rfl', ⟨_, _, rfl, ⟨a, xs, rfl, hi, hl⟩, _, _, rfl, ⟨b, ys, rfl, hi', hl'⟩, rfl⟩, ?_⟩
          rw [hφ]
          intro v H1 F1 t s1 r
          exact ⟨r, fun a o e => t.keep a o e (.inl rfl)⟩
        refine wpAny_call (codeAny_mono (R A X.stack s H [.ref a, .ref b] [.ref a, .ref b] _ _ sb.room e0 r2 hsp) fun r s' hq => ?_)
        cases r with
        | error e =>
          obtain ⟨_, _, _, _, _, _, _, _, _, _, _, _, hE⟩ := hq
          exact hE.elim
        | ok fl =>
          cases fl with
          | ret w =>
            obtain ⟨z, H', I', rz, ez, ex⟩ := I.after hq
            subst ez
            cases rz
            exact ⟨true, rfl, rfl, H', I', ex⟩
          | next => exact False.elim hq
          | brk => exact False.elim hq
          | cont => exact False.elim hq
    | _ => cases hs
  | _ => cases hs
theorem prs_sm : ∀ {l m : List D} {xs ys : List V}, DenL g H l xs → DenL g H m ys → sameL φ P l m = true → Prs (DSm g φ P) xs ys H
  | [], [], _, _, h1, h2, _ => by cases h1; cases h2; exact Prs.nil
  | d :: l, e :: m, _, _, h1, h2, h3 => by
    obtain ⟨x, r, q1, h4, h5⟩ := h1
    obtain ⟨y, r', q2, h6, h7⟩ := h2
    subst q1 q2
    obtain ⟨h8, h9⟩ := Bool.and_eq_true_iff.mp (show (sameI φ P d e && sameL φ P l m) = true from h3)
    exact Prs.cons ⟨d, e, h4, h6, h8⟩ (prs_sm h5 h7 h9)
theorem ops_neL (B : DnF X.prog X.w X.K X.mg X.base g φ P k) (hr : Room (k + 1) X.A) {pins : List (Addr × Obj)} {s : Shared} {x y : V} {v u : Value} {l m : List D} (I : Inv X pins σ H s) (rx : RelV x v) (ry : RelV y u) (N : Ns g ty σ H F e fp)
    (hx : Den g H (.lst l) x) (hy : Den g H (.lst m) y) (hs : sameL φ P l m = true) (h : Post g ty .F true (.ok (.bl false) e) σ H F fp W Q) : wpAny (model X.prog X.w) X.A (richCompare .NotEq v u) (EP X pins σ Q) X.xe s := by
  obtain ⟨a, xs, e1, ha, hl⟩ := hx
  obtain ⟨b, ys, e2, hb, hm⟩ := hy
  subst e1 e2
  obtain rfl : v = Value.ref a := rx
  obtain rfl : u = Value.ref b := ry
  have p := prs_sm (φ := φ) (P := P) hl hm hs
  have sb : L2.Sub X (k + 1) X.A := ⟨hr, rfl⟩
  have hz : xs.length = ys.length := p.1
  refine rc_listNe (N := xs.length) sb.room.units0 (fun _ s' => LoopI X pins σ H s') (fun i s' q => ?_) (fun s' q => ?_) ⟨H, I, Ext.rfl'⟩
  · obtain ⟨H1, I1, e1⟩ := id q
    obtain ⟨z, its, k, r, e⟩ := I1.hok a _ (e1 _ _ ha)
    obtain ⟨z2, its2, k2, r2, e2⟩ := I1.hok b _ (e1 _ _ hb)
    refine ⟨its.toArray, its2.toArray, k, k2, e, e2, by rw [List.size_toArray, ← r.length], by rw [List.size_toArray, ← r2.length, ← p.1], fun h1 h2 => ?_⟩
    exact turnG mon_sm (eqG_sm B) sb p r r2 i h1 h2 s' q
  · obtain ⟨H1, I1, e1⟩ := q
    refine ⟨.bl false, H1, I1, rfl, h (.bl false) H1 F fp ⟨Sub.rfl', fun a o k _ => e1 a o k, fun _ _ k _ => k, fun j a ha => .inl ⟨j, ha⟩, fun _ => rfl⟩ ?_ rfl⟩
    exact N.keep Sub.rfl' (N.sub.trans e1) (fun j a ha o k => e1 a o k) N.fr
end
section
variable {g : G} {φ : Phi} {P : Pt} {ty : Sls} {W : WX} {X : Cx} {k : Nat}
variable {σ : L2.St} {H F : Hp} {e : Nv} {fp : Fps} {Q : VK}
theorem ops_cmp (B : DnF X.prog X.w X.K X.mg X.base g φ P k) (hr1 : Room (k + 1) X.A) (tk : Takes X W) (o : CO) : OpS X (compareOp (cop o)) (rTwoC g ty W o (opCmp φ P o)) := by
  intro pins s σ H x y v u Q I rx ry ⟨e, F, fp, dx, dy, z0, N, hx, hy, h⟩
  have hr := hr1.mono (Nat.le_succ k)
  by_cases zi : insD dx = true ∨ insD dy = true
  case neg =>
    have nx : insD dx = false := Bool.eq_false_iff.mpr fun z => zi (.inl z)
    have ny : insD dy = false := Bool.eq_false_iff.mpr fun z => zi (.inr z)
    obtain ⟨eo, zn⟩ : o = .ne ∧ eqD dx dy = none := by
      rcases z0 with z | z | z
      · exact absurd (.inl z) zi
      · exact absurd (.inr z) zi
      · exact z
    subst eo
    rw [cmp_ne nx, zn] at h
    have h : Post g ty .F true ((neL φ P dx dy).re e) σ H F fp W Q := h
    cases dx with
    | lst l =>
      cases dy with
      | lst m =>
        have h : Post g ty .F true ((if sameL φ P l m then .ok (.bl false) else .stk : RV).re e) σ H F fp W Q := h
        by_cases hs : sameL φ P l m = true
        · rw [if_pos hs] at h
          exact ops_neL B hr1 I rx ry N hx.1 hy.1 hs h
        · rw [if_neg hs] at h
          exact h.elim
      | _ => exact h.elim
    | _ => exact h.elim
  have z := zi
  have eqN : ∀ {d : D}, insD d = true → toPy d = none := fun {d} hd => by cases d <;> first | rfl | cases hd
  have none1 : ∀ {dx dy : D}, (insD dx = true ∨ insD dy = true) → eqD dx dy = none := fun {dx dy} hz => by
    unfold eqD
    rcases hz with hz | hz
    · rw [eqN hz]
    · rw [eqN hz]
      cases toPy dx <;> rfl
  by_cases hq : ∃ c l, o = .eq ∧ dx = .ins c l ∧ ((∃ j, dy = .int j) ∨ (∃ d m, dy = .ins d m) ∨ dy = .non ∨ ∃ m, dy = .tup m)
  · obtain ⟨c, l, eo, ex, ey⟩ := hq
    subst eo ex
    have hxF : Den g F (.ins c l) x := by
      rcases hx.2 with h1 | ⟨l', h1⟩
      · exact h1
      · cases h1
    obtain ⟨a, xs, e1, hi, hl⟩ := hxF
    subst e1
    obtain rfl : v = Value.ref a := rx
    obtain ⟨ox, od, J, hpr⟩ := insInst I (hi.mono N.sub)
    obtain ⟨m, hF⟩ := I.fr
    have own : ∀ ds, Post g ty .F true ((ownE φ P c ds).re e) σ H F fp W Q → ∃ n, (P.cls c).dn .eq = some n ∧ Post g ty .F true ((φ n ds).val.re e) σ H F fp W Q := fun ds q => by
      unfold ownE at q
      cases hn : (P.cls c).dn .eq with
      | none => simp only [hn] at q; exact q.elim
      | some n => simp only [hn] at q; exact ⟨n, rfl, q⟩
    show wpAny _ _ (richCompare .Eq (.ref a) u) _ _ _
    rcases ey with ⟨j, ey⟩ | ⟨d, mm, ey⟩ | ey | ⟨mm, ey⟩
    · subst ey
      have ey : y = .int j := hy.1
      subst ey
      obtain ⟨t, rfl⟩ := ry
      obtain ⟨n, h2, h3⟩ := own [.ins c l, .int j] h
      obtain ⟨f, g1, g2, g3, g4, g5, g6, R⟩ := B.eq c n h2
      refine PySem.W.cmp_K (op := .Eq) (tb := .type "int") hr.units0 hF I.ok.mod.kin J (PySem.W.Looks.of_pure rfl) g3 g1 g2 ?_
      exact wpAny_mono (own_call (ds := [.ins c l, .int j]) (vs := [.ref a, .int j]) (us := [.ref a, .int j t]) R hr tk I (.cons rfl (.cons ⟨t, rfl⟩ .nil)) N ⟨_, _, rfl, ⟨a, xs, rfl, hi, hl⟩, _, _, rfl, rfl, rfl⟩ h3) (fun _ _ z => back_cmp z) fun _ _ z => z
    · subst ey
      have hyF : Den g F (.ins d mm) y := by
        rcases hy.2 with h1 | ⟨l', h1⟩
        · exact h1
        · cases h1
      obtain ⟨b, ys, e2, hi', hl'⟩ := hyF
      subst e2
      obtain rfl : u = Value.ref b := ry
      obtain ⟨n, h2, h3⟩ := own [.ins c l, .ins d mm] h
      obtain ⟨f, g1, g2, g3, g4, g5, g6, R⟩ := B.eq c n h2
      obtain ⟨ox', od', J', hpr'⟩ := insInst I (hi'.mono N.sub)
      refine PySem.W.cmp_K (op := .Eq) (tb := .ref (g.cl d)) hr.units0 hF I.ok.mod.kin J J'.type (g4 d) g1 g2 ?_
      exact wpAny_mono (own_call (ds := [.ins c l, .ins d mm]) (vs := [.ref a, .ref b]) (us := [.ref a, .ref b]) R hr tk I (.cons rfl (.cons rfl .nil)) N ⟨_, _, rfl, ⟨a, xs, rfl, hi, hl⟩, _, _, rfl, ⟨b, ys, rfl, hi', hl'⟩, rfl⟩ h3) (fun _ _ z => back_cmp z) fun _ _ z => z
    · subst ey
      have ey : y = .non := hy.1
      subst ey
      obtain rfl : u = Value.none := ry
      obtain ⟨n, h2, h3⟩ := own [.ins c l, .non] h
      obtain ⟨f, g1, g2, g3, g4, g5, g6, R⟩ := B.eq c n h2
      refine PySem.W.cmp_K (op := .Eq) (tb := .type "NoneType") hr.units0 hF I.ok.mod.kin J (PySem.W.Looks.of_pure rfl) g5 g1 g2 ?_
      exact wpAny_mono (own_call (ds := [.ins c l, .non]) (vs := [.ref a, .non]) (us := [.ref a, .none]) R hr tk I (.cons rfl (.cons rfl .nil)) N ⟨_, _, rfl, ⟨a, xs, rfl, hi, hl⟩, _, _, rfl, rfl, rfl⟩ h3) (fun _ _ z => back_cmp z) fun _ _ z => z
    · subst ey
      have hyF : Den g F (.tup mm) y := by
        rcases hy.2 with h1 | ⟨l', h1⟩
        · exact h1
        · cases h1
      have hyD := hyF
      obtain ⟨b, ys, e2, hs, hl'⟩ := hyF
      subst e2
      obtain rfl : u = Value.ref b := ry
      obtain ⟨n, h2, h3⟩ := own [.ins c l, .tup mm] h
      obtain ⟨f, g1, g2, g3, g4, g5, g6, R⟩ := B.eq c n h2
      have hs2 : SqT X.K H b ys := by rw [← B.eK]; exact N.sub.sqT hs
      obtain ⟨its, _, ⟨oo, ho, hc, _⟩, _⟩ := I.tuple hs2
      have hT : PySem.W.Looks (model X.prog X.w) s.heap (typeOf (.ref b)) (.type "tuple") := by
        exact hc ▸ (PySem.W.Looks.ld ho).andThen .now
      refine PySem.W.cmp_K (op := .Eq) (tb := .type "tuple") hr.units0 hF I.ok.mod.kin J hT g6 g1 g2 ?_
      exact wpAny_mono (own_call (ds := [.ins c l, .tup mm]) (vs := [.ref a, .ref b]) (us := [.ref a, .ref b]) R hr tk I (.cons rfl (.cons rfl .nil)) N ⟨_, _, rfl, ⟨a, xs, rfl, hi, hl⟩, _, _, rfl, hyD, rfl⟩ h3) (fun _ _ z => back_cmp z) fun _ _ z => z
  · exfalso
    have key : opCmp φ P o dx dy = .stk := by
      have inN : ∀ {d : D} (m : List D), insD d = true → inD d m = none := fun {d} m hd => by unfold inD; rw [eqN hd]
      have n1 := none1 z
      cases o with
      | eq =>
        cases dx with
        | ins c l =>
          cases dy with
          | int j => exact absurd ⟨c, l, rfl, rfl, .inl ⟨j, rfl⟩⟩ hq
          | ins d m => exact absurd ⟨c, l, rfl, rfl, .inr (.inl ⟨d, m, rfl⟩)⟩ hq
          | non => exact absurd ⟨c, l, rfl, rfl, .inr (.inr (.inl rfl))⟩ hq
          | tup m => exact absurd ⟨c, l, rfl, rfl, .inr (.inr (.inr ⟨m, rfl⟩))⟩ hq
          | _ => unfold opCmp; simp only [n1]
        | _ => unfold opCmp; simp only [n1]
      | ne =>
        have e1 : opCmp φ P .ne dx dy = neL φ P dx dy := by unfold opCmp; simp only [n1]
        rw [e1]
        rcases z with z | z
        · cases dx <;> first | rfl | cases z
        · cases dy <;> first | (cases dx <;> rfl) | (exact absurd z (by simp [insD]))
      | isin =>
        rcases z with z | z
        · cases dy with
          | lst m => unfold opCmp; simp only [inN m z]
          | tup m => unfold opCmp; simp only [inN m z]
          | _ => cases dx <;> first | rfl | cases z
        · cases dy with
          | ins d m => cases dx <;> rfl
          | _ => cases z
      | notin =>
        rcases z with z | z
        · cases dy with
          | lst m => unfold opCmp; simp only [inN m z]
          | tup m => unfold opCmp; simp only [inN m z]
          | _ => cases dx <;> first | rfl | cases z
        · cases dy with
          | ins d m => cases dx <;> rfl
          | _ => cases z
      | _ =>
        rcases z with z | z
        · cases dx with
          | ins c l => cases dy <;> rfl
          | _ => cases z
        · cases dy with
          | ins d m => cases dx <;> rfl
          | _ => cases z
    rw [key] at h
    exact h
/-! ### name op= e -/
theorem ops_inp (o : BO) : OpS X (inplaceOp (bop o)) (rTwo g ty W Vw (opAug o)) := by
  intro pins s σ H x y v u Q I rx ry ⟨e, F, fp, dx, dy, N, hx, hy, h⟩
  have go : ∀ i j, dx = .int i → dy = .int j → o ≠ .pow → wpAny (model X.prog X.w) X.A (inplaceOp (bop o) v u) (EP X pins σ Q) X.xe s := fun i j ex ey hp => by
    subst ex ey
    have e1 : x = .int i := hx.den fun _ z => by cases z
    have e2 : y = .int j := hy.den fun _ z => by cases z
    subst e1 e2
    obtain ⟨t, rfl⟩ := rx
    obtain ⟨t', rfl⟩ := ry
    have h : Post g ty .F true ((binInt o i j).re e) σ H F fp W Q := by cases o <;> first | exact h | exact absurd rfl hp
    have fin : ∀ k, binInt o i j = .ok (.int k) → EP X pins σ Q (.int k s.toks) { s with toks := s.toks + 1 } := fun k hk => by
      rw [hk] at h
      exact ⟨.int k, H, I.tok _, ⟨_, rfl⟩, Post.fin h N rfl⟩
    cases o with
    | pow => exact absurd rfl hp
    | add => exact PyProof.Rows.iadd_int (fin _ rfl)
    | sub => exact PyProof.Rows.isub_int (fin _ rfl)
    | mul =>
      by_cases z : mulOk i j = true
      · have hk : binInt .mul i j = .ok (.int (i * j)) := by dsimp only [binInt]; rw [if_pos z]
        have hm : CMulW i j := show i.natAbs.log2 + j.natAbs.log2 < 1000000 from of_decide_eq_true z
        exact imul_int (fin _ hk) hm.ok
      · have hk : binInt .mul i j = .stk := by dsimp only [binInt]; rw [if_neg z]
        rw [hk] at h
        exact h.elim
    | fdiv =>
      by_cases z : divOk j = true
      · have hk : binInt .fdiv i j = .ok (.int (i.fdiv j)) := by dsimp only [binInt]; rw [if_pos z]
        obtain ⟨h1, h2⟩ := fdiv_ok (i := i) z
        exact ifloordiv_int h1 (fin _ hk) (.inl (PyProof.noPylong_of_log2 h2))
      · have hk : binInt .fdiv i j = .stk := by dsimp only [binInt]; rw [if_neg z]
        rw [hk] at h
        exact h.elim
    | mod =>
      by_cases z : (j != 0) = true
      · have hk : binInt .mod i j = .ok (.int (i.fmod j)) := by dsimp only [binInt]; rw [if_pos z]
        exact imod_int (by simpa using z) (fin _ hk)
      · have hk : binInt .mod i j = .stk := by dsimp only [binInt]; rw [if_neg z]
        rw [hk] at h
        exact h.elim
  cases dx with
  | int i =>
    cases dy with
    | int j =>
      by_cases hp : o = .pow
      · subst hp; exact h.elim
      · exact go i j rfl rfl hp
    | _ => cases o <;> exact h.elim
  | _ => cases o <;> exact h.elim
end
/-- operators' rules, from the text's facts -/
theorem ops_all {prog : Program} {w : World} {K : PySem.W.Frag} {mg : Str → Option Value} {base : Heap} {g : G} {φ : Phi} {P : Pt} {k : Nat} (B : DnF prog w K mg base g φ P k) : OpsAll prog w K mg base g φ P k :=
  ⟨fun X ty W e1 e2 e3 e4 e5 hr tk => by
    subst e1 e2 e3 e4 e5
    have hr0 := hr.mono (Nat.le_succ k)
    exact ⟨ops_bin B hr0 tk, ops_cmp B hr tk, ops_inp, ops_neg B hr0 tk⟩⟩
end Ev
set_option Elab.async false
set_option linter.all false
set_option maxRecDepth 100000
set_option maxHeartbeats 1000000
/-! Ev21: the whole program, call by call; what the law's run gives -/
namespace Ev
open PySem L2 PySem.Spec PyProof.Rows

section
variable {prog : Program} {w : World} {K : PySem.W.Frag} {mg : Str → Option Value} {base : Heap} {g : G} {P : Pt} {T : Nat → Fc}
theorem fn_zero {f : Addr} {n k : Nat} : FnR prog w K mg base (L2.CX prog w) k f (spOf g (phiAt T P 0) T n) := by
  intro A outer s H us vs Q E hr e0 r h
  unfold spOf at h
  cases hl : (T n).lent with
  | none =>
    rw [hl] at h
    obtain ⟨F, ds, _, _, h⟩ := h
    exact h.elim
  | some pk =>
    obtain ⟨p, k'⟩ := pk
    rw [hl] at h
    obtain ⟨F, ds, fl, d, v, ws, _, _, _, _, _, _, _, h⟩ := h
    exact h.elim
/-- every def of the list keeps its promise, r calls deep: from the step -/
theorem fn_all {ad : Nat → Addr} {m : Nat} (step : ∀ r, (∀ n, n < m → FnR prog w K mg base (L2.CX prog w) (3 * r) (ad n) (spOf g (phiAt T P r) T n)) → ∀ n, n < m → FnR prog w K mg base (L2.CX prog w) (3 * (r + 1)) (ad n) (spOf g (phiAt T P (r + 1)) T n)) :
    ∀ r n, n < m → FnR prog w K mg base (L2.CX prog w) (3 * r) (ad n) (spOf g (phiAt T P r) T n)
  | 0, n, _ => fn_zero
  | r + 1, n, h => step r (fn_all step r) n h
/-- a def without defaults, by its body, one call deeper -/
theorem fn_step {n r : Nat} {x qual : Str} {params : Arguments} {body : List Stmt} {scope : Scope} {f : Addr} {fd : FuncData} {N ps : List Str} {l : List (Nat × Nat)}
    (F : FunD K x qual params body scope [] [] f fd) (hb : Binds K fd ps []) (S : FnScope N ps scope) (ok : TyOk (T n) l N ps) (hl : (T n).lent = none) (ha : (T n).app = [])
    (b : ∀ (cdv : Value) (A : Around) (outer : List Env) (s : Shared) (H : Hp) (E : XK), Room (3 * r + 2) (A.deeper (envOfC qual scope s.heap.objs.size f cdv)) → PSs (cxOf (L2.CX prog w) prog w K mg base N qual scope f cdv A outer s H E) body (tSs g (phiAt T P r) P ⟨l, [], []⟩ (fun c dd _ H' => E c dd H') (T n).ret (T n).body)) :
    FnR prog w K mg base (L2.CX prog w) (3 * (r + 1)) f (spOf g (phiAt T P (r + 1)) T n) := by
  have h := (fn_plain (k := 3 * r + 2) (φ := phiAt T P r) (φ1 := phiAt T P (r + 1)) F S ok hl (fun ds => by show runF _ _ _ (ds ++ (T n).app) = _; rw [ha, List.append_nil]) b).raw hb .nil
  refine (h.mono (by omega)).imp fun vs H Q E q => ?_
  rw [List.append_nil]
  exact q
theorem fn_stepL {n r p d : Nat} {x qual : Str} {params : Arguments} {body : List Stmt} {scope : Scope} {f : Addr} {fd : FuncData} {N ps : List Str} {l : List (Nat × Nat)}
    (F : FunD K x qual params body scope [] [] f fd) (hb : Binds K fd ps []) (S : FnScope N ps scope) (ok : TyOk (T n) l N ps) (hl : (T n).lent = some (p, d)) (ha : (T n).app = [])
    (b : ∀ (v : V) (cdv : Value) (A : Around) (outer : List Env) (s : Shared) (H : Hp) (E : XK), Room (3 * r + 2) (A.deeper (envOfC qual scope s.heap.objs.size f cdv)) → PSs (cxOf (L2.CX prog w) prog w K mg base N qual scope f cdv A outer s H E) body (tSs g (phiAt T P r) P ⟨l, [(p, v)], []⟩ (fun c dd _ H' => E c dd H') (T n).ret (T n).body)) :
    FnR prog w K mg base (L2.CX prog w) (3 * (r + 1)) f (spOf g (phiAt T P (r + 1)) T n) := by
  have h := (fn_lent (k := 3 * r + 2) (φ := phiAt T P r) (φ1 := phiAt T P (r + 1)) F S ok hl (fun ds => by show runF _ _ _ (ds ++ (T n).app) = _; rw [ha, List.append_nil]) b).raw hb .nil
  refine (h.mono (by omega)).imp fun vs H Q E q => ?_
  rw [List.append_nil]
  exact q
/-- the same def, called with defaults -/
theorem sp_dfl {n m r : Nat} {app : List D} {dvs : List V} (hT : T n = { T m with app := app }) (hm : (T m).app = []) (hd : ∀ F, DenL g F app dvs) {vs : List V} {H : Hp} {Q : VK} {E : XK} (h : spOf g (phiAt T P (r + 1)) T n vs H Q E) : spOf g (phiAt T P (r + 1)) T m (vs ++ dvs) H Q E := by
  have eφ : ∀ ds, phiAt T P (r + 1) n ds = phiAt T P (r + 1) m (ds ++ app) := fun ds => by
    show runF _ _ (T n) (ds ++ (T n).app) = runF _ _ (T m) (ds ++ app ++ (T m).app)
    rw [hT, hm, List.append_nil]
    rfl
  unfold spOf at h ⊢
  have e1 : (T n).lent = (T m).lent := by rw [hT]
  have e2 : (T n).ret = (T m).ret := by rw [hT]
  rw [e1, e2] at h
  cases hl : (T m).lent with
  | none =>
    rw [hl] at h
    obtain ⟨F, ds, s, hds, h⟩ := h
    rw [eφ] at h
    exact ⟨F, ds ++ app, s, hds.app (hd F), h⟩
  | some pk =>
    obtain ⟨p, k⟩ := pk
    rw [hl] at h
    obtain ⟨F, ds, fl, d, v, ws, ev, s, hds, ho, nd, fr, hp, h⟩ := h
    subst ev
    rw [eφ] at h
    have ei : ∀ {α : Type} (x : α) (l q : List α), p ≤ l.length → insA p x l ++ q = insA p x (l ++ q) := fun x l q hq => by
      unfold insA
      rw [List.take_append_of_le_length hq, List.drop_append_of_le_length hq]
      simp
    have hp2 : p ≤ ds.length := by rw [← hds.length]; exact hp
    rw [ei d ds app hp2] at h
    exact ⟨F, ds ++ app, fl, d, v, ws ++ dvs, ei v ws dvs hp, s, hds.app (hd F), ho, nd, fr, by rw [List.length_append]; omega, h⟩
/-- the law's run: of the script's list, True -/
theorem law_ans {φ : Phi} {n : Nat} {a : Addr} {ns : List Int} {H : Hp} {Q : VK} {E : XK} (hs : SqL g.K H a (ns.map V.int)) (h : ∃ o, φ n [.scr ns] = .ok (.bl true) o) (q : ∀ H', Q (.bl true) H') : spP g φ .F n [.ref a] H Q E := by
  obtain ⟨o, h⟩ := h
  refine ⟨H, [.scr ns], Sub.rfl', ⟨.ref a, [], rfl, ⟨a, rfl, hs⟩, rfl⟩, ?_⟩
  rw [h]
  intro v H1 F1 t s r
  have e : v = .bl true := r
  subst e
  exact q H1
end
/-- the slots of a def's core, looked at -/
def tyC' (c : Fc) (l : List (Nat × Nat)) (N ps : List Str) : Bool :=
  (l.length == c.n) && (c.ar == ps.length) && decide (c.ar ≤ c.n) && decide (ps.length ≤ N.length) && (l.all fun x => decide (x.1 < N.length)) &&
    ((List.range c.ar).all fun i => l[i]? == some (i, match c.lent with | some (p, k) => if i = p then k else 0 | none => 0)) &&
    (match c.lent with | some (p, _) => decide (p < c.ar) | none => true) && (match c.ret with | .bor _ => false | _ => true)
theorem tyok {c : Fc} {l : List (Nat × Nat)} {N ps : List Str} (h : tyC' c l N ps = true) : TyOk c l N ps := by
  unfold tyC' at h
  simp only [Bool.and_eq_true, beq_iff_eq, decide_eq_true_eq, List.all_eq_true] at h
  obtain ⟨⟨⟨⟨⟨⟨⟨h1, h2⟩, h3⟩, h4⟩, h5⟩, h6⟩, h7⟩, h8⟩ := h
  refine ⟨h1, h2, h3, h4, h5, fun i hi => h6 i (List.mem_range.mpr hi), fun p k hp => ?_, fun k hk => ?_⟩
  · rw [hp] at h7
    exact of_decide_eq_true h7
  · rw [hk] at h8
    cases h8
end Ev
set_option Elab.async false
set_option linter.all false
set_option maxRecDepth 100000
set_option maxHeartbeats 1000000
/-! Ev22: own exceptions with an own __init__ that says super().__init__(..): made, to be raised -/
namespace Ev
open PySem L2 PySem.Spec PyProof.Rows

section
open PySem.W
variable {prog : Program} {w : World} {M : Model} {A : Around} {E : Value → Shared → Prop} {h : Heap} {g : Array GenState} {d : Drawn} {t : Nat} {os : OsState}
variable {nm q : Str} {C N : Addr} {bs bm bmB : List Value} {hdct : Bool} {sn : List Str} {sub : List Value} {ab : Bool} {col : Option Bool} {dd : Option Addr} {k0 k1 k2 k3 k5 : Option Value} {B newId i : String}
/-- the wrapper of the built-in __init__, called: the object has its args anew -/
theorem call_mw (FB : ExcBaseFacts B newId i bmB) {u e t0 : Addr} {rest : List Value} {Q : Value → Shared → Prop}
    (hC : h.get? C = some (excClassObj nm q C N bs bm hdct sn sub ab col dd k0 k1 k2 k3 k5 newId)) (he : h.get? e = some (PySem.HandSPX.excO C t0)) (hu : h.get? u = some (kxs_mw i e)) (hrest : rest.length ≤ sizeLine)
    (hq : ∀ h' t1, (∀ b o, b ≠ e → h.get? b = some o → h'.get? b = some o) → h'.get? e = some (PySem.HandSPX.excO C t1) → Q .none ⟨h', g, d, t, os⟩) :
    wpAny (model prog w) A (call (.ref u) rest) Q E ⟨h, g, d, t, os⟩ := by
  refine wpAny_call (codeAny_of_tree ?_)
  show wpAny _ A.in1 (callAny (.ref u) ⟨rest, []⟩) _ _ _
  simp only [callAny]
  refine wpAny_bind (wpAny_load hu ?_)
  simp only [kxs_mw, show (Value.type "method-wrapper" == Value.type "method" || Value.type "method-wrapper" == Value.type "builtin_function_or_method" || Value.type "method-wrapper" == Value.type "method-wrapper") = true by decide, if_true]
  refine KFB.if_so (by decide) ?_
  refine wpAny_bind (check_bound_init FB.toExcCallFacts hC he rfl ?_)
  refine wpAny_bind (wpAny_pure (wpAny_pure ?_))
  refine ⟨plainId_quiet FB.init.plain _, codeAny_builtin FB.initEntry ?_⟩
  exact exc_init_tree (cls := .ref C) (t0 := t0) (dv := none) (c2 := .none) (c3 := .none) (b4 := .bool false) he hrest fun h' k e' t' => hq h' _ k e'
end

open NdefX
/-- what the text says of an own error class and its __init__ -/
structure SupT (prog : Program) (K : PySem.W.Frag) (mg : Str → Option Value) (C fI : Addr) (F : NF) (cc : Addr) : Prop where
  ox : OexC K C
  iC : PySem.W.findIn K (.ref C) "__init__" = some (some (.ref fI))
  tI : PySem.W.typeIn K (.ref fI) = some (.type "function")
  cl : F.cl = [(("__class__" : Str), cc)]
  lk : ∃ (oc : Value) (od : Option Addr) (doc pm ctv : Value) (sl : Array (Option Value)), K.lookup fI = some ⟨oc, od, .func (F.fd doc pm ctv), sl⟩
  cd : PySem.W.codeIn K (.ref F.c) F.qual = true
  fl : ∃ (cl : Value) (cd : Option Addr) (vs : Array Value) (cs : Array (Option Value)) (f : Str) (tf : Tok), K.lookup F.c = some ⟨cl, cd, .fields vs, cs⟩ ∧ vs[2]? = some (.str f tf) ∧ ((prog.main.file : Str) == f) = true
  ce : ∃ (cl : Value) (cd : Option Addr) (cs : Array (Option Value)), K.lookup cc = some ⟨cl, cd, .cell (some (.ref C)), cs⟩
  subC : PySem.W.mroIn K C (.ref C) = some true
  subV : PySem.W.subIn K (.ref C) (.type "ValueError") = some true
  sup : PySem.W.ks_superIn K C C "__init__" = some (some (.builtin "ValueError.__init__"))
  opq : PySem.W.nsIn K PySem.cStatics "thirdparty.any" = some none
  tp : (prog.main.scope.names.lookup ("super" : Str)).isSome = false
  mS : mg "super" = none
/-- .. of the text of its __init__ -/
structure SupB (F : NF) (N ps : List Str) (e : Expr) (es : List Expr) (rest : List Stmt) : Prop where
  sc : NScope N ps ["__class__"] F.scope
  bd : ∃ p0 p1 p2 p3 p4, F.body = .Expr (.Call (.Attribute (.Call (.Name "super" p0) [] [] p1) "__init__" p2) (e :: es) [] p3) p4 :: rest ∧ ∀ env : Env, ∃ pl : Sem Bool,
    eval (.Call (.Attribute (.Call (.Name "super" p0) [] [] p1) "__init__" p2) (e :: es) [] p3) env = (do
      let ov ← attributeBase (.Call (.Name "super" p0) [] [] p1) "__init__" env (eval (.Call (.Name "super" p0) [] [] p1) env)
      standAt p2.atName
      let (f, first) ← holding [ov] (getMethod ov "__init__" pl)
      callWith p3 f first (backTo p3 (starEach (e :: es) env)) [])
  ar : ∃ ar, (F.params.posonlyargs ++ F.params.args).head? = some ar ∧ ps[0]? = some ar.arg
  su : F.scope.names.lookup ("super" : Str) = some .globalImplicit
  bi : ∀ (doc pm ctv : Value) (us : List Value), us.length = ps.length → bindArgs (F.fd doc pm ctv) ⟨us, []⟩ = pure (ps.zip us)
  st : (e :: es).all notStar = true
/-- what __init__ asks: the texts' reading, then the rest -/
def spSup (C : Addr) (N ps : List Str) (ta : TA) (t : TS) : Sp := fun vs H Q _ => vs.length = ps.length ∧ ∃ a : Addr, vs[0]? = some (.ref a) ∧ H a = some (exo a C none) ∧
  ta (startF N vs [none]) H fun us H1 => us.length ≤ 1000 ∧ H1 a = some (exo a C none) ∧ t { nx := fun _ H' => Q .non H', rt := Q } (startF N vs [none]) H1
section
variable {prog : Program} {w : World} {K : PySem.W.Frag} {mg : Str → Option Value} {base : Heap} {C fI cc : Addr} {F : NF} {N ps : List Str} {e : Expr} {es : List Expr} {rest : List Stmt} {ta : TA} {t : TS} {k : Nat}
theorem ps_len (S : NScope N ps ["__class__"] F.scope) : ps.length ≤ N.length := by
  have q := congrArg List.length S.pre
  rw [List.length_take, List.length_append] at q
  simp only [List.length_cons, List.length_nil] at q
  omega
theorem init_ok {CX : CXT} (T : SupT prog K mg C fI F cc) (B : SupB F N ps e es rest)
    (ha : ∀ (A : Around) (outer : List Env) (s : Shared) (H : Hp) (E : XK), Room k (A.deeper (envF F fI s.heap.objs.size)) → PA (ncx CX prog w K mg base N F fI A outer s H E) (e :: es) ta)
    (hr : ∀ (A : Around) (outer : List Env) (s : Shared) (H : Hp) (E : XK), Room k (A.deeper (envF F fI s.heap.objs.size)) → PSs (ncx CX prog w K mg base N F fI A outer s H E) rest t) :
    ∃ fd, FnOk prog w K mg base CX (k + 1) fI fd ps (spSup C N ps ta t) ∧ Binds K fd ps [] := by
  obtain ⟨oc, od, doc, pm, ctv, sl, lk⟩ := T.lk
  have S := B.sc
  refine ⟨F.fd doc pm ctv, ⟨fun vs H Q E h => h.1, fun A outer s H args us vs Q E hroom e0 hb r hsp => ?_⟩, Binds.all (B.bi doc pm ctv)⟩
  obtain ⟨hl, a, hva, hHa, hq⟩ := hsp
  have kb : ∀ b o, base.get? b = some o → s.heap.get? b = some o := fun b o e => (e0.bs b o e).1
  have KX : K.In s.heap := e0.mod.kin.keeps kb
  have lim : s.heap.NoLimit := e0.mod.nolimit.keeps kb
  obtain ⟨cl1, cd1, cs1, lcc⟩ := T.ce
  have CA : CellsAt F.cl ["__class__"] [none] s.heap H := by
    refine ⟨rfl, fun y c z => ?_, fun x y c z1 z2 => ?_, fun i y z => ?_⟩
    · rw [T.cl] at z
      have ec : c = cc := by
        unfold List.lookup at z
        split at z
        · exact (Option.some.inj z).symm
        · cases z
      subst ec
      exact ⟨(e0.bs c _ (e0.mod.kin _ _ lcc)).2, _, _, KX _ _ lcc, rfl⟩
    · rw [T.cl] at z1 z2
      have key : ∀ {x : Str}, List.lookup x [(("__class__" : Str), cc)] = some c → x = "__class__" := fun {x} z => by
        unfold List.lookup at z
        split at z
        · rename_i h
          exact beq_iff_eq.mp h
        · cases z
      rw [key z1, key z2]
    · cases i with
      | zero =>
        have ey : y = "__class__" := (Option.some.inj z).symm
        subst ey
        refine ⟨cc, by rw [T.cl]; simp [List.lookup], fun v z => ?_⟩
        cases z
      | succ i => cases z
  refine codeAny_call_function hroom.depth (KX _ _ lk) rfl S.co S.gen rfl (PySem.W.codeRec_of KX T.cd) (hb _ _ _ _ ?_)
  refine wpAny_newFunctionEnv S.nocell (fun ⟨n, _⟩ hy => S.par n (List.of_mem_zip hy).1) (fun h₁ hns hsb => ⟨lim.fresh _ hsb, ?_⟩) S.kind
  show codeAny _ _ (.func F.body (envF F fI s.heap.objs.size)) _ _
  refine PySem.ks_codeAny_funcAt ?_
  have kp : ∀ b o, s.heap.get? b = some o → h₁.get? b = some o := fun b o e => hsb.extBut b o (Nat.ne_of_lt (Heap.lt_size e)) (Heap.get?_push_of_some _ e)
  have I : Inv (ncx CX prog w K mg base N F fI A outer s H E) [] (startF N vs [none]) H { s with heap := h₁, toks := s.toks + (ps.zip us).length } := inv_startN S hroom.hd e0 hl r CA hns kp
  generalize hs1 : ({ s with heap := h₁, toks := s.toks + (ps.zip us).length } : Shared) = s1 at I ⊢
  have hXs := hroom.deeper (envF F fI s.heap.objs.size)
  have PAx := ha A outer s H E hXs
  have PSx := hr A outer s H E hXs
  have fin : ∀ {σ' : L2.St} {H' : Hp} {v : V} {u : Value} {s' : Shared}, Inv (ncx CX prog w K mg base N F fI A outer s H E) [] σ' H' s' → L2.RelV v u → Q v H' → CE outer prog w H s Q u s' :=
    fun {σ' H' v u s'} J rv q => ⟨v, H', J.os, J.bare, J.base, J.hok, rv, q⟩
  obtain ⟨p0, p1, p2, p3, p4, hbd, hev⟩ := B.bd
  obtain ⟨pl, hev⟩ := hev (envF F fI s.heap.objs.size)
  obtain ⟨ar, har, hps⟩ := B.ar
  have us0 : us[0]? = some (.ref a) := by
    obtain ⟨u, hu, ru⟩ := r.get hva
    rw [hu]
    exact congrArg some ru
  rw [hbd]
  have kS : ∀ y, F.scope.names.lookup y = (envF F fI s.heap.objs.size).kindOf y := fun _ => rfl
  have frk : F.scope.names.lookup ("__class__" : Str) = some .free := S.frk "__class__" List.mem_cons_self
  have ndP : ps.Nodup := by
    have q := S.nd.sublist (List.take_sublist (ps.length + (["__class__"] : List Str).length) N)
    rw [S.pre] at q
    exact (List.nodup_append.mp q).1
  have arL : F.scope.names.lookup ar.arg = some .local := S.par ar.arg (List.mem_of_getElem? hps)
  obtain ⟨nmC, qC, NC, bsC, bmC, snC, subC, abC, colC, ddC, c0, c1, c2, c3, c5, hCl, hbm⟩ := T.ox.cls
  obtain ⟨cl2, cd2, vs2, cs2, fl2, tf2, lc2, hv2, hf2⟩ := T.fl
  have N0 : N[0]? = some ar.arg := by
    have h0 : (N.take (ps.length + (["__class__"] : List Str).length))[0]? = some ar.arg := by
      rw [S.pre, List.getElem?_append_left (by have := (List.getElem?_eq_some_iff.mp hps).1; exact this)]
      exact hps
    rw [List.getElem?_take_of_lt (by simp)] at h0
    exact h0
  have σ0 : (startF N vs [none])[0]? = some (some (.ref a)) := by
    have hv0 := (List.getElem?_eq_some_iff.mp hva).1
    unfold startF
    rw [List.getElem?_append_left (by rw [List.length_map]; exact hv0), List.getElem?_map, hva]
    rfl
  have X1 : K.In s1.heap := I.kIn
  have hint : interactive (envF F fI s.heap.objs.size) = false := by
    unfold interactive
    have hk : (envF F fI s.heap.objs.size).scope.kind = .function := S.kind
    rw [hk]
    rfl
  refine PySem.ks_wpAt_execs_cons (PySem.ks_wpAt_Expr_any (PySem.ks_wpAt_MethodCall ?_ hev) hint)
  refine PySem.ks_wpAt_super_base (f := fI) (cc := F.c) B.su frk (by decide) rfl (X1 _ _ lk) rfl har rfl (X1 _ _ lc2) rfl hv2 hf2 T.tp ?_
  refine PySem.W.ks_loadName_global S.kind B.su ?_
  obtain ⟨mb, hb1, hb2⟩ := I.mod.blt
  refine Calls.loadGlobal_builtin (I.mod.glob.keeps I.bk) T.mS (hb1.keeps I.bk) ((hb2 _ (by decide)).trans (by first | boot_by_name | rfl | kernel_rfl)) ⟨rfl, ?_⟩
  have hlk : (envF F fI s.heap.objs.size).cells.lookup ("__class__" : Str) = some cc := by
    show F.cl.lookup _ = _
    rw [T.cl]
    simp [List.lookup]
  refine wpAny_loadName_free S.kind frk hlk ⟨_, X1 _ _ lcc, rfl⟩ ?_
  obtain ⟨m, hn, hlook⟩ := id I.loc
  obtain ⟨u0, ru0, lk0⟩ := hlook 0 ar.arg (.ref a) N0 σ0 (.inl arL)
  obtain rfl : u0 = Value.ref a := ru0
  have hm0 : m ar.arg = some (.ref a) := by
    rcases lk0 with ⟨_, z⟩ | ⟨z, _⟩
    · exact z
    · have z' : F.scope.names.lookup ar.arg = some .cell ∨ F.scope.names.lookup ar.arg = some .free := z
      rw [arL] at z'
      rcases z' with z' | z' <;> cases z'
  refine wpAny_loadName_local S.kind arL hn hm0 ?_
  have hcC := X1 _ _ hCl
  refine PySem.ks_wpAny_isType_cls hcC rfl ⟨rfl, ?_⟩
  obtain ⟨t1, hoa⟩ := exo_at I.hok hHa
  obtain ⟨hp, gs, dr, tk, os⟩ := s1
  refine PySem.ks_wpAny_call_super hcC rfl hoa rfl (fun c z => by cases z) (PySem.W.looks_mroIn X1 T.subC) fun h2 so2 k2 => ?_
  have I2 : Inv (ncx CX prog w K mg base N F fI A outer s H E) [] (startF N vs [none]) H ⟨h2, gs, dr, tk, os⟩ := I.kept (t' := tk) k2
  have X2 : K.In h2 := X1.keeps k2
  have hcl : PySem.W.clsIn K C = some { name := nmC, bases := bsC, mro := .ref C :: bmC, ns := NC, qualname := qC, hasDict := true, slotNames := snC, subclasses := subC, abstract := abC, collection := colC, hasDel := false } := by unfold PySem.W.clsIn; rw [hCl] <;> rfl
  have hxC : a ≠ C := fun z => by
    have q : hp.get? C = some _ := hcC
    rw [← z] at q
    have q2 : hp.get? a = some _ := hoa
    rw [q] at q2
    cases q2
  have hsup := T.sup
  unfold PySem.W.ks_superIn at hsup
  rw [hcl] at hsup
  have hsup' : PySem.W.alongIn K "__init__" (((Value.ref C :: bmC).dropWhile (· != .ref C)).drop 1) = some (some (.builtin "ValueError.__init__")) := hsup
  have hinst : PySem.W.Looks (model prog w) h2 (isInstance (.ref a) (.type "ValueError")) true := by
    have J : PySem.W.InstAt h2 a { cls := .ref C, dict := none, data := .fields #[.ref t1, .none, .none, .none, .bool false, .none] } C none := ⟨k2 _ _ hoa, rfl, rfl, trivial⟩
    exact J.type.andThen (PySem.W.looks_subIn X2 T.subV)
  refine PySem.W.kxs_getMethod PySem.W.kxs_ValueError so2 (PySem.W.looks_opaque X2 T.opq) (l₀ := .ref C :: bmC) ((PySem.W.looks_clsIn X2 hcl).andThen .now) rfl X2 hsup' hinst hxC (by decide) ?_
  have k3 : ∀ b u, h2.get? b = some u → (h2.push (PySem.W.kxs_mw "ValueError.__init__" a)).get? b = some u := fun b u e => Heap.get?_push_of_some _ e
  have I3 : Inv (ncx CX prog w K mg base N F fI A outer s H E) [] (startF N vs [none]) H ⟨h2.push (PySem.W.kxs_mw "ValueError.__init__" a), gs, dr, tk + 1, os⟩ := I2.kept (t' := tk + 1) k3
  have hmw : (h2.push (PySem.W.kxs_mw "ValueError.__init__" a)).get? h2.objs.size = some (PySem.W.kxs_mw "ValueError.__init__" a) := Heap.get?_push_size _ rfl
  have I4 : Inv (ncx CX prog w K mg base N F fI A outer s H E) [(h2.objs.size, PySem.W.kxs_mw "ValueError.__init__" a)] (startF N vs [none]) H ⟨h2.push (PySem.W.kxs_mw "ValueError.__init__" a), gs, dr, tk + 1, os⟩ := I3.pins_of fun p hp => by
    have ep : p = (h2.objs.size, PySem.W.kxs_mw "ValueError.__init__" a) := by simpa using hp
    subst ep
    refine ⟨hmw, I2.hok.fresh (Nat.le_refl _), Nat.ne_of_gt I2.lt, I2.nofs (Nat.le_refl _), fun v z => by cases z⟩
  show wpAny _ _ (callWith p3 (.ref h2.objs.size) [] (backTo p3 (starEach (e :: es) (envF F fI s.heap.objs.size))) []) _ _ _
  have hst := B.st
  obtain ⟨hst1, hst2⟩ := Bool.and_eq_true_iff.mp (show (notStar e && es.all notStar) = true from hst)
  refine PySem.W.kxs_callWith (i := "ValueError.__init__") (x := a) (star_any hst) ?_
  rw [star_cons hst1]
  refine Calls.evalArgs_plain ?_
  have PAr := PAx.run p3 _ _ _ H _ I4 hq
  rw [star_cons hst1] at PAr
  refine wpAny_mono PAr (fun us2 s2 hus => ?_) fun e2 s2 he2 => he2
  obtain ⟨vs2', H2, I5, r2, hlen, hHa2, ht⟩ := hus
  have hmw2 := (I5.pin (h2.objs.size, PySem.W.kxs_mw "ValueError.__init__" a) List.mem_cons_self).1
  refine ⟨hmw2, ?_⟩
  obtain ⟨t2, hoa2⟩ := exo_at I5.hok hHa2
  have hlen2 : us2.length ≤ sizeLine := by
    rw [← Paired.length r2, sizeLine_eq]
    omega
  obtain ⟨hp3, gs3, dr3, tk3, os3⟩ := s2
  refine call_mw PySem.F.excBase_ValueError (I5.kIn _ _ hCl) hoa2 hmw2 (by simpa using hlen2) fun h4 t4 k4 hx4 => ?_
  have I6 := (I5.pins_of (pins' := []) fun p hp => by cases hp).write (t' := tk3) (x := a) (e := a) (o := exo a C none) (by rw [hHa2]; exact True.intro) (.inl rfl) k4 ⟨_, hx4⟩ (exo_ok hx4)
  have eu : upd H2 a (exo a C none) = H2 := by
    funext b
    by_cases hb : b = a
    · rw [hb, upd_same, hHa2]
    · rw [upd_ne hb]
  rw [eu] at I6
  refine PySem.wpAt_of_wpAny (wpAny_mono (PSx.run [] _ _ H2 _ I6 ht) (fun fl s' hs => ?_) fun e s' hs => hs)
  cases fl with
  | ret u =>
    obtain ⟨v, σ', H', J, rv, q⟩ := hs
    exact fin J rv q
  | next =>
    obtain ⟨σ', H', J, q⟩ := hs
    exact fin (v := V.non) (u := Value.none) J rfl q
  | brk =>
    obtain ⟨_, _, _, q⟩ := hs
    exact False.elim q
  | cont =>
    obtain ⟨_, _, _, q⟩ := hs
    exact False.elim q
end
end Ev
set_option Elab.async false
set_option linter.all false
set_option maxRecDepth 100000
set_option maxHeartbeats 1000000
/-! Ev23: raise: own errors, with and without fields -/
namespace Ev
open PySem L2 PySem.Spec PyProof.Rows NdefX

/-! ### the messages -/
/-- a part of a message: a text, a field -/
inductive Mp where
  | tx (s : Str) | fd (i : Nat)
def mpT : Mp → TE
  | .tx s => tC (.str s)
  | .fd i => tFmtA (tVar i)
/-- what may be told in a message -/
def fmtV (v : V) : Prop := (∃ y : Str, v = .str y ∧ y.length ≤ 100000) ∨ (∃ i : Int, v = .int i ∧ i.natAbs.log2 < 1920) ∨ v = .non ∨ ∃ b : Bool, v = .bl b
def fmtOk : D → Bool
  | .str y => decide (y.length ≤ 100000)
  | .int i => decide (i.natAbs.log2 < 1920)
  | .non => true
  | .bl _ => true
  | _ => false
theorem fmtV_of {g : G} {F : Hp} {d : D} {v : V} (h : fmtOk d = true) (hd : Den g F d v) : fmtV v := by
  cases d with
  | str y => exact .inl ⟨y, hd, of_decide_eq_true h⟩
  | int i => exact .inr (.inl ⟨i, hd, of_decide_eq_true h⟩)
  | non => exact .inr (.inr (.inl hd))
  | bl b => exact .inr (.inr (.inr ⟨b, hd⟩))
  | _ => cases h
theorem nat3 {a b c n m : Nat} (h : b ≤ a + c) (k : a + c + m ≤ n) : b + m ≤ n := by omega
theorem nat4 {a b n : Nat} (k : a + b ≤ n) : a ≤ n := by omega
theorem tJs_ok : ∀ (ms : List Mp) (acc : Str) (σ : L2.St) (H : Hp) (Q : Str → Hp → Prop), (∀ m ∈ ms, match m with | .tx s => s.length ≤ 100000 | .fd i => ∃ v, σ[i]? = some (some v) ∧ fmtV v) → acc.length + 100000 * ms.length ≤ sizeLine →
    (∀ out, Q out H) → tJs (ms.map mpT) acc σ H Q
  | [], acc, σ, H, Q, _, _, q => q acc
  | m :: ms, acc, σ, H, Q, h, hz, q => by
    have h1 := h m List.mem_cons_self
    have hz' : acc.length + 100000 + 100000 * ms.length ≤ sizeLine := by
      rw [List.length_cons] at hz
      omega
    have hR : ∀ m' ∈ ms, (match m' with | .tx s => s.length ≤ 100000 | .fd i => ∃ v, σ[i]? = some (some v) ∧ fmtV v) := fun m' hm => h m' (List.mem_cons_of_mem _ hm)
    have go : ∀ y : Str, y.length ≤ 100000 → (acc ++ y).length ≤ sizeLine ∧ tJs (ms.map mpT) (acc ++ y) σ H Q := fun y hy => by
      have e : (acc ++ y).length ≤ acc.length + 100000 := by
        rw [strLen_append]
        exact Nat.add_le_add_left hy _
      have e2 : (acc ++ y).length + 100000 * ms.length ≤ sizeLine := by
        generalize (acc ++ y).length = n1 at e ⊢
        generalize acc.length = n2 at e hz'
        generalize ms.length = n3 at hz' ⊢
        generalize sizeLine = n4 at hz' ⊢
        omega
      exact ⟨nat4 e2, tJs_ok ms (acc ++ y) σ H Q hR e2 q⟩
    have sz : (100000 : Nat) ≤ sizeLine := by
      have e := sizeLine_eq
      generalize sizeLine = n at e ⊢
      subst e
      exact Nat.le_of_ble_eq_true rfl
    cases m with
    | tx s =>
      obtain ⟨h2, h3⟩ := go s h1
      exact ⟨s, rfl, h2, h3⟩
    | fd i =>
      obtain ⟨v, hv, hf⟩ := h1
      refine ⟨v, hv, ?_⟩
      rcases hf with ⟨y, rfl, hy⟩ | ⟨i, rfl, hi⟩ | rfl | ⟨b, rfl⟩
      · obtain ⟨h2, h3⟩ := go y hy
        exact .inl ⟨y, rfl, Nat.le_trans hy sz, y, rfl, h2, h3⟩
      · have hl : (Str.ofString (toString i)).length ≤ 100000 := by
          have e := int_text_length_le (k := 1920) (by decide) hi
          rw [PySem.ofString_length]
          omega
        obtain ⟨h2, h3⟩ := go _ hl
        exact .inr (.inl ⟨i, rfl, hi, _, rfl, h2, h3⟩)
      · obtain ⟨h2, h3⟩ := go ("None" : Str) (by decide +kernel)
        exact .inr (.inr (.inl ⟨rfl, _, rfl, h2, h3⟩))
      · obtain ⟨h2, h3⟩ := go (if b then ("True" : Str) else ("False" : Str)) (by cases b <;> decide +kernel)
        exact .inr (.inr (.inr ⟨b, rfl, _, by cases b <;> rfl, h2, h3⟩))

/-! ### the reading of an own __init__: the message, then one field, two fields -/
def tMsg (ms : List Mp) : TA := tCons (fun σ H Q => tJs (ms.map mpT) Str.empty σ H fun out H1 => Q (.str out) H1) tNil
def tMsg1 (s : Str) : TA := tCons (tC (.str s)) tNil
def tSt1 (K : PySem.W.Frag) (f : Str) : TS := tOst K f (tVar 0) (tVar 1)
def tSt2 (K : PySem.W.Frag) (f f2 : Str) : TS := tSeq (tOst K f (tVar 0) (tVar 1)) (tOst K f2 (tVar 0) (tVar 2))
theorem upd_exo2 {H1 : Hp} {a d : Addr} {o1 o2 : HO} {fs : List (Str × V)} (ha : H1 a = none) (hd : d ≠ a) : upd (del (upd (upd (upd H1 a o1) d (exd d fs)) a o2) a) d (.xd fs) = upd H1 d (.xd fs) := by
  funext b
  by_cases h1 : b = d
  · subst h1
    rw [upd_same, upd_same]
  · rw [upd_ne h1, upd_ne h1]
    by_cases h2 : b = a
    · subst h2
      rw [del_same, ha]
    · rw [del_ne h2, upd_ne h2, upd_ne h1, upd_ne h2]
theorem exo_ne {e C : Addr} : exo e C none ≠ exo e C none → False := fun h => h rfl
section
variable {K : PySem.W.Frag} {C : Addr} {N ps : List Str} {H : Hp} {a : Addr} {Q : VK} {E : XK}
theorem sup1_ok {f : Str} {y : V} {ta : TA} (T : OexC K C) (hno : PySem.W.findIn K (.ref C) f = some none) (hps : ps.length = 2) (hH : H a = some (exo a C none))
    (hta : ∀ R : List V → Hp → Prop, (∀ s : Str, R [.str s] H) → ta (startF N [.ref a, y] [none]) H R)
    (q : ∀ d, H d = none → d ≠ a → Q .non (upd (upd H d (exd d [(f, y)])) a (exo a C (some d)))) : spSup C N ps ta (tSt1 K f) [.ref a, y] H Q E := by
  refine ⟨by rw [hps]; rfl, a, rfl, hH, hta _ fun s => ⟨by simp, hH, ?_⟩⟩
  refine ⟨y, rfl, .ref a, rfl, a, C, rfl, T, hno, .inl ⟨hH, fun d hd hne => q d hd hne⟩⟩
theorem sup2_ok {f f2 : Str} {y y2 : V} {ta : TA} (T : OexC K C) (hno : PySem.W.findIn K (.ref C) f = some none) (hno2 : PySem.W.findIn K (.ref C) f2 = some none) (hps : ps.length = 3) (hH : H a = some (exo a C none))
    (hta : ∀ R : List V → Hp → Prop, (∀ s : Str, R [.str s] H) → ta (startF N [.ref a, y, y2] [none]) H R)
    (q : ∀ d, H d = none → d ≠ a → Q .non (upd (upd H d (exd d [(f2, y2), (f, y)])) a (exo a C (some d)))) : spSup C N ps ta (tSt2 K f f2) [.ref a, y, y2] H Q E := by
  refine ⟨by rw [hps]; rfl, a, rfl, hH, hta _ fun s => ⟨by simp, hH, ?_⟩⟩
  refine ⟨y, rfl, .ref a, rfl, a, C, rfl, T, hno, .inl ⟨hH, fun d hd hne => ?_⟩⟩
  refine ⟨y2, rfl, .ref a, rfl, a, C, rfl, T, hno2, .inr ⟨d, [(f, y)], upd_same, by rw [upd_ne hne, upd_same], by simp, ?_⟩⟩
  have e : upd (upd (upd H d (exd d [(f, y)])) a (exo a C (some d))) d (exd d [(f2, y2), (f, y)]) = upd (upd H d (exd d [(f2, y2), (f, y)])) a (exo a C (some d)) := by
    funext b
    by_cases h1 : b = d
    · subst h1
      rw [upd_same, upd_ne hne, upd_same]
    · rw [upd_ne h1]
      by_cases h2 : b = a
      · subst h2; rw [upd_same, upd_same]
      · rw [upd_ne h2, upd_ne h2, upd_ne h1, upd_ne h1]
  show Q .non (upd _ d _)
  rw [e]
  exact q d hd hne
end

/-! ### what a body finds of the error classes -/
structure XInit (prog : Program) (w : World) (K : PySem.W.Frag) (mg : Str → Option Value) (base : Heap) (g : G) (P : Pt) (c k : Nat) (fI : Addr) (fd : FuncData) (ps : List Str) (sp : Sp) : Prop where
  ox : OexC K (g.cl c)
  iC : PySem.W.findIn K (.ref (g.cl c)) "__init__" = some (some (.ref fI))
  tI : PySem.W.typeIn K (.ref fI) = some (.type "function")
  ok : FnOk prog w K mg base (L2.CX prog w) k fI fd ps sp
  bi : Binds K fd ps []
  sp : ∀ (ds : List D) (vs : List V) (F H : Hp) (a : Addr) (Q : VK) (E : XK), DenL g F ds vs → P.xok c ds = true → H a = some (exo a (g.cl c) none) →
    (∀ d, H d = none → d ≠ a → Q .non (upd (upd H d (exd d ((g.nm c).zip vs).reverse)) a (exo a (g.cl c) (some d)))) → sp (.ref a :: vs) H Q E
structure XBare (K : PySem.W.Frag) (C : Addr) : Prop where
  ex : PySem.W.excIn K C [.type "ValueError", .type "Exception", .type "BaseException", .type "object"] "ValueError.__new__" = true
  kC : PySem.W.keepIn K (.ref C) = true
  exC : PySem.W.subIn K (.ref C) (.type "BaseException") = some true
  tyC : PySem.W.typeIn K (.ref C) = some (.type "type")
structure TabX (prog : Program) (w : World) (K : PySem.W.Frag) (mg : Str → Option Value) (base : Heap) (g : G) (P : Pt) (xs : List (Str × Nat)) (k : Nat) : Prop where
  eK : g.K = K
  err : ∀ t ∈ xs, mg t.1 = some (.ref (g.cl t.2)) ∧ ((∃ fI fd ps sp, XInit prog w K mg base g P t.2 k fI fd ps sp ∧ P.xok t.2 [] = false ∧ ∀ ds, P.xok t.2 ds = true → ds.length ≤ 1000) ∨ (XBare K (g.cl t.2) ∧ ∀ ds, P.xok t.2 ds = true → ds = []))
section
variable {X : Cx} {C : Addr} {bmB : List Value} {B newId initId : String}
/-- X() -/
theorem pmk_own0 {x : Str} {p pos : Pos} (F : ExcBaseFacts B newId initId bmB) (q : PySem.W.excIn X.K C bmB newId = true) (gC : X.mg x = some (.ref C)) (kC : PySem.W.keepIn X.K (.ref C) = true) (r : Raises X (.ref C)) (hg : Gl X x)
    (hdb : (x == ("__debug__" : Str)) = false) : PMk X (.Call (.Name x p) [] [] pos) (fun _ H Q => Q (.ref C) none H) := by
  intro pins s σ H Q I h
  refine wpAny_Call_Name_kw (ld_glob I hg gC ?_ hdb)
  refine PySem.W.callWith_K0 I.kIn kC ?_
  show wpAny _ _ (call (.ref C) []) _ _ _
  obtain ⟨bm, N, nm, qn, bs, hdct, sn, sub, ab, col, dd, k0, k1, k2, k3, k5, mN, hC, hN, hni, T⟩ := exc_obj I.kIn q
  refine wpAny_call_exc_subT F T hC hN hni (fun h' e hm => ?_) (Nat.zero_le _)
  exact mk_of I hm r h (I.hok.gone hm.new)
end
section
variable {g : G} {φ : Phi} {P : Pt} {ty : Sls} {W : WX} {rk : Kd} {X : Cx} {kd ka kb : Kd} {a b c : E} {xa xb xc : Expr} {pos p2 apos : Pos} {l : Es} {es : List Expr} {xs : List (Str × Nat)} {k : Nat}
variable {σ σ1 : L2.St} {H F H1 F1 H0 F0 : Hp} {e : Nv} {fp fp1 fp0 : Fps} {p pa pb : Bool} {Q : VK} {Z : Ends}
theorem s_raise (hc : X.calm = true) (B : TabX X.prog X.w X.K X.mg X.base g P xs k) (hr : Room (k + 1) X.A) (tk : Takes X W) (x : Str) (c : Nat) (hx : (x, c) ∈ xs) (hg : Gl X x) (hdb : (x == ("__debug__" : Str)) = false) (ha : PA X es (tEs g φ P ty W l)) (hn : es = [] → l = .nil) (hs : es.all notStar = true) :
    PS X (.Raise (some (.Call (.Name x p2) es [] pos)) none apos) (tS g φ P ty W rk (.raise c l)) := by
  obtain ⟨hm, hk⟩ := B.err _ hx
  -- the reading, opened
  have key : ∀ {Z : Ends} {σ : L2.St} {H : Hp}, tS g φ P ty W rk (.raise c l) Z σ H → tEs g φ P ty W l σ H fun vs H1 => ∃ ds e1 F1 fp1, Ns g ty σ H1 F1 e1 fp1 ∧ DenL g F1 ds vs ∧ P.xok c ds = true ∧ (evs φ P l = evs φ P l) ∧ (l = .nil → ds = []) ∧
      ∀ cc dd H2 F2 fp2, Tr false H1 F1 fp1 H2 F2 fp2 → Ns g ty σ H2 F2 e1 fp2 → XcAt g F2 ⟨c, ds⟩ cc dd → W cc dd σ H2 := fun {Z σ H} ⟨e, F, fp, N, h⟩ => by
    refine ⟨e, F, fp, N, ?_⟩
    rw [evS] at h
    cases hr : evs φ P l e with
    | stk => rw [hr] at h; exact h.elim
    | err y e1 => rw [hr] at h; exact fun c' dd H2 F2 fp2 t2 n2 x2 => h c' dd σ H2 F2 fp2 (t2.weak fun z => by cases z) n2 x2
    | ok ds e1 =>
      rw [hr] at h
      by_cases hz : P.xok c ds = true
      · have h : PoS g ty W rk (.err ⟨c, ds⟩ e1) σ H F fp Z := by simpa only [RE.o, if_pos hz] using h
        refine fun vs H1 F1 fp1 t n r => ⟨ds, e1, F1, fp1, n, r, hz, rfl, fun z => ?_, fun cc dd H2 F2 fp2 t2 n2 x2 => ?_⟩
        · subst z
          rw [evs] at hr
          cases hr
          rfl
        · exact h cc dd σ H2 F2 fp2 ((t.weak (q := false) fun z => by cases z).trans t2) n2 x2
      · have h : PoS g ty W rk .stk σ H F fp Z := by simpa only [RE.o, if_neg hz] using h
        exact h.elim
  rcases hk with ⟨fI, fd, ps, sp, XI, hx0, hxl⟩ | ⟨XB, hx0⟩
  · rcases star_head (env := X.env) hs with z | ⟨y, ys, z, h1, h2⟩
    · subst z
      refine ⟨fun pins s σ H Z I h => ?_⟩
      have h' := key h
      rw [hn rfl] at h'
      obtain ⟨ds, e1, F1, fp1, _, _, hz, _, hds, _⟩ := tEs_nil h'
      rw [hds rfl, hx0] at hz
      cases hz
    · subst z
      have hxF : Passes (L2.CX X.prog X.w) X (fun _ _ _ => False) := fun pins σ H s e s' I c => by
        obtain ⟨_, _, _, _, _, _, _, _, _, _, _, _, z⟩ := c
        exact z.elim
      refine PS.imp (ps_raise hc tk (pmk_oex (ds := []) (dvs := []) XI.ox XI.iC XI.tI XI.ok hr XI.bi .nil hxF hg hm ha hdb h1 (star_any h2))) fun Z σ H h => ?_
      refine tEs_imp (key h) fun vs H1 ⟨ds, e1, F1, fp1, n, r, hz, _, _, w⟩ => ?_
      rw [List.append_nil]
      refine ⟨by rw [r.length]; exact hxl _ hz, fun a hna => ?_⟩
      refine XI.sp ds vs F1 _ a _ _ r hz upd_same fun d hd hne => ?_
      have hd1 : H1 d = none := by
        rw [upd_ne hne] at hd
        exact hd
      refine ⟨rfl, d, ((g.nm c).zip vs).reverse, upd_same, by rw [upd_ne hne, upd_same], hd1, ?_⟩
      rw [upd_exo2 hna hne]
      refine w _ _ _ (upd F1 d (.xd ((g.nm c).zip vs).reverse)) fp1 ((Tr.layF n.sub hd1).weak fun z => by cases z) (n.layF hd1) ⟨rfl, .inr ⟨d, vs, rfl, upd_same, DenL.mono (sub_upd (n.sub.none hd1)) r⟩⟩
  · have rs : Raises X (.ref (g.cl c)) := raises_own XB.exC XB.tyC
    have fin : ∀ {Z : Ends} {σ : L2.St} {H : Hp}, tS g φ P ty W rk (.raise c l) Z σ H → tEs g φ P ty W l σ H fun vs H1 => vs.length ≤ sizeLine ∧ W (.ref (g.cl c)) none σ H1 := fun {Z σ H} h => tEs_imp (key h) fun vs H1 ⟨ds, e1, F1, fp1, n, r, hz, _, _, w⟩ => by
      have ed := hx0 _ hz
      subst ed
      refine ⟨by rw [r.length]; exact Nat.zero_le _, w _ _ _ F1 fp1 (Tr.refl _) n ⟨rfl, .inl ⟨rfl, rfl⟩⟩⟩
    rcases star_head (env := X.env) hs with z | ⟨y, ys, z, h1, h2⟩
    · subst z
      refine PS.imp (ps_raise hc tk (pmk_own0 PySem.F.excBase_ValueError XB.ex hm XB.kC rs hg hdb)) fun Z σ H h => ?_
      have h' := fin h
      rw [hn rfl] at h'
      exact (tEs_nil h').2
    · subst z
      exact PS.imp (ps_raise hc tk (pmk_ownA PySem.F.excBase_ValueError XB.ex hm XB.kC rs hg ha hdb h1 (star_any h2))) fun Z σ H h => fin h
end
end Ev
set_option Elab.async false
set_option linter.all false
set_option maxRecDepth 100000
set_option maxHeartbeats 1000000
/-! Ev24: try: several except clauses, with and without a name; what a clause's suite reads of the error -/
namespace Ev
open PySem L2 PySem.Spec PyProof.Rows

/-! ### the rule of the layer, for clauses of both kinds -/
def endN (i : Nat) (D : Ends) : Ends := { nx := fun σ' H' => D.nx (σ'.set i none) H', rt := D.rt, bk := fun σ' H' => D.bk (σ'.set i none) H', ct := fun σ' H' => D.ct (σ'.set i none) H' }
abbrev Cl1 := Value × Option Nat × (Addr → Value → Option Addr → TS)
def wMix (K : PySem.W.Frag) (Wout : WX) (D : Ends) : List Cl1 → WX
  | [] => Wout
  | (c, none, ts) :: r => fun cls d σ H => ∃ b, PySem.W.exmOne K cls c = some b ∧ (b = true → ∀ a, H a = none → ts a cls d D σ H) ∧ (b = false → wMix K Wout D r cls d σ H)
  | (c, some i, ts) :: r => fun cls d σ H => ∃ b, PySem.W.exmOne K cls c = some b ∧ (b = true → ∀ a, H a = none → ts a cls d (endN i D) (σ.set i (some (.ref a))) H) ∧ (b = false → wMix K Wout D r cls d σ H)
inductive HdM (X : Cx) : List ExceptHandler → List Cl1 → Prop
  | nil : HdM X [] []
  | bare {x : Str} {c : Value} {ts : Addr → Value → Option Addr → TS} {b₀ : Stmt} {suite : List Stmt} {np pos' : Pos} {hds : List ExceptHandler} {l : List Cl1} (hc : Names X x c)
      (hsu : ∀ (a : Addr) (oe : Obj) (cls : Value) (d : Option Addr) (pn : List (Addr × Obj)), Zc cls d oe → (∃ vs, oe.data = .fields vs) → PSs (X.suite a ((a, oe) :: pn)) (b₀ :: suite) (ts a cls d)) (r : HdM X hds l) :
      HdM X (.ExceptHandler (some (.Name x np)) none (b₀ :: suite) pos' :: hds) ((c, none, ts) :: l)
  | named {x n : Str} {i : Nat} {c : Value} {ts : Addr → Value → Option Addr → TS} {b₀ : Stmt} {suite : List Stmt} {np pos' : Pos} {hds : List ExceptHandler} {l : List Cl1} (hc : Names X x c) (hi : X.N[i]? = some n) (hln : X.env.kindOf n = some .local)
      (hsu : ∀ (a : Addr) (oe : Obj) (cls : Value) (d : Option Addr) (pn : List (Addr × Obj)), Zc cls d oe → (∃ vs, oe.data = .fields vs) → PSs (X.suite a ((a, oe) :: pn)) (b₀ :: suite) (ts a cls d)) (r : HdM X hds l) :
      HdM X (.ExceptHandler (some (.Name x np)) (some n) (b₀ :: suite) pos' :: hds) ((c, some i, ts) :: l)
section
variable {X : Cx} {body : List Stmt} {h₀ : ExceptHandler} {hds : List ExceptHandler} {l : List Cl1} {pos : Pos} {tb : WX → TS} {Wout : WX}
theorem ps_try_mix (hs : X.stack = X.env :: X.outer) (hf : X.env.frame = some X.env.locals) (hN : X.N.Nodup) (tk : Takes X Wout)
    (hb : ∀ (W : WX) (pn : List (Addr × Obj)) (xe : Value → Shared → Prop), Takes (X.tr pn xe) W → PassesOwn (model X.prog X.w) X.A X.env xe → PSs (X.tr pn xe) body (tb W))
    (hh : HdM X (h₀ :: hds) l) : PS X (.Try body (h₀ :: hds) [] [] pos) (fun D σ H => tb (wMix X.K Wout D l) D σ H) := by
  refine ⟨fun pins s σ H D I h => ?_⟩
  have ok := I.ok
  have hfr : X.A.frames = some (X.env :: X.outer) := by rw [ok.frames, hs]
  refine wpAny_Try_except ?_
  refine wpAny_mono ((hb (wMix X.K Wout D l) (X.pn ++ pins) (fun e s₁ => wpAny (model X.prog X.w) X.A (noteFrame e X.env) (fun _ s₂ => wpAny (model X.prog X.w) X.A (setFlight e none) (fun _ s₃ =>
    wpAny (model X.prog X.w) X.A (handleBy e X.env (h₀ :: hds)) (SP X pins D) X.xe s₃) X.xe s₂) X.xe s₁) (fun u s' xx => ?_) PassesOwn.looking).run [] s σ H D (I.toTry _) h) (fun f s1 hsp => ?_) (fun e s1 he => he)
  · obtain ⟨a, B, sI, pins', σ', H', cls, d, rfl, J', nb, up, sky, na, os, ag, w⟩ := xx
    have J : Inv X pins σ' H' sI := J'.ofTry ok
    have sky' : Sky B (X.env :: X.outer) a (Zc cls d) X.env.locals s'.heap := by rw [← hs]; exact sky
    show wpAny (model X.prog X.w) X.A (noteFrame (.ref a) X.env) _ _ _
    refine Sky.land Zc.steady hfr hf sky' fun h3 fl3 up3 => ?_
    have J3 : Inv X pins σ' H' { s' with heap := h3 } := J.landed nb fl3.1 (up.trans up3) os ag
    obtain ⟨oe3, vs3, he3, hz3, hd3⟩ := fl3.there
    have notFr : ∀ {h : Heap} {o : Obj} {vs : Array Value}, h.FunFrames B (X.env :: X.outer) → h.get? a = some o → o.data = .fields vs → a ∉ frs (X.env :: X.outer) := fun {h o vs} ff e dd hm => by
      obtain ⟨_, o', e', hnf⟩ := ff.mem hm
      rw [e] at e'; cases e'
      exact hnf _ dd
    have nfr := notFr fl3.2.2.1 he3 hd3
    have nL : a ≠ X.env.locals := fun z => nfr (List.mem_filterMap.mpr ⟨X.env, List.mem_cons_self, by rw [hf, z]⟩)
    have nF : a ∉ X.fs := fun hm => by
      obtain ⟨e, he, q⟩ := List.mem_filterMap.mp hm
      exact nfr (List.mem_filterMap.mpr ⟨e, List.mem_cons_of_mem _ he, q⟩)
    have S3 := J3.suite he3 hd3 na nL nF
    have LT : PySem.W.Looks (model X.prog X.w) h3 (typeOf (.ref a)) cls := fun A Q E s k q => wpAny_typeOf_ref (k _ _ he3) (by rw [hz3.1]; exact q)
    have test : ∀ {x : Str} {c : Value} {np : Pos} {Q : Value → Shared → Prop} {E : Value → Shared → Prop}, Names X x c → Q c { s' with heap := h3 } → wpAny (model X.prog X.w) (X.A.mark (some (.ref a))) (eval (.Name x np) X.env) Q E { s' with heap := h3 } := fun {x c np Q E} hc q => by
      obtain ⟨hg, hdbg, hm | ⟨hm, hv, hnn⟩⟩ := hc
      · exact ld_glob (X := X.suite a ((a, oe3) :: (X.pn ++ pins))) S3 hg hm q hdbg
      · exact ld_blt (X := X.suite a ((a, oe3) :: (X.pn ++ pins))) S3 hg hm hv q hnn hdbg
    have go : ∀ {hds' : List ExceptHandler} {l' : List Cl1}, HdM X hds' l' → wMix X.K Wout D l' cls d σ' H' →
        wpAny (model X.prog X.w) X.A (handleBy (.ref a) X.env hds') (SP X pins D) X.xe { s' with heap := h3 } := by
      intro hds' l' hk
      induction hk with
      | nil =>
        intro w
        refine wpAny_handleBy_nil ?_
        obtain ⟨k1, k2, k3, oe, vs, T, oT, ts', he, hz, hd, h1, hr⟩ := id fl3
        unfold PySem.passOn
        refine wpAny_bind (wpAny_field he hd h1 ?_)
        rw [if_neg (show ¬ ((Value.ref T == Value.none) = true) from by simp)]
        have fin : wpAny (model X.prog X.w) X.A (setFlight (.ref a) X.env.frame) (fun _ s4 => wpAny (model X.prog X.w) X.A (throw (.ref a) : Sem Flow) (SP X pins D) X.xe s4) X.xe { s' with heap := h3 } := by
          rw [hf]
          refine HandSPX.setFlight_upZ fl3 fun h4 hh4 up4 => wpAny_throw (tk _ _ ?_)
          exact ⟨a, B, sI, pins, σ', H', cls, d, rfl, J, nb, (up.trans up3).trans up4, .inr (.inr (by rw [hs]; exact hh4)), na, os, ag, w⟩
        first
          | exact wpAny_bind (wpAny_pure (wpAny_bind fin))
          | exact wpAny_bind fin
      | @bare x c ts b₀ suite np pos' hds2 l2 hc hsu r ih =>
        intro w
        obtain ⟨b, hb1, hyes, hno⟩ := w
        refine wpAny_handleBy_cons (codeAny_handlers_test ?_) (by intro q; cases q)
        have LM := PySem.W.exm_one (M := model X.prog X.w) (J3.kIn) LT hb1
        refine test hc (LM.here ?_)
        cases b with
        | true =>
          refine codeAny_handlers_suite ?_
          refine HandSPX.lands_againZ fl3 fun h4 fl4 up4 => ?_
          have J4 : Inv X pins σ' H' { s' with heap := h4 } := J.landed nb fl4.1 ((up.trans up3).trans up4) os ag
          obtain ⟨oe4, vs4, he4, hz4, hd4⟩ := fl4.there
          have S4 := J4.suite he4 hd4 na nL nF
          refine wpAny_mono ((hsu a oe4 cls d (X.pn ++ pins) hz4 ⟨_, hd4⟩).run [] _ _ H' _ S4 (hyes rfl a na)) (fun f s6 hsp => ?_) (fun _ _ z => False.elim z)
          cases f with
          | next =>
            obtain ⟨σ6, H6, S6, q6⟩ := hsp
            exact ⟨_, _, S6.unsuite ok, q6⟩
          | brk =>
            obtain ⟨σ6, H6, S6, q6⟩ := hsp
            exact ⟨_, _, S6.unsuite ok, q6⟩
          | cont =>
            obtain ⟨σ6, H6, S6, q6⟩ := hsp
            exact ⟨_, _, S6.unsuite ok, q6⟩
          | ret u =>
            obtain ⟨v6, σ6, H6, S6, r6, q6⟩ := hsp
            exact ⟨_, _, _, S6.unsuite ok, r6, q6⟩
        | false =>
          show wpAny _ X.A (handleBy (.ref a) X.env hds2) _ _ _
          exact ih (hno rfl)
      | @named x n i c ts b₀ suite np pos' hds2 l2 hc hi hln hsu r ih =>
        intro w
        obtain ⟨b, hb1, hyes, hno⟩ := w
        refine wpAny_handleBy_cons (codeAny_handlers_test ?_) (by intro q; cases q)
        have LM := PySem.W.exm_one (M := model X.prog X.w) (J3.kIn) LT hb1
        refine test hc (LM.here ?_)
        cases b with
        | true =>
          refine codeAny_handlers_suite_as ?_
          refine HandSPX.lands_againZ fl3 fun h4 fl4 up4 => ?_
          have J4 : Inv X pins σ' H' { s' with heap := h4 } := J.landed nb fl4.1 ((up.trans up3).trans up4) os ag
          obtain ⟨oe4, vs4, he4, hz4, hd4⟩ := fl4.there
          have S4 := J4.suite he4 hd4 na nL nF
          refine store_ok (X := X.suite a ((a, oe4) :: (X.pn ++ pins))) (v := .ref a) S4 hN hi (.inl hln) rfl (fun s5 S5 => ?_) (.inr hln)
          refine wpAny_mono ((hsu a oe4 cls d (X.pn ++ pins) hz4 ⟨_, hd4⟩).run [] s5 _ H' _ S5 (hyes rfl a na)) (fun f s6 hsp => ?_) (fun _ _ z => False.elim z)
          have end_ : ∀ {σ6 : L2.St} {H6 : Hp} {Q : Shared → Prop}, Inv (X.suite a ((a, oe4) :: (X.pn ++ pins))) [] σ6 H6 s6 → (∀ s7, Inv X pins (σ6.set i none) H6 s7 → Q s7) →
              wpAny (model X.prog X.w) X.A (do bindName X.env n .none; unbindBehindTheSuite X.env n pos') (fun _ s7 => Q s7) X.xe s6 := fun {σ6 H6 Q} S6 hq => gone_ok (S6.unsuite ok) hN hi hln hq
          cases f with
          | next =>
            obtain ⟨σ6, H6, S6, q6⟩ := hsp
            exact end_ S6 fun s7 J7 => ⟨_, _, J7, q6⟩
          | brk =>
            obtain ⟨σ6, H6, S6, q6⟩ := hsp
            exact end_ S6 fun s7 J7 => ⟨_, _, J7, q6⟩
          | cont =>
            obtain ⟨σ6, H6, S6, q6⟩ := hsp
            exact end_ S6 fun s7 J7 => ⟨_, _, J7, q6⟩
          | ret u =>
            obtain ⟨v6, σ6, H6, S6, r6, q6⟩ := hsp
            exact end_ S6 fun s7 J7 => ⟨_, _, _, J7, r6, q6⟩
        | false =>
          show wpAny _ X.A (handleBy (.ref a) X.env hds2) _ _ _
          exact ih (hno rfl)
    exact go hh w
  · cases f with
    | next =>
      obtain ⟨σ', H', J', q⟩ := hsp
      exact wpAny_execs_nil ⟨σ', H', J'.ofTry ok, q⟩
    | brk =>
      obtain ⟨σ', H', J', q⟩ := hsp
      exact ⟨σ', H', J'.ofTry ok, q⟩
    | cont =>
      obtain ⟨σ', H', J', q⟩ := hsp
      exact ⟨σ', H', J'.ofTry ok, q⟩
    | ret u =>
      obtain ⟨v, σ', H', J', r, q⟩ := hsp
      exact ⟨v, σ', H', J'.ofTry ok, r, q⟩
/-- a slot whose name the text does not have may hold anything -/
theorem inv_dummy {pins : List (Addr × Obj)} {σ : L2.St} {H : Hp} {s : Shared} {q : Nat} {x : Str} {v : V} (I : Inv X pins σ H s) (hq : X.N[q]? = some x) (hv : ¬ Vis X.env.scope x) : Inv X pins (σ.set q (some v)) H s :=
  ⟨I.ok, I.os, I.bare, I.base, let ⟨m, hn, hl⟩ := I.loc; ⟨m, hn, fun i y u e1 e2 e3 => by
    by_cases z : i = q
    · subst z
      rw [hq] at e1
      cases e1
      exact absurd e3 hv
    · rw [List.getElem?_set_ne (Ne.symm z)] at e2
      exact hl i y u e1 e2 e3⟩, I.cell, I.free, I.freeC, I.pin, I.hok, by rw [List.length_set]; exact I.len⟩
theorem pss_dummy {q : Nat} {x : Str} {b : List Stmt} {t : TS} (hq : X.N[q]? = some x) (hv : ¬ Vis X.env.scope x) (h : PSs X b t) : PSs X b (fun D σ H => ∃ v, t D (σ.set q (some v)) H) :=
  ⟨fun pins s σ H D I ⟨v, w⟩ => h.run pins s _ H D (inv_dummy I hq hv) w⟩
theorem pss_ex {α : Sort u} {p : α → Prop} {b : List Stmt} {t : α → TS} (h : ∀ z, p z → PSs X b (t z)) : PSs X b (fun D σ H => ∃ z, p z ∧ t z D σ H) :=
  ⟨fun pins s σ H D I ⟨z, hp, w⟩ => (h z hp).run pins s _ H D I w⟩
end

/-! ### what the text says of its error classes; the clauses of the core -/
/-- a class' value, by its number (999: ValueError) -/
def xcV (g : G) (c : Nat) : Value := if c = 999 then .type "ValueError" else .ref (g.cl c)
structure XFacts (K : PySem.W.Frag) (g : G) (P : Pt) (fnm : List Str) : Prop where
  exm : ∀ c c', P.isx c' = true → P.isx c = true → PySem.W.exmOne K (xcV g c') (xcV g c) = some (P.below c' c)
  kit : ∀ c c', P.isx c' = true → (P.isx c || c == 999) = true → c' ≠ 999 → PySem.W.kitOne K (.ref (g.cl c')) (xcV g c) = some (P.below c' c)
  xf : ∀ c, P.isx c = true → c ≠ 999 → XfC K (g.cl c) ∧ ExcC K (g.cl c)
  nof : ∀ (c f k : Nat) (x : Str), P.isx c = true → c ≠ 999 → P.xfd c f = some k → fnm[f]? = some x → (g.nm c)[k]? = some x ∧ (g.nm c).Nodup ∧ PySem.W.findIn K (.ref (g.cl c)) x = some none
/-- what a suite may know -/
structure SuF (K : PySem.W.Frag) (g : G) (P : Pt) (ty : Sls) (a : Addr) (oe : Obj) (i qc c : Nat) (d : Option Addr) (ql : List (Nat × Str)) : Prop where
  is : P.isx c = true
  n9 : c ≠ 999
  pe : (i, V.ref a) ∈ ty.pin
  pc : (qc, V.ref (g.cl c)) ∈ ty.pin
  zc : Zc (.ref (g.cl c)) d oe
  hf : ∃ vs, oe.data = .fields vs
  fl : d = none ∨ ∃ dd fs, d = some dd ∧ (dd, HO.xd fs) ∈ ty.fz
  qs : ∀ x ∈ ql, ∃ dd fs v, d = some dd ∧ (dd, HO.xd fs) ∈ ty.fz ∧ fs.lookup x.2 = some v ∧ (x.1, v) ∈ ty.pin
  no : ∀ x ∈ ql, PySem.W.findIn K (.ref (g.cl c)) x.2 = some none
/-- the slots that hold the fields: slot, field's number; place, field's name -/
inductive JsAt (X : Cx) (P : Pt) (ty : Sls) (fnm : List Str) : List Nat → List (Nat × Nat) → List (Nat × Str) → Prop
  | nil {bad : List Nat} : JsAt X P ty fnm bad [] []
  | cons {bad : List Nat} {j f q : Nat} {x y : Str} {js : List (Nat × Nat)} {ql : List (Nat × Str)} (ok : NmOk ty (j, []) q 0) (hx : fnm[f]? = some x) (hN : X.N[q]? = some y) (hv : X.env.scope.names.lookup y = none) (hb : q ∉ bad) (r : JsAt X P ty fnm (q :: bad) js ql) :
      JsAt X P ty fnm bad ((j, f) :: js) ((q, x) :: ql)
section
variable {g : G} {φ : Phi} {P : Pt} {ty : Sls} {W : WX} {rk : Kd} {X : Cx} {kd ka kb : Kd} {a b c : E} {xa xb xc : Expr} {pos p2 p3 apos : Pos} {l : Es} {es : List Expr} {fnm : List Str}
variable {σ σ1 : L2.St} {H F H1 F1 H0 F0 : Hp} {e e' : Nv} {fp fp1 fp0 : Fps} {p pa pb : Bool} {Q : VK} {Z : Ends}
theorem Ns.pinned (N : Ns g ty σ H F e fp) {q : Nat} {v : V} (h : σ[q]? = some (some v)) : Ns g ⟨ty.l, (q, v) :: ty.pin, ty.fz⟩ σ H F e fp :=
  ⟨N.sub, N.val, N.nil, N.fr, N.nd, N.dj, N.len, N.el, fun x hx => by
    rcases List.mem_cons.mp hx with z | hx
    · rw [z]; exact h
    · exact N.pn x hx, N.fz⟩
theorem Ns.froz (N : Ns g ty σ H F e fp) {a : Addr} {o : HO} (h : F a = some o) : Ns g ⟨ty.l, ty.pin, (a, o) :: ty.fz⟩ σ H F e fp :=
  ⟨N.sub, N.val, N.nil, N.fr, N.nd, N.dj, N.len, N.el, N.pn, fun x hx => by
    rcases List.mem_cons.mp hx with z | hx
    · rw [z]; exact h
    · exact N.fz x hx⟩
theorem Ns.unpin {ty' : Sls} (N : Ns g ty' σ H F e fp) (hl : ty'.l = ty.l) (hp : ∀ x ∈ ty.pin, x ∈ ty'.pin) (hz : ∀ x ∈ ty.fz, x ∈ ty'.fz) : Ns g ty σ H F e fp :=
  ⟨N.sub, by rw [← hl]; exact N.val, N.nil, N.fr, N.nd, N.dj, by rw [← hl]; exact N.len, by rw [← hl]; exact N.el, fun x hx => N.pn x (hp x hx), fun x hx => N.fz x (hz x hx)⟩
/-- a place without slots is stored -/
theorem Ns.other (N : Ns g ty σ H F e fp) {i : Nat} {o : Option V} (h : ∀ (j q k : Nat), ty.l[j]? = some (q, k) → q ≠ i) (hp : ∀ x ∈ ty.pin, x.1 ≠ i) : Ns g ty (σ.set i o) H F e fp :=
  ⟨N.sub, fun j d hj => by
    obtain ⟨q, k, v, h1, h2, h3⟩ := N.val j d hj
    exact ⟨q, k, v, h1, by rw [List.getElem?_set_ne (Ne.symm (h j q k h1))]; exact h2, h3⟩, N.nil, N.fr, N.nd, N.dj, fun j q k hj => by rw [List.length_set]; exact N.len j q k hj, N.el, fun x hx => by rw [List.getElem?_set_ne (Ne.symm (hp x hx))]; exact N.pn x hx, N.fz⟩
theorem zip_lookup : ∀ {ns : List Str} {vs : List V} {k : Nat} {x : Str} {v : V}, ns.Nodup → ns[k]? = some x → vs[k]? = some v → ((ns.zip vs).reverse).lookup x = some v
  | [], _, k, x, v, _, h, _ => by simp at h
  | n :: ns, [], k, x, v, _, _, h => by simp at h
  | n :: ns, u :: vs, 0, x, v, nd, h1, h2 => by
    simp at h1 h2
    subst h1 h2
    have hn : ((ns.zip vs).reverse).lookup n = none := by
      cases e : ((ns.zip vs).reverse).lookup n with
      | none => rfl
      | some w =>
        have m := PySem.mem_of_lookup e
        exact absurd (List.of_mem_zip (List.mem_reverse.mp m)).1 (List.nodup_cons.mp nd).1
    rw [List.zip_cons_cons, List.reverse_cons, List.lookup_append, hn]
    simp [List.lookup]
  | n :: ns, u :: vs, k + 1, x, v, nd, h1, h2 => by
    have ih := zip_lookup (k := k) (List.nodup_cons.mp nd).2 (by simpa using h1) (by simpa using h2)
    rw [List.zip_cons_cons, List.reverse_cons, List.lookup_append, ih] <;> rfl
theorem JsAt.to {ty' : Sls} (hl : ty'.l = ty.l) : ∀ {bad : List Nat} {js : List (Nat × Nat)} {ql : List (Nat × Str)}, JsAt X P ty fnm bad js ql → (∀ z ∈ ty'.pin, z ∈ ty.pin ∨ z.1 ∈ bad) → JsAt X P ty' fnm bad js ql := fun {bad js ql} J => by
  induction J with
  | nil => exact fun _ => .nil
  | @cons bad' j' f' q' x' y' js' ql' ok' hx' hN' hv' hb' r' ih =>
    refine fun hp => .cons ⟨by rw [hl]; exact ok'.at_, by rw [hl]; exact ok'.all, ok'.out, fun z hz w => ?_⟩ hx' hN' hv' hb' (ih fun z hz => (hp z hz).imp id fun w => List.mem_cons_of_mem _ w)
    rcases hp z hz with h | h
    · exact ok'.pn z h w
    · exact hb' (by rw [← w]; exact h)
/-- what is seen of the slots is seen of these -/
def Dm (X : Cx) (σ σ1 : L2.St) : Prop := ∀ Y : Cx, Y.N = X.N → Y.env = X.env → ∀ (pins : List (Addr × Obj)) (H : Hp) (s : Shared), L2.Inv Y pins σ H s → L2.Inv Y pins σ1 H s
/-- the fields are told: the slots hold them, the places are pinned -/
theorem bind_all (fact : XFacts X.K g P fnm) {x : Xc} {fs : List (Str × V)} {vs : List V} (hi : P.isx x.c = true) (h9 : x.c ≠ 999) (hfs : fs = ((g.nm x.c).zip vs).reverse) : ∀ {js : List (Nat × Nat)} {ql : List (Nat × Str)} {bad : List Nat} {ty : Sls} {σ : L2.St} {e e1 : Nv} {fp : Fps},
    JsAt X P ty fnm bad js ql → (∀ y ∈ ty.pin, y.1 ∈ bad) → DenL g F x.l vs → Ns g ty σ H F e fp → bindX P x js e = some e1 →
    ∃ (pv : List (Nat × V)) (σ1 : L2.St) (fp1 : Fps), Ns g ⟨ty.l, pv ++ ty.pin, ty.fz⟩ σ1 H F e1 fp1 ∧ Tr false H F fp H F fp1 ∧ pv.map (·.1) = (ql.map (·.1)).reverse ∧ (∀ y ∈ ql, ∃ v, fs.lookup y.2 = some v ∧ (y.1, v) ∈ pv ∧ PySem.W.findIn X.K (.ref (g.cl x.c)) y.2 = some none) ∧ Dm X σ σ1
  | [], ql, bad, ty, σ, e, e1, fp, J, hp, hd, N, hb => by
    cases J
    cases hb
    exact ⟨[], σ, fp, N, Tr.refl _, rfl, fun y hy => (by cases hy), fun _ _ _ _ _ _ I => I⟩
  | (j, f) :: js, _, bad, ty, σ, e, e1, fp, J, hp, hd, N, hb => by
    cases J with
    | @cons _ _ _ q nmx y _ ql ok hx hN hv hbq r =>
      unfold bindX at hb
      cases hk : P.xfd x.c f with
      | none => rw [hk] at hb; cases hb
      | some k =>
        cases hl : x.l[k]? with
        | none => simp only [hk, Option.bind_some, hl] at hb; cases hb
        | some d =>
          simp only [hk, Option.bind_some, hl] at hb
          obtain ⟨v, hv1, hv2⟩ := hd.get hl
          obtain ⟨n1, n2, n3⟩ := fact.nof x.c f k nmx hi h9 hk hx
          have hlook : fs.lookup nmx = some v := by rw [hfs]; exact zip_lookup n2 n1 hv1
          have N1 : Ns g ty (σ.set q (some v)) H F (st e j (some d)) (fpN fp (j, []) []) := N.store (n := (j, [])) (k := 0) ok ⟨hv2, rfl⟩ List.nodup_nil fun a ha => (by cases ha)
          have hqs : (σ.set q (some v))[q]? = some (some v) := by rw [List.getElem?_set_self (N.len _ _ _ ok.at_)]
          have N2 := N1.pinned hqs
          have J2 : JsAt X P ⟨ty.l, (q, v) :: ty.pin, ty.fz⟩ fnm (q :: bad) js ql := JsAt.to (ty := ty) (ty' := ⟨ty.l, (q, v) :: ty.pin, ty.fz⟩) rfl r fun z hz => by
            rcases List.mem_cons.mp hz with z' | hz
            · exact .inr (by rw [z']; exact List.mem_cons_self)
            · exact .inl hz
          obtain ⟨pv, σ1, fp1, N3, t3, m3, q3, k3⟩ := bind_all fact hi h9 hfs (js := js) J2 (fun z hz => by
            rcases List.mem_cons.mp hz with z' | hz
            · rw [z']; exact List.mem_cons_self
            · exact List.mem_cons_of_mem _ (hp z hz)) hd N2 hb
          refine ⟨pv ++ [(q, v)], σ1, fp1, ?_, ?_, ?_, fun z hz => ?_, fun Y hY1 hY2 pins H' s I => ?_⟩
          · rw [List.append_assoc]
            exact N3
          · exact (Tr.store (n := (j, [])) (Tr.refl true) (fun a ha => by cases ha)).trans t3
          · rw [List.map_append, m3]
            simp
          · rcases List.mem_cons.mp hz with z' | hz
            · rw [z']
              exact ⟨v, hlook, List.mem_append_right _ List.mem_cons_self, n3⟩
            · obtain ⟨u, h1, h2, h3⟩ := q3 z hz
              exact ⟨u, h1, List.mem_append_left _ h2, h3⟩
          · refine k3 Y hY1 hY2 pins H' s (inv_dummy (x := y) I (by rw [hY1]; exact hN) fun z => ?_)
            unfold Vis at z
            rw [hY2, hv] at z
            rcases z with z | z | z <;> cases z
/-- the clauses and their core -/
inductive HdE (X : Cx) (g : G) (φ : Phi) (P : Pt) (ty : Sls) (rk : Kd) (fnm : List Str) : List ExceptHandler → Hs → Prop
  | nil : HdE X g φ P ty rk fnm [] .nil
  | bare {x : Str} {c : Nat} {b₀ : Stmt} {suite : List Stmt} {np pos' : Pos} {hds : List ExceptHandler} {b : Ss} {l : Hs} (hc : Names X x (xcV g c)) (hi : P.isx c = true)
      (hsu : ∀ (a : Addr) (oe : Obj) (pn : List (Addr × Obj)), PSs (X.suite a ((a, oe) :: pn)) (b₀ :: suite) (tSs g φ P ty WF rk b)) (r : HdE X g φ P ty rk fnm hds l) :
      HdE X g φ P ty rk fnm (.ExceptHandler (some (.Name x np)) none (b₀ :: suite) pos' :: hds) (.cons c none b l)
  | named {x n yc : Str} {i c jc qc : Nat} {js : List (Nat × Nat)} {ql : List (Nat × Str)} {b₀ : Stmt} {suite : List Stmt} {np pos' : Pos} {hds : List ExceptHandler} {b : Ss} {l : Hs} (hc : Names X x (xcV g c)) (hi : P.isx c = true)
      (hN : X.N[i]? = some n) (hln : X.env.kindOf n = some .local) (hni : ∀ (j q k : Nat), ty.l[j]? = some (q, k) → q ≠ i) (hpi : ∀ z ∈ ty.pin, z.1 ≠ i)
      (okc : NmOk ty (jc, []) qc 0) (hNc : X.N[qc]? = some yc) (hvc : X.env.scope.names.lookup yc = none) (J : JsAt X P ty fnm (qc :: i :: ty.pin.map (·.1)) js ql)
      (hsu : ∀ (a : Addr) (oe : Obj) (c' : Nat) (d : Option Addr) (pn : List (Addr × Obj)) (ty' : Sls), ty'.l = ty.l → ty'.pin.map (·.1) = (ql.map (·.1)).reverse ++ (qc :: i :: ty.pin.map (·.1)) → SuF X.K g P ty' a oe i qc c' d ql →
        PSs (X.suite a ((a, oe) :: pn)) (b₀ :: suite) (tSs g φ P ty' WF rk b)) (r : HdE X g φ P ty rk fnm hds l) :
      HdE X g φ P ty rk fnm (.ExceptHandler (some (.Name x np)) (some n) (b₀ :: suite) pos' :: hds) (.cons c (some (jc, js)) b l)
theorem noErr_bare {r : O} (h : PoS g ty W rk (noErr r) σ H F fp Z) : PoS g ty WF rk r σ H F fp Z := by
  cases r with
  | err x e => exact h.elim
  | _ => exact h
theorem noErr_named {ty' : Sls} {r : O} {i : Nat} (h : PoS g ty W rk (noErr r) σ H F fp Z) (hl : ty'.l = ty.l) (hp : ∀ x ∈ ty.pin, x ∈ ty'.pin) (hz : ∀ x ∈ ty.fz, x ∈ ty'.fz) (hni : ∀ (j q k : Nat), ty.l[j]? = some (q, k) → q ≠ i) (hpi : ∀ z ∈ ty.pin, z.1 ≠ i) :
    PoS g ty' WF rk r σ1 H F fp (endN i Z) := by
  cases r with
  | err x e => exact h.elim
  | stk => exact h
  | nx e => exact fun σ2 H2 F2 fp2 t n => h _ H2 F2 fp2 t ((n.unpin hl hp hz).other hni hpi)
  | bk e => exact fun σ2 H2 F2 fp2 t n => h _ H2 F2 fp2 t ((n.unpin hl hp hz).other hni hpi)
  | ct e => exact fun σ2 H2 F2 fp2 t n => h _ H2 F2 fp2 t ((n.unpin hl hp hz).other hni hpi)
  | ret d e => exact fun v σ2 H2 F2 fp2 t n r => h v σ2 H2 F2 fp2 t (n.unpin hl hp hz) r
theorem HdE.mix (fact : XFacts X.K g P fnm) : ∀ {hds : List ExceptHandler} {h : Hs}, HdE X g φ P ty rk fnm hds h → ∃ l, HdM X hds l ∧ ∀ (x : Xc) (e : Nv) (c : Value) (dd : Option Addr) (σ : L2.St) (H F : Hp) (fp : Fps) (Z : Ends),
    Ns g ty σ H F e fp → XcAt g F x c dd → P.isx x.c = true → x.c ≠ 999 → PoS g ty W rk (evH φ P h x e) σ H F fp Z → wMix X.K W Z l c dd σ H := fun {hds h} D => by
  induction D with
  | nil =>
    refine ⟨[], .nil, fun x e c dd σ H F fp Z N hx hi h9 h => ?_⟩
    rw [evH] at h
    exact h c dd σ H F fp (Tr.refl _) N hx
  | @bare x c b₀ suite np pos' hds b l hc hi hsu r ih =>
    obtain ⟨ml, m1, m2⟩ := ih
    refine ⟨_ :: ml, .bare (ts := fun _ _ _ => tSs g φ P ty WF rk b) hc (fun a oe cls d pn _ _ => hsu a oe pn) m1, fun x e cv dd σ H F fp Z N hx hix h9 h => ?_⟩
    have ex := fact.exm c x.c hix hi
    have ec : cv = xcV g x.c := by
      rw [hx.1]
      unfold xcV
      rw [if_neg h9]
    refine ⟨P.below x.c c, by rw [ec]; exact ex, fun hb a ha => ?_, fun hb => ?_⟩
    · rw [evH, if_pos hb] at h
      exact ⟨e, F, fp, N, noErr_bare h⟩
    · rw [evH, if_neg (by rw [hb]; exact Bool.false_ne_true)] at h
      exact m2 x e cv dd σ H F fp Z N hx hix h9 h
  | @named x n yc i c jc qc js ql b₀ suite np pos' hds b l hc hi hN hln hni hpi okc hNc hvc J hsu r ih =>
    obtain ⟨ml, m1, m2⟩ := ih
    refine ⟨_ :: ml, .named (i := i) (ts := fun a cls d D σ' H' => σ'.length = X.N.length → ∃ (c' : Nat) (ty' : Sls) (σ1 : L2.St), (ty'.l = ty.l ∧ ty'.pin.map (·.1) = (ql.map (·.1)).reverse ++ (qc :: i :: ty.pin.map (·.1)) ∧ (∀ oe, Zc cls d oe → (∃ vs, oe.data = .fields vs) → SuF X.K g P ty' a oe i qc c' d ql) ∧ Dm X σ' σ1) ∧ tSs g φ P ty' WF rk b D σ1 H')
      hc hN hln (fun a oe cls d pn hz hf => ⟨fun pins s σ' H D I w0 => by
        obtain ⟨c', ty', σ1, ⟨h1, h2, h3, h4⟩, w⟩ := w0 I.len
        exact (hsu a oe c' d pn ty' h1 h2 (h3 oe hz hf)).run pins s σ1 H D (h4 (X.suite a ((a, oe) :: pn)) rfl rfl pins H s I) w⟩) m1, fun x e cv dd σ H F fp Z N hx hix h9 h => ?_⟩
    have ex := fact.exm c x.c hix hi
    have ec : cv = xcV g x.c := by
      rw [hx.1]
      unfold xcV
      rw [if_neg h9]
    refine ⟨P.below x.c c, by rw [ec]; exact ex, fun hb a ha => ?_, fun hb => ?_⟩
    · rw [evH, if_pos hb] at h
      obtain ⟨hcl, hfl⟩ := hx
      -- the name's place
      have N1 : Ns g ty (σ.set i (some (.ref a))) H F e fp := N.other hni hpi
      cases hb2 : bindX P x js (st e jc (some (.cls x.c))) with
      | none => simp only [hb2] at h; exact h.elim
      | some e1 =>
        simp only [hb2] at h
        intro hlen
        have hiσ : i < (σ.set i (some (.ref a))).length := by
          rw [hlen]
          exact (List.getElem?_eq_some_iff.mp hN).1
        have hsi : (σ.set i (some (V.ref a)))[i]? = some (some (.ref a)) := List.getElem?_set_self (by rw [List.length_set] at hiσ; exact hiσ)
        have N1p := N1.pinned hsi
        have hqi : qc ≠ i := hni jc qc 0 okc.at_
        have okc' : NmOk ⟨ty.l, (i, V.ref a) :: ty.pin, ty.fz⟩ (jc, []) qc 0 := ⟨okc.at_, okc.all, okc.out, fun z hz => by
          rcases List.mem_cons.mp hz with z' | hz
          · rw [z']; exact Ne.symm hqi
          · exact okc.pn z hz⟩
        have N2 : Ns g ⟨ty.l, (i, V.ref a) :: ty.pin, ty.fz⟩ ((σ.set i (some (.ref a))).set qc (some (.ref (g.cl x.c)))) H F (st e jc (some (.cls x.c))) (fpN fp (jc, []) []) := N1p.store (n := (jc, [])) (k := 0) (d := .cls x.c) okc' ⟨rfl, rfl⟩ List.nodup_nil fun a ha => (by cases ha)
        have hqs : ((σ.set i (some (V.ref a))).set qc (some (.ref (g.cl x.c))))[qc]? = some (some (.ref (g.cl x.c))) := List.getElem?_set_self (N1p.len _ _ _ okc.at_)
        have N3 := N2.pinned hqs
        have t2 : Tr false H F fp H F (fpN fp (jc, []) []) := Tr.store (n := (jc, [])) (Tr.refl true) (fun a ha => by cases ha)
        have D1 : Dm X (σ.set i (some (.ref a))) ((σ.set i (some (.ref a))).set qc (some (.ref (g.cl x.c)))) := fun Y hY1 hY2 pins H' s I => inv_dummy (x := yc) I (by rw [hY1]; exact hNc) fun z => by
          unfold Vis at z
          rw [hY2, hvc] at z
          rcases z with z | z | z <;> cases z
        have J2 : JsAt X P ⟨ty.l, (qc, V.ref (g.cl x.c)) :: (i, V.ref a) :: ty.pin, ty.fz⟩ fnm (qc :: i :: ty.pin.map (·.1)) js ql := JsAt.to (ty := ty) (ty' := ⟨ty.l, (qc, V.ref (g.cl x.c)) :: (i, V.ref a) :: ty.pin, ty.fz⟩) rfl J fun z hz => by
          rcases List.mem_cons.mp hz with z' | hz
          · exact .inr (by rw [z']; exact List.mem_cons_self)
          · rcases List.mem_cons.mp hz with z' | hz
            · exact .inr (by rw [z']; exact List.mem_cons_of_mem _ List.mem_cons_self)
            · exact .inl hz
        have hpb : ∀ y ∈ ((qc, V.ref (g.cl x.c)) :: (i, V.ref a) :: ty.pin : List (Nat × V)), y.1 ∈ (qc :: i :: ty.pin.map (·.1) : List Nat) := fun y hy => by
          have := List.mem_map_of_mem (f := (·.1)) hy
          simpa using this
        have fin : ∀ (fs : List (Str × V)) (vs : List V), fs = ((g.nm x.c).zip vs).reverse → DenL g F x.l vs → (dd = none ∧ fs = [] ∨ ∃ b, dd = some b ∧ F b = some (.xd fs)) →
            ∃ (c' : Nat) (ty' : Sls) (σ1 : L2.St), (ty'.l = ty.l ∧ ty'.pin.map (·.1) = (ql.map (·.1)).reverse ++ (qc :: i :: ty.pin.map (·.1)) ∧ (∀ oe, Zc cv dd oe → (∃ vs, oe.data = .fields vs) → SuF X.K g P ty' a oe i qc c' dd ql) ∧ Dm X (σ.set i (some (.ref a))) σ1) ∧ tSs g φ P ty' WF rk b (endN i Z) σ1 H := fun fs vs hfs hden hdd => by
          obtain ⟨pv, σ1, fp1, N4, t3, m3, q3, k3⟩ := bind_all fact hix h9 hfs J2 hpb hden N3 hb2
          have hpm : ∀ (fz : List (Addr × HO)), (⟨ty.l, pv ++ (qc, V.ref (g.cl x.c)) :: (i, V.ref a) :: ty.pin, fz⟩ : Sls).pin.map (·.1) = (ql.map (·.1)).reverse ++ (qc :: i :: ty.pin.map (·.1)) := fun fz => by
            show (pv ++ (qc, V.ref (g.cl x.c)) :: (i, V.ref a) :: ty.pin).map (·.1) = _
            rw [List.map_append, m3]
            rfl
          have pinm : ∀ z ∈ ty.pin, z ∈ pv ++ (qc, V.ref (g.cl x.c)) :: (i, V.ref a) :: ty.pin := fun z hz => List.mem_append_right _ (List.mem_cons_of_mem _ (List.mem_cons_of_mem _ hz))
          have hP : PoS g ty W rk (noErr (evSs φ P b e1)) σ H F fp1 Z := PoS.shift h (t2.trans t3)
          rcases hdd with ⟨hd1, hd2⟩ | ⟨bd, hd1, hd2⟩
          · refine ⟨x.c, ⟨ty.l, pv ++ (qc, V.ref (g.cl x.c)) :: (i, V.ref a) :: ty.pin, ty.fz⟩, σ1, ⟨rfl, hpm _, fun oe hz hf => ⟨hix, h9, ?_, ?_, ?_, hf, .inl hd1, fun y hy => ?_, fun y hy => (q3 y hy).choose_spec.2.2⟩, ?_⟩, e1, F, fp1, N4, ?_⟩
            · exact List.mem_append_right _ (List.mem_cons_of_mem _ List.mem_cons_self)
            · exact List.mem_append_right _ List.mem_cons_self
            · rw [← hcl]; exact hz
            · obtain ⟨v, hv, _⟩ := q3 y hy
              rw [hd2] at hv
              cases hv
            · exact fun Y hY1 hY2 pins H' s I => k3 Y hY1 hY2 pins H' s (D1 Y hY1 hY2 pins H' s I)
            · exact noErr_named (ty' := ⟨ty.l, pv ++ (qc, V.ref (g.cl x.c)) :: (i, V.ref a) :: ty.pin, ty.fz⟩) hP rfl pinm (fun z hz => hz) hni hpi
          · refine ⟨x.c, ⟨ty.l, pv ++ (qc, V.ref (g.cl x.c)) :: (i, V.ref a) :: ty.pin, (bd, .xd fs) :: ty.fz⟩, σ1, ⟨rfl, hpm _, fun oe hz hf => ⟨hix, h9, ?_, ?_, ?_, hf, .inr ⟨bd, fs, hd1, List.mem_cons_self⟩, fun y hy => ?_, fun y hy => (q3 y hy).choose_spec.2.2⟩, ?_⟩, e1, F, fp1, N4.froz hd2, ?_⟩
            · exact List.mem_append_right _ (List.mem_cons_of_mem _ List.mem_cons_self)
            · exact List.mem_append_right _ List.mem_cons_self
            · rw [← hcl]; exact hz
            · obtain ⟨v, hv, hv2, _⟩ := q3 y hy
              exact ⟨bd, fs, v, hd1, List.mem_cons_self, hv, List.mem_append_left _ hv2⟩
            · exact fun Y hY1 hY2 pins H' s I => k3 Y hY1 hY2 pins H' s (D1 Y hY1 hY2 pins H' s I)
            · exact noErr_named (ty' := ⟨ty.l, pv ++ (qc, V.ref (g.cl x.c)) :: (i, V.ref a) :: ty.pin, (bd, .xd fs) :: ty.fz⟩) hP rfl pinm (fun z hz => List.mem_cons_of_mem _ hz) hni hpi
        rcases hfl with ⟨h1, h2⟩ | ⟨bd, vs, h1, h2, h3⟩
        · exact fin _ [] rfl (by rw [h1]; rfl) (.inl ⟨h2, by simp⟩)
        · exact fin _ vs rfl h3 (.inr ⟨bd, h1, h2⟩)
    · rw [evH, if_neg (by rw [hb]; exact Bool.false_ne_true)] at h
      exact m2 x e cv dd σ H F fp Z N hx hix h9 h
theorem s_try {body : List Stmt} {h₀ : ExceptHandler} {hds : List ExceptHandler} {b : Ss} {h : Hs} (fact : XFacts X.K g P fnm) (hs : X.stack = X.env :: X.outer) (hf : X.env.frame = some X.env.locals) (hN : X.N.Nodup) (tk : Takes X W) (h9 : P.isx 999 = false)
    (hb : ∀ (W' : WX) (pn : List (Addr × Obj)) (xe : Value → Shared → Prop), Takes (X.tr pn xe) W' → PassesOwn (model X.prog X.w) X.A X.env xe → PSs (X.tr pn xe) body (tSs g φ P ty W' rk b))
    (hh : HdE X g φ P ty rk fnm (h₀ :: hds) h) : PS X (.Try body (h₀ :: hds) [] [] pos) (tS g φ P ty W rk (.try_ b h)) := by
  obtain ⟨l, m1, m2⟩ := hh.mix (W := W) fact
  refine PS.imp (ps_try_mix (Wout := W) hs hf hN tk hb m1) fun Z σ H ⟨e, F, fp, N, w⟩ => ⟨e, F, fp, N, ?_⟩
  rw [evS] at w
  cases hr : evSs φ P b e with
  | err x e1 =>
    rw [hr] at w
    by_cases hx : P.isx x.c = true
    · have w : PoS g ty W rk (evH φ P h x e1) σ H F fp Z := by simpa only [if_pos hx] using w
      refine fun c dd σ1 H1 F1 fp1 t n xa => m2 x e1 c dd σ1 H1 F1 fp1 Z n xa hx (fun z => ?_) (PoS.shift w t)
      rw [z, h9] at hx
      cases hx
    · have w : PoS g ty W rk .stk σ H F fp Z := by simpa only [if_neg hx] using w
      exact w.elim
  | stk => rw [hr] at w; exact w
  | nx e => rw [hr] at w; exact w
  | bk e => rw [hr] at w; exact w
  | ct e => rw [hr] at w; exact w
  | ret d e => rw [hr] at w; exact w
/-! ### in a suite -/
section
variable {ty' : Sls} {a0 : Addr} {oe : Obj} {i qc c0 : Nat} {d : Option Addr} {ql : List (Nat × Str)} {pn : List (Addr × Obj)}
/-- e.f -/
theorem s_xf (fact : XFacts X.K g P fnm) (S : SuF X.K g P ty' a0 oe i qc c0 d ql) {q j : Nat} {n x : Str} (hq : (q, x) ∈ ql) (hty : ty'.l[j]? = some (q, 0)) (hN : X.N[i]? = some n) (hv : Vis X.env.scope n) (hd : (n == ("__debug__" : Str)) = false) (hcd : (n == ("__classdict__" : Str)) = false)
    (hb : attributeBase (.Name n p3) x X.env (eval (.Name n p3) X.env) = eval (.Name n p3) X.env) :
    PE (X.suite a0 ((a0, oe) :: pn)) (.Attribute (.Name n p3) x pos) (tE g φ P ty' W .F (.v j)) := by
  refine PE.imp (pe_xf (fact.xf c0 S.is S.n9).1 (S.no _ hq) S.zc S.hf (pe_var (X := X.suite a0 ((a0, oe) :: pn)) hN hv hd hcd) hb) fun σ H Q ⟨e, F, fp, N, h⟩ => ?_
  rw [ev] at h
  cases hj : gt e j with
  | none => rw [hj] at h; exact h.elim
  | some dv =>
    rw [hj] at h
    obtain ⟨q', k', v', h1, h2, h3⟩ := N.val j dv hj
    rw [hty] at h1
    cases h1
    obtain ⟨dd, fs, v, e1, e2, e3, e4⟩ := S.qs _ hq
    have h4 := N.pn _ e4
    rw [h4] at h2
    cases h2
    exact ⟨.ref a0, N.pn _ S.pe, rfl, rfl, dd, fs, v, e1, N.sub _ _ (N.fz _ e2), e3, h v H F fp (Tr.refl _) N h3.1⟩
def xcC (g : G) (c : Nat) : V := if c = 999 then .ty "ValueError" else .ref (g.cl c)
theorem rel_xc {c : Nat} : RelV (xcC g c) (xcV g c) := by
  unfold xcC xcV
  by_cases h : c = 999
  · rw [if_pos h, if_pos h]; exact rfl
  · rw [if_neg h, if_neg h]; exact rfl
theorem rel_xcU {c : Nat} {u : Value} (h : RelV (xcC g c) u) : u = xcV g c := by
  unfold xcC at h
  unfold xcV
  by_cases z : c = 999
  · rw [if_pos z] at h ⊢; exact h
  · rw [if_neg z] at h ⊢; exact h
theorem pe_names {x : Str} {c : Nat} (hc : Names X x (xcV g c)) : PE X (.Name x pos) (tC (xcC g c)) := by
  obtain ⟨hg, hdb, h | ⟨h1, h2, h3⟩⟩ := hc
  · exact pe_glob hg h rel_xc hdb
  · exact pe_bltn hg h1 h2 rel_xc h3 hdb
/-- isinstance(e, C) -/
theorem s_xis (fact : XFacts X.K g P fnm) (h9 : P.isx 999 = false) (S : SuF X.K g P ty' a0 oe i qc c0 d ql) {jc c : Nat} {n x : Str} (hty : ty'.l[jc]? = some (qc, 0)) (hN : X.N[i]? = some n) (hv : Vis X.env.scope n) (hd : (n == ("__debug__" : Str)) = false) (hcd : (n == ("__classdict__" : Str)) = false)
    (hg : Gl X "isinstance") (hm : X.mg "isinstance" = none) (hc : Names X x (xcV g c)) :
    PE (X.suite a0 ((a0, oe) :: pn)) (.Call (.Name "isinstance" p2) [.Name n p3, .Name x apos] [] pos) (tE g φ P ty' W .F (.xis jc [c])) := by
  have T := (fact.xf c0 S.is S.n9).2
  have hcR : CallR (X.suite a0 ((a0, oe) :: pn)) (.builtin "isinstance") (fun xs H Q => xs = [.ref a0, xcC g c] ∧ (d = none ∨ ∃ dd fs, d = some dd ∧ H dd = some (.xd fs)) ∧ (P.isx c || c == 999) = true ∧ Q (.bl (P.below c0 c)) H) := by
    intro pins s σ H xs us Q I r h
    obtain ⟨rfl, hdd, hic, q⟩ := h
    cases r with
    | cons rx rr =>
      cases rr with
      | cons rt rr =>
        cases rr
        cases rx
        have ec := rel_xcU rt
        subst ec
        obtain ⟨hget, _⟩ := I.pin (a0, oe) (List.mem_append.mpr (.inl List.mem_cons_self))
        obtain ⟨vs, hvs⟩ := S.hf
        have hnc : PySem.W.notCls oe = true := by
          unfold PySem.W.notCls
          rw [hvs]
        have e := fact.kit c c0 S.is hic S.n9
        have hcl : (PySem.W.clsIn X.K (g.cl c0)).isSome = true := by
          obtain ⟨cd, hc, _⟩ := PySem.W.any_some T.hd
          rw [hc]
          rfl
        have fin : ∀ od, PySem.W.InstAt s.heap a0 oe (g.cl c0) od → wpAny (model X.prog X.w) (X.suite a0 ((a0, oe) :: pn)).A (call (.builtin "isinstance") [.ref a0, xcV g c]) (EP (X.suite a0 ((a0, oe) :: pn)) pins σ Q) (X.suite a0 ((a0, oe) :: pn)).xe s := fun od J =>
          PySem.W.kia_one (PySem.W.kitx_exc hcl T.hg T.hk T.hs T.ha T.hn T.ht T.hm) I.kIn J e (fun z => nomatch z) fun tk => ⟨.bl (P.below c0 c), H, I.kept (t' := tk) fun _ _ z => z, rfl, q⟩
        rcases hdd with hdd | ⟨dd, fs, hdd, hx⟩
        · refine fin none ⟨hget, S.zc.1, hnc, ?_⟩
          rw [S.zc.2, hdd]
          trivial
        · obtain ⟨mA, hns, _⟩ := I.hok dd _ hx
          obtain ⟨od, ho, _⟩ := lookIn_ns hns
          refine fin (some od) ⟨hget, S.zc.1, hnc, ?_⟩
          rw [S.zc.2, hdd]
          exact ho
  have hpa : PA (X.suite a0 ((a0, oe) :: pn)) [.Name n p3, .Name x apos] (tCons (tVar i) (tCons (tC (xcC g c)) tNil)) := pa_cons (pe_var (X := X.suite a0 ((a0, oe) :: pn)) hN hv hd hcd) (pa_cons (pe_names (X := X.suite a0 ((a0, oe) :: pn)) hc) pa_nil)
  refine PE.imp (pe_callB hcR (X := X.suite a0 ((a0, oe) :: pn)) hg hm (by decide +kernel) hpa) fun σ H Q ⟨e, F, fp, N, h⟩ => ?_
  rw [ev] at h
  cases hj : gt e jc with
  | none => rw [hj] at h; exact h.elim
  | some dv =>
    rw [hj] at h
    obtain ⟨q', k', v', h1, h2, h3⟩ := N.val jc dv hj
    rw [hty] at h1
    cases h1
    rw [N.pn _ S.pc] at h2
    cases h2
    cases dv with
    | cls c1 =>
      have e1 : V.ref (g.cl c0) = .ref (g.cl c1) := h3.1
      have e1 : g.cl c0 = g.cl c1 := V.ref.inj e1
      by_cases z : (P.isx c1 && [c].all (fun k => P.isx k || k == 999)) = true
      · have h : Post g ty' .F (pureE (.xis jc [c])) (.ok (.bl ([c].any fun k => P.below c1 k)) e) σ H F fp W Q := by simpa only [if_pos z] using h
        obtain ⟨z1, z2⟩ := Bool.and_eq_true_iff.mp z
        have z3 : (P.isx c || c == 999) = true := by simpa using z2
        have n1 : c1 ≠ 999 := fun w => by
          rw [w, h9] at z1
          cases z1
        have k0 := fact.kit c c0 S.is z3 S.n9
        have k1 := fact.kit c c1 z1 z3 n1
        rw [e1, k1] at k0
        have eb : P.below c1 c = P.below c0 c := Option.some.inj k0
        refine ⟨.ref a0, N.pn _ S.pe, rfl, ?_, z3, ?_⟩
        · rcases S.fl with z | ⟨dd, fs, z1, z2⟩
          · exact .inl z
          · exact .inr ⟨dd, fs, z1, N.sub _ _ (N.fz _ z2)⟩
        · have q := h (.bl ([c].any fun k => P.below c1 k)) H F fp (Tr.refl _) N rfl
          have eq : ([c].any fun k => P.below c1 k) = P.below c0 c := by simp [eb]
          rw [eq] at q
          exact q
      · have h : Post g ty' .F (pureE (.xis jc [c])) .stk σ H F fp W Q := by simpa only [if_neg z] using h
        exact h.elim
    | _ => exact h.elim
theorem t_names {xs : List (Str × Nat)} {k : Nat} (B : TabX X.prog X.w X.K X.mg X.base g P xs k) (x : Str) (c : Nat) (hx : (x, c) ∈ xs) (hg : Gl X x) (hd : (x == ("__debug__" : Str)) = false) (h9 : (c == 999) = false) : Names X x (xcV g c) := by
  refine ⟨hg, hd, .inl ?_⟩
  unfold xcV
  rw [if_neg (by simpa using h9)]
  exact (B.err _ hx).1
theorem t_namesV (hg : Gl X "ValueError") (hm : X.mg "ValueError" = none) : Names X "ValueError" (xcV g 999) :=
  ⟨hg, by decide, .inr ⟨hm, by unfold xcV; rw [if_pos rfl]; decide +kernel, by decide⟩⟩
/-- a place that has no slot; that is not pinned -/
theorem noPl {l : List (Nat × Nat)} {i : Nat} (h : (l.all fun x => !(x.1 == i)) = true) : ∀ (j q k : Nat), l[j]? = some (q, k) → q ≠ i := fun j q k hj z => by
  have h1 := List.all_eq_true.mp h _ (List.mem_of_getElem? hj)
  rw [z] at h1
  simp at h1
theorem noPn {l : List (Nat × V)} {i : Nat} (h : ((l.map (·.1)).all fun x => !(x == i)) = true) : ∀ z ∈ l, z.1 ≠ i := fun z hz w => by
  have h1 := List.all_eq_true.mp h _ (List.mem_map_of_mem hz)
  rw [w] at h1
  simp at h1
theorem v0s {l0 : List (Nat × Nat)} (hl : ty'.l = l0) (j : Nat) {q : Nat} {x : Str} (hty : l0[j]? = some (q, 0)) (hN : X.N[q]? = some x) (hv : Vis X.env.scope x) (hd : (x == ("__debug__" : Str)) = false) (hc : (x == ("__classdict__" : Str)) = false) : PE X (.Name x pos) (tE g φ P ty' W .F (.v j)) :=
  s_v (by rw [hl]; exact hty) hN hv hd hc
theorem nmoks {n : Nm} {l0 : List (Nat × Nat)} {ps : List Nat} {q k : Nat} (hl : ty'.l = l0) (hp : ty'.pin.map (·.1) = ps) (h : nmC l0 ps n q k = true) : NmOk ty' n q k := by
  subst hl hp
  exact nmok h
end
end
end Ev
set_option Elab.async false
set_option linter.all false
set_option maxRecDepth 100000
set_option maxHeartbeats 1000000
/-! Ev25: the head: what is asked of the written part; the errors' tables from it -/
namespace Ev
open PySem L2 PySem.Spec PyProof.Rows He NdefX

abbrev Fx := PySem.W.Frag → Bool
/-! ### the part of the heap that the names reach -/
def markL : List Addr → Nat → List Addr → Nat × List Addr
  | [], m, nf => (m, nf)
  | b :: r, m, nf => if m.testBit b then markL r m nf else markL r (m ||| (1 <<< b)) (b :: nf)
def markF (g : Addr → Option Obj) : List Addr → Nat → List Addr → Nat × List Addr
  | [], m, nf => (m, nf)
  | a :: r, m, nf => match g a with
    | some o => match markL (refsD o) m nf with
      | (m', nf') => markF g r m' nf'
    | none => markF g r m nf
def reach (g : Addr → Option Obj) : Nat → Nat → List Addr → List Addr → List Addr
  | 0, _, _, acc => acc
  | n + 1, m, fr, acc => match markF g fr m [] with
    | (m', nf) => reach g n m' nf (acc ++ nf)
def asM (g : Addr → Option Obj) (n : Nat) : List Addr := match markL [mainGlobals, cStatics] 0 [] with
  | (m, fr) => reach g n m fr fr
/-! ### functions -/
/-- what a static method, a classmethod stands for -/
def unw (K : PySem.W.Frag) (a : Addr) : Addr := match PySem.W.recIn K a "staticmethod" with
  | some (.ref f :: _) => f
  | _ => match PySem.W.recIn K a "classmethod" with
    | some (.ref f :: _) => f
    | _ => a
/-- a function: a global's, a class's (that of a static method, too) -/
def fA (K : PySem.W.Frag) (p : Str × Option Str) : Addr := match p.2 with
  | none => ga K p.1
  | some m => unw K (ma K (ga K p.1) m)
theorem fA_fn {K : PySem.W.Frag} {x m : Str} (h : PySem.W.typeIn K (.ref (ma K (ga K x) m)) = some (.type "function")) : fA K (x, some m) = ma K (ga K x) m := by
  show unw K (ma K (ga K x) m) = _
  generalize ma K (ga K x) m = a at h
  have key : ∀ T, T ≠ "function" → PySem.W.recIn K a T = none := fun T hT => by
    have h : (K.lookup a).map (·.cls) = some (.type "function") := h
    unfold PySem.W.recIn
    cases q : K.lookup a with
    | none => rfl
    | some o =>
      rw [q] at h
      obtain ⟨oc, od, dt, osl⟩ := o
      have hc : oc = .type "function" := Option.some.inj h
      subst hc
      cases dt with
      | fields vs =>
        have : ("function" == T) = false := by simpa using fun z => hT z.symm
        simp only [this, Bool.false_eq_true, if_false]
      | _ => rfl
  unfold unw
  rw [key "staticmethod" (by decide), key "classmethod" (by decide)]
theorem fA_isFn {K : PySem.W.Frag} {x m : Str} (h : PySem.W.isFn K (.ref (ma K (ga K x) m)) = true) : fA K (x, some m) = ma K (ga K x) m := fA_fn (beq_iff_eq.mp h)
abbrev Fn7 : Type := Option (Str × Str × Arguments × FuncBody × Scope × Addr × Addr)
def fn7 (K : PySem.W.Frag) (p : Str × Option Str) : Fn7 := match K.lookup (fA K p) with
  | some ⟨_, _, .func fd, _⟩ => some (fd.name, fd.qualname, fd.params, fd.body, fd.scope, fd.globals, fd.builtins)
  | _ => none
/-- a def: where it stands, its name, its qualified name, its statement -/
structure Df where
  at_ : Str × Option Str
  name : Str
  qual : Str
  st : Stmt
def Df.val (d : Df) : Fn7 := some (d.name, d.qual, defArgs d.st, .stmts (defBody d.st), defScope d.st, mainGlobals, builtinsNs)
theorem fn7_ok {K : PySem.W.Frag} {d : Df} (e : fn7 K d.at_ = d.val) : ∃ oc od osl cl dV kV doc pm an cdv ct, K.lookup (fA K d.at_) = some ⟨oc, od, .func (PySem.W.fnX d.name d.qual (defArgs d.st) (defBody d.st) (defScope d.st) cl dV kV doc pm an cdv ct), osl⟩ := by
  unfold fn7 at e
  cases q : K.lookup (fA K d.at_) with
  | none => rw [q] at e; cases e
  | some o =>
    obtain ⟨oc, od, dt, osl⟩ := o
    rw [q] at e
    cases dt with
    | func fd =>
      obtain ⟨n1, n2, n3, n4, n5, n6, n7, n8, n9, n10, n11, n12, n13, n14, n15⟩ := fd
      have e2 : (some (n1, n2, n3, n4, n5, n6, n15) : Fn7) = some (d.name, d.qual, defArgs d.st, .stmts (defBody d.st), defScope d.st, mainGlobals, builtinsNs) := e
      simp only [Option.some.injEq, Prod.mk.injEq] at e2
      obtain ⟨h1, h2, h3, h4, h5, h6, h7⟩ := e2
      subst h1 h2 h3 h4 h5 h6 h7
      exact ⟨oc, od, osl, n7, n8, n9, n10, n11, n12, n13, n14, rfl⟩
    | _ => cases e
/-- a def without captured names: its defaults -/
def plB (p : Str × Option Str) (qual : Str) (dfl : List V) : Fx := fun K => PySem.W.keepIn K (.ref (fA K p)) && (match K.lookup (fA K p) with
  | some ⟨_, _, .func fd, _⟩ => fd.closure.isEmpty && (PySem.W.codeIn K fd.code qual && (dflB K fd.defaults dfl && kwdB K fd.kwdefaults []))
  | _ => false)
theorem pl_ok {K : PySem.W.Frag} {d : Df} {dfl : List V} (e : fn7 K d.at_ = d.val) (c : plB d.at_ d.qual dfl K = true) : ∃ fd, FunD K d.name d.qual (defArgs d.st) (defBody d.st) (defScope d.st) dfl [] (fA K d.at_) fd := by
  obtain ⟨kp, c2⟩ := ba c
  obtain ⟨oc, od, osl, cl, dV, kV, doc, pm, an, cdv, ct, q⟩ := fn7_ok e
  rw [q] at c2
  obtain ⟨c3, c4⟩ := ba (show (cl.isEmpty && (PySem.W.codeIn K cdv d.qual && (dflB K dV dfl && kwdB K kV []))) = true from c2)
  obtain ⟨k1, k2⟩ := ba c4
  obtain ⟨k3, k4⟩ := ba k2
  have ecl : cl = [] := List.isEmpty_iff.mp c3
  subst ecl
  exact ⟨_, ⟨oc, od, dV, kV, doc, pm, an, cdv, ct, osl, rfl, q, k1, dflB_ok k3, kwdB_ok k4⟩, kp⟩
/-! ### the Hook -/
abbrev AlM : Type := Bool × List Fn7
def obsM (fa : List Fx) (fn : List Df) (K : PySem.W.Frag) : AlM := (fa.all fun f => f K, fn.map fun d => fn7 K d.at_)
def valM (fn : List Df) : AlM := (true, fn.map Df.val)
def SaysM (fa : List Fx) (fn : List Df) (K : PySem.W.Frag) : Prop := obsM fa fn K = valM fn
def obsMG (n : Nat) (fa : List Fx) (fn : List Df) (g : Addr → Option Obj) : AlM := obsM fa fn (frG g (asM g n))
def hookM (n : Nat) (fa : List Fx) (fn : List Df) : PySem.W.Hook where
  α := AlM
  obs := fun s => obsMG n fa fn s.heap.get?
  val := fun _ => valM fn
  says := fun _ h => ∃ K : PySem.W.Frag, K.In h ∧ SaysM fa fn K
  of := fun _ _ e => ⟨_, frG_in, e⟩
  keeps := fun _ _ _ ⟨K, hK, c⟩ k => ⟨K, PySem.W.Frag.In.keeps hK k, c⟩
theorem obsMG_eq {n : Nat} {fa : List Fx} {fn : List Df} {g : Addr → Option Obj} {s : Shared} (h : ∀ a, g a = s.heap.get? a) : obsMG n fa fn g = (hookM n fa fn).obs s := by
  have e : g = s.heap.get? := funext h
  rw [e] <;> rfl
section
variable {fa : List Fx} {fn : List Df} {K : PySem.W.Frag}
theorem SaysM.fact (c : SaysM fa fn K) (i : Nat) {f : Fx} (h : fa[i]? = some f) : f K = true := by
  have c1 : (fa.all fun f => f K) = true := congrArg (fun z : AlM => z.1) c
  exact List.all_eq_true.mp c1 f (List.mem_of_getElem? h)
theorem SaysM.def_ (c : SaysM fa fn K) (i : Nat) {d : Df} (h : fn[i]? = some d) : fn7 K d.at_ = d.val := by
  have e : fn.map (fun d => fn7 K d.at_) = fn.map Df.val := congrArg (fun z : AlM => z.2) c
  have e2 : (fn.map fun d => fn7 K d.at_)[i]? = (fn.map Df.val)[i]? := by rw [e]
  rw [List.getElem?_map, List.getElem?_map, h] at e2
  exact Option.some.inj e2
end
/-! ### names -/
def freeB (xs : List Str) : Fx := fun K => xs.all fun x => eqO (PySem.W.nsIn K mainGlobals x) (some none)
def gloB (xs : List Str) : Fx := fun K => xs.all fun x => eqO (PySem.W.nsIn K mainGlobals x) (some (some (.ref (ga K x))))
section
variable {K : PySem.W.Frag} {h : Heap} {mg : Str → Option Value}
theorem freeB_ok (X : K.In h) (G : h.Ns mainGlobals mg) {xs : List Str} (c : freeB xs K = true) : ∀ x ∈ xs, mg x = none := fun x hx => PySem.W.mg_none_of X G (eqO_ok (List.all_eq_true.mp c x hx))
theorem gloB_ok (X : K.In h) (G : h.Ns mainGlobals mg) {xs : List Str} (c : gloB xs K = true) : ∀ x ∈ xs, mg x = some (.ref (ga K x)) := fun x hx => PySem.W.mg_of X G (eqO_ok (List.all_eq_true.mp c x hx))
end
/-! ### error classes -/
def eqV (a b : Option Value) : Bool := decide (a = b)
def eqB (a b : Option Bool) : Bool := decide (a = b)
def oexB (K : PySem.W.Frag) (C : Addr) : Bool := (match K.lookup C with
  | some ⟨.type "type", _, .cls cd, sl⟩ => (match cd.mro, sl.toList with
    | .ref C' :: bm, [_, _, _, _, some (.builtin n), _] => C' == C && n == "ValueError.__new__" && !cd.hasDel && cd.hasDict && PySem.HandSPX.refsVE bm
    | _, _ => false)
  | _ => false) && (eqO (PySem.W.findIn K (.ref C) "__setattr__") (some (some (.builtin "object.__setattr__"))) && (eqB (PySem.W.subIn K (.ref C) (.type "BaseException")) (some true) && (eqV (PySem.W.typeIn K (.ref C)) (some (.type "type")) && PySem.W.keepIn K (.ref C))))
theorem oexB_ok {K : PySem.W.Frag} {C : Addr} (h : oexB K C = true) : OexC K C := by
  obtain ⟨h1, h⟩ := ba h
  obtain ⟨h2, h⟩ := ba h
  obtain ⟨h3, h⟩ := ba h
  obtain ⟨h4, h5⟩ := ba h
  refine ⟨?_, eqO_ok h2, of_decide_eq_true h3, of_decide_eq_true h4, h5⟩
  split at h1
  · rename_i dd cd sl ho
    split at h1
    · rename_i C' bm k0 k1 k2 k3 n k5 hm hs
      simp only [Bool.and_eq_true, beq_iff_eq, Bool.not_eq_true'] at h1
      obtain ⟨⟨⟨⟨rfl, rfl⟩, hdel⟩, hdic⟩, ht⟩ := h1
      obtain ⟨nm, bs, mro, ns, qn, hd, sn, sub, ab, col, del⟩ := cd
      dsimp only at hm hdel hdic
      subst hm hdel hdic
      have hsl : sl = #[k0, k1, k2, k3, some (.builtin "ValueError.__new__"), k5] := by
        obtain ⟨l⟩ := sl
        simp only at hs
        rw [hs]
      subst hsl
      exact ⟨nm, qn, ns, bs, bm, sn, sub, ab, col, dd, k0, k1, k2, k3, k5, ho, ht⟩
    · cases h1
  · cases h1
/-- the function of an own __init__: its captured cell, its code -/
def isN : Value → Bool
  | .none => true
  | _ => false
theorem isN_ok {v : Value} (h : isN v = true) : v = .none := by cases v <;> first | rfl | cases h
def supFB (K : PySem.W.Frag) (C f : Addr) (qual file : Str) : Bool := match K.lookup f with
  | some ⟨_, _, .func fd, _⟩ => (match fd.closure with
    | [(n, cc)] => n == "__class__" && (match K.lookup cc with
        | some ⟨_, _, .cell (some (.ref D)), _⟩ => D == C
        | _ => false)
    | _ => false) && (isN fd.defaults && (isN fd.kwdefaults && (fd.annotations.isNone && (match fd.code with
    | .ref c => PySem.W.codeIn K (.ref c) qual && (match K.lookup c with
        | some ⟨_, _, .fields vs, _⟩ => (match (vs[2]? : Option Value) with
          | some (.str z _) => file == z
          | _ => false)
        | _ => false)
    | _ => false))))
  | _ => false
def xinB (x file : Str) (fl : List Str) : Fx := fun K => oexB K (ga K x) && (eqO (PySem.W.findIn K (.ref (ga K x)) "__init__") (some (some (.ref (ma K (ga K x) "__init__")))) && (eqV (PySem.W.typeIn K (.ref (ma K (ga K x) "__init__"))) (some (.type "function")) &&
  (supFB K (ga K x) (ma K (ga K x) "__init__") (x ++ ".__init__") file && (eqB (PySem.W.mroIn K (ga K x) (.ref (ga K x))) (some true) && (eqB (PySem.W.subIn K (.ref (ga K x)) (.type "ValueError")) (some true) &&
  (eqO (PySem.W.ks_superIn K (ga K x) (ga K x) "__init__") (some (some (.builtin "ValueError.__init__"))) && (eqO (PySem.W.nsIn K cStatics "thirdparty.any") (some none) && fl.all fun y => eqO (PySem.W.findIn K (.ref (ga K x)) y) (some none))))))))
/-- the function that __init__ is -/
def NFx (x : Str) (st : Stmt) (cc c : Addr) : NF := ⟨"__init__", x ++ ".__init__", defArgs st, defBody st, defScope st, [(("__class__" : Str), cc)], c⟩
theorem xin_ok {prog : Program} {K : PySem.W.Frag} {mg : Str → Option Value} {x file : Str} {fl : List Str} {st : Stmt} (c : xinB x file fl K = true) (e : fn7 K (x, some "__init__") = (Df.mk (x, some "__init__") "__init__" (x ++ ".__init__") st).val) (hf : prog.main.file = file)
    (htp : (prog.main.scope.names.lookup ("super" : Str)).isSome = false) (hs : mg "super" = none) :
    ∃ cc cd, SupT prog K mg (ga K x) (ma K (ga K x) "__init__") (NFx x st cc cd) cc ∧ ∀ y ∈ fl, PySem.W.findIn K (.ref (ga K x)) y = some none := by
  obtain ⟨c1, c⟩ := ba c
  obtain ⟨c2, c⟩ := ba c
  obtain ⟨c3, c⟩ := ba c
  obtain ⟨c4, c⟩ := ba c
  obtain ⟨c5, c⟩ := ba c
  obtain ⟨c6, c⟩ := ba c
  obtain ⟨c7, c⟩ := ba c
  obtain ⟨c8, c9⟩ := ba c
  obtain ⟨oc, od, osl, cl, dV, kV, doc, pm, an, cdv, ct, q⟩ := fn7_ok (d := Df.mk (x, some "__init__") "__init__" (x ++ ".__init__") st) e
  have e0 : fA K (x, some ("__init__" : Str)) = ma K (ga K x) "__init__" := fA_fn (of_decide_eq_true c3)
  have q : K.lookup (fA K (x, some ("__init__" : Str))) = some ⟨oc, od, .func (PySem.W.fnX "__init__" (x ++ ".__init__") (defArgs st) (defBody st) (defScope st) cl dV kV doc pm an cdv ct), osl⟩ := q
  rw [e0] at q
  have q : K.lookup (ma K (ga K x) "__init__") = some ⟨oc, od, .func (PySem.W.fnX "__init__" (x ++ ".__init__") (defArgs st) (defBody st) (defScope st) cl dV kV doc pm an cdv ct), osl⟩ := q
  unfold supFB at c4
  rw [q] at c4
  obtain ⟨d1, c4⟩ := ba c4
  obtain ⟨d2, c4⟩ := ba c4
  obtain ⟨d3, c4⟩ := ba c4
  obtain ⟨d4, d5⟩ := ba c4
  have e2 : dV = .none := isN_ok d2
  have e3 : kV = .none := isN_ok d3
  have e4 : an = none := Option.isNone_iff_eq_none.mp d4
  subst e2 e3 e4
  cases cl with
  | nil => cases d1
  | cons p r =>
    cases r with
    | cons p2 r2 => cases d1
    | nil =>
      obtain ⟨n, cc⟩ := p
      obtain ⟨g1, g2⟩ := ba d1
      have en : n = "__class__" := by simpa using g1
      subst en
      cases cdv with
      | ref cd =>
        obtain ⟨g3, g4⟩ := ba d5
        refine ⟨cc, cd, ⟨oexB_ok c1, eqO_ok c2, of_decide_eq_true c3, rfl, ⟨oc, od, doc, pm, ct, osl, q⟩, g3, ?_, ?_, of_decide_eq_true c5, of_decide_eq_true c6, eqO_ok c7, eqO_ok c8, htp, hs⟩, fun y hy => eqO_ok (List.all_eq_true.mp c9 y hy)⟩
        · cases hl : K.lookup cd with
          | none => simp only [hl] at g4; cases g4
          | some o =>
            obtain ⟨oc', od', dt', osl'⟩ := o
            cases dt' with
            | fields vs =>
              simp only [hl] at g4
              cases hv : (vs[2]? : Option Value) with
              | none => simp only [hv] at g4; cases g4
              | some v =>
                cases v with
                | str z t =>
                  simp only [hv] at g4
                  exact ⟨oc', od', vs, osl', z, t, hl, hv, by rw [hf]; exact g4⟩
                | _ => simp only [hv] at g4; cases g4
            | _ => simp only [hl] at g4; cases g4
        · cases hl : K.lookup cc with
          | none => simp only [hl] at g2; cases g2
          | some o =>
            obtain ⟨oc', od', dt', osl'⟩ := o
            cases dt' with
            | cell w =>
              cases w with
              | none => simp only [hl] at g2; cases g2
              | some v =>
                cases v with
                | ref D =>
                  simp only [hl] at g2
                  have eD : D = ga K x := by simpa using g2
                  subst eD
                  exact ⟨oc', od', osl', rfl⟩
                | _ => simp only [hl] at g2; cases g2
            | _ => simp only [hl] at g2; cases g2
      | _ => cases d5
end Ev
set_option Elab.async false
set_option linter.all false
set_option maxRecDepth 100000
set_option maxHeartbeats 1000000
/-! Ev26: errors as values; an error class' table from its text -/
namespace Ev
open PySem L2 PySem.Spec PyProof.Rows He NdefX

section
variable {X : Cx} {o e : Expr} {es : List Expr} {to te : TE} {ta : TA} {f : Str} {p p' p1 p2 pos : Pos}
/-- C(e, ..) as a value: the exception stands -/
def tMkV (C : Addr) (sp : Sp) (ta : TA) : TE := fun σ H Q => ta σ H fun vs H1 => vs.length ≤ 1000 ∧ ∀ a, H1 a = none → sp (.ref a :: vs) (upd H1 a (exo a C none)) (fun v H2 => v = .non ∧ Q (.ref a) H2) (fun _ _ _ => False)
theorem pe_oexV {CX : CXT} {x : Str} {C fI : Addr} {k : Nat} {fd : FuncData} {ps : List Str} {sp : Sp} (T : OexC X.K C) (iC : PySem.W.findIn X.K (.ref C) "__init__" = some (some (.ref fI))) (tI : PySem.W.typeIn X.K (.ref fI) = some (.type "function"))
    (F1 : FnOk X.prog X.w X.K X.mg X.base CX k fI fd ps sp) (hr : Room (k + 1) X.A) (hb : Binds X.K fd ps []) (hx : Passes CX X (fun _ _ _ => False)) (hg : Gl X x) (hm : X.mg x = some (.ref C)) (ha : PA X (e :: es) ta)
    (hdb : (x == ("__debug__" : Str)) = false) (he : starEach (e :: es) X.env = (false, eval e X.env) :: starEach es X.env) (hpl : (backTo pos (starEach es X.env)).any (·.1) = false) :
    PE X (.Call (.Name x p) (e :: es) [] pos) (tMkV C sp ta) := by
  refine ⟨fun pins s σ H Q I h => ?_⟩
  obtain ⟨nm, q, N, bs, bm, sn, sub, ab, col, dd, k0, k1, k2, k3, k5, hC, hbm⟩ := T.cls
  refine wpAny_Call_Name_kw (ld_glob I hg hm ?_ hdb)
  refine PySem.W.callWith_K (h₀ := X.base) I.ok.mod.kin T.kC (thn (ha.run pos pins s σ H _ I h) fun us s1 ⟨vs, H1, I1, r1, hz, q1⟩ => ⟨I1.kIn, ?_⟩) he hpl
  show wpAny _ _ (call (.ref C) us) _ _ _
  obtain ⟨hp, g, dr, tk, os⟩ := s1
  have hsz : hp.objs.size ≤ hp.objs.size + 1 := Nat.le_succ _
  have hn : H1 (hp.objs.size + 1) = none := I1.hok.fresh hsz
  have hq := q1 (hp.objs.size + 1) hn
  have kk : ∀ b o, hp.get? b = some o → ((hp.push (PySem.W.kdv_tup us)).push (PySem.HandSPX.excO C hp.objs.size)).get? b = some o := fun b o e => Heap.get?_push_of_some _ (Heap.get?_push_of_some _ e)
  have hget : ((hp.push (PySem.W.kdv_tup us)).push (PySem.HandSPX.excO C hp.objs.size)).get? (hp.objs.size + 1) = some (PySem.HandSPX.excO C hp.objs.size) := by heap_get
  have I2 : Inv X pins σ (upd H1 (hp.objs.size + 1) (exo (hp.objs.size + 1) C none)) ⟨(hp.push (PySem.W.kdv_tup us)).push (PySem.HandSPX.excO C hp.objs.size), g, dr, tk, os⟩ :=
    I1.laid (t' := tk) (a := hp.objs.size + 1) (o := exo (hp.objs.size + 1) C none) (h' := (hp.push (PySem.W.kdv_tup us)).push (PySem.HandSPX.excO C hp.objs.size)) kk hsz (exo_ok hget)
  have r2 : Vals (V.ref (hp.objs.size + 1) :: vs) (Value.ref (hp.objs.size + 1) :: us) := .cons rfl r1
  have hl : (Value.ref (hp.objs.size + 1) :: us ++ []).length = ps.length := by
    have e := r2.length
    rw [F1.len _ _ _ _ hq] at e
    rw [List.append_nil]
    exact e.symm
  have hus : us.length ≤ sizeLine := by
    rw [← Paired.length r1, sizeLine_eq]
    omega
  have hbb := hb _ (Value.ref (hp.objs.size + 1) :: us) I2.kIn hl
  rw [List.append_nil] at hbb
  refine wpAny_call (PySem.HandSPX.call_own PySem.F.excBase_ValueError (fun Y => PySem.HandSPX.refsVE_contains Y bm hbm) (I1.kIn _ _ hC) (PySem.W.looks_findIn I1.kIn iC) (fun self => PySem.W.bind_fn I1.kIn self tI) hus
    (codeAny_mono (F1.run _ X.stack _ _ ⟨Value.ref (hp.objs.size + 1) :: us, []⟩ (Value.ref (hp.objs.size + 1) :: us) _ _ (fun _ _ _ => False) (hr.make C us []) (I2.env0.make C us []) hbb r2 hq) fun r s' hq' => ?_))
  cases r with
  | error er => exact hx pins σ _ _ er s' I2 hq'
  | ok fl =>
    cases fl with
    | ret u =>
      obtain ⟨v, H', I3, rv, ev, q3⟩ := I2.after hq'
      subst ev
      exact ⟨rv, ⟨V.ref (hp.objs.size + 1), H', I3, rfl, q3⟩⟩
    | next => exact False.elim hq'
    | brk => exact False.elim hq'
    | cont => exact False.elim hq'
/-- C() as a value, C without an own __init__ -/
theorem pe_own0V {x : Str} {C : Addr} {bmB : List Value} {B newId initId : String} (F : ExcBaseFacts B newId initId bmB) (q : PySem.W.excIn X.K C bmB newId = true) (gC : X.mg x = some (.ref C)) (kC : PySem.W.keepIn X.K (.ref C) = true) (hg : Gl X x)
    (hdb : (x == ("__debug__" : Str)) = false) : PE X (.Call (.Name x p) [] [] pos) (fun _ H Q => ∀ a, H a = none → Q (.ref a) (upd H a (exo a C none))) := by
  refine ⟨fun pins s σ H Q I h => ?_⟩
  refine wpAny_Call_Name_kw (ld_glob I hg gC ?_ hdb)
  refine PySem.W.callWith_K0 I.kIn kC ?_
  show wpAny _ _ (call (.ref C) []) _ _ _
  obtain ⟨bm, N, nm, qn, bs, hdct, sn, sub, ab, col, dd, k0, k1, k2, k3, k5, mN, hC, hN, hni, T⟩ := exc_obj I.kIn q
  refine wpAny_call_exc_subT F T hC hN hni (fun h' a hm => ?_) (Nat.zero_le _)
  have hn : H a = none := I.hok.gone hm.new
  obtain ⟨t, ht, _, _⟩ := hm.there
  exact ⟨.ref a, upd H a (exo a C none), I.laidN hm.keeps hm.new hn (exo_ok ht), rfl, h a hn⟩
end
section
variable {g : G} {φ : Phi} {P : Pt} {ty : Sls} {W : WX} {rk : Kd} {X : Cx} {kd ka kb : Kd} {a b c : E} {xa xb xc : Expr} {pos p2 p3 p4 apos : Pos} {l : Es} {es : List Expr} {xs : List (Str × Nat)} {k : Nat} {fnm : List Str}
variable {σ σ1 : L2.St} {H F H1 F1 H0 F0 : Hp} {e : Nv} {fp fp1 fp0 : Fps} {p pa pb : Bool} {Q : VK} {Z : Ends}
theorem pe_callF {x : Str} {C : Addr} {ta : TA} {y : Expr} (hm : X.mg x = some (.ref C)) (kC : PySem.W.keepIn X.K (.ref C) = true) (hg : Gl X x) (hdb : (x == ("__debug__" : Str)) = false) (ha : PA X (y :: es) ta)
    (h1 : starEach (y :: es) X.env = (false, eval y X.env) :: starEach es X.env) (h2 : (backTo pos (starEach es X.env)).any (·.1) = false) : PE X (.Call (.Name x p2) (y :: es) [] pos) (fun σ H Q => ta σ H fun _ _ => False) := by
  refine ⟨fun pins s σ H Q I h => ?_⟩
  refine wpAny_Call_Name_kw (ld_glob I hg hm ?_ hdb)
  exact PySem.W.callWith_K (h₀ := X.base) I.ok.mod.kin kC (thn (ha.run pos pins s σ H _ I h) fun us s1 ⟨vs, H1, I1, r1, z⟩ => z.elim) h1 h2
theorem s_newx (B : TabX X.prog X.w X.K X.mg X.base g P xs k) (hr : Room (k + 1) X.A) (x : Str) (c : Nat) (hx : (x, c) ∈ xs) (hg : Gl X x) (hdb : (x == ("__debug__" : Str)) = false) (ha : PA X es (tEs g φ P ty W l)) (hn : es = [] → l = .nil) (hs : es.all notStar = true) (hb : (es.isEmpty || !(P.xok c [])) = true) :
    PE X (.Call (.Name x p2) es [] pos) (tE g φ P ty W .F (.newx c l)) := by
  obtain ⟨hm, hk⟩ := B.err _ hx
  have key : ∀ {σ : L2.St} {H : Hp} {Q : VK}, tE g φ P ty W .F (.newx c l) σ H Q → tEs g φ P ty W l σ H fun vs H1 => ∃ ds e1 F1 fp1, Ns g ty σ H1 F1 e1 fp1 ∧ DenL g F1 ds vs ∧ P.xok c ds = true ∧ (l = .nil → ds = []) ∧
      ∀ v H2 F2, Tr true H1 F1 fp1 H2 F2 fp1 → Ns g ty σ H2 F2 e1 fp1 → Den g F2 (.exc c ds) v → Q v H2 := fun {σ H Q} ⟨e, F, fp, N, h⟩ => by
    refine ⟨e, F, fp, N, ?_⟩
    rw [ev, pureE] at h
    refine Post.bindL h (fun z => z) fun ds e1 vs H1 F1 fp1 hr h1 t1 n1 r1 => ?_
    by_cases hz : P.xok c ds = true
    · have h1 : Post g ty .F (pureEs l) (.ok (.exc c ds) e1) σ H F fp W Q := by simpa only [if_pos hz] using h1
      refine ⟨ds, e1, F1, fp1, n1, r1, hz, fun z => ?_, fun v H2 F2 t2 n2 d2 => ?_⟩
      · subst z
        rw [evs] at hr
        cases hr
        rfl
      · have t3 := t1.trans t2
        rw [Bool.and_true] at t3
        exact h1 v H2 F2 fp1 t3 n2 d2
    · have h1 : Post g ty .F (pureEs l) .stk σ H F fp W Q := by simpa only [if_neg hz] using h1
      exact h1.elim
  rcases hk with ⟨fI, fd, ps, sp, XI, hx0, hxl⟩ | ⟨XB, hx0⟩
  · rcases star_head (env := X.env) hs with z | ⟨y, ys, z, h1, h2⟩
    · subst z
      refine ⟨fun pins s σ H Q I h => ?_⟩
      have h' := key h
      rw [hn rfl] at h'
      obtain ⟨ds, e1, F1, fp1, _, _, hz, hds, _⟩ := tEs_nil h'
      rw [hds rfl, hx0] at hz
      cases hz
    · subst z
      have hxF : Passes (L2.CX X.prog X.w) X (fun _ _ _ => False) := fun pins σ H s e s' I c => by
        obtain ⟨_, _, _, _, _, _, _, _, _, _, _, _, z⟩ := c
        exact z.elim
      refine PE.imp (pe_oexV XI.ox XI.iC XI.tI XI.ok hr XI.bi hxF hg hm ha hdb h1 (star_any h2)) fun σ H Q h => ?_
      refine tEs_imp (key h) fun vs H1 ⟨ds, e1, F1, fp1, n, r, hz, _, w⟩ => ?_
      refine ⟨by rw [r.length]; exact hxl _ hz, fun a hna => ?_⟩
      refine XI.sp ds vs F1 _ a _ _ r hz upd_same fun d hd hne => ?_
      have hd1 : H1 d = none := by
        rw [upd_ne hne] at hd
        exact hd
      refine ⟨rfl, ?_⟩
      have eH : upd (upd (upd H1 a (exo a (g.cl c) none)) d (exd d ((g.nm c).zip vs).reverse)) a (exo a (g.cl c) (some d)) = upd (upd H1 d (exd d ((g.nm c).zip vs).reverse)) a (exo a (g.cl c) (some d)) := by
        funext b
        by_cases h1 : b = a
        · subst h1; rw [upd_same, upd_same]
        · rw [upd_ne h1, upd_ne h1]
          by_cases h2 : b = d
          · subst h2; rw [upd_same, upd_same]
          · rw [upd_ne h2, upd_ne h2, upd_ne h1]
      rw [eH]
      have t1 := Tr.layF (fp := fp1) (a := d) (o := exd d ((g.nm c).zip vs).reverse) n.sub hd1
      have n1 := n.layF (a := d) (o := exd d ((g.nm c).zip vs).reverse) hd1
      have ha1 : upd H1 d (exd d ((g.nm c).zip vs).reverse) a = none := by rw [upd_ne (Ne.symm hne)]; exact hna
      have t2 := Tr.layF (fp := fp1) (a := a) (o := exo a (g.cl c) (some d)) n1.sub ha1
      have n2 := n1.layF (a := a) (o := exo a (g.cl c) (some d)) ha1
      refine w (.ref a) _ _ (t1.trans t2) n2 ⟨a, rfl, .inr ⟨d, vs, upd_same, by rw [upd_ne hne, upd_same], DenL.mono ?_ r⟩⟩
      exact (sub_upd (n.sub.none hd1)).trans (sub_upd (n1.sub.none ha1))
  · rcases star_head (env := X.env) hs with z | ⟨y, ys, z, h1, h2⟩
    · subst z
      refine PE.imp (pe_own0V PySem.F.excBase_ValueError XB.ex hm XB.kC hg hdb) fun σ H Q h => ?_
      have h' := key h
      rw [hn rfl] at h'
      obtain ⟨ds, e1, F1, fp1, n, r, hz, hds, w⟩ := tEs_nil h'
      have ed := hds rfl
      subst ed
      intro a hna
      exact w (.ref a) _ _ (Tr.layF n.sub hna) (n.layF hna) ⟨a, rfl, .inl ⟨rfl, upd_same⟩⟩
    · subst z
      have hb : P.xok c [] = false := by simpa using hb
      refine PE.imp (pe_callF hm XB.kC hg hdb ha h1 (star_any h2)) fun σ H Q h => tEs_imp (key h) fun vs H1 ⟨ds, e1, F1, fp1, n, r, hz, _, w⟩ => ?_
      rw [hx0 _ hz, hb] at hz
      cases hz
/-- e.f of an exception -/
theorem s_xfl (fact : XFacts X.K g P fnm) (h9 : P.isx 999 = false) (hix : ∀ c f k, P.xfd c f = some k → P.isx c = true) {f : Nat} {fs : Str} {o : Expr} (hf : fnm[f]? = some fs) (he : PE X o (tE g φ P ty W .F a)) (hb : baseOk o = true) : PE X (.Attribute o fs pos) (tE g φ P ty W .F (.xfl a f)) := by
  refine ⟨fun pins s σ H Q I ⟨e, F, fp, N, h⟩ => ?_⟩
  rw [ev, pureE] at h
  refine attr_of (base_ok hb) (thn (he.run pins s σ H (fun x H1 => ∃ c k a d vs u, x = .ref a ∧ H1 a = some (exo a (g.cl c) (some d)) ∧ H1 d = some (exd d ((g.nm c).zip vs).reverse) ∧ P.xfd c f = some k ∧ vs[k]? = some u ∧ Q u H1) I ⟨e, F, fp, N, ?_⟩) fun u s1 ⟨x, H1, I1, rx, c, k, a, d, vs, v, ex, h1, h2, h3, h4, q⟩ => ?_)
  · refine Post.bind h (fun z => z) fun dx e1 x H1 F1 fp1 _ h1 t1 n1 r1 => ?_
    cases dx with
    | exc c ys =>
      obtain ⟨a', ex, hd⟩ := r1
      cases hz : P.xfd c f with
      | none =>
        have h1 : Post g ty .F (pureE a) .stk σ H F fp W Q := by simpa only [hz, Option.bind] using h1
        exact h1.elim
      | some k =>
        cases hk : ys[k]? with
        | none =>
          have h1 : Post g ty .F (pureE a) .stk σ H F fp W Q := by simpa only [hz, Option.bind, hk] using h1
          exact h1.elim
        | some d =>
          have h1 : Post g ty .F (pureE a) (.ok d e1) σ H F fp W Q := by simpa only [hz, Option.bind, hk] using h1
          rcases hd with ⟨z, _⟩ | ⟨dd, vs, g1, g2, g3⟩
          · rw [z] at hk
            simp at hk
          · obtain ⟨v, h4, h5⟩ := g3.get hk
            exact ⟨c, k, a', dd, vs, v, ex, n1.sub _ _ g1, n1.sub _ _ g2, hz, h4, h1 v H1 F1 fp1 t1 n1 h5⟩
    | _ => exact h1.elim
  · subst ex
    obtain rfl : u = Value.ref a := rx
    have hi := hix c f k h3
    have n9 : c ≠ 999 := fun z => by rw [z, h9] at hi; cases hi
    obtain ⟨n1, n2, n3⟩ := fact.nof c f k fs hi n9 h3 hf
    obtain ⟨t1, ho⟩ := exo_at I1.hok h1
    obtain ⟨mA, hns, hr⟩ := exd_at I1.hok h2
    obtain ⟨od, hod, hl⟩ := lookIn_ns hns
    have hlk : (((g.nm c).zip vs).reverse).lookup fs = some v := zip_lookup n2 n1 h4
    have r := hr fs
    rw [hlk] at r
    obtain ⟨u', h5, h6⟩ := RelO.some_of (v := v) (o := mA fs) r
    have J : PySem.W.InstAt s1.heap a { cls := .ref (g.cl c), dict := some d, data := .fields #[.ref t1, .none, .none, .none, .bool false, .none] } (g.cl c) (some od) := ⟨ho, rfl, rfl, hod⟩
    have T := (fact.xf c hi n9).1
    exact HandSPX.exc_get I1.kIn J T.ga T.gg T.exC (PySem.W.findObj_own T.hdC n3 rfl (by rw [hl, h5])) (handed_of h6) ⟨v, H1, I1.tok _, h6, q⟩
/-- isinstance(e, C), e an exception as a value -/
theorem s_xisv (fact : XFacts X.K g P fnm) (h9 : P.isx 999 = false) {c : Nat} {x : Str} {xo : Expr} (hg : Gl X "isinstance") (hm : X.mg "isinstance" = none) (he : PE X xo (tE g φ P ty W .F a)) (hs : notStar xo = true) (hc : Names X x (xcV g c)) :
    PE X (.Call (.Name "isinstance" p2) [xo, .Name x apos] [] pos) (tE g φ P ty W .F (.xisv a [c])) := by
  have hcR : CallR X (.builtin "isinstance") (fun xs H Q => ∃ c0 l v, xs = [v, xcC g c] ∧ Den g H (.exc c0 l) v ∧ P.isx c0 = true ∧ (P.isx c || c == 999) = true ∧ Q (.bl (P.below c0 c)) H) := by
    intro pins s σ H xs us Q I r h
    obtain ⟨c0, l, v, rfl, hd, hi, hic, q⟩ := h
    have n9 : c0 ≠ 999 := fun z => by rw [z, h9] at hi; cases hi
    have T := (fact.xf c0 hi n9).2
    cases r with
    | cons rx rr =>
      cases rr with
      | cons rt rr =>
        cases rr
        have ec := rel_xcU rt
        subst ec
        obtain ⟨a0, ev, hd⟩ := hd
        subst ev
        cases rx
        have e := fact.kit c c0 hi hic n9
        have hcl : (PySem.W.clsIn X.K (g.cl c0)).isSome = true := by
          obtain ⟨cd, hc, _⟩ := PySem.W.any_some T.hd
          rw [hc]
          rfl
        have fin : ∀ oe od, PySem.W.InstAt s.heap a0 oe (g.cl c0) od → wpAny (model X.prog X.w) X.A (call (.builtin "isinstance") [.ref a0, xcV g c]) (EP X pins σ Q) X.xe s := fun oe od J =>
          PySem.W.kia_one (PySem.W.kitx_exc hcl T.hg T.hk T.hs T.ha T.hn T.ht T.hm) I.kIn J e (fun z => nomatch z) fun tk => ⟨.bl (P.below c0 c), H, I.kept (t' := tk) fun _ _ z => z, rfl, q⟩
        rcases hd with ⟨_, h2⟩ | ⟨d, vs, h1, h2, _⟩
        · obtain ⟨t1, ho⟩ := exo_at I.hok h2
          exact fin _ none ⟨ho, rfl, rfl, trivial⟩
        · obtain ⟨t1, ho⟩ := exo_at I.hok h1
          obtain ⟨mA, hns, hr⟩ := exd_at I.hok h2
          obtain ⟨od, hod, hl⟩ := lookIn_ns hns
          exact fin _ (some od) ⟨ho, rfl, rfl, hod⟩
  have hpa : PA X [xo, .Name x apos] (tCons (tE g φ P ty W .F a) (tCons (tC (xcC g c)) tNil)) := pa_cons he (pa_cons (pe_names hc) pa_nil) (star_cons hs)
  refine PE.imp (pe_callB hcR hg hm (by decide +kernel) hpa (he := star_cons hs)) fun σ H Q ⟨e, F, fp, N, h⟩ => ⟨e, F, fp, N, ?_⟩
  rw [ev, pureE] at h
  refine Post.bind h (fun z => z) fun dx e1 v H1 F1 fp1 _ h1 t1 n1 r1 => ?_
  cases dx with
  | exc c0 l =>
    by_cases z : (P.isx c0 && [c].all (fun k => P.isx k || k == 999)) = true
    · have h1 : Post g ty .F (pureE a) (.ok (.bl ([c].any fun k => P.below c0 k)) e1) σ H F fp W Q := by simpa only [if_pos z] using h1
      obtain ⟨z1, z2⟩ := Bool.and_eq_true_iff.mp z
      have z3 : (P.isx c || c == 999) = true := by simpa using z2
      have q := h1 (.bl ([c].any fun k => P.below c0 k)) H1 F1 fp1 t1 n1 rfl
      have eq : ([c].any fun k => P.below c0 k) = P.below c0 c := by simp
      rw [eq] at q
      exact ⟨c0, l, v, rfl, Den.mono n1.sub r1, z1, z3, q⟩
    · have h1 : Post g ty .F (pureE a) .stk σ H F fp W Q := by simpa only [if_neg z] using h1
      exact h1.elim
  | _ => exact h1.elim
end
end Ev
set_option Elab.async false
set_option linter.all false
set_option maxRecDepth 100000
set_option maxHeartbeats 1000000
/-! Ev27: the errors' tables, whole -/
namespace Ev
open PySem L2 PySem.Spec PyProof.Rows He NdefX

section
variable {prog : Program} {w : World} {K : PySem.W.Frag} {mg : Str → Option Value} {base : Heap} {g : G} {P : Pt} {c : Nat} {fI cc : Addr} {F : NF} {N ps : List Str} {e : Expr} {es : List Expr} {rest : List Stmt} {ta : TA} {t : TS}
theorem xinit1 {f : Str} (T : SupT prog K mg (g.cl c) fI F cc) (B : SupB F N ps e es rest) (hps : ps.length = 2)
    (ha : ∀ (A : Around) (outer : List Env) (s : Shared) (H : Hp) (E : XK), PA (ncx (L2.CX prog w) prog w K mg base N F fI A outer s H E) (e :: es) ta)
    (hr : ∀ (A : Around) (outer : List Env) (s : Shared) (H : Hp) (E : XK), PSs (ncx (L2.CX prog w) prog w K mg base N F fI A outer s H E) rest (tSt1 K f))
    (hno : PySem.W.findIn K (.ref (g.cl c)) f = some none) (hnm : g.nm c = [f]) (hx : ∀ ds, P.xok c ds = true → ∃ d, ds = [d])
    (hta : ∀ (d : D) (a : Addr) (y : V) (F H : Hp) (R : List V → Hp → Prop), P.xok c [d] = true → Den g F d y → (∀ s : Str, R [.str s] H) → ta (startF N [.ref a, y] [none]) H R) (k : Nat) (hk : 1 ≤ k) :
    ∃ fI fd ps sp, XInit prog w K mg base g P c k fI fd ps sp ∧ ∀ ds, P.xok c ds = true → ds.length ≤ 1000 := by
  obtain ⟨fd, h1, h2⟩ := init_ok (k := 0) (ta := ta) (t := tSt1 K f) T B (fun A o s H E _ => ha A o s H E) (fun A o s H E _ => hr A o s H E)
  refine ⟨fI, fd, ps, _, ⟨T.ox, T.iC, T.tI, h1.mono hk, h2, fun ds vs F H a Q E hd hok hH q => ?_⟩, fun ds h => ?_⟩
  · obtain ⟨d, ed⟩ := hx _ hok
    subst ed
    obtain ⟨y, r, ev, h3, h4⟩ := hd
    cases h4
    subst ev
    refine sup1_ok T.ox hno hps hH (fun R hR => hta d a y F H R hok h3 hR) fun dx hdx hne => ?_
    have h5 := q dx hdx hne
    rw [hnm] at h5
    exact h5
  · obtain ⟨d, ed⟩ := hx _ h
    rw [ed]
    simp
theorem xinit2 {f f2 : Str} (T : SupT prog K mg (g.cl c) fI F cc) (B : SupB F N ps e es rest) (hps : ps.length = 3)
    (ha : ∀ (A : Around) (outer : List Env) (s : Shared) (H : Hp) (E : XK), PA (ncx (L2.CX prog w) prog w K mg base N F fI A outer s H E) (e :: es) ta)
    (hr : ∀ (A : Around) (outer : List Env) (s : Shared) (H : Hp) (E : XK), PSs (ncx (L2.CX prog w) prog w K mg base N F fI A outer s H E) rest (tSt2 K f f2))
    (hno : PySem.W.findIn K (.ref (g.cl c)) f = some none) (hno2 : PySem.W.findIn K (.ref (g.cl c)) f2 = some none) (hnm : g.nm c = [f, f2]) (hx : ∀ ds, P.xok c ds = true → ∃ d d2, ds = [d, d2])
    (hta : ∀ (d d2 : D) (a : Addr) (y y2 : V) (F H : Hp) (R : List V → Hp → Prop), P.xok c [d, d2] = true → Den g F d y → Den g F d2 y2 → (∀ s : Str, R [.str s] H) → ta (startF N [.ref a, y, y2] [none]) H R) (k : Nat) (hk : 1 ≤ k) :
    ∃ fI fd ps sp, XInit prog w K mg base g P c k fI fd ps sp ∧ ∀ ds, P.xok c ds = true → ds.length ≤ 1000 := by
  obtain ⟨fd, h1, h2⟩ := init_ok (k := 0) (ta := ta) (t := tSt2 K f f2) T B (fun A o s H E _ => ha A o s H E) (fun A o s H E _ => hr A o s H E)
  refine ⟨fI, fd, ps, _, ⟨T.ox, T.iC, T.tI, h1.mono hk, h2, fun ds vs F H a Q E hd hok hH q => ?_⟩, fun ds h => ?_⟩
  · obtain ⟨d, d2, ed⟩ := hx _ hok
    subst ed
    obtain ⟨y, r, ev, h3, h4⟩ := hd
    obtain ⟨y2, r2, ev2, h5, h6⟩ := h4
    cases h6
    subst ev2
    subst ev
    refine sup2_ok T.ox hno hno2 hps hH (fun R hR => hta d d2 a y y2 F H R hok h3 h5 hR) fun dx hdx hne => ?_
    have h7 := q dx hdx hne
    rw [hnm] at h7
    exact h7
  · obtain ⟨d, d2, ed⟩ := hx _ h
    rw [ed]
    simp
end
theorem msg_ok {ms : List Mp} {σ : L2.St} {H : Hp} {R : List V → Hp → Prop} (h : ∀ m ∈ ms, match m with | .tx s => s.length ≤ 100000 | .fd i => ∃ v, σ[i]? = some (some v) ∧ fmtV v) (hl : 100000 * ms.length ≤ sizeLine) (hR : ∀ s : Str, R [.str s] H) : tMsg ms σ H R :=
  tJs_ok ms Str.empty σ H _ h (by
    have e : (Str.empty : Str).length = 0 := rfl
    rw [e, Nat.zero_add]
    exact hl) fun out => hR out
theorem msg1_ok {s : Str} {σ : L2.St} {H : Hp} {R : List V → Hp → Prop} (hR : ∀ s : Str, R [.str s] H) : tMsg1 s σ H R := hR s
/-! ### the errors' facts -/
def bareB (x : Str) : Fx := fun K => (Fa.exc x).ok K
theorem bare_ok {K : PySem.W.Frag} {x : Str} (c : bareB x K = true) : XBare K (ga K x) := by
  obtain ⟨h1, h2, h3, h4⟩ := exc_ok c
  exact ⟨h1, h2, h3, h4⟩
def xcB (K : PySem.W.Frag) (C : Addr) : Bool := eqO (PySem.W.findIn K (.ref C) "__getattribute__") (some (some (.builtin "BaseException.__getattribute__"))) && (eqO (PySem.W.findIn K (.ref C) "__getattr__") (some none) && (eqB (PySem.W.subIn K (.ref C) (.type "BaseException")) (some true) && (PySem.W.hasDictIn K C &&
  (eqO (PySem.W.findIn K (.ref C) "__class__") (some (some (.builtin "object.__class__"))) && (eqO (PySem.W.specialIn K (.builtin "object.__class__") "__get__") (some (some (.builtin "getset_descriptor.__get__"))) && (eqB (PySem.W.takesIn K (.builtin "object.__class__")) (some true) && eqB (PySem.W.mroIn K C (.type "object")) (some true)))))))
theorem xcB_ok {K : PySem.W.Frag} {C : Addr} (h : xcB K C = true) : XfC K C ∧ ExcC K C := by
  obtain ⟨h1, h⟩ := ba h
  obtain ⟨h2, h⟩ := ba h
  obtain ⟨h3, h⟩ := ba h
  obtain ⟨h4, h⟩ := ba h
  obtain ⟨h5, h⟩ := ba h
  obtain ⟨h6, h⟩ := ba h
  obtain ⟨h7, h8⟩ := ba h
  exact ⟨⟨eqO_ok h1, eqO_ok h2, of_decide_eq_true h3, h4⟩, ⟨eqO_ok h1, eqO_ok h2, of_decide_eq_true h3, h4, eqO_ok h5, eqO_ok h6, of_decide_eq_true h7, of_decide_eq_true h8⟩⟩
/-- all that is asked of the errors, at once: the classes' numbers, their fields -/
def xfactsB (gg : PySem.W.Frag → G) (P : Pt) (xn : List Nat) (xf : List ((Nat × Nat) × Nat)) (fnm : List Str) : Fx := fun K =>
  (xn.all fun c' => (xn.all fun c => eqB (PySem.W.exmOne K (xcV (gg K) c') (xcV (gg K) c)) (some (P.below c' c))) && ((999 :: xn).all fun c => eqB (PySem.W.kitOne K (.ref ((gg K).cl c')) (xcV (gg K) c)) (some (P.below c' c)))) &&
  ((xn.all fun c => xcB K ((gg K).cl c)) && xf.all fun y => (match fnm[y.1.2]? with
    | some x => eqO (PySem.W.findIn K (.ref ((gg K).cl y.1.1)) x) (some none)
    | none => false))
theorem xfacts_ok {K : PySem.W.Frag} {gg : PySem.W.Frag → G} {P : Pt} {xn : List Nat} {xf : List ((Nat × Nat) × Nat)} {fnm : List Str} (c : xfactsB gg P xn xf fnm K = true) (hi : ∀ c, P.isx c = true → c ∈ xn) (hf : ∀ c f k, P.xfd c f = some k → ((c, f), k) ∈ xf)
    (hnm : ∀ y ∈ xf, ∀ x, fnm[y.1.2]? = some x → ((gg K).nm y.1.1)[y.2]? = some x ∧ ((gg K).nm y.1.1).Nodup) : XFacts K (gg K) P fnm := by
  obtain ⟨c1, c2⟩ := ba c
  obtain ⟨c3, c4⟩ := ba c2
  refine ⟨fun c c' h1 h2 => ?_, fun c c' h1 h2 h3 => ?_, fun c h1 h2 => xcB_ok (List.all_eq_true.mp c3 c (hi c h1)), fun c f k x h1 h2 h3 h4 => ?_⟩
  · have q := (ba (List.all_eq_true.mp c1 c' (hi c' h1))).1
    exact of_decide_eq_true (List.all_eq_true.mp q c (hi c h2))
  · have q := (ba (List.all_eq_true.mp c1 c' (hi c' h1))).2
    refine of_decide_eq_true (List.all_eq_true.mp q c ?_)
    rcases Bool.or_eq_true_iff.mp h2 with h2 | h2
    · exact List.mem_cons_of_mem _ (hi c h2)
    · have : c = 999 := by simpa using h2
      rw [this]
      exact List.mem_cons_self
  · have hm := hf c f k h3
    obtain ⟨n1, n2⟩ := hnm _ hm x h4
    refine ⟨n1, n2, ?_⟩
    have q := List.all_eq_true.mp c4 _ hm
    dsimp only at q
    rw [h4] at q
    exact eqO_ok q
end Ev
set_option Elab.async false
set_option linter.all false
set_option maxRecDepth 100000
set_option maxHeartbeats 1000000
/-! Ev28: the classes' tables from the written part -/
namespace Ev
open PySem L2 PySem.Spec PyProof.Rows He

/-! ### isinstance -/
def repD (ncl : Nat) : List D := [.non, .bl true, .int 0, .str "", .tup [], .lst []] ++ (List.range ncl).map fun c => .ins c []
def repT (ncl : Nat) : List Ty := [.int, .bool, .str, .tuple, .list] ++ (List.range ncl).map .own
def kitsB (gg : PySem.W.Frag → G) (P : Pt) (ncl : Nat) : Fx := fun K => (repD ncl).all fun d => (repT ncl).all fun t => eqB (PySem.W.kitOne K (tagV (gg K) d) (tyV (gg K) t)) (some (tyIs P t d))
def isfB (K : PySem.W.Frag) (sl : Bool) (C : Addr) : Bool := (if sl then PySem.W.plainGet K C Str.empty && (PySem.W.isClsIn K C && (PySem.W.plainOver K C && eqO (PySem.W.findIn K (.ref C) "__setattr__") (some (some (.builtin "object.__setattr__")))))
  else PySem.W.plainGet K C Str.empty && (PySem.W.hasDictIn K C && (PySem.W.plainOver K C && eqO (PySem.W.findIn K (.ref C) "__setattr__") (some (some (.builtin "object.__setattr__")))))) &&
  (eqO (PySem.W.findIn K (.ref C) "__class__") (some (some (.builtin "object.__class__"))) && (eqO (PySem.W.specialIn K (.builtin "object.__class__") "__get__") (some (some (.builtin "getset_descriptor.__get__"))) && (eqB (PySem.W.takesIn K (.builtin "object.__class__")) (some true) && eqB (PySem.W.mroIn K C (.type "object")) (some true))))
def isfsB (gg : PySem.W.Frag → G) (ncl : Nat) : Fx := fun K => (List.range ncl).all fun c => isfB K ((gg K).sl c) ((gg K).cl c)
section
variable {K : PySem.W.Frag} {gg : PySem.W.Frag → G} {P : Pt} {ncl : Nat}
theorem isf_ok (hK : (gg K).K = K) (c : isfsB gg ncl K = true) (hi : ∀ c, (P.cls c).is = true → c < ncl) : ∀ c, (P.cls c).is = true → IsF (gg K) c := fun x hx => by
  have h := List.all_eq_true.mp c x (List.mem_range.mpr (hi x hx))
  obtain ⟨h1, h⟩ := ba h
  obtain ⟨h2, h⟩ := ba h
  obtain ⟨h3, h⟩ := ba h
  obtain ⟨h4, h5⟩ := ba h
  refine ⟨?_, ?_, ?_, ?_, ?_⟩
  · rw [hK]
    cases z : (gg K).sl x with
    | true =>
      rw [z] at h1
      rw [if_pos rfl]
      obtain ⟨k1, k⟩ := ba (show (PySem.W.plainGet K ((gg K).cl x) Str.empty && (PySem.W.isClsIn K ((gg K).cl x) && (PySem.W.plainOver K ((gg K).cl x) && eqO (PySem.W.findIn K (.ref ((gg K).cl x)) "__setattr__") (some (some (.builtin "object.__setattr__")))))) = true from h1)
      obtain ⟨k2, k⟩ := ba k
      obtain ⟨k3, k4⟩ := ba k
      exact ⟨k1, k2, k3, eqO_ok k4⟩
    | false =>
      rw [z] at h1
      rw [if_neg Bool.false_ne_true]
      obtain ⟨k1, k⟩ := ba (show (PySem.W.plainGet K ((gg K).cl x) Str.empty && (PySem.W.hasDictIn K ((gg K).cl x) && (PySem.W.plainOver K ((gg K).cl x) && eqO (PySem.W.findIn K (.ref ((gg K).cl x)) "__setattr__") (some (some (.builtin "object.__setattr__")))))) = true from h1)
      obtain ⟨k2, k⟩ := ba k
      obtain ⟨k3, k4⟩ := ba k
      exact ⟨k1, k2, k3, eqO_ok k4⟩
  · rw [hK]; exact eqO_ok h2
  · rw [hK]; exact eqO_ok h3
  · rw [hK]; exact of_decide_eq_true h4
  · rw [hK]; exact of_decide_eq_true h5
theorem rep_t (t : Ty) (ht : (match t with | .own c => (P.cls c).is | _ => true) = true) (hi : ∀ c, (P.cls c).is = true → c < ncl) : t ∈ repT ncl := by
  unfold repT
  cases t with
  | own c => exact List.mem_append_right _ (List.mem_map.mpr ⟨c, List.mem_range.mpr (hi c ht), rfl⟩)
  | _ => exact List.mem_append_left _ (by simp)
theorem kits_one (c : kitsB gg P ncl K = true) (hi : ∀ c, (P.cls c).is = true → c < ncl) (t : Ty) (d : D) (ht : (match t with | .own c => (P.cls c).is | _ => true) = true) (hd : tagged P d = true) : PySem.W.kitOne K (tagV (gg K) d) (tyV (gg K) t) = some (tyIs P t d) := by
  have key : ∀ r, r ∈ repD ncl → PySem.W.kitOne K (tagV (gg K) r) (tyV (gg K) t) = some (tyIs P t r) := fun r hr => of_decide_eq_true (List.all_eq_true.mp (List.all_eq_true.mp c r hr) t (rep_t t ht hi))
  have inl : ∀ r, r ∈ ([.non, .bl true, .int 0, .str "", .tup [], .lst []] : List D) → r ∈ repD ncl := fun r hr => List.mem_append_left _ hr
  cases d with
  | non => exact key .non (inl _ (by simp))
  | bl b =>
    have q := key (.bl true) (inl _ (by simp))
    cases t <;> exact q
  | int i =>
    have q := key (.int 0) (inl _ (by simp))
    cases t <;> exact q
  | str s =>
    have q := key (.str "") (inl _ (by simp))
    cases t <;> exact q
  | tup l =>
    have q := key (.tup []) (inl _ (by simp))
    cases t <;> exact q
  | lst l =>
    have q := key (.lst []) (inl _ (by simp))
    cases t <;> exact q
  | ins x l =>
    have q := key (.ins x []) (List.mem_append_right _ (List.mem_map.mpr ⟨x, List.mem_range.mpr (hi x hd), rfl⟩))
    cases t <;> exact q
  | cls _ => cases hd
  | exc _ _ => cases hd
  | scr _ => cases hd
theorem kits_ok (hK : (gg K).K = K) (c : kitsB gg P ncl K = true) (c2 : isfsB gg ncl K = true) (hi : ∀ c, (P.cls c).is = true → c < ncl) : Kits K P (gg K) := ⟨isf_ok hK c2 hi, kits_one c hi⟩
theorem kitsT_ok (c : kitsB gg P ncl K = true) (hi : ∀ c, (P.cls c).is = true → c < ncl) : KitsT K P (gg K) := ⟨fun ts d => by
  induction ts with
  | nil => exact fun _ _ => rfl
  | cons t ts ih =>
    intro h1 h2
    rw [List.all_cons] at h1
    obtain ⟨h3, h4⟩ := ba h1
    have q := kits_one c hi t d h3 h2
    have r := ih h4 h2
    show PySem.W.kitAny K (tagV (gg K) d) (tyV (gg K) t :: ts.map (tyV (gg K))) = _
    unfold PySem.W.kitAny
    rw [q]
    show _ = some (tyIs P t d || ts.any fun t => tyIs P t d)
    cases tyIs P t d with
    | true => rfl
    | false => exact r⟩
end
/-! ### names of fields; tables -/
def nmB (fls : List (List Str)) (xf : List ((Nat × Nat) × Nat)) (fnm : List Str) : Bool := xf.all fun y => (match fnm[y.1.2]? with
  | some x => decide ((fls.getD y.1.1 [])[y.2]? = some x)
  | none => true) && decide ((fls.getD y.1.1 []).Nodup)
theorem nmB_ok {fls : List (List Str)} {xf : List ((Nat × Nat) × Nat)} {fnm : List Str} (h : nmB fls xf fnm = true) : ∀ y ∈ xf, ∀ x, fnm[y.1.2]? = some x → (fls.getD y.1.1 [])[y.2]? = some x ∧ (fls.getD y.1.1 []).Nodup := fun y hy x hx => by
  obtain ⟨h1, h2⟩ := ba (List.all_eq_true.mp h y hy)
  rw [hx] at h1
  exact ⟨of_decide_eq_true h1, of_decide_eq_true h2⟩
theorem sz_ok {n : Nat} (h : Nat.ble n 160 = true) : 100000 * n ≤ sizeLine := by
  have h := Nat.le_of_ble_eq_true h
  rw [sizeLine_eq]
  omega
/-- where the defs stand -/
def keepB (ats : List (Str × Option Str)) : Fx := fun K => ats.all fun p => PySem.W.keepIn K (.ref (fA K p))
def adOf (K : PySem.W.Frag) (ats : List (Str × Option Str)) (n : Nat) : Addr := fA K (ats.getD n ("", none))
def atsB (nms : List (Option Str)) (ats : List (Str × Option Str)) (glos : List Str) : Bool := (List.range nms.length).all fun n => match nms[n]? with
  | some (some x) => decide (ats[n]? = some (x, none)) && glos.contains x
  | _ => true
section
variable {prog : Program} {w : World} {K : PySem.W.Frag} {mg : Str → Option Value} {base : Heap} {g : G} {P : Pt} {T : Nat → Fc} {φ : Phi} {h : Heap} {nms : List (Option Str)} {ats : List (Str × Option Str)} {glos frs : List Str} {k m : Nat}
theorem tab_ok (hK : g.K = K) (hg : ∀ x ∈ glos, mg x = some (.ref (ga K x))) (hf : ∀ x ∈ frs, mg x = none) (kp : keepB ats K = true) (ha : atsB nms ats glos = true) (hm : nms.length = m) (ih : ∀ n, n < m → FnR prog w K mg base (L2.CX prog w) k (adOf K ats n) (spOf g φ T n)) : Tab prog w K mg base g φ T nms frs k := by
  refine ⟨hK, fun n x hx => ?_, hf⟩
  have hn : n < nms.length := (List.getElem?_eq_some_iff.mp hx).1
  have h1 := List.all_eq_true.mp ha n (List.mem_range.mpr hn)
  rw [hx] at h1
  obtain ⟨h2, h3⟩ := ba h1
  have h2 : ats[n]? = some (x, none) := of_decide_eq_true h2
  have ea : adOf K ats n = ga K x := by
    unfold adOf
    rw [List.getD_eq_getElem?_getD, h2]
    rfl
  have q := ih n (by rw [← hm]; exact hn)
  rw [ea] at q
  exact ⟨ga K x, hg x (List.contains_iff_mem.mp h3), List.all_eq_true.mp kp _ (List.mem_of_getElem? h2), q⟩
end
end Ev
set_option Elab.async false
set_option linter.all false
set_option maxRecDepth 100000
set_option maxHeartbeats 1000000
/-! Ev29: small helps for the printed head -/
namespace Ev
open PySem L2 PySem.Spec PyProof.Rows

theorem lookup_mem {α β : Type} [BEq α] [LawfulBEq α] {l : List (α × β)} {a : α} {b : β} (h : l.lookup a = some b) : (a, b) ∈ l := by
  induction l with
  | nil => cases h
  | cons x l ih =>
    obtain ⟨u, v⟩ := x
    unfold List.lookup at h
    split at h
    · rename_i e
      have e := beq_iff_eq.mp e
      cases h
      subst e
      exact List.mem_cons_self
    · exact List.mem_cons_of_mem _ (ih h)
theorem hix_of {p : Nat → Bool} {xf : List ((Nat × Nat) × Nat)} (h : (xf.all fun y => p y.1.1) = true) : ∀ c f k, xf.lookup (c, f) = some k → p c = true := fun c f k hk => List.all_eq_true.mp h _ (lookup_mem hk)
theorem isx_mem {a n c : Nat} (h : (Nat.ble a c && Nat.blt c (a + n)) = true) : c ∈ List.range' a n := by
  obtain ⟨h1, h2⟩ := Bool.and_eq_true_iff.mp h
  have h1 := Nat.le_of_ble_eq_true h1
  have h2 : c < a + n := Nat.le_of_ble_eq_true h2
  rw [List.mem_range']
  exact ⟨c - a, by omega, by omega⟩
/-- the errors of whichever world -/
def CXw (P : Program) : CXT := fun outer H s E u s' => ∃ w, L2.CX P w outer H s E u s'
theorem anyW {P : Program} {w : World} {K : PySem.W.Frag} {mg : Str → Option Value} {base : Heap} {k : Nat} {f : Addr} {fd : FuncData} {ps : List Str} {sp : Sp} (F : FnOk P w K mg base (L2.CX P w) k f fd ps sp) : FnOk P w K mg base (CXw P) k f fd ps sp :=
  ⟨F.len, fun A outer s H args us vs Q E hr he hb hv hs => codeAny_mono (F.run A outer s H args us vs Q E hr he hb hv hs) fun r s' q => by
    cases r with
    | ok fl => cases fl <;> exact q
    | error e => exact ⟨w, q⟩⟩
theorem noErrW {P : Program} (H : Hp) (s : Shared) (e : Value) (s' : Shared) (h : CXw P [] H s (fun _ _ _ => False) e s') : False := by
  obtain ⟨w, _, _, _, _, _, _, _, _, _, _, _, _, z⟩ := h
  exact z
abbrev MpOk (σ : L2.St) (m : Mp) : Prop := match m with | .tx s => s.length ≤ 100000 | .fd i => ∃ v, σ[i]? = some (some v) ∧ fmtV v
inductive AllM (σ : L2.St) : List Mp → Prop where
  | nil : AllM σ []
  | cons {m : Mp} {ms : List Mp} (h : MpOk σ m) (t : AllM σ ms) : AllM σ (m :: ms)
theorem allM {σ : L2.St} {ms : List Mp} (h : AllM σ ms) : ∀ m ∈ ms, MpOk σ m := by
  induction h with
  | nil => exact fun m h => nomatch h
  | cons h _ ih =>
    intro m hm
    rcases List.mem_cons.mp hm with e | hm
    · rw [e]
      exact h
    · exact ih m hm
end Ev
set_option Elab.async false
set_option linter.all false
set_option maxRecDepth 100000
set_option maxHeartbeats 4000000
/-! Ev30: the laws' stream of numbers, and what is taken of it, in plain Lean -/
namespace Ev
open PySem L2 PySem.Spec PyProof.Rows

theorem forRun_inv {tg : Tg} {body : Nv → O} (I : Nat → Nv → Prop) (N : Nat) : ∀ (ds : List D) (n : Nat) (e : Nv), n + ds.length ≤ N → I n e → (∀ n d e, n < N → d ∈ ds → I n e → ∃ e1, stT tg d e = some e1 ∧ ∃ e2, body e1 = .nx e2 ∧ I (n + 1) e2) → ∃ e', forRun tg body ds e = .nx e' ∧ I (n + ds.length) e'
  | [], n, e, _, h, _ => ⟨e, rfl, h⟩
  | d :: r, n, e, hN, h, st => by
    rw [List.length_cons] at hN
    obtain ⟨e1, h1, e2, h2, h3⟩ := st n d e (by omega) List.mem_cons_self h
    obtain ⟨e', h4, h5⟩ := forRun_inv I N r (n + 1) e2 (by omega) h3 fun n d e hn hd => st n d e hn (List.mem_cons_of_mem _ hd)
    refine ⟨e', ?_, ?_⟩
    · unfold forRun
      rw [h1]
      dsimp only
      rw [h2]
      exact h4
    · have : n + (d :: r).length = n + 1 + r.length := by rw [List.length_cons]; omega
      rw [this]
      exact h5
def inBig : Ss := .cons (.iff (.cmp .gt (.v 3) (.int 0)) (.cons (.app 1 .nil (.bin .mod (.bi .int (.cons (.v 3) .nil)) (.int 24))) (.cons (.asg (.name (3, [])) (.bin .fdiv (.v 3) (.int 24))) .nil)) .nil) .nil
def inMix : Ss := .cons (.asg (.name (5, [])) (.bin .mod (.bi .int (.cons (.bin .add (.bin .add (.bin .add (.bin .mul (.v 5) (.v 5)) (.bin .mul (.v 4) (.int 69069))) (.bin .mul (.v 2) (.int 13))) (.int 3)) .nil)) (.int 2147483399))) (.cons (.app 1 .nil (.bin .mod (.bi .int (.cons (.bin .fdiv (.v 5) (.int 16)) .nil)) (.int 5040))) .nil)
def inStr : Ss := .cons (.asg (.name (3, [])) (.bi .int (.cons (.sub (.v 0) (.v 2)) .nil))) (.cons (.iff (.cmp .lt (.v 3) (.int 0)) (.cons (.asg (.name (3, [])) (.bin .sub (.int 5) (.v 3))) .nil) .nil) (.cons (.iff (.cmp .ge (.v 3) (.bin .pow (.int 10) (.int 18)))
  (.cons (.forr (.name (4, [])) (.rng1 (.int 56)) inBig) .nil)
  (.cons (.asg (.name (5, [])) (.bin .mod (.bi .int (.cons (.bin .add (.bin .add (.bin .mul (.v 3) (.int 40014)) (.bin .mul (.v 2) (.int 52774))) (.int 11)) .nil)) (.int 2147483563))) (.cons (.forr (.name (4, [])) (.rng1 (.int 7)) inMix) .nil))) .nil))
def strF : Fc := ⟨1, 7, (.cons (.asg (.name (1, [6])) (.lst .nil)) (.cons (.forr (.name (2, [])) (.rng1 (.bi .min2 (.cons (.bi .len (.cons (.v 0) .nil)) (.cons (.int 63) .nil)))) inStr) (.cons (.rvs 1) (.cons (.ret (.mov 1)) .nil)))), .own 1, none, []⟩
def takF : Fc := ⟨2, 2, (.cons (.iff (.cmp .eq (.bi .len (.cons (.v 0) .nil)) (.int 0)) (.cons (.ret (.int 0)) .nil) .nil) (.cons (.ret (.bin .mod (.bi .int (.cons (.popl 0) .nil)) (.v 1))) .nil)), .F, some (0, 1), []⟩
def seS (ns : List Int) (L : List Int) (a c t m x : Option D) : Nv := [some (.scr ns), some (.lst (L.map .int)), a, c, t, m, x]
theorem log2_lt {i : Int} {n : Nat} (h : i.natAbs < 2 ^ n) (hn : 0 < n) : i.natAbs.log2 < n := by
  by_cases z : i.natAbs = 0
  · rw [z]; simpa using hn
  · exact (Nat.log2_lt z).mpr h
section
variable {φ : Phi} {P : Pt}
theorem big_ok (ns : List Int) (a m x : Option D) (n : Nat) (e : Nv) (i : Int) (h : ∃ L c t, e = seS ns L a (some (.int c)) t m x ∧ 0 ≤ c ∧ (∀ y ∈ L, (0 : Int) ≤ y) ∧ L.length ≤ n) (hn : n < 10000) :
    ∃ e1, stT (.name (4, [])) (.int i) e = some e1 ∧ ∃ e2, evSs φ P inBig e1 = .nx e2 ∧ ∃ L c t, e2 = seS ns L a (some (.int c)) t m x ∧ 0 ≤ c ∧ (∀ y ∈ L, (0 : Int) ≤ y) ∧ L.length ≤ n + 1 := by
  obtain ⟨L, c, t, rfl, hc, hL, hl⟩ := h
  refine ⟨seS ns L a (some (.int c)) (some (.int i)) m x, rfl, ?_⟩
  by_cases h0 : 0 < c
  · refine ⟨seS ns (L ++ [c.fmod 24]) a (some (.int (c.fdiv 24))) (some (.int i)) m x, ?_, L ++ [c.fmod 24], c.fdiv 24, _, rfl, ?_, ?_, ?_⟩
    · have hs : L.length < sizeLine := by rw [sizeLine_eq]; omega
      have k4 : divOk 24 = true := by decide +kernel
      simp [inBig, evSs, evS, ev, evs, seS, gt, RE.bind, RE.o, opCmp, ordI, h0, RV.re, tru, opBi, opBin, binInt, k4, upd1, updP, appF, hs, st, stT, stN, kill]
    · rw [Int.fdiv_eq_ediv_of_nonneg _ (by decide)]
      exact Int.ediv_nonneg hc (by decide)
    · intro y hy
      rcases List.mem_append.mp hy with hy | hy
      · exact hL y hy
      · rw [List.mem_singleton.mp hy]
        exact Int.fmod_nonneg_of_pos _ (by decide)
    · simp; omega
  · refine ⟨seS ns L a (some (.int c)) (some (.int i)) m x, ?_, L, c, _, rfl, hc, hL, by omega⟩
    simp [inBig, evSs, evS, ev, evs, seS, gt, RE.bind, RE.o, opCmp, ordI, h0, RV.re, tru]
theorem mix_ok (ns : List Int) (j : Int) (hj : 0 ≤ j ∧ j < 63) (c x : Option D) (n : Nat) (e : Nv) (i : Int) (hi : 0 ≤ i ∧ i < 7) (h : ∃ L m t, e = seS ns L (some (.int j)) c t (some (.int m)) x ∧ (0 ≤ m ∧ m < 2147483563) ∧ (∀ y ∈ L, (0 : Int) ≤ y) ∧ L.length ≤ n) (hn : n < 10000) :
    ∃ e1, stT (.name (4, [])) (.int i) e = some e1 ∧ ∃ e2, evSs φ P inMix e1 = .nx e2 ∧ ∃ L m t, e2 = seS ns L (some (.int j)) c t (some (.int m)) x ∧ (0 ≤ m ∧ m < 2147483563) ∧ (∀ y ∈ L, (0 : Int) ≤ y) ∧ L.length ≤ n + 1 := by
  obtain ⟨L, m, t, rfl, hm, hL, hl⟩ := h
  refine ⟨seS ns L (some (.int j)) c (some (.int i)) (some (.int m)) x, rfl, ?_⟩
  refine ⟨seS ns (L ++ [(((m * m + i * 69069 + j * 13 + 3).fmod 2147483399).fdiv 16).fmod 5040]) (some (.int j)) c (some (.int i)) (some (.int ((m * m + i * 69069 + j * 13 + 3).fmod 2147483399))) x, ?_, _, _, _, rfl, ?_, ?_, ?_⟩
  · have hs : L.length < sizeLine := by rw [sizeLine_eq]; omega
    have k1 : mulOk m m = true := by
      have := log2_lt (i := m) (n := 32) (by omega) (by decide)
      unfold mulOk; simp; omega
    have k2 : mulOk i 69069 = true := by
      have := log2_lt (i := i) (n := 32) (by omega) (by decide)
      have : (69069 : Int).natAbs.log2 < 100 := by decide
      unfold mulOk; simp only [decide_eq_true_eq]; omega
    have k3 : mulOk j 13 = true := by
      have := log2_lt (i := j) (n := 32) (by omega) (by decide)
      have : (13 : Int).natAbs.log2 < 100 := by decide
      unfold mulOk; simp only [decide_eq_true_eq]; omega
    have k4 : divOk 16 = true := by decide +kernel
    simp [inMix, evSs, evS, ev, evs, seS, gt, RE.bind, RE.o, RV.re, opBi, opBin, binInt, k1, k2, k3, k4, upd1, updP, appF, hs, st, stT, stN, kill]
  · have h1 := Int.fmod_nonneg_of_pos (m * m + i * 69069 + j * 13 + 3) (b := 2147483399) (by decide)
    have h2 := Int.fmod_lt_of_pos (m * m + i * 69069 + j * 13 + 3) (b := 2147483399) (by decide)
    omega
  · intro y hy
    rcases List.mem_append.mp hy with hy | hy
    · exact hL y hy
    · rw [List.mem_singleton.mp hy]
      exact Int.fmod_nonneg_of_pos _ (by decide)
  · simp; omega
theorem rgL_mem {b : Int} {d : D} (h : d ∈ rgL 0 b) : ∃ i : Int, d = .int i ∧ 0 ≤ i ∧ i < b := by
  unfold rgL at h
  obtain ⟨i, hi, rfl⟩ := List.mem_map.mp h
  have := List.mem_range.mp hi
  exact ⟨_, rfl, by omega, by omega⟩
theorem forr_ok {t : Tg} {i : It} {b l : Ss} {e e1 e2 : Nv} {ds : List D} (h : evi φ P i e = .ok ds e1) (k : forRun t (evSs φ P b) ds e1 = .nx e2) : evSs φ P (.cons (.forr t i b) l) e = evSs φ P l e2 := by
  rw [evSs, evS, h]
  dsimp only [RE.o]
  rw [k]
theorem str_in (ns : List Int) (n : Nat) (e : Nv) (j : Int) (hj : 0 ≤ j ∧ j < 63) (hj2 : j < ns.length) (h : ∃ L a c t m, e = seS ns L a c t m none ∧ (∀ y ∈ L, (0 : Int) ≤ y) ∧ L.length ≤ 56 * n) (hn : n < 100) :
    ∃ e1, stT (.name (2, [])) (.int j) e = some e1 ∧ ∃ e2, evSs φ P inStr e1 = .nx e2 ∧ ∃ L a c t m, e2 = seS ns L a c t m none ∧ (∀ y ∈ L, (0 : Int) ≤ y) ∧ L.length ≤ 56 * (n + 1) := by
  obtain ⟨L, a, c, t, m, rfl, hL, hl⟩ := h
  refine ⟨seS ns L (some (.int j)) c t m none, rfl, ?_⟩
  obtain ⟨c0, hc0⟩ : ∃ c0, L2.atI ns j = some c0 := by
    have h1 : j.toNat < ns.length := by omega
    refine ⟨ns[j.toNat], ?_⟩
    unfold L2.atI L2.ixN
    rw [if_pos hj.1, if_pos hj2]
    exact List.getElem?_eq_getElem h1
  obtain ⟨c1, hc1, hs⟩ : ∃ c1 : Int, 0 ≤ c1 ∧ evSs φ P inStr (seS ns L (some (.int j)) c t m none) = evSs φ P (.cons (.iff (.cmp .ge (.v 3) (.bin .pow (.int 10) (.int 18))) (.cons (.forr (.name (4, [])) (.rng1 (.int 56)) inBig) .nil)
      (.cons (.asg (.name (5, [])) (.bin .mod (.bi .int (.cons (.bin .add (.bin .add (.bin .mul (.v 3) (.int 40014)) (.bin .mul (.v 2) (.int 52774))) (.int 11)) .nil)) (.int 2147483563))) (.cons (.forr (.name (4, [])) (.rng1 (.int 7)) inMix) .nil))) .nil) (seS ns L (some (.int j)) (some (.int c1)) t m none) := by
    by_cases h0 : c0 < 0
    · refine ⟨5 - c0, by omega, ?_⟩
      simp [inStr, evSs, evS, ev, evs, seS, gt, RE.bind, RE.o, opCmp, ordI, h0, RV.re, tru, opBi, opBin, binInt, st, stT, stN, kill, opSub, hc0]
    · refine ⟨c0, by omega, ?_⟩
      simp [inStr, evSs, evS, ev, evs, seS, gt, RE.bind, RE.o, opCmp, ordI, h0, RV.re, tru, opBi, opBin, binInt, st, stT, stN, kill, opSub, hc0]
  rw [hs]
  have p18 : binInt .pow 10 18 = .ok (.int (10 ^ 18)) := rfl
  by_cases h1 : (10 : Int) ^ 18 ≤ c1
  · obtain ⟨e2, h2, L', c, t', he, q1, q2, q3⟩ := forRun_inv (tg := .name (4, [])) (body := evSs φ P inBig) (fun k e => ∃ L' c t, e = seS ns L' (some (.int j)) (some (.int c)) t m none ∧ 0 ≤ c ∧ (∀ y ∈ L', (0 : Int) ≤ y) ∧ L'.length ≤ L.length + k) 56 (rgL 0 56) 0 (seS ns L (some (.int j)) (some (.int c1)) t m none)
      (Nat.le_of_eq rfl) ⟨L, c1, t, rfl, hc1, hL, by omega⟩ (fun k d e hk hd ⟨L', c, t, he, q1, q2, q3⟩ => by
        obtain ⟨i, rfl, hi1, hi2⟩ := rgL_mem hd
        exact big_ok (φ := φ) (P := P) ns (some (.int j)) m none (L.length + k) e i ⟨L', c, t, he, q1, q2, q3⟩ (by omega))
    refine ⟨e2, ?_, L', _, _, _, _, he, q2, ?_⟩
    · have g : evi φ P (.rng1 (.int 56)) (seS ns L (some (.int j)) (some (.int c1)) t m none) = .ok (rgL 0 56) (seS ns L (some (.int j)) (some (.int c1)) t m none) := by
        simp [evi, ev, RE.bind, rgOk]
      have w := forr_ok (l := .nil) g h2
      simp only [evSs, evS, ev, evs, seS, gt, RE.bind, RE.o, opBin, p18, RV.re, opCmp, ordI, h1, tru, decide_true] at w ⊢
      rw [w]
    · have : (rgL 0 56).length = 56 := rfl
      rw [this] at q3
      omega
  · have k1 : mulOk c1 40014 = true := by
      have h2 : c1 < 1000000000000000000 := by
        have e : (10 : Int) ^ 18 = 1000000000000000000 := by decide
        omega
      have := log2_lt (i := c1) (n := 64) (by omega) (by decide)
      have : (40014 : Int).natAbs.log2 < 100 := by decide
      unfold mulOk; simp only [decide_eq_true_eq]; omega
    have k2 : mulOk j 52774 = true := by
      have := log2_lt (i := j) (n := 32) (by omega) (by decide)
      have : (52774 : Int).natAbs.log2 < 100 := by decide
      unfold mulOk; simp only [decide_eq_true_eq]; omega
    obtain ⟨m0, hm0, em⟩ : ∃ m0 : Int, (0 ≤ m0 ∧ m0 < 2147483563) ∧ m0 = (c1 * 40014 + j * 52774 + 11).fmod 2147483563 :=
      ⟨_, ⟨Int.fmod_nonneg_of_pos _ (by decide), Int.fmod_lt_of_pos _ (by decide)⟩, rfl⟩
    obtain ⟨e2, h2, L', m', t', he, q1, q2, q3⟩ := forRun_inv (tg := .name (4, [])) (body := evSs φ P inMix) (fun k e => ∃ L' m t, e = seS ns L' (some (.int j)) (some (.int c1)) t (some (.int m)) none ∧ (0 ≤ m ∧ m < 2147483563) ∧ (∀ y ∈ L', (0 : Int) ≤ y) ∧ L'.length ≤ L.length + k) 7 (rgL 0 7) 0 (seS ns L (some (.int j)) (some (.int c1)) t (some (.int m0)) none)
      (Nat.le_of_eq rfl) ⟨L, m0, t, rfl, hm0, hL, by omega⟩ (fun k d e hk hd ⟨L', c, t, he, q1, q2, q3⟩ => by
        obtain ⟨i, rfl, hi1, hi2⟩ := rgL_mem hd
        exact mix_ok (φ := φ) (P := P) ns j hj (some (.int c1)) none (L.length + k) e i ⟨hi1, hi2⟩ ⟨L', c, t, he, q1, q2, q3⟩ (by omega))
    refine ⟨e2, ?_, L', _, _, _, _, he, q2, ?_⟩
    · have g : evi φ P (.rng1 (.int 7)) (seS ns L (some (.int j)) (some (.int c1)) t (some (.int m0)) none) = .ok (rgL 0 7) (seS ns L (some (.int j)) (some (.int c1)) t (some (.int m0)) none) := by
        simp [evi, ev, RE.bind, rgOk]
      have w := forr_ok (l := .nil) g h2
      have A : evS φ P (.asg (.name (5, [])) (.bin .mod (.bi .int (.cons (.bin .add (.bin .add (.bin .mul (.v 3) (.int 40014)) (.bin .mul (.v 2) (.int 52774))) (.int 11)) .nil)) (.int 2147483563))) (seS ns L (some (.int j)) (some (.int c1)) t m none) = .nx (seS ns L (some (.int j)) (some (.int c1)) t (some (.int m0)) none) := by
        simp [evS, ev, evs, seS, gt, RE.bind, RE.o, opBin, RV.re, binInt, k1, k2, opBi, ← em, st, stT, stN, kill]
      have c : ev φ P (.cmp .ge (.v 3) (.bin .pow (.int 10) (.int 18))) (seS ns L (some (.int j)) (some (.int c1)) t m none) = .ok (.bl false) (seS ns L (some (.int j)) (some (.int c1)) t m none) := by
        simp only [ev, seS, gt, RE.bind, opBin, p18, RV.re, opCmp, ordI, h1, decide_false]
      rw [evSs, evS, c]
      dsimp only [RE.o, tru]
      rw [evSs, A]
      dsimp only
      rw [w]
      rfl
    · have : (rgL 0 7).length = 7 := rfl
      rw [this] at q3
      omega
/-- the stream: some ints, none below 0 -/
theorem str_ok (ns : List Int) (h : ns.length ≤ 63) : ∃ L : List Int, runF φ P strF [.scr ns] = .ok (.lst (L.map .int)) .non ∧ (∀ y ∈ L, (0 : Int) ≤ y) ∧ L.length ≤ 3528 := by
  obtain ⟨e2, h2, L, a, c, t, m, he, hL, hl⟩ := forRun_inv (tg := .name (2, [])) (body := evSs φ P inStr) (fun k e => ∃ L a c t m, e = seS ns L a c t m none ∧ (∀ y ∈ L, (0 : Int) ≤ y) ∧ L.length ≤ 56 * k) 63 (rgL 0 ns.length) 0 (seS ns [] none none none none none)
    (by rw [rgL_len]; omega) ⟨[], none, none, none, none, rfl, (fun _ h => nomatch h), Nat.le_refl _⟩ (fun k d e hk hd hI => by
      obtain ⟨i, rfl, hi1, hi2⟩ := rgL_mem hd
      exact str_in (φ := φ) (P := P) ns k e i ⟨hi1, by omega⟩ (by omega) hI (by omega))
  have e63 : (if (63 : Int) < (ns.length : Int) then (63 : Int) else (ns.length : Int)) = ns.length := if_neg (by omega)
  have g : evi φ P (.rng1 (.bi .min2 (.cons (.bi .len (.cons (.v 0) .nil)) (.cons (.int 63) .nil)))) (seS ns [] none none none none none) = .ok (rgL 0 ns.length) (seS ns [] none none none none none) := by
    have r : rgOk 0 (ns.length : Int) = true := by
      unfold rgOk
      simp
      omega
    simp [evi, ev, evs, RE.bind, RV.re, opBi, seS, gt, e63, r]
  subst he
  have w := forr_ok (l := .cons (.rvs 1) (.cons (.ret (.mov 1)) .nil)) g h2
  refine ⟨L.reverse, ?_, fun y hy => hL y (List.mem_reverse.mp hy), ?_⟩
  · unfold runF
    rw [if_pos (show [D.scr ns].length = strF.ar from rfl)]
    show fin0 _ (evSs φ P strF.body (ini 7 [.scr ns])) = _
    have e1 : evSs φ P strF.body (ini 7 [.scr ns]) = evSs φ P (.cons (.forr (.name (2, [])) (.rng1 (.bi .min2 (.cons (.bi .len (.cons (.v 0) .nil)) (.cons (.int 63) .nil)))) inStr) (.cons (.rvs 1) (.cons (.ret (.mov 1)) .nil))) (seS ns [] none none none none none) := rfl
    rw [e1, w]
    simp [evSs, evS, ev, seS, gt, st, upd1, RE.o, fin0]
  · have e : (rgL 0 (ns.length : Int)).length = ns.length := by rw [rgL_len]; omega
    rw [e] at hl
    rw [List.length_reverse]
    omega
theorem shI (i : Int) : SeqAt.shaped (.int i) = true := rfl
theorem eqI (i j : Int) : eqD (.int i) (.int j) = some (i == j) := by
  simp only [eqD, toPy, shI, Bool.and_self, if_true, PyData.eqv]
/-- what is taken -/
theorem tak_ok (L : List Int) (m : Int) (hm : 0 < m) (hL : ∀ y ∈ L, (0 : Int) ≤ y) (hl : L.length ≤ 3528) : ∃ (a : Int) (L' : List Int), runF φ P takF [.lst (L.map .int), .int m] = .ok (.int a) (.lst (L'.map .int)) ∧ (0 ≤ a ∧ a < m) ∧ (∀ y ∈ L', (0 : Int) ≤ y) ∧ L'.length ≤ 3528 := by
  rcases List.eq_nil_or_concat L with rfl | ⟨L0, a, rfl⟩
  · refine ⟨0, [], ?_, ⟨Int.le_refl 0, hm⟩, hL, hl⟩
    rfl
  · refine ⟨a.fmod m, L0, ?_, ⟨Int.fmod_nonneg_of_pos _ hm, Int.fmod_lt_of_pos _ hm⟩, fun y hy => hL y (by simp [hy]), by simp at hl; omega⟩
    have hne : ¬ m = 0 := by omega
    have hz : ¬ ((L0.length : Int) + 1 = 0) := by omega
    unfold runF
    rw [if_pos (show [D.lst ((L0.concat a).map .int), D.int m].length = takF.ar from rfl)]
    show finL _ 0 (evSs φ P takF.body (ini 2 [.lst ((L0.concat a).map .int), .int m])) = _
    have hq : opCmp φ P .eq (.int ((L0.length : Int) + 1)) (.int 0) = .ok (.bl false) := by
      simp [opCmp, eqI, hz]
    simp [takF, ini, evSs, evS, ev, evs, gt, RE.bind, RE.o, RV.re, opBi, hq, tru, opBin, binInt, hne, st, finL]
end
end Ev
set_option Elab.async false
set_option linter.all false
set_option maxRecDepth 100000
set_option maxHeartbeats 1000000
/-! Ev31: the classes' methods, fields, makers, operators, out of the written part -/
namespace Ev
open PySem L2 PySem.Spec PyProof.Rows He

def pmOf (pms : List (List Nat)) (c i : Nat) : Nat := (pms.getD c []).getD i 1001
/-- a class by its number; any other number: the first class -/
def cnd (cns : List Str) (c : Nat) : Str := cns.getD c (cns.headD "")
def ggOf (cns : List Str) (fls : List (List Str)) (sls : List Bool) (pms : List (List Nat)) (K : PySem.W.Frag) : G := ⟨K, fun c => ga K (cnd cns c), fun c => fls.getD c [], fun c => sls.getD c false, pmOf pms⟩
/-- a table by class: a key, what it stands for -/
abbrev Tb (α : Type) := List (List (α × Nat))
def allT {α : Type} (l : Tb α) (p : Nat → α → Nat → Bool) : Bool := (List.range l.length).all fun c => (l.getD c []).all fun y => p c y.1 y.2
theorem allT_ok {α : Type} [BEq α] [LawfulBEq α] {l : Tb α} {p : Nat → α → Nat → Bool} (h : allT l p = true) {c : Nat} {m : α} {n : Nat} (e : (l.getD c []).lookup m = some n) : c < l.length ∧ p c m n = true := by
  have hc : c < l.length := by
    apply Classical.byContradiction
    intro z
    rw [List.getD_eq_getElem?_getD, List.getElem?_eq_none (Nat.le_of_not_lt z)] at e
    cases e
  exact ⟨hc, List.all_eq_true.mp (List.all_eq_true.mp h c (List.mem_range.mpr hc)) _ (lookup_mem e)⟩
theorem getD_some {α : Type} {l : List α} {d x : α} {i : Nat} (h : l[i]? = some x) : l.getD i d = x := by
  rw [List.getD_eq_getElem?_getD, h]
  rfl
/-! ### what is asked of the written part -/
def mkrB (mks : List (Str × Nat × Nat)) : Fx := fun K => mks.all fun t => (Fa.mkr t.1).ok K
def methB (cns mns : List Str) (mts : Tb Nat) : Fx := fun K => allT mts fun c m _ => (Fa.meth (cnd cns c) (mns.getD m "")).ok K
def slotB (K : PySem.W.Frag) (C : Addr) (f : Str) (i : Nat) : Bool := eqO (PySem.W.findIn K (.ref C) f) (some (some (.ref (ma K C f)))) && (eqO (PySem.W.specialIn K (.ref (ma K C f)) "__get__") (some (some (.builtin "member_descriptor.__get__"))) && (eqB (PySem.W.takesIn K (.ref (ma K C f))) (some true) &&
  (eqV (PySem.W.typeIn K (.ref (ma K C f))) (some (.type "member_descriptor")) && (decide (PySem.W.slotIn K (ma K C f) C = some i) && decide (i < 1000)))))
def fieldB (cns fnm : List Str) (sls : List Bool) (pms : List (List Nat)) (fds : Tb Nat) : Fx := fun K => allT fds fun c f i => if sls.getD c false then slotB K (ga K (cnd cns c)) (fnm.getD f "") (pmOf pms c i) else eqO (PySem.W.findIn K (.ref (ga K (cnd cns c))) (fnm.getD f "")) (some none)
theorem slot_ok {K : PySem.W.Frag} {C : Addr} {f : Str} {i : Nat} (h : slotB K C f i = true) : SlX.Slot1 K C f (ma K C f) i := by
  obtain ⟨h1, h⟩ := ba h
  obtain ⟨h2, h⟩ := ba h
  obtain ⟨h3, h⟩ := ba h
  obtain ⟨h4, h⟩ := ba h
  obtain ⟨h5, h6⟩ := ba h
  exact ⟨eqO_ok h1, eqO_ok h2, of_decide_eq_true h3, of_decide_eq_true h4, of_decide_eq_true h5, of_decide_eq_true h6⟩
def isRefB : Option Value → Bool
  | none => true
  | some (.ref _) => true
  | _ => false
theorem isRef_ok {v : Option Value} (h : isRefB v = true) : v = none ∨ ∃ r : Addr, v = some (.ref r) := by
  cases v with
  | none => exact .inl rfl
  | some v => cases v with
    | ref r => exact .inr ⟨r, rfl⟩
    | _ => cases h
def someB (v : Option (Option Value)) : Bool := match v with
  | some _ => true
  | none => false
theorem some_ok {v : Option (Option Value)} (h : someB v = true) : ∃ r, v = some r := by
  cases v with
  | none => cases h
  | some r => exact ⟨r, rfl⟩
def dnO : Dn → Option BO
  | .add => some .add | .sub => some .sub | .mul => some .mul | _ => none
theorem fwd_dn {o : BO} {d : Dn} (h : fwd o = some d) : dnO d = some o := by cases o <;> cases h <;> rfl
def binB (cns : List Str) (K : PySem.W.Frag) (c : Nat) (o : BO) : Bool := (match PySem.W.findIn K (.ref (ga K (cnd cns c))) (PySem.dunder (bop o).info.2) with
  | some (some (.ref f)) => decide (f = ma K (ga K (cnd cns c)) (PySem.dunder (bop o).info.2)) && PySem.W.isFn K (.ref f)
  | _ => false) && (PySem.W.selfFirst K (ga K (cnd cns c)) && ((match PySem.W.findIn K (.ref (ga K (cnd cns c))) (dunderR (bop o).info.2) with
  | some rc => isRefB rc
  | none => false) && (someB (PySem.W.findIn K (.type "int") (PySem.dunder (bop o).info.2)) && (someB (PySem.W.findIn K (.type "int") (dunderR (bop o).info.2)) && eqB (PySem.W.subIn K (.type "int") (.ref (ga K (cnd cns c)))) (some false)))))
def eqB2 (cns : List Str) (K : PySem.W.Frag) (c : Nat) : Bool := (Fa.meth (cnd cns c) "__eq__").ok K && (PySem.W.notFirst K (ga K (cnd cns c)) (.type "int") && (PySem.W.notFirst K (ga K (cnd cns c)) (.type "NoneType") && (PySem.W.notFirst K (ga K (cnd cns c)) (.type "tuple") && (List.range (cns.length + 1)).all fun d => PySem.W.notFirst K (ga K (cnd cns c)) (.ref (ga K (cnd cns d))))))
def dnR : Dn → Option BO
  | .radd => some .add | .rsub => some .sub | .rmul => some .mul | _ => none
theorem rev_dn {o : BO} {d : Dn} (h : rev o = some d) : dnR d = some o := by cases o <;> cases h <;> rfl
def rbinB (cns : List Str) (K : PySem.W.Frag) (c : Nat) (o : BO) : Bool := eqO (PySem.W.findIn K (.ref (ga K (cnd cns c))) (PySem.dunder (bop o).info.2)) (some (some (.ref (ma K (ga K (cnd cns c)) (PySem.dunder (bop o).info.2))))) && (PySem.W.selfFirst K (ga K (cnd cns c)) &&
  (eqO (PySem.W.findIn K (.ref (ga K (cnd cns c))) (dunderR (bop o).info.2)) (some (some (.ref (ma K (ga K (cnd cns c)) (dunderR (bop o).info.2))))) && (PySem.W.isFn K (.ref (ma K (ga K (cnd cns c)) (dunderR (bop o).info.2))) && eqB (PySem.W.subIn K (.ref (ga K (cnd cns c))) (.type "int")) (some false))))
def operB (cns : List Str) (dns : Tb Dn) : Fx := fun K => allT dns fun c d _ => match dnO d with
  | some o => binB cns K c o
  | none => match dnR d with
    | some o => rbinB cns K c o
    | none => match d with
    | .eq => eqB2 cns K c
    | .neg => (Fa.meth (cnd cns c) "__neg__").ok K
    | _ => true
/-! ### what is asked of the tables alone -/
def mksB (cns : List Str) (ats : List (Str × Option Str)) (glos : List Str) (T : Nat → Fc) (m : Nat) (mks : List (Str × Nat × Nat)) : Bool := mks.all fun t => decide (cns[t.2.1]? = some t.1) && (decide (ats[t.2.2]? = some (t.1, some ("__init__" : Str))) && (glos.contains t.1 && decide (t.2.2 < m)))
def mtsB (cns mns : List Str) (fls : List (List Str)) (ats : List (Str × Option Str)) (T : Nat → Fc) (m : Nat) (mts : Tb Nat) : Bool := allT mts fun c k n => decide (ats[n]? = some (cnd cns c, some (mns.getD k ""))) && (!(fls.getD c []).contains (mns.getD k "") && (decide (n < m) && ((T n).lent.isNone && isF (T n).ret)))
def fdsB (fnm : List Str) (fls : List (List Str)) (sls : List Bool) (pms : List (List Nat)) (fds : Tb Nat) : Bool := allT fds fun c f i => ((List.range i).all fun j => !Nat.beq (pmOf pms c j) (pmOf pms c i)) && (sls.getD c false || (decide ((fls.getD c [])[i]? = some (fnm.getD f "")) && (decide ((fls.getD c []).Nodup) && decide (i < 900))))
def dnN : Dn → Str
  | .add => "__add__" | .radd => "__radd__" | .sub => "__sub__" | .rsub => "__rsub__" | .mul => "__mul__" | .rmul => "__rmul__" | .neg => "__neg__" | .eq => "__eq__" | .bool => "__bool__" | .len => "__len__" | .iter => "__iter__" | .contains => "__contains__"
def dnsB (cns : List Str) (ats : List (Str × Option Str)) (T : Nat → Fc) (m : Nat) (dns : Tb Dn) : Bool := allT dns fun c d n => decide (ats[n]? = some (cnd cns c, some (dnN d))) && (decide (n < m) && ((T n).lent.isNone && isF (T n).ret))
theorem isF_ok {k : Kd} (h : isF k = true) : k = .F := by cases k <;> first | rfl | cases h
theorem zip_at : ∀ {ns : List Str} {vs : List V} {k : Nat} {x : Str} {v : V}, ns.Nodup → ns[k]? = some x → vs[k]? = some v → (ns.zip vs).lookup x = some v
  | [], _, _, _, _, _, h, _ => nomatch h
  | n :: ns, [], _, _, _, _, _, h => nomatch h
  | n :: ns, u :: vs, 0, x, v, nd, h, h2 => by
    cases h
    cases h2
    simp [List.lookup]
  | n :: ns, u :: vs, k + 1, x, v, nd, h, h2 => by
    have h : ns[k]? = some x := by simpa using h
    have h2 : vs[k]? = some v := by simpa using h2
    have ne : x ≠ n := fun z => (List.nodup_cons.mp nd).1 (z ▸ List.mem_of_getElem? h)
    have nb : (x == n) = false := by simpa using ne
    rw [List.zip_cons_cons]
    unfold List.lookup
    rw [nb]
    exact zip_at (List.nodup_cons.mp nd).2 h h2
theorem zip_put : ∀ {ns : List Str} {vs : List V} {x : Str} {v : V}, ns.Nodup → ns[vs.length]? = some x → putF x v (ns.zip vs) = ns.zip (vs ++ [v])
  | [], _, _, _, _, h => nomatch h
  | n :: ns, [], x, v, nd, h => by
    have h : n = x := by simpa using h
    subst h
    simp [putF]
  | n :: ns, u :: vs, x, v, nd, h => by
    have h : ns[vs.length]? = some x := by simpa using h
    have ne : ¬ n = x := fun z => (List.nodup_cons.mp nd).1 (z ▸ List.mem_of_getElem? h)
    rw [List.zip_cons_cons, putF, if_neg ne, zip_put (List.nodup_cons.mp nd).2 h, List.cons_append, List.zip_cons_cons]
theorem zip_not {ns : List Str} {vs : List V} {x : Str} (h : x ∉ ns) : (ns.zip vs).lookup x = none := by
  induction ns generalizing vs with
  | nil => rfl
  | cons n ns ih =>
    cases vs with
    | nil => rfl
    | cons v vs =>
      have ne : (x == n) = false := by simpa using fun z : x = n => h (z ▸ List.mem_cons_self)
      rw [List.zip_cons_cons]
      unfold List.lookup
      rw [ne]
      exact ih fun z => h (List.mem_cons_of_mem _ z)
section
variable {prog : Program} {w : World} {K : PySem.W.Frag} {mg : Str → Option Value} {base : Heap} {P : Pt} {T : Nat → Fc} {φ : Phi} {cns mns fnm glos : List Str} {fls : List (List Str)} {sls : List Bool} {pms : List (List Nat)} {ats : List (Str × Option Str)} {mks : List (Str × Nat × Nat)} {mts fds : Tb Nat} {dns : Tb Dn} {k m ncl : Nat}
theorem ad_at {n : Nat} {x : Str} {y : Option Str} (h : ats[n]? = some (x, y)) : adOf K ats n = fA K (x, y) := by
  unfold adOf
  rw [getD_some h]
theorem tabC_ok (hg : ∀ x ∈ glos, mg x = some (.ref (ga K x))) (hcl : ∀ c, (P.cls c).is = true → c < ncl) (his : ∀ c, c < ncl → (P.cls c).is = true) (cI : isfsB (ggOf cns fls sls pms) ncl K = true) (cM : mkrB mks K = true) (cMt : methB cns mns mts K = true) (cF : fieldB cns fnm sls pms fds K = true)
    (dM : mksB cns ats glos T m mks = true) (dMt : mtsB cns mns fls ats T m mts = true) (dF : fdsB fnm fls sls pms fds = true) (eMt : ∀ c k n, (P.cls c).mt k = some n → (mts.getD c []).lookup k = some n) (eF : ∀ c f i, (P.cls c).fd f = some i → (fds.getD c []).lookup f = some i) (lMt : mts.length ≤ ncl) (lF : fds.length ≤ ncl)
    (ih : ∀ n, n < m → FnR prog w K mg base (L2.CX prog w) k (adOf K ats n) (spOf (ggOf cns fls sls pms K) φ T n)) : TabC prog w K mg base (ggOf cns fls sls pms K) φ P T mks mns fnm k := by
  have isf := isf_ok (K := K) (gg := ggOf cns fls sls pms) (P := P) rfl cI hcl
  have mk : ∀ t ∈ mks, (ggOf cns fls sls pms K).cl t.2.1 = ga K t.1 ∧ t.1 ∈ glos ∧ t.2.2 < m ∧ adOf K ats t.2.2 = ma K (ga K t.1) "__init__" := fun t ht => by
    obtain ⟨h1, h2⟩ := ba (List.all_eq_true.mp dM t ht)
    obtain ⟨h2, h3⟩ := ba h2
    obtain ⟨h3, h4⟩ := ba h3
    obtain ⟨_, k2⟩ := ba (List.all_eq_true.mp cM t ht)
    obtain ⟨_, k3⟩ := ba k2
    refine ⟨?_, List.contains_iff_mem.mp h3, of_decide_eq_true h4, (ad_at (of_decide_eq_true h2)).trans (fA_isFn (ba k3).1)⟩
    show ga K (cnd cns t.2.1) = _
    unfold cnd
    rw [getD_some (of_decide_eq_true h1)]
  refine ⟨fun t ht => ?_, fun c m' n x hx hm hl => ?_, fun c m' n hm => ?_, fun c f i x hx hf => ?_, fun c f i x hx hf => ?_, fun t ht => ?_⟩
  · obtain ⟨e1, e2, e3, e4⟩ := mk t ht
    have q := ih _ e3
    rw [e4] at q
    rw [e1]
    obtain ⟨k1, k2⟩ := ba (List.all_eq_true.mp cM t ht)
    obtain ⟨k2, k3⟩ := ba k2
    obtain ⟨k3, k4⟩ := ba k3
    exact ⟨_, ⟨k1, eqO_ok k2, k3, k4⟩, hg _ e2, q⟩
  · obtain ⟨hc, q⟩ := allT_ok dMt (eMt c m' n hm)
    obtain ⟨q1, q⟩ := ba q
    obtain ⟨q2, q⟩ := ba q
    obtain ⟨q3, q⟩ := ba q
    obtain ⟨q4, q5⟩ := ba q
    have ex : mns.getD m' "" = x := getD_some hx
    rw [ex] at q1 q2
    obtain ⟨_, km⟩ := allT_ok cMt (eMt c m' n hm)
    rw [ex] at km
    obtain ⟨k1, k2⟩ := ba km
    obtain ⟨k2, k3⟩ := ba k2
    have r := ih n (of_decide_eq_true q3)
    rw [ad_at (of_decide_eq_true q1), fA_isFn k2] at r
    unfold spOf at r
    rw [hl] at r
    have I := isf c (his c (Nat.lt_of_lt_of_le hc lMt))
    refine ⟨_, ⟨eqO_ok k1, k2, k3⟩, ?_, r⟩
    have I1 := I.cls
    by_cases z : (ggOf cns fls sls pms K).sl c = true
    · rw [if_pos z] at I1 ⊢
      exact I1
    · rw [if_neg z] at I1 ⊢
      refine ⟨I1, fun xs => zip_not ?_⟩
      intro hmem
      have hmem : x ∈ fls.getD c [] := hmem
      rw [List.contains_iff_mem.mpr hmem] at q2
      cases q2
  · obtain ⟨hc, q⟩ := allT_ok dMt (eMt c m' n hm)
    obtain ⟨q1, q⟩ := ba q
    obtain ⟨q2, q⟩ := ba q
    obtain ⟨q3, q⟩ := ba q
    obtain ⟨q4, q5⟩ := ba q
    exact ⟨Option.isNone_iff_eq_none.mp q4, isF_ok q5⟩
  · obtain ⟨hc, q⟩ := allT_ok dF (eF c f i hf)
    obtain ⟨_, kf⟩ := allT_ok cF (eF c f i hf)
    have I1 := (isf c (his c (Nat.lt_of_lt_of_le hc lF))).cls
    rw [getD_some hx] at q kf
    obtain ⟨qi, q⟩ := ba q
    by_cases z : (ggOf cns fls sls pms K).sl c = true
    · rw [if_pos z] at I1 ⊢
      have z : sls.getD c false = true := z
      rw [if_pos z] at kf
      exact ⟨I1, _, slot_ok kf⟩
    · rw [if_neg z] at I1 ⊢
      have z : ¬ sls.getD c false = true := z
      rw [if_neg z] at kf
      have z : sls.getD c false = false := by simpa using z
      rw [z, Bool.false_or] at q
      obtain ⟨q1, q⟩ := ba q
      obtain ⟨q2, q3⟩ := ba q
      exact ⟨I1, eqO_ok kf, fun xs v hv => zip_at (of_decide_eq_true q2) (of_decide_eq_true q1) hv⟩
  · obtain ⟨hc, q⟩ := allT_ok dF (eF c f i hf)
    obtain ⟨_, kf⟩ := allT_ok cF (eF c f i hf)
    have I1 := (isf c (his c (Nat.lt_of_lt_of_le hc lF))).cls
    rw [getD_some hx] at q kf
    obtain ⟨qi, q⟩ := ba q
    by_cases z : (ggOf cns fls sls pms K).sl c = true
    · rw [if_pos z] at I1 ⊢
      have z : sls.getD c false = true := z
      rw [if_pos z] at kf
      refine ⟨I1, ⟨_, slot_ok kf⟩, fun j hj hz => ?_⟩
      have h1 := List.all_eq_true.mp qi j (List.mem_range.mpr hj)
      have hz : pmOf pms c j = pmOf pms c i := hz
      rw [hz] at h1
      have h2 : Nat.beq (pmOf pms c i) (pmOf pms c i) = true := Nat.beq_refl _
      rw [h2] at h1
      cases h1
    · rw [if_neg z] at I1 ⊢
      have z : ¬ sls.getD c false = true := z
      rw [if_neg z] at kf
      have z : sls.getD c false = false := by simpa using z
      rw [z, Bool.false_or] at q
      obtain ⟨q1, q⟩ := ba q
      obtain ⟨q2, q3⟩ := ba q
      exact ⟨I1, eqO_ok kf, of_decide_eq_true q3, fun xs v hl => zip_put (of_decide_eq_true q2) (by rw [hl]; exact of_decide_eq_true q1)⟩
  · obtain ⟨e1, e2, _⟩ := mk t ht
    rw [e1]
    exact hg _ e2
theorem dnf_ok (cD : operB cns dns K = true) (dD : dnsB cns ats T m dns = true) (eD : ∀ c d n, (P.cls c).dn d = some n → (dns.getD c []).lookup d = some n)
    (ih : ∀ n, n < m → FnR prog w K mg base (L2.CX prog w) k (adOf K ats n) (spOf (ggOf cns fls sls pms K) φ T n)) : DnF prog w K mg base (ggOf cns fls sls pms K) φ P k := by
  have fn : ∀ c d n, PySem.W.isFn K (.ref (ma K (ga K (cnd cns c)) (dnN d))) = true → (P.cls c).dn d = some n → FnR prog w K mg base (L2.CX prog w) k (ma K (ga K (cnd cns c)) (dnN d)) (spP (ggOf cns fls sls pms K) φ .F n) := fun c d n hfn h => by
    obtain ⟨hc, q⟩ := allT_ok dD (eD c d n h)
    obtain ⟨q1, q⟩ := ba q
    obtain ⟨q2, q⟩ := ba q
    obtain ⟨q3, q4⟩ := ba q
    have r := ih n (of_decide_eq_true q2)
    rw [ad_at (of_decide_eq_true q1), fA_isFn hfn] at r
    unfold spOf at r
    rw [Option.isNone_iff_eq_none.mp q3, isF_ok q4] at r
    exact r
  refine ⟨rfl, fun c o d n ho h => ?_, fun c o d n ho h => ?_, fun c n h => ?_, fun c n h => ?_⟩
  · obtain ⟨hc, q⟩ := allT_ok cD (eD c d n h)
    rw [fwd_dn ho] at q
    have q : binB cns K c o = true := q
    have en : PySem.dunder (bop o).info.2 = dnN d := by cases o <;> cases ho <;> decide +kernel
    obtain ⟨k1, k⟩ := ba q
    obtain ⟨k2, k⟩ := ba k
    obtain ⟨k3, k⟩ := ba k
    obtain ⟨k4, k⟩ := ba k
    obtain ⟨k5, k6⟩ := ba k
    obtain ⟨fo, e4⟩ := some_ok k4
    obtain ⟨ro, e5⟩ := some_ok k5
    rcases hf : PySem.W.findIn K (.ref (ga K (cnd cns c))) (PySem.dunder (bop o).info.2) with _ | v
    · rw [hf] at k1; cases k1
    · cases v with
      | none => rw [hf] at k1; cases k1
      | some v =>
        cases v with
        | ref f =>
          rw [hf] at k1
          obtain ⟨k1, k1'⟩ := ba k1
          have ef : f = ma K (ga K (cnd cns c)) (PySem.dunder (bop o).info.2) := of_decide_eq_true k1
          rcases hr : PySem.W.findIn K (.ref (ga K (cnd cns c))) (dunderR (bop o).info.2) with _ | rc
          · rw [hr] at k3; cases k3
          · rw [hr] at k3
            refine ⟨f, fo, ro, rc, hf, k1', k2, hr, isRef_ok k3, e4, e5, of_decide_eq_true k6, ?_⟩
            rw [ef, en] at k1' ⊢
            exact fn c d n k1' h
        | _ => rw [hf] at k1; cases k1
  · obtain ⟨hc, q⟩ := allT_ok cD (eD c d n h)
    have e0 : dnO d = none := by cases o <;> cases ho <;> rfl
    rw [e0, rev_dn ho] at q
    have q : rbinB cns K c o = true := q
    have en : dunderR (bop o).info.2 = dnN d := by cases o <;> cases ho <;> decide +kernel
    obtain ⟨k1, k⟩ := ba q
    obtain ⟨k2, k⟩ := ba k
    obtain ⟨k3, k⟩ := ba k
    obtain ⟨k4, k5⟩ := ba k
    refine ⟨_, _, eqO_ok k1, k2, eqO_ok k3, k4, of_decide_eq_true k5, ?_⟩
    rw [en] at k4 ⊢
    exact fn c d n k4 h
  · obtain ⟨hc, q⟩ := allT_ok cD (eD c .eq n h)
    have q : eqB2 cns K c = true := q
    obtain ⟨k1, k⟩ := ba q
    obtain ⟨k2, k⟩ := ba k
    obtain ⟨k7, k⟩ := ba k
    obtain ⟨k8, k3⟩ := ba k
    obtain ⟨k4, k5⟩ := ba k1
    obtain ⟨k5, k6⟩ := ba k5
    refine ⟨_, eqO_ok k4, k5, k2, fun d => ?_, k7, k8, fn c .eq n k5 h⟩
    by_cases hd : d < cns.length + 1
    · exact List.all_eq_true.mp k3 d (List.mem_range.mpr hd)
    · have q := List.all_eq_true.mp k3 0 (List.mem_range.mpr (Nat.succ_pos _))
      have e1 : cnd cns d = cnd cns 0 := by
        unfold cnd
        rw [List.getD_eq_getElem?_getD, List.getElem?_eq_none (by omega)]
        cases cns <;> rfl
      show PySem.W.notFirst K _ (.ref (ga K (cnd cns d))) = true
      rw [e1]
      exact q
  · obtain ⟨hc, q⟩ := allT_ok cD (eD c .neg n h)
    have q : (Fa.meth (cnd cns c) "__neg__").ok K = true := q
    obtain ⟨k1, k⟩ := ba q
    obtain ⟨k2, k3⟩ := ba k
    exact ⟨_, eqO_ok k1, k2, fn c .neg n k2 h⟩
end
section
variable {prog : Program} {w : World} {K : PySem.W.Frag} {mg : Str → Option Value} {base : Heap} {g : G} {P : Pt} {T : Nat → Fc}
/-- a def with defaults, called with some of them: app stands for what is left out -/
theorem fn_stepD {n m r : Nat} {x qual : Str} {params : Arguments} {body : List Stmt} {scope : Scope} {dvs dv : List V} {app : List D} {f : Addr} {fd : FuncData} {N ps : List Str} {l : List (Nat × Nat)}
    (F : FunD K x qual params body scope dvs [] f fd) (hb : ∃ ds, Vals dv ds ∧ Binds K fd ps ds) (S : FnScope N ps scope) (ok : TyOk (T m) l N ps) (hl : (T m).lent = none) (ha : (T m).app = []) (hT : T n = { T m with app := app }) (hd : ∀ F, DenL g F app dv)
    (b : ∀ (cdv : Value) (A : Around) (outer : List Env) (s : Shared) (H : Hp) (E : XK), Room (3 * r + 2) (A.deeper (envOfC qual scope s.heap.objs.size f cdv)) → PSs (cxOf (L2.CX prog w) prog w K mg base N qual scope f cdv A outer s H E) body (tSs g (phiAt T P r) P ⟨l, [], []⟩ (fun c dd _ H' => E c dd H') (T m).ret (T m).body)) :
    FnR prog w K mg base (L2.CX prog w) (3 * (r + 1)) f (spOf g (phiAt T P (r + 1)) T n) := by
  obtain ⟨ds, hv, hb⟩ := hb
  have h := (fn_plain (k := 3 * r + 2) (φ := phiAt T P r) (φ1 := phiAt T P (r + 1)) F S ok hl (fun ds => by show runF _ _ _ (ds ++ (T m).app) = _; rw [ha, List.append_nil]) b).raw hb hv
  exact (h.mono (by omega)).imp fun vs H Q E q => sp_dfl hT ha hd q
theorem fn_stepLD {n m r p d : Nat} {x qual : Str} {params : Arguments} {body : List Stmt} {scope : Scope} {dvs dv : List V} {app : List D} {f : Addr} {fd : FuncData} {N ps : List Str} {l : List (Nat × Nat)}
    (F : FunD K x qual params body scope dvs [] f fd) (hb : ∃ ds, Vals dv ds ∧ Binds K fd ps ds) (S : FnScope N ps scope) (ok : TyOk (T m) l N ps) (hl : (T m).lent = some (p, d)) (ha : (T m).app = []) (hT : T n = { T m with app := app }) (hd : ∀ F, DenL g F app dv)
    (b : ∀ (v : V) (cdv : Value) (A : Around) (outer : List Env) (s : Shared) (H : Hp) (E : XK), Room (3 * r + 2) (A.deeper (envOfC qual scope s.heap.objs.size f cdv)) → PSs (cxOf (L2.CX prog w) prog w K mg base N qual scope f cdv A outer s H E) body (tSs g (phiAt T P r) P ⟨l, [(p, v)], []⟩ (fun c dd _ H' => E c dd H') (T m).ret (T m).body)) :
    FnR prog w K mg base (L2.CX prog w) (3 * (r + 1)) f (spOf g (phiAt T P (r + 1)) T n) := by
  obtain ⟨ds, hv, hb⟩ := hb
  have h := (fn_lent (k := 3 * r + 2) (φ := phiAt T P r) (φ1 := phiAt T P (r + 1)) F S ok hl (fun ds => by show runF _ _ _ (ds ++ (T m).app) = _; rw [ha, List.append_nil]) b).raw hb hv
  exact (h.mono (by omega)).imp fun vs H Q E q => sp_dfl hT ha hd q
end
end Ev
set_option Elab.async false
set_option linter.all false
set_option maxRecDepth 100000
set_option maxHeartbeats 1000000
/-! Ev32: calls of static methods by the class' name -/
namespace Ev
open PySem L2 PySem.Spec PyProof.Rows He

/-- a static method, reached by its class -/
structure StM (K : PySem.W.Frag) (C p f : Addr) (m : Str) : Prop where
  rd : PySem.W.readsIn K C (.type "type") = true
  ga : PySem.W.specialIn K (.ref C) "__getattribute__" = some (some (.builtin "type.__getattribute__"))
  at_ : PySem.W.findCls K (.ref C) (.type "type") m = some (.get (.builtin "staticmethod.__get__") (.ref p) .none (.ref C))
  rc : ∃ rest, PySem.W.recIn K p "staticmethod" = some (.ref f :: rest)
  kp : PySem.W.keepIn K (.ref f) = true
structure TabM (prog : Program) (w : World) (K : PySem.W.Frag) (mg : Str → Option Value) (base : Heap) (g : G) (φ : Phi) (T : Nat → Fc) (sms : List (Str × Str × Nat)) (k : Nat) : Prop where
  st : ∀ t ∈ sms, ∃ C p f, mg t.1 = some (.ref C) ∧ StM K C p f t.2.1 ∧ (T t.2.2).lent = none ∧ FnR prog w K mg base (L2.CX prog w) k f (spP g φ (T t.2.2).ret t.2.2)
section
variable {g : G} {φ : Phi} {P : Pt} {ty : Sls} {W : WX} {X : Cx} {kd : Kd} {xb : Expr} {pos p2 p3 apos : Pos} {l : Es} {es : List Expr} {T : Nat → Fc} {sms : List (Str × Str × Nat)} {k : Nat}
theorem t_static (B : TabM X.prog X.w X.K X.mg X.base g φ T sms k) (hr : Room k X.A) (tk : Takes X W) (x ms : Str) (n : Nat) (hx : (x, ms, n) ∈ sms) (hk : (T n).ret = kd) (hg : Gl X x) (hd : (x == ("__debug__" : Str)) = false) (ha : PA X es (tEs g φ P ty W l)) (hn : es = [] → l = .nil) (hs : es.all notStar = true) (hl : es.length < 30)
    (hp : (apos.endLine == pos.line) = true) : PE X (.Call (.Attribute (.Name x p3) ms apos) es [] pos) (tE g φ P ty W kd (.call n l)) := by
  obtain ⟨C, p, f, hm, S, _, R⟩ := B.st _ hx
  dsimp only at hm S R
  rw [hk] at R
  refine ⟨fun pins s σ H Q I ⟨e, F, fp, N, h⟩ => ?_⟩
  rw [ev, pureE] at h
  have q : tEs g φ P ty W l σ H fun vs H2 => spP g φ kd n vs H2 Q (WE W σ) :=
    ⟨e, F, fp, N, Post.bindL h (fun z => z) fun ds e1 xs H1 F1 fp1 _ h1 t1 n1 r1 => call_ans n1 r1 (Post.shift (pa := pureEs l) (by rw [Bool.and_true]; exact h1) t1)⟩
  refine PySem.W.methodCall_KW (pl := plainOf (.Name x p3) X.env) (thn ((pe_glob (v := .ref C) hg hm rfl hd).run pins s σ H (fun y H1 => y = .ref C ∧ tEs g φ P ty W l σ H1 fun vs H2 => spP g φ kd n vs H2 Q (WE W σ)) I ⟨rfl, q⟩) fun u s1 ⟨y, H1, I1, ry, ey, q1⟩ => ?_) (meth_eval rfl hs hl hp)
  subst ey
  obtain rfl : u = Value.ref C := ry
  obtain ⟨rest, hrc⟩ := S.rc
  refine PySem.W.method_cls I1.kIn S.ga (PySem.W.cls_bind I1.kIn S.rd S.at_ (wpAny_call (PySem.W.sm_get (s := { s1 with toks := s1.toks + 1 }) I1.kIn hrc (PySem.W.handed_on rfl ?_))))
  have I2 := I1.tok (s1.toks + 1)
  rcases star_head (env := X.env) hs with z | ⟨y, ys, z, h1, h2⟩
  · subst z
    refine PySem.W.callWith_K0 (first := []) I2.kIn S.kp (wpAny_call (run_fnRS (us := []) (vs := []) R hr (passAt tk σ) I2 .nil ?_))
    rw [hn rfl] at q1
    exact tEs_nil q1
  · subst z
    refine PySem.W.callWith_K (first := []) (h₀ := X.base) I.ok.mod.kin S.kp (thn (ha.run pos pins _ σ H1 _ I2 q1) fun us s2 ⟨vs, H2, I3, r, q2⟩ => ⟨I3.kIn, ?_⟩) h1 (star_any h2)
    exact wpAny_call (run_fnRS (us := us) (vs := vs) R hr (passAt tk σ) I3 r q2)
end
/-! ### out of the written part -/
def smsB (sms : List (Str × Str × Nat)) : Fx := fun K => sms.all fun t => He5.wrapB K (ga K t.1) "staticmethod" "staticmethod.__get__" t.2.1 && (PySem.W.readsIn K (ga K t.1) (.type "type") && (eqO (PySem.W.specialIn K (.ref (ga K t.1)) "__getattribute__") (some (some (.builtin "type.__getattribute__"))) && PySem.W.keepIn K (.ref (fA K (t.1, some t.2.1)))))
def smsD (ats : List (Str × Option Str)) (glos : List Str) (T : Nat → Fc) (m : Nat) (sms : List (Str × Str × Nat)) : Bool := sms.all fun t => decide (ats[t.2.2]? = some (t.1, some t.2.1)) && (glos.contains t.1 && (decide (t.2.2 < m) && (T t.2.2).lent.isNone))
theorem fA_st {K : PySem.W.Frag} {x m : Str} {rest : List Value} {f : Addr} (h : PySem.W.recIn K (ma K (ga K x) m) "staticmethod" = some (.ref f :: rest)) : fA K (x, some m) = f := by
  show unw K (ma K (ga K x) m) = f
  unfold unw
  rw [h]
section
variable {prog : Program} {w : World} {K : PySem.W.Frag} {mg : Str → Option Value} {base : Heap} {g : G} {T : Nat → Fc} {φ : Phi} {glos : List Str} {ats : List (Str × Option Str)} {sms : List (Str × Str × Nat)} {k m : Nat}
theorem tabM_ok (hg : ∀ x ∈ glos, mg x = some (.ref (ga K x))) (c : smsB sms K = true) (d : smsD ats glos T m sms = true) (ih : ∀ n, n < m → FnR prog w K mg base (L2.CX prog w) k (adOf K ats n) (spOf g φ T n)) : TabM prog w K mg base g φ T sms k := by
  refine ⟨fun t ht => ?_⟩
  obtain ⟨c1, c2⟩ := ba (List.all_eq_true.mp c t ht)
  obtain ⟨c2, c3⟩ := ba c2
  obtain ⟨c3, c4⟩ := ba c3
  obtain ⟨d1, d2⟩ := ba (List.all_eq_true.mp d t ht)
  obtain ⟨d2, d3⟩ := ba d2
  obtain ⟨d3, d4⟩ := ba d3
  obtain ⟨w1, rest, w2⟩ := He5.wrapB_ok c1
  have e := fA_st w2
  have r := ih _ (of_decide_eq_true d3)
  rw [ad_at (of_decide_eq_true d1), e] at r
  unfold spOf at r
  have hl := Option.isNone_iff_eq_none.mp d4
  rw [hl] at r
  rw [e] at c4
  exact ⟨_, _, _, hg _ (List.contains_iff_mem.mp d2), ⟨c2, eqO_ok c3, w1, ⟨rest, w2⟩, c4⟩, hl, r⟩
end
end Ev
set_option Elab.async false
set_option linter.all false
set_option maxRecDepth 100000
set_option maxHeartbeats 4000000
/-! Ev33: Euclid's way, in plain Lean: the program's divisor and the laws' own -/
namespace Ev
open PySem L2 PySem.Spec PyProof.Rows

def euT : E := .cmp .ne (.v 1) (.int 0)
def euB : Ss := .cons (.par (0, []) (1, []) (.v 1) (.bin .mod (.v 0) (.v 1))) .nil
def euS (a b : Nat) : Nv := [some (.int (a : Int)), some (.int (b : Int))]
section
variable {φ : Phi} {P : Pt}
theorem eu_tst (a b : Nat) : ev φ P euT (euS a b) = .ok (.bl (!(b == 0))) (euS a b) := by
  have h : ((b : Int) == 0) = (b == 0) := by
    by_cases z : b = 0
    · subst z; rfl
    · have z2 : ¬ ((b : Int) = 0) := by omega
      rw [beq_eq_false_iff_ne.mpr z2, beq_eq_false_iff_ne.mpr z]
  simp [euT, euS, ev, RE.bind, gt, opCmp, eqI, RV.re, h]
theorem eu_body (a b : Nat) (hb : b ≠ 0) : evSs φ P euB (euS a b) = .nx (euS b (a % b)) := by
  have h : ¬ ((b : Int) = 0) := by omega
  have e : ((a : Int)).fmod (b : Int) = ((a % b : Nat) : Int) := by
    rw [Int.fmod_eq_emod_of_nonneg _ (by omega)]
    rfl
  simp [euB, euS, evSs, evS, ev, RE.bind, RE.o, gt, opBin, binInt, RV.re, h, hb, e, stN, kill, st]
theorem whl_go {t : Nv → RE D} {body : Nv → O} {n : Nat} {e e1 e2 : Nv} (h : t e = .ok (.bl true) e1) (k : body e1 = .nx e2) : whlRun t body (n + 1) e = whlRun t body n e2 := by
  rw [whlRun, h]
  dsimp only [RE.o, tru]
  rw [k]
theorem whl_end {t : Nv → RE D} {body : Nv → O} {n : Nat} {e e1 : Nv} (h : t e = .ok (.bl false) e1) : whlRun t body (n + 1) e = .nx e1 := by
  rw [whlRun, h]
  rfl
theorem eu_run : ∀ (n a b k : Nat), b < 2 ^ n → whlRun (ev φ P euT) (evSs φ P euB) (2 * n + 1 + k) (euS a b) = .nx (euS (a.gcd b) 0)
  | 0, a, b, k, h => by
    have hb : b = 0 := by simpa using h
    subst hb
    rw [show 2 * 0 + 1 + k = k + 1 by omega, whl_end (eu_tst a 0), Nat.gcd_zero_right]
  | n + 1, a, b, k, h => by
    by_cases hb : b = 0
    · subst hb
      rw [show 2 * (n + 1) + 1 + k = (2 * n + 2 + k) + 1 by omega, whl_end (eu_tst a 0), Nat.gcd_zero_right]
    · have t1 : ev φ P euT (euS a b) = .ok (.bl true) (euS a b) := by rw [eu_tst]; simp [hb]
      rw [show 2 * (n + 1) + 1 + k = (2 * n + 1 + k) + 1 + 1 by omega, whl_go t1 (eu_body a b hb)]
      by_cases hc : a % b = 0
      · rw [hc, whl_end (eu_tst b 0), Nat.gcd_comm a b, Nat.gcd_rec b a, hc, Nat.gcd_zero_left]
      · have t2 : ev φ P euT (euS b (a % b)) = .ok (.bl true) (euS b (a % b)) := by rw [eu_tst]; simp [hc]
        have hlt : a % b < b := Nat.mod_lt _ (Nat.pos_of_ne_zero hb)
        have hm : b % (a % b) < 2 ^ n := by
          have h1 : b % (a % b) < a % b := Nat.mod_lt _ (Nat.pos_of_ne_zero hc)
          have h2 : b % (a % b) + a % b ≤ b := by
            have h3 := Nat.div_add_mod b (a % b)
            have h4 : 1 ≤ b / (a % b) := (Nat.one_le_div_iff (Nat.pos_of_ne_zero hc)).mpr (Nat.le_of_lt hlt)
            have h5 : (a % b) * 1 ≤ (a % b) * (b / (a % b)) := Nat.mul_le_mul_left _ h4
            omega
          have h6 : 2 ^ (n + 1) = 2 * 2 ^ n := by rw [Nat.pow_succ]; omega
          omega
        rw [whl_go t2 (eu_body b (a % b) hc), eu_run n (a % b) (b % (a % b)) k hm]
        have e : (a % b).gcd (b % (a % b)) = a.gcd b := by
          rw [Nat.gcd_comm, ← Nat.gcd_rec, Nat.gcd_comm a b, Nat.gcd_rec b a]
        rw [e]
theorem abs_int (i : Int) : opBi .abs [.int i] = .ok (.int (i.natAbs : Nat)) := by
  show RV.ok (.int (if i < 0 then -i else i)) = _
  by_cases h : i < 0
  · rw [if_pos h]
    congr 2
    omega
  · rw [if_neg h]
    congr 2
    omega
def divF : Fc := ⟨2, 2, (.cons (.par (0, []) (1, []) (.bi .abs (.cons (.v 0) .nil)) (.bi .abs (.cons (.v 1) .nil))) (.cons (.whl 4000 (.cmp .ne (.v 1) (.int 0)) (.cons (.par (0, []) (1, []) (.v 1) (.bin .mod (.v 0) (.v 1))) .nil)) (.cons (.ret (.v 0)) .nil))), .F, none, []⟩
/-- the program's divisor -/
theorem div_ok (a b : Int) (h : b.natAbs < 2 ^ 1999) : runF φ P divF [.int a, .int b] = .ok (.int (a.gcd b : Nat)) .non := by
  have A : evS φ P (.par (0, []) (1, []) (.bi .abs (.cons (.v 0) .nil)) (.bi .abs (.cons (.v 1) .nil))) [some (.int a), some (.int b)] = .nx (euS a.natAbs b.natAbs) := by
    simp [evS, ev, evs, RE.bind, RE.o, gt, abs_int, RV.re, stN, kill, st, euS]
  have e1 : whlRun (ev φ P euT) (evSs φ P euB) 4000 (euS a.natAbs b.natAbs) = .nx (euS (a.natAbs.gcd b.natAbs) 0) := eu_run 1999 a.natAbs b.natAbs 1 h
  unfold runF
  rw [if_pos (show [D.int a, D.int b].length = divF.ar from rfl)]
  show fin0 true (evSs φ P (.cons (.par (0, []) (1, []) (.bi .abs (.cons (.v 0) .nil)) (.bi .abs (.cons (.v 1) .nil))) (.cons (.whl 4000 euT euB) (.cons (.ret (.v 0)) .nil))) [some (.int a), some (.int b)]) = _
  rw [evSs, A]
  dsimp only
  rw [evSs, evS, e1]
  rfl
theorem for_go {tg : Tg} {body : Nv → O} {d : D} {r : List D} {e e1 e2 : Nv} (h : stT tg d e = some e1) (k : body e1 = .nx e2) : forRun tg body (d :: r) e = forRun tg body r e2 := by
  rw [forRun, h]
  dsimp only
  rw [k]
/-! ### the laws' own divisor -/
def lvB : Ss := .cons (.iff (.cmp .gt (.v 1) (.int 0)) (.cons (.asg (.name (3, [])) (.bin .mod (.bi .int (.cons (.v 0) .nil)) (.v 1))) (.cons (.asg (.name (0, [])) (.v 1)) (.cons (.asg (.name (1, [])) (.v 3)) .nil))) .nil) .nil
def lvS (a b : Nat) (x y : Option D) : Nv := [some (.int (a : Int)), some (.int (b : Int)), x, y]
theorem lv_go (a b : Nat) (x y : Option D) (hb : b ≠ 0) : evSs φ P lvB (lvS a b x y) = .nx (lvS b (a % b) x (some (.int ((a % b : Nat) : Int)))) := by
  have h0 : (0 : Int) < (b : Int) := by omega
  have e : ((a : Int)).fmod (b : Int) = ((a % b : Nat) : Int) := by
    rw [Int.fmod_eq_emod_of_nonneg _ (by omega)]
    rfl
  simp [lvB, lvS, evSs, evS, ev, evs, RE.bind, RE.o, gt, opCmp, ordI, opBi, opBin, binInt, RV.re, tru, h0, hb, e, stT, stN, kill, st, Nat.pos_of_ne_zero hb]
theorem lv_idle (a : Nat) (y : Option D) : ∀ (ds : List D) (x : Option D), ∃ x', forRun (.name (2, [])) (evSs φ P lvB) ds (lvS a 0 x y) = .nx (lvS a 0 x' y)
  | [], x => ⟨x, rfl⟩
  | d :: r, x => by
    obtain ⟨x', h⟩ := lv_idle a y r (some d)
    refine ⟨x', ?_⟩
    have z : evSs φ P lvB (lvS a 0 (some d) y) = .nx (lvS a 0 (some d) y) := by
      simp [lvB, lvS, evSs, evS, ev, RE.bind, RE.o, gt, opCmp, ordI, RV.re, tru]
    exact (for_go (e1 := lvS a 0 (some d) y) rfl z).trans h
theorem lv_turn (d : D) (r : List D) (a b : Nat) (x y : Option D) (hb : b ≠ 0) : forRun (.name (2, [])) (evSs φ P lvB) (d :: r) (lvS a b x y) = forRun (.name (2, [])) (evSs φ P lvB) r (lvS b (a % b) (some d) (some (.int ((a % b : Nat) : Int)))) :=
  for_go (e1 := lvS a b (some d) y) rfl (lv_go a b _ _ hb)
theorem eu_half {a b : Nat} (hb : b ≠ 0) (hc : a % b ≠ 0) {n : Nat} (h : b < 2 ^ (n + 1)) : b % (a % b) < 2 ^ n := by
  have hlt : a % b < b := Nat.mod_lt _ (Nat.pos_of_ne_zero hb)
  have h1 : b % (a % b) < a % b := Nat.mod_lt _ (Nat.pos_of_ne_zero hc)
  have h2 : b % (a % b) + a % b ≤ b := by
    have h3 := Nat.div_add_mod b (a % b)
    have h4 : 1 ≤ b / (a % b) := (Nat.one_le_div_iff (Nat.pos_of_ne_zero hc)).mpr (Nat.le_of_lt hlt)
    have h5 : (a % b) * 1 ≤ (a % b) * (b / (a % b)) := Nat.mul_le_mul_left _ h4
    omega
  have h6 : 2 ^ (n + 1) = 2 * 2 ^ n := by rw [Nat.pow_succ]; omega
  omega
theorem gcd_two (a b : Nat) : (a % b).gcd (b % (a % b)) = a.gcd b := by rw [Nat.gcd_comm, ← Nat.gcd_rec, Nat.gcd_comm a b, Nat.gcd_rec b a]
theorem lv_run : ∀ (n : Nat) (ds : List D) (a b : Nat) (x y : Option D), b < 2 ^ n → 2 * n ≤ ds.length → ∃ x' y', forRun (.name (2, [])) (evSs φ P lvB) ds (lvS a b x y) = .nx (lvS (a.gcd b) 0 x' y')
  | 0, ds, a, b, x, y, h, _ => by
    have hb : b = 0 := by simpa using h
    subst hb
    obtain ⟨x', z⟩ := lv_idle (φ := φ) (P := P) a y ds x
    exact ⟨x', y, by rw [z, Nat.gcd_zero_right]⟩
  | n + 1, ds, a, b, x, y, h, hl => by
    by_cases hb : b = 0
    · subst hb
      obtain ⟨x', z⟩ := lv_idle (φ := φ) (P := P) a y ds x
      exact ⟨x', y, by rw [z, Nat.gcd_zero_right]⟩
    · match ds, hl with
      | d1 :: d2 :: r, hl =>
        rw [lv_turn d1 _ a b x y hb]
        by_cases hc : a % b = 0
        · rw [hc]
          obtain ⟨x', z⟩ := lv_idle (φ := φ) (P := P) b (some (.int ((0 : Nat) : Int))) (d2 :: r) (some d1)
          refine ⟨x', some (.int ((0 : Nat) : Int)), ?_⟩
          rw [z, Nat.gcd_comm a b, Nat.gcd_rec b a, hc, Nat.gcd_zero_left]
        · rw [lv_turn d2 _ b (a % b) _ _ hc]
          obtain ⟨x', y', z⟩ := lv_run n r (a % b) (b % (a % b)) (some d2) (some (.int ((b % (a % b) : Nat) : Int))) (eu_half hb hc h) (by simp only [List.length_cons] at hl; omega)
          exact ⟨x', y', by rw [z, gcd_two]⟩
def ldvF : Fc := ⟨2, 4, (.cons (.asg (.name (0, [])) (.bi .abs (.cons (.v 0) .nil))) (.cons (.asg (.name (1, [])) (.bi .abs (.cons (.v 1) .nil))) (.cons (.forr (.name (2, [])) (.rng1 (.bin .add (.bin .mul (.int 2) (.blen (.v 1))) (.int 2))) (.cons (.iff (.cmp .gt (.v 1) (.int 0)) (.cons (.asg (.name (3, [])) (.bin .mod (.bi .int (.cons (.v 0) .nil)) (.v 1))) (.cons (.asg (.name (0, [])) (.v 1)) (.cons (.asg (.name (1, [])) (.v 3)) .nil))) .nil) .nil)) (.cons (.ret (.v 0)) .nil)))), .F, none, []⟩
theorem bits_lt (b : Nat) : b < 2 ^ Builtin.Int.intBits (b : Int) := by
  unfold Builtin.Int.intBits
  by_cases h : b = 0
  · subst h
    decide
  · have h2 : ((b : Int) == 0) = false := by
      have : ¬ ((b : Int) = 0) := by omega
      simpa using this
    rw [h2]
    show b < 2 ^ ((b : Int).natAbs.log2 + 1)
    rw [Int.natAbs_natCast]
    exact Nat.lt_log2_self
theorem bits_le {b n : Nat} (h : b < 2 ^ n) : Builtin.Int.intBits (b : Int) ≤ n := by
  unfold Builtin.Int.intBits
  by_cases z : b = 0
  · subst z
    exact Nat.zero_le _
  · have h2 : ((b : Int) == 0) = false := by
      have : ¬ ((b : Int) = 0) := by omega
      simpa using this
    rw [h2]
    show (b : Int).natAbs.log2 + 1 ≤ n
    rw [Int.natAbs_natCast]
    exact (Nat.log2_lt z).mpr h
theorem ldv_ok (a b : Int) (h : b.natAbs < 2 ^ 100000) : runF φ P ldvF [.int a, .int b] = .ok (.int (a.gcd b : Nat)) .non := by
  have A1 : evS φ P (.asg (.name (0, [])) (.bi .abs (.cons (.v 0) .nil))) [some (.int a), some (.int b), none, none] = .nx [some (.int (a.natAbs : Nat)), some (.int b), none, none] := by
    simp [evS, ev, evs, RE.bind, RE.o, gt, abs_int, RV.re, stT, stN, kill, st]
  have A2 : evS φ P (.asg (.name (1, [])) (.bi .abs (.cons (.v 1) .nil))) [some (.int (a.natAbs : Nat)), some (.int b), none, none] = .nx (lvS a.natAbs b.natAbs none none) := by
    simp [evS, ev, evs, RE.bind, RE.o, gt, abs_int, RV.re, stT, stN, kill, st, lvS]
  have hb := bits_le h
  generalize hm : Builtin.Int.intBits (b.natAbs : Int) = m at hb
  have hlt : b.natAbs < 2 ^ m := by rw [← hm]; exact bits_lt _
  have k1 : mulOk 2 (m : Int) = true := by
    have := log2_lt (i := (m : Int)) (n := 64) (by rw [Int.natAbs_natCast]; exact Nat.lt_of_le_of_lt hb (by decide)) (by decide)
    have : (2 : Int).natAbs.log2 < 100 := by decide
    unfold mulOk; simp only [decide_eq_true_eq]; omega
  have k2 : rgOk 0 (2 * (m : Int) + 2) = true := by
    unfold rgOk
    simp
    omega
  have g : evi φ P (.rng1 (.bin .add (.bin .mul (.int 2) (.blen (.v 1))) (.int 2))) (lvS a.natAbs b.natAbs none none) = .ok (rgL 0 (2 * (m : Int) + 2)) (lvS a.natAbs b.natAbs none none) := by
    simp [evi, ev, RE.bind, lvS, gt, opBin, binInt, RV.re, hm, k1, k2]
  obtain ⟨x', y', w⟩ := lv_run (φ := φ) (P := P) m (rgL 0 (2 * (m : Int) + 2)) a.natAbs b.natAbs none none hlt (by rw [rgL_len]; omega)
  unfold runF
  rw [if_pos (show [D.int a, D.int b].length = ldvF.ar from rfl)]
  show fin0 true (evSs φ P (.cons (.asg (.name (0, [])) (.bi .abs (.cons (.v 0) .nil))) (.cons (.asg (.name (1, [])) (.bi .abs (.cons (.v 1) .nil))) (.cons (.forr (.name (2, [])) (.rng1 (.bin .add (.bin .mul (.int 2) (.blen (.v 1))) (.int 2))) lvB) (.cons (.ret (.v 0)) .nil)))) [some (.int a), some (.int b), none, none]) = _
  rw [evSs, A1]
  dsimp only
  rw [evSs, A2]
  dsimp only
  rw [forr_ok g w]
  rfl
end
end Ev
set_option Elab.async false
set_option linter.all false
set_option maxRecDepth 100000
set_option maxHeartbeats 4000000
/-! Ev34: lowest terms, in plain Lean: the program's and the laws' own -/
namespace Ev
open PySem L2 PySem.Spec PyProof.Rows

def lowT (a b : Int) : Int := if b < 0 then -(a / (a.gcd b : Nat)) else a / (a.gcd b : Nat)
def lowB (a b : Int) : Int := if b < 0 then -(b / (a.gcd b : Nat)) else b / (a.gcd b : Nat)
theorem gcd_fac (a b : Int) (hb : b ≠ 0) : ∃ (k l : Int), a = (a.gcd b : Nat) * k ∧ b = (a.gcd b : Nat) * l ∧ 0 < a.gcd b ∧ k.gcd l = 1 ∧ l ≠ 0 := by
  obtain ⟨k, hk⟩ := Int.gcd_dvd_left a b
  obtain ⟨l, hl⟩ := Int.gcd_dvd_right a b
  have hg : 0 < a.gcd b := Int.gcd_pos_of_ne_zero_right a hb
  refine ⟨k, l, hk, hl, hg, ?_, ?_⟩
  · have e : a.gcd b = a.gcd b * k.gcd l := by
      have h1 := Int.gcd_mul_left (a.gcd b : Nat) k l
      rw [← hk, ← hl] at h1
      simpa using h1
    have h2 : a.gcd b * 1 = a.gcd b * k.gcd l := by rw [Nat.mul_one]; exact e
    exact (Nat.eq_of_mul_eq_mul_left hg h2).symm
  · intro z
    rw [z, Int.mul_zero] at hl
    exact hb hl
theorem low_vals {a b k l : Int} {g : Nat} (hg : 0 < g) (ha : a = g * k) (hb : b = g * l) (e : a.gcd b = g) : lowT a b = (if b < 0 then -k else k) ∧ lowB a b = (if b < 0 then -l else l) := by
  have h0 : (g : Int) ≠ 0 := by omega
  unfold lowT lowB
  rw [e]
  have e1 : a / (g : Int) = k := by rw [ha]; exact Int.mul_ediv_cancel_left _ h0
  have e2 : b / (g : Int) = l := by rw [hb]; exact Int.mul_ediv_cancel_left _ h0
  rw [e1, e2]
  exact ⟨rfl, rfl⟩
/-- what lowest terms are -/
theorem low_spec (a b : Int) (hb : b ≠ 0) : 0 < lowB a b ∧ (lowT a b).gcd (lowB a b) = 1 ∧ a * lowB a b = lowT a b * b := by
  obtain ⟨k, l, h1, h2, h3, h4, h5⟩ := gcd_fac a b hb
  obtain ⟨e1, e2⟩ := low_vals h3 h1 h2 rfl
  rw [e1, e2]
  generalize hg : a.gcd b = g at h1 h2 h3
  have hs : b < 0 ↔ l < 0 := by
    rw [h2]
    constructor
    · intro h
      apply Classical.byContradiction
      intro z
      have : 0 ≤ (g : Int) * l := Int.mul_nonneg (by omega) (by omega)
      omega
    · intro h
      have := Int.mul_pos (show (0 : Int) < g by omega) (show 0 < -l by omega)
      rw [Int.mul_neg] at this
      omega
  have hx : a * l = k * b := by
    rw [h1, h2, Int.mul_assoc, Int.mul_left_comm k]
  by_cases z : b < 0
  · rw [if_pos z, if_pos z]
    refine ⟨by have := hs.mp z; omega, ?_, ?_⟩
    · rw [Int.gcd_neg, Int.neg_gcd]; exact h4
    · rw [Int.mul_neg, Int.neg_mul, hx]
  · rw [if_neg z, if_neg z]
    refine ⟨?_, h4, hx⟩
    have : ¬ l < 0 := fun h => z (hs.mpr h)
    omega
def lowF (n : Nat) : Fc := ⟨2, 3, (.cons (.asg (.name (2, [])) (.call n (.cons (.v 0) (.cons (.v 1) .nil)))) (.cons (.iff (.cmp .lt (.v 1) (.int 0)) (.cons (.asg (.name (2, [])) (.neg (.v 2))) .nil) .nil) (.cons (.ret (.tup (.cons (.bin .fdiv (.v 0) (.v 2)) (.cons (.bin .fdiv (.v 1) (.v 2)) .nil)))) .nil))), .F, none, []⟩
def llwF (n : Nat) : Fc := ⟨2, 3, (.cons (.iff (.cmp .lt (.v 1) (.int 0)) (.cons (.asg (.name (0, [])) (.neg (.v 0))) (.cons (.asg (.name (1, [])) (.neg (.v 1))) .nil)) .nil) (.cons (.asg (.name (2, [])) (.call n (.cons (.v 0) (.cons (.v 1) .nil)))) (.cons (.ret (.tup (.cons (.bin .fdiv (.v 0) (.v 2)) (.cons (.bin .fdiv (.v 1) (.v 2)) .nil)))) .nil))), .F, none, []⟩
theorem divOk_of {g : Int} (h0 : g ≠ 0) (h : g.natAbs < 2 ^ 1999) : divOk g = true := by
  have := log2_lt h (by decide)
  unfold divOk
  simp only [Bool.and_eq_true, bne_iff_ne, ne_eq, decide_eq_true_eq]
  exact ⟨h0, by omega⟩
section
variable {φ : Phi} {P : Pt}
theorem low_ok {a b : Int} {n : Nat} {o : D} (hb : b ≠ 0) (hs : b.natAbs < 2 ^ 1999) (h : φ n [.int a, .int b] = .ok (.int (a.gcd b : Nat)) o) : runF φ P (lowF n) [.int a, .int b] = .ok (.tup [.int (lowT a b), .int (lowB a b)]) .non := by
  obtain ⟨k, l, h1, h2, h3, h4, h5⟩ := gcd_fac a b hb
  obtain ⟨e1, e2⟩ := low_vals h3 h1 h2 rfl
  have hle : a.gcd b ≤ b.natAbs := Nat.le_of_dvd (Int.natAbs_pos.mpr hb) (Int.gcd_dvd_natAbs_right a b)
  rw [e1, e2]
  generalize hg : a.gcd b = g at h h1 h2 h3 hle
  have g0 : (g : Int) ≠ 0 := by omega
  have f1 : a.fdiv (g : Int) = k := by rw [h1]; exact Int.mul_fdiv_cancel_left _ g0
  have f2 : b.fdiv (g : Int) = l := by rw [h2]; exact Int.mul_fdiv_cancel_left _ g0
  have f3 : a.fdiv (-(g : Int)) = -k := by
    rw [show a = -(g : Int) * -k by rw [h1, Int.neg_mul_neg]]
    exact Int.mul_fdiv_cancel_left _ (by omega)
  have f4 : b.fdiv (-(g : Int)) = -l := by
    rw [show b = -(g : Int) * -l by rw [h2, Int.neg_mul_neg]]
    exact Int.mul_fdiv_cancel_left _ (by omega)
  have d1 : divOk (g : Int) = true := divOk_of g0 (by rw [Int.natAbs_natCast]; omega)
  have d2 : divOk (-(g : Int)) = true := divOk_of (by omega) (by rw [Int.natAbs_neg, Int.natAbs_natCast]; omega)
  have hz2 : (2 : Nat) ≤ sizeLine := by rw [sizeLine_eq]; decide
  unfold runF
  rw [if_pos (show [D.int a, D.int b].length = (lowF n).ar from rfl)]
  by_cases z : b < 0
  · simp [lowF, ini, evSs, evS, ev, evs, RE.bind, RE.o, gt, h, RF.val, RV.re, stT, stN, kill, st, opCmp, ordI, z, tru, opBin, binInt, d2, f3, f4, fin0, hz2, List.replicate]
  · simp [lowF, ini, evSs, evS, ev, evs, RE.bind, RE.o, gt, h, RF.val, RV.re, stT, stN, kill, st, opCmp, ordI, z, tru, opBin, binInt, d1, f1, f2, fin0, hz2, List.replicate]
theorem llw_ok {a b : Int} {n : Nat} (hb : b ≠ 0) (hs : b.natAbs < 2 ^ 1999) (h : ∀ a b : Int, b.natAbs < 2 ^ 1999 → φ n [.int a, .int b] = .ok (.int (a.gcd b : Nat)) .non) : runF φ P (llwF n) [.int a, .int b] = .ok (.tup [.int (lowT a b), .int (lowB a b)]) .non := by
  obtain ⟨k, l, h1, h2, h3, h4, h5⟩ := gcd_fac a b hb
  obtain ⟨e1, e2⟩ := low_vals h3 h1 h2 rfl
  have hle : a.gcd b ≤ b.natAbs := Nat.le_of_dvd (Int.natAbs_pos.mpr hb) (Int.gcd_dvd_natAbs_right a b)
  have hp := h a b hs
  have hn := h (-a) (-b) (by rw [Int.natAbs_neg]; exact hs)
  rw [Int.gcd_neg, Int.neg_gcd] at hn
  rw [e1, e2]
  generalize hg : a.gcd b = g at hp hn h1 h2 h3 hle
  have g0 : (g : Int) ≠ 0 := by omega
  have f1 : a.fdiv (g : Int) = k := by rw [h1]; exact Int.mul_fdiv_cancel_left _ g0
  have f2 : b.fdiv (g : Int) = l := by rw [h2]; exact Int.mul_fdiv_cancel_left _ g0
  have f3 : (-a).fdiv (g : Int) = -k := by
    rw [show -a = (g : Int) * -k by rw [h1, Int.mul_neg]]
    exact Int.mul_fdiv_cancel_left _ g0
  have f4 : (-b).fdiv (g : Int) = -l := by
    rw [show -b = (g : Int) * -l by rw [h2, Int.mul_neg]]
    exact Int.mul_fdiv_cancel_left _ g0
  have d1 : divOk (g : Int) = true := divOk_of g0 (by rw [Int.natAbs_natCast]; omega)
  have hz2 : (2 : Nat) ≤ sizeLine := by rw [sizeLine_eq]; decide
  unfold runF
  rw [if_pos (show [D.int a, D.int b].length = (llwF n).ar from rfl)]
  by_cases z : b < 0
  · simp [llwF, ini, evSs, evS, ev, evs, RE.bind, RE.o, gt, hn, RF.val, RV.re, stT, stN, kill, st, opCmp, ordI, z, tru, opBin, binInt, d1, f3, f4, fin0, hz2, List.replicate]
  · simp [llwF, ini, evSs, evS, ev, evs, RE.bind, RE.o, gt, hp, RF.val, RV.re, stT, stN, kill, st, opCmp, ordI, z, tru, opBin, binInt, d1, f1, f2, fin0, hz2, List.replicate]
end
end Ev
set_option Elab.async false
set_option linter.all false
set_option maxRecDepth 100000
set_option maxHeartbeats 1000000
/-! Ev35: bool(x) of an instance with __bool__ -/
namespace Ev
open PySem L2 PySem.Spec PyProof.Rows He

section
variable {prog : Program} {w : World} {A : Around} {E : Value → Shared → Prop} {s : Shared}
theorem new_boolOwn (x : Addr) : MeetsIn prog w (Builtin.«bool.__new__» ⟨[.type "bool", .ref x], []⟩) (fun A R s => wpAny (model prog w) A.in1 (truthy (.ref x)) (fun b s1 => R (.ok (.ret (.bool b))) s1) (fun e s1 => R (.error e) s1) s) :=
  .of_wp fun A R s hs => by
    obtain ⟨hp, g, d, tk, os⟩ := s
    have f1 := F.conv_sub_bool
    repeat (any_goals (first | assumption | (with_reducible refine wpAny_bind (wpAny_mono hs (fun b s1 hR => wpAny_pure ⟨_, rfl, hR⟩) fun _ _ z => z)) | wp_step))
theorem call_boolOwn {x : Addr} {Q : Value → Shared → Prop} (h : wpAny (model prog w) A.in1.in1 (truthy (.ref x)) (fun b s' => Q (.bool b) s') E s) : wpAny (model prog w) A (call (.type "bool") [.ref x]) Q E s :=
  callType_newIn F.called_bool F.newNe_bool (F.typeCall_bool_1 _) (F.newCall_bool_1 _) (fun obj => F.args_object_init_2 obj _) F.entry_bool_new (new_boolOwn x) (wpAny_mono h (fun b s' q => ⟨rfl, q⟩) fun _ _ z => z)
end
/-- own __bool__ -/
structure DnB (prog : Program) (w : World) (K : PySem.W.Frag) (mg : Str → Option Value) (base : Heap) (g : G) (φ : Phi) (P : Pt) (k : Nat) : Prop where
  bool : ∀ (c n : Nat), (P.cls c).dn .bool = some n → ∃ f : Addr, PySem.W.findIn K (.ref (g.cl c)) "__bool__" = some (some (.ref f)) ∧ PySem.W.isFn K (.ref f) = true ∧ FnR prog w K mg base (L2.CX prog w) k f (spP g φ .F n)
section
variable {g : G} {φ : Phi} {P : Pt} {ty : Sls} {W : WX} {X : Cx} {a : E} {xa : Expr} {pos p2 : Pos} {k : Nat}
def rBoo (g : G) (φ : Phi) (P : Pt) : List V → Hp → VK → Prop := fun xs H Q => ∃ c l v n b o F, xs = [v] ∧ (P.cls c).dn .bool = some n ∧ φ n [.ins c l] = .ok (.bl b) o ∧ Sub F H ∧ Den g F (.ins c l) v ∧ ∀ H1 F1, Tr true H F nf H1 F1 nf → Sub F1 H1 → Q (.bl b) H1
theorem call_boo (B : DnB X.prog X.w X.K X.mg X.base g φ P k) (hr : Room (k + 2) X.A) : CallR X (.type "bool") (rBoo g φ P) := by
  intro pins s σ H xs us Q I r h
  obtain ⟨c, l, v, n, b, o, F, rfl, hn, hφ, hs, hd, q⟩ := h
  obtain ⟨u, rfl, ru⟩ := r.one
  have hd0 := hd
  obtain ⟨x, ys, ev, hi, hl⟩ := hd
  subst ev
  cases (show u = Value.ref x from ru)
  obtain ⟨f, g1, g2, R⟩ := B.bool c n hn
  obtain ⟨ox, od, J, _⟩ := insInst I (hi.mono hs)
  obtain ⟨m, hF⟩ := I.fr
  have hr2 : Room k X.A.in1.in1 := (show Room (k + 1) X.A.in1 from Room.in1 hr).in1
  have hxF : Passes (L2.CX X.prog X.w) X (fun _ _ _ => False) := fun pins σ H s e s' I c => by
    obtain ⟨_, _, _, _, _, _, _, _, _, _, _, _, z⟩ := c
    exact z.elim
  refine call_boolOwn (PySem.W.truthy_K hF I.ok.mod.kin J g1 g2 (wpAny_mono (wpAny_call (SlX.run_at (us := [.ref x]) (ws := [.ref x]) (Q := fun v H1 => v = .bl b ∧ Q (.bl b) H1) R hr2 I.env0.in1.in1 hxF I (.cons rfl .nil) ?_)) (fun z s' y => ?_) fun _ _ x => x))
  · refine ⟨F, [.ins c l], hs, ⟨_, [], rfl, hd0, rfl⟩, ?_⟩
    rw [hφ]
    intro v H1 F1 t s r
    exact ⟨r, q H1 F1 t s⟩
  · obtain ⟨z', H', I', rz, e1, qz⟩ := y
    subst e1
    obtain rfl : z = Value.bool b := rz
    exact ⟨.bl b, H', I', rfl, qz⟩
theorem s_boo (B : DnB X.prog X.w X.K X.mg X.base g φ P k) (hr : Room (k + 2) X.A) (hg : Gl X "bool") (hm : X.mg "bool" = none) (he : PE X xa (tE g φ P ty W .F a)) (hs : notStar xa = true) : PE X (.Call (.Name "bool" p2) [xa] [] pos) (tE g φ P ty W .F (.boo a)) := by
  refine PE.imp (pe_callTy (call_boo B hr) hg hm (by decide +kernel) (pa_cons he pa_nil (star_cons hs)) (he := star_cons hs)) fun σ H Q ⟨e, F, fp, N, h⟩ => ⟨e, F, fp, N, ?_⟩
  rw [ev, pureE] at h
  refine Post.bind h (fun z => z) fun dx e1 v H1 F1 fp1 _ h1 t1 n1 r1 => ?_
  cases dx with
  | ins c l =>
    cases hn : (P.cls c).dn .bool with
    | none =>
      have h1 : Post g ty .F (pureE a) .stk σ H F fp W Q := by simpa only [hn] using h1
      exact h1.elim
    | some n =>
      cases hφ : φ n [.ins c l] with
      | ok d o =>
        cases d with
        | bl b =>
          have h1 : Post g ty .F (pureE a) (.ok (.bl b) e1) σ H F fp W Q := by simpa only [hn, hφ] using h1
          refine ⟨c, l, v, n, b, o, F1, rfl, hn, hφ, n1.sub, r1, fun H2 F2 t2 s2 => ?_⟩
          have t3 := t1.trans (t2.np (fp := fp1))
          rw [Bool.and_true] at t3
          exact h1 (.bl b) H2 F2 fp1 t3 (n1.np t2 s2) rfl
        | _ =>
          have h1 : Post g ty .F (pureE a) .stk σ H F fp W Q := by simpa only [hn, hφ] using h1
          exact h1.elim
      | _ =>
        have h1 : Post g ty .F (pureE a) .stk σ H F fp W Q := by simpa only [hn, hφ] using h1
        exact h1.elim
  | _ => exact h1.elim
end
/-! ### out of the written part -/
def boolB (cns : List Str) (dns : Tb Dn) : Fx := fun K => allT dns fun c d _ => match d with
  | .bool => (Fa.meth (cnd cns c) "__bool__").ok K
  | _ => true
section
variable {prog : Program} {w : World} {K : PySem.W.Frag} {mg : Str → Option Value} {base : Heap} {P : Pt} {T : Nat → Fc} {φ : Phi} {cns : List Str} {fls : List (List Str)} {sls : List Bool} {pms : List (List Nat)} {ats : List (Str × Option Str)} {dns : Tb Dn} {k m : Nat}
theorem dnb_ok (cD : boolB cns dns K = true) (dD : dnsB cns ats T m dns = true) (eD : ∀ c d n, (P.cls c).dn d = some n → (dns.getD c []).lookup d = some n)
    (ih : ∀ n, n < m → FnR prog w K mg base (L2.CX prog w) k (adOf K ats n) (spOf (ggOf cns fls sls pms K) φ T n)) : DnB prog w K mg base (ggOf cns fls sls pms K) φ P k := by
  refine ⟨fun c n h => ?_⟩
  obtain ⟨hc, q⟩ := allT_ok dD (eD c .bool n h)
  obtain ⟨_, km⟩ := allT_ok cD (eD c .bool n h)
  have km : (Fa.meth (cnd cns c) "__bool__").ok K = true := km
  obtain ⟨k1, k2⟩ := ba km
  obtain ⟨k2, _⟩ := ba k2
  obtain ⟨q1, q⟩ := ba q
  obtain ⟨q2, q⟩ := ba q
  obtain ⟨q3, q4⟩ := ba q
  have r := ih n (of_decide_eq_true q2)
  rw [ad_at (of_decide_eq_true q1)] at r
  have e : fA K (cnd cns c, some (dnN .bool)) = ma K (ga K (cnd cns c)) "__bool__" := fA_isFn k2
  rw [e] at r
  unfold spOf at r
  rw [Option.isNone_iff_eq_none.mp q3, isF_ok q4] at r
  exact ⟨_, eqO_ok k1, k2, r⟩
end
end Ev
set_option Elab.async false
set_option linter.all false
set_option maxRecDepth 100000
set_option maxHeartbeats 4000000
/-! Ev36: comprehensions in plain Lean: map, filter -/
namespace Ev
open PySem L2 PySem.Spec PyProof.Rows
/-- each item is kept, F of it is told -/
theorem lc_map {tg : Tg} {tst elt : Nv → RE D} {F : D → D} {e : Nv} : ∀ (ds acc : List D), acc.length + ds.length ≤ sizeLine → (∀ d ∈ ds, ∃ e1 e2 e3, stT tg d e = some e1 ∧ tst e1 = .ok (.bl true) e2 ∧ elt e2 = .ok (F d) e3 ∧ kill (tgS tg) e3 = e) → lcRun tg tst elt ds acc e = .ok (acc ++ ds.map F) e
  | [], acc, hl, _ => by
    rw [lcRun, if_pos (by simpa using hl), List.map_nil, List.append_nil]
  | d :: r, acc, hl, h => by
    obtain ⟨e1, e2, e3, h1, h2, h3, h4⟩ := h d List.mem_cons_self
    rw [List.length_cons] at hl
    rw [lcRun, h1]
    dsimp only
    rw [h2]
    dsimp only [tru]
    rw [h3]
    dsimp only
    rw [if_pos (by omega), h4, lc_map r (acc ++ [F d]) (by rw [List.length_append, List.length_singleton]; omega) fun x hx => h x (List.mem_cons_of_mem _ hx), List.map_cons, List.append_assoc]
    rfl
/-- a test keeps some -/
theorem lc_filter {tg : Tg} {tst elt : Nv → RE D} {F : D → D} {p : D → Bool} {e : Nv} : ∀ (ds acc : List D), acc.length + ds.length ≤ sizeLine → (∀ d ∈ ds, ∃ e1 e2, stT tg d e = some e1 ∧ tst e1 = .ok (.bl (p d)) e2 ∧ (p d = true → ∃ e3, elt e2 = .ok (F d) e3 ∧ kill (tgS tg) e3 = e) ∧ (p d = false → kill (tgS tg) e2 = e)) →
    lcRun tg tst elt ds acc e = .ok (acc ++ (ds.filter p).map F) e
  | [], acc, hl, _ => by
    rw [lcRun, if_pos (by simpa using hl), List.filter_nil, List.map_nil, List.append_nil]
  | d :: r, acc, hl, h => by
    obtain ⟨e1, e2, h1, h2, h3, h4⟩ := h d List.mem_cons_self
    rw [List.length_cons] at hl
    have ih := fun acc' hl' => lc_filter (F := F) (p := p) r acc' hl' fun x hx => h x (List.mem_cons_of_mem _ hx)
    rw [lcRun, h1]
    dsimp only
    rw [h2]
    cases q : p d with
    | true =>
      obtain ⟨e3, h5, h6⟩ := h3 q
      dsimp only [tru]
      rw [h5]
      dsimp only
      rw [if_pos (by omega), h6, ih (acc ++ [F d]) (by rw [List.length_append, List.length_singleton]; omega), List.filter_cons_of_pos q, List.map_cons, List.append_assoc]
      rfl
    | false =>
      dsimp only [tru]
      rw [h4 q, ih acc (by omega), List.filter_cons_of_neg (by rw [q]; exact Bool.false_ne_true)]
end Ev
set_option Elab.async false
set_option linter.all false
set_option maxRecDepth 100000
set_option maxHeartbeats 4000000
namespace G78
open PySem L2 PySem.Spec PyProof.Rows Ev
def c0 : Fc := ⟨1, 1, (.cons (.ret (.and (.isi (.v 0) [.int]) (.nt (.isi (.v 0) [.bool])))) .nil), .F, none, []⟩
def c1 : Fc := ⟨2, 2, (.cons (.par (0, []) (1, []) (.bi .abs (.cons (.v 0) .nil)) (.bi .abs (.cons (.v 1) .nil))) (.cons (.whl 4000 (.cmp .ne (.v 1) (.int 0)) (.cons (.par (0, []) (1, []) (.v 1) (.bin .mod (.v 0) (.v 1))) .nil)) (.cons (.ret (.v 0)) .nil))), .F, none, []⟩
def c2 : Fc := ⟨2, 3, (.cons (.asg (.name (2, [])) (.call 1 (.cons (.v 0) (.cons (.v 1) .nil)))) (.cons (.iff (.cmp .lt (.v 1) (.int 0)) (.cons (.asg (.name (2, [])) (.neg (.v 2))) .nil) .nil) (.cons (.ret (.tup (.cons (.bin .fdiv (.v 0) (.v 2)) (.cons (.bin .fdiv (.v 1) (.v 2)) .nil)))) .nil))), .F, none, []⟩
def c3 : Fc := ⟨1, 1, (.cons (.iff (.isi (.v 0) [.own 0]) (.cons (.ret (.tup (.cons (.fld (.v 0) 0) (.cons (.fld (.v 0) 1) .nil)))) .nil) .nil) (.cons (.iff (.call 0 (.cons (.v 0) .nil)) (.cons (.ret (.tup (.cons (.v 0) (.cons (.int 1) .nil)))) .nil) .nil) (.cons (.ret .non) .nil))), .F, none, []⟩
def c4 : Fc := ⟨1, 2, (.cons (.asg (.name (1, [])) (.call 3 (.cons (.v 0) .nil))) (.cons (.iff (.isN (.v 1)) (.cons (.raise 2 (.cons (.str "thing") .nil)) .nil) .nil) (.cons (.ret (.new 0 25 (.cons (.sub (.v 1) (.int 0)) (.cons (.sub (.v 1) (.int 1)) .nil)))) .nil))), .F, none, []⟩
def c5 : Fc := ⟨1, 9, (.cons (.asg (.name (1, [])) (.lc (.call 3 (.cons (.v 8) .nil)) (.one (.name (8, [])) (.seq (.v 0)) .none))) (.cons (.asg (.name (2, [])) (.int 1)) (.cons (.forr (.tup [(6, []), (7, [])]) (.seq (.v 1)) (.cons (.asg (.name (2, [])) (.bin .fdiv (.bin .mul (.v 2) (.v 7)) (.call 1 (.cons (.v 2) (.cons (.v 7) .nil))))) .nil)) (.cons (.asg (.name (3, [])) (.lc (.bin .mul (.v 5) (.bin .fdiv (.v 2) (.v 7))) (.one (.tup [(5, []), (7, [])]) (.seq (.v 1)) .none))) (.cons (.asg (.name (4, [])) (.int 0)) (.cons (.forr (.name (5, [])) (.seq (.v 3)) (.cons (.asg (.name (4, [])) (.call 1 (.cons (.v 4) (.cons (.v 5) .nil)))) .nil)) (.cons (.iff (.cmp .eq (.v 4) (.int 0)) (.cons (.ret (.bi .tuple (.cons (.v 3) .nil))) .nil) .nil) (.cons (.ret (.bi .tuple (.cons (.lc (.bin .fdiv (.v 5) (.v 4)) (.one (.name (5, [])) (.seq (.v 3)) .none)) .nil))) .nil)))))))), .F, none, []⟩
def c6 : Fc := ⟨1, 7, (.cons (.asg (.name (1, [6])) (.lst .nil)) (.cons (.forr (.name (2, [])) (.rng1 (.bi .min2 (.cons (.bi .len (.cons (.v 0) .nil)) (.cons (.int 63) .nil)))) (.cons (.asg (.name (3, [])) (.bi .int (.cons (.sub (.v 0) (.v 2)) .nil))) (.cons (.iff (.cmp .lt (.v 3) (.int 0)) (.cons (.asg (.name (3, [])) (.bin .sub (.int 5) (.v 3))) .nil) .nil) (.cons (.iff (.cmp .ge (.v 3) (.bin .pow (.int 10) (.int 18))) (.cons (.forr (.name (4, [])) (.rng1 (.int 56)) (.cons (.iff (.cmp .gt (.v 3) (.int 0)) (.cons (.app 1 .nil (.bin .mod (.bi .int (.cons (.v 3) .nil)) (.int 24))) (.cons (.asg (.name (3, [])) (.bin .fdiv (.v 3) (.int 24))) .nil)) .nil) .nil)) .nil) (.cons (.asg (.name (5, [])) (.bin .mod (.bi .int (.cons (.bin .add (.bin .add (.bin .mul (.v 3) (.int 40014)) (.bin .mul (.v 2) (.int 52774))) (.int 11)) .nil)) (.int 2147483563))) (.cons (.forr (.name (4, [])) (.rng1 (.int 7)) (.cons (.asg (.name (5, [])) (.bin .mod (.bi .int (.cons (.bin .add (.bin .add (.bin .add (.bin .mul (.v 5) (.v 5)) (.bin .mul (.v 4) (.int 69069))) (.bin .mul (.v 2) (.int 13))) (.int 3)) .nil)) (.int 2147483399))) (.cons (.app 1 .nil (.bin .mod (.bi .int (.cons (.bin .fdiv (.v 5) (.int 16)) .nil)) (.int 5040))) .nil))) .nil))) .nil)))) (.cons (.rvs 1) (.cons (.ret (.mov 1)) .nil)))), .own 1, none, []⟩
def c7 : Fc := ⟨2, 2, (.cons (.iff (.cmp .eq (.bi .len (.cons (.v 0) .nil)) (.int 0)) (.cons (.ret (.int 0)) .nil) .nil) (.cons (.ret (.bin .mod (.bi .int (.cons (.popl 0) .nil)) (.v 1))) .nil)), .F, some (0, 1), []⟩
def c8 : Fc := ⟨1, 1, (.cons (.ret (.and (.isi (.v 0) [.int]) (.nt (.isi (.v 0) [.bool])))) .nil), .F, none, []⟩
def c9 : Fc := ⟨2, 4, (.cons (.asg (.name (0, [])) (.bi .abs (.cons (.v 0) .nil))) (.cons (.asg (.name (1, [])) (.bi .abs (.cons (.v 1) .nil))) (.cons (.forr (.name (2, [])) (.rng1 (.bin .add (.bin .mul (.int 2) (.blen (.v 1))) (.int 2))) (.cons (.iff (.cmp .gt (.v 1) (.int 0)) (.cons (.asg (.name (3, [])) (.bin .mod (.bi .int (.cons (.v 0) .nil)) (.v 1))) (.cons (.asg (.name (0, [])) (.v 1)) (.cons (.asg (.name (1, [])) (.v 3)) .nil))) .nil) .nil)) (.cons (.ret (.v 0)) .nil)))), .F, none, []⟩
def c10 : Fc := ⟨2, 3, (.cons (.iff (.cmp .lt (.v 1) (.int 0)) (.cons (.asg (.name (0, [])) (.neg (.v 0))) (.cons (.asg (.name (1, [])) (.neg (.v 1))) .nil)) .nil) (.cons (.asg (.name (2, [])) (.call 9 (.cons (.v 0) (.cons (.v 1) .nil)))) (.cons (.ret (.tup (.cons (.bin .fdiv (.v 0) (.v 2)) (.cons (.bin .fdiv (.v 1) (.v 2)) .nil)))) .nil))), .F, none, []⟩
def c11 : Fc := ⟨2, 2, (.cons (.ret (.call 10 (.cons (.bin .add (.bin .mul (.sub (.v 0) (.int 0)) (.sub (.v 1) (.int 1))) (.bin .mul (.sub (.v 1) (.int 0)) (.sub (.v 0) (.int 1)))) (.cons (.bin .mul (.sub (.v 0) (.int 1)) (.sub (.v 1) (.int 1))) .nil)))) .nil), .F, none, []⟩
def c12 : Fc := ⟨2, 2, (.cons (.ret (.call 10 (.cons (.bin .sub (.bin .mul (.sub (.v 0) (.int 0)) (.sub (.v 1) (.int 1))) (.bin .mul (.sub (.v 1) (.int 0)) (.sub (.v 0) (.int 1)))) (.cons (.bin .mul (.sub (.v 0) (.int 1)) (.sub (.v 1) (.int 1))) .nil)))) .nil), .F, none, []⟩
def c13 : Fc := ⟨2, 2, (.cons (.ret (.call 10 (.cons (.bin .mul (.sub (.v 0) (.int 0)) (.sub (.v 1) (.int 0))) (.cons (.bin .mul (.sub (.v 0) (.int 1)) (.sub (.v 1) (.int 1))) .nil)))) .nil), .F, none, []⟩
def c14 : Fc := ⟨2, 2, (.cons (.ret (.call 10 (.cons (.bin .mul (.sub (.v 0) (.int 0)) (.sub (.v 1) (.int 1))) (.cons (.bin .mul (.sub (.v 0) (.int 1)) (.sub (.v 1) (.int 0))) .nil)))) .nil), .F, none, []⟩
def c15 : Fc := ⟨1, 1, (.cons (.iff (.nt (.isi (.v 0) [.own 0])) (.cons (.ret .non) .nil) .nil) (.cons (.iff (.or (.nt (.call 8 (.cons (.fld (.v 0) 0) .nil))) (.nt (.call 8 (.cons (.fld (.v 0) 1) .nil)))) (.cons (.ret .non) .nil) .nil) (.cons (.iff (.or (.cmp .lt (.fld (.v 0) 1) (.int 1)) (.cmp .ne (.call 9 (.cons (.fld (.v 0) 0) (.cons (.fld (.v 0) 1) .nil))) (.int 1))) (.cons (.ret .non) .nil) .nil) (.cons (.ret (.tup (.cons (.fld (.v 0) 0) (.cons (.fld (.v 0) 1) .nil)))) .nil)))), .F, none, []⟩
def c16 : Fc := ⟨1, 6, (.cons (.asg (.name (1, [])) (.int 1)) (.cons (.forr (.name (2, [])) (.seq (.v 0)) (.cons (.asg (.name (1, [])) (.bin .fdiv (.bin .mul (.v 1) (.sub (.v 2) (.int 1))) (.call 9 (.cons (.v 1) (.cons (.sub (.v 2) (.int 1)) .nil))))) .nil)) (.cons (.asg (.name (3, [])) (.lc (.bin .mul (.sub (.v 2) (.int 0)) (.bin .fdiv (.v 1) (.sub (.v 2) (.int 1)))) (.one (.name (2, [])) (.seq (.v 0)) .none))) (.cons (.asg (.name (4, [])) (.int 0)) (.cons (.forr (.name (5, [])) (.seq (.v 3)) (.cons (.asg (.name (4, [])) (.call 9 (.cons (.v 4) (.cons (.v 5) .nil)))) .nil)) (.cons (.iff (.cmp .eq (.v 4) (.int 0)) (.cons (.ret (.v 3)) .nil) .nil) (.cons (.ret (.lc (.bin .fdiv (.v 5) (.v 4)) (.one (.name (5, [])) (.seq (.v 3)) .none))) .nil))))))), .F, none, []⟩
def c17 : Fc := ⟨1, 3, (.cons (.asg (.name (1, [])) (.lst (.cons (.int 1) (.cons (.int 0) (.cons (.neg (.int 1)) (.cons (.int 2) (.cons (.neg (.int 6)) (.cons (.int 12) (.cons (.int 999999999999) (.cons (.neg (.int 999999999999)) (.cons (.int 35) (.cons (.neg (.int 4)) (.cons (.int 9) (.cons (.int 100) .nil)))))))))))))) (.cons (.asg (.name (2, [])) (.lst (.cons (.int 1) (.cons (.neg (.int 1)) (.cons (.int 2) (.cons (.neg (.int 3)) (.cons (.int 4) (.cons (.int 6) (.cons (.neg (.int 12)) (.cons (.int 999999999989) (.cons (.int 5) (.cons (.neg (.int 7)) (.cons (.int 10) (.cons (.neg (.int 999999999989)) .nil)))))))))))))) (.cons (.ret (.tup (.cons (.sub (.v 1) (.callI 7 0 0 (.cons (.int 12) .nil))) (.cons (.sub (.v 2) (.callI 7 0 0 (.cons (.int 12) .nil))) .nil)))) .nil))), .F, some (0, 1), []⟩
def c18 : Fc := ⟨2, 5, (.cons (.asg (.name (2, [])) .non) (.cons (.try_ (.cons (.iff (.cmp .eq (.v 1) (.int 0)) (.cons (.asg (.name (2, [])) (.tup (.cons (.str "made") (.cons (.call 15 (.cons (.new 0 25 (.cons (.sub (.v 0) (.int 0)) (.cons (.sub (.v 0) (.int 1)) .nil))) .nil)) .nil)))) .nil) (.cons (.iff (.cmp .eq (.v 1) (.int 1)) (.cons (.asg (.name (2, [])) (.tup (.cons (.str "made") (.cons (.call 26 (.cons (.sub (.v 0) (.int 0)) (.cons (.sub (.v 0) (.int 1)) .nil))) .nil)))) .nil) (.cons (.iff (.cmp .eq (.v 1) (.int 2)) (.cons (.asg (.name (2, [])) (.tup (.cons (.str "made") (.cons (.call 15 (.cons (.mth 1 (.sub (.v 0) (.int 0)) (.cons (.sub (.v 0) (.int 1)) .nil)) .nil)) .nil)))) .nil) (.cons (.iff (.cmp .eq (.v 1) (.int 3)) (.cons (.asg (.name (2, [])) (.tup (.cons (.str "made") (.cons (.call 15 (.cons (.mth 2 (.sub (.v 0) (.int 0)) .nil) .nil)) .nil)))) .nil) (.cons (.iff (.cmp .eq (.v 1) (.int 4)) (.cons (.asg (.name (2, [])) (.tup (.cons (.str "made") (.cons (.call 15 (.cons (.mth 3 (.sub (.v 0) (.int 0)) (.cons (.sub (.v 0) (.int 1)) .nil)) .nil)) .nil)))) .nil) (.cons (.asg (.name (2, [])) (.tup (.cons (.str "made") (.cons (.call 15 (.cons (.call 4 (.cons (.sub (.v 0) (.int 0)) .nil)) .nil)) .nil)))) .nil)) .nil)) .nil)) .nil)) .nil)) .nil) (.cons 2 (some (3, [(4, 2)])) (.cons (.asg (.name (2, [])) (.tup (.cons (.str "number") (.cons (.v 4) (.cons (.xis 3 [3]) .nil))))) .nil) (.cons 1 none (.cons (.asg (.name (2, [])) (.tup (.cons (.str "other") (.cons (.int 0) .nil)))) .nil) .nil))) (.cons (.ret (.v 2)) .nil))), .F, none, []⟩
def c19 : Fc := ⟨2, 5, (.cons (.asg (.name (2, [])) (.int 1)) (.cons (.asg (.name (3, [])) (.int 1)) (.cons (.forr (.name (4, [])) (.rng1 (.bi .abs (.cons (.v 1) .nil))) (.cons (.asg (.name (2, [])) (.bin .mul (.v 2) (.sub (.v 0) (.int 0)))) (.cons (.asg (.name (3, [])) (.bin .mul (.v 3) (.sub (.v 0) (.int 1)))) .nil))) (.cons (.iff (.cmp .ge (.v 1) (.int 0)) (.cons (.ret (.tup (.cons (.v 2) (.cons (.v 3) .nil)))) .nil) .nil) (.cons (.iff (.cmp .lt (.v 2) (.int 0)) (.cons (.ret (.tup (.cons (.neg (.v 3)) (.cons (.neg (.v 2)) .nil)))) .nil) .nil) (.cons (.ret (.tup (.cons (.v 3) (.cons (.v 2) .nil)))) .nil)))))), .F, none, []⟩
def c20 : Fc := ⟨5, 9, (.cons (.asg (.name (5, [])) (.tup (.cons (.v 4) (.cons (.int 1) .nil)))) (.cons (.asg (.name (6, [])) (.lst (.cons (.tup (.cons (.bin .add (.v 0) (.v 2)) (.cons (.call 11 (.cons (.v 1) (.cons (.v 3) .nil))) .nil))) (.cons (.tup (.cons (.bin .sub (.v 0) (.v 2)) (.cons (.call 12 (.cons (.v 1) (.cons (.v 3) .nil))) .nil))) .nil)))) (.cons (.asg (.name (6, [])) (.bin .add (.v 6) (.lst (.cons (.tup (.cons (.bin .mul (.v 0) (.v 2)) (.cons (.call 13 (.cons (.v 1) (.cons (.v 3) .nil))) .nil))) (.cons (.tup (.cons (.neg (.v 0)) (.cons (.tup (.cons (.neg (.sub (.v 1) (.int 0))) (.cons (.sub (.v 1) (.int 1)) .nil))) .nil))) .nil))))) (.cons (.asg (.name (6, [])) (.bin .add (.v 6) (.lst (.cons (.tup (.cons (.bin .add (.v 0) (.v 4)) (.cons (.call 11 (.cons (.v 1) (.cons (.v 5) .nil))) .nil))) (.cons (.tup (.cons (.bin .add (.v 4) (.v 0)) (.cons (.call 11 (.cons (.v 1) (.cons (.v 5) .nil))) .nil))) .nil))))) (.cons (.asg (.name (6, [])) (.bin .add (.v 6) (.lst (.cons (.tup (.cons (.bin .sub (.v 0) (.v 4)) (.cons (.call 12 (.cons (.v 1) (.cons (.v 5) .nil))) .nil))) (.cons (.tup (.cons (.bin .sub (.v 4) (.v 0)) (.cons (.call 12 (.cons (.v 5) (.cons (.v 1) .nil))) .nil))) .nil))))) (.cons (.asg (.name (6, [])) (.bin .add (.v 6) (.lst (.cons (.tup (.cons (.bin .mul (.v 0) (.v 4)) (.cons (.call 13 (.cons (.v 1) (.cons (.v 5) .nil))) .nil))) (.cons (.tup (.cons (.bin .mul (.v 4) (.v 0)) (.cons (.call 13 (.cons (.v 1) (.cons (.v 5) .nil))) .nil))) .nil))))) (.cons (.forr (.name (7, [])) (.seq (.v 6)) (.cons (.iff (.cmp .ne (.call 15 (.cons (.sub (.v 7) (.int 0)) .nil)) (.sub (.v 7) (.int 1))) (.cons (.ret (.bl false)) .nil) .nil) .nil)) (.cons (.forr (.name (7, [])) (.seq (.lst (.cons (.tup (.cons (.cmp .eq (.v 0) (.v 2)) (.cons (.cmp .eq (.v 1) (.v 3)) .nil))) (.cons (.tup (.cons (.cmp .eq (.v 0) (.v 4)) (.cons (.cmp .eq (.v 1) (.v 5)) .nil))) (.cons (.tup (.cons (.cmp .eq (.v 0) (.new 0 40 (.cons (.v 4) .nil))) (.cons (.cmp .eq (.v 1) (.v 5)) .nil))) .nil))))) (.cons (.iff (.or (.nt (.isi (.sub (.v 7) (.int 0)) [.bool])) (.cmp .ne (.sub (.v 7) (.int 0)) (.sub (.v 7) (.int 1)))) (.cons (.ret (.bl false)) .nil) .nil) .nil)) (.cons (.iff (.or (.cmp .eq (.v 0) .non) (.or (.cmp .eq (.v 0) (.v 1)) (.cmp .ne (.boo (.v 0)) (.cmp .ne (.sub (.v 1) (.int 0)) (.int 0))))) (.cons (.ret (.bl false)) .nil) .nil) (.cons (.asg (.name (8, [])) (.bi .str (.cons (.sub (.v 1) (.int 0)) .nil))) (.cons (.iff (.cmp .gt (.sub (.v 1) (.int 1)) (.int 1)) (.cons (.asg (.name (8, [])) (.bin .add (.bin .add (.v 8) (.str "/")) (.bi .str (.cons (.sub (.v 1) (.int 1)) .nil)))) .nil) .nil) (.cons (.ret (.cmp .eq (.mth 4 (.v 0) .nil) (.v 8))) .nil)))))))))))), .F, none, []⟩
def c21 : Fc := ⟨5, 9, (.cons (.asg (.name (5, [8])) (.lst (.cons (.tup (.cons (.tup (.cons (.v 0) (.cons (.v 4) .nil))) (.cons (.int 4) (.cons (.tup (.cons (.str "made") (.cons (.call 19 (.cons (.v 1) (.cons (.v 4) .nil))) .nil))) .nil)))) .nil))) (.cons (.iff (.and (.cmp .lt (.v 4) (.int 0)) (.cmp .eq (.sub (.v 1) (.int 0)) (.int 0))) (.cons (.asg (.name (5, [8])) (.lst (.cons (.tup (.cons (.tup (.cons (.v 0) (.cons (.v 4) .nil))) (.cons (.int 4) (.cons (.tup (.cons (.str "number") (.cons (.str "number") (.cons (.bl false) .nil)))) .nil)))) .nil))) .nil) .nil) (.cons (.iff (.cmp .eq (.sub (.v 1) (.int 0)) (.int 0)) (.cons (.app 5 .nil (.tup (.cons (.tup (.cons (.v 0) (.cons (.int 0) .nil))) (.cons (.int 3) (.cons (.tup (.cons (.str "number") (.cons (.str "top") (.cons (.bl false) .nil)))) .nil))))) .nil) (.cons (.app 5 .nil (.tup (.cons (.tup (.cons (.v 0) (.cons (.int 0) .nil))) (.cons (.int 3) (.cons (.tup (.cons (.str "made") (.cons (.call 14 (.cons (.tup (.cons (.int 1) (.cons (.int 1) .nil))) (.cons (.v 1) .nil))) .nil))) .nil))))) .nil)) (.cons (.iff (.cmp .eq (.sub (.v 3) (.int 0)) (.int 0)) (.cons (.app 5 .nil (.tup (.cons (.tup (.cons (.v 0) (.cons (.v 2) .nil))) (.cons (.int 2) (.cons (.tup (.cons (.str "number") (.cons (.str "other") (.cons (.bl false) .nil)))) .nil))))) .nil) (.cons (.app 5 .nil (.tup (.cons (.tup (.cons (.v 0) (.cons (.v 2) .nil))) (.cons (.int 2) (.cons (.tup (.cons (.str "made") (.cons (.call 14 (.cons (.v 1) (.cons (.v 3) .nil))) .nil))) .nil))))) .nil)) (.cons (.forr (.name (6, [])) (.seq (.lst (.cons (.int 41) (.cons (.neg (.int 41)) (.cons .non (.cons (.new 0 40 (.cons (.int 2) .nil)) .nil)))))) (.cons (.app 5 .nil (.tup (.cons (.tup (.cons (.v 0) (.cons (.v 6) .nil))) (.cons (.int 4) (.cons (.tup (.cons (.str "number") (.cons (.str "number") (.cons (.bl false) .nil)))) .nil))))) .nil)) (.cons (.forr (.name (6, [])) (.seq (.lst (.cons (.int 0) (.cons .non (.cons (.str "2") .nil))))) (.cons (.app 5 .nil (.tup (.cons (.tup (.cons (.v 0) (.cons (.v 6) .nil))) (.cons (.int 2) (.cons (.tup (.cons (.str "number") (.cons (.str "other") (.cons (.bl false) .nil)))) .nil))))) .nil)) (.cons (.app 5 .nil (.tup (.cons (.tup (.cons (.v 0) (.cons (.neg (.int 3)) .nil))) (.cons (.int 2) (.cons (.tup (.cons (.str "made") (.cons (.call 14 (.cons (.v 1) (.cons (.tup (.cons (.neg (.int 3)) (.cons (.int 1) .nil))) .nil))) .nil))) .nil))))) (.cons (.app 5 .nil (.tup (.cons (.tup (.cons (.v 0) .nil)) (.cons (.int 5) (.cons (.tup (.cons (.str "made") (.cons (.v 1) .nil))) .nil))))) (.cons (.app 5 .nil (.tup (.cons (.tup (.cons (.neg (.int 7)) .nil)) (.cons (.int 5) (.cons (.tup (.cons (.str "made") (.cons (.tup (.cons (.neg (.int 7)) (.cons (.int 1) .nil))) .nil))) .nil))))) (.cons (.forr (.name (6, [])) (.seq (.lst (.cons .non (.cons (.str "1") .nil)))) (.cons (.app 5 .nil (.tup (.cons (.tup (.cons (.v 6) .nil)) (.cons (.int 5) (.cons (.tup (.cons (.str "number") (.cons (.str "thing") (.cons (.bl false) .nil)))) .nil))))) .nil)) (.cons (.frz 5 8) (.cons (.forr (.name (7, [])) (.seq (.v 8)) (.cons (.iff (.cmp .ne (.call 18 (.cons (.sub (.v 7) (.int 0)) (.cons (.sub (.v 7) (.int 1)) .nil))) (.sub (.v 7) (.int 2))) (.cons (.ret (.bl false)) .nil) .nil) .nil)) (.cons (.ret (.bl true)) .nil))))))))))))), .F, none, []⟩
def c22 : Fc := ⟨2, 5, (.cons (.asg (.name (2, [])) (.call 10 (.cons (.v 0) (.cons (.v 1) .nil)))) (.cons (.iff (.or (.cmp .ne (.call 18 (.cons (.tup (.cons (.v 0) (.cons (.v 1) .nil))) (.cons (.int 0) .nil))) (.tup (.cons (.str "made") (.cons (.v 2) .nil)))) (.cmp .ne (.call 18 (.cons (.tup (.cons (.v 0) (.cons (.v 1) .nil))) (.cons (.int 1) .nil))) (.tup (.cons (.str "made") (.cons (.v 2) .nil))))) (.cons (.ret (.bl false)) .nil) .nil) (.cons (.forr (.name (3, [])) (.rng1 (.int 2)) (.cons (.forr (.name (4, [])) (.seq (.lst (.cons (.tup (.cons .non (.cons (.int 0) .nil))) (.cons (.tup (.cons (.new 0 40 (.cons (.int 1) .nil)) (.cons (.int 2) .nil))) (.cons (.tup (.cons (.str "1") (.cons .non .nil))) .nil))))) (.cons (.iff (.cmp .ne (.call 18 (.cons (.v 4) (.cons (.v 3) .nil))) (.tup (.cons (.str "number") (.cons (.str "top") (.cons (.bl false) .nil))))) (.cons (.ret (.bl false)) .nil) .nil) .nil)) (.cons (.forr (.name (4, [])) (.seq (.lst (.cons (.int 0) (.cons .non (.cons (.new 0 40 (.cons (.int 2) .nil)) .nil))))) (.cons (.iff (.cmp .ne (.call 18 (.cons (.tup (.cons (.v 0) (.cons (.v 4) .nil))) (.cons (.v 3) .nil))) (.tup (.cons (.str "number") (.cons (.str "bottom") (.cons (.bl false) .nil))))) (.cons (.ret (.bl false)) .nil) .nil) .nil)) .nil))) (.cons (.ret (.cmp .eq (.call 15 (.cons (.new 0 40 (.cons (.v 0) .nil)) .nil)) (.tup (.cons (.v 0) (.cons (.int 1) .nil))))) .nil)))), .F, none, []⟩
def c23 : Fc := ⟨3, 13, (.cons (.asg (.name (3, [11])) (.lst .nil)) (.cons (.asg (.name (4, [12])) (.lst .nil)) (.cons (.forr (.name (5, [])) (.rng1 (.callI 7 0 0 (.cons (.int 6) .nil))) (.cons (.asg (.tup [(8, []), (9, [])]) (.callI 17 0 0 .nil)) (.cons (.app 4 .nil (.call 10 (.cons (.v 8) (.cons (.v 9) .nil)))) (.cons (.app 3 .nil (.new 0 25 (.cons (.v 8) (.cons (.v 9) .nil)))) (.cons (.iff (.cmp .eq (.v 9) (.int 1)) (.cons (.set 3 .nil (.bin .sub (.bi .len (.cons (.v 3) .nil)) (.int 1)) (.v 8)) .nil) .nil) .nil))))) (.cons (.app 3 .nil (.v 1)) (.cons (.app 4 .nil (.v 2)) (.cons (.asg (.name (6, [])) (.bi .list (.cons (.v 3) .nil))) (.cons (.frz 3 11) (.cons (.asg (.name (7, [])) (.call 5 (.cons (.v 11) .nil))) (.cons (.iff (.or (.nt (.isi (.v 7) [.tuple])) (.cmp .gt (.bi .len (.cons (.lc (.v 10) (.one (.name (10, [])) (.seq (.v 7)) (.some (.nt (.call 8 (.cons (.v 10) .nil)))))) .nil)) (.int 0))) (.cons (.ret (.bl false)) .nil) .nil) (.cons (.frz 4 12) (.cons (.iff (.or (.cmp .ne (.v 7) (.bi .tuple (.cons (.call 16 (.cons (.v 12) .nil)) .nil))) (.or (.cmp .ne (.call 5 (.cons (.bi .tuple (.cons (.v 11) .nil)) .nil)) (.v 7)) (.cmp .ne (.v 11) (.v 6)))) (.cons (.ret (.bl false)) .nil) .nil) (.cons (.ret (.and (.cmp .eq (.call 5 (.cons (.lst (.cons (.int 0) (.cons (.new 0 40 (.cons (.int 0) .nil)) (.cons (.int 0) .nil)))) .nil)) (.tup (.cons (.int 0) (.cons (.int 0) (.cons (.int 0) .nil))))) (.cmp .eq (.call 5 (.cons (.lst (.cons (.neg (.int 2)) (.cons (.int 4) .nil))) .nil)) (.tup (.cons (.neg (.int 1)) (.cons (.int 2) .nil)))))) .nil)))))))))))), .F, some (0, 1), []⟩
def c24 : Fc := ⟨1, 12, (.cons (.asg (.name (1, [11])) (.call 6 (.cons (.v 0) .nil))) (.cons (.asg (.tup [(7, []), (8, [])]) (.callI 17 1 0 .nil)) (.cons (.asg (.tup [(9, []), (10, [])]) (.callI 17 1 0 .nil)) (.cons (.asg (.name (2, [])) (.call 10 (.cons (.v 7) (.cons (.v 8) .nil)))) (.cons (.asg (.name (3, [])) (.call 10 (.cons (.v 9) (.cons (.v 10) .nil)))) (.cons (.asg (.name (4, [])) (.new 0 25 (.cons (.v 7) (.cons (.v 8) .nil)))) (.cons (.asg (.name (5, [])) (.new 0 25 (.cons (.v 9) (.cons (.v 10) .nil)))) (.cons (.asg (.name (6, [])) (.sub (.lst (.cons (.int 2) (.cons (.int 0) (.cons (.neg (.int 1)) (.cons (.int 1) (.cons (.neg (.int 5)) (.cons (.int 7) (.cons (.int 999999999999) .nil)))))))) (.callI 7 1 0 (.cons (.int 7) .nil)))) (.cons (.iff (.or (.nt (.call 22 (.cons (.v 7) (.cons (.v 8) .nil)))) (.nt (.call 20 (.cons (.v 4) (.cons (.v 2) (.cons (.v 5) (.cons (.v 3) (.cons (.v 6) .nil)))))))) (.cons (.ret (.bl false)) .nil) .nil) (.cons (.asg (.name (6, [])) (.sub (.lst (.cons (.int 2) (.cons (.int 0) (.cons (.neg (.int 1)) (.cons (.int 1) (.cons (.neg (.int 3)) (.cons (.int 40) (.cons (.neg (.int 40)) (.cons (.int 5) (.cons (.neg (.int 2)) .nil)))))))))) (.callI 7 1 0 (.cons (.int 9) .nil)))) (.cons (.ret (.and (.call 21 (.cons (.v 4) (.cons (.v 2) (.cons (.v 5) (.cons (.v 3) (.cons (.v 6) .nil)))))) (.callI 23 1 0 (.cons (.v 4) (.cons (.v 2) .nil))))) .nil))))))))))), .F, none, []⟩
def c25 : Fc := ⟨3, 3, (.cons (.iff (.nt (.call 0 (.cons (.v 1) .nil))) (.cons (.raise 2 (.cons (.str "top") .nil)) .nil) .nil) (.cons (.iff (.or (.nt (.call 0 (.cons (.v 2) .nil))) (.cmp .eq (.v 2) (.int 0))) (.cons (.raise 2 (.cons (.str "bottom") .nil)) .nil) .nil) (.cons (.sfld2 0 0 1 (.call 2 (.cons (.v 1) (.cons (.v 2) .nil)))) .nil))), .F, some (0, 2), []⟩
def c26 : Fc := ⟨2, 2, (.cons (.iff (.nt (.call 0 (.cons (.v 0) .nil))) (.cons (.raise 2 (.cons (.str "top") .nil)) .nil) .nil) (.cons (.iff (.or (.nt (.call 0 (.cons (.v 1) .nil))) (.cmp .eq (.v 1) (.int 0))) (.cons (.raise 2 (.cons (.str "bottom") .nil)) .nil) .nil) (.cons (.ret (.call 2 (.cons (.v 0) (.cons (.v 1) .nil)))) .nil))), .F, none, []⟩
def c27 : Fc := ⟨2, 3, (.cons (.asg (.name (2, [])) (.call 3 (.cons (.v 1) .nil))) (.cons (.iff (.isN (.v 2)) (.cons (.ret .nev) .nil) .nil) (.cons (.ret (.new 0 25 (.cons (.bin .add (.bin .mul (.fld (.v 0) 0) (.sub (.v 2) (.int 1))) (.bin .mul (.sub (.v 2) (.int 0)) (.fld (.v 0) 1))) (.cons (.bin .mul (.fld (.v 0) 1) (.sub (.v 2) (.int 1))) .nil)))) .nil))), .F, none, []⟩
def c28 : Fc := ⟨2, 3, (.cons (.asg (.name (2, [])) (.call 3 (.cons (.v 1) .nil))) (.cons (.iff (.isN (.v 2)) (.cons (.ret .nev) .nil) .nil) (.cons (.ret (.new 0 25 (.cons (.bin .add (.bin .mul (.fld (.v 0) 0) (.sub (.v 2) (.int 1))) (.bin .mul (.sub (.v 2) (.int 0)) (.fld (.v 0) 1))) (.cons (.bin .mul (.fld (.v 0) 1) (.sub (.v 2) (.int 1))) .nil)))) .nil))), .F, none, []⟩
def c29 : Fc := ⟨2, 3, (.cons (.asg (.name (2, [])) (.call 3 (.cons (.v 1) .nil))) (.cons (.iff (.isN (.v 2)) (.cons (.ret .nev) .nil) .nil) (.cons (.ret (.new 0 25 (.cons (.bin .sub (.bin .mul (.fld (.v 0) 0) (.sub (.v 2) (.int 1))) (.bin .mul (.sub (.v 2) (.int 0)) (.fld (.v 0) 1))) (.cons (.bin .mul (.fld (.v 0) 1) (.sub (.v 2) (.int 1))) .nil)))) .nil))), .F, none, []⟩
def c30 : Fc := ⟨2, 3, (.cons (.asg (.name (2, [])) (.call 3 (.cons (.v 1) .nil))) (.cons (.iff (.isN (.v 2)) (.cons (.ret .nev) .nil) .nil) (.cons (.ret (.new 0 25 (.cons (.bin .sub (.bin .mul (.sub (.v 2) (.int 0)) (.fld (.v 0) 1)) (.bin .mul (.fld (.v 0) 0) (.sub (.v 2) (.int 1)))) (.cons (.bin .mul (.fld (.v 0) 1) (.sub (.v 2) (.int 1))) .nil)))) .nil))), .F, none, []⟩
def c31 : Fc := ⟨2, 3, (.cons (.asg (.name (2, [])) (.call 3 (.cons (.v 1) .nil))) (.cons (.iff (.isN (.v 2)) (.cons (.ret .nev) .nil) .nil) (.cons (.ret (.new 0 25 (.cons (.bin .mul (.fld (.v 0) 0) (.sub (.v 2) (.int 0))) (.cons (.bin .mul (.fld (.v 0) 1) (.sub (.v 2) (.int 1))) .nil)))) .nil))), .F, none, []⟩
def c32 : Fc := ⟨2, 3, (.cons (.asg (.name (2, [])) (.call 3 (.cons (.v 1) .nil))) (.cons (.iff (.isN (.v 2)) (.cons (.ret .nev) .nil) .nil) (.cons (.ret (.new 0 25 (.cons (.bin .mul (.fld (.v 0) 0) (.sub (.v 2) (.int 0))) (.cons (.bin .mul (.fld (.v 0) 1) (.sub (.v 2) (.int 1))) .nil)))) .nil))), .F, none, []⟩
def c33 : Fc := ⟨1, 1, (.cons (.ret (.new 0 25 (.cons (.neg (.fld (.v 0) 0)) (.cons (.fld (.v 0) 1) .nil)))) .nil), .F, none, []⟩
def c34 : Fc := ⟨2, 3, (.cons (.asg (.name (2, [])) (.call 3 (.cons (.v 1) .nil))) (.cons (.iff (.isN (.v 2)) (.cons (.ret (.bl false)) .nil) .nil) (.cons (.ret (.and (.cmp .eq (.fld (.v 0) 0) (.sub (.v 2) (.int 0))) (.cmp .eq (.fld (.v 0) 1) (.sub (.v 2) (.int 1))))) .nil))), .F, none, []⟩
def c35 : Fc := ⟨1, 1, (.cons (.ret (.bi .bool (.cons (.cmp .ne (.fld (.v 0) 0) (.int 0)) .nil))) .nil), .F, none, []⟩
def c36 : Fc := ⟨2, 3, (.cons (.asg (.name (2, [])) (.call 3 (.cons (.v 1) .nil))) (.cons (.iff (.or (.isN (.v 2)) (.cmp .eq (.sub (.v 2) (.int 0)) (.int 0))) (.cons (.raise 2 (.cons (.str "other") .nil)) .nil) .nil) (.cons (.ret (.new 0 25 (.cons (.bin .mul (.fld (.v 0) 0) (.sub (.v 2) (.int 1))) (.cons (.bin .mul (.fld (.v 0) 1) (.sub (.v 2) (.int 0))) .nil)))) .nil))), .F, none, []⟩
def c37 : Fc := ⟨1, 1, (.cons (.iff (.cmp .eq (.fld (.v 0) 0) (.int 0)) (.cons (.raise 2 (.cons (.str "top") .nil)) .nil) .nil) (.cons (.ret (.new 0 25 (.cons (.fld (.v 0) 1) (.cons (.fld (.v 0) 0) .nil)))) .nil)), .F, none, []⟩
def c38 : Fc := ⟨2, 5, (.cons (.iff (.or (.nt (.call 0 (.cons (.v 1) .nil))) (.or (.cmp .lt (.v 1) (.neg (.int 40))) (.or (.cmp .gt (.v 1) (.int 40)) (.and (.cmp .lt (.v 1) (.int 0)) (.cmp .eq (.fld (.v 0) 0) (.int 0)))))) (.cons (.raise 2 (.cons (.str "number") .nil)) .nil) .nil) (.cons (.asg (.tup [(3, []), (4, [])]) (.tup (.cons (.int 1) (.cons (.int 1) .nil)))) (.cons (.forr (.name (2, [])) (.rng1 (.bi .abs (.cons (.v 1) .nil))) (.cons (.par (3, []) (4, []) (.bin .mul (.v 3) (.fld (.v 0) 0)) (.bin .mul (.v 4) (.fld (.v 0) 1))) .nil)) (.cons (.iff (.cmp .lt (.v 1) (.int 0)) (.cons (.ret (.new 0 25 (.cons (.v 4) (.cons (.v 3) .nil)))) .nil) .nil) (.cons (.ret (.new 0 25 (.cons (.v 3) (.cons (.v 4) .nil)))) .nil))))), .F, none, []⟩
def c39 : Fc := ⟨1, 1, (.cons (.iff (.cmp .eq (.fld (.v 0) 1) (.int 1)) (.cons (.ret (.bi .str (.cons (.fld (.v 0) 0) .nil))) .nil) .nil) (.cons (.ret (.js (.cons (.fmt (.fld (.v 0) 0)) (.cons (.str "/") (.cons (.fmt (.fld (.v 0) 1)) .nil))))) .nil)), .F, none, []⟩
def c40 : Fc := { c25 with app := [.int 1] }
def tab : List Fc := [c0, c1, c2, c3, c4, c5, c6, c7, c8, c9, c10, c11, c12, c13, c14, c15, c16, c17, c18, c19, c20, c21, c22, c23, c24, c25, c26, c27, c28, c29, c30, c31, c32, c33, c34, c35, c36, c37, c38, c39, c40]
def T (n : Nat) : Fc := tab.getD n ⟨0, 0, .nil, .F, none, []⟩
def dns : Tb Dn := [[(.add, 27), (.radd, 28), (.sub, 29), (.rsub, 30), (.mul, 31), (.rmul, 32), (.neg, 33), (.eq, 34), (.bool, 35)]]
def fds : Tb Nat := [[(0, 0), (1, 1)]]
def mts : Tb Nat := [[(1, 36), (2, 37), (3, 38), (4, 39)]]
def xn : List Nat := List.range' 1 3
def bel : Nat := 42528
def xf : List ((Nat × Nat) × Nat) := [((2, 2), 0), ((3, 3), 0)]
def P : Pt where
  cls := fun c => { dn := fun d => (dns.getD c []).lookup d, fd := fun f => (fds.getD c []).lookup f, mt := fun f => (mts.getD c []).lookup f, is := Nat.blt c 1 }
  below := fun c c2 => Nat.beq c2 999 || Nat.testBit bel (c * 4 + c2)
  xok := fun c l => match c, l with | 1, [] => true | 2, [d0] => fmtOk d0 | 3, [d0] => fmtOk d0 | _, _ => false
  isx := fun c => Nat.ble 1 c && Nat.blt c 4
  xfd := fun c f => xf.lookup (c, f)
def xs : List (Str × Nat) := [(("StepError" : Str), 1), (("BadNumber" : Str), 2), (("BadTable" : Str), 3)]
def mks : List (Str × Nat × Nat) := [(("Ratio" : Str), 0, 25), (("Ratio" : Str), 0, 40)]
def sms : List (Str × Str × Nat) := [(("Ratio" : Str), ("lowest" : Str), 26)]
def mns : List Str := ["lowest", "over", "inverse", "to_power", "told"]
def fns : List Str := ["top", "bottom", "name", "place"]

end G78
set_option Elab.async false
set_option linter.all false
set_option maxRecDepth 100000
set_option maxHeartbeats 4000000
namespace G78
open PySem L2 PySem.Spec PyProof.Rows Ev
def top (i : Nat) : Stmt := PySem.Challenge.pw_steprows_k78_exact_fractions.main.body.getD i (.Pass ⟨0, 0, 0, 0⟩)
def clsB : Stmt → List Stmt
  | .ClassDef (body := b) .. => b
  | _ => []
def meth (i j : Nat) : Stmt := (clsB (top i)).getD j (.Pass ⟨0, 0, 0, 0⟩)
abbrev PR : Program := PySem.Challenge.pw_steprows_k78_exact_fractions
def frs : List Str := [("len" : Str), ("abs" : Str), ("int" : Str), ("bool" : Str), ("str" : Str), ("tuple" : Str), ("list" : Str), ("sum" : Str), ("max" : Str), ("min" : Str), ("sorted" : Str), ("any" : Str), ("all" : Str), ("range" : Str), ("enumerate" : Str), ("zip" : Str), ("isinstance" : Str), ("ValueError" : Str), ("super" : Str)]
def nms : List (Option Str) := [some ("plain_integer" : Str), some ("ratios_divisor" : Str), some ("ratios_lowest" : Str), some ("ratio_pair" : Str), some ("ratio_of" : Str), some ("whole" : Str), some ("_law_stream" : Str), some ("_law_take" : Str), some ("_law_int" : Str), some ("_law_divisor" : Str), some ("_law_low" : Str), some ("_law_add" : Str), some ("_law_minus" : Str), some ("_law_times" : Str), some ("_law_by" : Str), some ("_law_pair" : Str), some ("_law_whole" : Str), some ("_law_drawn" : Str), some ("_law_told" : Str), some ("_law_power" : Str), some ("_law_signs_good" : Str), some ("_law_methods_good" : Str), some ("_law_made_good" : Str), some ("_law_whole_good" : Str), some ("law" : Str), none, none, none, none, none, none, none, none, none, none, none, none, none, none, none, none]
theorem HP (c : Nat) (h : c < 1) : (P.cls c).is = true := by
  match c, h with
  | 0, _ => rfl
theorem hix : ∀ c f k, P.xfd c f = some k → P.isx c = true := hix_of (xf := xf) (by decide +kernel)
abbrev l0 : List (Nat × Nat) := [(0, 0)]
abbrev N0 : List Str := ["thing"]
theorem sc0 : FnScope N0 ["thing"] (defScope (top 6)) := ⟨rfl, rfl, rfl, by decide +kernel, rfl, by decide +kernel, by decide +kernel⟩
theorem ND0 : N0.Nodup := by decide +kernel
theorem b0 {w : World} {K : PySem.W.Frag} {mg : Str → Option Value} {base : Heap} {g : G} {φ : Phi} {k : Nat} {f : Addr} (B : Tab PR w K mg base g φ T nms frs k) (C : TabC PR w K mg base g φ P T mks mns fns k) (KF : Kits K P g) (KT : KitsT K P g) (OPS : OpsAll PR w K mg base g φ P k) (BX : TabX PR w K mg base g P xs (k + 1)) (XF : XFacts K g P fns) (BM : TabM PR w K mg base g φ T sms k) (BB : DnB PR w K mg base g φ P k) (cdv : Value) (A : Around) (outer : List Env) (s : Shared) (H : Hp) (E : XK) (hr2 : Room (k + 2) (A.deeper (envOfC "plain_integer" (defScope (top 6)) s.heap.objs.size f cdv))) :
    PSs (cxOf (L2.CX PR w) PR w K mg base N0 "plain_integer" (defScope (top 6)) f cdv A outer s H E) (defBody (top 6)) (tSs g φ P ⟨l0, [], []⟩ (fun c dd _ H' => E c dd H') .F c0.body) := by
  have hr := hr2.mono (Nat.le_add_right k 2)
  have hr1 := hr2.mono (Nat.le_succ (k + 1))
  have ND := ND0
  have hK : K = g.K := B.eK.symm
  have H9 : P.isx 999 = false := rfl
  have HIX := hix
  have O := OPS.fn (N := N0) (ty := ⟨l0, [], []⟩) cdv A outer s H E hr1
  have OC := @OpsAll.blk _ _ _ _ _ _ _ _ _ ⟨l0, [], []⟩ N0 _ _ _ OPS cdv A outer s H E hr1
  exact (ss_cons (s_ret (s_and (t_isi B KF .int rfl rfl rfl (B.free "isinstance" (by decide)) (B.free "int" (by decide)) (v0 0 rfl rfl (.inl rfl) rfl rfl) rfl) (s_one (s_nt (t_isi B KF .bool rfl rfl rfl (B.free "isinstance" (by decide)) (B.free "bool" (by decide)) (v0 0 rfl rfl (.inl rfl) rfl rfl) rfl) hK)) hK)) ss_nil)
abbrev l1 : List (Nat × Nat) := [(0, 0), (1, 0)]
abbrev N1 : List Str := ["one", "other"]
theorem sc1 : FnScope N1 ["one", "other"] (defScope (top 7)) := ⟨rfl, rfl, rfl, by decide +kernel, rfl, by decide +kernel, by decide +kernel⟩
theorem ND1 : N1.Nodup := by decide +kernel
theorem b1 {w : World} {K : PySem.W.Frag} {mg : Str → Option Value} {base : Heap} {g : G} {φ : Phi} {k : Nat} {f : Addr} (B : Tab PR w K mg base g φ T nms frs k) (C : TabC PR w K mg base g φ P T mks mns fns k) (KF : Kits K P g) (KT : KitsT K P g) (OPS : OpsAll PR w K mg base g φ P k) (BX : TabX PR w K mg base g P xs (k + 1)) (XF : XFacts K g P fns) (BM : TabM PR w K mg base g φ T sms k) (BB : DnB PR w K mg base g φ P k) (cdv : Value) (A : Around) (outer : List Env) (s : Shared) (H : Hp) (E : XK) (hr2 : Room (k + 2) (A.deeper (envOfC "ratios_divisor" (defScope (top 7)) s.heap.objs.size f cdv))) :
    PSs (cxOf (L2.CX PR w) PR w K mg base N1 "ratios_divisor" (defScope (top 7)) f cdv A outer s H E) (defBody (top 7)) (tSs g φ P ⟨l1, [], []⟩ (fun c dd _ H' => E c dd H') .F c1.body) := by
  have hr := hr2.mono (Nat.le_add_right k 2)
  have hr1 := hr2.mono (Nat.le_succ (k + 1))
  have ND := ND1
  have hK : K = g.K := B.eK.symm
  have H9 : P.isx 999 = false := rfl
  have HIX := hix
  have O := OPS.fn (N := N1) (ty := ⟨l1, [], []⟩) cdv A outer s H E hr1
  have OC := @OpsAll.blk _ _ _ _ _ _ _ _ _ ⟨l1, [], []⟩ N1 _ _ _ OPS cdv A outer s H E hr1
  exact (ss_cons (s_par (q := 0) (r := 1) rfl ND rfl rfl (by decide) (nmok rfl) (nmok rfl) rfl rfl (s_bi1 (bi := .abs) rfl rfl hK rfl (B.free "abs" (by decide)) (v0 0 rfl rfl (.inl rfl) rfl rfl) (fun _ => rfl) rfl) (s_bi1 (bi := .abs) rfl rfl hK rfl (B.free "abs" (by decide)) (v0 1 rfl rfl (.inl rfl) rfl rfl) (fun _ => rfl) rfl) rfl rfl (by first | rfl | with_unfolding_all rfl | kernel_rfl)) (ss_cons (s_whl po_fn (tcmp (o := .ne) O hK hr (v0 1 rfl rfl (.inl rfl) rfl rfl) s_int rfl rfl nbF rfl) (ss_cons (s_par (q := 0) (r := 1) rfl ND rfl rfl (by decide) (nmok rfl) (nmok rfl) rfl rfl (v0 1 rfl rfl (.inl rfl) rfl rfl) (pbin (o := .mod) O hK (v0 0 rfl rfl (.inl rfl) rfl rfl) (v0 1 rfl rfl (.inl rfl) rfl rfl) rfl rfl nbF) rfl rfl (by first | rfl | with_unfolding_all rfl | kernel_rfl)) ss_nil)) (ss_cons (s_ret (v0 0 rfl rfl (.inl rfl) rfl rfl)) ss_nil)))
abbrev l2 : List (Nat × Nat) := [(0, 0), (1, 0), (2, 0)]
abbrev N2 : List Str := ["top", "bottom", "shared"]
theorem sc2 : FnScope N2 ["top", "bottom"] (defScope (top 8)) := ⟨rfl, rfl, rfl, by decide +kernel, rfl, by decide +kernel, by decide +kernel⟩
theorem ND2 : N2.Nodup := by decide +kernel
theorem b2 {w : World} {K : PySem.W.Frag} {mg : Str → Option Value} {base : Heap} {g : G} {φ : Phi} {k : Nat} {f : Addr} (B : Tab PR w K mg base g φ T nms frs k) (C : TabC PR w K mg base g φ P T mks mns fns k) (KF : Kits K P g) (KT : KitsT K P g) (OPS : OpsAll PR w K mg base g φ P k) (BX : TabX PR w K mg base g P xs (k + 1)) (XF : XFacts K g P fns) (BM : TabM PR w K mg base g φ T sms k) (BB : DnB PR w K mg base g φ P k) (cdv : Value) (A : Around) (outer : List Env) (s : Shared) (H : Hp) (E : XK) (hr2 : Room (k + 2) (A.deeper (envOfC "ratios_lowest" (defScope (top 8)) s.heap.objs.size f cdv))) :
    PSs (cxOf (L2.CX PR w) PR w K mg base N2 "ratios_lowest" (defScope (top 8)) f cdv A outer s H E) (defBody (top 8)) (tSs g φ P ⟨l2, [], []⟩ (fun c dd _ H' => E c dd H') .F c2.body) := by
  have hr := hr2.mono (Nat.le_add_right k 2)
  have hr1 := hr2.mono (Nat.le_succ (k + 1))
  have ND := ND2
  have hK : K = g.K := B.eK.symm
  have H9 : P.isx 999 = false := rfl
  have HIX := hix
  have O := OPS.fn (N := N2) (ty := ⟨l2, [], []⟩) cdv A outer s H E hr1
  have OC := @OpsAll.blk _ _ _ _ _ _ _ _ _ ⟨l2, [], []⟩ N2 _ _ _ OPS cdv A outer s H E hr1
  exact (ss_cons (s_set (q := 2) (k := 0) (t_call B hr tk_fn 1 "ratios_divisor" rfl rfl rfl rfl rfl (s_cons (v0 0 rfl rfl (.inl rfl) rfl rfl) (s_cons (v0 1 rfl rfl (.inl rfl) rfl rfl) s_nil rfl) rfl) (fun z => by first | rfl | cases z) rfl) (nmok rfl) ND rfl (.inl rfl) (.inl rfl) rfl) (ss_cons (s_iff (tcmp (o := .lt) O hK hr (v0 1 rfl rfl (.inl rfl) rfl rfl) s_int rfl rfl nbF rfl) (ss_cons (s_set (q := 2) (k := 0) (s_neg (v0 2 rfl rfl (.inl rfl) rfl rfl) O.neg) (nmok rfl) ND rfl (.inl rfl) (.inl rfl) rfl) ss_nil) ss_nil) (ss_cons (s_ret (s_tup (s_cons (pbin (o := .fdiv) O hK (v0 0 rfl rfl (.inl rfl) rfl rfl) (v0 2 rfl rfl (.inl rfl) rfl rfl) rfl rfl nbF) (s_cons (pbin (o := .fdiv) O hK (v0 1 rfl rfl (.inl rfl) rfl rfl) (v0 2 rfl rfl (.inl rfl) rfl rfl) rfl rfl nbF) s_nil rfl) rfl))) ss_nil)))
abbrev l3 : List (Nat × Nat) := [(0, 0)]
abbrev N3 : List Str := ["thing"]
theorem sc3 : FnScope N3 ["thing"] (defScope (top 9)) := ⟨rfl, rfl, rfl, by decide +kernel, rfl, by decide +kernel, by decide +kernel⟩
theorem ND3 : N3.Nodup := by decide +kernel
theorem b3 {w : World} {K : PySem.W.Frag} {mg : Str → Option Value} {base : Heap} {g : G} {φ : Phi} {k : Nat} {f : Addr} (B : Tab PR w K mg base g φ T nms frs k) (C : TabC PR w K mg base g φ P T mks mns fns k) (KF : Kits K P g) (KT : KitsT K P g) (OPS : OpsAll PR w K mg base g φ P k) (BX : TabX PR w K mg base g P xs (k + 1)) (XF : XFacts K g P fns) (BM : TabM PR w K mg base g φ T sms k) (BB : DnB PR w K mg base g φ P k) (cdv : Value) (A : Around) (outer : List Env) (s : Shared) (H : Hp) (E : XK) (hr2 : Room (k + 2) (A.deeper (envOfC "ratio_pair" (defScope (top 9)) s.heap.objs.size f cdv))) :
    PSs (cxOf (L2.CX PR w) PR w K mg base N3 "ratio_pair" (defScope (top 9)) f cdv A outer s H E) (defBody (top 9)) (tSs g φ P ⟨l3, [], []⟩ (fun c dd _ H' => E c dd H') .F c3.body) := by
  have hr := hr2.mono (Nat.le_add_right k 2)
  have hr1 := hr2.mono (Nat.le_succ (k + 1))
  have ND := ND3
  have hK : K = g.K := B.eK.symm
  have H9 : P.isx 999 = false := rfl
  have HIX := hix
  have O := OPS.fn (N := N3) (ty := ⟨l3, [], []⟩) cdv A outer s H E hr1
  have OC := @OpsAll.blk _ _ _ _ _ _ _ _ _ ⟨l3, [], []⟩ N3 _ _ _ OPS cdv A outer s H E hr1
  exact (ss_cons (s_iff (s_tru (t_isiO C hK KF "Ratio" 0 25 (by decide) (HP 0 (by decide)) rfl rfl rfl (B.free "isinstance" (by decide)) (v0 0 rfl rfl (.inl rfl) rfl rfl) rfl) hK (fun _ => rfl)) (ss_cons (s_ret (s_tup (s_cons (t_fld C 0 "top" rfl (v0 0 rfl rfl (.inl rfl) rfl rfl) rfl) (s_cons (t_fld C 1 "bottom" rfl (v0 0 rfl rfl (.inl rfl) rfl rfl) rfl) s_nil rfl) rfl))) ss_nil) ss_nil) (ss_cons (s_iff (s_tru (t_call B hr tk_fn 0 "plain_integer" rfl rfl rfl rfl rfl (s_cons (v0 0 rfl rfl (.inl rfl) rfl rfl) s_nil rfl) (fun z => by first | rfl | cases z) rfl) hK (fun _ => rfl)) (ss_cons (s_ret (s_tup (s_cons (v0 0 rfl rfl (.inl rfl) rfl rfl) (s_cons s_int s_nil rfl) rfl))) ss_nil) ss_nil) (ss_cons (s_ret s_non) ss_nil)))
abbrev l4 : List (Nat × Nat) := [(0, 0), (1, 0)]
abbrev N4 : List Str := ["thing", "pair"]
theorem sc4 : FnScope N4 ["thing"] (defScope (top 10)) := ⟨rfl, rfl, rfl, by decide +kernel, rfl, by decide +kernel, by decide +kernel⟩
theorem ND4 : N4.Nodup := by decide +kernel
theorem b4 {w : World} {K : PySem.W.Frag} {mg : Str → Option Value} {base : Heap} {g : G} {φ : Phi} {k : Nat} {f : Addr} (B : Tab PR w K mg base g φ T nms frs k) (C : TabC PR w K mg base g φ P T mks mns fns k) (KF : Kits K P g) (KT : KitsT K P g) (OPS : OpsAll PR w K mg base g φ P k) (BX : TabX PR w K mg base g P xs (k + 1)) (XF : XFacts K g P fns) (BM : TabM PR w K mg base g φ T sms k) (BB : DnB PR w K mg base g φ P k) (cdv : Value) (A : Around) (outer : List Env) (s : Shared) (H : Hp) (E : XK) (hr2 : Room (k + 2) (A.deeper (envOfC "ratio_of" (defScope (top 10)) s.heap.objs.size f cdv))) :
    PSs (cxOf (L2.CX PR w) PR w K mg base N4 "ratio_of" (defScope (top 10)) f cdv A outer s H E) (defBody (top 10)) (tSs g φ P ⟨l4, [], []⟩ (fun c dd _ H' => E c dd H') .F c4.body) := by
  have hr := hr2.mono (Nat.le_add_right k 2)
  have hr1 := hr2.mono (Nat.le_succ (k + 1))
  have ND := ND4
  have hK : K = g.K := B.eK.symm
  have H9 : P.isx 999 = false := rfl
  have HIX := hix
  have O := OPS.fn (N := N4) (ty := ⟨l4, [], []⟩) cdv A outer s H E hr1
  have OC := @OpsAll.blk _ _ _ _ _ _ _ _ _ ⟨l4, [], []⟩ N4 _ _ _ OPS cdv A outer s H E hr1
  exact (ss_cons (s_set (q := 1) (k := 0) (t_call B hr tk_fn 3 "ratio_pair" rfl rfl rfl rfl rfl (s_cons (v0 0 rfl rfl (.inl rfl) rfl rfl) s_nil rfl) (fun z => by first | rfl | cases z) rfl) (nmok rfl) ND rfl (.inl rfl) (.inl rfl) rfl) (ss_cons (s_iff (t_isN (v0 1 rfl rfl (.inl rfl) rfl rfl) hK) (ss_cons (s_raise rfl BX hr2 tk_fn "BadNumber" 2 (by decide) rfl rfl (s_cons s_str s_nil rfl) (fun z => by first | rfl | cases z) rfl) ss_nil) ss_nil) (ss_cons (s_ret (s_low (t_new C hr1 tk_fn "Ratio" 0 25 (by decide) rfl rfl rfl rfl (s_cons (s_sub (v0 1 rfl rfl (.inl rfl) rfl rfl) s_int rfl nbF (fun _ _ => rfl) hK) (s_cons (s_sub (v0 1 rfl rfl (.inl rfl) rfl rfl) s_int rfl nbF (fun _ _ => rfl) hK) s_nil rfl) rfl) (fun z => by first | rfl | cases z) rfl))) ss_nil)))
abbrev l5 : List (Nat × Nat) := [(0, 0), (1, 0), (2, 0), (3, 0), (4, 0), (5, 0), (6, 0), (7, 0), (8, 0)]
abbrev N5 : List Str := ["row", "pairs", "common", "tops", "shared", "top", "_", "bottom", "part"]
theorem sc5 : FnScope N5 ["row"] (defScope (top 11)) := ⟨rfl, rfl, rfl, by decide +kernel, rfl, by decide +kernel, by decide +kernel⟩
theorem ND5 : N5.Nodup := by decide +kernel
theorem b5 {w : World} {K : PySem.W.Frag} {mg : Str → Option Value} {base : Heap} {g : G} {φ : Phi} {k : Nat} {f : Addr} (B : Tab PR w K mg base g φ T nms frs k) (C : TabC PR w K mg base g φ P T mks mns fns k) (KF : Kits K P g) (KT : KitsT K P g) (OPS : OpsAll PR w K mg base g φ P k) (BX : TabX PR w K mg base g P xs (k + 1)) (XF : XFacts K g P fns) (BM : TabM PR w K mg base g φ T sms k) (BB : DnB PR w K mg base g φ P k) (cdv : Value) (A : Around) (outer : List Env) (s : Shared) (H : Hp) (E : XK) (hr2 : Room (k + 2) (A.deeper (envOfC "whole" (defScope (top 11)) s.heap.objs.size f cdv))) :
    PSs (cxOf (L2.CX PR w) PR w K mg base N5 "whole" (defScope (top 11)) f cdv A outer s H E) (defBody (top 11)) (tSs g φ P ⟨l5, [], []⟩ (fun c dd _ H' => E c dd H') .F c5.body) := by
  have hr := hr2.mono (Nat.le_add_right k 2)
  have hr1 := hr2.mono (Nat.le_succ (k + 1))
  have ND := ND5
  have hK : K = g.K := B.eK.symm
  have H9 : P.isx 999 = false := rfl
  have HIX := hix
  have O := OPS.fn (N := N5) (ty := ⟨l5, [], []⟩) cdv A outer s H E hr1
  have OC := @OpsAll.blk _ _ _ _ _ _ _ _ _ ⟨l5, [], []⟩ N5 _ _ _ OPS cdv A outer s H E hr1
  exact (ss_cons (s_setLc (k := 0) (d := 0) (q := 1) (own := [("part", 8)]) (.inl rfl) (nmok rfl) rfl rfl (sw_true rfl rfl rfl rfl) rfl ND (blkOk_by rfl) (lcok rfl) (s_seq hK (v0 0 rfl rfl (.inl rfl) rfl rfl)) (fun _ _ _ _ _ => (s_gname ND ⟨⟨8, (nmok rfl), rfl⟩, (.inl rfl), (.inr rfl)⟩)) (fun _ _ _ _ _ => s_c0) (fun _ _ _ _ _ => (t_call B hr takes0 3 "ratio_pair" rfl rfl rfl rfl rfl (s_cons (v0 8 rfl rfl (.inl rfl) rfl rfl) s_nil rfl) (fun z => by first | rfl | cases z) rfl)) (folded_no rfl)) (ss_cons (s_set (q := 2) (k := 0) s_int (nmok rfl) ND rfl (.inr rfl) (.inl rfl) rfl) (ss_cons (s_for po_fn rfl (s_seq hK (v0 1 rfl rfl (.inl rfl) rfl rfl)) (s_gtup hK rfl ND (NmsAt.cons ⟨⟨6, (nmok rfl), rfl⟩, (.inl rfl), (.inl rfl)⟩ (NmsAt.cons ⟨⟨7, (nmok rfl), rfl⟩, (.inl rfl), (.inl rfl)⟩ NmsAt.nil))) (ss_cons (s_set (q := 2) (k := 0) (pbin (o := .fdiv) O hK (pbin (o := .mul) O hK (v0 2 rfl rfl (.inr (.inl rfl)) rfl rfl) (v0 7 rfl rfl (.inl rfl) rfl rfl) rfl rfl nbF) (t_call B hr tk_fn 1 "ratios_divisor" rfl rfl rfl rfl rfl (s_cons (v0 2 rfl rfl (.inr (.inl rfl)) rfl rfl) (s_cons (v0 7 rfl rfl (.inl rfl) rfl rfl) s_nil rfl) rfl) (fun z => by first | rfl | cases z) rfl) rfl rfl nbF) (nmok rfl) ND rfl (.inr rfl) (.inl rfl) rfl) ss_nil) (folded_no rfl)) (ss_cons (s_setLc (k := 0) (d := 0) (q := 3) (own := [("top", 5), ("bottom", 7)]) (.inl rfl) (nmok rfl) rfl rfl (sw_true rfl rfl rfl rfl) rfl ND (blkOk_by rfl) (lcok rfl) (s_seq hK (v0 1 rfl rfl (.inl rfl) rfl rfl)) (fun _ _ _ _ _ => (s_gtup hK rfl ND (NmsAt.cons ⟨⟨5, (nmok rfl), rfl⟩, (.inl rfl), (.inr rfl)⟩ (NmsAt.cons ⟨⟨7, (nmok rfl), rfl⟩, (.inl rfl), (.inr rfl)⟩ NmsAt.nil)))) (fun _ _ _ _ _ => s_c0) (fun _ _ _ _ _ => (pbin (o := .mul) OC hK (v0 5 rfl rfl (.inl rfl) rfl rfl) (pbin (o := .fdiv) OC hK (v0 2 rfl rfl (.inr (.inl rfl)) rfl rfl) (v0 7 rfl rfl (.inl rfl) rfl rfl) rfl rfl nbF) rfl rfl nbF)) (folded_no rfl)) (ss_cons (s_set (q := 4) (k := 0) s_int (nmok rfl) ND rfl (.inr rfl) (.inl rfl) rfl) (ss_cons (s_for po_fn rfl (s_seq hK (v0 3 rfl rfl (.inl rfl) rfl rfl)) (s_gname ND ⟨⟨5, (nmok rfl), rfl⟩, (.inl rfl), (.inl rfl)⟩) (ss_cons (s_set (q := 4) (k := 0) (t_call B hr tk_fn 1 "ratios_divisor" rfl rfl rfl rfl rfl (s_cons (v0 4 rfl rfl (.inr (.inl rfl)) rfl rfl) (s_cons (v0 5 rfl rfl (.inl rfl) rfl rfl) s_nil rfl) rfl) (fun z => by first | rfl | cases z) rfl) (nmok rfl) ND rfl (.inr rfl) (.inl rfl) rfl) ss_nil) (folded_no rfl)) (ss_cons (s_iff (tcmp (o := .eq) O hK hr (v0 4 rfl rfl (.inr (.inl rfl)) rfl rfl) s_int rfl rfl nbF rfl) (ss_cons (s_ret (s_bi1 (bi := .tuple) rfl rfl hK rfl (B.free "tuple" (by decide)) (v0 3 rfl rfl (.inl rfl) rfl rfl) (fun _ => rfl) rfl)) ss_nil) ss_nil) (ss_cons (s_ret (s_bi1 (bi := .tuple) rfl rfl hK rfl (B.free "tuple" (by decide)) (s_low (s_lc (k := 0) (own := [("top", 5)]) rfl ND (blkOk_by rfl) (lcok rfl) (s_seq hK (v0 3 rfl rfl (.inl rfl) rfl rfl)) (fun _ _ _ _ _ => (s_gname ND ⟨⟨5, (nmok rfl), rfl⟩, (.inl rfl), (.inr rfl)⟩)) (fun _ _ _ _ _ => s_c0) (fun _ _ _ _ _ => (pbin (o := .fdiv) OC hK (v0 5 rfl rfl (.inl rfl) rfl rfl) (v0 4 rfl rfl (.inr (.inl rfl)) rfl rfl) rfl rfl nbF)) (folded_no rfl))) (fun _ => rfl) rfl)) ss_nil))))))))
abbrev l6 : List (Nat × Nat) := [(0, 0), (1, 1), (2, 0), (3, 0), (4, 0), (5, 0), (1, 0)]
abbrev N6 : List Str := ["_law_script", "_law_row", "_law_at", "_law_cell", "_law_turn", "_law_mix"]
theorem sc6 : FnScope N6 ["_law_script"] (defScope (top 13)) := ⟨rfl, rfl, rfl, by decide +kernel, rfl, by decide +kernel, by decide +kernel⟩
theorem ND6 : N6.Nodup := by decide +kernel
theorem b6 {w : World} {K : PySem.W.Frag} {mg : Str → Option Value} {base : Heap} {g : G} {φ : Phi} {k : Nat} {f : Addr} (B : Tab PR w K mg base g φ T nms frs k) (C : TabC PR w K mg base g φ P T mks mns fns k) (KF : Kits K P g) (KT : KitsT K P g) (OPS : OpsAll PR w K mg base g φ P k) (BX : TabX PR w K mg base g P xs (k + 1)) (XF : XFacts K g P fns) (BM : TabM PR w K mg base g φ T sms k) (BB : DnB PR w K mg base g φ P k) (cdv : Value) (A : Around) (outer : List Env) (s : Shared) (H : Hp) (E : XK) (hr2 : Room (k + 2) (A.deeper (envOfC "_law_stream" (defScope (top 13)) s.heap.objs.size f cdv))) :
    PSs (cxOf (L2.CX PR w) PR w K mg base N6 "_law_stream" (defScope (top 13)) f cdv A outer s H E) (defBody (top 13)) (tSs g φ P ⟨l6, [], []⟩ (fun c dd _ H' => E c dd H') (.own 1) c6.body) := by
  have hr := hr2.mono (Nat.le_add_right k 2)
  have hr1 := hr2.mono (Nat.le_succ (k + 1))
  have ND := ND6
  have hK : K = g.K := B.eK.symm
  have H9 : P.isx 999 = false := rfl
  have HIX := hix
  have O := OPS.fn (N := N6) (ty := ⟨l6, [], []⟩) cdv A outer s H E hr1
  have OC := @OpsAll.blk _ _ _ _ _ _ _ _ _ ⟨l6, [], []⟩ N6 _ _ _ OPS cdv A outer s H E hr1
  exact (ss_cons (s_set (q := 1) (k := 1) (s_lst s_nil) (nmok rfl) ND rfl (.inl rfl) (.inl rfl) rfl) (ss_cons (s_for po_fn rfl (s_rng1 rfl (B.free "range" (by decide)) (s_bi2 (bi := .min2) (.inr rfl) rfl rfl (B.free "min" (by decide)) (s_cons (s_bi1 (bi := .len) rfl rfl hK rfl (B.free "len" (by decide)) (v0 0 rfl rfl (.inl rfl) rfl rfl) (fun _ => rfl) rfl) (s_cons s_int s_nil rfl) rfl) rfl) rfl) (s_gname ND ⟨⟨2, (nmok rfl), rfl⟩, (.inl rfl), (.inl rfl)⟩) (ss_cons (s_set (q := 3) (k := 0) (s_bi1 (bi := .int) rfl rfl hK rfl (B.free "int" (by decide)) (s_sub (v0 0 rfl rfl (.inl rfl) rfl rfl) (v0 2 rfl rfl (.inl rfl) rfl rfl) rfl nbF (fun _ _ => rfl) hK) (fun _ => rfl) rfl) (nmok rfl) ND rfl (.inl rfl) (.inl rfl) rfl) (ss_cons (s_iff (tcmp (o := .lt) O hK hr (v0 3 rfl rfl (.inl rfl) rfl rfl) s_int rfl rfl nbF rfl) (ss_cons (s_set (q := 3) (k := 0) (pbin (o := .sub) O hK s_int (v0 3 rfl rfl (.inl rfl) rfl rfl) rfl rfl nbF) (nmok rfl) ND rfl (.inl rfl) (.inl rfl) rfl) ss_nil) ss_nil) (ss_cons (s_iff (tcmp (o := .ge) O hK hr (v0 3 rfl rfl (.inl rfl) rfl rfl) (pbin (o := .pow) O hK s_int s_int rfl rfl nbF) rfl rfl nbF rfl) (ss_cons (s_for po_fn rfl (s_rng1 rfl (B.free "range" (by decide)) s_int rfl) (s_gname ND ⟨⟨4, (nmok rfl), rfl⟩, (.inl rfl), (.inl rfl)⟩) (ss_cons (s_iff (tcmp (o := .gt) O hK hr (v0 3 rfl rfl (.inl rfl) rfl rfl) s_int rfl rfl nbF rfl) (ss_cons (s_app (j := 1) (k := 0) rfl rfl (.inl rfl) rfl rfl (pbin (o := .mod) O hK (s_bi1 (bi := .int) rfl rfl hK rfl (B.free "int" (by decide)) (v0 3 rfl rfl (.inl rfl) rfl rfl) (fun _ => rfl) rfl) s_int rfl rfl nbF) rfl rfl) (ss_cons (s_set (q := 3) (k := 0) (pbin (o := .fdiv) O hK (v0 3 rfl rfl (.inl rfl) rfl rfl) s_int rfl rfl nbF) (nmok rfl) ND rfl (.inl rfl) (.inl rfl) rfl) ss_nil)) ss_nil) ss_nil) (folded_no rfl)) ss_nil) (ss_cons (s_set (q := 5) (k := 0) (pbin (o := .mod) O hK (s_bi1 (bi := .int) rfl rfl hK rfl (B.free "int" (by decide)) (pbin (o := .add) O hK (pbin (o := .add) O hK (pbin (o := .mul) O hK (v0 3 rfl rfl (.inl rfl) rfl rfl) s_int rfl rfl nbF) (pbin (o := .mul) O hK (v0 2 rfl rfl (.inl rfl) rfl rfl) s_int rfl rfl nbF) rfl rfl nbF) s_int rfl rfl nbF) (fun _ => rfl) rfl) s_int rfl rfl nbF) (nmok rfl) ND rfl (.inl rfl) (.inl rfl) rfl) (ss_cons (s_for po_fn rfl (s_rng1 rfl (B.free "range" (by decide)) s_int rfl) (s_gname ND ⟨⟨4, (nmok rfl), rfl⟩, (.inl rfl), (.inl rfl)⟩) (ss_cons (s_set (q := 5) (k := 0) (pbin (o := .mod) O hK (s_bi1 (bi := .int) rfl rfl hK rfl (B.free "int" (by decide)) (pbin (o := .add) O hK (pbin (o := .add) O hK (pbin (o := .add) O hK (pbin (o := .mul) O hK (v0 5 rfl rfl (.inl rfl) rfl rfl) (v0 5 rfl rfl (.inl rfl) rfl rfl) rfl rfl nbF) (pbin (o := .mul) O hK (v0 4 rfl rfl (.inl rfl) rfl rfl) s_int rfl rfl nbF) rfl rfl nbF) (pbin (o := .mul) O hK (v0 2 rfl rfl (.inl rfl) rfl rfl) s_int rfl rfl nbF) rfl rfl nbF) s_int rfl rfl nbF) (fun _ => rfl) rfl) s_int rfl rfl nbF) (nmok rfl) ND rfl (.inl rfl) (.inl rfl) rfl) (ss_cons (s_app (j := 1) (k := 0) rfl rfl (.inl rfl) rfl rfl (pbin (o := .mod) O hK (s_bi1 (bi := .int) rfl rfl hK rfl (B.free "int" (by decide)) (pbin (o := .fdiv) O hK (v0 5 rfl rfl (.inl rfl) rfl rfl) s_int rfl rfl nbF) (fun _ => rfl) rfl) s_int rfl rfl nbF) rfl rfl) ss_nil)) (folded_no rfl)) ss_nil))) ss_nil))) (folded_no rfl)) (ss_cons (s_rvs (j := 1) rfl rfl (.inl rfl) rfl rfl rfl) (ss_cons (s_ret (s_mov (j := 1) rfl rfl (.inl rfl) rfl rfl)) ss_nil))))
abbrev l7 : List (Nat × Nat) := [(0, 1), (1, 0)]
abbrev N7 : List Str := ["_law_stream_here", "_law_many"]
theorem sc7 : FnScope N7 ["_law_stream_here", "_law_many"] (defScope (top 14)) := ⟨rfl, rfl, rfl, by decide +kernel, rfl, by decide +kernel, by decide +kernel⟩
theorem ND7 : N7.Nodup := by decide +kernel
theorem b7 {w : World} {K : PySem.W.Frag} {mg : Str → Option Value} {base : Heap} {g : G} {φ : Phi} {k : Nat} {f : Addr} (B : Tab PR w K mg base g φ T nms frs k) (C : TabC PR w K mg base g φ P T mks mns fns k) (KF : Kits K P g) (KT : KitsT K P g) (OPS : OpsAll PR w K mg base g φ P k) (BX : TabX PR w K mg base g P xs (k + 1)) (XF : XFacts K g P fns) (BM : TabM PR w K mg base g φ T sms k) (BB : DnB PR w K mg base g φ P k) (v : V) (cdv : Value) (A : Around) (outer : List Env) (s : Shared) (H : Hp) (E : XK) (hr2 : Room (k + 2) (A.deeper (envOfC "_law_take" (defScope (top 14)) s.heap.objs.size f cdv))) :
    PSs (cxOf (L2.CX PR w) PR w K mg base N7 "_law_take" (defScope (top 14)) f cdv A outer s H E) (defBody (top 14)) (tSs g φ P ⟨l7, [(0, v)], []⟩ (fun c dd _ H' => E c dd H') .F c7.body) := by
  have hr := hr2.mono (Nat.le_add_right k 2)
  have hr1 := hr2.mono (Nat.le_succ (k + 1))
  have ND := ND7
  have hK : K = g.K := B.eK.symm
  have H9 : P.isx 999 = false := rfl
  have HIX := hix
  have O := OPS.fn (N := N7) (ty := ⟨l7, [(0, v)], []⟩) cdv A outer s H E hr1
  have OC := @OpsAll.blk _ _ _ _ _ _ _ _ _ ⟨l7, [(0, v)], []⟩ N7 _ _ _ OPS cdv A outer s H E hr1
  exact (ss_cons (s_iff (tcmp (o := .eq) O hK hr (s_bi1 (bi := .len) rfl rfl hK rfl (B.free "len" (by decide)) (vb 0 rfl rfl (.inl rfl) rfl rfl) (fun _ => rfl) rfl) s_int rfl rfl nbF rfl) (ss_cons (s_ret s_int) ss_nil) ss_nil) (ss_cons (s_ret (pbin (o := .mod) O hK (s_bi1 (bi := .int) rfl rfl hK rfl (B.free "int" (by decide)) (s_popl (j := 0) rfl rfl (.inl rfl) rfl rfl rfl) (fun _ => rfl) rfl) (v0 1 rfl rfl (.inl rfl) rfl rfl) rfl rfl nbF)) ss_nil))
abbrev l8 : List (Nat × Nat) := [(0, 0)]
abbrev N8 : List Str := ["_law_value"]
theorem sc8 : FnScope N8 ["_law_value"] (defScope (top 15)) := ⟨rfl, rfl, rfl, by decide +kernel, rfl, by decide +kernel, by decide +kernel⟩
theorem ND8 : N8.Nodup := by decide +kernel
theorem b8 {w : World} {K : PySem.W.Frag} {mg : Str → Option Value} {base : Heap} {g : G} {φ : Phi} {k : Nat} {f : Addr} (B : Tab PR w K mg base g φ T nms frs k) (C : TabC PR w K mg base g φ P T mks mns fns k) (KF : Kits K P g) (KT : KitsT K P g) (OPS : OpsAll PR w K mg base g φ P k) (BX : TabX PR w K mg base g P xs (k + 1)) (XF : XFacts K g P fns) (BM : TabM PR w K mg base g φ T sms k) (BB : DnB PR w K mg base g φ P k) (cdv : Value) (A : Around) (outer : List Env) (s : Shared) (H : Hp) (E : XK) (hr2 : Room (k + 2) (A.deeper (envOfC "_law_int" (defScope (top 15)) s.heap.objs.size f cdv))) :
    PSs (cxOf (L2.CX PR w) PR w K mg base N8 "_law_int" (defScope (top 15)) f cdv A outer s H E) (defBody (top 15)) (tSs g φ P ⟨l8, [], []⟩ (fun c dd _ H' => E c dd H') .F c8.body) := by
  have hr := hr2.mono (Nat.le_add_right k 2)
  have hr1 := hr2.mono (Nat.le_succ (k + 1))
  have ND := ND8
  have hK : K = g.K := B.eK.symm
  have H9 : P.isx 999 = false := rfl
  have HIX := hix
  have O := OPS.fn (N := N8) (ty := ⟨l8, [], []⟩) cdv A outer s H E hr1
  have OC := @OpsAll.blk _ _ _ _ _ _ _ _ _ ⟨l8, [], []⟩ N8 _ _ _ OPS cdv A outer s H E hr1
  exact (ss_cons (s_ret (s_and (t_isi B KF .int rfl rfl rfl (B.free "isinstance" (by decide)) (B.free "int" (by decide)) (v0 0 rfl rfl (.inl rfl) rfl rfl) rfl) (s_one (s_nt (t_isi B KF .bool rfl rfl rfl (B.free "isinstance" (by decide)) (B.free "bool" (by decide)) (v0 0 rfl rfl (.inl rfl) rfl rfl) rfl) hK)) hK)) ss_nil)
abbrev l9 : List (Nat × Nat) := [(0, 0), (1, 0), (2, 0), (3, 0)]
abbrev N9 : List Str := ["_law_one", "_law_other", "_law_turn", "_law_rest"]
theorem sc9 : FnScope N9 ["_law_one", "_law_other"] (defScope (top 16)) := ⟨rfl, rfl, rfl, by decide +kernel, rfl, by decide +kernel, by decide +kernel⟩
theorem ND9 : N9.Nodup := by decide +kernel
theorem b9 {w : World} {K : PySem.W.Frag} {mg : Str → Option Value} {base : Heap} {g : G} {φ : Phi} {k : Nat} {f : Addr} (B : Tab PR w K mg base g φ T nms frs k) (C : TabC PR w K mg base g φ P T mks mns fns k) (KF : Kits K P g) (KT : KitsT K P g) (OPS : OpsAll PR w K mg base g φ P k) (BX : TabX PR w K mg base g P xs (k + 1)) (XF : XFacts K g P fns) (BM : TabM PR w K mg base g φ T sms k) (BB : DnB PR w K mg base g φ P k) (cdv : Value) (A : Around) (outer : List Env) (s : Shared) (H : Hp) (E : XK) (hr2 : Room (k + 2) (A.deeper (envOfC "_law_divisor" (defScope (top 16)) s.heap.objs.size f cdv))) :
    PSs (cxOf (L2.CX PR w) PR w K mg base N9 "_law_divisor" (defScope (top 16)) f cdv A outer s H E) (defBody (top 16)) (tSs g φ P ⟨l9, [], []⟩ (fun c dd _ H' => E c dd H') .F c9.body) := by
  have hr := hr2.mono (Nat.le_add_right k 2)
  have hr1 := hr2.mono (Nat.le_succ (k + 1))
  have ND := ND9
  have hK : K = g.K := B.eK.symm
  have H9 : P.isx 999 = false := rfl
  have HIX := hix
  have O := OPS.fn (N := N9) (ty := ⟨l9, [], []⟩) cdv A outer s H E hr1
  have OC := @OpsAll.blk _ _ _ _ _ _ _ _ _ ⟨l9, [], []⟩ N9 _ _ _ OPS cdv A outer s H E hr1
  exact (ss_cons (s_set (q := 0) (k := 0) (s_bi1 (bi := .abs) rfl rfl hK rfl (B.free "abs" (by decide)) (v0 0 rfl rfl (.inl rfl) rfl rfl) (fun _ => rfl) rfl) (nmok rfl) ND rfl (.inl rfl) (.inl rfl) rfl) (ss_cons (s_set (q := 1) (k := 0) (s_bi1 (bi := .abs) rfl rfl hK rfl (B.free "abs" (by decide)) (v0 1 rfl rfl (.inl rfl) rfl rfl) (fun _ => rfl) rfl) (nmok rfl) ND rfl (.inl rfl) (.inl rfl) rfl) (ss_cons (s_for po_fn rfl (s_rng1 rfl (B.free "range" (by decide)) (pbin (o := .add) O hK (pbin (o := .mul) O hK s_int (s_blen (v0 1 rfl rfl (.inl rfl) rfl rfl) rfl rfl) rfl rfl nbF) s_int rfl rfl nbF) rfl) (s_gname ND ⟨⟨2, (nmok rfl), rfl⟩, (.inl rfl), (.inl rfl)⟩) (ss_cons (s_iff (tcmp (o := .gt) O hK hr (v0 1 rfl rfl (.inl rfl) rfl rfl) s_int rfl rfl nbF rfl) (ss_cons (s_set (q := 3) (k := 0) (pbin (o := .mod) O hK (s_bi1 (bi := .int) rfl rfl hK rfl (B.free "int" (by decide)) (v0 0 rfl rfl (.inl rfl) rfl rfl) (fun _ => rfl) rfl) (v0 1 rfl rfl (.inl rfl) rfl rfl) rfl rfl nbF) (nmok rfl) ND rfl (.inl rfl) (.inl rfl) rfl) (ss_cons (s_set (q := 0) (k := 0) (v0 1 rfl rfl (.inl rfl) rfl rfl) (nmok rfl) ND rfl (.inl rfl) (.inl rfl) rfl) (ss_cons (s_set (q := 1) (k := 0) (v0 3 rfl rfl (.inl rfl) rfl rfl) (nmok rfl) ND rfl (.inl rfl) (.inl rfl) rfl) ss_nil))) ss_nil) ss_nil) (folded_no rfl)) (ss_cons (s_ret (v0 0 rfl rfl (.inl rfl) rfl rfl)) ss_nil))))
abbrev l10 : List (Nat × Nat) := [(0, 0), (1, 0), (2, 0)]
abbrev N10 : List Str := ["_law_top", "_law_bottom", "_law_shared"]
theorem sc10 : FnScope N10 ["_law_top", "_law_bottom"] (defScope (top 17)) := ⟨rfl, rfl, rfl, by decide +kernel, rfl, by decide +kernel, by decide +kernel⟩
theorem ND10 : N10.Nodup := by decide +kernel
theorem b10 {w : World} {K : PySem.W.Frag} {mg : Str → Option Value} {base : Heap} {g : G} {φ : Phi} {k : Nat} {f : Addr} (B : Tab PR w K mg base g φ T nms frs k) (C : TabC PR w K mg base g φ P T mks mns fns k) (KF : Kits K P g) (KT : KitsT K P g) (OPS : OpsAll PR w K mg base g φ P k) (BX : TabX PR w K mg base g P xs (k + 1)) (XF : XFacts K g P fns) (BM : TabM PR w K mg base g φ T sms k) (BB : DnB PR w K mg base g φ P k) (cdv : Value) (A : Around) (outer : List Env) (s : Shared) (H : Hp) (E : XK) (hr2 : Room (k + 2) (A.deeper (envOfC "_law_low" (defScope (top 17)) s.heap.objs.size f cdv))) :
    PSs (cxOf (L2.CX PR w) PR w K mg base N10 "_law_low" (defScope (top 17)) f cdv A outer s H E) (defBody (top 17)) (tSs g φ P ⟨l10, [], []⟩ (fun c dd _ H' => E c dd H') .F c10.body) := by
  have hr := hr2.mono (Nat.le_add_right k 2)
  have hr1 := hr2.mono (Nat.le_succ (k + 1))
  have ND := ND10
  have hK : K = g.K := B.eK.symm
  have H9 : P.isx 999 = false := rfl
  have HIX := hix
  have O := OPS.fn (N := N10) (ty := ⟨l10, [], []⟩) cdv A outer s H E hr1
  have OC := @OpsAll.blk _ _ _ _ _ _ _ _ _ ⟨l10, [], []⟩ N10 _ _ _ OPS cdv A outer s H E hr1
  exact (ss_cons (s_iff (tcmp (o := .lt) O hK hr (v0 1 rfl rfl (.inl rfl) rfl rfl) s_int rfl rfl nbF rfl) (ss_cons (s_set (q := 0) (k := 0) (s_neg (v0 0 rfl rfl (.inl rfl) rfl rfl) O.neg) (nmok rfl) ND rfl (.inl rfl) (.inl rfl) rfl) (ss_cons (s_set (q := 1) (k := 0) (s_neg (v0 1 rfl rfl (.inl rfl) rfl rfl) O.neg) (nmok rfl) ND rfl (.inl rfl) (.inl rfl) rfl) ss_nil)) ss_nil) (ss_cons (s_set (q := 2) (k := 0) (t_call B hr tk_fn 9 "_law_divisor" rfl rfl rfl rfl rfl (s_cons (v0 0 rfl rfl (.inl rfl) rfl rfl) (s_cons (v0 1 rfl rfl (.inl rfl) rfl rfl) s_nil rfl) rfl) (fun z => by first | rfl | cases z) rfl) (nmok rfl) ND rfl (.inl rfl) (.inl rfl) rfl) (ss_cons (s_ret (s_tup (s_cons (pbin (o := .fdiv) O hK (v0 0 rfl rfl (.inl rfl) rfl rfl) (v0 2 rfl rfl (.inl rfl) rfl rfl) rfl rfl nbF) (s_cons (pbin (o := .fdiv) O hK (v0 1 rfl rfl (.inl rfl) rfl rfl) (v0 2 rfl rfl (.inl rfl) rfl rfl) rfl rfl nbF) s_nil rfl) rfl))) ss_nil)))
abbrev l11 : List (Nat × Nat) := [(0, 0), (1, 0)]
abbrev N11 : List Str := ["_law_one", "_law_other"]
theorem sc11 : FnScope N11 ["_law_one", "_law_other"] (defScope (top 18)) := ⟨rfl, rfl, rfl, by decide +kernel, rfl, by decide +kernel, by decide +kernel⟩
theorem ND11 : N11.Nodup := by decide +kernel
theorem b11 {w : World} {K : PySem.W.Frag} {mg : Str → Option Value} {base : Heap} {g : G} {φ : Phi} {k : Nat} {f : Addr} (B : Tab PR w K mg base g φ T nms frs k) (C : TabC PR w K mg base g φ P T mks mns fns k) (KF : Kits K P g) (KT : KitsT K P g) (OPS : OpsAll PR w K mg base g φ P k) (BX : TabX PR w K mg base g P xs (k + 1)) (XF : XFacts K g P fns) (BM : TabM PR w K mg base g φ T sms k) (BB : DnB PR w K mg base g φ P k) (cdv : Value) (A : Around) (outer : List Env) (s : Shared) (H : Hp) (E : XK) (hr2 : Room (k + 2) (A.deeper (envOfC "_law_add" (defScope (top 18)) s.heap.objs.size f cdv))) :
    PSs (cxOf (L2.CX PR w) PR w K mg base N11 "_law_add" (defScope (top 18)) f cdv A outer s H E) (defBody (top 18)) (tSs g φ P ⟨l11, [], []⟩ (fun c dd _ H' => E c dd H') .F c11.body) := by
  have hr := hr2.mono (Nat.le_add_right k 2)
  have hr1 := hr2.mono (Nat.le_succ (k + 1))
  have ND := ND11
  have hK : K = g.K := B.eK.symm
  have H9 : P.isx 999 = false := rfl
  have HIX := hix
  have O := OPS.fn (N := N11) (ty := ⟨l11, [], []⟩) cdv A outer s H E hr1
  have OC := @OpsAll.blk _ _ _ _ _ _ _ _ _ ⟨l11, [], []⟩ N11 _ _ _ OPS cdv A outer s H E hr1
  exact (ss_cons (s_ret (t_call B hr tk_fn 10 "_law_low" rfl rfl rfl rfl rfl (s_cons (pbin (o := .add) O hK (pbin (o := .mul) O hK (s_sub (v0 0 rfl rfl (.inl rfl) rfl rfl) s_int rfl nbF (fun _ _ => rfl) hK) (s_sub (v0 1 rfl rfl (.inl rfl) rfl rfl) s_int rfl nbF (fun _ _ => rfl) hK) rfl rfl nbF) (pbin (o := .mul) O hK (s_sub (v0 1 rfl rfl (.inl rfl) rfl rfl) s_int rfl nbF (fun _ _ => rfl) hK) (s_sub (v0 0 rfl rfl (.inl rfl) rfl rfl) s_int rfl nbF (fun _ _ => rfl) hK) rfl rfl nbF) rfl rfl nbF) (s_cons (pbin (o := .mul) O hK (s_sub (v0 0 rfl rfl (.inl rfl) rfl rfl) s_int rfl nbF (fun _ _ => rfl) hK) (s_sub (v0 1 rfl rfl (.inl rfl) rfl rfl) s_int rfl nbF (fun _ _ => rfl) hK) rfl rfl nbF) s_nil rfl) rfl) (fun z => by first | rfl | cases z) rfl)) ss_nil)
abbrev l12 : List (Nat × Nat) := [(0, 0), (1, 0)]
abbrev N12 : List Str := ["_law_one", "_law_other"]
theorem sc12 : FnScope N12 ["_law_one", "_law_other"] (defScope (top 19)) := ⟨rfl, rfl, rfl, by decide +kernel, rfl, by decide +kernel, by decide +kernel⟩
theorem ND12 : N12.Nodup := by decide +kernel
theorem b12 {w : World} {K : PySem.W.Frag} {mg : Str → Option Value} {base : Heap} {g : G} {φ : Phi} {k : Nat} {f : Addr} (B : Tab PR w K mg base g φ T nms frs k) (C : TabC PR w K mg base g φ P T mks mns fns k) (KF : Kits K P g) (KT : KitsT K P g) (OPS : OpsAll PR w K mg base g φ P k) (BX : TabX PR w K mg base g P xs (k + 1)) (XF : XFacts K g P fns) (BM : TabM PR w K mg base g φ T sms k) (BB : DnB PR w K mg base g φ P k) (cdv : Value) (A : Around) (outer : List Env) (s : Shared) (H : Hp) (E : XK) (hr2 : Room (k + 2) (A.deeper (envOfC "_law_minus" (defScope (top 19)) s.heap.objs.size f cdv))) :
    PSs (cxOf (L2.CX PR w) PR w K mg base N12 "_law_minus" (defScope (top 19)) f cdv A outer s H E) (defBody (top 19)) (tSs g φ P ⟨l12, [], []⟩ (fun c dd _ H' => E c dd H') .F c12.body) := by
  have hr := hr2.mono (Nat.le_add_right k 2)
  have hr1 := hr2.mono (Nat.le_succ (k + 1))
  have ND := ND12
  have hK : K = g.K := B.eK.symm
  have H9 : P.isx 999 = false := rfl
  have HIX := hix
  have O := OPS.fn (N := N12) (ty := ⟨l12, [], []⟩) cdv A outer s H E hr1
  have OC := @OpsAll.blk _ _ _ _ _ _ _ _ _ ⟨l12, [], []⟩ N12 _ _ _ OPS cdv A outer s H E hr1
  exact (ss_cons (s_ret (t_call B hr tk_fn 10 "_law_low" rfl rfl rfl rfl rfl (s_cons (pbin (o := .sub) O hK (pbin (o := .mul) O hK (s_sub (v0 0 rfl rfl (.inl rfl) rfl rfl) s_int rfl nbF (fun _ _ => rfl) hK) (s_sub (v0 1 rfl rfl (.inl rfl) rfl rfl) s_int rfl nbF (fun _ _ => rfl) hK) rfl rfl nbF) (pbin (o := .mul) O hK (s_sub (v0 1 rfl rfl (.inl rfl) rfl rfl) s_int rfl nbF (fun _ _ => rfl) hK) (s_sub (v0 0 rfl rfl (.inl rfl) rfl rfl) s_int rfl nbF (fun _ _ => rfl) hK) rfl rfl nbF) rfl rfl nbF) (s_cons (pbin (o := .mul) O hK (s_sub (v0 0 rfl rfl (.inl rfl) rfl rfl) s_int rfl nbF (fun _ _ => rfl) hK) (s_sub (v0 1 rfl rfl (.inl rfl) rfl rfl) s_int rfl nbF (fun _ _ => rfl) hK) rfl rfl nbF) s_nil rfl) rfl) (fun z => by first | rfl | cases z) rfl)) ss_nil)
abbrev l13 : List (Nat × Nat) := [(0, 0), (1, 0)]
abbrev N13 : List Str := ["_law_one", "_law_other"]
theorem sc13 : FnScope N13 ["_law_one", "_law_other"] (defScope (top 20)) := ⟨rfl, rfl, rfl, by decide +kernel, rfl, by decide +kernel, by decide +kernel⟩
theorem ND13 : N13.Nodup := by decide +kernel
theorem b13 {w : World} {K : PySem.W.Frag} {mg : Str → Option Value} {base : Heap} {g : G} {φ : Phi} {k : Nat} {f : Addr} (B : Tab PR w K mg base g φ T nms frs k) (C : TabC PR w K mg base g φ P T mks mns fns k) (KF : Kits K P g) (KT : KitsT K P g) (OPS : OpsAll PR w K mg base g φ P k) (BX : TabX PR w K mg base g P xs (k + 1)) (XF : XFacts K g P fns) (BM : TabM PR w K mg base g φ T sms k) (BB : DnB PR w K mg base g φ P k) (cdv : Value) (A : Around) (outer : List Env) (s : Shared) (H : Hp) (E : XK) (hr2 : Room (k + 2) (A.deeper (envOfC "_law_times" (defScope (top 20)) s.heap.objs.size f cdv))) :
    PSs (cxOf (L2.CX PR w) PR w K mg base N13 "_law_times" (defScope (top 20)) f cdv A outer s H E) (defBody (top 20)) (tSs g φ P ⟨l13, [], []⟩ (fun c dd _ H' => E c dd H') .F c13.body) := by
  have hr := hr2.mono (Nat.le_add_right k 2)
  have hr1 := hr2.mono (Nat.le_succ (k + 1))
  have ND := ND13
  have hK : K = g.K := B.eK.symm
  have H9 : P.isx 999 = false := rfl
  have HIX := hix
  have O := OPS.fn (N := N13) (ty := ⟨l13, [], []⟩) cdv A outer s H E hr1
  have OC := @OpsAll.blk _ _ _ _ _ _ _ _ _ ⟨l13, [], []⟩ N13 _ _ _ OPS cdv A outer s H E hr1
  exact (ss_cons (s_ret (t_call B hr tk_fn 10 "_law_low" rfl rfl rfl rfl rfl (s_cons (pbin (o := .mul) O hK (s_sub (v0 0 rfl rfl (.inl rfl) rfl rfl) s_int rfl nbF (fun _ _ => rfl) hK) (s_sub (v0 1 rfl rfl (.inl rfl) rfl rfl) s_int rfl nbF (fun _ _ => rfl) hK) rfl rfl nbF) (s_cons (pbin (o := .mul) O hK (s_sub (v0 0 rfl rfl (.inl rfl) rfl rfl) s_int rfl nbF (fun _ _ => rfl) hK) (s_sub (v0 1 rfl rfl (.inl rfl) rfl rfl) s_int rfl nbF (fun _ _ => rfl) hK) rfl rfl nbF) s_nil rfl) rfl) (fun z => by first | rfl | cases z) rfl)) ss_nil)
abbrev l14 : List (Nat × Nat) := [(0, 0), (1, 0)]
abbrev N14 : List Str := ["_law_one", "_law_other"]
theorem sc14 : FnScope N14 ["_law_one", "_law_other"] (defScope (top 21)) := ⟨rfl, rfl, rfl, by decide +kernel, rfl, by decide +kernel, by decide +kernel⟩
theorem ND14 : N14.Nodup := by decide +kernel
theorem b14 {w : World} {K : PySem.W.Frag} {mg : Str → Option Value} {base : Heap} {g : G} {φ : Phi} {k : Nat} {f : Addr} (B : Tab PR w K mg base g φ T nms frs k) (C : TabC PR w K mg base g φ P T mks mns fns k) (KF : Kits K P g) (KT : KitsT K P g) (OPS : OpsAll PR w K mg base g φ P k) (BX : TabX PR w K mg base g P xs (k + 1)) (XF : XFacts K g P fns) (BM : TabM PR w K mg base g φ T sms k) (BB : DnB PR w K mg base g φ P k) (cdv : Value) (A : Around) (outer : List Env) (s : Shared) (H : Hp) (E : XK) (hr2 : Room (k + 2) (A.deeper (envOfC "_law_by" (defScope (top 21)) s.heap.objs.size f cdv))) :
    PSs (cxOf (L2.CX PR w) PR w K mg base N14 "_law_by" (defScope (top 21)) f cdv A outer s H E) (defBody (top 21)) (tSs g φ P ⟨l14, [], []⟩ (fun c dd _ H' => E c dd H') .F c14.body) := by
  have hr := hr2.mono (Nat.le_add_right k 2)
  have hr1 := hr2.mono (Nat.le_succ (k + 1))
  have ND := ND14
  have hK : K = g.K := B.eK.symm
  have H9 : P.isx 999 = false := rfl
  have HIX := hix
  have O := OPS.fn (N := N14) (ty := ⟨l14, [], []⟩) cdv A outer s H E hr1
  have OC := @OpsAll.blk _ _ _ _ _ _ _ _ _ ⟨l14, [], []⟩ N14 _ _ _ OPS cdv A outer s H E hr1
  exact (ss_cons (s_ret (t_call B hr tk_fn 10 "_law_low" rfl rfl rfl rfl rfl (s_cons (pbin (o := .mul) O hK (s_sub (v0 0 rfl rfl (.inl rfl) rfl rfl) s_int rfl nbF (fun _ _ => rfl) hK) (s_sub (v0 1 rfl rfl (.inl rfl) rfl rfl) s_int rfl nbF (fun _ _ => rfl) hK) rfl rfl nbF) (s_cons (pbin (o := .mul) O hK (s_sub (v0 0 rfl rfl (.inl rfl) rfl rfl) s_int rfl nbF (fun _ _ => rfl) hK) (s_sub (v0 1 rfl rfl (.inl rfl) rfl rfl) s_int rfl nbF (fun _ _ => rfl) hK) rfl rfl nbF) s_nil rfl) rfl) (fun z => by first | rfl | cases z) rfl)) ss_nil)
abbrev l15 : List (Nat × Nat) := [(0, 0)]
abbrev N15 : List Str := ["_law_value"]
theorem sc15 : FnScope N15 ["_law_value"] (defScope (top 22)) := ⟨rfl, rfl, rfl, by decide +kernel, rfl, by decide +kernel, by decide +kernel⟩
theorem ND15 : N15.Nodup := by decide +kernel
theorem b15 {w : World} {K : PySem.W.Frag} {mg : Str → Option Value} {base : Heap} {g : G} {φ : Phi} {k : Nat} {f : Addr} (B : Tab PR w K mg base g φ T nms frs k) (C : TabC PR w K mg base g φ P T mks mns fns k) (KF : Kits K P g) (KT : KitsT K P g) (OPS : OpsAll PR w K mg base g φ P k) (BX : TabX PR w K mg base g P xs (k + 1)) (XF : XFacts K g P fns) (BM : TabM PR w K mg base g φ T sms k) (BB : DnB PR w K mg base g φ P k) (cdv : Value) (A : Around) (outer : List Env) (s : Shared) (H : Hp) (E : XK) (hr2 : Room (k + 2) (A.deeper (envOfC "_law_pair" (defScope (top 22)) s.heap.objs.size f cdv))) :
    PSs (cxOf (L2.CX PR w) PR w K mg base N15 "_law_pair" (defScope (top 22)) f cdv A outer s H E) (defBody (top 22)) (tSs g φ P ⟨l15, [], []⟩ (fun c dd _ H' => E c dd H') .F c15.body) := by
  have hr := hr2.mono (Nat.le_add_right k 2)
  have hr1 := hr2.mono (Nat.le_succ (k + 1))
  have ND := ND15
  have hK : K = g.K := B.eK.symm
  have H9 : P.isx 999 = false := rfl
  have HIX := hix
  have O := OPS.fn (N := N15) (ty := ⟨l15, [], []⟩) cdv A outer s H E hr1
  have OC := @OpsAll.blk _ _ _ _ _ _ _ _ _ ⟨l15, [], []⟩ N15 _ _ _ OPS cdv A outer s H E hr1
  exact (ss_cons (s_iff (s_ntT (s_tru (t_isiO C hK KF "Ratio" 0 25 (by decide) (HP 0 (by decide)) rfl rfl rfl (B.free "isinstance" (by decide)) (v0 0 rfl rfl (.inl rfl) rfl rfl) rfl) hK (fun _ => rfl))) (ss_cons (s_ret s_non) ss_nil) ss_nil) (ss_cons (s_iff (L2.PW.pt (s_orT (s_ntT (s_tru (t_call B hr tk_fn 8 "_law_int" rfl rfl rfl rfl rfl (s_cons (t_fld C 0 "top" rfl (v0 0 rfl rfl (.inl rfl) rfl rfl) rfl) s_nil rfl) (fun z => by first | rfl | cases z) rfl) hK (fun _ => rfl))) (pw_or1 (s_ntT (s_tru (t_call B hr tk_fn 8 "_law_int" rfl rfl rfl rfl rfl (s_cons (t_fld C 1 "bottom" rfl (v0 0 rfl rfl (.inl rfl) rfl rfl) rfl) s_nil rfl) (fun z => by first | rfl | cases z) rfl) hK (fun _ => rfl)))))) (ss_cons (s_ret s_non) ss_nil) ss_nil) (ss_cons (s_iff (L2.PW.pt (s_orT (tcmp (o := .lt) O hK hr (t_fld C 1 "bottom" rfl (v0 0 rfl rfl (.inl rfl) rfl rfl) rfl) s_int rfl rfl nbF rfl) (pw_or1 (tcmp (o := .ne) O hK hr (t_call B hr tk_fn 9 "_law_divisor" rfl rfl rfl rfl rfl (s_cons (t_fld C 0 "top" rfl (v0 0 rfl rfl (.inl rfl) rfl rfl) rfl) (s_cons (t_fld C 1 "bottom" rfl (v0 0 rfl rfl (.inl rfl) rfl rfl) rfl) s_nil rfl) rfl) (fun z => by first | rfl | cases z) rfl) s_int rfl rfl nbF rfl)))) (ss_cons (s_ret s_non) ss_nil) ss_nil) (ss_cons (s_ret (s_tup (s_cons (t_fld C 0 "top" rfl (v0 0 rfl rfl (.inl rfl) rfl rfl) rfl) (s_cons (t_fld C 1 "bottom" rfl (v0 0 rfl rfl (.inl rfl) rfl rfl) rfl) s_nil rfl) rfl))) ss_nil))))
abbrev l16 : List (Nat × Nat) := [(0, 0), (1, 0), (2, 0), (3, 0), (4, 0), (5, 0)]
abbrev N16 : List Str := ["_law_row", "_law_common", "_law_pair_here", "_law_tops", "_law_shared", "_law_top"]
theorem sc16 : FnScope N16 ["_law_row"] (defScope (top 23)) := ⟨rfl, rfl, rfl, by decide +kernel, rfl, by decide +kernel, by decide +kernel⟩
theorem ND16 : N16.Nodup := by decide +kernel
theorem b16 {w : World} {K : PySem.W.Frag} {mg : Str → Option Value} {base : Heap} {g : G} {φ : Phi} {k : Nat} {f : Addr} (B : Tab PR w K mg base g φ T nms frs k) (C : TabC PR w K mg base g φ P T mks mns fns k) (KF : Kits K P g) (KT : KitsT K P g) (OPS : OpsAll PR w K mg base g φ P k) (BX : TabX PR w K mg base g P xs (k + 1)) (XF : XFacts K g P fns) (BM : TabM PR w K mg base g φ T sms k) (BB : DnB PR w K mg base g φ P k) (cdv : Value) (A : Around) (outer : List Env) (s : Shared) (H : Hp) (E : XK) (hr2 : Room (k + 2) (A.deeper (envOfC "_law_whole" (defScope (top 23)) s.heap.objs.size f cdv))) :
    PSs (cxOf (L2.CX PR w) PR w K mg base N16 "_law_whole" (defScope (top 23)) f cdv A outer s H E) (defBody (top 23)) (tSs g φ P ⟨l16, [], []⟩ (fun c dd _ H' => E c dd H') .F c16.body) := by
  have hr := hr2.mono (Nat.le_add_right k 2)
  have hr1 := hr2.mono (Nat.le_succ (k + 1))
  have ND := ND16
  have hK : K = g.K := B.eK.symm
  have H9 : P.isx 999 = false := rfl
  have HIX := hix
  have O := OPS.fn (N := N16) (ty := ⟨l16, [], []⟩) cdv A outer s H E hr1
  have OC := @OpsAll.blk _ _ _ _ _ _ _ _ _ ⟨l16, [], []⟩ N16 _ _ _ OPS cdv A outer s H E hr1
  exact (ss_cons (s_set (q := 1) (k := 0) s_int (nmok rfl) ND rfl (.inr rfl) (.inl rfl) rfl) (ss_cons (s_for po_fn rfl (s_seq hK (v0 0 rfl rfl (.inl rfl) rfl rfl)) (s_gname ND ⟨⟨2, (nmok rfl), rfl⟩, (.inl rfl), (.inl rfl)⟩) (ss_cons (s_set (q := 1) (k := 0) (pbin (o := .fdiv) O hK (pbin (o := .mul) O hK (v0 1 rfl rfl (.inr (.inl rfl)) rfl rfl) (s_sub (v0 2 rfl rfl (.inl rfl) rfl rfl) s_int rfl nbF (fun _ _ => rfl) hK) rfl rfl nbF) (t_call B hr tk_fn 9 "_law_divisor" rfl rfl rfl rfl rfl (s_cons (v0 1 rfl rfl (.inr (.inl rfl)) rfl rfl) (s_cons (s_sub (v0 2 rfl rfl (.inl rfl) rfl rfl) s_int rfl nbF (fun _ _ => rfl) hK) s_nil rfl) rfl) (fun z => by first | rfl | cases z) rfl) rfl rfl nbF) (nmok rfl) ND rfl (.inr rfl) (.inl rfl) rfl) ss_nil) (folded_no rfl)) (ss_cons (s_setLc (k := 0) (d := 0) (q := 3) (own := [("_law_pair_here", 2)]) (.inl rfl) (nmok rfl) rfl rfl (sw_true rfl rfl rfl rfl) rfl ND (blkOk_by rfl) (lcok rfl) (s_seq hK (v0 0 rfl rfl (.inl rfl) rfl rfl)) (fun _ _ _ _ _ => (s_gname ND ⟨⟨2, (nmok rfl), rfl⟩, (.inl rfl), (.inr rfl)⟩)) (fun _ _ _ _ _ => s_c0) (fun _ _ _ _ _ => (pbin (o := .mul) OC hK (s_sub (v0 2 rfl rfl (.inl rfl) rfl rfl) s_int rfl nbF (fun _ _ => rfl) hK) (pbin (o := .fdiv) OC hK (v0 1 rfl rfl (.inr (.inl rfl)) rfl rfl) (s_sub (v0 2 rfl rfl (.inl rfl) rfl rfl) s_int rfl nbF (fun _ _ => rfl) hK) rfl rfl nbF) rfl rfl nbF)) (folded_no rfl)) (ss_cons (s_set (q := 4) (k := 0) s_int (nmok rfl) ND rfl (.inr rfl) (.inl rfl) rfl) (ss_cons (s_for po_fn rfl (s_seq hK (v0 3 rfl rfl (.inl rfl) rfl rfl)) (s_gname ND ⟨⟨5, (nmok rfl), rfl⟩, (.inl rfl), (.inl rfl)⟩) (ss_cons (s_set (q := 4) (k := 0) (t_call B hr tk_fn 9 "_law_divisor" rfl rfl rfl rfl rfl (s_cons (v0 4 rfl rfl (.inr (.inl rfl)) rfl rfl) (s_cons (v0 5 rfl rfl (.inl rfl) rfl rfl) s_nil rfl) rfl) (fun z => by first | rfl | cases z) rfl) (nmok rfl) ND rfl (.inr rfl) (.inl rfl) rfl) ss_nil) (folded_no rfl)) (ss_cons (s_iff (tcmp (o := .eq) O hK hr (v0 4 rfl rfl (.inr (.inl rfl)) rfl rfl) s_int rfl rfl nbF rfl) (ss_cons (s_ret (v0 3 rfl rfl (.inl rfl) rfl rfl)) ss_nil) ss_nil) (ss_cons (s_ret (s_low (s_lc (k := 0) (own := [("_law_top", 5)]) rfl ND (blkOk_by rfl) (lcok rfl) (s_seq hK (v0 3 rfl rfl (.inl rfl) rfl rfl)) (fun _ _ _ _ _ => (s_gname ND ⟨⟨5, (nmok rfl), rfl⟩, (.inl rfl), (.inr rfl)⟩)) (fun _ _ _ _ _ => s_c0) (fun _ _ _ _ _ => (pbin (o := .fdiv) OC hK (v0 5 rfl rfl (.inl rfl) rfl rfl) (v0 4 rfl rfl (.inr (.inl rfl)) rfl rfl) rfl rfl nbF)) (folded_no rfl)))) ss_nil)))))))
abbrev l17 : List (Nat × Nat) := [(0, 1), (1, 0), (2, 0)]
abbrev N17 : List Str := ["_law_stream_here", "_law_tops", "_law_bottoms"]
theorem sc17 : FnScope N17 ["_law_stream_here"] (defScope (top 24)) := ⟨rfl, rfl, rfl, by decide +kernel, rfl, by decide +kernel, by decide +kernel⟩
theorem ND17 : N17.Nodup := by decide +kernel
theorem b17 {w : World} {K : PySem.W.Frag} {mg : Str → Option Value} {base : Heap} {g : G} {φ : Phi} {k : Nat} {f : Addr} (B : Tab PR w K mg base g φ T nms frs k) (C : TabC PR w K mg base g φ P T mks mns fns k) (KF : Kits K P g) (KT : KitsT K P g) (OPS : OpsAll PR w K mg base g φ P k) (BX : TabX PR w K mg base g P xs (k + 1)) (XF : XFacts K g P fns) (BM : TabM PR w K mg base g φ T sms k) (BB : DnB PR w K mg base g φ P k) (v : V) (cdv : Value) (A : Around) (outer : List Env) (s : Shared) (H : Hp) (E : XK) (hr2 : Room (k + 2) (A.deeper (envOfC "_law_drawn" (defScope (top 24)) s.heap.objs.size f cdv))) :
    PSs (cxOf (L2.CX PR w) PR w K mg base N17 "_law_drawn" (defScope (top 24)) f cdv A outer s H E) (defBody (top 24)) (tSs g φ P ⟨l17, [(0, v)], []⟩ (fun c dd _ H' => E c dd H') .F c17.body) := by
  have hr := hr2.mono (Nat.le_add_right k 2)
  have hr1 := hr2.mono (Nat.le_succ (k + 1))
  have ND := ND17
  have hK : K = g.K := B.eK.symm
  have H9 : P.isx 999 = false := rfl
  have HIX := hix
  have O := OPS.fn (N := N17) (ty := ⟨l17, [(0, v)], []⟩) cdv A outer s H E hr1
  have OC := @OpsAll.blk _ _ _ _ _ _ _ _ _ ⟨l17, [(0, v)], []⟩ N17 _ _ _ OPS cdv A outer s H E hr1
  exact (ss_cons (s_set (q := 1) (k := 0) (s_low (s_lst (s_cons s_int (s_cons s_int (s_cons (s_neg s_int O.neg) (s_cons s_int (s_cons (s_neg s_int O.neg) (s_cons s_int (s_cons s_int (s_cons (s_neg s_int O.neg) (s_cons s_int (s_cons (s_neg s_int O.neg) (s_cons s_int (s_cons s_int s_nil rfl) rfl) rfl) rfl) rfl) rfl) rfl) rfl) rfl) rfl) rfl) rfl))) (nmok rfl) ND rfl (.inl rfl) (.inl rfl) rfl) (ss_cons (s_set (q := 2) (k := 0) (s_low (s_lst (s_cons s_int (s_cons (s_neg s_int O.neg) (s_cons s_int (s_cons (s_neg s_int O.neg) (s_cons s_int (s_cons s_int (s_cons (s_neg s_int O.neg) (s_cons s_int (s_cons s_int (s_cons (s_neg s_int O.neg) (s_cons s_int (s_cons (s_neg s_int O.neg) s_nil rfl) rfl) rfl) rfl) rfl) rfl) rfl) rfl) rfl) rfl) rfl) rfl))) (nmok rfl) ND rfl (.inl rfl) (.inl rfl) rfl) (ss_cons (s_ret (s_tup (s_cons (s_sub (v0 1 rfl rfl (.inl rfl) rfl rfl) (t_callI B hr tk_fn 7 0 0 0 1 "_law_take" rfl rfl rfl (fun _ z => by cases z) rfl rfl rfl (pa_lent0 rfl (.inl rfl) rfl rfl (s_cons s_int s_nil rfl)) (fun z => by cases z) rfl) rfl nbF (fun _ _ => rfl) hK) (s_cons (s_sub (v0 2 rfl rfl (.inl rfl) rfl rfl) (t_callI B hr tk_fn 7 0 0 0 1 "_law_take" rfl rfl rfl (fun _ z => by cases z) rfl rfl rfl (pa_lent0 rfl (.inl rfl) rfl rfl (s_cons s_int s_nil rfl)) (fun z => by cases z) rfl) rfl nbF (fun _ _ => rfl) hK) s_nil rfl) rfl))) ss_nil)))
abbrev l18 : List (Nat × Nat) := [(0, 0), (1, 0), (2, 0), (4, 0), (5, 0)]
abbrev N18 : List Str := ["_law_things", "_law_door", "_law_told_here", "error", "error.class", "error.name"]
theorem sc18 : FnScope N18 ["_law_things", "_law_door"] (defScope (top 25)) := ⟨rfl, rfl, rfl, by decide +kernel, rfl, by decide +kernel, by decide +kernel⟩
theorem ND18 : N18.Nodup := by decide +kernel
theorem b18 {w : World} {K : PySem.W.Frag} {mg : Str → Option Value} {base : Heap} {g : G} {φ : Phi} {k : Nat} {f : Addr} (B : Tab PR w K mg base g φ T nms frs k) (C : TabC PR w K mg base g φ P T mks mns fns k) (KF : Kits K P g) (KT : KitsT K P g) (OPS : OpsAll PR w K mg base g φ P k) (BX : TabX PR w K mg base g P xs (k + 1)) (XF : XFacts K g P fns) (BM : TabM PR w K mg base g φ T sms k) (BB : DnB PR w K mg base g φ P k) (cdv : Value) (A : Around) (outer : List Env) (s : Shared) (H : Hp) (E : XK) (hr2 : Room (k + 2) (A.deeper (envOfC "_law_told" (defScope (top 25)) s.heap.objs.size f cdv))) :
    PSs (cxOf (L2.CX PR w) PR w K mg base N18 "_law_told" (defScope (top 25)) f cdv A outer s H E) (defBody (top 25)) (tSs g φ P ⟨l18, [], []⟩ (fun c dd _ H' => E c dd H') .F c18.body) := by
  have hr := hr2.mono (Nat.le_add_right k 2)
  have hr1 := hr2.mono (Nat.le_succ (k + 1))
  have ND := ND18
  have hK : K = g.K := B.eK.symm
  have H9 : P.isx 999 = false := rfl
  have HIX := hix
  have O := OPS.fn (N := N18) (ty := ⟨l18, [], []⟩) cdv A outer s H E hr1
  have OC := @OpsAll.blk _ _ _ _ _ _ _ _ _ ⟨l18, [], []⟩ N18 _ _ _ OPS cdv A outer s H E hr1
  exact (ss_cons (s_set (q := 2) (k := 0) s_non (nmok rfl) ND rfl (.inl rfl) (.inl rfl) rfl) (ss_cons (s_try XF rfl rfl ND tk_fn H9 (fun W pn xe tk po => (ss_cons (s_iff (tcmp (o := .eq) (OPS.all _ _ _ rfl rfl rfl rfl rfl hr1 tk) hK hr (v0 1 rfl rfl (.inl rfl) rfl rfl) s_int rfl rfl nbF rfl) (ss_cons (s_set (q := 2) (k := 0) (s_tup (s_cons s_str (s_cons (t_call B hr tk 15 "_law_pair" rfl rfl rfl rfl rfl (s_cons (s_low (t_new C hr1 tk "Ratio" 0 25 (by decide) rfl rfl rfl rfl (s_cons (s_sub (v0 0 rfl rfl (.inl rfl) rfl rfl) s_int rfl nbF (fun _ _ => rfl) hK) (s_cons (s_sub (v0 0 rfl rfl (.inl rfl) rfl rfl) s_int rfl nbF (fun _ _ => rfl) hK) s_nil rfl) rfl) (fun z => by first | rfl | cases z) rfl)) s_nil rfl) (fun z => by first | rfl | cases z) rfl) s_nil rfl) rfl)) (nmok rfl) ND rfl (.inl rfl) (.inl rfl) rfl) ss_nil) (ss_cons (s_iff (tcmp (o := .eq) (OPS.all _ _ _ rfl rfl rfl rfl rfl hr1 tk) hK hr (v0 1 rfl rfl (.inl rfl) rfl rfl) s_int rfl rfl nbF rfl) (ss_cons (s_set (q := 2) (k := 0) (s_tup (s_cons s_str (s_cons (t_static BM hr tk "Ratio" "lowest" 26 (by decide) rfl rfl rfl (s_cons (s_sub (v0 0 rfl rfl (.inl rfl) rfl rfl) s_int rfl nbF (fun _ _ => rfl) hK) (s_cons (s_sub (v0 0 rfl rfl (.inl rfl) rfl rfl) s_int rfl nbF (fun _ _ => rfl) hK) s_nil rfl) rfl) (fun z => by first | rfl | cases z) rfl (by decide) rfl) s_nil rfl) rfl)) (nmok rfl) ND rfl (.inl rfl) (.inl rfl) rfl) ss_nil) (ss_cons (s_iff (tcmp (o := .eq) (OPS.all _ _ _ rfl rfl rfl rfl rfl hr1 tk) hK hr (v0 1 rfl rfl (.inl rfl) rfl rfl) s_int rfl rfl nbF rfl) (ss_cons (s_set (q := 2) (k := 0) (s_tup (s_cons s_str (s_cons (t_call B hr tk 15 "_law_pair" rfl rfl rfl rfl rfl (s_cons (t_mth C hr tk 1 "over" rfl (s_sub (v0 0 rfl rfl (.inl rfl) rfl rfl) s_int rfl nbF (fun _ _ => rfl) hK) (s_cons (s_sub (v0 0 rfl rfl (.inl rfl) rfl rfl) s_int rfl nbF (fun _ _ => rfl) hK) s_nil rfl) (fun z => by first | rfl | cases z) rfl rfl (by decide) rfl) s_nil rfl) (fun z => by first | rfl | cases z) rfl) s_nil rfl) rfl)) (nmok rfl) ND rfl (.inl rfl) (.inl rfl) rfl) ss_nil) (ss_cons (s_iff (tcmp (o := .eq) (OPS.all _ _ _ rfl rfl rfl rfl rfl hr1 tk) hK hr (v0 1 rfl rfl (.inl rfl) rfl rfl) s_int rfl rfl nbF rfl) (ss_cons (s_set (q := 2) (k := 0) (s_tup (s_cons s_str (s_cons (t_call B hr tk 15 "_law_pair" rfl rfl rfl rfl rfl (s_cons (t_mth C hr tk 2 "inverse" rfl (s_sub (v0 0 rfl rfl (.inl rfl) rfl rfl) s_int rfl nbF (fun _ _ => rfl) hK) s_nil (fun z => by first | rfl | cases z) rfl rfl (by decide) rfl) s_nil rfl) (fun z => by first | rfl | cases z) rfl) s_nil rfl) rfl)) (nmok rfl) ND rfl (.inl rfl) (.inl rfl) rfl) ss_nil) (ss_cons (s_iff (tcmp (o := .eq) (OPS.all _ _ _ rfl rfl rfl rfl rfl hr1 tk) hK hr (v0 1 rfl rfl (.inl rfl) rfl rfl) s_int rfl rfl nbF rfl) (ss_cons (s_set (q := 2) (k := 0) (s_tup (s_cons s_str (s_cons (t_call B hr tk 15 "_law_pair" rfl rfl rfl rfl rfl (s_cons (t_mth C hr tk 3 "to_power" rfl (s_sub (v0 0 rfl rfl (.inl rfl) rfl rfl) s_int rfl nbF (fun _ _ => rfl) hK) (s_cons (s_sub (v0 0 rfl rfl (.inl rfl) rfl rfl) s_int rfl nbF (fun _ _ => rfl) hK) s_nil rfl) (fun z => by first | rfl | cases z) rfl rfl (by decide) rfl) s_nil rfl) (fun z => by first | rfl | cases z) rfl) s_nil rfl) rfl)) (nmok rfl) ND rfl (.inl rfl) (.inl rfl) rfl) ss_nil) (ss_cons (s_set (q := 2) (k := 0) (s_tup (s_cons s_str (s_cons (t_call B hr tk 15 "_law_pair" rfl rfl rfl rfl rfl (s_cons (t_call B hr tk 4 "ratio_of" rfl rfl rfl rfl rfl (s_cons (s_sub (v0 0 rfl rfl (.inl rfl) rfl rfl) s_int rfl nbF (fun _ _ => rfl) hK) s_nil rfl) (fun z => by first | rfl | cases z) rfl) s_nil rfl) (fun z => by first | rfl | cases z) rfl) s_nil rfl) rfl)) (nmok rfl) ND rfl (.inl rfl) (.inl rfl) rfl) ss_nil)) ss_nil)) ss_nil)) ss_nil)) ss_nil)) ss_nil)) (HdE.named (i := 3) (qc := 4) (ql := [(5, "name")]) (t_names BX "BadNumber" 2 (by decide) rfl rfl rfl) rfl rfl rfl (noPl rfl) (noPn rfl) (nmok rfl) rfl rfl (JsAt.cons (q := 5) (nmok rfl) rfl rfl rfl (by decide) JsAt.nil) (fun a oe c2 d pn ty2 hl hp S => (ss_cons (s_set (q := 2) (k := 0) (s_tup (s_cons s_str (s_cons (s_xf XF S (q := 5) (by decide) (by rw [hl]; rfl) rfl (.inl rfl) rfl rfl rfl) (s_cons (s_xis XF H9 S (by rw [hl]; rfl) rfl (.inl rfl) rfl rfl rfl (B.free "isinstance" (by decide)) (t_names BX "BadTable" 3 (by decide) rfl rfl rfl)) s_nil rfl) rfl) rfl)) (nmoks hl hp rfl) ND rfl (.inl rfl) (.inl rfl) rfl) ss_nil)) (HdE.bare (t_names BX "StepError" 1 (by decide) rfl rfl rfl) rfl (fun a oe pn => (ss_cons (s_set (q := 2) (k := 0) (s_tup (s_cons s_str (s_cons s_int s_nil rfl) rfl)) (nmok rfl) ND rfl (.inl rfl) (.inl rfl) rfl) ss_nil)) HdE.nil))) (ss_cons (s_ret (v0 2 rfl rfl (.inl rfl) rfl rfl)) ss_nil)))
abbrev l19 : List (Nat × Nat) := [(0, 0), (1, 0), (2, 0), (3, 0), (4, 0)]
abbrev N19 : List Str := ["_law_pair_here", "_law_number", "_law_top", "_law_bottom", "_law_turn"]
theorem sc19 : FnScope N19 ["_law_pair_here", "_law_number"] (defScope (top 26)) := ⟨rfl, rfl, rfl, by decide +kernel, rfl, by decide +kernel, by decide +kernel⟩
theorem ND19 : N19.Nodup := by decide +kernel
theorem b19 {w : World} {K : PySem.W.Frag} {mg : Str → Option Value} {base : Heap} {g : G} {φ : Phi} {k : Nat} {f : Addr} (B : Tab PR w K mg base g φ T nms frs k) (C : TabC PR w K mg base g φ P T mks mns fns k) (KF : Kits K P g) (KT : KitsT K P g) (OPS : OpsAll PR w K mg base g φ P k) (BX : TabX PR w K mg base g P xs (k + 1)) (XF : XFacts K g P fns) (BM : TabM PR w K mg base g φ T sms k) (BB : DnB PR w K mg base g φ P k) (cdv : Value) (A : Around) (outer : List Env) (s : Shared) (H : Hp) (E : XK) (hr2 : Room (k + 2) (A.deeper (envOfC "_law_power" (defScope (top 26)) s.heap.objs.size f cdv))) :
    PSs (cxOf (L2.CX PR w) PR w K mg base N19 "_law_power" (defScope (top 26)) f cdv A outer s H E) (defBody (top 26)) (tSs g φ P ⟨l19, [], []⟩ (fun c dd _ H' => E c dd H') .F c19.body) := by
  have hr := hr2.mono (Nat.le_add_right k 2)
  have hr1 := hr2.mono (Nat.le_succ (k + 1))
  have ND := ND19
  have hK : K = g.K := B.eK.symm
  have H9 : P.isx 999 = false := rfl
  have HIX := hix
  have O := OPS.fn (N := N19) (ty := ⟨l19, [], []⟩) cdv A outer s H E hr1
  have OC := @OpsAll.blk _ _ _ _ _ _ _ _ _ ⟨l19, [], []⟩ N19 _ _ _ OPS cdv A outer s H E hr1
  exact (ss_cons (s_set (q := 2) (k := 0) s_int (nmok rfl) ND rfl (.inl rfl) (.inl rfl) rfl) (ss_cons (s_set (q := 3) (k := 0) s_int (nmok rfl) ND rfl (.inl rfl) (.inl rfl) rfl) (ss_cons (s_for po_fn rfl (s_rng1 rfl (B.free "range" (by decide)) (s_bi1 (bi := .abs) rfl rfl hK rfl (B.free "abs" (by decide)) (v0 1 rfl rfl (.inl rfl) rfl rfl) (fun _ => rfl) rfl) rfl) (s_gname ND ⟨⟨4, (nmok rfl), rfl⟩, (.inl rfl), (.inl rfl)⟩) (ss_cons (s_set (q := 2) (k := 0) (pbin (o := .mul) O hK (v0 2 rfl rfl (.inl rfl) rfl rfl) (s_sub (v0 0 rfl rfl (.inl rfl) rfl rfl) s_int rfl nbF (fun _ _ => rfl) hK) rfl rfl nbF) (nmok rfl) ND rfl (.inl rfl) (.inl rfl) rfl) (ss_cons (s_set (q := 3) (k := 0) (pbin (o := .mul) O hK (v0 3 rfl rfl (.inl rfl) rfl rfl) (s_sub (v0 0 rfl rfl (.inl rfl) rfl rfl) s_int rfl nbF (fun _ _ => rfl) hK) rfl rfl nbF) (nmok rfl) ND rfl (.inl rfl) (.inl rfl) rfl) ss_nil)) (folded_no rfl)) (ss_cons (s_iff (tcmp (o := .ge) O hK hr (v0 1 rfl rfl (.inl rfl) rfl rfl) s_int rfl rfl nbF rfl) (ss_cons (s_ret (s_tup (s_cons (v0 2 rfl rfl (.inl rfl) rfl rfl) (s_cons (v0 3 rfl rfl (.inl rfl) rfl rfl) s_nil rfl) rfl))) ss_nil) ss_nil) (ss_cons (s_iff (tcmp (o := .lt) O hK hr (v0 2 rfl rfl (.inl rfl) rfl rfl) s_int rfl rfl nbF rfl) (ss_cons (s_ret (s_tup (s_cons (s_neg (v0 3 rfl rfl (.inl rfl) rfl rfl) O.neg) (s_cons (s_neg (v0 2 rfl rfl (.inl rfl) rfl rfl) O.neg) s_nil rfl) rfl))) ss_nil) ss_nil) (ss_cons (s_ret (s_tup (s_cons (v0 3 rfl rfl (.inl rfl) rfl rfl) (s_cons (v0 2 rfl rfl (.inl rfl) rfl rfl) s_nil rfl) rfl))) ss_nil))))))
abbrev l20 : List (Nat × Nat) := [(0, 0), (1, 0), (2, 0), (3, 0), (4, 0), (5, 0), (6, 0), (7, 0), (8, 0)]
abbrev N20 : List Str := ["_law_one", "_law_left", "_law_other", "_law_right", "_law_number", "_law_pair_here", "_law_due", "_law_row", "_law_text"]
theorem sc20 : FnScope N20 ["_law_one", "_law_left", "_law_other", "_law_right", "_law_number"] (defScope (top 27)) := ⟨rfl, rfl, rfl, by decide +kernel, rfl, by decide +kernel, by decide +kernel⟩
theorem ND20 : N20.Nodup := by decide +kernel
theorem b20 {w : World} {K : PySem.W.Frag} {mg : Str → Option Value} {base : Heap} {g : G} {φ : Phi} {k : Nat} {f : Addr} (B : Tab PR w K mg base g φ T nms frs k) (C : TabC PR w K mg base g φ P T mks mns fns k) (KF : Kits K P g) (KT : KitsT K P g) (OPS : OpsAll PR w K mg base g φ P k) (BX : TabX PR w K mg base g P xs (k + 1)) (XF : XFacts K g P fns) (BM : TabM PR w K mg base g φ T sms k) (BB : DnB PR w K mg base g φ P k) (cdv : Value) (A : Around) (outer : List Env) (s : Shared) (H : Hp) (E : XK) (hr2 : Room (k + 2) (A.deeper (envOfC "_law_signs_good" (defScope (top 27)) s.heap.objs.size f cdv))) :
    PSs (cxOf (L2.CX PR w) PR w K mg base N20 "_law_signs_good" (defScope (top 27)) f cdv A outer s H E) (defBody (top 27)) (tSs g φ P ⟨l20, [], []⟩ (fun c dd _ H' => E c dd H') .F c20.body) := by
  have hr := hr2.mono (Nat.le_add_right k 2)
  have hr1 := hr2.mono (Nat.le_succ (k + 1))
  have ND := ND20
  have hK : K = g.K := B.eK.symm
  have H9 : P.isx 999 = false := rfl
  have HIX := hix
  have O := OPS.fn (N := N20) (ty := ⟨l20, [], []⟩) cdv A outer s H E hr1
  have OC := @OpsAll.blk _ _ _ _ _ _ _ _ _ ⟨l20, [], []⟩ N20 _ _ _ OPS cdv A outer s H E hr1
  exact (ss_cons (s_set (q := 5) (k := 0) (s_tup (s_cons (v0 4 rfl rfl (.inl rfl) rfl rfl) (s_cons s_int s_nil rfl) rfl)) (nmok rfl) ND rfl (.inl rfl) (.inl rfl) rfl) (ss_cons (s_set (q := 6) (k := 0) (s_low (s_lst (s_cons (s_tup (s_cons (pbin (o := .add) O hK (v0 0 rfl rfl (.inl rfl) rfl rfl) (v0 2 rfl rfl (.inl rfl) rfl rfl) rfl rfl nbF) (s_cons (t_call B hr tk_fn 11 "_law_add" rfl rfl rfl rfl rfl (s_cons (v0 1 rfl rfl (.inl rfl) rfl rfl) (s_cons (v0 3 rfl rfl (.inl rfl) rfl rfl) s_nil rfl) rfl) (fun z => by first | rfl | cases z) rfl) s_nil rfl) rfl)) (s_cons (s_tup (s_cons (pbin (o := .sub) O hK (v0 0 rfl rfl (.inl rfl) rfl rfl) (v0 2 rfl rfl (.inl rfl) rfl rfl) rfl rfl nbF) (s_cons (t_call B hr tk_fn 12 "_law_minus" rfl rfl rfl rfl rfl (s_cons (v0 1 rfl rfl (.inl rfl) rfl rfl) (s_cons (v0 3 rfl rfl (.inl rfl) rfl rfl) s_nil rfl) rfl) (fun z => by first | rfl | cases z) rfl) s_nil rfl) rfl)) s_nil rfl) rfl))) (nmok rfl) ND rfl (.inl rfl) (.inl rfl) rfl) (ss_cons (s_set (q := 6) (k := 0) (pbin (o := .add) O hK (v0 6 rfl rfl (.inl rfl) rfl rfl) (s_low (s_lst (s_cons (s_tup (s_cons (pbin (o := .mul) O hK (v0 0 rfl rfl (.inl rfl) rfl rfl) (v0 2 rfl rfl (.inl rfl) rfl rfl) rfl rfl nbF) (s_cons (t_call B hr tk_fn 13 "_law_times" rfl rfl rfl rfl rfl (s_cons (v0 1 rfl rfl (.inl rfl) rfl rfl) (s_cons (v0 3 rfl rfl (.inl rfl) rfl rfl) s_nil rfl) rfl) (fun z => by first | rfl | cases z) rfl) s_nil rfl) rfl)) (s_cons (s_tup (s_cons (s_neg (v0 0 rfl rfl (.inl rfl) rfl rfl) O.neg) (s_cons (s_tup (s_cons (s_neg (s_sub (v0 1 rfl rfl (.inl rfl) rfl rfl) s_int rfl nbF (fun _ _ => rfl) hK) O.neg) (s_cons (s_sub (v0 1 rfl rfl (.inl rfl) rfl rfl) s_int rfl nbF (fun _ _ => rfl) hK) s_nil rfl) rfl)) s_nil rfl) rfl)) s_nil rfl) rfl))) rfl rfl nbF) (nmok rfl) ND rfl (.inl rfl) (.inl rfl) rfl) (ss_cons (s_set (q := 6) (k := 0) (pbin (o := .add) O hK (v0 6 rfl rfl (.inl rfl) rfl rfl) (s_low (s_lst (s_cons (s_tup (s_cons (pbin (o := .add) O hK (v0 0 rfl rfl (.inl rfl) rfl rfl) (v0 4 rfl rfl (.inl rfl) rfl rfl) rfl rfl nbF) (s_cons (t_call B hr tk_fn 11 "_law_add" rfl rfl rfl rfl rfl (s_cons (v0 1 rfl rfl (.inl rfl) rfl rfl) (s_cons (v0 5 rfl rfl (.inl rfl) rfl rfl) s_nil rfl) rfl) (fun z => by first | rfl | cases z) rfl) s_nil rfl) rfl)) (s_cons (s_tup (s_cons (pbin (o := .add) O hK (v0 4 rfl rfl (.inl rfl) rfl rfl) (v0 0 rfl rfl (.inl rfl) rfl rfl) rfl rfl nbF) (s_cons (t_call B hr tk_fn 11 "_law_add" rfl rfl rfl rfl rfl (s_cons (v0 1 rfl rfl (.inl rfl) rfl rfl) (s_cons (v0 5 rfl rfl (.inl rfl) rfl rfl) s_nil rfl) rfl) (fun z => by first | rfl | cases z) rfl) s_nil rfl) rfl)) s_nil rfl) rfl))) rfl rfl nbF) (nmok rfl) ND rfl (.inl rfl) (.inl rfl) rfl) (ss_cons (s_set (q := 6) (k := 0) (pbin (o := .add) O hK (v0 6 rfl rfl (.inl rfl) rfl rfl) (s_low (s_lst (s_cons (s_tup (s_cons (pbin (o := .sub) O hK (v0 0 rfl rfl (.inl rfl) rfl rfl) (v0 4 rfl rfl (.inl rfl) rfl rfl) rfl rfl nbF) (s_cons (t_call B hr tk_fn 12 "_law_minus" rfl rfl rfl rfl rfl (s_cons (v0 1 rfl rfl (.inl rfl) rfl rfl) (s_cons (v0 5 rfl rfl (.inl rfl) rfl rfl) s_nil rfl) rfl) (fun z => by first | rfl | cases z) rfl) s_nil rfl) rfl)) (s_cons (s_tup (s_cons (pbin (o := .sub) O hK (v0 4 rfl rfl (.inl rfl) rfl rfl) (v0 0 rfl rfl (.inl rfl) rfl rfl) rfl rfl nbF) (s_cons (t_call B hr tk_fn 12 "_law_minus" rfl rfl rfl rfl rfl (s_cons (v0 5 rfl rfl (.inl rfl) rfl rfl) (s_cons (v0 1 rfl rfl (.inl rfl) rfl rfl) s_nil rfl) rfl) (fun z => by first | rfl | cases z) rfl) s_nil rfl) rfl)) s_nil rfl) rfl))) rfl rfl nbF) (nmok rfl) ND rfl (.inl rfl) (.inl rfl) rfl) (ss_cons (s_set (q := 6) (k := 0) (pbin (o := .add) O hK (v0 6 rfl rfl (.inl rfl) rfl rfl) (s_low (s_lst (s_cons (s_tup (s_cons (pbin (o := .mul) O hK (v0 0 rfl rfl (.inl rfl) rfl rfl) (v0 4 rfl rfl (.inl rfl) rfl rfl) rfl rfl nbF) (s_cons (t_call B hr tk_fn 13 "_law_times" rfl rfl rfl rfl rfl (s_cons (v0 1 rfl rfl (.inl rfl) rfl rfl) (s_cons (v0 5 rfl rfl (.inl rfl) rfl rfl) s_nil rfl) rfl) (fun z => by first | rfl | cases z) rfl) s_nil rfl) rfl)) (s_cons (s_tup (s_cons (pbin (o := .mul) O hK (v0 4 rfl rfl (.inl rfl) rfl rfl) (v0 0 rfl rfl (.inl rfl) rfl rfl) rfl rfl nbF) (s_cons (t_call B hr tk_fn 13 "_law_times" rfl rfl rfl rfl rfl (s_cons (v0 1 rfl rfl (.inl rfl) rfl rfl) (s_cons (v0 5 rfl rfl (.inl rfl) rfl rfl) s_nil rfl) rfl) (fun z => by first | rfl | cases z) rfl) s_nil rfl) rfl)) s_nil rfl) rfl))) rfl rfl nbF) (nmok rfl) ND rfl (.inl rfl) (.inl rfl) rfl) (ss_cons (s_for po_fn rfl (s_seq hK (v0 6 rfl rfl (.inl rfl) rfl rfl)) (s_gname ND ⟨⟨7, (nmok rfl), rfl⟩, (.inl rfl), (.inl rfl)⟩) (ss_cons (s_iff (tcmp (o := .ne) O hK hr (t_call B hr tk_fn 15 "_law_pair" rfl rfl rfl rfl rfl (s_cons (s_sub (v0 7 rfl rfl (.inl rfl) rfl rfl) s_int rfl nbF (fun _ _ => rfl) hK) s_nil rfl) (fun z => by first | rfl | cases z) rfl) (s_sub (v0 7 rfl rfl (.inl rfl) rfl rfl) s_int rfl nbF (fun _ _ => rfl) hK) rfl rfl nbF rfl) (ss_cons (s_ret s_bl) ss_nil) ss_nil) ss_nil) (folded_no rfl)) (ss_cons (s_for po_fn rfl (s_seq hK (s_low (s_lst (s_cons (s_tup (s_cons (pcmp (o := .eq) O hK hr (v0 0 rfl rfl (.inl rfl) rfl rfl) (v0 2 rfl rfl (.inl rfl) rfl rfl) rfl rfl nbF rfl) (s_cons (pcmp (o := .eq) O hK hr (v0 1 rfl rfl (.inl rfl) rfl rfl) (v0 3 rfl rfl (.inl rfl) rfl rfl) rfl rfl nbF rfl) s_nil rfl) rfl)) (s_cons (s_tup (s_cons (pcmp (o := .eq) O hK hr (v0 0 rfl rfl (.inl rfl) rfl rfl) (v0 4 rfl rfl (.inl rfl) rfl rfl) rfl rfl nbF rfl) (s_cons (pcmp (o := .eq) O hK hr (v0 1 rfl rfl (.inl rfl) rfl rfl) (v0 5 rfl rfl (.inl rfl) rfl rfl) rfl rfl nbF rfl) s_nil rfl) rfl)) (s_cons (s_tup (s_cons (pcmp (o := .eq) O hK hr (v0 0 rfl rfl (.inl rfl) rfl rfl) (s_low (t_new C hr1 tk_fn "Ratio" 0 40 (by decide) rfl rfl rfl rfl (s_cons (v0 4 rfl rfl (.inl rfl) rfl rfl) s_nil rfl) (fun z => by first | rfl | cases z) rfl)) rfl rfl nbF rfl) (s_cons (pcmp (o := .eq) O hK hr (v0 1 rfl rfl (.inl rfl) rfl rfl) (v0 5 rfl rfl (.inl rfl) rfl rfl) rfl rfl nbF rfl) s_nil rfl) rfl)) s_nil rfl) rfl) rfl)))) (s_gname ND ⟨⟨7, (nmok rfl), rfl⟩, (.inl rfl), (.inl rfl)⟩) (ss_cons (s_iff (L2.PW.pt (s_orT (s_ntT (s_tru (t_isi B KF .bool rfl rfl rfl (B.free "isinstance" (by decide)) (B.free "bool" (by decide)) (s_sub (v0 7 rfl rfl (.inl rfl) rfl rfl) s_int rfl nbF (fun _ _ => rfl) hK) rfl) hK (fun _ => rfl))) (pw_or1 (tcmp (o := .ne) O hK hr (s_sub (v0 7 rfl rfl (.inl rfl) rfl rfl) s_int rfl nbF (fun _ _ => rfl) hK) (s_sub (v0 7 rfl rfl (.inl rfl) rfl rfl) s_int rfl nbF (fun _ _ => rfl) hK) rfl rfl nbF rfl)))) (ss_cons (s_ret s_bl) ss_nil) ss_nil) ss_nil) (folded_no rfl)) (ss_cons (s_iff (L2.PW.pt (s_orT (tcmp (o := .eq) O hK hr (v0 0 rfl rfl (.inl rfl) rfl rfl) s_non rfl rfl nbF rfl) (s_orT (tcmp (o := .eq) O hK hr (v0 0 rfl rfl (.inl rfl) rfl rfl) (v0 1 rfl rfl (.inl rfl) rfl rfl) rfl rfl nbF rfl) (pw_or1 (tcmp (o := .ne) O hK hr (s_boo BB hr2 rfl (B.free "bool" (by decide)) (v0 0 rfl rfl (.inl rfl) rfl rfl) rfl) (pcmp (o := .ne) O hK hr (s_sub (v0 1 rfl rfl (.inl rfl) rfl rfl) s_int rfl nbF (fun _ _ => rfl) hK) s_int rfl rfl nbF rfl) rfl rfl nbF rfl))))) (ss_cons (s_ret s_bl) ss_nil) ss_nil) (ss_cons (s_set (q := 8) (k := 0) (s_bi1 (bi := .str) rfl rfl hK rfl (B.free "str" (by decide)) (s_sub (v0 1 rfl rfl (.inl rfl) rfl rfl) s_int rfl nbF (fun _ _ => rfl) hK) (fun _ => rfl) rfl) (nmok rfl) ND rfl (.inl rfl) (.inl rfl) rfl) (ss_cons (s_iff (tcmp (o := .gt) O hK hr (s_sub (v0 1 rfl rfl (.inl rfl) rfl rfl) s_int rfl nbF (fun _ _ => rfl) hK) s_int rfl rfl nbF rfl) (ss_cons (s_set (q := 8) (k := 0) (pbin (o := .add) O hK (pbin (o := .add) O hK (v0 8 rfl rfl (.inl rfl) rfl rfl) s_str rfl rfl nbF) (s_bi1 (bi := .str) rfl rfl hK rfl (B.free "str" (by decide)) (s_sub (v0 1 rfl rfl (.inl rfl) rfl rfl) s_int rfl nbF (fun _ _ => rfl) hK) (fun _ => rfl) rfl) rfl rfl nbF) (nmok rfl) ND rfl (.inl rfl) (.inl rfl) rfl) ss_nil) ss_nil) (ss_cons (s_ret (pcmp (o := .eq) O hK hr (t_mth C hr tk_fn 4 "told" rfl (v0 0 rfl rfl (.inl rfl) rfl rfl) s_nil (fun z => by first | rfl | cases z) rfl rfl (by decide) rfl) (v0 8 rfl rfl (.inl rfl) rfl rfl) rfl rfl nbF rfl)) ss_nil))))))))))))
abbrev l21 : List (Nat × Nat) := [(0, 0), (1, 0), (2, 0), (3, 0), (4, 0), (5, 1), (6, 0), (7, 0), (5, 0)]
abbrev N21 : List Str := ["_law_one", "_law_left", "_law_other", "_law_right", "_law_number", "_law_asked", "_law_bad", "_law_row"]
theorem sc21 : FnScope N21 ["_law_one", "_law_left", "_law_other", "_law_right", "_law_number"] (defScope (top 28)) := ⟨rfl, rfl, rfl, by decide +kernel, rfl, by decide +kernel, by decide +kernel⟩
theorem ND21 : N21.Nodup := by decide +kernel
theorem b21 {w : World} {K : PySem.W.Frag} {mg : Str → Option Value} {base : Heap} {g : G} {φ : Phi} {k : Nat} {f : Addr} (B : Tab PR w K mg base g φ T nms frs k) (C : TabC PR w K mg base g φ P T mks mns fns k) (KF : Kits K P g) (KT : KitsT K P g) (OPS : OpsAll PR w K mg base g φ P k) (BX : TabX PR w K mg base g P xs (k + 1)) (XF : XFacts K g P fns) (BM : TabM PR w K mg base g φ T sms k) (BB : DnB PR w K mg base g φ P k) (cdv : Value) (A : Around) (outer : List Env) (s : Shared) (H : Hp) (E : XK) (hr2 : Room (k + 2) (A.deeper (envOfC "_law_methods_good" (defScope (top 28)) s.heap.objs.size f cdv))) :
    PSs (cxOf (L2.CX PR w) PR w K mg base N21 "_law_methods_good" (defScope (top 28)) f cdv A outer s H E) (defBody (top 28)) (tSs g φ P ⟨l21, [], []⟩ (fun c dd _ H' => E c dd H') .F c21.body) := by
  have hr := hr2.mono (Nat.le_add_right k 2)
  have hr1 := hr2.mono (Nat.le_succ (k + 1))
  have ND := ND21
  have hK : K = g.K := B.eK.symm
  have H9 : P.isx 999 = false := rfl
  have HIX := hix
  have O := OPS.fn (N := N21) (ty := ⟨l21, [], []⟩) cdv A outer s H E hr1
  have OC := @OpsAll.blk _ _ _ _ _ _ _ _ _ ⟨l21, [], []⟩ N21 _ _ _ OPS cdv A outer s H E hr1
  exact (ss_cons (s_set (q := 5) (k := 1) (s_lst (s_cons (s_tup (s_cons (s_tup (s_cons (v0 0 rfl rfl (.inl rfl) rfl rfl) (s_cons (v0 4 rfl rfl (.inl rfl) rfl rfl) s_nil rfl) rfl)) (s_cons s_int (s_cons (s_tup (s_cons s_str (s_cons (t_call B hr tk_fn 19 "_law_power" rfl rfl rfl rfl rfl (s_cons (v0 1 rfl rfl (.inl rfl) rfl rfl) (s_cons (v0 4 rfl rfl (.inl rfl) rfl rfl) s_nil rfl) rfl) (fun z => by first | rfl | cases z) rfl) s_nil rfl) rfl)) s_nil rfl) rfl) rfl)) s_nil rfl)) (nmok rfl) ND rfl (.inl rfl) (.inl rfl) rfl) (ss_cons (s_iff (L2.PW.pt (s_andT (tcmp (o := .lt) O hK hr (v0 4 rfl rfl (.inl rfl) rfl rfl) s_int rfl rfl nbF rfl) (pw_and1 (tcmp (o := .eq) O hK hr (s_sub (v0 1 rfl rfl (.inl rfl) rfl rfl) s_int rfl nbF (fun _ _ => rfl) hK) s_int rfl rfl nbF rfl)))) (ss_cons (s_set (q := 5) (k := 1) (s_lst (s_cons (s_tup (s_cons (s_tup (s_cons (v0 0 rfl rfl (.inl rfl) rfl rfl) (s_cons (v0 4 rfl rfl (.inl rfl) rfl rfl) s_nil rfl) rfl)) (s_cons s_int (s_cons (s_tup (s_cons s_str (s_cons s_str (s_cons s_bl s_nil rfl) rfl) rfl)) s_nil rfl) rfl) rfl)) s_nil rfl)) (nmok rfl) ND rfl (.inl rfl) (.inl rfl) rfl) ss_nil) ss_nil) (ss_cons (s_iff (tcmp (o := .eq) O hK hr (s_sub (v0 1 rfl rfl (.inl rfl) rfl rfl) s_int rfl nbF (fun _ _ => rfl) hK) s_int rfl rfl nbF rfl) (ss_cons (s_app (j := 5) (k := 0) rfl rfl (.inl rfl) rfl rfl (s_tup (s_cons (s_tup (s_cons (v0 0 rfl rfl (.inl rfl) rfl rfl) (s_cons s_int s_nil rfl) rfl)) (s_cons s_int (s_cons (s_tup (s_cons s_str (s_cons s_str (s_cons s_bl s_nil rfl) rfl) rfl)) s_nil rfl) rfl) rfl)) rfl rfl) ss_nil) (ss_cons (s_app (j := 5) (k := 0) rfl rfl (.inl rfl) rfl rfl (s_tup (s_cons (s_tup (s_cons (v0 0 rfl rfl (.inl rfl) rfl rfl) (s_cons s_int s_nil rfl) rfl)) (s_cons s_int (s_cons (s_tup (s_cons s_str (s_cons (t_call B hr tk_fn 14 "_law_by" rfl rfl rfl rfl rfl (s_cons (s_tup (s_cons s_int (s_cons s_int s_nil rfl) rfl)) (s_cons (v0 1 rfl rfl (.inl rfl) rfl rfl) s_nil rfl) rfl) (fun z => by first | rfl | cases z) rfl) s_nil rfl) rfl)) s_nil rfl) rfl) rfl)) rfl rfl) ss_nil)) (ss_cons (s_iff (tcmp (o := .eq) O hK hr (s_sub (v0 3 rfl rfl (.inl rfl) rfl rfl) s_int rfl nbF (fun _ _ => rfl) hK) s_int rfl rfl nbF rfl) (ss_cons (s_app (j := 5) (k := 0) rfl rfl (.inl rfl) rfl rfl (s_tup (s_cons (s_tup (s_cons (v0 0 rfl rfl (.inl rfl) rfl rfl) (s_cons (v0 2 rfl rfl (.inl rfl) rfl rfl) s_nil rfl) rfl)) (s_cons s_int (s_cons (s_tup (s_cons s_str (s_cons s_str (s_cons s_bl s_nil rfl) rfl) rfl)) s_nil rfl) rfl) rfl)) rfl rfl) ss_nil) (ss_cons (s_app (j := 5) (k := 0) rfl rfl (.inl rfl) rfl rfl (s_tup (s_cons (s_tup (s_cons (v0 0 rfl rfl (.inl rfl) rfl rfl) (s_cons (v0 2 rfl rfl (.inl rfl) rfl rfl) s_nil rfl) rfl)) (s_cons s_int (s_cons (s_tup (s_cons s_str (s_cons (t_call B hr tk_fn 14 "_law_by" rfl rfl rfl rfl rfl (s_cons (v0 1 rfl rfl (.inl rfl) rfl rfl) (s_cons (v0 3 rfl rfl (.inl rfl) rfl rfl) s_nil rfl) rfl) (fun z => by first | rfl | cases z) rfl) s_nil rfl) rfl)) s_nil rfl) rfl) rfl)) rfl rfl) ss_nil)) (ss_cons (s_for po_fn rfl (s_seq hK (s_low (s_lst (s_cons s_int (s_cons (s_neg s_int O.neg) (s_cons s_non (s_cons (s_low (t_new C hr1 tk_fn "Ratio" 0 40 (by decide) rfl rfl rfl rfl (s_cons s_int s_nil rfl) (fun z => by first | rfl | cases z) rfl)) s_nil rfl) rfl) rfl) rfl)))) (s_gname ND ⟨⟨6, (nmok rfl), rfl⟩, (.inl rfl), (.inl rfl)⟩) (ss_cons (s_app (j := 5) (k := 0) rfl rfl (.inl rfl) rfl rfl (s_tup (s_cons (s_tup (s_cons (v0 0 rfl rfl (.inl rfl) rfl rfl) (s_cons (v0 6 rfl rfl (.inl rfl) rfl rfl) s_nil rfl) rfl)) (s_cons s_int (s_cons (s_tup (s_cons s_str (s_cons s_str (s_cons s_bl s_nil rfl) rfl) rfl)) s_nil rfl) rfl) rfl)) rfl rfl) ss_nil) (folded_no rfl)) (ss_cons (s_for po_fn rfl (s_seq hK (s_low (s_lst (s_cons s_int (s_cons s_non (s_cons s_str s_nil rfl) rfl) rfl)))) (s_gname ND ⟨⟨6, (nmok rfl), rfl⟩, (.inl rfl), (.inl rfl)⟩) (ss_cons (s_app (j := 5) (k := 0) rfl rfl (.inl rfl) rfl rfl (s_tup (s_cons (s_tup (s_cons (v0 0 rfl rfl (.inl rfl) rfl rfl) (s_cons (v0 6 rfl rfl (.inl rfl) rfl rfl) s_nil rfl) rfl)) (s_cons s_int (s_cons (s_tup (s_cons s_str (s_cons s_str (s_cons s_bl s_nil rfl) rfl) rfl)) s_nil rfl) rfl) rfl)) rfl rfl) ss_nil) (folded_no rfl)) (ss_cons (s_app (j := 5) (k := 0) rfl rfl (.inl rfl) rfl rfl (s_tup (s_cons (s_tup (s_cons (v0 0 rfl rfl (.inl rfl) rfl rfl) (s_cons (s_neg s_int O.neg) s_nil rfl) rfl)) (s_cons s_int (s_cons (s_tup (s_cons s_str (s_cons (t_call B hr tk_fn 14 "_law_by" rfl rfl rfl rfl rfl (s_cons (v0 1 rfl rfl (.inl rfl) rfl rfl) (s_cons (s_tup (s_cons (s_neg s_int O.neg) (s_cons s_int s_nil rfl) rfl)) s_nil rfl) rfl) (fun z => by first | rfl | cases z) rfl) s_nil rfl) rfl)) s_nil rfl) rfl) rfl)) rfl rfl) (ss_cons (s_app (j := 5) (k := 0) rfl rfl (.inl rfl) rfl rfl (s_tup (s_cons (s_tup (s_cons (v0 0 rfl rfl (.inl rfl) rfl rfl) s_nil rfl)) (s_cons s_int (s_cons (s_tup (s_cons s_str (s_cons (v0 1 rfl rfl (.inl rfl) rfl rfl) s_nil rfl) rfl)) s_nil rfl) rfl) rfl)) rfl rfl) (ss_cons (s_app (j := 5) (k := 0) rfl rfl (.inl rfl) rfl rfl (s_tup (s_cons (s_tup (s_cons (s_neg s_int O.neg) s_nil rfl)) (s_cons s_int (s_cons (s_tup (s_cons s_str (s_cons (s_tup (s_cons (s_neg s_int O.neg) (s_cons s_int s_nil rfl) rfl)) s_nil rfl) rfl)) s_nil rfl) rfl) rfl)) rfl rfl) (ss_cons (s_for po_fn rfl (s_seq hK (s_low (s_lst (s_cons s_non (s_cons s_str s_nil rfl) rfl)))) (s_gname ND ⟨⟨6, (nmok rfl), rfl⟩, (.inl rfl), (.inl rfl)⟩) (ss_cons (s_app (j := 5) (k := 0) rfl rfl (.inl rfl) rfl rfl (s_tup (s_cons (s_tup (s_cons (v0 6 rfl rfl (.inl rfl) rfl rfl) s_nil rfl)) (s_cons s_int (s_cons (s_tup (s_cons s_str (s_cons s_str (s_cons s_bl s_nil rfl) rfl) rfl)) s_nil rfl) rfl) rfl)) rfl rfl) ss_nil) (folded_no rfl)) (ss_frz (j := 5) (i := 8) rfl rfl (by decide) (ss_cons (s_for po_fn rfl (s_seq hK (v0 8 rfl rfl (.inl rfl) rfl rfl)) (s_gname ND ⟨⟨7, (nmok rfl), rfl⟩, (.inl rfl), (.inl rfl)⟩) (ss_cons (s_iff (tcmp (o := .ne) O hK hr (t_call B hr tk_fn 18 "_law_told" rfl rfl rfl rfl rfl (s_cons (s_sub (v0 7 rfl rfl (.inl rfl) rfl rfl) s_int rfl nbF (fun _ _ => rfl) hK) (s_cons (s_sub (v0 7 rfl rfl (.inl rfl) rfl rfl) s_int rfl nbF (fun _ _ => rfl) hK) s_nil rfl) rfl) (fun z => by first | rfl | cases z) rfl) (s_sub (v0 7 rfl rfl (.inl rfl) rfl rfl) s_int rfl nbF (fun _ _ => rfl) hK) rfl rfl nbF rfl) (ss_cons (s_ret s_bl) ss_nil) ss_nil) ss_nil) (folded_no rfl)) (ss_cons (s_ret s_bl) ss_nil)))))))))))))
abbrev l22 : List (Nat × Nat) := [(0, 0), (1, 0), (2, 0), (3, 0), (4, 0)]
abbrev N22 : List Str := ["_law_top", "_law_bottom", "_law_due", "_law_door", "_law_bad"]
theorem sc22 : FnScope N22 ["_law_top", "_law_bottom"] (defScope (top 29)) := ⟨rfl, rfl, rfl, by decide +kernel, rfl, by decide +kernel, by decide +kernel⟩
theorem ND22 : N22.Nodup := by decide +kernel
theorem b22 {w : World} {K : PySem.W.Frag} {mg : Str → Option Value} {base : Heap} {g : G} {φ : Phi} {k : Nat} {f : Addr} (B : Tab PR w K mg base g φ T nms frs k) (C : TabC PR w K mg base g φ P T mks mns fns k) (KF : Kits K P g) (KT : KitsT K P g) (OPS : OpsAll PR w K mg base g φ P k) (BX : TabX PR w K mg base g P xs (k + 1)) (XF : XFacts K g P fns) (BM : TabM PR w K mg base g φ T sms k) (BB : DnB PR w K mg base g φ P k) (cdv : Value) (A : Around) (outer : List Env) (s : Shared) (H : Hp) (E : XK) (hr2 : Room (k + 2) (A.deeper (envOfC "_law_made_good" (defScope (top 29)) s.heap.objs.size f cdv))) :
    PSs (cxOf (L2.CX PR w) PR w K mg base N22 "_law_made_good" (defScope (top 29)) f cdv A outer s H E) (defBody (top 29)) (tSs g φ P ⟨l22, [], []⟩ (fun c dd _ H' => E c dd H') .F c22.body) := by
  have hr := hr2.mono (Nat.le_add_right k 2)
  have hr1 := hr2.mono (Nat.le_succ (k + 1))
  have ND := ND22
  have hK : K = g.K := B.eK.symm
  have H9 : P.isx 999 = false := rfl
  have HIX := hix
  have O := OPS.fn (N := N22) (ty := ⟨l22, [], []⟩) cdv A outer s H E hr1
  have OC := @OpsAll.blk _ _ _ _ _ _ _ _ _ ⟨l22, [], []⟩ N22 _ _ _ OPS cdv A outer s H E hr1
  exact (ss_cons (s_set (q := 2) (k := 0) (t_call B hr tk_fn 10 "_law_low" rfl rfl rfl rfl rfl (s_cons (v0 0 rfl rfl (.inl rfl) rfl rfl) (s_cons (v0 1 rfl rfl (.inl rfl) rfl rfl) s_nil rfl) rfl) (fun z => by first | rfl | cases z) rfl) (nmok rfl) ND rfl (.inl rfl) (.inl rfl) rfl) (ss_cons (s_iff (L2.PW.pt (s_orT (tcmp (o := .ne) O hK hr (t_call B hr tk_fn 18 "_law_told" rfl rfl rfl rfl rfl (s_cons (s_tup (s_cons (v0 0 rfl rfl (.inl rfl) rfl rfl) (s_cons (v0 1 rfl rfl (.inl rfl) rfl rfl) s_nil rfl) rfl)) (s_cons s_int s_nil rfl) rfl) (fun z => by first | rfl | cases z) rfl) (s_tup (s_cons s_str (s_cons (v0 2 rfl rfl (.inl rfl) rfl rfl) s_nil rfl) rfl)) rfl rfl nbF rfl) (pw_or1 (tcmp (o := .ne) O hK hr (t_call B hr tk_fn 18 "_law_told" rfl rfl rfl rfl rfl (s_cons (s_tup (s_cons (v0 0 rfl rfl (.inl rfl) rfl rfl) (s_cons (v0 1 rfl rfl (.inl rfl) rfl rfl) s_nil rfl) rfl)) (s_cons s_int s_nil rfl) rfl) (fun z => by first | rfl | cases z) rfl) (s_tup (s_cons s_str (s_cons (v0 2 rfl rfl (.inl rfl) rfl rfl) s_nil rfl) rfl)) rfl rfl nbF rfl)))) (ss_cons (s_ret s_bl) ss_nil) ss_nil) (ss_cons (s_for po_fn rfl (s_rng1 rfl (B.free "range" (by decide)) s_int rfl) (s_gname ND ⟨⟨3, (nmok rfl), rfl⟩, (.inl rfl), (.inl rfl)⟩) (ss_cons (s_for po_fn rfl (s_seq hK (s_low (s_lst (s_cons (s_tup (s_cons s_non (s_cons s_int s_nil rfl) rfl)) (s_cons (s_tup (s_cons (s_low (t_new C hr1 tk_fn "Ratio" 0 40 (by decide) rfl rfl rfl rfl (s_cons s_int s_nil rfl) (fun z => by first | rfl | cases z) rfl)) (s_cons s_int s_nil rfl) rfl)) (s_cons (s_tup (s_cons s_str (s_cons s_non s_nil rfl) rfl)) s_nil rfl) rfl) rfl)))) (s_gname ND ⟨⟨4, (nmok rfl), rfl⟩, (.inl rfl), (.inl rfl)⟩) (ss_cons (s_iff (tcmp (o := .ne) O hK hr (t_call B hr tk_fn 18 "_law_told" rfl rfl rfl rfl rfl (s_cons (v0 4 rfl rfl (.inl rfl) rfl rfl) (s_cons (v0 3 rfl rfl (.inl rfl) rfl rfl) s_nil rfl) rfl) (fun z => by first | rfl | cases z) rfl) (s_tup (s_cons s_str (s_cons s_str (s_cons s_bl s_nil rfl) rfl) rfl)) rfl rfl nbF rfl) (ss_cons (s_ret s_bl) ss_nil) ss_nil) ss_nil) (folded_no rfl)) (ss_cons (s_for po_fn rfl (s_seq hK (s_low (s_lst (s_cons s_int (s_cons s_non (s_cons (s_low (t_new C hr1 tk_fn "Ratio" 0 40 (by decide) rfl rfl rfl rfl (s_cons s_int s_nil rfl) (fun z => by first | rfl | cases z) rfl)) s_nil rfl) rfl) rfl)))) (s_gname ND ⟨⟨4, (nmok rfl), rfl⟩, (.inl rfl), (.inl rfl)⟩) (ss_cons (s_iff (tcmp (o := .ne) O hK hr (t_call B hr tk_fn 18 "_law_told" rfl rfl rfl rfl rfl (s_cons (s_tup (s_cons (v0 0 rfl rfl (.inl rfl) rfl rfl) (s_cons (v0 4 rfl rfl (.inl rfl) rfl rfl) s_nil rfl) rfl)) (s_cons (v0 3 rfl rfl (.inl rfl) rfl rfl) s_nil rfl) rfl) (fun z => by first | rfl | cases z) rfl) (s_tup (s_cons s_str (s_cons s_str (s_cons s_bl s_nil rfl) rfl) rfl)) rfl rfl nbF rfl) (ss_cons (s_ret s_bl) ss_nil) ss_nil) ss_nil) (folded_no rfl)) ss_nil)) (folded_no rfl)) (ss_cons (s_ret (pcmp (o := .eq) O hK hr (t_call B hr tk_fn 15 "_law_pair" rfl rfl rfl rfl rfl (s_cons (s_low (t_new C hr1 tk_fn "Ratio" 0 40 (by decide) rfl rfl rfl rfl (s_cons (v0 0 rfl rfl (.inl rfl) rfl rfl) s_nil rfl) (fun z => by first | rfl | cases z) rfl)) s_nil rfl) (fun z => by first | rfl | cases z) rfl) (s_tup (s_cons (v0 0 rfl rfl (.inl rfl) rfl rfl) (s_cons s_int s_nil rfl) rfl)) rfl rfl nbF rfl)) ss_nil))))
abbrev l23 : List (Nat × Nat) := [(0, 1), (1, 0), (2, 0), (3, 1), (4, 1), (5, 0), (6, 0), (7, 0), (8, 0), (9, 0), (10, 0), (3, 0), (4, 0)]
abbrev N23 : List Str := ["_law_stream_here", "_law_one", "_law_left", "_law_row", "_law_pairs", "_law_turn", "_law_kept", "_law_found", "_law_top", "_law_bottom", "_law_part"]
theorem sc23 : FnScope N23 ["_law_stream_here", "_law_one", "_law_left"] (defScope (top 30)) := ⟨rfl, rfl, rfl, by decide +kernel, rfl, by decide +kernel, by decide +kernel⟩
theorem ND23 : N23.Nodup := by decide +kernel
theorem b23 {w : World} {K : PySem.W.Frag} {mg : Str → Option Value} {base : Heap} {g : G} {φ : Phi} {k : Nat} {f : Addr} (B : Tab PR w K mg base g φ T nms frs k) (C : TabC PR w K mg base g φ P T mks mns fns k) (KF : Kits K P g) (KT : KitsT K P g) (OPS : OpsAll PR w K mg base g φ P k) (BX : TabX PR w K mg base g P xs (k + 1)) (XF : XFacts K g P fns) (BM : TabM PR w K mg base g φ T sms k) (BB : DnB PR w K mg base g φ P k) (v : V) (cdv : Value) (A : Around) (outer : List Env) (s : Shared) (H : Hp) (E : XK) (hr2 : Room (k + 2) (A.deeper (envOfC "_law_whole_good" (defScope (top 30)) s.heap.objs.size f cdv))) :
    PSs (cxOf (L2.CX PR w) PR w K mg base N23 "_law_whole_good" (defScope (top 30)) f cdv A outer s H E) (defBody (top 30)) (tSs g φ P ⟨l23, [(0, v)], []⟩ (fun c dd _ H' => E c dd H') .F c23.body) := by
  have hr := hr2.mono (Nat.le_add_right k 2)
  have hr1 := hr2.mono (Nat.le_succ (k + 1))
  have ND := ND23
  have hK : K = g.K := B.eK.symm
  have H9 : P.isx 999 = false := rfl
  have HIX := hix
  have O := OPS.fn (N := N23) (ty := ⟨l23, [(0, v)], []⟩) cdv A outer s H E hr1
  have OC := @OpsAll.blk _ _ _ _ _ _ _ _ _ ⟨l23, [(0, v)], []⟩ N23 _ _ _ OPS cdv A outer s H E hr1
  exact (ss_cons (s_set (q := 3) (k := 1) (s_lst s_nil) (nmok rfl) ND rfl (.inl rfl) (.inl rfl) rfl) (ss_cons (s_set (q := 4) (k := 1) (s_lst s_nil) (nmok rfl) ND rfl (.inl rfl) (.inl rfl) rfl) (ss_cons (s_for po_fn rfl (s_rng1 rfl (B.free "range" (by decide)) (t_callI B hr tk_fn 7 0 0 0 1 "_law_take" rfl rfl rfl (fun _ z => by cases z) rfl rfl rfl (pa_lent0 rfl (.inl rfl) rfl rfl (s_cons s_int s_nil rfl)) (fun z => by cases z) rfl) rfl) (s_gname ND ⟨⟨5, (nmok rfl), rfl⟩, (.inl rfl), (.inl rfl)⟩) (ss_cons (s_asgT (t_callI B hr tk_fn 17 0 0 0 1 "_law_drawn" rfl rfl rfl (fun _ z => by cases z) rfl rfl rfl (pa_lent0 rfl (.inl rfl) rfl rfl s_nil) (fun z => by cases z) rfl) (s_gtup hK rfl ND (NmsAt.cons ⟨⟨8, (nmok rfl), rfl⟩, (.inl rfl), (.inl rfl)⟩ (NmsAt.cons ⟨⟨9, (nmok rfl), rfl⟩, (.inl rfl), (.inl rfl)⟩ NmsAt.nil))) rfl rfl rfl) (ss_cons (s_app (j := 4) (k := 0) rfl rfl (.inl rfl) rfl rfl (t_call B hr tk_fn 10 "_law_low" rfl rfl rfl rfl rfl (s_cons (v0 8 rfl rfl (.inl rfl) rfl rfl) (s_cons (v0 9 rfl rfl (.inl rfl) rfl rfl) s_nil rfl) rfl) (fun z => by first | rfl | cases z) rfl) rfl rfl) (ss_cons (s_app (j := 3) (k := 0) rfl rfl (.inl rfl) rfl rfl (s_low (t_new C hr1 tk_fn "Ratio" 0 25 (by decide) rfl rfl rfl rfl (s_cons (v0 8 rfl rfl (.inl rfl) rfl rfl) (s_cons (v0 9 rfl rfl (.inl rfl) rfl rfl) s_nil rfl) rfl) (fun z => by first | rfl | cases z) rfl)) rfl rfl) (ss_cons (s_iff (tcmp (o := .eq) O hK hr (v0 9 rfl rfl (.inl rfl) rfl rfl) s_int rfl rfl nbF rfl) (ss_cons (s_setI (j := 3) (k := 0) rfl rfl (.inl rfl) rfl rfl (v0 8 rfl rfl (.inl rfl) rfl rfl) (pbin (o := .sub) O hK (s_bi1 (bi := .len) rfl rfl hK rfl (B.free "len" (by decide)) (vb 3 rfl rfl (.inl rfl) rfl rfl) (fun _ => rfl) rfl) s_int rfl rfl nbF) rfl rfl) ss_nil) ss_nil) ss_nil)))) (folded_no rfl)) (ss_cons (s_app (j := 3) (k := 0) rfl rfl (.inl rfl) rfl rfl (v0 1 rfl rfl (.inl rfl) rfl rfl) rfl rfl) (ss_cons (s_app (j := 4) (k := 0) rfl rfl (.inl rfl) rfl rfl (v0 2 rfl rfl (.inl rfl) rfl rfl) rfl rfl) (ss_cons (s_set (q := 6) (k := 0) (s_low (s_bi1 (bi := .list) rfl rfl hK rfl (B.free "list" (by decide)) (vb 3 rfl rfl (.inl rfl) rfl rfl) (fun _ => rfl) rfl)) (nmok rfl) ND rfl (.inl rfl) (.inl rfl) rfl) (ss_frz (j := 3) (i := 11) rfl rfl (by decide) (ss_cons (s_set (q := 7) (k := 0) (t_call B hr tk_fn 5 "whole" rfl rfl rfl rfl rfl (s_cons (v0 11 rfl rfl (.inl rfl) rfl rfl) s_nil rfl) (fun z => by first | rfl | cases z) rfl) (nmok rfl) ND rfl (.inl rfl) (.inl rfl) rfl) (ss_cons (s_iff (L2.PW.pt (s_orT (s_ntT (s_tru (t_isi B KF .tuple rfl rfl rfl (B.free "isinstance" (by decide)) (B.free "tuple" (by decide)) (v0 7 rfl rfl (.inl rfl) rfl rfl) rfl) hK (fun _ => rfl))) (pw_or1 (tcmp (o := .gt) O hK hr (s_bi1 (bi := .len) rfl rfl hK rfl (B.free "len" (by decide)) (s_low (s_lc (k := 0) (own := [("_law_part", 10)]) rfl ND (blkOk_by rfl) (lcok rfl) (s_seq hK (v0 7 rfl rfl (.inl rfl) rfl rfl)) (fun _ _ _ _ _ => (s_gname ND ⟨⟨10, (nmok rfl), rfl⟩, (.inl rfl), (.inr rfl)⟩)) (fun _ _ _ _ _ => (s_c1 (s_ntT (s_tru (t_call B hr takes0 8 "_law_int" rfl rfl rfl rfl rfl (s_cons (v0 10 rfl rfl (.inl rfl) rfl rfl) s_nil rfl) (fun z => by first | rfl | cases z) rfl) hK (fun _ => rfl))))) (fun _ _ _ _ _ => (v0 10 rfl rfl (.inl rfl) rfl rfl)) (folded_no rfl))) (fun _ => rfl) rfl) s_int rfl rfl nbF rfl)))) (ss_cons (s_ret s_bl) ss_nil) ss_nil) (ss_frz (j := 4) (i := 12) rfl rfl (by decide) (ss_cons (s_iff (L2.PW.pt (s_orT (tcmp (o := .ne) O hK hr (v0 7 rfl rfl (.inl rfl) rfl rfl) (s_bi1 (bi := .tuple) rfl rfl hK rfl (B.free "tuple" (by decide)) (t_call B hr tk_fn 16 "_law_whole" rfl rfl rfl rfl rfl (s_cons (v0 12 rfl rfl (.inl rfl) rfl rfl) s_nil rfl) (fun z => by first | rfl | cases z) rfl) (fun _ => rfl) rfl) rfl rfl nbF rfl) (s_orT (tcmp (o := .ne) O hK hr (t_call B hr tk_fn 5 "whole" rfl rfl rfl rfl rfl (s_cons (s_bi1 (bi := .tuple) rfl rfl hK rfl (B.free "tuple" (by decide)) (v0 11 rfl rfl (.inl rfl) rfl rfl) (fun _ => rfl) rfl) s_nil rfl) (fun z => by first | rfl | cases z) rfl) (v0 7 rfl rfl (.inl rfl) rfl rfl) rfl rfl nbF rfl) (pw_or1 (tcmp (o := .ne) O hK hr (v0 11 rfl rfl (.inl rfl) rfl rfl) (v0 6 rfl rfl (.inl rfl) rfl rfl) rfl rfl nbF rfl))))) (ss_cons (s_ret s_bl) ss_nil) ss_nil) (ss_cons (s_ret (s_and (pcmp (o := .eq) O hK hr (t_call B hr tk_fn 5 "whole" rfl rfl rfl rfl rfl (s_cons (s_low (s_lst (s_cons s_int (s_cons (s_low (t_new C hr1 tk_fn "Ratio" 0 40 (by decide) rfl rfl rfl rfl (s_cons s_int s_nil rfl) (fun z => by first | rfl | cases z) rfl)) (s_cons s_int s_nil rfl) rfl) rfl))) s_nil rfl) (fun z => by first | rfl | cases z) rfl) (s_tup (s_cons s_int (s_cons s_int (s_cons s_int s_nil rfl) rfl) rfl)) rfl rfl nbF rfl) (s_one (pcmp (o := .eq) O hK hr (t_call B hr tk_fn 5 "whole" rfl rfl rfl rfl rfl (s_cons (s_low (s_lst (s_cons (s_neg s_int O.neg) (s_cons s_int s_nil rfl) rfl))) s_nil rfl) (fun z => by first | rfl | cases z) rfl) (s_tup (s_cons (s_neg s_int O.neg) (s_cons s_int s_nil rfl) rfl)) rfl rfl nbF rfl)) hK)) ss_nil))))))))))))
abbrev l24 : List (Nat × Nat) := [(0, 0), (1, 1), (2, 0), (3, 0), (4, 0), (5, 0), (6, 0), (7, 0), (8, 0), (9, 0), (10, 0), (1, 0)]
abbrev N24 : List Str := ["_law_script", "_law_stream_here", "_law_left", "_law_right", "_law_one", "_law_other", "_law_number", "_law_top", "_law_bottom", "_law_above", "_law_below"]
theorem sc24 : FnScope N24 ["_law_script"] (defScope (top 31)) := ⟨rfl, rfl, rfl, by decide +kernel, rfl, by decide +kernel, by decide +kernel⟩
theorem ND24 : N24.Nodup := by decide +kernel
theorem b24 {w : World} {K : PySem.W.Frag} {mg : Str → Option Value} {base : Heap} {g : G} {φ : Phi} {k : Nat} {f : Addr} (B : Tab PR w K mg base g φ T nms frs k) (C : TabC PR w K mg base g φ P T mks mns fns k) (KF : Kits K P g) (KT : KitsT K P g) (OPS : OpsAll PR w K mg base g φ P k) (BX : TabX PR w K mg base g P xs (k + 1)) (XF : XFacts K g P fns) (BM : TabM PR w K mg base g φ T sms k) (BB : DnB PR w K mg base g φ P k) (cdv : Value) (A : Around) (outer : List Env) (s : Shared) (H : Hp) (E : XK) (hr2 : Room (k + 2) (A.deeper (envOfC "law" (defScope (top 31)) s.heap.objs.size f cdv))) :
    PSs (cxOf (L2.CX PR w) PR w K mg base N24 "law" (defScope (top 31)) f cdv A outer s H E) (defBody (top 31)) (tSs g φ P ⟨l24, [], []⟩ (fun c dd _ H' => E c dd H') .F c24.body) := by
  have hr := hr2.mono (Nat.le_add_right k 2)
  have hr1 := hr2.mono (Nat.le_succ (k + 1))
  have ND := ND24
  have hK : K = g.K := B.eK.symm
  have H9 : P.isx 999 = false := rfl
  have HIX := hix
  have O := OPS.fn (N := N24) (ty := ⟨l24, [], []⟩) cdv A outer s H E hr1
  have OC := @OpsAll.blk _ _ _ _ _ _ _ _ _ ⟨l24, [], []⟩ N24 _ _ _ OPS cdv A outer s H E hr1
  exact (ss_cons (s_set (q := 1) (k := 1) (t_call B hr tk_fn 6 "_law_stream" rfl rfl rfl rfl rfl (s_cons (v0 0 rfl rfl (.inl rfl) rfl rfl) s_nil rfl) (fun z => by first | rfl | cases z) rfl) (nmok rfl) ND rfl (.inl rfl) (.inl rfl) rfl) (ss_cons (s_asgT (t_callI B hr tk_fn 17 1 1 0 1 "_law_drawn" rfl rfl rfl (fun _ z => by cases z) rfl rfl rfl (pa_lent0 rfl (.inl rfl) rfl rfl s_nil) (fun z => by cases z) rfl) (s_gtup hK rfl ND (NmsAt.cons ⟨⟨7, (nmok rfl), rfl⟩, (.inl rfl), (.inl rfl)⟩ (NmsAt.cons ⟨⟨8, (nmok rfl), rfl⟩, (.inl rfl), (.inl rfl)⟩ NmsAt.nil))) rfl rfl rfl) (ss_cons (s_asgT (t_callI B hr tk_fn 17 1 1 0 1 "_law_drawn" rfl rfl rfl (fun _ z => by cases z) rfl rfl rfl (pa_lent0 rfl (.inl rfl) rfl rfl s_nil) (fun z => by cases z) rfl) (s_gtup hK rfl ND (NmsAt.cons ⟨⟨9, (nmok rfl), rfl⟩, (.inl rfl), (.inl rfl)⟩ (NmsAt.cons ⟨⟨10, (nmok rfl), rfl⟩, (.inl rfl), (.inl rfl)⟩ NmsAt.nil))) rfl rfl rfl) (ss_cons (s_set (q := 2) (k := 0) (t_call B hr tk_fn 10 "_law_low" rfl rfl rfl rfl rfl (s_cons (v0 7 rfl rfl (.inl rfl) rfl rfl) (s_cons (v0 8 rfl rfl (.inl rfl) rfl rfl) s_nil rfl) rfl) (fun z => by first | rfl | cases z) rfl) (nmok rfl) ND rfl (.inl rfl) (.inl rfl) rfl) (ss_cons (s_set (q := 3) (k := 0) (t_call B hr tk_fn 10 "_law_low" rfl rfl rfl rfl rfl (s_cons (v0 9 rfl rfl (.inl rfl) rfl rfl) (s_cons (v0 10 rfl rfl (.inl rfl) rfl rfl) s_nil rfl) rfl) (fun z => by first | rfl | cases z) rfl) (nmok rfl) ND rfl (.inl rfl) (.inl rfl) rfl) (ss_cons (s_set (q := 4) (k := 0) (s_low (t_new C hr1 tk_fn "Ratio" 0 25 (by decide) rfl rfl rfl rfl (s_cons (v0 7 rfl rfl (.inl rfl) rfl rfl) (s_cons (v0 8 rfl rfl (.inl rfl) rfl rfl) s_nil rfl) rfl) (fun z => by first | rfl | cases z) rfl)) (nmok rfl) ND rfl (.inl rfl) (.inl rfl) rfl) (ss_cons (s_set (q := 5) (k := 0) (s_low (t_new C hr1 tk_fn "Ratio" 0 25 (by decide) rfl rfl rfl rfl (s_cons (v0 9 rfl rfl (.inl rfl) rfl rfl) (s_cons (v0 10 rfl rfl (.inl rfl) rfl rfl) s_nil rfl) rfl) (fun z => by first | rfl | cases z) rfl)) (nmok rfl) ND rfl (.inl rfl) (.inl rfl) rfl) (ss_cons (s_set (q := 6) (k := 0) (s_sub (s_low (s_lst (s_cons s_int (s_cons s_int (s_cons (s_neg s_int O.neg) (s_cons s_int (s_cons (s_neg s_int O.neg) (s_cons s_int (s_cons s_int s_nil rfl) rfl) rfl) rfl) rfl) rfl) rfl))) (t_callI B hr tk_fn 7 1 1 0 1 "_law_take" rfl rfl rfl (fun _ z => by cases z) rfl rfl rfl (pa_lent0 rfl (.inl rfl) rfl rfl (s_cons s_int s_nil rfl)) (fun z => by cases z) rfl) rfl nbF (fun _ _ => rfl) hK) (nmok rfl) ND rfl (.inl rfl) (.inl rfl) rfl) (ss_cons (s_iff (L2.PW.pt (s_orT (s_ntT (s_tru (t_call B hr tk_fn 22 "_law_made_good" rfl rfl rfl rfl rfl (s_cons (v0 7 rfl rfl (.inl rfl) rfl rfl) (s_cons (v0 8 rfl rfl (.inl rfl) rfl rfl) s_nil rfl) rfl) (fun z => by first | rfl | cases z) rfl) hK (fun _ => rfl))) (pw_or1 (s_ntT (s_tru (t_call B hr tk_fn 20 "_law_signs_good" rfl rfl rfl rfl rfl (s_cons (v0 4 rfl rfl (.inl rfl) rfl rfl) (s_cons (v0 2 rfl rfl (.inl rfl) rfl rfl) (s_cons (v0 5 rfl rfl (.inl rfl) rfl rfl) (s_cons (v0 3 rfl rfl (.inl rfl) rfl rfl) (s_cons (v0 6 rfl rfl (.inl rfl) rfl rfl) s_nil rfl) rfl) rfl) rfl) rfl) (fun z => by first | rfl | cases z) rfl) hK (fun _ => rfl)))))) (ss_cons (s_ret s_bl) ss_nil) ss_nil) (ss_cons (s_set (q := 6) (k := 0) (s_sub (s_low (s_lst (s_cons s_int (s_cons s_int (s_cons (s_neg s_int O.neg) (s_cons s_int (s_cons (s_neg s_int O.neg) (s_cons s_int (s_cons (s_neg s_int O.neg) (s_cons s_int (s_cons (s_neg s_int O.neg) s_nil rfl) rfl) rfl) rfl) rfl) rfl) rfl) rfl) rfl))) (t_callI B hr tk_fn 7 1 1 0 1 "_law_take" rfl rfl rfl (fun _ z => by cases z) rfl rfl rfl (pa_lent0 rfl (.inl rfl) rfl rfl (s_cons s_int s_nil rfl)) (fun z => by cases z) rfl) rfl nbF (fun _ _ => rfl) hK) (nmok rfl) ND rfl (.inl rfl) (.inl rfl) rfl) (ss_cons (s_ret (s_and (t_call B hr tk_fn 21 "_law_methods_good" rfl rfl rfl rfl rfl (s_cons (v0 4 rfl rfl (.inl rfl) rfl rfl) (s_cons (v0 2 rfl rfl (.inl rfl) rfl rfl) (s_cons (v0 5 rfl rfl (.inl rfl) rfl rfl) (s_cons (v0 3 rfl rfl (.inl rfl) rfl rfl) (s_cons (v0 6 rfl rfl (.inl rfl) rfl rfl) s_nil rfl) rfl) rfl) rfl) rfl) (fun z => by first | rfl | cases z) rfl) (s_one (t_callI B hr tk_fn 23 1 1 0 1 "_law_whole_good" rfl rfl rfl (fun _ z => by cases z) rfl rfl rfl (pa_lent0 rfl (.inl rfl) rfl rfl (s_cons (v0 4 rfl rfl (.inl rfl) rfl rfl) (s_cons (v0 2 rfl rfl (.inl rfl) rfl rfl) s_nil rfl) rfl)) (fun z => by cases z) rfl)) hK)) ss_nil)))))))))))
abbrev l25 : List (Nat × Nat) := [(0, 2), (1, 0), (2, 0)]
abbrev N25 : List Str := ["self", "top", "bottom"]
theorem sc25 : FnScope N25 ["self", "top", "bottom"] (defScope (meth 5 1)) := ⟨rfl, rfl, rfl, by decide +kernel, rfl, by decide +kernel, by decide +kernel⟩
theorem ND25 : N25.Nodup := by decide +kernel
theorem b25 {w : World} {K : PySem.W.Frag} {mg : Str → Option Value} {base : Heap} {g : G} {φ : Phi} {k : Nat} {f : Addr} (B : Tab PR w K mg base g φ T nms frs k) (C : TabC PR w K mg base g φ P T mks mns fns k) (KF : Kits K P g) (KT : KitsT K P g) (OPS : OpsAll PR w K mg base g φ P k) (BX : TabX PR w K mg base g P xs (k + 1)) (XF : XFacts K g P fns) (BM : TabM PR w K mg base g φ T sms k) (BB : DnB PR w K mg base g φ P k) (v : V) (cdv : Value) (A : Around) (outer : List Env) (s : Shared) (H : Hp) (E : XK) (hr2 : Room (k + 2) (A.deeper (envOfC "Ratio.__init__" (defScope (meth 5 1)) s.heap.objs.size f cdv))) :
    PSs (cxOf (L2.CX PR w) PR w K mg base N25 "Ratio.__init__" (defScope (meth 5 1)) f cdv A outer s H E) (defBody (meth 5 1)) (tSs g φ P ⟨l25, [(0, v)], []⟩ (fun c dd _ H' => E c dd H') .F c25.body) := by
  have hr := hr2.mono (Nat.le_add_right k 2)
  have hr1 := hr2.mono (Nat.le_succ (k + 1))
  have ND := ND25
  have hK : K = g.K := B.eK.symm
  have H9 : P.isx 999 = false := rfl
  have HIX := hix
  have O := OPS.fn (N := N25) (ty := ⟨l25, [(0, v)], []⟩) cdv A outer s H E hr1
  have OC := @OpsAll.blk _ _ _ _ _ _ _ _ _ ⟨l25, [(0, v)], []⟩ N25 _ _ _ OPS cdv A outer s H E hr1
  exact (ss_cons (s_iff (s_ntT (s_tru (t_call B hr tk_fn 0 "plain_integer" rfl rfl rfl rfl rfl (s_cons (v0 1 rfl rfl (.inl rfl) rfl rfl) s_nil rfl) (fun z => by first | rfl | cases z) rfl) hK (fun _ => rfl))) (ss_cons (s_raise rfl BX hr2 tk_fn "BadNumber" 2 (by decide) rfl rfl (s_cons s_str s_nil rfl) (fun z => by first | rfl | cases z) rfl) ss_nil) ss_nil) (ss_cons (s_iff (L2.PW.pt (s_orT (s_ntT (s_tru (t_call B hr tk_fn 0 "plain_integer" rfl rfl rfl rfl rfl (s_cons (v0 2 rfl rfl (.inl rfl) rfl rfl) s_nil rfl) (fun z => by first | rfl | cases z) rfl) hK (fun _ => rfl))) (pw_or1 (tcmp (o := .eq) O hK hr (v0 2 rfl rfl (.inl rfl) rfl rfl) s_int rfl rfl nbF rfl)))) (ss_cons (s_raise rfl BX hr2 tk_fn "BadNumber" 2 (by decide) rfl rfl (s_cons s_str s_nil rfl) (fun z => by first | rfl | cases z) rfl) ss_nil) ss_nil) (ss_cons (s_sfld2 (j := 0) (f := 0) (m := 1) hK rfl rfl rfl (.inl rfl) rfl rfl (t_sf C 0 "top" rfl) (t_sf C 1 "bottom" rfl) (t_call B hr tk_fn 2 "ratios_lowest" rfl rfl rfl rfl rfl (s_cons (v0 1 rfl rfl (.inl rfl) rfl rfl) (s_cons (v0 2 rfl rfl (.inl rfl) rfl rfl) s_nil rfl) rfl) (fun z => by first | rfl | cases z) rfl) rfl rfl) ss_nil)))
abbrev l26 : List (Nat × Nat) := [(0, 0), (1, 0)]
abbrev N26 : List Str := ["top", "bottom"]
theorem sc26 : FnScope N26 ["top", "bottom"] (defScope (meth 5 2)) := ⟨rfl, rfl, rfl, by decide +kernel, rfl, by decide +kernel, by decide +kernel⟩
theorem ND26 : N26.Nodup := by decide +kernel
theorem b26 {w : World} {K : PySem.W.Frag} {mg : Str → Option Value} {base : Heap} {g : G} {φ : Phi} {k : Nat} {f : Addr} (B : Tab PR w K mg base g φ T nms frs k) (C : TabC PR w K mg base g φ P T mks mns fns k) (KF : Kits K P g) (KT : KitsT K P g) (OPS : OpsAll PR w K mg base g φ P k) (BX : TabX PR w K mg base g P xs (k + 1)) (XF : XFacts K g P fns) (BM : TabM PR w K mg base g φ T sms k) (BB : DnB PR w K mg base g φ P k) (cdv : Value) (A : Around) (outer : List Env) (s : Shared) (H : Hp) (E : XK) (hr2 : Room (k + 2) (A.deeper (envOfC "Ratio.lowest" (defScope (meth 5 2)) s.heap.objs.size f cdv))) :
    PSs (cxOf (L2.CX PR w) PR w K mg base N26 "Ratio.lowest" (defScope (meth 5 2)) f cdv A outer s H E) (defBody (meth 5 2)) (tSs g φ P ⟨l26, [], []⟩ (fun c dd _ H' => E c dd H') .F c26.body) := by
  have hr := hr2.mono (Nat.le_add_right k 2)
  have hr1 := hr2.mono (Nat.le_succ (k + 1))
  have ND := ND26
  have hK : K = g.K := B.eK.symm
  have H9 : P.isx 999 = false := rfl
  have HIX := hix
  have O := OPS.fn (N := N26) (ty := ⟨l26, [], []⟩) cdv A outer s H E hr1
  have OC := @OpsAll.blk _ _ _ _ _ _ _ _ _ ⟨l26, [], []⟩ N26 _ _ _ OPS cdv A outer s H E hr1
  exact (ss_cons (s_iff (s_ntT (s_tru (t_call B hr tk_fn 0 "plain_integer" rfl rfl rfl rfl rfl (s_cons (v0 0 rfl rfl (.inl rfl) rfl rfl) s_nil rfl) (fun z => by first | rfl | cases z) rfl) hK (fun _ => rfl))) (ss_cons (s_raise rfl BX hr2 tk_fn "BadNumber" 2 (by decide) rfl rfl (s_cons s_str s_nil rfl) (fun z => by first | rfl | cases z) rfl) ss_nil) ss_nil) (ss_cons (s_iff (L2.PW.pt (s_orT (s_ntT (s_tru (t_call B hr tk_fn 0 "plain_integer" rfl rfl rfl rfl rfl (s_cons (v0 1 rfl rfl (.inl rfl) rfl rfl) s_nil rfl) (fun z => by first | rfl | cases z) rfl) hK (fun _ => rfl))) (pw_or1 (tcmp (o := .eq) O hK hr (v0 1 rfl rfl (.inl rfl) rfl rfl) s_int rfl rfl nbF rfl)))) (ss_cons (s_raise rfl BX hr2 tk_fn "BadNumber" 2 (by decide) rfl rfl (s_cons s_str s_nil rfl) (fun z => by first | rfl | cases z) rfl) ss_nil) ss_nil) (ss_cons (s_ret (t_call B hr tk_fn 2 "ratios_lowest" rfl rfl rfl rfl rfl (s_cons (v0 0 rfl rfl (.inl rfl) rfl rfl) (s_cons (v0 1 rfl rfl (.inl rfl) rfl rfl) s_nil rfl) rfl) (fun z => by first | rfl | cases z) rfl)) ss_nil)))
abbrev l27 : List (Nat × Nat) := [(0, 0), (1, 0), (2, 0)]
abbrev N27 : List Str := ["self", "other", "pair"]
theorem sc27 : FnScope N27 ["self", "other"] (defScope (meth 5 3)) := ⟨rfl, rfl, rfl, by decide +kernel, rfl, by decide +kernel, by decide +kernel⟩
theorem ND27 : N27.Nodup := by decide +kernel
theorem b27 {w : World} {K : PySem.W.Frag} {mg : Str → Option Value} {base : Heap} {g : G} {φ : Phi} {k : Nat} {f : Addr} (B : Tab PR w K mg base g φ T nms frs k) (C : TabC PR w K mg base g φ P T mks mns fns k) (KF : Kits K P g) (KT : KitsT K P g) (OPS : OpsAll PR w K mg base g φ P k) (BX : TabX PR w K mg base g P xs (k + 1)) (XF : XFacts K g P fns) (BM : TabM PR w K mg base g φ T sms k) (BB : DnB PR w K mg base g φ P k) (cdv : Value) (A : Around) (outer : List Env) (s : Shared) (H : Hp) (E : XK) (hr2 : Room (k + 2) (A.deeper (envOfC "Ratio.__add__" (defScope (meth 5 3)) s.heap.objs.size f cdv))) :
    PSs (cxOf (L2.CX PR w) PR w K mg base N27 "Ratio.__add__" (defScope (meth 5 3)) f cdv A outer s H E) (defBody (meth 5 3)) (tSs g φ P ⟨l27, [], []⟩ (fun c dd _ H' => E c dd H') .F c27.body) := by
  have hr := hr2.mono (Nat.le_add_right k 2)
  have hr1 := hr2.mono (Nat.le_succ (k + 1))
  have ND := ND27
  have hK : K = g.K := B.eK.symm
  have H9 : P.isx 999 = false := rfl
  have HIX := hix
  have O := OPS.fn (N := N27) (ty := ⟨l27, [], []⟩) cdv A outer s H E hr1
  have OC := @OpsAll.blk _ _ _ _ _ _ _ _ _ ⟨l27, [], []⟩ N27 _ _ _ OPS cdv A outer s H E hr1
  exact (ss_cons (s_set (q := 2) (k := 0) (t_call B hr tk_fn 3 "ratio_pair" rfl rfl rfl rfl rfl (s_cons (v0 1 rfl rfl (.inl rfl) rfl rfl) s_nil rfl) (fun z => by first | rfl | cases z) rfl) (nmok rfl) ND rfl (.inl rfl) (.inl rfl) rfl) (ss_cons (s_iff (t_isN (v0 2 rfl rfl (.inl rfl) rfl rfl) hK) (ss_cons (s_ret (s_neve (kd := .F))) ss_nil) ss_nil) (ss_cons (s_ret (s_low (t_new C hr1 tk_fn "Ratio" 0 25 (by decide) rfl rfl rfl rfl (s_cons (pbin (o := .add) O hK (pbin (o := .mul) O hK (t_fld C 0 "top" rfl (v0 0 rfl rfl (.inl rfl) rfl rfl) rfl) (s_sub (v0 2 rfl rfl (.inl rfl) rfl rfl) s_int rfl nbF (fun _ _ => rfl) hK) rfl rfl nbF) (pbin (o := .mul) O hK (s_sub (v0 2 rfl rfl (.inl rfl) rfl rfl) s_int rfl nbF (fun _ _ => rfl) hK) (t_fld C 1 "bottom" rfl (v0 0 rfl rfl (.inl rfl) rfl rfl) rfl) rfl rfl nbF) rfl rfl nbF) (s_cons (pbin (o := .mul) O hK (t_fld C 1 "bottom" rfl (v0 0 rfl rfl (.inl rfl) rfl rfl) rfl) (s_sub (v0 2 rfl rfl (.inl rfl) rfl rfl) s_int rfl nbF (fun _ _ => rfl) hK) rfl rfl nbF) s_nil rfl) rfl) (fun z => by first | rfl | cases z) rfl))) ss_nil)))
abbrev l28 : List (Nat × Nat) := [(0, 0), (1, 0), (2, 0)]
abbrev N28 : List Str := ["self", "other", "pair"]
theorem sc28 : FnScope N28 ["self", "other"] (defScope (meth 5 4)) := ⟨rfl, rfl, rfl, by decide +kernel, rfl, by decide +kernel, by decide +kernel⟩
theorem ND28 : N28.Nodup := by decide +kernel
theorem b28 {w : World} {K : PySem.W.Frag} {mg : Str → Option Value} {base : Heap} {g : G} {φ : Phi} {k : Nat} {f : Addr} (B : Tab PR w K mg base g φ T nms frs k) (C : TabC PR w K mg base g φ P T mks mns fns k) (KF : Kits K P g) (KT : KitsT K P g) (OPS : OpsAll PR w K mg base g φ P k) (BX : TabX PR w K mg base g P xs (k + 1)) (XF : XFacts K g P fns) (BM : TabM PR w K mg base g φ T sms k) (BB : DnB PR w K mg base g φ P k) (cdv : Value) (A : Around) (outer : List Env) (s : Shared) (H : Hp) (E : XK) (hr2 : Room (k + 2) (A.deeper (envOfC "Ratio.__radd__" (defScope (meth 5 4)) s.heap.objs.size f cdv))) :
    PSs (cxOf (L2.CX PR w) PR w K mg base N28 "Ratio.__radd__" (defScope (meth 5 4)) f cdv A outer s H E) (defBody (meth 5 4)) (tSs g φ P ⟨l28, [], []⟩ (fun c dd _ H' => E c dd H') .F c28.body) := by
  have hr := hr2.mono (Nat.le_add_right k 2)
  have hr1 := hr2.mono (Nat.le_succ (k + 1))
  have ND := ND28
  have hK : K = g.K := B.eK.symm
  have H9 : P.isx 999 = false := rfl
  have HIX := hix
  have O := OPS.fn (N := N28) (ty := ⟨l28, [], []⟩) cdv A outer s H E hr1
  have OC := @OpsAll.blk _ _ _ _ _ _ _ _ _ ⟨l28, [], []⟩ N28 _ _ _ OPS cdv A outer s H E hr1
  exact (ss_cons (s_set (q := 2) (k := 0) (t_call B hr tk_fn 3 "ratio_pair" rfl rfl rfl rfl rfl (s_cons (v0 1 rfl rfl (.inl rfl) rfl rfl) s_nil rfl) (fun z => by first | rfl | cases z) rfl) (nmok rfl) ND rfl (.inl rfl) (.inl rfl) rfl) (ss_cons (s_iff (t_isN (v0 2 rfl rfl (.inl rfl) rfl rfl) hK) (ss_cons (s_ret (s_neve (kd := .F))) ss_nil) ss_nil) (ss_cons (s_ret (s_low (t_new C hr1 tk_fn "Ratio" 0 25 (by decide) rfl rfl rfl rfl (s_cons (pbin (o := .add) O hK (pbin (o := .mul) O hK (t_fld C 0 "top" rfl (v0 0 rfl rfl (.inl rfl) rfl rfl) rfl) (s_sub (v0 2 rfl rfl (.inl rfl) rfl rfl) s_int rfl nbF (fun _ _ => rfl) hK) rfl rfl nbF) (pbin (o := .mul) O hK (s_sub (v0 2 rfl rfl (.inl rfl) rfl rfl) s_int rfl nbF (fun _ _ => rfl) hK) (t_fld C 1 "bottom" rfl (v0 0 rfl rfl (.inl rfl) rfl rfl) rfl) rfl rfl nbF) rfl rfl nbF) (s_cons (pbin (o := .mul) O hK (t_fld C 1 "bottom" rfl (v0 0 rfl rfl (.inl rfl) rfl rfl) rfl) (s_sub (v0 2 rfl rfl (.inl rfl) rfl rfl) s_int rfl nbF (fun _ _ => rfl) hK) rfl rfl nbF) s_nil rfl) rfl) (fun z => by first | rfl | cases z) rfl))) ss_nil)))
abbrev l29 : List (Nat × Nat) := [(0, 0), (1, 0), (2, 0)]
abbrev N29 : List Str := ["self", "other", "pair"]
theorem sc29 : FnScope N29 ["self", "other"] (defScope (meth 5 5)) := ⟨rfl, rfl, rfl, by decide +kernel, rfl, by decide +kernel, by decide +kernel⟩
theorem ND29 : N29.Nodup := by decide +kernel
theorem b29 {w : World} {K : PySem.W.Frag} {mg : Str → Option Value} {base : Heap} {g : G} {φ : Phi} {k : Nat} {f : Addr} (B : Tab PR w K mg base g φ T nms frs k) (C : TabC PR w K mg base g φ P T mks mns fns k) (KF : Kits K P g) (KT : KitsT K P g) (OPS : OpsAll PR w K mg base g φ P k) (BX : TabX PR w K mg base g P xs (k + 1)) (XF : XFacts K g P fns) (BM : TabM PR w K mg base g φ T sms k) (BB : DnB PR w K mg base g φ P k) (cdv : Value) (A : Around) (outer : List Env) (s : Shared) (H : Hp) (E : XK) (hr2 : Room (k + 2) (A.deeper (envOfC "Ratio.__sub__" (defScope (meth 5 5)) s.heap.objs.size f cdv))) :
    PSs (cxOf (L2.CX PR w) PR w K mg base N29 "Ratio.__sub__" (defScope (meth 5 5)) f cdv A outer s H E) (defBody (meth 5 5)) (tSs g φ P ⟨l29, [], []⟩ (fun c dd _ H' => E c dd H') .F c29.body) := by
  have hr := hr2.mono (Nat.le_add_right k 2)
  have hr1 := hr2.mono (Nat.le_succ (k + 1))
  have ND := ND29
  have hK : K = g.K := B.eK.symm
  have H9 : P.isx 999 = false := rfl
  have HIX := hix
  have O := OPS.fn (N := N29) (ty := ⟨l29, [], []⟩) cdv A outer s H E hr1
  have OC := @OpsAll.blk _ _ _ _ _ _ _ _ _ ⟨l29, [], []⟩ N29 _ _ _ OPS cdv A outer s H E hr1
  exact (ss_cons (s_set (q := 2) (k := 0) (t_call B hr tk_fn 3 "ratio_pair" rfl rfl rfl rfl rfl (s_cons (v0 1 rfl rfl (.inl rfl) rfl rfl) s_nil rfl) (fun z => by first | rfl | cases z) rfl) (nmok rfl) ND rfl (.inl rfl) (.inl rfl) rfl) (ss_cons (s_iff (t_isN (v0 2 rfl rfl (.inl rfl) rfl rfl) hK) (ss_cons (s_ret (s_neve (kd := .F))) ss_nil) ss_nil) (ss_cons (s_ret (s_low (t_new C hr1 tk_fn "Ratio" 0 25 (by decide) rfl rfl rfl rfl (s_cons (pbin (o := .sub) O hK (pbin (o := .mul) O hK (t_fld C 0 "top" rfl (v0 0 rfl rfl (.inl rfl) rfl rfl) rfl) (s_sub (v0 2 rfl rfl (.inl rfl) rfl rfl) s_int rfl nbF (fun _ _ => rfl) hK) rfl rfl nbF) (pbin (o := .mul) O hK (s_sub (v0 2 rfl rfl (.inl rfl) rfl rfl) s_int rfl nbF (fun _ _ => rfl) hK) (t_fld C 1 "bottom" rfl (v0 0 rfl rfl (.inl rfl) rfl rfl) rfl) rfl rfl nbF) rfl rfl nbF) (s_cons (pbin (o := .mul) O hK (t_fld C 1 "bottom" rfl (v0 0 rfl rfl (.inl rfl) rfl rfl) rfl) (s_sub (v0 2 rfl rfl (.inl rfl) rfl rfl) s_int rfl nbF (fun _ _ => rfl) hK) rfl rfl nbF) s_nil rfl) rfl) (fun z => by first | rfl | cases z) rfl))) ss_nil)))
abbrev l30 : List (Nat × Nat) := [(0, 0), (1, 0), (2, 0)]
abbrev N30 : List Str := ["self", "other", "pair"]
theorem sc30 : FnScope N30 ["self", "other"] (defScope (meth 5 6)) := ⟨rfl, rfl, rfl, by decide +kernel, rfl, by decide +kernel, by decide +kernel⟩
theorem ND30 : N30.Nodup := by decide +kernel
theorem b30 {w : World} {K : PySem.W.Frag} {mg : Str → Option Value} {base : Heap} {g : G} {φ : Phi} {k : Nat} {f : Addr} (B : Tab PR w K mg base g φ T nms frs k) (C : TabC PR w K mg base g φ P T mks mns fns k) (KF : Kits K P g) (KT : KitsT K P g) (OPS : OpsAll PR w K mg base g φ P k) (BX : TabX PR w K mg base g P xs (k + 1)) (XF : XFacts K g P fns) (BM : TabM PR w K mg base g φ T sms k) (BB : DnB PR w K mg base g φ P k) (cdv : Value) (A : Around) (outer : List Env) (s : Shared) (H : Hp) (E : XK) (hr2 : Room (k + 2) (A.deeper (envOfC "Ratio.__rsub__" (defScope (meth 5 6)) s.heap.objs.size f cdv))) :
    PSs (cxOf (L2.CX PR w) PR w K mg base N30 "Ratio.__rsub__" (defScope (meth 5 6)) f cdv A outer s H E) (defBody (meth 5 6)) (tSs g φ P ⟨l30, [], []⟩ (fun c dd _ H' => E c dd H') .F c30.body) := by
  have hr := hr2.mono (Nat.le_add_right k 2)
  have hr1 := hr2.mono (Nat.le_succ (k + 1))
  have ND := ND30
  have hK : K = g.K := B.eK.symm
  have H9 : P.isx 999 = false := rfl
  have HIX := hix
  have O := OPS.fn (N := N30) (ty := ⟨l30, [], []⟩) cdv A outer s H E hr1
  have OC := @OpsAll.blk _ _ _ _ _ _ _ _ _ ⟨l30, [], []⟩ N30 _ _ _ OPS cdv A outer s H E hr1
  exact (ss_cons (s_set (q := 2) (k := 0) (t_call B hr tk_fn 3 "ratio_pair" rfl rfl rfl rfl rfl (s_cons (v0 1 rfl rfl (.inl rfl) rfl rfl) s_nil rfl) (fun z => by first | rfl | cases z) rfl) (nmok rfl) ND rfl (.inl rfl) (.inl rfl) rfl) (ss_cons (s_iff (t_isN (v0 2 rfl rfl (.inl rfl) rfl rfl) hK) (ss_cons (s_ret (s_neve (kd := .F))) ss_nil) ss_nil) (ss_cons (s_ret (s_low (t_new C hr1 tk_fn "Ratio" 0 25 (by decide) rfl rfl rfl rfl (s_cons (pbin (o := .sub) O hK (pbin (o := .mul) O hK (s_sub (v0 2 rfl rfl (.inl rfl) rfl rfl) s_int rfl nbF (fun _ _ => rfl) hK) (t_fld C 1 "bottom" rfl (v0 0 rfl rfl (.inl rfl) rfl rfl) rfl) rfl rfl nbF) (pbin (o := .mul) O hK (t_fld C 0 "top" rfl (v0 0 rfl rfl (.inl rfl) rfl rfl) rfl) (s_sub (v0 2 rfl rfl (.inl rfl) rfl rfl) s_int rfl nbF (fun _ _ => rfl) hK) rfl rfl nbF) rfl rfl nbF) (s_cons (pbin (o := .mul) O hK (t_fld C 1 "bottom" rfl (v0 0 rfl rfl (.inl rfl) rfl rfl) rfl) (s_sub (v0 2 rfl rfl (.inl rfl) rfl rfl) s_int rfl nbF (fun _ _ => rfl) hK) rfl rfl nbF) s_nil rfl) rfl) (fun z => by first | rfl | cases z) rfl))) ss_nil)))
abbrev l31 : List (Nat × Nat) := [(0, 0), (1, 0), (2, 0)]
abbrev N31 : List Str := ["self", "other", "pair"]
theorem sc31 : FnScope N31 ["self", "other"] (defScope (meth 5 7)) := ⟨rfl, rfl, rfl, by decide +kernel, rfl, by decide +kernel, by decide +kernel⟩
theorem ND31 : N31.Nodup := by decide +kernel
theorem b31 {w : World} {K : PySem.W.Frag} {mg : Str → Option Value} {base : Heap} {g : G} {φ : Phi} {k : Nat} {f : Addr} (B : Tab PR w K mg base g φ T nms frs k) (C : TabC PR w K mg base g φ P T mks mns fns k) (KF : Kits K P g) (KT : KitsT K P g) (OPS : OpsAll PR w K mg base g φ P k) (BX : TabX PR w K mg base g P xs (k + 1)) (XF : XFacts K g P fns) (BM : TabM PR w K mg base g φ T sms k) (BB : DnB PR w K mg base g φ P k) (cdv : Value) (A : Around) (outer : List Env) (s : Shared) (H : Hp) (E : XK) (hr2 : Room (k + 2) (A.deeper (envOfC "Ratio.__mul__" (defScope (meth 5 7)) s.heap.objs.size f cdv))) :
    PSs (cxOf (L2.CX PR w) PR w K mg base N31 "Ratio.__mul__" (defScope (meth 5 7)) f cdv A outer s H E) (defBody (meth 5 7)) (tSs g φ P ⟨l31, [], []⟩ (fun c dd _ H' => E c dd H') .F c31.body) := by
  have hr := hr2.mono (Nat.le_add_right k 2)
  have hr1 := hr2.mono (Nat.le_succ (k + 1))
  have ND := ND31
  have hK : K = g.K := B.eK.symm
  have H9 : P.isx 999 = false := rfl
  have HIX := hix
  have O := OPS.fn (N := N31) (ty := ⟨l31, [], []⟩) cdv A outer s H E hr1
  have OC := @OpsAll.blk _ _ _ _ _ _ _ _ _ ⟨l31, [], []⟩ N31 _ _ _ OPS cdv A outer s H E hr1
  exact (ss_cons (s_set (q := 2) (k := 0) (t_call B hr tk_fn 3 "ratio_pair" rfl rfl rfl rfl rfl (s_cons (v0 1 rfl rfl (.inl rfl) rfl rfl) s_nil rfl) (fun z => by first | rfl | cases z) rfl) (nmok rfl) ND rfl (.inl rfl) (.inl rfl) rfl) (ss_cons (s_iff (t_isN (v0 2 rfl rfl (.inl rfl) rfl rfl) hK) (ss_cons (s_ret (s_neve (kd := .F))) ss_nil) ss_nil) (ss_cons (s_ret (s_low (t_new C hr1 tk_fn "Ratio" 0 25 (by decide) rfl rfl rfl rfl (s_cons (pbin (o := .mul) O hK (t_fld C 0 "top" rfl (v0 0 rfl rfl (.inl rfl) rfl rfl) rfl) (s_sub (v0 2 rfl rfl (.inl rfl) rfl rfl) s_int rfl nbF (fun _ _ => rfl) hK) rfl rfl nbF) (s_cons (pbin (o := .mul) O hK (t_fld C 1 "bottom" rfl (v0 0 rfl rfl (.inl rfl) rfl rfl) rfl) (s_sub (v0 2 rfl rfl (.inl rfl) rfl rfl) s_int rfl nbF (fun _ _ => rfl) hK) rfl rfl nbF) s_nil rfl) rfl) (fun z => by first | rfl | cases z) rfl))) ss_nil)))
abbrev l32 : List (Nat × Nat) := [(0, 0), (1, 0), (2, 0)]
abbrev N32 : List Str := ["self", "other", "pair"]
theorem sc32 : FnScope N32 ["self", "other"] (defScope (meth 5 8)) := ⟨rfl, rfl, rfl, by decide +kernel, rfl, by decide +kernel, by decide +kernel⟩
theorem ND32 : N32.Nodup := by decide +kernel
theorem b32 {w : World} {K : PySem.W.Frag} {mg : Str → Option Value} {base : Heap} {g : G} {φ : Phi} {k : Nat} {f : Addr} (B : Tab PR w K mg base g φ T nms frs k) (C : TabC PR w K mg base g φ P T mks mns fns k) (KF : Kits K P g) (KT : KitsT K P g) (OPS : OpsAll PR w K mg base g φ P k) (BX : TabX PR w K mg base g P xs (k + 1)) (XF : XFacts K g P fns) (BM : TabM PR w K mg base g φ T sms k) (BB : DnB PR w K mg base g φ P k) (cdv : Value) (A : Around) (outer : List Env) (s : Shared) (H : Hp) (E : XK) (hr2 : Room (k + 2) (A.deeper (envOfC "Ratio.__rmul__" (defScope (meth 5 8)) s.heap.objs.size f cdv))) :
    PSs (cxOf (L2.CX PR w) PR w K mg base N32 "Ratio.__rmul__" (defScope (meth 5 8)) f cdv A outer s H E) (defBody (meth 5 8)) (tSs g φ P ⟨l32, [], []⟩ (fun c dd _ H' => E c dd H') .F c32.body) := by
  have hr := hr2.mono (Nat.le_add_right k 2)
  have hr1 := hr2.mono (Nat.le_succ (k + 1))
  have ND := ND32
  have hK : K = g.K := B.eK.symm
  have H9 : P.isx 999 = false := rfl
  have HIX := hix
  have O := OPS.fn (N := N32) (ty := ⟨l32, [], []⟩) cdv A outer s H E hr1
  have OC := @OpsAll.blk _ _ _ _ _ _ _ _ _ ⟨l32, [], []⟩ N32 _ _ _ OPS cdv A outer s H E hr1
  exact (ss_cons (s_set (q := 2) (k := 0) (t_call B hr tk_fn 3 "ratio_pair" rfl rfl rfl rfl rfl (s_cons (v0 1 rfl rfl (.inl rfl) rfl rfl) s_nil rfl) (fun z => by first | rfl | cases z) rfl) (nmok rfl) ND rfl (.inl rfl) (.inl rfl) rfl) (ss_cons (s_iff (t_isN (v0 2 rfl rfl (.inl rfl) rfl rfl) hK) (ss_cons (s_ret (s_neve (kd := .F))) ss_nil) ss_nil) (ss_cons (s_ret (s_low (t_new C hr1 tk_fn "Ratio" 0 25 (by decide) rfl rfl rfl rfl (s_cons (pbin (o := .mul) O hK (t_fld C 0 "top" rfl (v0 0 rfl rfl (.inl rfl) rfl rfl) rfl) (s_sub (v0 2 rfl rfl (.inl rfl) rfl rfl) s_int rfl nbF (fun _ _ => rfl) hK) rfl rfl nbF) (s_cons (pbin (o := .mul) O hK (t_fld C 1 "bottom" rfl (v0 0 rfl rfl (.inl rfl) rfl rfl) rfl) (s_sub (v0 2 rfl rfl (.inl rfl) rfl rfl) s_int rfl nbF (fun _ _ => rfl) hK) rfl rfl nbF) s_nil rfl) rfl) (fun z => by first | rfl | cases z) rfl))) ss_nil)))
abbrev l33 : List (Nat × Nat) := [(0, 0)]
abbrev N33 : List Str := ["self"]
theorem sc33 : FnScope N33 ["self"] (defScope (meth 5 9)) := ⟨rfl, rfl, rfl, by decide +kernel, rfl, by decide +kernel, by decide +kernel⟩
theorem ND33 : N33.Nodup := by decide +kernel
theorem b33 {w : World} {K : PySem.W.Frag} {mg : Str → Option Value} {base : Heap} {g : G} {φ : Phi} {k : Nat} {f : Addr} (B : Tab PR w K mg base g φ T nms frs k) (C : TabC PR w K mg base g φ P T mks mns fns k) (KF : Kits K P g) (KT : KitsT K P g) (OPS : OpsAll PR w K mg base g φ P k) (BX : TabX PR w K mg base g P xs (k + 1)) (XF : XFacts K g P fns) (BM : TabM PR w K mg base g φ T sms k) (BB : DnB PR w K mg base g φ P k) (cdv : Value) (A : Around) (outer : List Env) (s : Shared) (H : Hp) (E : XK) (hr2 : Room (k + 2) (A.deeper (envOfC "Ratio.__neg__" (defScope (meth 5 9)) s.heap.objs.size f cdv))) :
    PSs (cxOf (L2.CX PR w) PR w K mg base N33 "Ratio.__neg__" (defScope (meth 5 9)) f cdv A outer s H E) (defBody (meth 5 9)) (tSs g φ P ⟨l33, [], []⟩ (fun c dd _ H' => E c dd H') .F c33.body) := by
  have hr := hr2.mono (Nat.le_add_right k 2)
  have hr1 := hr2.mono (Nat.le_succ (k + 1))
  have ND := ND33
  have hK : K = g.K := B.eK.symm
  have H9 : P.isx 999 = false := rfl
  have HIX := hix
  have O := OPS.fn (N := N33) (ty := ⟨l33, [], []⟩) cdv A outer s H E hr1
  have OC := @OpsAll.blk _ _ _ _ _ _ _ _ _ ⟨l33, [], []⟩ N33 _ _ _ OPS cdv A outer s H E hr1
  exact (ss_cons (s_ret (s_low (t_new C hr1 tk_fn "Ratio" 0 25 (by decide) rfl rfl rfl rfl (s_cons (s_neg (t_fld C 0 "top" rfl (v0 0 rfl rfl (.inl rfl) rfl rfl) rfl) O.neg) (s_cons (t_fld C 1 "bottom" rfl (v0 0 rfl rfl (.inl rfl) rfl rfl) rfl) s_nil rfl) rfl) (fun z => by first | rfl | cases z) rfl))) ss_nil)
abbrev l34 : List (Nat × Nat) := [(0, 0), (1, 0), (2, 0)]
abbrev N34 : List Str := ["self", "other", "pair"]
theorem sc34 : FnScope N34 ["self", "other"] (defScope (meth 5 10)) := ⟨rfl, rfl, rfl, by decide +kernel, rfl, by decide +kernel, by decide +kernel⟩
theorem ND34 : N34.Nodup := by decide +kernel
theorem b34 {w : World} {K : PySem.W.Frag} {mg : Str → Option Value} {base : Heap} {g : G} {φ : Phi} {k : Nat} {f : Addr} (B : Tab PR w K mg base g φ T nms frs k) (C : TabC PR w K mg base g φ P T mks mns fns k) (KF : Kits K P g) (KT : KitsT K P g) (OPS : OpsAll PR w K mg base g φ P k) (BX : TabX PR w K mg base g P xs (k + 1)) (XF : XFacts K g P fns) (BM : TabM PR w K mg base g φ T sms k) (BB : DnB PR w K mg base g φ P k) (cdv : Value) (A : Around) (outer : List Env) (s : Shared) (H : Hp) (E : XK) (hr2 : Room (k + 2) (A.deeper (envOfC "Ratio.__eq__" (defScope (meth 5 10)) s.heap.objs.size f cdv))) :
    PSs (cxOf (L2.CX PR w) PR w K mg base N34 "Ratio.__eq__" (defScope (meth 5 10)) f cdv A outer s H E) (defBody (meth 5 10)) (tSs g φ P ⟨l34, [], []⟩ (fun c dd _ H' => E c dd H') .F c34.body) := by
  have hr := hr2.mono (Nat.le_add_right k 2)
  have hr1 := hr2.mono (Nat.le_succ (k + 1))
  have ND := ND34
  have hK : K = g.K := B.eK.symm
  have H9 : P.isx 999 = false := rfl
  have HIX := hix
  have O := OPS.fn (N := N34) (ty := ⟨l34, [], []⟩) cdv A outer s H E hr1
  have OC := @OpsAll.blk _ _ _ _ _ _ _ _ _ ⟨l34, [], []⟩ N34 _ _ _ OPS cdv A outer s H E hr1
  exact (ss_cons (s_set (q := 2) (k := 0) (t_call B hr tk_fn 3 "ratio_pair" rfl rfl rfl rfl rfl (s_cons (v0 1 rfl rfl (.inl rfl) rfl rfl) s_nil rfl) (fun z => by first | rfl | cases z) rfl) (nmok rfl) ND rfl (.inl rfl) (.inl rfl) rfl) (ss_cons (s_iff (t_isN (v0 2 rfl rfl (.inl rfl) rfl rfl) hK) (ss_cons (s_ret s_bl) ss_nil) ss_nil) (ss_cons (s_ret (s_and (pcmp (o := .eq) O hK hr (t_fld C 0 "top" rfl (v0 0 rfl rfl (.inl rfl) rfl rfl) rfl) (s_sub (v0 2 rfl rfl (.inl rfl) rfl rfl) s_int rfl nbF (fun _ _ => rfl) hK) rfl rfl nbF rfl) (s_one (pcmp (o := .eq) O hK hr (t_fld C 1 "bottom" rfl (v0 0 rfl rfl (.inl rfl) rfl rfl) rfl) (s_sub (v0 2 rfl rfl (.inl rfl) rfl rfl) s_int rfl nbF (fun _ _ => rfl) hK) rfl rfl nbF rfl)) hK)) ss_nil)))
abbrev l35 : List (Nat × Nat) := [(0, 0)]
abbrev N35 : List Str := ["self"]
theorem sc35 : FnScope N35 ["self"] (defScope (meth 5 11)) := ⟨rfl, rfl, rfl, by decide +kernel, rfl, by decide +kernel, by decide +kernel⟩
theorem ND35 : N35.Nodup := by decide +kernel
theorem b35 {w : World} {K : PySem.W.Frag} {mg : Str → Option Value} {base : Heap} {g : G} {φ : Phi} {k : Nat} {f : Addr} (B : Tab PR w K mg base g φ T nms frs k) (C : TabC PR w K mg base g φ P T mks mns fns k) (KF : Kits K P g) (KT : KitsT K P g) (OPS : OpsAll PR w K mg base g φ P k) (BX : TabX PR w K mg base g P xs (k + 1)) (XF : XFacts K g P fns) (BM : TabM PR w K mg base g φ T sms k) (BB : DnB PR w K mg base g φ P k) (cdv : Value) (A : Around) (outer : List Env) (s : Shared) (H : Hp) (E : XK) (hr2 : Room (k + 2) (A.deeper (envOfC "Ratio.__bool__" (defScope (meth 5 11)) s.heap.objs.size f cdv))) :
    PSs (cxOf (L2.CX PR w) PR w K mg base N35 "Ratio.__bool__" (defScope (meth 5 11)) f cdv A outer s H E) (defBody (meth 5 11)) (tSs g φ P ⟨l35, [], []⟩ (fun c dd _ H' => E c dd H') .F c35.body) := by
  have hr := hr2.mono (Nat.le_add_right k 2)
  have hr1 := hr2.mono (Nat.le_succ (k + 1))
  have ND := ND35
  have hK : K = g.K := B.eK.symm
  have H9 : P.isx 999 = false := rfl
  have HIX := hix
  have O := OPS.fn (N := N35) (ty := ⟨l35, [], []⟩) cdv A outer s H E hr1
  have OC := @OpsAll.blk _ _ _ _ _ _ _ _ _ ⟨l35, [], []⟩ N35 _ _ _ OPS cdv A outer s H E hr1
  exact (ss_cons (s_ret (s_bi1 (bi := .bool) rfl rfl hK rfl (B.free "bool" (by decide)) (pcmp (o := .ne) O hK hr (t_fld C 0 "top" rfl (v0 0 rfl rfl (.inl rfl) rfl rfl) rfl) s_int rfl rfl nbF rfl) (fun _ => rfl) rfl)) ss_nil)
abbrev l36 : List (Nat × Nat) := [(0, 0), (1, 0), (2, 0)]
abbrev N36 : List Str := ["self", "other", "pair"]
theorem sc36 : FnScope N36 ["self", "other"] (defScope (meth 5 12)) := ⟨rfl, rfl, rfl, by decide +kernel, rfl, by decide +kernel, by decide +kernel⟩
theorem ND36 : N36.Nodup := by decide +kernel
theorem b36 {w : World} {K : PySem.W.Frag} {mg : Str → Option Value} {base : Heap} {g : G} {φ : Phi} {k : Nat} {f : Addr} (B : Tab PR w K mg base g φ T nms frs k) (C : TabC PR w K mg base g φ P T mks mns fns k) (KF : Kits K P g) (KT : KitsT K P g) (OPS : OpsAll PR w K mg base g φ P k) (BX : TabX PR w K mg base g P xs (k + 1)) (XF : XFacts K g P fns) (BM : TabM PR w K mg base g φ T sms k) (BB : DnB PR w K mg base g φ P k) (cdv : Value) (A : Around) (outer : List Env) (s : Shared) (H : Hp) (E : XK) (hr2 : Room (k + 2) (A.deeper (envOfC "Ratio.over" (defScope (meth 5 12)) s.heap.objs.size f cdv))) :
    PSs (cxOf (L2.CX PR w) PR w K mg base N36 "Ratio.over" (defScope (meth 5 12)) f cdv A outer s H E) (defBody (meth 5 12)) (tSs g φ P ⟨l36, [], []⟩ (fun c dd _ H' => E c dd H') .F c36.body) := by
  have hr := hr2.mono (Nat.le_add_right k 2)
  have hr1 := hr2.mono (Nat.le_succ (k + 1))
  have ND := ND36
  have hK : K = g.K := B.eK.symm
  have H9 : P.isx 999 = false := rfl
  have HIX := hix
  have O := OPS.fn (N := N36) (ty := ⟨l36, [], []⟩) cdv A outer s H E hr1
  have OC := @OpsAll.blk _ _ _ _ _ _ _ _ _ ⟨l36, [], []⟩ N36 _ _ _ OPS cdv A outer s H E hr1
  exact (ss_cons (s_set (q := 2) (k := 0) (t_call B hr tk_fn 3 "ratio_pair" rfl rfl rfl rfl rfl (s_cons (v0 1 rfl rfl (.inl rfl) rfl rfl) s_nil rfl) (fun z => by first | rfl | cases z) rfl) (nmok rfl) ND rfl (.inl rfl) (.inl rfl) rfl) (ss_cons (s_iff (L2.PW.pt (s_orT (t_isN (v0 2 rfl rfl (.inl rfl) rfl rfl) hK) (pw_or1 (tcmp (o := .eq) O hK hr (s_sub (v0 2 rfl rfl (.inl rfl) rfl rfl) s_int rfl nbF (fun _ _ => rfl) hK) s_int rfl rfl nbF rfl)))) (ss_cons (s_raise rfl BX hr2 tk_fn "BadNumber" 2 (by decide) rfl rfl (s_cons s_str s_nil rfl) (fun z => by first | rfl | cases z) rfl) ss_nil) ss_nil) (ss_cons (s_ret (s_low (t_new C hr1 tk_fn "Ratio" 0 25 (by decide) rfl rfl rfl rfl (s_cons (pbin (o := .mul) O hK (t_fld C 0 "top" rfl (v0 0 rfl rfl (.inl rfl) rfl rfl) rfl) (s_sub (v0 2 rfl rfl (.inl rfl) rfl rfl) s_int rfl nbF (fun _ _ => rfl) hK) rfl rfl nbF) (s_cons (pbin (o := .mul) O hK (t_fld C 1 "bottom" rfl (v0 0 rfl rfl (.inl rfl) rfl rfl) rfl) (s_sub (v0 2 rfl rfl (.inl rfl) rfl rfl) s_int rfl nbF (fun _ _ => rfl) hK) rfl rfl nbF) s_nil rfl) rfl) (fun z => by first | rfl | cases z) rfl))) ss_nil)))
abbrev l37 : List (Nat × Nat) := [(0, 0)]
abbrev N37 : List Str := ["self"]
theorem sc37 : FnScope N37 ["self"] (defScope (meth 5 13)) := ⟨rfl, rfl, rfl, by decide +kernel, rfl, by decide +kernel, by decide +kernel⟩
theorem ND37 : N37.Nodup := by decide +kernel
theorem b37 {w : World} {K : PySem.W.Frag} {mg : Str → Option Value} {base : Heap} {g : G} {φ : Phi} {k : Nat} {f : Addr} (B : Tab PR w K mg base g φ T nms frs k) (C : TabC PR w K mg base g φ P T mks mns fns k) (KF : Kits K P g) (KT : KitsT K P g) (OPS : OpsAll PR w K mg base g φ P k) (BX : TabX PR w K mg base g P xs (k + 1)) (XF : XFacts K g P fns) (BM : TabM PR w K mg base g φ T sms k) (BB : DnB PR w K mg base g φ P k) (cdv : Value) (A : Around) (outer : List Env) (s : Shared) (H : Hp) (E : XK) (hr2 : Room (k + 2) (A.deeper (envOfC "Ratio.inverse" (defScope (meth 5 13)) s.heap.objs.size f cdv))) :
    PSs (cxOf (L2.CX PR w) PR w K mg base N37 "Ratio.inverse" (defScope (meth 5 13)) f cdv A outer s H E) (defBody (meth 5 13)) (tSs g φ P ⟨l37, [], []⟩ (fun c dd _ H' => E c dd H') .F c37.body) := by
  have hr := hr2.mono (Nat.le_add_right k 2)
  have hr1 := hr2.mono (Nat.le_succ (k + 1))
  have ND := ND37
  have hK : K = g.K := B.eK.symm
  have H9 : P.isx 999 = false := rfl
  have HIX := hix
  have O := OPS.fn (N := N37) (ty := ⟨l37, [], []⟩) cdv A outer s H E hr1
  have OC := @OpsAll.blk _ _ _ _ _ _ _ _ _ ⟨l37, [], []⟩ N37 _ _ _ OPS cdv A outer s H E hr1
  exact (ss_cons (s_iff (tcmp (o := .eq) O hK hr (t_fld C 0 "top" rfl (v0 0 rfl rfl (.inl rfl) rfl rfl) rfl) s_int rfl rfl nbF rfl) (ss_cons (s_raise rfl BX hr2 tk_fn "BadNumber" 2 (by decide) rfl rfl (s_cons s_str s_nil rfl) (fun z => by first | rfl | cases z) rfl) ss_nil) ss_nil) (ss_cons (s_ret (s_low (t_new C hr1 tk_fn "Ratio" 0 25 (by decide) rfl rfl rfl rfl (s_cons (t_fld C 1 "bottom" rfl (v0 0 rfl rfl (.inl rfl) rfl rfl) rfl) (s_cons (t_fld C 0 "top" rfl (v0 0 rfl rfl (.inl rfl) rfl rfl) rfl) s_nil rfl) rfl) (fun z => by first | rfl | cases z) rfl))) ss_nil))
abbrev l38 : List (Nat × Nat) := [(0, 0), (1, 0), (2, 0), (3, 0), (4, 0)]
abbrev N38 : List Str := ["self", "number", "_", "top", "bottom"]
theorem sc38 : FnScope N38 ["self", "number"] (defScope (meth 5 14)) := ⟨rfl, rfl, rfl, by decide +kernel, rfl, by decide +kernel, by decide +kernel⟩
theorem ND38 : N38.Nodup := by decide +kernel
theorem b38 {w : World} {K : PySem.W.Frag} {mg : Str → Option Value} {base : Heap} {g : G} {φ : Phi} {k : Nat} {f : Addr} (B : Tab PR w K mg base g φ T nms frs k) (C : TabC PR w K mg base g φ P T mks mns fns k) (KF : Kits K P g) (KT : KitsT K P g) (OPS : OpsAll PR w K mg base g φ P k) (BX : TabX PR w K mg base g P xs (k + 1)) (XF : XFacts K g P fns) (BM : TabM PR w K mg base g φ T sms k) (BB : DnB PR w K mg base g φ P k) (cdv : Value) (A : Around) (outer : List Env) (s : Shared) (H : Hp) (E : XK) (hr2 : Room (k + 2) (A.deeper (envOfC "Ratio.to_power" (defScope (meth 5 14)) s.heap.objs.size f cdv))) :
    PSs (cxOf (L2.CX PR w) PR w K mg base N38 "Ratio.to_power" (defScope (meth 5 14)) f cdv A outer s H E) (defBody (meth 5 14)) (tSs g φ P ⟨l38, [], []⟩ (fun c dd _ H' => E c dd H') .F c38.body) := by
  have hr := hr2.mono (Nat.le_add_right k 2)
  have hr1 := hr2.mono (Nat.le_succ (k + 1))
  have ND := ND38
  have hK : K = g.K := B.eK.symm
  have H9 : P.isx 999 = false := rfl
  have HIX := hix
  have O := OPS.fn (N := N38) (ty := ⟨l38, [], []⟩) cdv A outer s H E hr1
  have OC := @OpsAll.blk _ _ _ _ _ _ _ _ _ ⟨l38, [], []⟩ N38 _ _ _ OPS cdv A outer s H E hr1
  exact (ss_cons (s_iff (L2.PW.pt (s_orT (s_ntT (s_tru (t_call B hr tk_fn 0 "plain_integer" rfl rfl rfl rfl rfl (s_cons (v0 1 rfl rfl (.inl rfl) rfl rfl) s_nil rfl) (fun z => by first | rfl | cases z) rfl) hK (fun _ => rfl))) (s_orT (tcmp (o := .lt) O hK hr (v0 1 rfl rfl (.inl rfl) rfl rfl) (s_neg s_int O.neg) rfl rfl nbF rfl) (s_orT (tcmp (o := .gt) O hK hr (v0 1 rfl rfl (.inl rfl) rfl rfl) s_int rfl rfl nbF rfl) (pw_or1 (L2.PW.pt (s_andT (tcmp (o := .lt) O hK hr (v0 1 rfl rfl (.inl rfl) rfl rfl) s_int rfl rfl nbF rfl) (pw_and1 (tcmp (o := .eq) O hK hr (t_fld C 0 "top" rfl (v0 0 rfl rfl (.inl rfl) rfl rfl) rfl) s_int rfl rfl nbF rfl))))))))) (ss_cons (s_raise rfl BX hr2 tk_fn "BadNumber" 2 (by decide) rfl rfl (s_cons s_str s_nil rfl) (fun z => by first | rfl | cases z) rfl) ss_nil) ss_nil) (ss_cons (s_asgK (s_tup (s_cons s_int (s_cons s_int s_nil rfl) rfl)) (s_gtup hK rfl ND (NmsAt.cons ⟨⟨3, (nmok rfl), rfl⟩, (.inl rfl), (.inl rfl)⟩ (NmsAt.cons ⟨⟨4, (nmok rfl), rfl⟩, (.inl rfl), (.inl rfl)⟩ NmsAt.nil))) rfl (by first | rfl | kernel_rfl | with_unfolding_all rfl) rfl) (ss_cons (s_for po_fn rfl (s_rng1 rfl (B.free "range" (by decide)) (s_bi1 (bi := .abs) rfl rfl hK rfl (B.free "abs" (by decide)) (v0 1 rfl rfl (.inl rfl) rfl rfl) (fun _ => rfl) rfl) rfl) (s_gname ND ⟨⟨2, (nmok rfl), rfl⟩, (.inl rfl), (.inl rfl)⟩) (ss_cons (s_par (q := 3) (r := 4) rfl ND rfl rfl (by decide) (nmok rfl) (nmok rfl) rfl rfl (pbin (o := .mul) O hK (v0 3 rfl rfl (.inl rfl) rfl rfl) (t_fld C 0 "top" rfl (v0 0 rfl rfl (.inl rfl) rfl rfl) rfl) rfl rfl nbF) (pbin (o := .mul) O hK (v0 4 rfl rfl (.inl rfl) rfl rfl) (t_fld C 1 "bottom" rfl (v0 0 rfl rfl (.inl rfl) rfl rfl) rfl) rfl rfl nbF) rfl rfl (by first | rfl | with_unfolding_all rfl | kernel_rfl)) ss_nil) (folded_no rfl)) (ss_cons (s_iff (tcmp (o := .lt) O hK hr (v0 1 rfl rfl (.inl rfl) rfl rfl) s_int rfl rfl nbF rfl) (ss_cons (s_ret (s_low (t_new C hr1 tk_fn "Ratio" 0 25 (by decide) rfl rfl rfl rfl (s_cons (v0 4 rfl rfl (.inl rfl) rfl rfl) (s_cons (v0 3 rfl rfl (.inl rfl) rfl rfl) s_nil rfl) rfl) (fun z => by first | rfl | cases z) rfl))) ss_nil) ss_nil) (ss_cons (s_ret (s_low (t_new C hr1 tk_fn "Ratio" 0 25 (by decide) rfl rfl rfl rfl (s_cons (v0 3 rfl rfl (.inl rfl) rfl rfl) (s_cons (v0 4 rfl rfl (.inl rfl) rfl rfl) s_nil rfl) rfl) (fun z => by first | rfl | cases z) rfl))) ss_nil)))))
abbrev l39 : List (Nat × Nat) := [(0, 0)]
abbrev N39 : List Str := ["self"]
theorem sc39 : FnScope N39 ["self"] (defScope (meth 5 15)) := ⟨rfl, rfl, rfl, by decide +kernel, rfl, by decide +kernel, by decide +kernel⟩
theorem ND39 : N39.Nodup := by decide +kernel
theorem b39 {w : World} {K : PySem.W.Frag} {mg : Str → Option Value} {base : Heap} {g : G} {φ : Phi} {k : Nat} {f : Addr} (B : Tab PR w K mg base g φ T nms frs k) (C : TabC PR w K mg base g φ P T mks mns fns k) (KF : Kits K P g) (KT : KitsT K P g) (OPS : OpsAll PR w K mg base g φ P k) (BX : TabX PR w K mg base g P xs (k + 1)) (XF : XFacts K g P fns) (BM : TabM PR w K mg base g φ T sms k) (BB : DnB PR w K mg base g φ P k) (cdv : Value) (A : Around) (outer : List Env) (s : Shared) (H : Hp) (E : XK) (hr2 : Room (k + 2) (A.deeper (envOfC "Ratio.told" (defScope (meth 5 15)) s.heap.objs.size f cdv))) :
    PSs (cxOf (L2.CX PR w) PR w K mg base N39 "Ratio.told" (defScope (meth 5 15)) f cdv A outer s H E) (defBody (meth 5 15)) (tSs g φ P ⟨l39, [], []⟩ (fun c dd _ H' => E c dd H') .F c39.body) := by
  have hr := hr2.mono (Nat.le_add_right k 2)
  have hr1 := hr2.mono (Nat.le_succ (k + 1))
  have ND := ND39
  have hK : K = g.K := B.eK.symm
  have H9 : P.isx 999 = false := rfl
  have HIX := hix
  have O := OPS.fn (N := N39) (ty := ⟨l39, [], []⟩) cdv A outer s H E hr1
  have OC := @OpsAll.blk _ _ _ _ _ _ _ _ _ ⟨l39, [], []⟩ N39 _ _ _ OPS cdv A outer s H E hr1
  exact (ss_cons (s_iff (tcmp (o := .eq) O hK hr (t_fld C 1 "bottom" rfl (v0 0 rfl rfl (.inl rfl) rfl rfl) rfl) s_int rfl rfl nbF rfl) (ss_cons (s_ret (s_bi1 (bi := .str) rfl rfl hK rfl (B.free "str" (by decide)) (t_fld C 0 "top" rfl (v0 0 rfl rfl (.inl rfl) rfl rfl) rfl) (fun _ => rfl) rfl)) ss_nil) ss_nil) (ss_cons (s_ret (s_js (JsOk.cons (s_fmt (t_fld C 0 "top" rfl (v0 0 rfl rfl (.inl rfl) rfl rfl) rfl)) (JsOk.cons s_str (JsOk.cons (s_fmt (t_fld C 1 "bottom" rfl (v0 0 rfl rfl (.inl rfl) rfl rfl) rfl)) JsOk.nil))))) ss_nil))

end G78
set_option Elab.async false
set_option linter.all false
set_option maxRecDepth 100000
set_option maxHeartbeats 4000000
namespace G78
open PySem L2 PySem.Spec PyProof.Rows He NdefX Ev
def cns : List Str := [("Ratio" : Str), ("StepError" : Str), ("BadNumber" : Str), ("BadTable" : Str)]
def fls : List (List Str) := [["top", "bottom"], [], ["name"], ["place"]]
def sls : List Bool := [true, false, false, false]
def pms : List (List Nat) := [[1, 0], [], [0], [0]]
abbrev gg (K : PySem.W.Frag) : G := ggOf cns fls sls pms K
def glos : List Str := [("plain_integer" : Str), ("ratios_divisor" : Str), ("ratios_lowest" : Str), ("ratio_pair" : Str), ("ratio_of" : Str), ("whole" : Str), ("_law_stream" : Str), ("_law_take" : Str), ("_law_int" : Str), ("_law_divisor" : Str), ("_law_low" : Str), ("_law_add" : Str), ("_law_minus" : Str), ("_law_times" : Str), ("_law_by" : Str), ("_law_pair" : Str), ("_law_whole" : Str), ("_law_drawn" : Str), ("_law_told" : Str), ("_law_power" : Str), ("_law_signs_good" : Str), ("_law_methods_good" : Str), ("_law_made_good" : Str), ("_law_whole_good" : Str), ("law" : Str), ("Ratio" : Str), ("StepError" : Str), ("BadNumber" : Str), ("BadTable" : Str)]
def ats : List (Str × Option Str) := [(("plain_integer" : Str), none), (("ratios_divisor" : Str), none), (("ratios_lowest" : Str), none), (("ratio_pair" : Str), none), (("ratio_of" : Str), none), (("whole" : Str), none), (("_law_stream" : Str), none), (("_law_take" : Str), none), (("_law_int" : Str), none), (("_law_divisor" : Str), none), (("_law_low" : Str), none), (("_law_add" : Str), none), (("_law_minus" : Str), none), (("_law_times" : Str), none), (("_law_by" : Str), none), (("_law_pair" : Str), none), (("_law_whole" : Str), none), (("_law_drawn" : Str), none), (("_law_told" : Str), none), (("_law_power" : Str), none), (("_law_signs_good" : Str), none), (("_law_methods_good" : Str), none), (("_law_made_good" : Str), none), (("_law_whole_good" : Str), none), (("law" : Str), none), (("Ratio" : Str), some ("__init__" : Str)), (("Ratio" : Str), some ("lowest" : Str)), (("Ratio" : Str), some ("__add__" : Str)), (("Ratio" : Str), some ("__radd__" : Str)), (("Ratio" : Str), some ("__sub__" : Str)), (("Ratio" : Str), some ("__rsub__" : Str)), (("Ratio" : Str), some ("__mul__" : Str)), (("Ratio" : Str), some ("__rmul__" : Str)), (("Ratio" : Str), some ("__neg__" : Str)), (("Ratio" : Str), some ("__eq__" : Str)), (("Ratio" : Str), some ("__bool__" : Str)), (("Ratio" : Str), some ("over" : Str)), (("Ratio" : Str), some ("inverse" : Str)), (("Ratio" : Str), some ("to_power" : Str)), (("Ratio" : Str), some ("told" : Str)), (("Ratio" : Str), some ("__init__" : Str))]
def d0 : Df := ⟨(("plain_integer" : Str), none), "plain_integer", "plain_integer", top 6⟩
def d1 : Df := ⟨(("ratios_divisor" : Str), none), "ratios_divisor", "ratios_divisor", top 7⟩
def d2 : Df := ⟨(("ratios_lowest" : Str), none), "ratios_lowest", "ratios_lowest", top 8⟩
def d3 : Df := ⟨(("ratio_pair" : Str), none), "ratio_pair", "ratio_pair", top 9⟩
def d4 : Df := ⟨(("ratio_of" : Str), none), "ratio_of", "ratio_of", top 10⟩
def d5 : Df := ⟨(("whole" : Str), none), "whole", "whole", top 11⟩
def d6 : Df := ⟨(("_law_stream" : Str), none), "_law_stream", "_law_stream", top 13⟩
def d7 : Df := ⟨(("_law_take" : Str), none), "_law_take", "_law_take", top 14⟩
def d8 : Df := ⟨(("_law_int" : Str), none), "_law_int", "_law_int", top 15⟩
def d9 : Df := ⟨(("_law_divisor" : Str), none), "_law_divisor", "_law_divisor", top 16⟩
def d10 : Df := ⟨(("_law_low" : Str), none), "_law_low", "_law_low", top 17⟩
def d11 : Df := ⟨(("_law_add" : Str), none), "_law_add", "_law_add", top 18⟩
def d12 : Df := ⟨(("_law_minus" : Str), none), "_law_minus", "_law_minus", top 19⟩
def d13 : Df := ⟨(("_law_times" : Str), none), "_law_times", "_law_times", top 20⟩
def d14 : Df := ⟨(("_law_by" : Str), none), "_law_by", "_law_by", top 21⟩
def d15 : Df := ⟨(("_law_pair" : Str), none), "_law_pair", "_law_pair", top 22⟩
def d16 : Df := ⟨(("_law_whole" : Str), none), "_law_whole", "_law_whole", top 23⟩
def d17 : Df := ⟨(("_law_drawn" : Str), none), "_law_drawn", "_law_drawn", top 24⟩
def d18 : Df := ⟨(("_law_told" : Str), none), "_law_told", "_law_told", top 25⟩
def d19 : Df := ⟨(("_law_power" : Str), none), "_law_power", "_law_power", top 26⟩
def d20 : Df := ⟨(("_law_signs_good" : Str), none), "_law_signs_good", "_law_signs_good", top 27⟩
def d21 : Df := ⟨(("_law_methods_good" : Str), none), "_law_methods_good", "_law_methods_good", top 28⟩
def d22 : Df := ⟨(("_law_made_good" : Str), none), "_law_made_good", "_law_made_good", top 29⟩
def d23 : Df := ⟨(("_law_whole_good" : Str), none), "_law_whole_good", "_law_whole_good", top 30⟩
def d24 : Df := ⟨(("law" : Str), none), "law", "law", top 31⟩
def d25 : Df := ⟨(("Ratio" : Str), some ("__init__" : Str)), "__init__", "Ratio.__init__", meth 5 1⟩
def d26 : Df := ⟨(("Ratio" : Str), some ("lowest" : Str)), "lowest", "Ratio.lowest", meth 5 2⟩
def d27 : Df := ⟨(("Ratio" : Str), some ("__add__" : Str)), "__add__", "Ratio.__add__", meth 5 3⟩
def d28 : Df := ⟨(("Ratio" : Str), some ("__radd__" : Str)), "__radd__", "Ratio.__radd__", meth 5 4⟩
def d29 : Df := ⟨(("Ratio" : Str), some ("__sub__" : Str)), "__sub__", "Ratio.__sub__", meth 5 5⟩
def d30 : Df := ⟨(("Ratio" : Str), some ("__rsub__" : Str)), "__rsub__", "Ratio.__rsub__", meth 5 6⟩
def d31 : Df := ⟨(("Ratio" : Str), some ("__mul__" : Str)), "__mul__", "Ratio.__mul__", meth 5 7⟩
def d32 : Df := ⟨(("Ratio" : Str), some ("__rmul__" : Str)), "__rmul__", "Ratio.__rmul__", meth 5 8⟩
def d33 : Df := ⟨(("Ratio" : Str), some ("__neg__" : Str)), "__neg__", "Ratio.__neg__", meth 5 9⟩
def d34 : Df := ⟨(("Ratio" : Str), some ("__eq__" : Str)), "__eq__", "Ratio.__eq__", meth 5 10⟩
def d35 : Df := ⟨(("Ratio" : Str), some ("__bool__" : Str)), "__bool__", "Ratio.__bool__", meth 5 11⟩
def d36 : Df := ⟨(("Ratio" : Str), some ("over" : Str)), "over", "Ratio.over", meth 5 12⟩
def d37 : Df := ⟨(("Ratio" : Str), some ("inverse" : Str)), "inverse", "Ratio.inverse", meth 5 13⟩
def d38 : Df := ⟨(("Ratio" : Str), some ("to_power" : Str)), "to_power", "Ratio.to_power", meth 5 14⟩
def d39 : Df := ⟨(("Ratio" : Str), some ("told" : Str)), "told", "Ratio.told", meth 5 15⟩
def d40 : Df := ⟨("BadNumber", some "__init__"), "__init__", "BadNumber.__init__", meth 2 0⟩
def d41 : Df := ⟨("BadTable", some "__init__"), "__init__", "BadTable.__init__", meth 3 0⟩
def dfs : List Df := [d0, d1, d2, d3, d4, d5, d6, d7, d8, d9, d10, d11, d12, d13, d14, d15, d16, d17, d18, d19, d20, d21, d22, d23, d24, d25, d26, d27, d28, d29, d30, d31, d32, d33, d34, d35, d36, d37, d38, d39, d40, d41]
def x0 : Fx := freeB frs
def x1 : Fx := gloB glos
def x2 : Fx := kitsB gg P 1
def x3 : Fx := isfsB gg 1
def x4 : Fx := xfactsB gg P xn xf fns
def x5 : Fx := keepB ats
def x6 : Fx := mkrB mks
def x7 : Fx := methB cns mns mts
def x8 : Fx := fieldB cns fns sls pms fds
def x9 : Fx := operB cns dns
def x10 : Fx := smsB sms
def x11 : Fx := boolB cns dns
def x12 : Fx := plB d0.at_ d0.qual []
def x13 : Fx := plB d1.at_ d1.qual []
def x14 : Fx := plB d2.at_ d2.qual []
def x15 : Fx := plB d3.at_ d3.qual []
def x16 : Fx := plB d4.at_ d4.qual []
def x17 : Fx := plB d5.at_ d5.qual []
def x18 : Fx := plB d6.at_ d6.qual []
def x19 : Fx := plB d7.at_ d7.qual []
def x20 : Fx := plB d8.at_ d8.qual []
def x21 : Fx := plB d9.at_ d9.qual []
def x22 : Fx := plB d10.at_ d10.qual []
def x23 : Fx := plB d11.at_ d11.qual []
def x24 : Fx := plB d12.at_ d12.qual []
def x25 : Fx := plB d13.at_ d13.qual []
def x26 : Fx := plB d14.at_ d14.qual []
def x27 : Fx := plB d15.at_ d15.qual []
def x28 : Fx := plB d16.at_ d16.qual []
def x29 : Fx := plB d17.at_ d17.qual []
def x30 : Fx := plB d18.at_ d18.qual []
def x31 : Fx := plB d19.at_ d19.qual []
def x32 : Fx := plB d20.at_ d20.qual []
def x33 : Fx := plB d21.at_ d21.qual []
def x34 : Fx := plB d22.at_ d22.qual []
def x35 : Fx := plB d23.at_ d23.qual []
def x36 : Fx := plB d24.at_ d24.qual []
def x37 : Fx := plB d25.at_ d25.qual [.int 1]
def x38 : Fx := plB d26.at_ d26.qual []
def x39 : Fx := plB d27.at_ d27.qual []
def x40 : Fx := plB d28.at_ d28.qual []
def x41 : Fx := plB d29.at_ d29.qual []
def x42 : Fx := plB d30.at_ d30.qual []
def x43 : Fx := plB d31.at_ d31.qual []
def x44 : Fx := plB d32.at_ d32.qual []
def x45 : Fx := plB d33.at_ d33.qual []
def x46 : Fx := plB d34.at_ d34.qual []
def x47 : Fx := plB d35.at_ d35.qual []
def x48 : Fx := plB d36.at_ d36.qual []
def x49 : Fx := plB d37.at_ d37.qual []
def x50 : Fx := plB d38.at_ d38.qual []
def x51 : Fx := plB d39.at_ d39.qual []
def x52 : Fx := bareB "StepError"
def x53 : Fx := xinB "BadNumber" PR.main.file [("name" : Str)]
def x54 : Fx := xinB "BadTable" PR.main.file [("place" : Str)]
def fxs : List Fx := [x0, x1, x2, x3, x4, x5, x6, x7, x8, x9, x10, x11, x12, x13, x14, x15, x16, x17, x18, x19, x20, x21, x22, x23, x24, x25, x26, x27, x28, x29, x30, x31, x32, x33, x34, x35, x36, x37, x38, x39, x40, x41, x42, x43, x44, x45, x46, x47, x48, x49, x50, x51, x52, x53, x54]
theorem xok1_2 (ds : List D) (h : P.xok 2 ds = true) : ∃ d0, ds = [d0] := by
  match ds, h with
  | [d0], _ => exact ⟨d0, rfl⟩
theorem xi2 {w : World} {K : PySem.W.Frag} {mg : Str → Option Value} {base : Heap} (hs : mg "super" = none) (c1 : xinB "BadNumber" PR.main.file [("name" : Str)] K = true) (c2 : fn7 K d40.at_ = d40.val) (k : Nat) : ∃ fI fd ps sp, XInit PR w K mg base (gg K) P 2 (k + 1) fI fd ps sp ∧ ∀ ds, P.xok 2 ds = true → ds.length ≤ 1000 := by
  obtain ⟨cc, cd, T, hno⟩ := xin_ok (prog := PR) (mg := mg) c1 c2 rfl rfl hs
  exact xinit1 (c := 2) (g := gg K) (ps := ["self", "name"]) (N := ["self", "name", "__class__"]) (ta := tMsg [.tx "bad number for ", .fd 1]) T ⟨nscope_by rfl, ⟨_, _, _, _, _, rfl, fun _ => ⟨_, rfl⟩⟩, ⟨_, rfl, rfl⟩, rfl, fun _ _ _ us hl => match us, hl with | [_, _], _ => rfl, rfl⟩ rfl (fun A o s H E => pa_cons (pe_joined (.cons pe_str (.cons (pe_fmtA (pe_var (i := 1) rfl (.inl rfl))) .nil))) pa_nil) (fun A o s H E => pss_one (ps_ost (pe_var (i := 0) rfl (.inl rfl)) (pe_var (i := 1) rfl (.inl rfl)))) (hno "name" (by decide)) rfl xok1_2 (fun d0 a y0 F H R hok hd0 hR => msg_ok (allM (AllM.cons (Nat.le_of_ble_eq_true rfl) (AllM.cons (⟨y0, rfl, fmtV_of (hok) hd0⟩) AllM.nil))) (sz_ok rfl) hR) (k + 1) (Nat.le_add_left 1 k)
theorem xok1_3 (ds : List D) (h : P.xok 3 ds = true) : ∃ d0, ds = [d0] := by
  match ds, h with
  | [d0], _ => exact ⟨d0, rfl⟩
theorem xi3 {w : World} {K : PySem.W.Frag} {mg : Str → Option Value} {base : Heap} (hs : mg "super" = none) (c1 : xinB "BadTable" PR.main.file [("place" : Str)] K = true) (c2 : fn7 K d41.at_ = d41.val) (k : Nat) : ∃ fI fd ps sp, XInit PR w K mg base (gg K) P 3 (k + 1) fI fd ps sp ∧ ∀ ds, P.xok 3 ds = true → ds.length ≤ 1000 := by
  obtain ⟨cc, cd, T, hno⟩ := xin_ok (prog := PR) (mg := mg) c1 c2 rfl rfl hs
  exact xinit1 (c := 3) (g := gg K) (ps := ["self", "place"]) (N := ["self", "place", "__class__"]) (ta := tMsg [.tx "bad table, place ", .fd 1]) T ⟨nscope_by rfl, ⟨_, _, _, _, _, rfl, fun _ => ⟨_, rfl⟩⟩, ⟨_, rfl, rfl⟩, rfl, fun _ _ _ us hl => match us, hl with | [_, _], _ => rfl, rfl⟩ rfl (fun A o s H E => pa_cons (pe_joined (.cons pe_str (.cons (pe_fmtA (pe_var (i := 1) rfl (.inl rfl))) .nil))) pa_nil) (fun A o s H E => pss_one (ps_ost (pe_var (i := 0) rfl (.inl rfl)) (pe_var (i := 1) rfl (.inl rfl)))) (hno "place" (by decide)) rfl xok1_3 (fun d0 a y0 F H R hok hd0 hR => msg_ok (allM (AllM.cons (Nat.le_of_ble_eq_true rfl) (AllM.cons (⟨y0, rfl, fmtV_of (hok) hd0⟩) AllM.nil))) (sz_ok rfl) hR) (k + 1) (Nat.le_add_left 1 k)
theorem tx {w : World} {K : PySem.W.Frag} {mg : Str → Option Value} {base : Heap} (c : SaysM fxs dfs K) (hg : ∀ x ∈ glos, mg x = some (.ref (ga K x))) (hs : mg "super" = none) (k : Nat) : TabX PR w K mg base (gg K) P xs (k + 1) := by
  refine ⟨rfl, fun t ht => ?_⟩
  simp only [xs, List.mem_cons, List.not_mem_nil, or_false] at ht
  rcases ht with rfl | rfl | rfl
  · refine ⟨hg "StepError" (by decide), .inr ⟨bare_ok (c.fact 52 (f := x52) rfl), fun ds h => ?_⟩⟩
    match ds, h with
    | [], _ => rfl
  · obtain ⟨fI, fd, ps, sp, h1, h2⟩ := xi2 (base := base) (w := w) hs (c.fact 53 (f := x53) rfl) (c.def_ 40 (d := d40) rfl) k
    exact ⟨hg "BadNumber" (by decide), .inl ⟨fI, fd, ps, sp, h1, rfl, h2⟩⟩
  · obtain ⟨fI, fd, ps, sp, h1, h2⟩ := xi3 (base := base) (w := w) hs (c.fact 54 (f := x54) rfl) (c.def_ 41 (d := d41) rfl) k
    exact ⟨hg "BadTable" (by decide), .inl ⟨fI, fd, ps, sp, h1, rfl, h2⟩⟩
theorem s0 {w : World} {K : PySem.W.Frag} {mg : Str → Option Value} {base : Heap} {r : Nat} (c : SaysM fxs dfs K) (B : Tab PR w K mg base (gg K) (phiAt T P r) T nms frs (3 * r)) (C : TabC PR w K mg base (gg K) (phiAt T P r) P T mks mns fns (3 * r)) (KF : Kits K P (gg K)) (KT : KitsT K P (gg K)) (OPS : OpsAll PR w K mg base (gg K) (phiAt T P r) P (3 * r)) (BX : TabX PR w K mg base (gg K) P xs (3 * r + 1)) (XF : XFacts K (gg K) P fns) (BM : TabM PR w K mg base (gg K) (phiAt T P r) T sms (3 * r)) (BB : DnB PR w K mg base (gg K) (phiAt T P r) P (3 * r)) : FnR PR w K mg base (L2.CX PR w) (3 * (r + 1)) (adOf K ats 0) (spOf (gg K) (phiAt T P (r + 1)) T 0) := by
  obtain ⟨fd, F⟩ := pl_ok (d := d0) (c.def_ 0 rfl) (c.fact 12 (f := x12) rfl)
  exact fn_step F (F.bindsN fun _ _ _ _ _ _ us hl => match us, hl with | [_], _ => rfl) sc0 (tyok (by decide +kernel)) rfl rfl fun cdv A outer s H E hr => b0 B C KF KT OPS BX XF BM BB cdv A outer s H E hr
theorem s1 {w : World} {K : PySem.W.Frag} {mg : Str → Option Value} {base : Heap} {r : Nat} (c : SaysM fxs dfs K) (B : Tab PR w K mg base (gg K) (phiAt T P r) T nms frs (3 * r)) (C : TabC PR w K mg base (gg K) (phiAt T P r) P T mks mns fns (3 * r)) (KF : Kits K P (gg K)) (KT : KitsT K P (gg K)) (OPS : OpsAll PR w K mg base (gg K) (phiAt T P r) P (3 * r)) (BX : TabX PR w K mg base (gg K) P xs (3 * r + 1)) (XF : XFacts K (gg K) P fns) (BM : TabM PR w K mg base (gg K) (phiAt T P r) T sms (3 * r)) (BB : DnB PR w K mg base (gg K) (phiAt T P r) P (3 * r)) : FnR PR w K mg base (L2.CX PR w) (3 * (r + 1)) (adOf K ats 1) (spOf (gg K) (phiAt T P (r + 1)) T 1) := by
  obtain ⟨fd, F⟩ := pl_ok (d := d1) (c.def_ 1 rfl) (c.fact 13 (f := x13) rfl)
  exact fn_step F (F.bindsN fun _ _ _ _ _ _ us hl => match us, hl with | [_, _], _ => rfl) sc1 (tyok (by decide +kernel)) rfl rfl fun cdv A outer s H E hr => b1 B C KF KT OPS BX XF BM BB cdv A outer s H E hr
theorem s2 {w : World} {K : PySem.W.Frag} {mg : Str → Option Value} {base : Heap} {r : Nat} (c : SaysM fxs dfs K) (B : Tab PR w K mg base (gg K) (phiAt T P r) T nms frs (3 * r)) (C : TabC PR w K mg base (gg K) (phiAt T P r) P T mks mns fns (3 * r)) (KF : Kits K P (gg K)) (KT : KitsT K P (gg K)) (OPS : OpsAll PR w K mg base (gg K) (phiAt T P r) P (3 * r)) (BX : TabX PR w K mg base (gg K) P xs (3 * r + 1)) (XF : XFacts K (gg K) P fns) (BM : TabM PR w K mg base (gg K) (phiAt T P r) T sms (3 * r)) (BB : DnB PR w K mg base (gg K) (phiAt T P r) P (3 * r)) : FnR PR w K mg base (L2.CX PR w) (3 * (r + 1)) (adOf K ats 2) (spOf (gg K) (phiAt T P (r + 1)) T 2) := by
  obtain ⟨fd, F⟩ := pl_ok (d := d2) (c.def_ 2 rfl) (c.fact 14 (f := x14) rfl)
  exact fn_step F (F.bindsN fun _ _ _ _ _ _ us hl => match us, hl with | [_, _], _ => rfl) sc2 (tyok (by decide +kernel)) rfl rfl fun cdv A outer s H E hr => b2 B C KF KT OPS BX XF BM BB cdv A outer s H E hr
theorem s3 {w : World} {K : PySem.W.Frag} {mg : Str → Option Value} {base : Heap} {r : Nat} (c : SaysM fxs dfs K) (B : Tab PR w K mg base (gg K) (phiAt T P r) T nms frs (3 * r)) (C : TabC PR w K mg base (gg K) (phiAt T P r) P T mks mns fns (3 * r)) (KF : Kits K P (gg K)) (KT : KitsT K P (gg K)) (OPS : OpsAll PR w K mg base (gg K) (phiAt T P r) P (3 * r)) (BX : TabX PR w K mg base (gg K) P xs (3 * r + 1)) (XF : XFacts K (gg K) P fns) (BM : TabM PR w K mg base (gg K) (phiAt T P r) T sms (3 * r)) (BB : DnB PR w K mg base (gg K) (phiAt T P r) P (3 * r)) : FnR PR w K mg base (L2.CX PR w) (3 * (r + 1)) (adOf K ats 3) (spOf (gg K) (phiAt T P (r + 1)) T 3) := by
  obtain ⟨fd, F⟩ := pl_ok (d := d3) (c.def_ 3 rfl) (c.fact 15 (f := x15) rfl)
  exact fn_step F (F.bindsN fun _ _ _ _ _ _ us hl => match us, hl with | [_], _ => rfl) sc3 (tyok (by decide +kernel)) rfl rfl fun cdv A outer s H E hr => b3 B C KF KT OPS BX XF BM BB cdv A outer s H E hr
theorem s4 {w : World} {K : PySem.W.Frag} {mg : Str → Option Value} {base : Heap} {r : Nat} (c : SaysM fxs dfs K) (B : Tab PR w K mg base (gg K) (phiAt T P r) T nms frs (3 * r)) (C : TabC PR w K mg base (gg K) (phiAt T P r) P T mks mns fns (3 * r)) (KF : Kits K P (gg K)) (KT : KitsT K P (gg K)) (OPS : OpsAll PR w K mg base (gg K) (phiAt T P r) P (3 * r)) (BX : TabX PR w K mg base (gg K) P xs (3 * r + 1)) (XF : XFacts K (gg K) P fns) (BM : TabM PR w K mg base (gg K) (phiAt T P r) T sms (3 * r)) (BB : DnB PR w K mg base (gg K) (phiAt T P r) P (3 * r)) : FnR PR w K mg base (L2.CX PR w) (3 * (r + 1)) (adOf K ats 4) (spOf (gg K) (phiAt T P (r + 1)) T 4) := by
  obtain ⟨fd, F⟩ := pl_ok (d := d4) (c.def_ 4 rfl) (c.fact 16 (f := x16) rfl)
  exact fn_step F (F.bindsN fun _ _ _ _ _ _ us hl => match us, hl with | [_], _ => rfl) sc4 (tyok (by decide +kernel)) rfl rfl fun cdv A outer s H E hr => b4 B C KF KT OPS BX XF BM BB cdv A outer s H E hr
theorem s5 {w : World} {K : PySem.W.Frag} {mg : Str → Option Value} {base : Heap} {r : Nat} (c : SaysM fxs dfs K) (B : Tab PR w K mg base (gg K) (phiAt T P r) T nms frs (3 * r)) (C : TabC PR w K mg base (gg K) (phiAt T P r) P T mks mns fns (3 * r)) (KF : Kits K P (gg K)) (KT : KitsT K P (gg K)) (OPS : OpsAll PR w K mg base (gg K) (phiAt T P r) P (3 * r)) (BX : TabX PR w K mg base (gg K) P xs (3 * r + 1)) (XF : XFacts K (gg K) P fns) (BM : TabM PR w K mg base (gg K) (phiAt T P r) T sms (3 * r)) (BB : DnB PR w K mg base (gg K) (phiAt T P r) P (3 * r)) : FnR PR w K mg base (L2.CX PR w) (3 * (r + 1)) (adOf K ats 5) (spOf (gg K) (phiAt T P (r + 1)) T 5) := by
  obtain ⟨fd, F⟩ := pl_ok (d := d5) (c.def_ 5 rfl) (c.fact 17 (f := x17) rfl)
  exact fn_step F (F.bindsN fun _ _ _ _ _ _ us hl => match us, hl with | [_], _ => rfl) sc5 (tyok (by decide +kernel)) rfl rfl fun cdv A outer s H E hr => b5 B C KF KT OPS BX XF BM BB cdv A outer s H E hr
theorem s6 {w : World} {K : PySem.W.Frag} {mg : Str → Option Value} {base : Heap} {r : Nat} (c : SaysM fxs dfs K) (B : Tab PR w K mg base (gg K) (phiAt T P r) T nms frs (3 * r)) (C : TabC PR w K mg base (gg K) (phiAt T P r) P T mks mns fns (3 * r)) (KF : Kits K P (gg K)) (KT : KitsT K P (gg K)) (OPS : OpsAll PR w K mg base (gg K) (phiAt T P r) P (3 * r)) (BX : TabX PR w K mg base (gg K) P xs (3 * r + 1)) (XF : XFacts K (gg K) P fns) (BM : TabM PR w K mg base (gg K) (phiAt T P r) T sms (3 * r)) (BB : DnB PR w K mg base (gg K) (phiAt T P r) P (3 * r)) : FnR PR w K mg base (L2.CX PR w) (3 * (r + 1)) (adOf K ats 6) (spOf (gg K) (phiAt T P (r + 1)) T 6) := by
  obtain ⟨fd, F⟩ := pl_ok (d := d6) (c.def_ 6 rfl) (c.fact 18 (f := x18) rfl)
  exact fn_step F (F.bindsN fun _ _ _ _ _ _ us hl => match us, hl with | [_], _ => rfl) sc6 (tyok (by decide +kernel)) rfl rfl fun cdv A outer s H E hr => b6 B C KF KT OPS BX XF BM BB cdv A outer s H E hr
theorem s7 {w : World} {K : PySem.W.Frag} {mg : Str → Option Value} {base : Heap} {r : Nat} (c : SaysM fxs dfs K) (B : Tab PR w K mg base (gg K) (phiAt T P r) T nms frs (3 * r)) (C : TabC PR w K mg base (gg K) (phiAt T P r) P T mks mns fns (3 * r)) (KF : Kits K P (gg K)) (KT : KitsT K P (gg K)) (OPS : OpsAll PR w K mg base (gg K) (phiAt T P r) P (3 * r)) (BX : TabX PR w K mg base (gg K) P xs (3 * r + 1)) (XF : XFacts K (gg K) P fns) (BM : TabM PR w K mg base (gg K) (phiAt T P r) T sms (3 * r)) (BB : DnB PR w K mg base (gg K) (phiAt T P r) P (3 * r)) : FnR PR w K mg base (L2.CX PR w) (3 * (r + 1)) (adOf K ats 7) (spOf (gg K) (phiAt T P (r + 1)) T 7) := by
  obtain ⟨fd, F⟩ := pl_ok (d := d7) (c.def_ 7 rfl) (c.fact 19 (f := x19) rfl)
  exact fn_stepL F (F.bindsN fun _ _ _ _ _ _ us hl => match us, hl with | [_, _], _ => rfl) sc7 (tyok (by decide +kernel)) rfl rfl fun v cdv A outer s H E hr => b7 B C KF KT OPS BX XF BM BB v cdv A outer s H E hr
theorem s8 {w : World} {K : PySem.W.Frag} {mg : Str → Option Value} {base : Heap} {r : Nat} (c : SaysM fxs dfs K) (B : Tab PR w K mg base (gg K) (phiAt T P r) T nms frs (3 * r)) (C : TabC PR w K mg base (gg K) (phiAt T P r) P T mks mns fns (3 * r)) (KF : Kits K P (gg K)) (KT : KitsT K P (gg K)) (OPS : OpsAll PR w K mg base (gg K) (phiAt T P r) P (3 * r)) (BX : TabX PR w K mg base (gg K) P xs (3 * r + 1)) (XF : XFacts K (gg K) P fns) (BM : TabM PR w K mg base (gg K) (phiAt T P r) T sms (3 * r)) (BB : DnB PR w K mg base (gg K) (phiAt T P r) P (3 * r)) : FnR PR w K mg base (L2.CX PR w) (3 * (r + 1)) (adOf K ats 8) (spOf (gg K) (phiAt T P (r + 1)) T 8) := by
  obtain ⟨fd, F⟩ := pl_ok (d := d8) (c.def_ 8 rfl) (c.fact 20 (f := x20) rfl)
  exact fn_step F (F.bindsN fun _ _ _ _ _ _ us hl => match us, hl with | [_], _ => rfl) sc8 (tyok (by decide +kernel)) rfl rfl fun cdv A outer s H E hr => b8 B C KF KT OPS BX XF BM BB cdv A outer s H E hr
theorem s9 {w : World} {K : PySem.W.Frag} {mg : Str → Option Value} {base : Heap} {r : Nat} (c : SaysM fxs dfs K) (B : Tab PR w K mg base (gg K) (phiAt T P r) T nms frs (3 * r)) (C : TabC PR w K mg base (gg K) (phiAt T P r) P T mks mns fns (3 * r)) (KF : Kits K P (gg K)) (KT : KitsT K P (gg K)) (OPS : OpsAll PR w K mg base (gg K) (phiAt T P r) P (3 * r)) (BX : TabX PR w K mg base (gg K) P xs (3 * r + 1)) (XF : XFacts K (gg K) P fns) (BM : TabM PR w K mg base (gg K) (phiAt T P r) T sms (3 * r)) (BB : DnB PR w K mg base (gg K) (phiAt T P r) P (3 * r)) : FnR PR w K mg base (L2.CX PR w) (3 * (r + 1)) (adOf K ats 9) (spOf (gg K) (phiAt T P (r + 1)) T 9) := by
  obtain ⟨fd, F⟩ := pl_ok (d := d9) (c.def_ 9 rfl) (c.fact 21 (f := x21) rfl)
  exact fn_step F (F.bindsN fun _ _ _ _ _ _ us hl => match us, hl with | [_, _], _ => rfl) sc9 (tyok (by decide +kernel)) rfl rfl fun cdv A outer s H E hr => b9 B C KF KT OPS BX XF BM BB cdv A outer s H E hr
theorem s10 {w : World} {K : PySem.W.Frag} {mg : Str → Option Value} {base : Heap} {r : Nat} (c : SaysM fxs dfs K) (B : Tab PR w K mg base (gg K) (phiAt T P r) T nms frs (3 * r)) (C : TabC PR w K mg base (gg K) (phiAt T P r) P T mks mns fns (3 * r)) (KF : Kits K P (gg K)) (KT : KitsT K P (gg K)) (OPS : OpsAll PR w K mg base (gg K) (phiAt T P r) P (3 * r)) (BX : TabX PR w K mg base (gg K) P xs (3 * r + 1)) (XF : XFacts K (gg K) P fns) (BM : TabM PR w K mg base (gg K) (phiAt T P r) T sms (3 * r)) (BB : DnB PR w K mg base (gg K) (phiAt T P r) P (3 * r)) : FnR PR w K mg base (L2.CX PR w) (3 * (r + 1)) (adOf K ats 10) (spOf (gg K) (phiAt T P (r + 1)) T 10) := by
  obtain ⟨fd, F⟩ := pl_ok (d := d10) (c.def_ 10 rfl) (c.fact 22 (f := x22) rfl)
  exact fn_step F (F.bindsN fun _ _ _ _ _ _ us hl => match us, hl with | [_, _], _ => rfl) sc10 (tyok (by decide +kernel)) rfl rfl fun cdv A outer s H E hr => b10 B C KF KT OPS BX XF BM BB cdv A outer s H E hr
theorem s11 {w : World} {K : PySem.W.Frag} {mg : Str → Option Value} {base : Heap} {r : Nat} (c : SaysM fxs dfs K) (B : Tab PR w K mg base (gg K) (phiAt T P r) T nms frs (3 * r)) (C : TabC PR w K mg base (gg K) (phiAt T P r) P T mks mns fns (3 * r)) (KF : Kits K P (gg K)) (KT : KitsT K P (gg K)) (OPS : OpsAll PR w K mg base (gg K) (phiAt T P r) P (3 * r)) (BX : TabX PR w K mg base (gg K) P xs (3 * r + 1)) (XF : XFacts K (gg K) P fns) (BM : TabM PR w K mg base (gg K) (phiAt T P r) T sms (3 * r)) (BB : DnB PR w K mg base (gg K) (phiAt T P r) P (3 * r)) : FnR PR w K mg base (L2.CX PR w) (3 * (r + 1)) (adOf K ats 11) (spOf (gg K) (phiAt T P (r + 1)) T 11) := by
  obtain ⟨fd, F⟩ := pl_ok (d := d11) (c.def_ 11 rfl) (c.fact 23 (f := x23) rfl)
  exact fn_step F (F.bindsN fun _ _ _ _ _ _ us hl => match us, hl with | [_, _], _ => rfl) sc11 (tyok (by decide +kernel)) rfl rfl fun cdv A outer s H E hr => b11 B C KF KT OPS BX XF BM BB cdv A outer s H E hr
theorem s12 {w : World} {K : PySem.W.Frag} {mg : Str → Option Value} {base : Heap} {r : Nat} (c : SaysM fxs dfs K) (B : Tab PR w K mg base (gg K) (phiAt T P r) T nms frs (3 * r)) (C : TabC PR w K mg base (gg K) (phiAt T P r) P T mks mns fns (3 * r)) (KF : Kits K P (gg K)) (KT : KitsT K P (gg K)) (OPS : OpsAll PR w K mg base (gg K) (phiAt T P r) P (3 * r)) (BX : TabX PR w K mg base (gg K) P xs (3 * r + 1)) (XF : XFacts K (gg K) P fns) (BM : TabM PR w K mg base (gg K) (phiAt T P r) T sms (3 * r)) (BB : DnB PR w K mg base (gg K) (phiAt T P r) P (3 * r)) : FnR PR w K mg base (L2.CX PR w) (3 * (r + 1)) (adOf K ats 12) (spOf (gg K) (phiAt T P (r + 1)) T 12) := by
  obtain ⟨fd, F⟩ := pl_ok (d := d12) (c.def_ 12 rfl) (c.fact 24 (f := x24) rfl)
  exact fn_step F (F.bindsN fun _ _ _ _ _ _ us hl => match us, hl with | [_, _], _ => rfl) sc12 (tyok (by decide +kernel)) rfl rfl fun cdv A outer s H E hr => b12 B C KF KT OPS BX XF BM BB cdv A outer s H E hr
theorem s13 {w : World} {K : PySem.W.Frag} {mg : Str → Option Value} {base : Heap} {r : Nat} (c : SaysM fxs dfs K) (B : Tab PR w K mg base (gg K) (phiAt T P r) T nms frs (3 * r)) (C : TabC PR w K mg base (gg K) (phiAt T P r) P T mks mns fns (3 * r)) (KF : Kits K P (gg K)) (KT : KitsT K P (gg K)) (OPS : OpsAll PR w K mg base (gg K) (phiAt T P r) P (3 * r)) (BX : TabX PR w K mg base (gg K) P xs (3 * r + 1)) (XF : XFacts K (gg K) P fns) (BM : TabM PR w K mg base (gg K) (phiAt T P r) T sms (3 * r)) (BB : DnB PR w K mg base (gg K) (phiAt T P r) P (3 * r)) : FnR PR w K mg base (L2.CX PR w) (3 * (r + 1)) (adOf K ats 13) (spOf (gg K) (phiAt T P (r + 1)) T 13) := by
  obtain ⟨fd, F⟩ := pl_ok (d := d13) (c.def_ 13 rfl) (c.fact 25 (f := x25) rfl)
  exact fn_step F (F.bindsN fun _ _ _ _ _ _ us hl => match us, hl with | [_, _], _ => rfl) sc13 (tyok (by decide +kernel)) rfl rfl fun cdv A outer s H E hr => b13 B C KF KT OPS BX XF BM BB cdv A outer s H E hr
theorem s14 {w : World} {K : PySem.W.Frag} {mg : Str → Option Value} {base : Heap} {r : Nat} (c : SaysM fxs dfs K) (B : Tab PR w K mg base (gg K) (phiAt T P r) T nms frs (3 * r)) (C : TabC PR w K mg base (gg K) (phiAt T P r) P T mks mns fns (3 * r)) (KF : Kits K P (gg K)) (KT : KitsT K P (gg K)) (OPS : OpsAll PR w K mg base (gg K) (phiAt T P r) P (3 * r)) (BX : TabX PR w K mg base (gg K) P xs (3 * r + 1)) (XF : XFacts K (gg K) P fns) (BM : TabM PR w K mg base (gg K) (phiAt T P r) T sms (3 * r)) (BB : DnB PR w K mg base (gg K) (phiAt T P r) P (3 * r)) : FnR PR w K mg base (L2.CX PR w) (3 * (r + 1)) (adOf K ats 14) (spOf (gg K) (phiAt T P (r + 1)) T 14) := by
  obtain ⟨fd, F⟩ := pl_ok (d := d14) (c.def_ 14 rfl) (c.fact 26 (f := x26) rfl)
  exact fn_step F (F.bindsN fun _ _ _ _ _ _ us hl => match us, hl with | [_, _], _ => rfl) sc14 (tyok (by decide +kernel)) rfl rfl fun cdv A outer s H E hr => b14 B C KF KT OPS BX XF BM BB cdv A outer s H E hr
theorem s15 {w : World} {K : PySem.W.Frag} {mg : Str → Option Value} {base : Heap} {r : Nat} (c : SaysM fxs dfs K) (B : Tab PR w K mg base (gg K) (phiAt T P r) T nms frs (3 * r)) (C : TabC PR w K mg base (gg K) (phiAt T P r) P T mks mns fns (3 * r)) (KF : Kits K P (gg K)) (KT : KitsT K P (gg K)) (OPS : OpsAll PR w K mg base (gg K) (phiAt T P r) P (3 * r)) (BX : TabX PR w K mg base (gg K) P xs (3 * r + 1)) (XF : XFacts K (gg K) P fns) (BM : TabM PR w K mg base (gg K) (phiAt T P r) T sms (3 * r)) (BB : DnB PR w K mg base (gg K) (phiAt T P r) P (3 * r)) : FnR PR w K mg base (L2.CX PR w) (3 * (r + 1)) (adOf K ats 15) (spOf (gg K) (phiAt T P (r + 1)) T 15) := by
  obtain ⟨fd, F⟩ := pl_ok (d := d15) (c.def_ 15 rfl) (c.fact 27 (f := x27) rfl)
  exact fn_step F (F.bindsN fun _ _ _ _ _ _ us hl => match us, hl with | [_], _ => rfl) sc15 (tyok (by decide +kernel)) rfl rfl fun cdv A outer s H E hr => b15 B C KF KT OPS BX XF BM BB cdv A outer s H E hr
theorem s16 {w : World} {K : PySem.W.Frag} {mg : Str → Option Value} {base : Heap} {r : Nat} (c : SaysM fxs dfs K) (B : Tab PR w K mg base (gg K) (phiAt T P r) T nms frs (3 * r)) (C : TabC PR w K mg base (gg K) (phiAt T P r) P T mks mns fns (3 * r)) (KF : Kits K P (gg K)) (KT : KitsT K P (gg K)) (OPS : OpsAll PR w K mg base (gg K) (phiAt T P r) P (3 * r)) (BX : TabX PR w K mg base (gg K) P xs (3 * r + 1)) (XF : XFacts K (gg K) P fns) (BM : TabM PR w K mg base (gg K) (phiAt T P r) T sms (3 * r)) (BB : DnB PR w K mg base (gg K) (phiAt T P r) P (3 * r)) : FnR PR w K mg base (L2.CX PR w) (3 * (r + 1)) (adOf K ats 16) (spOf (gg K) (phiAt T P (r + 1)) T 16) := by
  obtain ⟨fd, F⟩ := pl_ok (d := d16) (c.def_ 16 rfl) (c.fact 28 (f := x28) rfl)
  exact fn_step F (F.bindsN fun _ _ _ _ _ _ us hl => match us, hl with | [_], _ => rfl) sc16 (tyok (by decide +kernel)) rfl rfl fun cdv A outer s H E hr => b16 B C KF KT OPS BX XF BM BB cdv A outer s H E hr
theorem s17 {w : World} {K : PySem.W.Frag} {mg : Str → Option Value} {base : Heap} {r : Nat} (c : SaysM fxs dfs K) (B : Tab PR w K mg base (gg K) (phiAt T P r) T nms frs (3 * r)) (C : TabC PR w K mg base (gg K) (phiAt T P r) P T mks mns fns (3 * r)) (KF : Kits K P (gg K)) (KT : KitsT K P (gg K)) (OPS : OpsAll PR w K mg base (gg K) (phiAt T P r) P (3 * r)) (BX : TabX PR w K mg base (gg K) P xs (3 * r + 1)) (XF : XFacts K (gg K) P fns) (BM : TabM PR w K mg base (gg K) (phiAt T P r) T sms (3 * r)) (BB : DnB PR w K mg base (gg K) (phiAt T P r) P (3 * r)) : FnR PR w K mg base (L2.CX PR w) (3 * (r + 1)) (adOf K ats 17) (spOf (gg K) (phiAt T P (r + 1)) T 17) := by
  obtain ⟨fd, F⟩ := pl_ok (d := d17) (c.def_ 17 rfl) (c.fact 29 (f := x29) rfl)
  exact fn_stepL F (F.bindsN fun _ _ _ _ _ _ us hl => match us, hl with | [_], _ => rfl) sc17 (tyok (by decide +kernel)) rfl rfl fun v cdv A outer s H E hr => b17 B C KF KT OPS BX XF BM BB v cdv A outer s H E hr
theorem s18 {w : World} {K : PySem.W.Frag} {mg : Str → Option Value} {base : Heap} {r : Nat} (c : SaysM fxs dfs K) (B : Tab PR w K mg base (gg K) (phiAt T P r) T nms frs (3 * r)) (C : TabC PR w K mg base (gg K) (phiAt T P r) P T mks mns fns (3 * r)) (KF : Kits K P (gg K)) (KT : KitsT K P (gg K)) (OPS : OpsAll PR w K mg base (gg K) (phiAt T P r) P (3 * r)) (BX : TabX PR w K mg base (gg K) P xs (3 * r + 1)) (XF : XFacts K (gg K) P fns) (BM : TabM PR w K mg base (gg K) (phiAt T P r) T sms (3 * r)) (BB : DnB PR w K mg base (gg K) (phiAt T P r) P (3 * r)) : FnR PR w K mg base (L2.CX PR w) (3 * (r + 1)) (adOf K ats 18) (spOf (gg K) (phiAt T P (r + 1)) T 18) := by
  obtain ⟨fd, F⟩ := pl_ok (d := d18) (c.def_ 18 rfl) (c.fact 30 (f := x30) rfl)
  exact fn_step F (F.bindsN fun _ _ _ _ _ _ us hl => match us, hl with | [_, _], _ => rfl) sc18 (tyok (by decide +kernel)) rfl rfl fun cdv A outer s H E hr => b18 B C KF KT OPS BX XF BM BB cdv A outer s H E hr
theorem s19 {w : World} {K : PySem.W.Frag} {mg : Str → Option Value} {base : Heap} {r : Nat} (c : SaysM fxs dfs K) (B : Tab PR w K mg base (gg K) (phiAt T P r) T nms frs (3 * r)) (C : TabC PR w K mg base (gg K) (phiAt T P r) P T mks mns fns (3 * r)) (KF : Kits K P (gg K)) (KT : KitsT K P (gg K)) (OPS : OpsAll PR w K mg base (gg K) (phiAt T P r) P (3 * r)) (BX : TabX PR w K mg base (gg K) P xs (3 * r + 1)) (XF : XFacts K (gg K) P fns) (BM : TabM PR w K mg base (gg K) (phiAt T P r) T sms (3 * r)) (BB : DnB PR w K mg base (gg K) (phiAt T P r) P (3 * r)) : FnR PR w K mg base (L2.CX PR w) (3 * (r + 1)) (adOf K ats 19) (spOf (gg K) (phiAt T P (r + 1)) T 19) := by
  obtain ⟨fd, F⟩ := pl_ok (d := d19) (c.def_ 19 rfl) (c.fact 31 (f := x31) rfl)
  exact fn_step F (F.bindsN fun _ _ _ _ _ _ us hl => match us, hl with | [_, _], _ => rfl) sc19 (tyok (by decide +kernel)) rfl rfl fun cdv A outer s H E hr => b19 B C KF KT OPS BX XF BM BB cdv A outer s H E hr
theorem s20 {w : World} {K : PySem.W.Frag} {mg : Str → Option Value} {base : Heap} {r : Nat} (c : SaysM fxs dfs K) (B : Tab PR w K mg base (gg K) (phiAt T P r) T nms frs (3 * r)) (C : TabC PR w K mg base (gg K) (phiAt T P r) P T mks mns fns (3 * r)) (KF : Kits K P (gg K)) (KT : KitsT K P (gg K)) (OPS : OpsAll PR w K mg base (gg K) (phiAt T P r) P (3 * r)) (BX : TabX PR w K mg base (gg K) P xs (3 * r + 1)) (XF : XFacts K (gg K) P fns) (BM : TabM PR w K mg base (gg K) (phiAt T P r) T sms (3 * r)) (BB : DnB PR w K mg base (gg K) (phiAt T P r) P (3 * r)) : FnR PR w K mg base (L2.CX PR w) (3 * (r + 1)) (adOf K ats 20) (spOf (gg K) (phiAt T P (r + 1)) T 20) := by
  obtain ⟨fd, F⟩ := pl_ok (d := d20) (c.def_ 20 rfl) (c.fact 32 (f := x32) rfl)
  exact fn_step F (F.bindsN fun _ _ _ _ _ _ us hl => match us, hl with | [_, _, _, _, _], _ => rfl) sc20 (tyok (by decide +kernel)) rfl rfl fun cdv A outer s H E hr => b20 B C KF KT OPS BX XF BM BB cdv A outer s H E hr
theorem s21 {w : World} {K : PySem.W.Frag} {mg : Str → Option Value} {base : Heap} {r : Nat} (c : SaysM fxs dfs K) (B : Tab PR w K mg base (gg K) (phiAt T P r) T nms frs (3 * r)) (C : TabC PR w K mg base (gg K) (phiAt T P r) P T mks mns fns (3 * r)) (KF : Kits K P (gg K)) (KT : KitsT K P (gg K)) (OPS : OpsAll PR w K mg base (gg K) (phiAt T P r) P (3 * r)) (BX : TabX PR w K mg base (gg K) P xs (3 * r + 1)) (XF : XFacts K (gg K) P fns) (BM : TabM PR w K mg base (gg K) (phiAt T P r) T sms (3 * r)) (BB : DnB PR w K mg base (gg K) (phiAt T P r) P (3 * r)) : FnR PR w K mg base (L2.CX PR w) (3 * (r + 1)) (adOf K ats 21) (spOf (gg K) (phiAt T P (r + 1)) T 21) := by
  obtain ⟨fd, F⟩ := pl_ok (d := d21) (c.def_ 21 rfl) (c.fact 33 (f := x33) rfl)
  exact fn_step F (F.bindsN fun _ _ _ _ _ _ us hl => match us, hl with | [_, _, _, _, _], _ => rfl) sc21 (tyok (by decide +kernel)) rfl rfl fun cdv A outer s H E hr => b21 B C KF KT OPS BX XF BM BB cdv A outer s H E hr
theorem s22 {w : World} {K : PySem.W.Frag} {mg : Str → Option Value} {base : Heap} {r : Nat} (c : SaysM fxs dfs K) (B : Tab PR w K mg base (gg K) (phiAt T P r) T nms frs (3 * r)) (C : TabC PR w K mg base (gg K) (phiAt T P r) P T mks mns fns (3 * r)) (KF : Kits K P (gg K)) (KT : KitsT K P (gg K)) (OPS : OpsAll PR w K mg base (gg K) (phiAt T P r) P (3 * r)) (BX : TabX PR w K mg base (gg K) P xs (3 * r + 1)) (XF : XFacts K (gg K) P fns) (BM : TabM PR w K mg base (gg K) (phiAt T P r) T sms (3 * r)) (BB : DnB PR w K mg base (gg K) (phiAt T P r) P (3 * r)) : FnR PR w K mg base (L2.CX PR w) (3 * (r + 1)) (adOf K ats 22) (spOf (gg K) (phiAt T P (r + 1)) T 22) := by
  obtain ⟨fd, F⟩ := pl_ok (d := d22) (c.def_ 22 rfl) (c.fact 34 (f := x34) rfl)
  exact fn_step F (F.bindsN fun _ _ _ _ _ _ us hl => match us, hl with | [_, _], _ => rfl) sc22 (tyok (by decide +kernel)) rfl rfl fun cdv A outer s H E hr => b22 B C KF KT OPS BX XF BM BB cdv A outer s H E hr
theorem s23 {w : World} {K : PySem.W.Frag} {mg : Str → Option Value} {base : Heap} {r : Nat} (c : SaysM fxs dfs K) (B : Tab PR w K mg base (gg K) (phiAt T P r) T nms frs (3 * r)) (C : TabC PR w K mg base (gg K) (phiAt T P r) P T mks mns fns (3 * r)) (KF : Kits K P (gg K)) (KT : KitsT K P (gg K)) (OPS : OpsAll PR w K mg base (gg K) (phiAt T P r) P (3 * r)) (BX : TabX PR w K mg base (gg K) P xs (3 * r + 1)) (XF : XFacts K (gg K) P fns) (BM : TabM PR w K mg base (gg K) (phiAt T P r) T sms (3 * r)) (BB : DnB PR w K mg base (gg K) (phiAt T P r) P (3 * r)) : FnR PR w K mg base (L2.CX PR w) (3 * (r + 1)) (adOf K ats 23) (spOf (gg K) (phiAt T P (r + 1)) T 23) := by
  obtain ⟨fd, F⟩ := pl_ok (d := d23) (c.def_ 23 rfl) (c.fact 35 (f := x35) rfl)
  exact fn_stepL F (F.bindsN fun _ _ _ _ _ _ us hl => match us, hl with | [_, _, _], _ => rfl) sc23 (tyok (by decide +kernel)) rfl rfl fun v cdv A outer s H E hr => b23 B C KF KT OPS BX XF BM BB v cdv A outer s H E hr
theorem s24 {w : World} {K : PySem.W.Frag} {mg : Str → Option Value} {base : Heap} {r : Nat} (c : SaysM fxs dfs K) (B : Tab PR w K mg base (gg K) (phiAt T P r) T nms frs (3 * r)) (C : TabC PR w K mg base (gg K) (phiAt T P r) P T mks mns fns (3 * r)) (KF : Kits K P (gg K)) (KT : KitsT K P (gg K)) (OPS : OpsAll PR w K mg base (gg K) (phiAt T P r) P (3 * r)) (BX : TabX PR w K mg base (gg K) P xs (3 * r + 1)) (XF : XFacts K (gg K) P fns) (BM : TabM PR w K mg base (gg K) (phiAt T P r) T sms (3 * r)) (BB : DnB PR w K mg base (gg K) (phiAt T P r) P (3 * r)) : FnR PR w K mg base (L2.CX PR w) (3 * (r + 1)) (adOf K ats 24) (spOf (gg K) (phiAt T P (r + 1)) T 24) := by
  obtain ⟨fd, F⟩ := pl_ok (d := d24) (c.def_ 24 rfl) (c.fact 36 (f := x36) rfl)
  exact fn_step F (F.bindsN fun _ _ _ _ _ _ us hl => match us, hl with | [_], _ => rfl) sc24 (tyok (by decide +kernel)) rfl rfl fun cdv A outer s H E hr => b24 B C KF KT OPS BX XF BM BB cdv A outer s H E hr
theorem s25 {w : World} {K : PySem.W.Frag} {mg : Str → Option Value} {base : Heap} {r : Nat} (c : SaysM fxs dfs K) (B : Tab PR w K mg base (gg K) (phiAt T P r) T nms frs (3 * r)) (C : TabC PR w K mg base (gg K) (phiAt T P r) P T mks mns fns (3 * r)) (KF : Kits K P (gg K)) (KT : KitsT K P (gg K)) (OPS : OpsAll PR w K mg base (gg K) (phiAt T P r) P (3 * r)) (BX : TabX PR w K mg base (gg K) P xs (3 * r + 1)) (XF : XFacts K (gg K) P fns) (BM : TabM PR w K mg base (gg K) (phiAt T P r) T sms (3 * r)) (BB : DnB PR w K mg base (gg K) (phiAt T P r) P (3 * r)) : FnR PR w K mg base (L2.CX PR w) (3 * (r + 1)) (adOf K ats 25) (spOf (gg K) (phiAt T P (r + 1)) T 25) := by
  obtain ⟨fd, F⟩ := pl_ok (d := d25) (c.def_ 25 rfl) (c.fact 37 (f := x37) rfl)
  exact fn_stepLD (m := 25) (app := []) (dv := []) F (F.binds1 3 1 (by decide) rfl fun _ _ _ _ _ _ _ us its hu hi => match us, hu, its, hi with | [_, _, _], _, [_], _ => ⟨_, rfl, rfl⟩) sc25 (tyok (by decide +kernel)) rfl rfl rfl (fun _ => rfl) fun v cdv A outer s H E hr => b25 B C KF KT OPS BX XF BM BB v cdv A outer s H E hr
theorem s40 {w : World} {K : PySem.W.Frag} {mg : Str → Option Value} {base : Heap} {r : Nat} (c : SaysM fxs dfs K) (B : Tab PR w K mg base (gg K) (phiAt T P r) T nms frs (3 * r)) (C : TabC PR w K mg base (gg K) (phiAt T P r) P T mks mns fns (3 * r)) (KF : Kits K P (gg K)) (KT : KitsT K P (gg K)) (OPS : OpsAll PR w K mg base (gg K) (phiAt T P r) P (3 * r)) (BX : TabX PR w K mg base (gg K) P xs (3 * r + 1)) (XF : XFacts K (gg K) P fns) (BM : TabM PR w K mg base (gg K) (phiAt T P r) T sms (3 * r)) (BB : DnB PR w K mg base (gg K) (phiAt T P r) P (3 * r)) : FnR PR w K mg base (L2.CX PR w) (3 * (r + 1)) (adOf K ats 40) (spOf (gg K) (phiAt T P (r + 1)) T 40) := by
  obtain ⟨fd, F⟩ := pl_ok (d := d25) (c.def_ 25 rfl) (c.fact 37 (f := x37) rfl)
  exact fn_stepLD (m := 25) (app := [.int 1]) (dv := [.int 1]) F (F.binds1 2 0 (by decide) rfl fun _ _ _ _ _ _ _ us its hu hi => match us, hu, its, hi with | [_, _], _, [_], _ => ⟨_, rfl, rfl⟩) sc25 (tyok (by decide +kernel)) rfl rfl rfl (fun _ => ⟨_, _, rfl, rfl, rfl⟩) fun v cdv A outer s H E hr => b25 B C KF KT OPS BX XF BM BB v cdv A outer s H E hr
theorem s26 {w : World} {K : PySem.W.Frag} {mg : Str → Option Value} {base : Heap} {r : Nat} (c : SaysM fxs dfs K) (B : Tab PR w K mg base (gg K) (phiAt T P r) T nms frs (3 * r)) (C : TabC PR w K mg base (gg K) (phiAt T P r) P T mks mns fns (3 * r)) (KF : Kits K P (gg K)) (KT : KitsT K P (gg K)) (OPS : OpsAll PR w K mg base (gg K) (phiAt T P r) P (3 * r)) (BX : TabX PR w K mg base (gg K) P xs (3 * r + 1)) (XF : XFacts K (gg K) P fns) (BM : TabM PR w K mg base (gg K) (phiAt T P r) T sms (3 * r)) (BB : DnB PR w K mg base (gg K) (phiAt T P r) P (3 * r)) : FnR PR w K mg base (L2.CX PR w) (3 * (r + 1)) (adOf K ats 26) (spOf (gg K) (phiAt T P (r + 1)) T 26) := by
  obtain ⟨fd, F⟩ := pl_ok (d := d26) (c.def_ 26 rfl) (c.fact 38 (f := x38) rfl)
  exact fn_step F (F.bindsN fun _ _ _ _ _ _ us hl => match us, hl with | [_, _], _ => rfl) sc26 (tyok (by decide +kernel)) rfl rfl fun cdv A outer s H E hr => b26 B C KF KT OPS BX XF BM BB cdv A outer s H E hr
theorem s27 {w : World} {K : PySem.W.Frag} {mg : Str → Option Value} {base : Heap} {r : Nat} (c : SaysM fxs dfs K) (B : Tab PR w K mg base (gg K) (phiAt T P r) T nms frs (3 * r)) (C : TabC PR w K mg base (gg K) (phiAt T P r) P T mks mns fns (3 * r)) (KF : Kits K P (gg K)) (KT : KitsT K P (gg K)) (OPS : OpsAll PR w K mg base (gg K) (phiAt T P r) P (3 * r)) (BX : TabX PR w K mg base (gg K) P xs (3 * r + 1)) (XF : XFacts K (gg K) P fns) (BM : TabM PR w K mg base (gg K) (phiAt T P r) T sms (3 * r)) (BB : DnB PR w K mg base (gg K) (phiAt T P r) P (3 * r)) : FnR PR w K mg base (L2.CX PR w) (3 * (r + 1)) (adOf K ats 27) (spOf (gg K) (phiAt T P (r + 1)) T 27) := by
  obtain ⟨fd, F⟩ := pl_ok (d := d27) (c.def_ 27 rfl) (c.fact 39 (f := x39) rfl)
  exact fn_step F (F.bindsN fun _ _ _ _ _ _ us hl => match us, hl with | [_, _], _ => rfl) sc27 (tyok (by decide +kernel)) rfl rfl fun cdv A outer s H E hr => b27 B C KF KT OPS BX XF BM BB cdv A outer s H E hr
theorem s28 {w : World} {K : PySem.W.Frag} {mg : Str → Option Value} {base : Heap} {r : Nat} (c : SaysM fxs dfs K) (B : Tab PR w K mg base (gg K) (phiAt T P r) T nms frs (3 * r)) (C : TabC PR w K mg base (gg K) (phiAt T P r) P T mks mns fns (3 * r)) (KF : Kits K P (gg K)) (KT : KitsT K P (gg K)) (OPS : OpsAll PR w K mg base (gg K) (phiAt T P r) P (3 * r)) (BX : TabX PR w K mg base (gg K) P xs (3 * r + 1)) (XF : XFacts K (gg K) P fns) (BM : TabM PR w K mg base (gg K) (phiAt T P r) T sms (3 * r)) (BB : DnB PR w K mg base (gg K) (phiAt T P r) P (3 * r)) : FnR PR w K mg base (L2.CX PR w) (3 * (r + 1)) (adOf K ats 28) (spOf (gg K) (phiAt T P (r + 1)) T 28) := by
  obtain ⟨fd, F⟩ := pl_ok (d := d28) (c.def_ 28 rfl) (c.fact 40 (f := x40) rfl)
  exact fn_step F (F.bindsN fun _ _ _ _ _ _ us hl => match us, hl with | [_, _], _ => rfl) sc28 (tyok (by decide +kernel)) rfl rfl fun cdv A outer s H E hr => b28 B C KF KT OPS BX XF BM BB cdv A outer s H E hr
theorem s29 {w : World} {K : PySem.W.Frag} {mg : Str → Option Value} {base : Heap} {r : Nat} (c : SaysM fxs dfs K) (B : Tab PR w K mg base (gg K) (phiAt T P r) T nms frs (3 * r)) (C : TabC PR w K mg base (gg K) (phiAt T P r) P T mks mns fns (3 * r)) (KF : Kits K P (gg K)) (KT : KitsT K P (gg K)) (OPS : OpsAll PR w K mg base (gg K) (phiAt T P r) P (3 * r)) (BX : TabX PR w K mg base (gg K) P xs (3 * r + 1)) (XF : XFacts K (gg K) P fns) (BM : TabM PR w K mg base (gg K) (phiAt T P r) T sms (3 * r)) (BB : DnB PR w K mg base (gg K) (phiAt T P r) P (3 * r)) : FnR PR w K mg base (L2.CX PR w) (3 * (r + 1)) (adOf K ats 29) (spOf (gg K) (phiAt T P (r + 1)) T 29) := by
  obtain ⟨fd, F⟩ := pl_ok (d := d29) (c.def_ 29 rfl) (c.fact 41 (f := x41) rfl)
  exact fn_step F (F.bindsN fun _ _ _ _ _ _ us hl => match us, hl with | [_, _], _ => rfl) sc29 (tyok (by decide +kernel)) rfl rfl fun cdv A outer s H E hr => b29 B C KF KT OPS BX XF BM BB cdv A outer s H E hr
theorem s30 {w : World} {K : PySem.W.Frag} {mg : Str → Option Value} {base : Heap} {r : Nat} (c : SaysM fxs dfs K) (B : Tab PR w K mg base (gg K) (phiAt T P r) T nms frs (3 * r)) (C : TabC PR w K mg base (gg K) (phiAt T P r) P T mks mns fns (3 * r)) (KF : Kits K P (gg K)) (KT : KitsT K P (gg K)) (OPS : OpsAll PR w K mg base (gg K) (phiAt T P r) P (3 * r)) (BX : TabX PR w K mg base (gg K) P xs (3 * r + 1)) (XF : XFacts K (gg K) P fns) (BM : TabM PR w K mg base (gg K) (phiAt T P r) T sms (3 * r)) (BB : DnB PR w K mg base (gg K) (phiAt T P r) P (3 * r)) : FnR PR w K mg base (L2.CX PR w) (3 * (r + 1)) (adOf K ats 30) (spOf (gg K) (phiAt T P (r + 1)) T 30) := by
  obtain ⟨fd, F⟩ := pl_ok (d := d30) (c.def_ 30 rfl) (c.fact 42 (f := x42) rfl)
  exact fn_step F (F.bindsN fun _ _ _ _ _ _ us hl => match us, hl with | [_, _], _ => rfl) sc30 (tyok (by decide +kernel)) rfl rfl fun cdv A outer s H E hr => b30 B C KF KT OPS BX XF BM BB cdv A outer s H E hr
theorem s31 {w : World} {K : PySem.W.Frag} {mg : Str → Option Value} {base : Heap} {r : Nat} (c : SaysM fxs dfs K) (B : Tab PR w K mg base (gg K) (phiAt T P r) T nms frs (3 * r)) (C : TabC PR w K mg base (gg K) (phiAt T P r) P T mks mns fns (3 * r)) (KF : Kits K P (gg K)) (KT : KitsT K P (gg K)) (OPS : OpsAll PR w K mg base (gg K) (phiAt T P r) P (3 * r)) (BX : TabX PR w K mg base (gg K) P xs (3 * r + 1)) (XF : XFacts K (gg K) P fns) (BM : TabM PR w K mg base (gg K) (phiAt T P r) T sms (3 * r)) (BB : DnB PR w K mg base (gg K) (phiAt T P r) P (3 * r)) : FnR PR w K mg base (L2.CX PR w) (3 * (r + 1)) (adOf K ats 31) (spOf (gg K) (phiAt T P (r + 1)) T 31) := by
  obtain ⟨fd, F⟩ := pl_ok (d := d31) (c.def_ 31 rfl) (c.fact 43 (f := x43) rfl)
  exact fn_step F (F.bindsN fun _ _ _ _ _ _ us hl => match us, hl with | [_, _], _ => rfl) sc31 (tyok (by decide +kernel)) rfl rfl fun cdv A outer s H E hr => b31 B C KF KT OPS BX XF BM BB cdv A outer s H E hr
theorem s32 {w : World} {K : PySem.W.Frag} {mg : Str → Option Value} {base : Heap} {r : Nat} (c : SaysM fxs dfs K) (B : Tab PR w K mg base (gg K) (phiAt T P r) T nms frs (3 * r)) (C : TabC PR w K mg base (gg K) (phiAt T P r) P T mks mns fns (3 * r)) (KF : Kits K P (gg K)) (KT : KitsT K P (gg K)) (OPS : OpsAll PR w K mg base (gg K) (phiAt T P r) P (3 * r)) (BX : TabX PR w K mg base (gg K) P xs (3 * r + 1)) (XF : XFacts K (gg K) P fns) (BM : TabM PR w K mg base (gg K) (phiAt T P r) T sms (3 * r)) (BB : DnB PR w K mg base (gg K) (phiAt T P r) P (3 * r)) : FnR PR w K mg base (L2.CX PR w) (3 * (r + 1)) (adOf K ats 32) (spOf (gg K) (phiAt T P (r + 1)) T 32) := by
  obtain ⟨fd, F⟩ := pl_ok (d := d32) (c.def_ 32 rfl) (c.fact 44 (f := x44) rfl)
  exact fn_step F (F.bindsN fun _ _ _ _ _ _ us hl => match us, hl with | [_, _], _ => rfl) sc32 (tyok (by decide +kernel)) rfl rfl fun cdv A outer s H E hr => b32 B C KF KT OPS BX XF BM BB cdv A outer s H E hr
theorem s33 {w : World} {K : PySem.W.Frag} {mg : Str → Option Value} {base : Heap} {r : Nat} (c : SaysM fxs dfs K) (B : Tab PR w K mg base (gg K) (phiAt T P r) T nms frs (3 * r)) (C : TabC PR w K mg base (gg K) (phiAt T P r) P T mks mns fns (3 * r)) (KF : Kits K P (gg K)) (KT : KitsT K P (gg K)) (OPS : OpsAll PR w K mg base (gg K) (phiAt T P r) P (3 * r)) (BX : TabX PR w K mg base (gg K) P xs (3 * r + 1)) (XF : XFacts K (gg K) P fns) (BM : TabM PR w K mg base (gg K) (phiAt T P r) T sms (3 * r)) (BB : DnB PR w K mg base (gg K) (phiAt T P r) P (3 * r)) : FnR PR w K mg base (L2.CX PR w) (3 * (r + 1)) (adOf K ats 33) (spOf (gg K) (phiAt T P (r + 1)) T 33) := by
  obtain ⟨fd, F⟩ := pl_ok (d := d33) (c.def_ 33 rfl) (c.fact 45 (f := x45) rfl)
  exact fn_step F (F.bindsN fun _ _ _ _ _ _ us hl => match us, hl with | [_], _ => rfl) sc33 (tyok (by decide +kernel)) rfl rfl fun cdv A outer s H E hr => b33 B C KF KT OPS BX XF BM BB cdv A outer s H E hr
theorem s34 {w : World} {K : PySem.W.Frag} {mg : Str → Option Value} {base : Heap} {r : Nat} (c : SaysM fxs dfs K) (B : Tab PR w K mg base (gg K) (phiAt T P r) T nms frs (3 * r)) (C : TabC PR w K mg base (gg K) (phiAt T P r) P T mks mns fns (3 * r)) (KF : Kits K P (gg K)) (KT : KitsT K P (gg K)) (OPS : OpsAll PR w K mg base (gg K) (phiAt T P r) P (3 * r)) (BX : TabX PR w K mg base (gg K) P xs (3 * r + 1)) (XF : XFacts K (gg K) P fns) (BM : TabM PR w K mg base (gg K) (phiAt T P r) T sms (3 * r)) (BB : DnB PR w K mg base (gg K) (phiAt T P r) P (3 * r)) : FnR PR w K mg base (L2.CX PR w) (3 * (r + 1)) (adOf K ats 34) (spOf (gg K) (phiAt T P (r + 1)) T 34) := by
  obtain ⟨fd, F⟩ := pl_ok (d := d34) (c.def_ 34 rfl) (c.fact 46 (f := x46) rfl)
  exact fn_step F (F.bindsN fun _ _ _ _ _ _ us hl => match us, hl with | [_, _], _ => rfl) sc34 (tyok (by decide +kernel)) rfl rfl fun cdv A outer s H E hr => b34 B C KF KT OPS BX XF BM BB cdv A outer s H E hr
theorem s35 {w : World} {K : PySem.W.Frag} {mg : Str → Option Value} {base : Heap} {r : Nat} (c : SaysM fxs dfs K) (B : Tab PR w K mg base (gg K) (phiAt T P r) T nms frs (3 * r)) (C : TabC PR w K mg base (gg K) (phiAt T P r) P T mks mns fns (3 * r)) (KF : Kits K P (gg K)) (KT : KitsT K P (gg K)) (OPS : OpsAll PR w K mg base (gg K) (phiAt T P r) P (3 * r)) (BX : TabX PR w K mg base (gg K) P xs (3 * r + 1)) (XF : XFacts K (gg K) P fns) (BM : TabM PR w K mg base (gg K) (phiAt T P r) T sms (3 * r)) (BB : DnB PR w K mg base (gg K) (phiAt T P r) P (3 * r)) : FnR PR w K mg base (L2.CX PR w) (3 * (r + 1)) (adOf K ats 35) (spOf (gg K) (phiAt T P (r + 1)) T 35) := by
  obtain ⟨fd, F⟩ := pl_ok (d := d35) (c.def_ 35 rfl) (c.fact 47 (f := x47) rfl)
  exact fn_step F (F.bindsN fun _ _ _ _ _ _ us hl => match us, hl with | [_], _ => rfl) sc35 (tyok (by decide +kernel)) rfl rfl fun cdv A outer s H E hr => b35 B C KF KT OPS BX XF BM BB cdv A outer s H E hr
theorem s36 {w : World} {K : PySem.W.Frag} {mg : Str → Option Value} {base : Heap} {r : Nat} (c : SaysM fxs dfs K) (B : Tab PR w K mg base (gg K) (phiAt T P r) T nms frs (3 * r)) (C : TabC PR w K mg base (gg K) (phiAt T P r) P T mks mns fns (3 * r)) (KF : Kits K P (gg K)) (KT : KitsT K P (gg K)) (OPS : OpsAll PR w K mg base (gg K) (phiAt T P r) P (3 * r)) (BX : TabX PR w K mg base (gg K) P xs (3 * r + 1)) (XF : XFacts K (gg K) P fns) (BM : TabM PR w K mg base (gg K) (phiAt T P r) T sms (3 * r)) (BB : DnB PR w K mg base (gg K) (phiAt T P r) P (3 * r)) : FnR PR w K mg base (L2.CX PR w) (3 * (r + 1)) (adOf K ats 36) (spOf (gg K) (phiAt T P (r + 1)) T 36) := by
  obtain ⟨fd, F⟩ := pl_ok (d := d36) (c.def_ 36 rfl) (c.fact 48 (f := x48) rfl)
  exact fn_step F (F.bindsN fun _ _ _ _ _ _ us hl => match us, hl with | [_, _], _ => rfl) sc36 (tyok (by decide +kernel)) rfl rfl fun cdv A outer s H E hr => b36 B C KF KT OPS BX XF BM BB cdv A outer s H E hr
theorem s37 {w : World} {K : PySem.W.Frag} {mg : Str → Option Value} {base : Heap} {r : Nat} (c : SaysM fxs dfs K) (B : Tab PR w K mg base (gg K) (phiAt T P r) T nms frs (3 * r)) (C : TabC PR w K mg base (gg K) (phiAt T P r) P T mks mns fns (3 * r)) (KF : Kits K P (gg K)) (KT : KitsT K P (gg K)) (OPS : OpsAll PR w K mg base (gg K) (phiAt T P r) P (3 * r)) (BX : TabX PR w K mg base (gg K) P xs (3 * r + 1)) (XF : XFacts K (gg K) P fns) (BM : TabM PR w K mg base (gg K) (phiAt T P r) T sms (3 * r)) (BB : DnB PR w K mg base (gg K) (phiAt T P r) P (3 * r)) : FnR PR w K mg base (L2.CX PR w) (3 * (r + 1)) (adOf K ats 37) (spOf (gg K) (phiAt T P (r + 1)) T 37) := by
  obtain ⟨fd, F⟩ := pl_ok (d := d37) (c.def_ 37 rfl) (c.fact 49 (f := x49) rfl)
  exact fn_step F (F.bindsN fun _ _ _ _ _ _ us hl => match us, hl with | [_], _ => rfl) sc37 (tyok (by decide +kernel)) rfl rfl fun cdv A outer s H E hr => b37 B C KF KT OPS BX XF BM BB cdv A outer s H E hr
theorem s38 {w : World} {K : PySem.W.Frag} {mg : Str → Option Value} {base : Heap} {r : Nat} (c : SaysM fxs dfs K) (B : Tab PR w K mg base (gg K) (phiAt T P r) T nms frs (3 * r)) (C : TabC PR w K mg base (gg K) (phiAt T P r) P T mks mns fns (3 * r)) (KF : Kits K P (gg K)) (KT : KitsT K P (gg K)) (OPS : OpsAll PR w K mg base (gg K) (phiAt T P r) P (3 * r)) (BX : TabX PR w K mg base (gg K) P xs (3 * r + 1)) (XF : XFacts K (gg K) P fns) (BM : TabM PR w K mg base (gg K) (phiAt T P r) T sms (3 * r)) (BB : DnB PR w K mg base (gg K) (phiAt T P r) P (3 * r)) : FnR PR w K mg base (L2.CX PR w) (3 * (r + 1)) (adOf K ats 38) (spOf (gg K) (phiAt T P (r + 1)) T 38) := by
  obtain ⟨fd, F⟩ := pl_ok (d := d38) (c.def_ 38 rfl) (c.fact 50 (f := x50) rfl)
  exact fn_step F (F.bindsN fun _ _ _ _ _ _ us hl => match us, hl with | [_, _], _ => rfl) sc38 (tyok (by decide +kernel)) rfl rfl fun cdv A outer s H E hr => b38 B C KF KT OPS BX XF BM BB cdv A outer s H E hr
theorem s39 {w : World} {K : PySem.W.Frag} {mg : Str → Option Value} {base : Heap} {r : Nat} (c : SaysM fxs dfs K) (B : Tab PR w K mg base (gg K) (phiAt T P r) T nms frs (3 * r)) (C : TabC PR w K mg base (gg K) (phiAt T P r) P T mks mns fns (3 * r)) (KF : Kits K P (gg K)) (KT : KitsT K P (gg K)) (OPS : OpsAll PR w K mg base (gg K) (phiAt T P r) P (3 * r)) (BX : TabX PR w K mg base (gg K) P xs (3 * r + 1)) (XF : XFacts K (gg K) P fns) (BM : TabM PR w K mg base (gg K) (phiAt T P r) T sms (3 * r)) (BB : DnB PR w K mg base (gg K) (phiAt T P r) P (3 * r)) : FnR PR w K mg base (L2.CX PR w) (3 * (r + 1)) (adOf K ats 39) (spOf (gg K) (phiAt T P (r + 1)) T 39) := by
  obtain ⟨fd, F⟩ := pl_ok (d := d39) (c.def_ 39 rfl) (c.fact 51 (f := x51) rfl)
  exact fn_step F (F.bindsN fun _ _ _ _ _ _ us hl => match us, hl with | [_], _ => rfl) sc39 (tyok (by decide +kernel)) rfl rfl fun cdv A outer s H E hr => b39 B C KF KT OPS BX XF BM BB cdv A outer s H E hr
theorem hcl (c : Nat) (h : (P.cls c).is = true) : c < 1 := Nat.le_of_ble_eq_true h
theorem hcl2 (c : Nat) (h : c < 1) : (P.cls c).is = true := Nat.ble_eq_true_of_le h
theorem xfa {K : PySem.W.Frag} (c : SaysM fxs dfs K) : XFacts K (gg K) P fns := xfacts_ok (xn := xn) (xf := xf) (c.fact 4 (f := x4) rfl) (fun c h => isx_mem h) (fun c f k h => lookup_mem h) (nmB_ok (fls := fls) (by decide +kernel))
theorem step {w : World} {K : PySem.W.Frag} {mg : Str → Option Value} {base : Heap} (c : SaysM fxs dfs K) (hg : ∀ x ∈ glos, mg x = some (.ref (ga K x))) (hf : ∀ x ∈ frs, mg x = none) (r : Nat) (ih : ∀ n, n < 41 → FnR PR w K mg base (L2.CX PR w) (3 * r) (adOf K ats n) (spOf (gg K) (phiAt T P r) T n)) :
    Tab PR w K mg base (gg K) (phiAt T P r) T nms frs (3 * r) ∧ TabC PR w K mg base (gg K) (phiAt T P r) P T mks mns fns (3 * r) ∧ Kits K P (gg K) ∧ KitsT K P (gg K) ∧ OpsAll PR w K mg base (gg K) (phiAt T P r) P (3 * r) ∧ TabX PR w K mg base (gg K) P xs (3 * r + 1) ∧ XFacts K (gg K) P fns ∧ TabM PR w K mg base (gg K) (phiAt T P r) T sms (3 * r) ∧ DnB PR w K mg base (gg K) (phiAt T P r) P (3 * r) :=
  ⟨tab_ok rfl hg hf (c.fact 5 (f := x5) rfl) (by decide +kernel) rfl ih, tabC_ok (ncl := 1) (glos := glos) (ats := ats) (mts := mts) (fds := fds) hg hcl hcl2 (c.fact 3 (f := x3) rfl) (c.fact 6 (f := x6) rfl) (c.fact 7 (f := x7) rfl) (c.fact 8 (f := x8) rfl) (m := 41) (by decide +kernel) (by decide +kernel) (by decide +kernel) (fun c k n h => h) (fun c f i h => h) (Nat.le_of_ble_eq_true rfl) (Nat.le_of_ble_eq_true rfl) ih, kits_ok rfl (c.fact 2 (f := x2) rfl) (c.fact 3 (f := x3) rfl) hcl, kitsT_ok (c.fact 2 (f := x2) rfl) hcl, ops_all (dnf_ok (ats := ats) (dns := dns) (m := 41) (c.fact 9 (f := x9) rfl) (by decide +kernel) (fun c d n h => h) ih), tx c hg (hf "super" (by decide)) (3 * r), xfa c, tabM_ok (glos := glos) (ats := ats) (m := 41) hg (c.fact 10 (f := x10) rfl) (by decide +kernel) ih, dnb_ok (ats := ats) (dns := dns) (m := 41) (c.fact 11 (f := x11) rfl) (by decide +kernel) (fun c d n h => h) ih⟩
theorem all {w : World} {K : PySem.W.Frag} {mg : Str → Option Value} {base : Heap} (c : SaysM fxs dfs K) (hg : ∀ x ∈ glos, mg x = some (.ref (ga K x))) (hf : ∀ x ∈ frs, mg x = none) : ∀ r n, n < 41 → FnR PR w K mg base (L2.CX PR w) (3 * r) (adOf K ats n) (spOf (gg K) (phiAt T P r) T n) :=
  fn_all fun r ih n hn => by
    obtain ⟨B, C, KF, KT, OPS, BX, XF, BM, BB⟩ := step c hg hf r ih
    match n, hn with
    | 0, _ => exact s0 c B C KF KT OPS BX XF BM BB
    | 1, _ => exact s1 c B C KF KT OPS BX XF BM BB
    | 2, _ => exact s2 c B C KF KT OPS BX XF BM BB
    | 3, _ => exact s3 c B C KF KT OPS BX XF BM BB
    | 4, _ => exact s4 c B C KF KT OPS BX XF BM BB
    | 5, _ => exact s5 c B C KF KT OPS BX XF BM BB
    | 6, _ => exact s6 c B C KF KT OPS BX XF BM BB
    | 7, _ => exact s7 c B C KF KT OPS BX XF BM BB
    | 8, _ => exact s8 c B C KF KT OPS BX XF BM BB
    | 9, _ => exact s9 c B C KF KT OPS BX XF BM BB
    | 10, _ => exact s10 c B C KF KT OPS BX XF BM BB
    | 11, _ => exact s11 c B C KF KT OPS BX XF BM BB
    | 12, _ => exact s12 c B C KF KT OPS BX XF BM BB
    | 13, _ => exact s13 c B C KF KT OPS BX XF BM BB
    | 14, _ => exact s14 c B C KF KT OPS BX XF BM BB
    | 15, _ => exact s15 c B C KF KT OPS BX XF BM BB
    | 16, _ => exact s16 c B C KF KT OPS BX XF BM BB
    | 17, _ => exact s17 c B C KF KT OPS BX XF BM BB
    | 18, _ => exact s18 c B C KF KT OPS BX XF BM BB
    | 19, _ => exact s19 c B C KF KT OPS BX XF BM BB
    | 20, _ => exact s20 c B C KF KT OPS BX XF BM BB
    | 21, _ => exact s21 c B C KF KT OPS BX XF BM BB
    | 22, _ => exact s22 c B C KF KT OPS BX XF BM BB
    | 23, _ => exact s23 c B C KF KT OPS BX XF BM BB
    | 24, _ => exact s24 c B C KF KT OPS BX XF BM BB
    | 25, _ => exact s25 c B C KF KT OPS BX XF BM BB
    | 26, _ => exact s26 c B C KF KT OPS BX XF BM BB
    | 27, _ => exact s27 c B C KF KT OPS BX XF BM BB
    | 28, _ => exact s28 c B C KF KT OPS BX XF BM BB
    | 29, _ => exact s29 c B C KF KT OPS BX XF BM BB
    | 30, _ => exact s30 c B C KF KT OPS BX XF BM BB
    | 31, _ => exact s31 c B C KF KT OPS BX XF BM BB
    | 32, _ => exact s32 c B C KF KT OPS BX XF BM BB
    | 33, _ => exact s33 c B C KF KT OPS BX XF BM BB
    | 34, _ => exact s34 c B C KF KT OPS BX XF BM BB
    | 35, _ => exact s35 c B C KF KT OPS BX XF BM BB
    | 36, _ => exact s36 c B C KF KT OPS BX XF BM BB
    | 37, _ => exact s37 c B C KF KT OPS BX XF BM BB
    | 38, _ => exact s38 c B C KF KT OPS BX XF BM BB
    | 39, _ => exact s39 c B C KF KT OPS BX XF BM BB
    | 40, _ => exact s40 c B C KF KT OPS BX XF BM BB
    | n + 41, h => exact absurd h (Nat.not_lt_of_le (Nat.le_add_left _ _))
theorem facts {w : World} {K : PySem.W.Frag} {h : Heap} {mg : Str → Option Value} {f : Addr} (X : K.In h) (G : h.Ns mainGlobals mg) (hfa : mg ("law" : Str) = some (.ref f)) (c : SaysM fxs dfs K) (r : Nat) :
    ∃ fd : FuncData, (∀ (s : Shared) (v : Value), BindsTo s fd ⟨[v], []⟩ [("_law_script", v)]) ∧ ∀ base : Heap, FnOk PR w K mg base (L2.CX PR w) (3 * r + 3) f fd ["_law_script"] (spP (gg K) (phiAt T P (r + 1)) .F 24) := by
  have hg := gloB_ok X G (c.fact 1 (f := x1) rfl)
  have hf := freeB_ok X G (c.fact 0 (f := x0) rfl)
  obtain ⟨fd, F⟩ := pl_ok (d := d24) (c.def_ 24 rfl) (c.fact 36 (f := x36) rfl)
  have e := hfa.symm.trans (hg "law" (by decide))
  cases e
  have b := FunD.bindsA (ps := ["_law_script"]) F fun _ _ _ _ _ _ us hl => match us, hl with | [_], _ => rfl
  refine ⟨fd, fun s v => b s [v] rfl, fun base => ?_⟩
  obtain ⟨B, C, KF, KT, OPS, BX, XF, BM, BB⟩ := step (w := w) (base := base) c hg hf r (all c hg hf r)
  exact fn_plain (T := T) (n := 24) (k := 3 * r + 2) (φ := phiAt T P r) (φ1 := phiAt T P (r + 1)) F sc24 (tyok (by decide +kernel)) rfl (fun ds => by show runF _ _ _ (ds ++ []) = _; rw [List.append_nil]) fun cdv A outer s H E hr => b24 B C KF KT OPS BX XF BM BB cdv A outer s H E hr

end G78
set_option Elab.async false
set_option linter.all false
set_option maxRecDepth 100000
set_option maxHeartbeats 4000000
namespace G78
open PySem L2 PySem.Spec PyProof.Rows He NdefX Ev
abbrev R : PySem.W.OpenRow := PySem.W.OpenLaw.row PySem.Challenge.rw_steprows_k78_exact_fractions
abbrev hk : PySem.W.Hook := hookM 12 fxs dfs
def ob (s : PySem.W.SharedT) : AlM := obsMG 12 fxs dfs (HandSHeadRun.getT s)
theorem ob_eq (s : PySem.W.SharedT) : ob s = hk.obs s.abs := obsMG_eq (HandSHeadRun.getT_eq s)
def others : List Str := [("StepError" : Str), ("BadNumber" : Str), ("BadTable" : Str), ("Ratio" : Str), ("plain_integer" : Str), ("ratios_divisor" : Str), ("ratios_lowest" : Str), ("ratio_pair" : Str), ("ratio_of" : Str), ("whole" : Str), ("_law_stream" : Str), ("_law_take" : Str), ("_law_int" : Str), ("_law_divisor" : Str), ("_law_low" : Str), ("_law_add" : Str), ("_law_minus" : Str), ("_law_times" : Str), ("_law_by" : Str), ("_law_pair" : Str), ("_law_whole" : Str), ("_law_drawn" : Str), ("_law_told" : Str), ("_law_power" : Str), ("_law_signs_good" : Str), ("_law_methods_good" : Str), ("_law_made_good" : Str), ("_law_whole_good" : Str)]
theorem run (w : World) : HandSHeadRun.RunEq R (PySem.W.view R.prog [31]) hk ob 6000 others w := by
  intro os
  kernel_rfl

end G78
set_option Elab.async false
set_option linter.all false
set_option maxRecDepth 100000
set_option maxHeartbeats 4000000
namespace G78
open PySem L2 PySem.Spec PyProof.Rows Ev
/-! k78, plain: the program's functions, one by one -/
def Sm (i : Int) : Prop := i.natAbs < 2 ^ 900
theorem Sm.big {i : Int} (h : Sm i) : i.natAbs < 2 ^ 1999 := Nat.lt_trans h (Nat.pow_lt_pow_right (by decide) (by decide))
theorem Sm.mul {i j : Int} (h : Sm i) (k : Sm j) : (i * j).natAbs < 2 ^ 1999 := by
  rw [Int.natAbs_mul]
  have h1 : i.natAbs * j.natAbs ≤ 2 ^ 900 * 2 ^ 900 := Nat.mul_le_mul (Nat.le_of_lt h) (Nat.le_of_lt k)
  rw [← Nat.pow_add] at h1
  exact Nat.lt_of_le_of_lt h1 (Nat.pow_lt_pow_right (by decide) (by decide))
theorem Sm.ok {i j : Int} (h : Sm i) (k : Sm j) : mulOk i j = true := by
  have h1 := log2_lt h (by decide)
  have h2 := log2_lt k (by decide)
  unfold mulOk
  simp only [decide_eq_true_eq]
  omega
theorem pi_int (r : Nat) (i : Int) : phiAt T P (r + 1) 0 [.int i] = .ok (.bl true) .non := rfl
theorem li_int (r : Nat) (i : Int) : phiAt T P (r + 1) 8 [.int i] = .ok (.bl true) .non := rfl
theorem dv_ok (r : Nat) (a b : Int) (h : b.natAbs < 2 ^ 1999) : phiAt T P (r + 1) 1 [.int a, .int b] = .ok (.int (a.gcd b : Nat)) .non := div_ok a b h
theorem ld_ok (r : Nat) (a b : Int) (h : b.natAbs < 2 ^ 1999) : phiAt T P (r + 1) 9 [.int a, .int b] = .ok (.int (a.gcd b : Nat)) .non := ldv_ok a b (Nat.lt_trans h (Nat.pow_lt_pow_right (by decide) (by decide)))
theorem lw_ok (r : Nat) (a b : Int) (hb : b ≠ 0) (h : b.natAbs < 2 ^ 1999) : phiAt T P (r + 2) 2 [.int a, .int b] = .ok (.tup [.int (lowT a b), .int (lowB a b)]) .non := low_ok hb h (dv_ok r a b h)
theorem ll_ok (r : Nat) (a b : Int) (hb : b ≠ 0) (h : b.natAbs < 2 ^ 1999) : phiAt T P (r + 2) 10 [.int a, .int b] = .ok (.tup [.int (lowT a b), .int (lowB a b)]) .non := llw_ok hb h (ld_ok r)
theorem pr_ins (r : Nat) (a b : Int) : phiAt T P (r + 2) 3 [.ins 0 [.int a, .int b]] = .ok (.tup [.int a, .int b]) .non := rfl
theorem pr_int (r : Nat) (a : Int) : phiAt T P (r + 2) 3 [.int a] = .ok (.tup [.int a, .int 1]) .non := rfl
theorem pr_non (r : Nat) : phiAt T P (r + 2) 3 [.non] = .ok .non .non := rfl
theorem pr_str (r : Nat) (s : Str) : phiAt T P (r + 2) 3 [.str s] = .ok .non .non := rfl
theorem ini_ok (r : Nat) (a b : Int) (hb : b ≠ 0) (h : b.natAbs < 2 ^ 1999) : phiAt T P (r + 3) 25 [.ins 0 [], .int a, .int b] = .ok .non (.ins 0 [.int (lowT a b), .int (lowB a b)]) := by
  have e : phiAt T P (r + 3) 25 [.ins 0 [], .int a, .int b] = runF (phiAt T P (r + 2)) P c25 [.ins 0 [], .int a, .int b] := rfl
  rw [e]
  have l := lw_ok r a b hb h
  have p1 := pi_int (r + 1) a
  have p2 := pi_int (r + 1) b
  have f0 : (P.cls 0).fd 0 = some 0 := rfl
  have f1 : (P.cls 0).fd 1 = some 1 := rfl
  have q : opCmp (phiAt T P (r + 2)) P .eq (.int b) (.int 0) = .ok (.bl false) := by
    simp [opCmp, eqI, hb]
  unfold runF
  rw [if_pos (show [D.ins 0 [], D.int a, D.int b].length = c25.ar from rfl)]
  show finL true 0 (evSs (phiAt T P (r + 2)) P c25.body [some (.ins 0 []), some (.int a), some (.int b)]) = _
  generalize phiAt T P (r + 2) = φ at *
  simp [c25, evSs, evS, ev, evs, RE.bind, RE.o, Ev.gt, p1, p2, l, q, RF.val, RV.re, tru, upd1, fldF, f0, f1, Ev.st, finL, isF]
theorem in1_ok (r : Nat) (a : Int) : phiAt T P (r + 3) 40 [.ins 0 [], .int a] = .ok .non (.ins 0 [.int (lowT a 1), .int (lowB a 1)]) := by
  have e : phiAt T P (r + 3) 40 [.ins 0 [], .int a] = phiAt T P (r + 3) 25 [.ins 0 [], .int a, .int 1] := rfl
  rw [e]
  exact ini_ok r a 1 (by decide) (by decide)
section
variable (r : Nat) (a b c d : Int) (y : D) (hp : phiAt T P (r + 3) 3 [y] = .ok (.tup [.int c, .int d]) .non) (ha : Sm a) (hb : Sm b) (hc : Sm c) (hd : Sm d) (b0 : b ≠ 0) (d0 : d ≠ 0)
include hp ha hb hc hd b0 d0
theorem add_ok : phiAt T P (r + 4) 27 [.ins 0 [.int a, .int b], y] = .ok (.ins 0 [.int (lowT (a * d + c * b) (b * d)), .int (lowB (a * d + c * b) (b * d))]) .non := by
  have i := ini_ok r (a * d + c * b) (b * d) (Int.mul_ne_zero b0 d0) (hb.mul hd)
  have f0 : (P.cls 0).fd 0 = some 0 := rfl
  have f1 : (P.cls 0).fd 1 = some 1 := rfl
  have m1 := ha.ok hd
  have m2 := hc.ok hb
  have m3 := hb.ok hd
  have s0 : opSub (.tup [.int c, .int d]) (.int 0) = .ok (.int c) := rfl
  have s1 : opSub (.tup [.int c, .int d]) (.int 1) = .ok (.int d) := rfl
  show runF (phiAt T P (r + 3)) P c27 [.ins 0 [.int a, .int b], y] = _
  unfold runF
  rw [if_pos (show [D.ins 0 [.int a, .int b], y].length = c27.ar from rfl)]
  show fin0 true (evSs (phiAt T P (r + 3)) P c27.body [some (.ins 0 [.int a, .int b]), some y, none]) = _
  generalize phiAt T P (r + 3) = φ at *
  simp [c27, evSs, evS, ev, evs, RE.bind, RE.o, Ev.gt, hp, i, s0, s1, RF.val, RV.re, tru, f0, f1, Ev.st, stT, Ev.stN, Ev.kill, opBin, binInt, m1, m2, m3, fin0]
theorem radd_ok : phiAt T P (r + 4) 28 [.ins 0 [.int a, .int b], y] = .ok (.ins 0 [.int (lowT (a * d + c * b) (b * d)), .int (lowB (a * d + c * b) (b * d))]) .non := by
  have i := ini_ok r (a * d + c * b) (b * d) (Int.mul_ne_zero b0 d0) (hb.mul hd)
  have f0 : (P.cls 0).fd 0 = some 0 := rfl
  have f1 : (P.cls 0).fd 1 = some 1 := rfl
  have m1 := ha.ok hd
  have m2 := hc.ok hb
  have m3 := hb.ok hd
  have s0 : opSub (.tup [.int c, .int d]) (.int 0) = .ok (.int c) := rfl
  have s1 : opSub (.tup [.int c, .int d]) (.int 1) = .ok (.int d) := rfl
  show runF (phiAt T P (r + 3)) P c28 [.ins 0 [.int a, .int b], y] = _
  unfold runF
  rw [if_pos (show [D.ins 0 [.int a, .int b], y].length = c28.ar from rfl)]
  show fin0 true (evSs (phiAt T P (r + 3)) P c28.body [some (.ins 0 [.int a, .int b]), some y, none]) = _
  generalize phiAt T P (r + 3) = φ at *
  simp [c28, evSs, evS, ev, evs, RE.bind, RE.o, Ev.gt, hp, i, s0, s1, RF.val, RV.re, tru, f0, f1, Ev.st, stT, Ev.stN, Ev.kill, opBin, binInt, m1, m2, m3, fin0]
theorem sub_ok : phiAt T P (r + 4) 29 [.ins 0 [.int a, .int b], y] = .ok (.ins 0 [.int (lowT (a * d - c * b) (b * d)), .int (lowB (a * d - c * b) (b * d))]) .non := by
  have i := ini_ok r (a * d - c * b) (b * d) (Int.mul_ne_zero b0 d0) (hb.mul hd)
  have f0 : (P.cls 0).fd 0 = some 0 := rfl
  have f1 : (P.cls 0).fd 1 = some 1 := rfl
  have m1 := ha.ok hd
  have m2 := hc.ok hb
  have m3 := hb.ok hd
  have s0 : opSub (.tup [.int c, .int d]) (.int 0) = .ok (.int c) := rfl
  have s1 : opSub (.tup [.int c, .int d]) (.int 1) = .ok (.int d) := rfl
  show runF (phiAt T P (r + 3)) P c29 [.ins 0 [.int a, .int b], y] = _
  unfold runF
  rw [if_pos (show [D.ins 0 [.int a, .int b], y].length = c29.ar from rfl)]
  show fin0 true (evSs (phiAt T P (r + 3)) P c29.body [some (.ins 0 [.int a, .int b]), some y, none]) = _
  generalize phiAt T P (r + 3) = φ at *
  simp [c29, evSs, evS, ev, evs, RE.bind, RE.o, Ev.gt, hp, i, s0, s1, RF.val, RV.re, tru, f0, f1, Ev.st, stT, Ev.stN, Ev.kill, opBin, binInt, m1, m2, m3, fin0]
theorem rsub_ok : phiAt T P (r + 4) 30 [.ins 0 [.int a, .int b], y] = .ok (.ins 0 [.int (lowT (c * b - a * d) (b * d)), .int (lowB (c * b - a * d) (b * d))]) .non := by
  have i := ini_ok r (c * b - a * d) (b * d) (Int.mul_ne_zero b0 d0) (hb.mul hd)
  have f0 : (P.cls 0).fd 0 = some 0 := rfl
  have f1 : (P.cls 0).fd 1 = some 1 := rfl
  have m1 := ha.ok hd
  have m2 := hc.ok hb
  have m3 := hb.ok hd
  have s0 : opSub (.tup [.int c, .int d]) (.int 0) = .ok (.int c) := rfl
  have s1 : opSub (.tup [.int c, .int d]) (.int 1) = .ok (.int d) := rfl
  show runF (phiAt T P (r + 3)) P c30 [.ins 0 [.int a, .int b], y] = _
  unfold runF
  rw [if_pos (show [D.ins 0 [.int a, .int b], y].length = c30.ar from rfl)]
  show fin0 true (evSs (phiAt T P (r + 3)) P c30.body [some (.ins 0 [.int a, .int b]), some y, none]) = _
  generalize phiAt T P (r + 3) = φ at *
  simp [c30, evSs, evS, ev, evs, RE.bind, RE.o, Ev.gt, hp, i, s0, s1, RF.val, RV.re, tru, f0, f1, Ev.st, stT, Ev.stN, Ev.kill, opBin, binInt, m1, m2, m3, fin0]
theorem mul_ok : phiAt T P (r + 4) 31 [.ins 0 [.int a, .int b], y] = .ok (.ins 0 [.int (lowT (a * c) (b * d)), .int (lowB (a * c) (b * d))]) .non := by
  have i := ini_ok r (a * c) (b * d) (Int.mul_ne_zero b0 d0) (hb.mul hd)
  have f0 : (P.cls 0).fd 0 = some 0 := rfl
  have f1 : (P.cls 0).fd 1 = some 1 := rfl
  have m1 := ha.ok hc
  have m2 := hb.ok hd
  have s0 : opSub (.tup [.int c, .int d]) (.int 0) = .ok (.int c) := rfl
  have s1 : opSub (.tup [.int c, .int d]) (.int 1) = .ok (.int d) := rfl
  show runF (phiAt T P (r + 3)) P c31 [.ins 0 [.int a, .int b], y] = _
  unfold runF
  rw [if_pos (show [D.ins 0 [.int a, .int b], y].length = c31.ar from rfl)]
  show fin0 true (evSs (phiAt T P (r + 3)) P c31.body [some (.ins 0 [.int a, .int b]), some y, none]) = _
  generalize phiAt T P (r + 3) = φ at *
  simp [c31, evSs, evS, ev, evs, RE.bind, RE.o, Ev.gt, hp, i, s0, s1, RF.val, RV.re, tru, f0, f1, Ev.st, stT, Ev.stN, Ev.kill, opBin, binInt, m1, m2, fin0]
theorem rmul_ok : phiAt T P (r + 4) 32 [.ins 0 [.int a, .int b], y] = .ok (.ins 0 [.int (lowT (a * c) (b * d)), .int (lowB (a * c) (b * d))]) .non := by
  have i := ini_ok r (a * c) (b * d) (Int.mul_ne_zero b0 d0) (hb.mul hd)
  have f0 : (P.cls 0).fd 0 = some 0 := rfl
  have f1 : (P.cls 0).fd 1 = some 1 := rfl
  have m1 := ha.ok hc
  have m2 := hb.ok hd
  have s0 : opSub (.tup [.int c, .int d]) (.int 0) = .ok (.int c) := rfl
  have s1 : opSub (.tup [.int c, .int d]) (.int 1) = .ok (.int d) := rfl
  show runF (phiAt T P (r + 3)) P c32 [.ins 0 [.int a, .int b], y] = _
  unfold runF
  rw [if_pos (show [D.ins 0 [.int a, .int b], y].length = c32.ar from rfl)]
  show fin0 true (evSs (phiAt T P (r + 3)) P c32.body [some (.ins 0 [.int a, .int b]), some y, none]) = _
  generalize phiAt T P (r + 3) = φ at *
  simp [c32, evSs, evS, ev, evs, RE.bind, RE.o, Ev.gt, hp, i, s0, s1, RF.val, RV.re, tru, f0, f1, Ev.st, stT, Ev.stN, Ev.kill, opBin, binInt, m1, m2, fin0]
end
section
variable (r : Nat) (a b c d : Int) (y : D)
theorem over_ok (hp : phiAt T P (r + 3) 3 [y] = .ok (.tup [.int c, .int d]) .non) (ha : Sm a) (hb : Sm b) (hc : Sm c) (hd : Sm d) (b0 : b ≠ 0) (hc0 : c ≠ 0) : phiAt T P (r + 4) 36 [.ins 0 [.int a, .int b], y] = .ok (.ins 0 [.int (lowT (a * d) (b * c)), .int (lowB (a * d) (b * c))]) .non := by
  have i := ini_ok r (a * d) (b * c) (Int.mul_ne_zero b0 hc0) (hb.mul hc)
  have hcb : (c == 0) = false := by simpa using hc0
  have f0 : (P.cls 0).fd 0 = some 0 := rfl
  have f1 : (P.cls 0).fd 1 = some 1 := rfl
  have m1 := ha.ok hd
  have m2 := hb.ok hc
  have s0 : opSub (.tup [.int c, .int d]) (.int 0) = .ok (.int c) := rfl
  have s1 : opSub (.tup [.int c, .int d]) (.int 1) = .ok (.int d) := rfl
  show runF (phiAt T P (r + 3)) P c36 [.ins 0 [.int a, .int b], y] = _
  unfold runF
  rw [if_pos (show [D.ins 0 [.int a, .int b], y].length = c36.ar from rfl)]
  show fin0 true (evSs (phiAt T P (r + 3)) P c36.body [some (.ins 0 [.int a, .int b]), some y, none]) = _
  generalize phiAt T P (r + 3) = φ at *
  simp [c36, evSs, evS, ev, evs, RE.bind, RE.o, Ev.gt, hp, i, s0, s1, RF.val, RV.re, tru, f0, f1, Ev.st, stT, Ev.stN, Ev.kill, opBin, binInt, m1, m2, fin0, opCmp, eqI, hcb]
theorem neg_ok (hb : b.natAbs < 2 ^ 1999) (b0 : b ≠ 0) : phiAt T P (r + 4) 33 [.ins 0 [.int a, .int b]] = .ok (.ins 0 [.int (lowT (-a) b), .int (lowB (-a) b)]) .non := by
  have i := ini_ok r (-a) b b0 hb
  have f0 : (P.cls 0).fd 0 = some 0 := rfl
  have f1 : (P.cls 0).fd 1 = some 1 := rfl
  show runF (phiAt T P (r + 3)) P c33 [.ins 0 [.int a, .int b]] = _
  unfold runF
  rw [if_pos (show [D.ins 0 [.int a, .int b]].length = c33.ar from rfl)]
  show fin0 true (evSs (phiAt T P (r + 3)) P c33.body [some (.ins 0 [.int a, .int b])]) = _
  generalize phiAt T P (r + 3) = φ at *
  simp [c33, evSs, evS, ev, evs, RE.bind, RE.o, Ev.gt, i, RF.val, RV.re, f0, f1, fin0]
theorem eq_ok (hp : phiAt T P (r + 3) 3 [y] = .ok (.tup [.int c, .int d]) .non) : phiAt T P (r + 4) 34 [.ins 0 [.int a, .int b], y] = .ok (.bl (a == c && b == d)) .non := by
  have f0 : (P.cls 0).fd 0 = some 0 := rfl
  have f1 : (P.cls 0).fd 1 = some 1 := rfl
  have s0 : opSub (.tup [.int c, .int d]) (.int 0) = .ok (.int c) := rfl
  have s1 : opSub (.tup [.int c, .int d]) (.int 1) = .ok (.int d) := rfl
  show runF (phiAt T P (r + 3)) P c34 [.ins 0 [.int a, .int b], y] = _
  unfold runF
  rw [if_pos (show [D.ins 0 [.int a, .int b], y].length = c34.ar from rfl)]
  show fin0 true (evSs (phiAt T P (r + 3)) P c34.body [some (.ins 0 [.int a, .int b]), some y, none]) = _
  generalize phiAt T P (r + 3) = φ at *
  by_cases h : a = c
  · simp [c34, evSs, evS, ev, evs, RE.bind, RE.o, Ev.gt, hp, s0, s1, RF.val, RV.re, tru, f0, f1, Ev.st, stT, Ev.stN, Ev.kill, opCmp, eqI, fin0, h]
  · have h' : (a == c) = false := by simpa using h
    simp [c34, evSs, evS, ev, evs, RE.bind, RE.o, Ev.gt, hp, s0, s1, RF.val, RV.re, tru, f0, f1, Ev.st, stT, Ev.stN, Ev.kill, opCmp, eqI, fin0, h']
theorem eqn_ok (hp : phiAt T P (r + 3) 3 [y] = .ok .non .non) : phiAt T P (r + 4) 34 [.ins 0 [.int a, .int b], y] = .ok (.bl false) .non := by
  show runF (phiAt T P (r + 3)) P c34 [.ins 0 [.int a, .int b], y] = _
  unfold runF
  rw [if_pos (show [D.ins 0 [.int a, .int b], y].length = c34.ar from rfl)]
  show fin0 true (evSs (phiAt T P (r + 3)) P c34.body [some (.ins 0 [.int a, .int b]), some y, none]) = _
  generalize phiAt T P (r + 3) = φ at *
  simp [c34, evSs, evS, ev, evs, RE.bind, RE.o, Ev.gt, hp, RF.val, RV.re, tru, Ev.st, stT, Ev.stN, Ev.kill, fin0]
theorem inv_ok (ha : a.natAbs < 2 ^ 1999) (a0 : a ≠ 0) : phiAt T P (r + 4) 37 [.ins 0 [.int a, .int b]] = .ok (.ins 0 [.int (lowT b a), .int (lowB b a)]) .non := by
  have h' : (a == 0) = false := by simpa using a0
  have i := ini_ok r b a a0 ha
  have f0 : (P.cls 0).fd 0 = some 0 := rfl
  have f1 : (P.cls 0).fd 1 = some 1 := rfl
  show runF (phiAt T P (r + 3)) P c37 [.ins 0 [.int a, .int b]] = _
  unfold runF
  rw [if_pos (show [D.ins 0 [.int a, .int b]].length = c37.ar from rfl)]
  show fin0 true (evSs (phiAt T P (r + 3)) P c37.body [some (.ins 0 [.int a, .int b])]) = _
  generalize phiAt T P (r + 3) = φ at *
  simp [c37, evSs, evS, ev, evs, RE.bind, RE.o, Ev.gt, i, RF.val, RV.re, f0, f1, fin0, opCmp, eqI, h', tru]
/-- the law's reading of a fraction: it is in lowest terms -/
theorem lp_ok (hb : b.natAbs < 2 ^ 1999) (b0 : 0 < b) (hg : a.gcd b = 1) : phiAt T P (r + 2) 15 [.ins 0 [.int a, .int b]] = .ok (.tup [.int a, .int b]) .non := by
  have l := ld_ok r a b hb
  rw [hg] at l
  have p1 := li_int r a
  have p2 := li_int r b
  have f0 : (P.cls 0).fd 0 = some 0 := rfl
  have f1 : (P.cls 0).fd 1 = some 1 := rfl
  have t0 : tagged P (.ins 0 [.int a, .int b]) = true := rfl
  have q1 : opCmp (phiAt T P (r + 1)) P .lt (.int b) (.int 1) = .ok (.bl false) := by
    simp [opCmp, ordI]
    omega
  have hz2 : (2 : Nat) ≤ sizeLine := by rw [sizeLine_eq]; decide
  show runF (phiAt T P (r + 1)) P c15 [.ins 0 [.int a, .int b]] = _
  unfold runF
  rw [if_pos (show [D.ins 0 [.int a, .int b]].length = c15.ar from rfl)]
  show fin0 true (evSs (phiAt T P (r + 1)) P c15.body [some (.ins 0 [.int a, .int b])]) = _
  have q2 : opCmp (phiAt T P (r + 1)) P .ne (.int 1) (.int 1) = .ok (.bl false) := by
    simp [opCmp, eqI]
  generalize phiAt T P (r + 1) = φ at *
  simp [c15, evSs, evS, ev, evs, RE.bind, RE.o, Ev.gt, l, p1, p2, q1, q2, t0, tyIs, RF.val, RV.re, f0, f1, fin0, tru, hz2]
end
section
variable (r : Nat) (a b c d : Int)
theorem la_ok (ha : Sm a) (hb : Sm b) (hc : Sm c) (hd : Sm d) (b0 : b ≠ 0) (d0 : d ≠ 0) : phiAt T P (r + 3) 11 [.tup [.int a, .int b], .tup [.int c, .int d]] = .ok (.tup [.int (lowT (a * d + c * b) (b * d)), .int (lowB (a * d + c * b) (b * d))]) .non := by
  have i := ll_ok r (a * d + c * b) (b * d) (Int.mul_ne_zero b0 d0) (hb.mul hd)
  have m1 := ha.ok hd
  have m2 := hc.ok hb
  have m3 := hb.ok hd
  have s0 : opSub (.tup [.int c, .int d]) (.int 0) = .ok (.int c) := rfl
  have s1 : opSub (.tup [.int c, .int d]) (.int 1) = .ok (.int d) := rfl
  have s2 : opSub (.tup [.int a, .int b]) (.int 0) = .ok (.int a) := rfl
  have s3 : opSub (.tup [.int a, .int b]) (.int 1) = .ok (.int b) := rfl
  show runF (phiAt T P (r + 2)) P c11 [.tup [.int a, .int b], .tup [.int c, .int d]] = _
  unfold runF
  rw [if_pos (show [D.tup [.int a, .int b], D.tup [.int c, .int d]].length = c11.ar from rfl)]
  show fin0 true (evSs (phiAt T P (r + 2)) P c11.body [some (.tup [.int a, .int b]), some (.tup [.int c, .int d])]) = _
  generalize phiAt T P (r + 2) = φ at *
  simp [c11, evSs, evS, ev, evs, RE.bind, RE.o, Ev.gt, i, s0, s1, s2, s3, RF.val, RV.re, opBin, binInt, m1, m2, m3, fin0]
theorem lm_ok (ha : Sm a) (hb : Sm b) (hc : Sm c) (hd : Sm d) (b0 : b ≠ 0) (d0 : d ≠ 0) : phiAt T P (r + 3) 12 [.tup [.int a, .int b], .tup [.int c, .int d]] = .ok (.tup [.int (lowT (a * d - c * b) (b * d)), .int (lowB (a * d - c * b) (b * d))]) .non := by
  have i := ll_ok r (a * d - c * b) (b * d) (Int.mul_ne_zero b0 d0) (hb.mul hd)
  have m1 := ha.ok hd
  have m2 := hc.ok hb
  have m3 := hb.ok hd
  have s0 : opSub (.tup [.int c, .int d]) (.int 0) = .ok (.int c) := rfl
  have s1 : opSub (.tup [.int c, .int d]) (.int 1) = .ok (.int d) := rfl
  have s2 : opSub (.tup [.int a, .int b]) (.int 0) = .ok (.int a) := rfl
  have s3 : opSub (.tup [.int a, .int b]) (.int 1) = .ok (.int b) := rfl
  show runF (phiAt T P (r + 2)) P c12 [.tup [.int a, .int b], .tup [.int c, .int d]] = _
  unfold runF
  rw [if_pos (show [D.tup [.int a, .int b], D.tup [.int c, .int d]].length = c12.ar from rfl)]
  show fin0 true (evSs (phiAt T P (r + 2)) P c12.body [some (.tup [.int a, .int b]), some (.tup [.int c, .int d])]) = _
  generalize phiAt T P (r + 2) = φ at *
  simp [c12, evSs, evS, ev, evs, RE.bind, RE.o, Ev.gt, i, s0, s1, s2, s3, RF.val, RV.re, opBin, binInt, m1, m2, m3, fin0]
theorem lt_ok (ha : Sm a) (hb : Sm b) (hc : Sm c) (hd : Sm d) (b0 : b ≠ 0) (d0 : d ≠ 0) : phiAt T P (r + 3) 13 [.tup [.int a, .int b], .tup [.int c, .int d]] = .ok (.tup [.int (lowT (a * c) (b * d)), .int (lowB (a * c) (b * d))]) .non := by
  have i := ll_ok r (a * c) (b * d) (Int.mul_ne_zero b0 d0) (hb.mul hd)
  have m1 := ha.ok hc
  have m2 := hb.ok hd
  have s0 : opSub (.tup [.int c, .int d]) (.int 0) = .ok (.int c) := rfl
  have s1 : opSub (.tup [.int c, .int d]) (.int 1) = .ok (.int d) := rfl
  have s2 : opSub (.tup [.int a, .int b]) (.int 0) = .ok (.int a) := rfl
  have s3 : opSub (.tup [.int a, .int b]) (.int 1) = .ok (.int b) := rfl
  show runF (phiAt T P (r + 2)) P c13 [.tup [.int a, .int b], .tup [.int c, .int d]] = _
  unfold runF
  rw [if_pos (show [D.tup [.int a, .int b], D.tup [.int c, .int d]].length = c13.ar from rfl)]
  show fin0 true (evSs (phiAt T P (r + 2)) P c13.body [some (.tup [.int a, .int b]), some (.tup [.int c, .int d])]) = _
  generalize phiAt T P (r + 2) = φ at *
  simp [c13, evSs, evS, ev, evs, RE.bind, RE.o, Ev.gt, i, s0, s1, s2, s3, RF.val, RV.re, opBin, binInt, m1, m2, fin0]
theorem lb_ok (ha : Sm a) (hb : Sm b) (hc : Sm c) (hd : Sm d) (b0 : b ≠ 0) (c0 : c ≠ 0) : phiAt T P (r + 3) 14 [.tup [.int a, .int b], .tup [.int c, .int d]] = .ok (.tup [.int (lowT (a * d) (b * c)), .int (lowB (a * d) (b * c))]) .non := by
  have i := ll_ok r (a * d) (b * c) (Int.mul_ne_zero b0 c0) (hb.mul hc)
  have m1 := ha.ok hd
  have m2 := hb.ok hc
  have s0 : opSub (.tup [.int c, .int d]) (.int 0) = .ok (.int c) := rfl
  have s1 : opSub (.tup [.int c, .int d]) (.int 1) = .ok (.int d) := rfl
  have s2 : opSub (.tup [.int a, .int b]) (.int 0) = .ok (.int a) := rfl
  have s3 : opSub (.tup [.int a, .int b]) (.int 1) = .ok (.int b) := rfl
  show runF (phiAt T P (r + 2)) P c14 [.tup [.int a, .int b], .tup [.int c, .int d]] = _
  unfold runF
  rw [if_pos (show [D.tup [.int a, .int b], D.tup [.int c, .int d]].length = c14.ar from rfl)]
  show fin0 true (evSs (phiAt T P (r + 2)) P c14.body [some (.tup [.int a, .int b]), some (.tup [.int c, .int d])]) = _
  generalize phiAt T P (r + 2) = φ at *
  simp [c14, evSs, evS, ev, evs, RE.bind, RE.o, Ev.gt, i, s0, s1, s2, s3, RF.val, RV.re, opBin, binInt, m1, m2, fin0]
end
end G78
set_option Elab.async false
set_option linter.all false
set_option maxRecDepth 100000
set_option maxHeartbeats 4000000
namespace G78
open PySem L2 PySem.Spec PyProof.Rows Ev
/-! k78, plain: sums, differences, products (the law's signs) -/
/-- a fraction as an object, as a pair, in lowest terms -/
abbrev fr (a b : Int) : D := .ins 0 [.int a, .int b]
abbrev tp (a b : Int) : D := .tup [.int a, .int b]
abbrev fl (x y : Int) : D := .ins 0 [.int (lowT x y), .int (lowB x y)]
abbrev tl (x y : Int) : D := .tup [.int (lowT x y), .int (lowB x y)]
def sg6 : Ss → Ss
  | .cons _ (.cons _ (.cons _ (.cons _ (.cons _ (.cons _ l))))) => l
  | _ => .nil
theorem cls_dn : (P.cls 0).dn .add = some 27 ∧ (P.cls 0).dn .radd = some 28 ∧ (P.cls 0).dn .sub = some 29 ∧ (P.cls 0).dn .rsub = some 30 ∧ (P.cls 0).dn .mul = some 31 ∧ (P.cls 0).dn .rmul = some 32 ∧ (P.cls 0).dn .neg = some 33 ∧ (P.cls 0).dn .eq = some 34 ∧ (P.cls 0).dn .bool = some 35 := ⟨rfl, rfl, rfl, rfl, rfl, rfl, rfl, rfl, rfl⟩
section
variable (r : Nat) (a b c d n : Int) (ha : Sm a) (hb : Sm b) (hc : Sm c) (hd : Sm d) (hn : Sm n) (b0 : b ≠ 0) (d0 : d ≠ 0)
include ha hb hc hd hn b0 d0
theorem sg_rows : evSs (phiAt T P (r + 5)) P c20.body [some (fr a b), some (tp a b), some (fr c d), some (tp c d), some (.int n), none, none, none, none] =
    evSs (phiAt T P (r + 5)) P (sg6 c20.body) [some (fr a b), some (tp a b), some (fr c d), some (tp c d), some (.int n), some (tp n 1),
      some (.lst [.tup [fl (a * d + c * b) (b * d), tl (a * d + c * b) (b * d)], .tup [fl (a * d - c * b) (b * d), tl (a * d - c * b) (b * d)], .tup [fl (a * c) (b * d), tl (a * c) (b * d)], .tup [fl (-a) b, tp (-a) b],
        .tup [fl (a * 1 + n * b) (b * 1), tl (a * 1 + n * b) (b * 1)], .tup [fl (a * 1 + n * b) (b * 1), tl (a * 1 + n * b) (b * 1)], .tup [fl (a * 1 - n * b) (b * 1), tl (a * 1 - n * b) (b * 1)], .tup [fl (n * b - a * 1) (b * 1), tl (n * b - a * 1) (1 * b)],
        .tup [fl (a * n) (b * 1), tl (a * n) (b * 1)], .tup [fl (a * n) (b * 1), tl (a * n) (b * 1)]]), none, none] := by
  have h1 : Sm 1 := Nat.one_lt_two_pow (by decide)
  have z1 : (1 : Int) ≠ 0 := by decide
  obtain ⟨k1, k2, k3, k4, k5, k6, k7, _, _⟩ := cls_dn
  have A1 : phiAt T P (r + 5) 27 [fr a b, fr c d] = _ := add_ok (r + 1) a b c d (fr c d) (pr_ins (r + 2) c d) ha hb hc hd b0 d0
  have A2 : phiAt T P (r + 5) 29 [fr a b, fr c d] = _ := sub_ok (r + 1) a b c d (fr c d) (pr_ins (r + 2) c d) ha hb hc hd b0 d0
  have A3 : phiAt T P (r + 5) 31 [fr a b, fr c d] = _ := mul_ok (r + 1) a b c d (fr c d) (pr_ins (r + 2) c d) ha hb hc hd b0 d0
  have A4 : phiAt T P (r + 5) 33 [fr a b] = _ := neg_ok (r + 1) a b hb.big b0
  have B1 : phiAt T P (r + 5) 27 [fr a b, .int n] = _ := add_ok (r + 1) a b n 1 (.int n) (pr_int (r + 2) n) ha hb hn h1 b0 z1
  have B2 : phiAt T P (r + 5) 28 [fr a b, .int n] = _ := radd_ok (r + 1) a b n 1 (.int n) (pr_int (r + 2) n) ha hb hn h1 b0 z1
  have B3 : phiAt T P (r + 5) 29 [fr a b, .int n] = _ := sub_ok (r + 1) a b n 1 (.int n) (pr_int (r + 2) n) ha hb hn h1 b0 z1
  have B4 : phiAt T P (r + 5) 30 [fr a b, .int n] = _ := rsub_ok (r + 1) a b n 1 (.int n) (pr_int (r + 2) n) ha hb hn h1 b0 z1
  have B5 : phiAt T P (r + 5) 31 [fr a b, .int n] = _ := mul_ok (r + 1) a b n 1 (.int n) (pr_int (r + 2) n) ha hb hn h1 b0 z1
  have B6 : phiAt T P (r + 5) 32 [fr a b, .int n] = _ := rmul_ok (r + 1) a b n 1 (.int n) (pr_int (r + 2) n) ha hb hn h1 b0 z1
  have L1 : phiAt T P (r + 5) 11 [tp a b, tp c d] = _ := la_ok (r + 2) a b c d ha hb hc hd b0 d0
  have L2 : phiAt T P (r + 5) 12 [tp a b, tp c d] = _ := lm_ok (r + 2) a b c d ha hb hc hd b0 d0
  have L3 : phiAt T P (r + 5) 13 [tp a b, tp c d] = _ := lt_ok (r + 2) a b c d ha hb hc hd b0 d0
  have M1 : phiAt T P (r + 5) 11 [tp a b, tp n 1] = _ := la_ok (r + 2) a b n 1 ha hb hn h1 b0 z1
  have M2 : phiAt T P (r + 5) 12 [tp a b, tp n 1] = _ := lm_ok (r + 2) a b n 1 ha hb hn h1 b0 z1
  have M3 : phiAt T P (r + 5) 13 [tp a b, tp n 1] = _ := lt_ok (r + 2) a b n 1 ha hb hn h1 b0 z1
  have M4 : phiAt T P (r + 5) 12 [tp n 1, tp a b] = _ := lm_ok (r + 2) n 1 a b hn h1 ha hb z1 b0
  have s0 : ∀ x y : Int, opSub (.tup [.int x, .int y]) (.int 0) = .ok (.int x) := fun _ _ => rfl
  have s1 : ∀ x y : Int, opSub (.tup [.int x, .int y]) (.int 1) = .ok (.int y) := fun _ _ => rfl
  generalize phiAt T P (r + 5) = φ at *
  simp only [fr, tp] at *
  simp [c20, sg6, evSs, evS, ev, evs, RE.bind, RE.o, Ev.gt, stT, Ev.stN, Ev.kill, Ev.st, List.foldl, opBin, own2, own2R, fwd, rev, k1, k2, k3, k4, k5, k6, k7, A1, A2, A3, A4, B1, B2, B3, B4, B5, B6, L1, L2, L3, M1, M2, M3, M4, RF.val, RV.re, s0, s1, sizeLine_eq, List.length, if_true, List.cons_append, List.nil_append, fl, tl, binInt]
end
theorem lowB_le (a b : Int) (hb : b ≠ 0) : (lowB a b).natAbs ≤ b.natAbs := by
  obtain ⟨k, l, h1, h2, h3, h4, h5⟩ := gcd_fac a b hb
  obtain ⟨_, e2⟩ := low_vals h3 h1 h2 rfl
  have e3 : (lowB a b).natAbs = l.natAbs := by
    rw [e2]
    by_cases z : b < 0
    · rw [if_pos z, Int.natAbs_neg]
    · rw [if_neg z]
  have e4 : b.natAbs = a.gcd b * l.natAbs := by
    have := congrArg Int.natAbs h2
    rw [Int.natAbs_mul, Int.natAbs_natCast] at this
    exact this
  rw [e3, e4]
  exact Nat.le_mul_of_pos_left _ h3
theorem low_id {a b : Int} (hb : 0 < b) (hg : a.gcd b = 1) : lowT a b = a ∧ lowB a b = b := by
  unfold lowT lowB
  rw [hg, if_neg (by omega), if_neg (by omega)]
  constructor
  · exact Int.ediv_one a
  · exact Int.ediv_one b
/-- a row of the law's list: a fraction and its pair -/
def RowOk (φ : Phi) (d : D) : Prop := ∃ p s t, d = .tup [p, .tup [.int s, .int t]] ∧ φ 15 [p] = .ok (.tup [.int s, .int t]) .non
theorem row_low (r : Nat) (x y : Int) (hy : y ≠ 0) (hs : y.natAbs < 2 ^ 1999) : RowOk (phiAt T P (r + 2)) (.tup [fl x y, tl x y]) := by
  obtain ⟨h1, h2, _⟩ := low_spec x y hy
  exact ⟨_, _, _, rfl, lp_ok r _ _ (Nat.lt_of_le_of_lt (lowB_le x y hy) hs) h1 h2⟩
theorem shT (x y : Int) : SeqAt.shaped (.tuple [.int x, .int y]) = true := rfl
theorem eqT (a b c d : Int) : eqD (.tup [.int a, .int b]) (.tup [.int c, .int d]) = some (a == c && b == d) := by
  simp only [eqD, toPy, toPyL, shT, Bool.and_self, if_true, PyData.eqv]
  simp [PyData.eqvAll, PyData.eqv]
def sgB : Ss := .cons (.iff (.cmp .ne (.call 15 (.cons (.sub (.v 7) (.int 0)) .nil)) (.sub (.v 7) (.int 1))) (.cons (.ret (.bl false)) .nil) .nil) .nil
theorem sg_loop (φ : Phi) (x0 x1 x2 x3 x4 x5 x6 : Option D) (x8 : Option D) (rows : List D) (h : ∀ d ∈ rows, RowOk φ d) (x7 : Option D) : ∃ x7', forRun (.name (7, [])) (evSs φ P sgB) rows [x0, x1, x2, x3, x4, x5, x6, x7, x8] = .nx [x0, x1, x2, x3, x4, x5, x6, x7', x8] := by
  obtain ⟨e', h1, x', h2⟩ := forRun_inv (tg := .name (7, [])) (body := evSs φ P sgB) (fun _ e => ∃ x, e = [x0, x1, x2, x3, x4, x5, x6, x, x8]) rows.length rows 0 [x0, x1, x2, x3, x4, x5, x6, x7, x8] (Nat.le_of_eq (Nat.zero_add _)) ⟨x7, rfl⟩ (fun k d e _ hd ⟨x, he⟩ => by
    subst he
    obtain ⟨p, s, t, rfl, hp⟩ := h d hd
    refine ⟨[x0, x1, x2, x3, x4, x5, x6, some (.tup [p, .tup [.int s, .int t]]), x8], rfl, [x0, x1, x2, x3, x4, x5, x6, some (.tup [p, .tup [.int s, .int t]]), x8], ?_, _, rfl⟩
    have s0 : opSub (.tup [p, .tup [.int s, .int t]]) (.int 0) = .ok p := rfl
    have s1 : opSub (.tup [p, .tup [.int s, .int t]]) (.int 1) = .ok (.tup [.int s, .int t]) := rfl
    simp [sgB, evSs, evS, ev, evs, RE.bind, RE.o, Ev.gt, s0, s1, hp, RF.val, RV.re, opCmp, eqT, tru])
  exact ⟨x', by rw [h1, h2]⟩
theorem shB (x : Bool) : SeqAt.shaped (.bool x) = true := rfl
theorem eqBl (p q : Bool) : eqD (.bl p) (.bl q) = some (p == q) := by
  simp only [eqD, toPy, shB, Bool.and_self, if_true, PyData.eqv]
/-- a row of the second list: two alike truths -/
def sgC : Ss := .cons (.iff (.or (.nt (.isi (.sub (.v 7) (.int 0)) [.bool])) (.cmp .ne (.sub (.v 7) (.int 0)) (.sub (.v 7) (.int 1)))) (.cons (.ret (.bl false)) .nil) .nil) .nil
theorem sg_loop2 (φ : Phi) (x0 x1 x2 x3 x4 x5 x6 : Option D) (x8 : Option D) (rows : List D) (h : ∀ d ∈ rows, ∃ p : Bool, d = .tup [.bl p, .bl p]) (x7 : Option D) : ∃ x7', forRun (.name (7, [])) (evSs φ P sgC) rows [x0, x1, x2, x3, x4, x5, x6, x7, x8] = .nx [x0, x1, x2, x3, x4, x5, x6, x7', x8] := by
  obtain ⟨e', h1, x', h2⟩ := forRun_inv (tg := .name (7, [])) (body := evSs φ P sgC) (fun _ e => ∃ x, e = [x0, x1, x2, x3, x4, x5, x6, x, x8]) rows.length rows 0 [x0, x1, x2, x3, x4, x5, x6, x7, x8] (Nat.le_of_eq (Nat.zero_add _)) ⟨x7, rfl⟩ (fun k d e _ hd ⟨x, he⟩ => by
    subst he
    obtain ⟨p, rfl⟩ := h d hd
    refine ⟨[x0, x1, x2, x3, x4, x5, x6, some (.tup [.bl p, .bl p]), x8], rfl, [x0, x1, x2, x3, x4, x5, x6, some (.tup [.bl p, .bl p]), x8], ?_, _, rfl⟩
    have s0 : opSub (.tup [.bl p, .bl p]) (.int 0) = .ok (.bl p) := rfl
    have s1 : opSub (.tup [.bl p, .bl p]) (.int 1) = .ok (.bl p) := rfl
    have t0 : tagged P (.bl p) = true := rfl
    simp [sgC, evSs, evS, ev, evs, RE.bind, RE.o, Ev.gt, s0, s1, t0, tyIs, RF.val, RV.re, opCmp, eqBl, tru])
  exact ⟨x', by rw [h1, h2]⟩
theorem pr_tup (r : Nat) (l : List D) : phiAt T P (r + 2) 3 [.tup l] = .ok .non .non := rfl
theorem bo_ok (r : Nat) (a b : Int) : phiAt T P (r + 1) 35 [fr a b] = .ok (.bl (a != 0)) .non := by
  have f0 : (P.cls 0).fd 0 = some 0 := rfl
  show runF (phiAt T P r) P c35 [.ins 0 [.int a, .int b]] = _
  unfold runF
  rw [if_pos (show [D.ins 0 [.int a, .int b]].length = c35.ar from rfl)]
  show fin0 true (evSs (phiAt T P r) P c35.body [some (.ins 0 [.int a, .int b])]) = _
  generalize phiAt T P r = φ at *
  simp [c35, evSs, evS, ev, evs, RE.bind, RE.o, Ev.gt, RV.re, f0, opCmp, eqI, opBi, fin0, bne]
theorem tx_ok {i : Int} (h : Sm i) : i.natAbs.log2 < 1920 ∧ (Str.ofString (toString i)).length ≤ 100000 := by
  have hi : i.natAbs.log2 < 1920 := Nat.lt_trans (log2_lt h (by decide)) (by decide)
  refine ⟨hi, ?_⟩
  have e := int_text_length_le (k := 1920) (by decide) hi
  rw [PySem.ofString_length]
  omega
theorem ok_of (s : String) : PyData.strOk (Str.ofString s) = true := by
  unfold PyData.strOk
  rw [PySem.Str.ofString_eq_toList]
  simp only [List.all_toArray, List.all_map, List.all_eq_true, Function.comp, decide_eq_true_eq]
  intro c _
  have h := c.valid
  rcases h with h | ⟨_, h⟩
  · exact Nat.lt_trans h (by decide)
  · exact h
theorem ok_app {x y : Str} (hx : PyData.strOk x = true) (hy : PyData.strOk y = true) : PyData.strOk (x ++ y) = true := by
  unfold PyData.strOk at *
  rw [PySem.Str.cps_append, Array.all_append, hx, hy]
  rfl
theorem eq_str {x : Str} (h : PyData.strOk x = true) : eqD (.str x) (.str x) = some true := by
  have sh : SeqAt.shaped (.str x) = true := by
    show (PyData.strOk x && decide (PyData.depth (.str x) ≤ 64)) = true
    rw [h]
    rfl
  simp only [eqD, toPy, sh, Bool.and_self, if_true, PyData.eqv]
  simp
def txt (a b : Int) : Str := if b = 1 then Str.ofString (toString a) else (Str.ofString (toString a) ++ ("/" : Str)) ++ Str.ofString (toString b)
theorem ok_txt (a b : Int) : PyData.strOk (txt a b) = true := by
  unfold txt
  by_cases z : b = 1
  · rw [if_pos z]; exact ok_of _
  · rw [if_neg z]; exact ok_app (ok_app (ok_of _) (ok_of _)) (ok_of _)
theorem told_ok (r : Nat) (a b : Int) (ha : Sm a) (hb : Sm b) : phiAt T P (r + 1) 39 [fr a b] = .ok (.str (txt a b)) .non := by
  obtain ⟨h1, h2⟩ := tx_ok ha
  obtain ⟨h3, h4⟩ := tx_ok hb
  have f0 : (P.cls 0).fd 0 = some 0 := rfl
  have f1 : (P.cls 0).fd 1 = some 1 := rfl
  have l1 : ("/" : Str).length ≤ 100 := Nat.le_of_ble_eq_true rfl
  have g1 : (Str.empty ++ Str.ofString (toString a)).length ≤ sizeLine := by rw [PySem.Str.empty_append, sizeLine_eq]; omega
  have g2 : (Str.ofString (toString a) ++ ("/" : Str)).length ≤ sizeLine := by rw [strLen_append, sizeLine_eq]; omega
  have g3 : ((Str.ofString (toString a) ++ ("/" : Str)) ++ Str.ofString (toString b)).length ≤ sizeLine := by rw [strLen_append, strLen_append, sizeLine_eq]; omega
  have m1 : fmtD (.int a) = some (Str.ofString (toString a)) := if_pos h1
  have m2 : fmtD (.int b) = some (Str.ofString (toString b)) := if_pos h3
  have m3 : opBi .str [.int a] = .ok (.str (Str.ofString (toString a))) := if_pos h1
  have ea : Str.empty ++ Str.ofString (toString a) = Str.ofString (toString a) := PySem.Str.empty_append _
  rw [ea] at g1
  show runF (phiAt T P r) P c39 [.ins 0 [.int a, .int b]] = _
  unfold runF
  rw [if_pos (show [D.ins 0 [.int a, .int b]].length = c39.ar from rfl)]
  show fin0 true (evSs (phiAt T P r) P c39.body [some (.ins 0 [.int a, .int b])]) = _
  generalize phiAt T P r = φ at *
  unfold txt
  generalize Str.ofString (toString a) = sa at *
  generalize Str.ofString (toString b) = sb at *
  by_cases z : b = 1
  · subst z
    rw [if_pos rfl]
    simp [c39, evSs, evS, ev, evs, evj, RE.bind, RE.o, Ev.gt, RV.re, f0, f1, opCmp, eqI, m3, fin0, tru]
  · rw [if_neg z]
    have z' : (b == 1) = false := by simpa using z
    simp [c39, evSs, evS, ev, evs, evj, RE.bind, RE.o, Ev.gt, RV.re, f0, f1, opCmp, eqI, m1, m2, ea, g1, g2, g3, fin0, tru, z']
def sgT : Ss → Ss
  | .cons _ l => l
  | _ => .nil
def sg7 (l : Ss) : Ss := sgT (sg6 l)
def sg8 (l : Ss) : Ss := sgT (sg7 l)
section
variable (r : Nat) (a b c d n : Int) (ha : Sm a) (hb : Sm b) (hc : Sm c) (hd : Sm d) (hn : Sm n) (b0 : 0 < b) (d0 : 0 < d) (hg : a.gcd b = 1) (hg2 : c.gcd d = 1)
include ha hb hc hd hn b0 d0 hg hg2
theorem sg_all : ∀ x ∈ ([.tup [fl (a * d + c * b) (b * d), tl (a * d + c * b) (b * d)], .tup [fl (a * d - c * b) (b * d), tl (a * d - c * b) (b * d)], .tup [fl (a * c) (b * d), tl (a * c) (b * d)], .tup [fl (-a) b, tp (-a) b],
        .tup [fl (a * 1 + n * b) (b * 1), tl (a * 1 + n * b) (b * 1)], .tup [fl (a * 1 + n * b) (b * 1), tl (a * 1 + n * b) (b * 1)], .tup [fl (a * 1 - n * b) (b * 1), tl (a * 1 - n * b) (b * 1)], .tup [fl (n * b - a * 1) (b * 1), tl (n * b - a * 1) (1 * b)],
        .tup [fl (a * n) (b * 1), tl (a * n) (b * 1)], .tup [fl (a * n) (b * 1), tl (a * n) (b * 1)]] : List D), RowOk (phiAt T P (r + 5)) x := by
  have h1 : Sm 1 := Nat.one_lt_two_pow (by decide)
  have n1 : b ≠ 0 := by omega
  have n2 : d ≠ 0 := by omega
  have z1 := Int.mul_ne_zero n1 n2
  have z2 : b * 1 ≠ 0 := by omega
  have g1 := hb.mul hd
  have g2 := hb.mul h1
  have e1 : (1 : Int) * b = b * 1 := by omega
  have row : ∀ x y : Int, y ≠ 0 → y.natAbs < 2 ^ 1999 → RowOk (phiAt T P (r + 5)) (.tup [fl x y, tl x y]) := fun x y h k => row_low (r + 3) x y h k
  have neg : RowOk (phiAt T P (r + 5)) (.tup [fl (-a) b, tp (-a) b]) := by
    have hgn : (-a).gcd b = 1 := by rw [Int.neg_gcd]; exact hg
    obtain ⟨q1, q2⟩ := low_id b0 hgn
    have w := row (-a) b n1 hb.big
    have e : (D.tup [fl (-a) b, tl (-a) b]) = .tup [fl (-a) b, tp (-a) b] := by
      show D.tup [_, .tup [.int (lowT (-a) b), .int (lowB (-a) b)]] = _
      rw [q1, q2]
    rw [e] at w
    exact w
  rw [e1]
  intro x hx
  simp only [List.mem_cons, List.not_mem_nil, or_false] at hx
  rcases hx with rfl | rfl | rfl | rfl | rfl | rfl | rfl | rfl | rfl | rfl
  · exact row _ _ z1 g1
  · exact row _ _ z1 g1
  · exact row _ _ z1 g1
  · exact neg
  · exact row _ _ z2 g2
  · exact row _ _ z2 g2
  · exact row _ _ z2 g2
  · exact row _ _ z2 g2
  · exact row _ _ z2 g2
  · exact row _ _ z2 g2
theorem sg_ok : phiAt T P (r + 6) 20 [fr a b, tp a b, fr c d, tp c d, .int n] = .ok (.bl true) .non := by
  have n1 : b ≠ 0 := by omega
  have n2 : d ≠ 0 := by omega
  have hall := sg_all r a b c d n ha hb hc hd hn b0 d0 hg hg2
  have hrows := sg_rows r a b c d n ha hb hc hd hn n1 n2
  obtain ⟨_, _, _, _, _, _, _, k8, k9⟩ := cls_dn
  have km : (P.cls 0).mt 4 = some 39 := rfl
  obtain ⟨w1, w2⟩ := low_id (a := n) (b := 1) (by decide) (by simp)
  have E1 : phiAt T P (r + 5) 34 [fr a b, fr c d] = _ := eq_ok (r + 1) a b c d (fr c d) (pr_ins (r + 2) c d)
  have E2 : phiAt T P (r + 5) 34 [fr a b, .int n] = _ := eq_ok (r + 1) a b n 1 (.int n) (pr_int (r + 2) n)
  have E3 : phiAt T P (r + 5) 34 [fr a b, fr n 1] = _ := eq_ok (r + 1) a b n 1 (fr n 1) (pr_ins (r + 2) n 1)
  have E4 : phiAt T P (r + 5) 34 [fr a b, .non] = _ := eqn_ok (r + 1) a b .non (pr_non (r + 2))
  have E5 : phiAt T P (r + 5) 34 [fr a b, tp a b] = _ := eqn_ok (r + 1) a b (tp a b) (pr_tup (r + 2) _)
  have E6 : phiAt T P (r + 5) 40 [.ins 0 [], .int n] = _ := in1_ok (r + 2) n
  rw [w1, w2] at E6
  have E7 : phiAt T P (r + 5) 35 [fr a b] = _ := bo_ok (r + 4) a b
  have E8 : phiAt T P (r + 5) 39 [fr a b] = _ := told_ok (r + 4) a b ha hb
  have s0 : ∀ x y : Int, opSub (.tup [.int x, .int y]) (.int 0) = .ok (.int x) := fun _ _ => rfl
  have s1 : ∀ x y : Int, opSub (.tup [.int x, .int y]) (.int 1) = .ok (.int y) := fun _ _ => rfl
  have e : phiAt T P (r + 6) 20 [fr a b, tp a b, fr c d, tp c d, .int n] = fin0 true (evSs (phiAt T P (r + 5)) P c20.body [some (fr a b), some (tp a b), some (fr c d), some (tp c d), some (.int n), none, none, none, none]) := rfl
  rw [e, hrows]
  clear hrows e
  generalize phiAt T P (r + 5) = φ at *
  generalize hl : ([.tup [fl (a * d + c * b) (b * d), tl (a * d + c * b) (b * d)], .tup [fl (a * d - c * b) (b * d), tl (a * d - c * b) (b * d)], .tup [fl (a * c) (b * d), tl (a * c) (b * d)], .tup [fl (-a) b, tp (-a) b],
        .tup [fl (a * 1 + n * b) (b * 1), tl (a * 1 + n * b) (b * 1)], .tup [fl (a * 1 + n * b) (b * 1), tl (a * 1 + n * b) (b * 1)], .tup [fl (a * 1 - n * b) (b * 1), tl (a * 1 - n * b) (b * 1)], .tup [fl (n * b - a * 1) (b * 1), tl (n * b - a * 1) (1 * b)],
        .tup [fl (a * n) (b * 1), tl (a * n) (b * 1)], .tup [fl (a * n) (b * 1), tl (a * n) (b * 1)]] : List D) = rows at *
  obtain ⟨x7, W1⟩ := sg_loop φ (some (fr a b)) (some (tp a b)) (some (fr c d)) (some (tp c d)) (some (.int n)) (some (tp n 1)) (some (.lst rows)) none rows hall none
  obtain ⟨x7', W2⟩ := sg_loop2 φ (some (fr a b)) (some (tp a b)) (some (fr c d)) (some (tp c d)) (some (.int n)) (some (tp n 1)) (some (.lst rows)) none
    [.tup [.bl (a == c && b == d), .bl (a == c && b == d)], .tup [.bl (a == n && b == 1), .bl (a == n && b == 1)], .tup [.bl (a == n && b == 1), .bl (a == n && b == 1)]] (fun d hd => by
      simp only [List.mem_cons, List.not_mem_nil, or_false] at hd
      rcases hd with rfl | rfl | rfl
      · exact ⟨_, rfl⟩
      · exact ⟨_, rfl⟩
      · exact ⟨_, rfl⟩) x7
  have g1 : evi φ P (.seq (.v 6)) [some (fr a b), some (tp a b), some (fr c d), some (tp c d), some (.int n), some (tp n 1), some (.lst rows), none, none] = .ok rows [some (fr a b), some (tp a b), some (fr c d), some (tp c d), some (.int n), some (tp n 1), some (.lst rows), none, none] := rfl
  have g2 : evi φ P (.seq (.lst (.cons (.tup (.cons (.cmp .eq (.v 0) (.v 2)) (.cons (.cmp .eq (.v 1) (.v 3)) .nil))) (.cons (.tup (.cons (.cmp .eq (.v 0) (.v 4)) (.cons (.cmp .eq (.v 1) (.v 5)) .nil))) (.cons (.tup (.cons (.cmp .eq (.v 0) (.new 0 40 (.cons (.v 4) .nil))) (.cons (.cmp .eq (.v 1) (.v 5)) .nil))) .nil))))) [some (fr a b), some (tp a b), some (fr c d), some (tp c d), some (.int n), some (tp n 1), some (.lst rows), x7, none] =
      .ok [.tup [.bl (a == c && b == d), .bl (a == c && b == d)], .tup [.bl (a == n && b == 1), .bl (a == n && b == 1)], .tup [.bl (a == n && b == 1), .bl (a == n && b == 1)]] [some (fr a b), some (tp a b), some (fr c d), some (tp c d), some (.int n), some (tp n 1), some (.lst rows), x7, none] := by
    simp only [fr, tp] at *
    simp [evi, ev, evs, RE.bind, Ev.gt, opCmp, ownE, k8, E1, E2, E3, E6, eqT, RF.val, RV.re, sizeLine_eq]
  have c1 : sg6 c20.body = .cons (.forr (.name (7, [])) (.seq (.v 6)) sgB) (sg7 c20.body) := rfl
  have c2 : sg7 c20.body = .cons (.forr (.name (7, [])) (.seq (.lst (.cons (.tup (.cons (.cmp .eq (.v 0) (.v 2)) (.cons (.cmp .eq (.v 1) (.v 3)) .nil))) (.cons (.tup (.cons (.cmp .eq (.v 0) (.v 4)) (.cons (.cmp .eq (.v 1) (.v 5)) .nil))) (.cons (.tup (.cons (.cmp .eq (.v 0) (.new 0 40 (.cons (.v 4) .nil))) (.cons (.cmp .eq (.v 1) (.v 5)) .nil))) .nil))))) sgC) (sg8 c20.body) := rfl
  rw [c1, forr_ok g1 W1, c2, forr_ok g2 W2]
  clear c1 c2 g1 g2 W1 W2 hall hl
  obtain ⟨t1, t2⟩ := tx_ok ha
  obtain ⟨t3, t4⟩ := tx_ok hb
  have l1 : ("/" : Str).length ≤ 100 := Nat.le_of_ble_eq_true rfl
  have q2 : (Str.ofString (toString a)).length + ("/" : Str).length ≤ sizeLine := by rw [sizeLine_eq]; omega
  have q3 : (Str.ofString (toString a) ++ ("/" : Str)).length + (Str.ofString (toString b)).length ≤ sizeLine := by rw [strLen_append, sizeLine_eq]; omega
  have m1 : opBi .str [.int a] = .ok (.str (Str.ofString (toString a))) := if_pos t1
  have m2 : opBi .str [.int b] = .ok (.str (Str.ofString (toString b))) := if_pos t3
  have es : eqD (.str (txt a b)) (.str (txt a b)) = some true := eq_str (ok_txt a b)
  unfold txt at es E8
  generalize Str.ofString (toString a) = sa at *
  generalize Str.ofString (toString b) = sb at *
  have eb : ∀ p : Bool, eqD (.bl p) (.bl p) = some true := fun p => by rw [eqBl]; simp
  simp only [fr, tp] at *
  by_cases z : b = 1
  · subst z
    rw [if_pos rfl] at es E8
    simp [sg8, sg7, sgT, sg6, c20, evSs, evS, ev, evs, RE.bind, RE.o, Ev.gt, stT, Ev.stN, Ev.kill, Ev.st, opCmp, ownE, k8, k9, km, E4, E5, E7, E8, eqI, eb, bne, ordI, s0, s1, m1, m2, RF.val, RV.re, tru, fin0, es]
  · rw [if_neg z] at es E8
    have zz : (1 : Int) < b := by omega
    simp [sg8, sg7, sgT, sg6, c20, evSs, evS, ev, evs, RE.bind, RE.o, Ev.gt, stT, Ev.stN, Ev.kill, Ev.st, opBin, opCmp, ownE, k8, k9, km, E4, E5, E7, E8, eqI, eb, bne, ordI, zz, s0, s1, m1, m2, q2, q3, RF.val, RV.re, tru, fin0, es]
end
end G78
set_option Elab.async false
set_option linter.all false
set_option maxRecDepth 100000
set_option maxHeartbeats 4000000
namespace G78
open PySem L2 PySem.Spec PyProof.Rows Ev
/-! k78, plain: the menu; what is made of it (finite, by the kernel) -/
def tops : List Int := [1, 0, -1, 2, -6, 12, 999999999999, -999999999999, 35, -4, 9, 100]
def bots : List Int := [1, -1, 2, -3, 4, 6, -12, 999999999989, 5, -7, 10, -999999999989]
def isTr : RF → Bool
  | .ok (.bl true) _ => true
  | _ => false
theorem isTr_ok {x : RF} (h : isTr x = true) : ∃ o, x = .ok (.bl true) o := by
  cases x with
  | ok d o =>
    cases d with
    | bl b => cases b with
      | true => exact ⟨o, rfl⟩
      | false => cases h
    | _ => cases h
  | _ => cases h
def mdB (t : Int) : Bool := bots.all fun b => isTr (phiAt T P 9 22 [.int t, .int b])
theorem md0 : mdB 1 = true := by kernel_rfl
theorem md1 : mdB 0 = true := by kernel_rfl
theorem md2 : mdB (-1) = true := by kernel_rfl
theorem md3 : mdB 2 = true := by kernel_rfl
theorem md4 : mdB (-6) = true := by kernel_rfl
theorem md5 : mdB 12 = true := by kernel_rfl
theorem md6 : mdB 999999999999 = true := by kernel_rfl
theorem md7 : mdB (-999999999999) = true := by kernel_rfl
theorem md8 : mdB 35 = true := by kernel_rfl
theorem md9 : mdB (-4) = true := by kernel_rfl
theorem md10 : mdB 9 = true := by kernel_rfl
theorem md11 : mdB 100 = true := by kernel_rfl
/-- the law's look at what is made of a top and a bottom of the menu -/
theorem made_ok (t b : Int) (ht : t ∈ tops) (hb : b ∈ bots) : ∃ o, phiAt T P 9 22 [.int t, .int b] = .ok (.bl true) o := by
  have key : ∀ t ∈ tops, mdB t = true := fun t ht => by
    simp only [tops, List.mem_cons, List.not_mem_nil, or_false] at ht
    rcases ht with rfl | rfl | rfl | rfl | rfl | rfl | rfl | rfl | rfl | rfl | rfl | rfl
    · exact md0
    · exact md1
    · exact md2
    · exact md3
    · exact md4
    · exact md5
    · exact md6
    · exact md7
    · exact md8
    · exact md9
    · exact md10
    · exact md11
  exact isTr_ok (List.all_eq_true.mp (key t ht) b hb)
end G78
set_option Elab.async false
set_option linter.all false
set_option maxRecDepth 100000
set_option maxHeartbeats 4000000
namespace G78
open PySem L2 PySem.Spec PyProof.Rows Ev
/-! k78, plain: powers -/
def Ms (i : Int) : Prop := i.natAbs < 2 ^ 45
theorem Ms.pow {i : Int} (h : Ms i) {k : Nat} (hk : k ≤ 40) : (i ^ k).natAbs < 2 ^ 1999 := by
  rw [Int.natAbs_pow]
  have h1 : i.natAbs ^ k ≤ (2 ^ 45) ^ k := Nat.pow_le_pow_left (Nat.le_of_lt h) k
  rw [← Nat.pow_mul] at h1
  have h2 : 45 * k < 1999 := by omega
  exact Nat.lt_of_le_of_lt h1 (Nat.pow_lt_pow_right (by decide) h2)
theorem Ms.sm {i : Int} (h : Ms i) : Sm i := Nat.lt_trans h (Nat.pow_lt_pow_right (by decide) (by decide))
theorem mulOk_big {i j : Int} (h : i.natAbs < 2 ^ 1999) (k : j.natAbs < 2 ^ 1999) : mulOk i j = true := by
  have h1 := log2_lt h (by decide)
  have h2 := log2_lt k (by decide)
  unfold mulOk
  simp only [decide_eq_true_eq]
  omega
section
variable (r : Nat) (a b n : Int) (ha : Ms a) (hb : Ms b) (hn : -40 ≤ n ∧ n ≤ 40)
def pwB : Ss := .cons (.par (3, []) (4, []) (.bin .mul (.v 3) (.fld (.v 0) 0)) (.bin .mul (.v 4) (.fld (.v 0) 1))) .nil
include ha hb hn
theorem pw_loop (φ : Phi) (x : Option D) : ∃ x', forRun (.name (2, [])) (evSs φ P pwB) (rgL 0 (n.natAbs : Int)) [some (fr a b), some (.int n), x, some (.int 1), some (.int 1)] = .nx [some (fr a b), some (.int n), x', some (.int (a ^ n.natAbs)), some (.int (b ^ n.natAbs))] := by
  have f0 : (P.cls 0).fd 0 = some 0 := rfl
  have f1 : (P.cls 0).fd 1 = some 1 := rfl
  have hl : (rgL 0 (n.natAbs : Int)).length = n.natAbs := by rw [rgL_len]; omega
  obtain ⟨e', h1, x', h2⟩ := forRun_inv (tg := .name (2, [])) (body := evSs φ P pwB) (fun k e => ∃ x, e = [some (fr a b), some (.int n), x, some (.int (a ^ k)), some (.int (b ^ k))]) n.natAbs (rgL 0 (n.natAbs : Int)) 0 [some (fr a b), some (.int n), x, some (.int 1), some (.int 1)]
    (by rw [hl]; omega) ⟨x, by simp⟩ (fun k d e hk _ ⟨y, he⟩ => by
      subst he
      have hk' : k ≤ 40 := by omega
      have m1 : mulOk (a ^ k) a = true := mulOk_big (ha.pow hk') ha.sm.big
      have m2 : mulOk (b ^ k) b = true := mulOk_big (hb.pow hk') hb.sm.big
      refine ⟨[some (fr a b), some (.int n), some d, some (.int (a ^ k)), some (.int (b ^ k))], rfl, [some (fr a b), some (.int n), some d, some (.int (a ^ (k + 1))), some (.int (b ^ (k + 1)))], ?_, _, rfl⟩
      simp [pwB, evSs, evS, ev, evs, RE.bind, RE.o, Ev.gt, RV.re, f0, f1, opBin, binInt, m1, m2, Ev.stN, Ev.kill, Ev.st, Int.pow_succ])
  rw [hl, Nat.zero_add] at h2
  exact ⟨x', by rw [h1, h2]⟩
theorem pw_ok (h0 : 0 ≤ n) (b0 : b ≠ 0) : phiAt T P (r + 4) 38 [fr a b, .int n] = .ok (fl (a ^ n.natAbs) (b ^ n.natAbs)) .non := by
  have hk : n.natAbs ≤ 40 := by omega
  have i := ini_ok r (a ^ n.natAbs) (b ^ n.natAbs) (Int.pow_ne_zero b0) (hb.pow hk)
  have p1 := pi_int (r + 2) n
  show runF (phiAt T P (r + 3)) P c38 [fr a b, .int n] = _
  unfold runF
  rw [if_pos (show [fr a b, .int n].length = c38.ar from rfl)]
  show fin0 true (evSs (phiAt T P (r + 3)) P c38.body [some (fr a b), some (.int n), none, none, none]) = _
  generalize phiAt T P (r + 3) = φ at *
  obtain ⟨x', w⟩ := pw_loop a b n ha hb hn φ none
  have f0 : (P.cls 0).fd 0 = some 0 := rfl
  have k2 : rgOk 0 (n.natAbs : Int) = true := by
    unfold rgOk
    simp
    omega
  have g : evi φ P (.rng1 (.bi .abs (.cons (.v 1) .nil))) [some (fr a b), some (.int n), none, some (.int 1), some (.int 1)] = .ok (rgL 0 (n.natAbs : Int)) [some (fr a b), some (.int n), none, some (.int 1), some (.int 1)] := by
    simp [evi, ev, evs, RE.bind, Ev.gt, abs_int, RV.re, k2]
  have c : ∃ rest, c38.body = .cons (.iff (.or (.nt (.call 0 (.cons (.v 1) .nil))) (.or (.cmp .lt (.v 1) (.neg (.int 40))) (.or (.cmp .gt (.v 1) (.int 40)) (.and (.cmp .lt (.v 1) (.int 0)) (.cmp .eq (.fld (.v 0) 0) (.int 0)))))) (.cons (.raise 2 (.cons (.str "number") .nil)) .nil) .nil) (.cons (.asg (.tup [(3, []), (4, [])]) (.tup (.cons (.int 1) (.cons (.int 1) .nil)))) (.cons (.forr (.name (2, [])) (.rng1 (.bi .abs (.cons (.v 1) .nil))) pwB) rest)) ∧ rest = .cons (.iff (.cmp .lt (.v 1) (.int 0)) (.cons (.ret (.new 0 25 (.cons (.v 4) (.cons (.v 3) .nil)))) .nil) .nil) (.cons (.ret (.new 0 25 (.cons (.v 3) (.cons (.v 4) .nil)))) .nil) := ⟨_, rfl, rfl⟩
  obtain ⟨rest, c, hr⟩ := c
  have v1 : ¬ n < -40 := by omega
  have v2 : ¬ 40 < n := by omega
  have v3 : ¬ n < 0 := by omega
  have A : evSs φ P c38.body [some (fr a b), some (.int n), none, none, none] = evSs φ P (.cons (.forr (.name (2, [])) (.rng1 (.bi .abs (.cons (.v 1) .nil))) pwB) rest) [some (fr a b), some (.int n), none, some (.int 1), some (.int 1)] := by
    rw [c]
    generalize Ss.cons (S.forr (.name (2, [])) (.rng1 (.bi .abs (.cons (.v 1) .nil))) pwB) rest = q
    simp [evSs, evS, ev, evs, RE.bind, RE.o, Ev.gt, p1, RF.val, RV.re, opCmp, ordI, v1, v2, v3, tru, stT, stNs, Ev.stN, Ev.kill, Ev.st, sizeLine_eq]
  rw [A, forr_ok g w, hr]
  simp [evSs, evS, ev, evs, RE.bind, RE.o, Ev.gt, RF.val, RV.re, opCmp, ordI, v3, tru, i, fin0]
theorem pw_neg (h0 : n < 0) (a0 : a ≠ 0) : phiAt T P (r + 4) 38 [fr a b, .int n] = .ok (fl (b ^ n.natAbs) (a ^ n.natAbs)) .non := by
  have hk : n.natAbs ≤ 40 := by omega
  have i := ini_ok r (b ^ n.natAbs) (a ^ n.natAbs) (Int.pow_ne_zero a0) (ha.pow hk)
  have p1 := pi_int (r + 2) n
  show runF (phiAt T P (r + 3)) P c38 [fr a b, .int n] = _
  unfold runF
  rw [if_pos (show [fr a b, .int n].length = c38.ar from rfl)]
  show fin0 true (evSs (phiAt T P (r + 3)) P c38.body [some (fr a b), some (.int n), none, none, none]) = _
  generalize phiAt T P (r + 3) = φ at *
  obtain ⟨x', w⟩ := pw_loop a b n ha hb hn φ none
  have f0 : (P.cls 0).fd 0 = some 0 := rfl
  have k2 : rgOk 0 (n.natAbs : Int) = true := by
    unfold rgOk
    simp
    omega
  have g : evi φ P (.rng1 (.bi .abs (.cons (.v 1) .nil))) [some (fr a b), some (.int n), none, some (.int 1), some (.int 1)] = .ok (rgL 0 (n.natAbs : Int)) [some (fr a b), some (.int n), none, some (.int 1), some (.int 1)] := by
    simp [evi, ev, evs, RE.bind, Ev.gt, abs_int, RV.re, k2]
  have c : ∃ rest, c38.body = .cons (.iff (.or (.nt (.call 0 (.cons (.v 1) .nil))) (.or (.cmp .lt (.v 1) (.neg (.int 40))) (.or (.cmp .gt (.v 1) (.int 40)) (.and (.cmp .lt (.v 1) (.int 0)) (.cmp .eq (.fld (.v 0) 0) (.int 0)))))) (.cons (.raise 2 (.cons (.str "number") .nil)) .nil) .nil) (.cons (.asg (.tup [(3, []), (4, [])]) (.tup (.cons (.int 1) (.cons (.int 1) .nil)))) (.cons (.forr (.name (2, [])) (.rng1 (.bi .abs (.cons (.v 1) .nil))) pwB) rest)) ∧ rest = .cons (.iff (.cmp .lt (.v 1) (.int 0)) (.cons (.ret (.new 0 25 (.cons (.v 4) (.cons (.v 3) .nil)))) .nil) .nil) (.cons (.ret (.new 0 25 (.cons (.v 3) (.cons (.v 4) .nil)))) .nil) := ⟨_, rfl, rfl⟩
  obtain ⟨rest, c, hr⟩ := c
  have v1 : ¬ n < -40 := by omega
  have v2 : ¬ 40 < n := by omega
  have v3 : n < 0 := h0
  have v4 : (a == 0) = false := by simpa using a0
  have A : evSs φ P c38.body [some (fr a b), some (.int n), none, none, none] = evSs φ P (.cons (.forr (.name (2, [])) (.rng1 (.bi .abs (.cons (.v 1) .nil))) pwB) rest) [some (fr a b), some (.int n), none, some (.int 1), some (.int 1)] := by
    rw [c]
    generalize Ss.cons (S.forr (.name (2, [])) (.rng1 (.bi .abs (.cons (.v 1) .nil))) pwB) rest = q
    simp [evSs, evS, ev, evs, RE.bind, RE.o, Ev.gt, p1, RF.val, RV.re, opCmp, ordI, v1, v2, v3, v4, f0, eqI, tru, stT, stNs, Ev.stN, Ev.kill, Ev.st, sizeLine_eq]
  rw [A, forr_ok g w, hr]
  simp [evSs, evS, ev, evs, RE.bind, RE.o, Ev.gt, RF.val, RV.re, opCmp, ordI, v3, tru, i, fin0]
end
theorem pw_bad (r : Nat) (a b n : Int) (h : n < -40 ∨ 40 < n ∨ (n < 0 ∧ a = 0)) : phiAt T P (r + 4) 38 [fr a b, .int n] = .err ⟨2, [.str "number"]⟩ := by
  have p1 := pi_int (r + 2) n
  have xo : P.xok 2 [.str "number"] = true := rfl
  have f0 : (P.cls 0).fd 0 = some 0 := rfl
  show runF (phiAt T P (r + 3)) P c38 [fr a b, .int n] = _
  unfold runF
  rw [if_pos (show [fr a b, .int n].length = c38.ar from rfl)]
  show fin0 true (evSs (phiAt T P (r + 3)) P c38.body [some (fr a b), some (.int n), none, none, none]) = _
  generalize phiAt T P (r + 3) = φ at *
  by_cases v1 : n < -40
  · simp [c38, evSs, evS, ev, evs, RE.bind, RE.o, Ev.gt, p1, RF.val, RV.re, opCmp, ordI, v1, tru, xo, fin0]
  · by_cases v2 : 40 < n
    · simp [c38, evSs, evS, ev, evs, RE.bind, RE.o, Ev.gt, p1, RF.val, RV.re, opCmp, ordI, v1, v2, tru, xo, fin0]
    · have v3 : n < 0 ∧ a = 0 := by omega
      have v4 : (a == 0) = true := by simpa using v3.2
      simp [c38, evSs, evS, ev, evs, RE.bind, RE.o, Ev.gt, p1, RF.val, RV.re, opCmp, ordI, v1, v2, v3.1, v4, f0, eqI, tru, xo, fin0]
theorem pw_thing (r : Nat) (a b : Int) (y : D) (h : phiAt T P (r + 3) 0 [y] = .ok (.bl false) .non) : phiAt T P (r + 4) 38 [fr a b, y] = .err ⟨2, [.str "number"]⟩ := by
  have xo : P.xok 2 [.str "number"] = true := rfl
  show runF (phiAt T P (r + 3)) P c38 [fr a b, y] = _
  unfold runF
  rw [if_pos (show [fr a b, y].length = c38.ar from rfl)]
  show fin0 true (evSs (phiAt T P (r + 3)) P c38.body [some (fr a b), some y, none, none, none]) = _
  generalize phiAt T P (r + 3) = φ at *
  simp [c38, evSs, evS, ev, evs, RE.bind, RE.o, Ev.gt, h, RF.val, RV.re, tru, xo, fin0]
/-! ### the doors -/
theorem d4_ok (r : Nat) (a b : Int) (y : D) (p q : Int) (h : phiAt T P (r + 4) 38 [fr a b, y] = .ok (fr p q) .non) (hq : q.natAbs < 2 ^ 1999) (q0 : 0 < q) (hg : p.gcd q = 1) : phiAt T P (r + 5) 18 [.tup [fr a b, y], .int 4] = .ok (.tup [.str "made", tp p q]) .non := by
  have l : phiAt T P (r + 4) 15 [fr p q] = _ := lp_ok (r + 2) p q hq q0 hg
  have km : (P.cls 0).mt 3 = some 38 := rfl
  have s0 : opSub (.tup [fr a b, y]) (.int 0) = .ok (fr a b) := rfl
  have s1 : opSub (.tup [fr a b, y]) (.int 1) = .ok y := rfl
  show runF (phiAt T P (r + 4)) P c18 [.tup [fr a b, y], .int 4] = _
  unfold runF
  rw [if_pos (show [D.tup [fr a b, y], D.int 4].length = c18.ar from rfl)]
  show fin0 true (evSs (phiAt T P (r + 4)) P c18.body [some (.tup [fr a b, y]), some (.int 4), none, none, none]) = _
  generalize phiAt T P (r + 4) = φ at *
  simp only [fr, tp] at *
  simp [c18, evSs, evS, ev, evs, RE.bind, RE.o, Ev.gt, s0, s1, km, h, l, RF.val, RV.re, opCmp, eqI, tru, stT, Ev.stN, Ev.kill, Ev.st, fin0, sizeLine_eq]
theorem d4_err (r : Nat) (a b : Int) (y : D) (h : phiAt T P (r + 4) 38 [fr a b, y] = .err ⟨2, [.str "number"]⟩) : phiAt T P (r + 5) 18 [.tup [fr a b, y], .int 4] = .ok (.tup [.str "number", .str "number", .bl false]) .non := by
  have km : (P.cls 0).mt 3 = some 38 := rfl
  have s0 : opSub (.tup [fr a b, y]) (.int 0) = .ok (fr a b) := rfl
  have s1 : opSub (.tup [fr a b, y]) (.int 1) = .ok y := rfl
  have i1 : P.isx 2 = true := rfl
  have i2 : P.isx 3 = true := rfl
  have i3 : P.below 2 2 = true := rfl
  have i4 : P.below 2 3 = false := rfl
  have i5 : P.xfd 2 2 = some 0 := rfl
  show runF (phiAt T P (r + 4)) P c18 [.tup [fr a b, y], .int 4] = _
  unfold runF
  rw [if_pos (show [D.tup [fr a b, y], D.int 4].length = c18.ar from rfl)]
  show fin0 true (evSs (phiAt T P (r + 4)) P c18.body [some (.tup [fr a b, y]), some (.int 4), none, none, none]) = _
  generalize phiAt T P (r + 4) = φ at *
  simp only [fr, tp] at *
  simp [c18, evSs, evS, evH, bindX, noErr, ev, evs, RE.bind, RE.o, Ev.gt, s0, s1, km, h, i1, i2, i3, i4, i5, RF.val, RV.re, opCmp, eqI, tru, stT, Ev.stN, Ev.kill, Ev.st, fin0, sizeLine_eq]
end G78
set_option Elab.async false
set_option linter.all false
set_option maxRecDepth 100000
set_option maxHeartbeats 4000000
namespace G78
open PySem L2 PySem.Spec PyProof.Rows Ev
/-! k78, plain: the other doors -/
theorem d2_ok (r : Nat) (a b : Int) (y : D) (p q : Int) (h : phiAt T P (r + 4) 36 [fr a b, y] = .ok (fr p q) .non) (hq : q.natAbs < 2 ^ 1999) (q0 : 0 < q) (hg : p.gcd q = 1) : phiAt T P (r + 5) 18 [.tup [fr a b, y], .int 2] = .ok (.tup [.str "made", tp p q]) .non := by
  have l : phiAt T P (r + 4) 15 [fr p q] = _ := lp_ok (r + 2) p q hq q0 hg
  have s0 : opSub (.tup [fr a b, y]) (.int 0) = .ok (fr a b) := rfl
  have s1 : opSub (.tup [fr a b, y]) (.int 1) = .ok y := rfl
  have km : (P.cls 0).mt 1 = some 36 := rfl
  show runF (phiAt T P (r + 4)) P c18 [.tup [fr a b, y], .int 2] = _
  unfold runF
  rw [if_pos (show [D.tup [fr a b, y], D.int 2].length = c18.ar from rfl)]
  show fin0 true (evSs (phiAt T P (r + 4)) P c18.body [some (.tup [fr a b, y]), some (.int 2), none, none, none]) = _
  generalize phiAt T P (r + 4) = φ at *
  try simp only [fr, tp] at *
  simp [c18, evSs, evS, ev, evs, RE.bind, RE.o, Ev.gt, s0, s1, km, h, l, RF.val, RV.re, opCmp, eqI, tru, stT, Ev.stN, Ev.kill, Ev.st, fin0, sizeLine_eq]
theorem d2_err (r : Nat) (a b : Int) (y : D) (h : phiAt T P (r + 4) 36 [fr a b, y] = .err ⟨2, [.str "other"]⟩) : phiAt T P (r + 5) 18 [.tup [fr a b, y], .int 2] = .ok (.tup [.str "number", .str "other", .bl false]) .non := by
  have s0 : opSub (.tup [fr a b, y]) (.int 0) = .ok (fr a b) := rfl
  have s1 : opSub (.tup [fr a b, y]) (.int 1) = .ok y := rfl
  have km : (P.cls 0).mt 1 = some 36 := rfl
  have i1 : P.isx 2 = true := rfl
  have i2 : P.isx 3 = true := rfl
  have i3 : P.below 2 2 = true := rfl
  have i4 : P.below 2 3 = false := rfl
  have i5 : P.xfd 2 2 = some 0 := rfl
  show runF (phiAt T P (r + 4)) P c18 [.tup [fr a b, y], .int 2] = _
  unfold runF
  rw [if_pos (show [D.tup [fr a b, y], D.int 2].length = c18.ar from rfl)]
  show fin0 true (evSs (phiAt T P (r + 4)) P c18.body [some (.tup [fr a b, y]), some (.int 2), none, none, none]) = _
  generalize phiAt T P (r + 4) = φ at *
  try simp only [fr, tp] at *
  simp [c18, evSs, evS, evH, bindX, noErr, ev, evs, RE.bind, RE.o, Ev.gt, s0, s1, km, h, i1, i2, i3, i4, i5, RF.val, RV.re, opCmp, eqI, tru, stT, Ev.stN, Ev.kill, Ev.st, fin0, sizeLine_eq]
theorem d3_ok (r : Nat) (a b : Int) (y : D) (p q : Int) (h : phiAt T P (r + 4) 37 [fr a b] = .ok (fr p q) .non) (hq : q.natAbs < 2 ^ 1999) (q0 : 0 < q) (hg : p.gcd q = 1) : phiAt T P (r + 5) 18 [.tup [fr a b, y], .int 3] = .ok (.tup [.str "made", tp p q]) .non := by
  have l : phiAt T P (r + 4) 15 [fr p q] = _ := lp_ok (r + 2) p q hq q0 hg
  have s0 : opSub (.tup [fr a b, y]) (.int 0) = .ok (fr a b) := rfl
  have s1 : opSub (.tup [fr a b, y]) (.int 1) = .ok y := rfl
  have km : (P.cls 0).mt 2 = some 37 := rfl
  show runF (phiAt T P (r + 4)) P c18 [.tup [fr a b, y], .int 3] = _
  unfold runF
  rw [if_pos (show [D.tup [fr a b, y], D.int 3].length = c18.ar from rfl)]
  show fin0 true (evSs (phiAt T P (r + 4)) P c18.body [some (.tup [fr a b, y]), some (.int 3), none, none, none]) = _
  generalize phiAt T P (r + 4) = φ at *
  try simp only [fr, tp] at *
  simp [c18, evSs, evS, ev, evs, RE.bind, RE.o, Ev.gt, s0, s1, km, h, l, RF.val, RV.re, opCmp, eqI, tru, stT, Ev.stN, Ev.kill, Ev.st, fin0, sizeLine_eq]
theorem d3_err (r : Nat) (a b : Int) (y : D) (h : phiAt T P (r + 4) 37 [fr a b] = .err ⟨2, [.str "top"]⟩) : phiAt T P (r + 5) 18 [.tup [fr a b, y], .int 3] = .ok (.tup [.str "number", .str "top", .bl false]) .non := by
  have s0 : opSub (.tup [fr a b, y]) (.int 0) = .ok (fr a b) := rfl
  have s1 : opSub (.tup [fr a b, y]) (.int 1) = .ok y := rfl
  have km : (P.cls 0).mt 2 = some 37 := rfl
  have i1 : P.isx 2 = true := rfl
  have i2 : P.isx 3 = true := rfl
  have i3 : P.below 2 2 = true := rfl
  have i4 : P.below 2 3 = false := rfl
  have i5 : P.xfd 2 2 = some 0 := rfl
  show runF (phiAt T P (r + 4)) P c18 [.tup [fr a b, y], .int 3] = _
  unfold runF
  rw [if_pos (show [D.tup [fr a b, y], D.int 3].length = c18.ar from rfl)]
  show fin0 true (evSs (phiAt T P (r + 4)) P c18.body [some (.tup [fr a b, y]), some (.int 3), none, none, none]) = _
  generalize phiAt T P (r + 4) = φ at *
  try simp only [fr, tp] at *
  simp [c18, evSs, evS, evH, bindX, noErr, ev, evs, RE.bind, RE.o, Ev.gt, s0, s1, km, h, i1, i2, i3, i4, i5, RF.val, RV.re, opCmp, eqI, tru, stT, Ev.stN, Ev.kill, Ev.st, fin0, sizeLine_eq]
theorem d5_ok (r : Nat) (a b : Int) (y : D) (p q : Int) (h : phiAt T P (r + 4) 4 [y] = .ok (fr p q) .non) (hq : q.natAbs < 2 ^ 1999) (q0 : 0 < q) (hg : p.gcd q = 1) : phiAt T P (r + 5) 18 [.tup [y], .int 5] = .ok (.tup [.str "made", tp p q]) .non := by
  have l : phiAt T P (r + 4) 15 [fr p q] = _ := lp_ok (r + 2) p q hq q0 hg
  have s0 : opSub (.tup [y]) (.int 0) = .ok y := rfl
  show runF (phiAt T P (r + 4)) P c18 [.tup [y], .int 5] = _
  unfold runF
  rw [if_pos (show [D.tup [y], D.int 5].length = c18.ar from rfl)]
  show fin0 true (evSs (phiAt T P (r + 4)) P c18.body [some (.tup [y]), some (.int 5), none, none, none]) = _
  generalize phiAt T P (r + 4) = φ at *
  try simp only [fr, tp] at *
  simp [c18, evSs, evS, ev, evs, RE.bind, RE.o, Ev.gt, s0, h, l, RF.val, RV.re, opCmp, eqI, tru, stT, Ev.stN, Ev.kill, Ev.st, fin0, sizeLine_eq]
theorem d5_err (r : Nat) (a b : Int) (y : D) (h : phiAt T P (r + 4) 4 [y] = .err ⟨2, [.str "thing"]⟩) : phiAt T P (r + 5) 18 [.tup [y], .int 5] = .ok (.tup [.str "number", .str "thing", .bl false]) .non := by
  have s0 : opSub (.tup [y]) (.int 0) = .ok y := rfl
  have i1 : P.isx 2 = true := rfl
  have i2 : P.isx 3 = true := rfl
  have i3 : P.below 2 2 = true := rfl
  have i4 : P.below 2 3 = false := rfl
  have i5 : P.xfd 2 2 = some 0 := rfl
  show runF (phiAt T P (r + 4)) P c18 [.tup [y], .int 5] = _
  unfold runF
  rw [if_pos (show [D.tup [y], D.int 5].length = c18.ar from rfl)]
  show fin0 true (evSs (phiAt T P (r + 4)) P c18.body [some (.tup [y]), some (.int 5), none, none, none]) = _
  generalize phiAt T P (r + 4) = φ at *
  try simp only [fr, tp] at *
  simp [c18, evSs, evS, evH, bindX, noErr, ev, evs, RE.bind, RE.o, Ev.gt, s0, h, i1, i2, i3, i4, i5, RF.val, RV.re, opCmp, eqI, tru, stT, Ev.stN, Ev.kill, Ev.st, fin0, sizeLine_eq]
theorem over_err (r : Nat) (a b : Int) (y : D) (h : phiAt T P (r + 3) 3 [y] = .ok .non .non) : phiAt T P (r + 4) 36 [fr a b, y] = .err ⟨2, [.str "other"]⟩ := by
  have xo : P.xok 2 [.str "other"] = true := rfl
  show runF (phiAt T P (r + 3)) P c36 [fr a b, y] = _
  unfold runF
  rw [if_pos (show [fr a b, y].length = c36.ar from rfl)]
  show fin0 true (evSs (phiAt T P (r + 3)) P c36.body [some (fr a b), some y, none]) = _
  generalize phiAt T P (r + 3) = φ at *
  simp [c36, evSs, evS, ev, evs, RE.bind, RE.o, Ev.gt, h, RF.val, RV.re, stT, Ev.stN, Ev.kill, Ev.st, tru, xo, fin0]
theorem over_zero (r : Nat) (a b d : Int) (y : D) (h : phiAt T P (r + 3) 3 [y] = .ok (.tup [.int 0, .int d]) .non) : phiAt T P (r + 4) 36 [fr a b, y] = .err ⟨2, [.str "other"]⟩ := by
  have xo : P.xok 2 [.str "other"] = true := rfl
  have s0 : opSub (.tup [.int 0, .int d]) (.int 0) = .ok (.int 0) := rfl
  show runF (phiAt T P (r + 3)) P c36 [fr a b, y] = _
  unfold runF
  rw [if_pos (show [fr a b, y].length = c36.ar from rfl)]
  show fin0 true (evSs (phiAt T P (r + 3)) P c36.body [some (fr a b), some y, none]) = _
  generalize phiAt T P (r + 3) = φ at *
  simp [c36, evSs, evS, ev, evs, RE.bind, RE.o, Ev.gt, h, s0, RF.val, RV.re, stT, Ev.stN, Ev.kill, Ev.st, opCmp, eqI, tru, xo, fin0]
theorem inv_err (r : Nat) (b : Int) : phiAt T P (r + 4) 37 [fr 0 b] = .err ⟨2, [.str "top"]⟩ := by
  have xo : P.xok 2 [.str "top"] = true := rfl
  have f0 : (P.cls 0).fd 0 = some 0 := rfl
  show runF (phiAt T P (r + 3)) P c37 [fr 0 b] = _
  unfold runF
  rw [if_pos (show [fr 0 b].length = c37.ar from rfl)]
  show fin0 true (evSs (phiAt T P (r + 3)) P c37.body [some (fr 0 b)]) = _
  generalize phiAt T P (r + 3) = φ at *
  simp [c37, evSs, evS, ev, evs, RE.bind, RE.o, Ev.gt, f0, RV.re, opCmp, eqI, tru, xo, fin0]
theorem of_ok (r : Nat) (p q : Int) (y : D) (h : phiAt T P (r + 3) 3 [y] = .ok (.tup [.int p, .int q]) .non) (q0 : q ≠ 0) (hq : q.natAbs < 2 ^ 1999) : phiAt T P (r + 4) 4 [y] = .ok (fl p q) .non := by
  have i := ini_ok r p q q0 hq
  have s0 : opSub (.tup [.int p, .int q]) (.int 0) = .ok (.int p) := rfl
  have s1 : opSub (.tup [.int p, .int q]) (.int 1) = .ok (.int q) := rfl
  show runF (phiAt T P (r + 3)) P c4 [y] = _
  unfold runF
  rw [if_pos (show [y].length = c4.ar from rfl)]
  show fin0 true (evSs (phiAt T P (r + 3)) P c4.body [some y, none]) = _
  generalize phiAt T P (r + 3) = φ at *
  simp [c4, evSs, evS, ev, evs, RE.bind, RE.o, Ev.gt, h, i, s0, s1, RF.val, RV.re, stT, Ev.stN, Ev.kill, Ev.st, tru, fin0]
theorem of_err (r : Nat) (y : D) (h : phiAt T P (r + 3) 3 [y] = .ok .non .non) : phiAt T P (r + 4) 4 [y] = .err ⟨2, [.str "thing"]⟩ := by
  have xo : P.xok 2 [.str "thing"] = true := rfl
  show runF (phiAt T P (r + 3)) P c4 [y] = _
  unfold runF
  rw [if_pos (show [y].length = c4.ar from rfl)]
  show fin0 true (evSs (phiAt T P (r + 3)) P c4.body [some y, none]) = _
  generalize phiAt T P (r + 3) = φ at *
  simp [c4, evSs, evS, ev, evs, RE.bind, RE.o, Ev.gt, h, RF.val, RV.re, stT, Ev.stN, Ev.kill, Ev.st, tru, xo, fin0]
end G78
set_option Elab.async false
set_option linter.all false
set_option maxRecDepth 100000
set_option maxHeartbeats 4000000
namespace G78
open PySem L2 PySem.Spec PyProof.Rows Ev
/-! k78, plain: the methods' look -/
def row4 (a b : Int) (y due : D) : D := .tup [.tup [fr a b, y], .int 4, due]
def num (s : Str) : D := .tup [.str "number", .str s, .bl false]
def mad (x : D) : D := .tup [.str "made", x]
def r1 (a b n : Int) (w : D) : D := if n < 0 ∧ a = 0 then row4 a b (.int n) (num "number") else row4 a b (.int n) (mad w)
def r2 (a b : Int) (w : D) : D := if a = 0 then .tup [.tup [fr a b, .int 0], .int 3, num "top"] else .tup [.tup [fr a b, .int 0], .int 3, mad w]
def r3 (a b c d : Int) (w : D) : D := if c = 0 then .tup [.tup [fr a b, fr c d], .int 2, num "other"] else .tup [.tup [fr a b, fr c d], .int 2, mad w]
def mrows (a b c d n : Int) (w1 w2 w3 w4 : D) : List D :=
  [r1 a b n w1, r2 a b w2, r3 a b c d w3, row4 a b (.int 41) (num "number"), row4 a b (.int (-41)) (num "number"), row4 a b .non (num "number"), row4 a b (fl 2 1) (num "number"),
   .tup [.tup [fr a b, .int 0], .int 2, num "other"], .tup [.tup [fr a b, .non], .int 2, num "other"], .tup [.tup [fr a b, .str "2"], .int 2, num "other"], .tup [.tup [fr a b, .int (-3)], .int 2, mad w4], .tup [.tup [fr a b], .int 5, mad (tp a b)],
   .tup [.tup [.int (-7)], .int 5, mad (tp (-7) 1)], .tup [.tup [.non], .int 5, num "thing"], .tup [.tup [.str "1"], .int 5, num "thing"]]
def mgL : Ss := .cons (.forr (.name (7, [])) (.seq (.v 8)) (.cons (.iff (.cmp .ne (.call 18 (.cons (.sub (.v 7) (.int 0)) (.cons (.sub (.v 7) (.int 1)) .nil))) (.sub (.v 7) (.int 2))) (.cons (.ret (.bl false)) .nil) .nil) .nil)) (.cons (.ret (.bl true)) .nil)
/-- the rows that the law asks -/
theorem mg_rows (φ : Phi) (a b c d n : Int) (w1 w2 w3 w4 : D) (h1 : φ 19 [tp a b, .int n] = .ok w1 .non) (h2 : a ≠ 0 → φ 14 [tp 1 1, tp a b] = .ok w2 .non) (h3 : c ≠ 0 → φ 14 [tp a b, tp c d] = .ok w3 .non) (h4 : φ 14 [tp a b, tp (-3) 1] = .ok w4 .non) (h5 : φ 40 [.ins 0 [], .int 2] = .ok .non (fl 2 1)) :
    ∃ x6, evSs φ P c21.body [some (fr a b), some (tp a b), some (fr c d), some (tp c d), some (.int n), none, none, none, none] = evSs φ P mgL [some (fr a b), some (tp a b), some (fr c d), some (tp c d), some (.int n), none, x6, none, some (.lst (mrows a b c d n w1 w2 w3 w4))] := by
  have s0 : ∀ x y : Int, opSub (.tup [.int x, .int y]) (.int 0) = .ok (.int x) := fun _ _ => rfl
  refine ⟨some (.str "1"), ?_⟩
  simp only [fr, tp] at *
  by_cases a0 : a = 0
  · subst a0
    by_cases c0 : c = 0
    · subst c0
      by_cases n0 : n < 0
      · simp [c21, mgL, evSs, evS, ev, evs, evi, RE.bind, RE.o, Ev.gt, stT, Ev.stN, Ev.kill, Ev.st, opCmp, ordI, eqI, s0, n0, tru, h1, h4, h5, RF.val, RV.re, forRun, upd1, updP, appF, sizeLine_eq, mrows, r1, r2, r3, row4, num, mad]
      · simp [c21, mgL, evSs, evS, ev, evs, evi, RE.bind, RE.o, Ev.gt, stT, Ev.stN, Ev.kill, Ev.st, opCmp, ordI, eqI, s0, n0, tru, h1, h4, h5, RF.val, RV.re, forRun, upd1, updP, appF, sizeLine_eq, mrows, r1, r2, r3, row4, num, mad]
    · have c1 : (c == 0) = false := by simpa using c0
      have h3 := h3 c0
      by_cases n0 : n < 0
      · simp [c21, mgL, evSs, evS, ev, evs, evi, RE.bind, RE.o, Ev.gt, stT, Ev.stN, Ev.kill, Ev.st, opCmp, ordI, eqI, s0, n0, c0, c1, h3, tru, h1, h4, h5, RF.val, RV.re, forRun, upd1, updP, appF, sizeLine_eq, mrows, r1, r2, r3, row4, num, mad]
      · simp [c21, mgL, evSs, evS, ev, evs, evi, RE.bind, RE.o, Ev.gt, stT, Ev.stN, Ev.kill, Ev.st, opCmp, ordI, eqI, s0, n0, c0, c1, h3, tru, h1, h4, h5, RF.val, RV.re, forRun, upd1, updP, appF, sizeLine_eq, mrows, r1, r2, r3, row4, num, mad]
  · have a1 : (a == 0) = false := by simpa using a0
    have h2 := h2 a0
    by_cases c0 : c = 0
    · subst c0
      by_cases n0 : n < 0
      · simp [c21, mgL, evSs, evS, ev, evs, evi, RE.bind, RE.o, Ev.gt, stT, Ev.stN, Ev.kill, Ev.st, opCmp, ordI, eqI, s0, n0, a0, a1, h2, tru, h1, h4, h5, RF.val, RV.re, forRun, upd1, updP, appF, sizeLine_eq, mrows, r1, r2, r3, row4, num, mad]
      · simp [c21, mgL, evSs, evS, ev, evs, evi, RE.bind, RE.o, Ev.gt, stT, Ev.stN, Ev.kill, Ev.st, opCmp, ordI, eqI, s0, n0, a0, a1, h2, tru, h1, h4, h5, RF.val, RV.re, forRun, upd1, updP, appF, sizeLine_eq, mrows, r1, r2, r3, row4, num, mad]
    · have c1 : (c == 0) = false := by simpa using c0
      have h3 := h3 c0
      by_cases n0 : n < 0
      · simp [c21, mgL, evSs, evS, ev, evs, evi, RE.bind, RE.o, Ev.gt, stT, Ev.stN, Ev.kill, Ev.st, opCmp, ordI, eqI, s0, n0, a0, a1, h2, c0, c1, h3, tru, h1, h4, h5, RF.val, RV.re, forRun, upd1, updP, appF, sizeLine_eq, mrows, r1, r2, r3, row4, num, mad]
      · simp [c21, mgL, evSs, evS, ev, evs, evi, RE.bind, RE.o, Ev.gt, stT, Ev.stN, Ev.kill, Ev.st, opCmp, ordI, eqI, s0, n0, a0, a1, h2, c0, c1, h3, tru, h1, h4, h5, RF.val, RV.re, forRun, upd1, updP, appF, sizeLine_eq, mrows, r1, r2, r3, row4, num, mad]
end G78
set_option Elab.async false
set_option linter.all false
set_option maxRecDepth 100000
set_option maxHeartbeats 4000000
namespace G78
open PySem L2 PySem.Spec PyProof.Rows Ev
/-! k78, plain: the methods' look, the loop over its rows -/
def RowD (φ : Phi) (d : D) : Prop := ∃ th k due, d = .tup [th, .int k, due] ∧ φ 18 [th, .int k] = .ok due .non ∧ eqD due due = some true ∧ insD due = false
def mgB : Ss := .cons (.iff (.cmp .ne (.call 18 (.cons (.sub (.v 7) (.int 0)) (.cons (.sub (.v 7) (.int 1)) .nil))) (.sub (.v 7) (.int 2))) (.cons (.ret (.bl false)) .nil) .nil) .nil
theorem ne_of (φ : Phi) {x : D} (h : eqD x x = some true) : opCmp φ P .ne x x = .ok (.bl false) := by
  have e : opCmp φ P .ne x x = (match eqD x x with | some b => .ok (.bl (!b)) | none => neL φ P x x) := by cases x <;> rfl
  rw [e, h]
  rfl
theorem mg_loop (φ : Phi) (x0 x1 x2 x3 x4 x5 x6 : Option D) (x8 : Option D) (rows : List D) (h : ∀ d ∈ rows, RowD φ d) (x7 : Option D) : ∃ x7', forRun (.name (7, [])) (evSs φ P mgB) rows [x0, x1, x2, x3, x4, x5, x6, x7, x8] = .nx [x0, x1, x2, x3, x4, x5, x6, x7', x8] := by
  obtain ⟨e', h1, x', h2⟩ := forRun_inv (tg := .name (7, [])) (body := evSs φ P mgB) (fun _ e => ∃ x, e = [x0, x1, x2, x3, x4, x5, x6, x, x8]) rows.length rows 0 [x0, x1, x2, x3, x4, x5, x6, x7, x8] (Nat.le_of_eq (Nat.zero_add _)) ⟨x7, rfl⟩ (fun k d e _ hd ⟨x, he⟩ => by
    subst he
    obtain ⟨th, k, due, rfl, hp, hq, _⟩ := h d hd
    refine ⟨[x0, x1, x2, x3, x4, x5, x6, some (.tup [th, .int k, due]), x8], rfl, [x0, x1, x2, x3, x4, x5, x6, some (.tup [th, .int k, due]), x8], ?_, _, rfl⟩
    have s0 : opSub (.tup [th, .int k, due]) (.int 0) = .ok th := rfl
    have s1 : opSub (.tup [th, .int k, due]) (.int 1) = .ok (.int k) := rfl
    have s2 : opSub (.tup [th, .int k, due]) (.int 2) = .ok due := rfl
    simp [mgB, evSs, evS, ev, evs, RE.bind, RE.o, Ev.gt, s0, s1, s2, hp, RF.val, RV.re, ne_of φ hq, tru])
  exact ⟨x', by rw [h1, h2]⟩
theorem mg_end (φ : Phi) (x0 x1 x2 x3 x4 x5 x6 : Option D) (rows : List D) (h : ∀ d ∈ rows, RowD φ d) : ∃ e, evSs φ P mgL [x0, x1, x2, x3, x4, x5, x6, none, some (.lst rows)] = .ret (.bl true) e := by
  obtain ⟨x7, w⟩ := mg_loop φ x0 x1 x2 x3 x4 x5 x6 (some (.lst rows)) rows h none
  have g : evi φ P (.seq (.v 8)) [x0, x1, x2, x3, x4, x5, x6, none, some (.lst rows)] = .ok rows [x0, x1, x2, x3, x4, x5, x6, none, some (.lst rows)] := rfl
  refine ⟨[x0, x1, x2, x3, x4, x5, x6, x7, some (.lst rows)], ?_⟩
  show evSs φ P (.cons (.forr (.name (7, [])) (.seq (.v 8)) mgB) (.cons (.ret (.bl true)) .nil)) _ = _
  rw [forr_ok g w]
  rfl
theorem eq_num (s : Str) (h : PyData.strOk s = true) : eqD (num s) (num s) = some true := by
  have sh : SeqAt.shaped (.tuple [.str "number", .str s, .bool false]) = true := by
    show ((PyData.strOk "number" && (PyData.strOk s && (true && true))) && decide (PyData.depth (.tuple [.str "number", .str s, .bool false]) ≤ 64)) = true
    rw [h, ok_of "number"]
    rfl
  simp only [num, eqD, toPy, toPyL, sh, Bool.and_self, if_true]
  simp [PyData.eqv, PyData.eqvAll]
theorem eq_mad (p q : Int) : eqD (mad (tp p q)) (mad (tp p q)) = some true := by
  have sh : SeqAt.shaped (.tuple [.str "made", .tuple [.int p, .int q]]) = true := by
    show ((PyData.strOk "made" && ((true && (true && true)) && true)) && decide (PyData.depth (.tuple [.str "made", .tuple [.int p, .int q]]) ≤ 64)) = true
    rw [ok_of "made"]
    rfl
  simp only [mad, tp, eqD, toPy, toPyL, sh, Bool.and_self, if_true]
  simp [PyData.eqv, PyData.eqvAll]
end G78
set_option Elab.async false
set_option linter.all false
set_option maxRecDepth 100000
set_option maxHeartbeats 4000000
namespace G78
open PySem L2 PySem.Spec PyProof.Rows Ev
/-! k78, plain: the law's own power -/
section
variable (r : Nat) (a b n : Int) (ha : Ms a) (hb : Ms b) (hn : -40 ≤ n ∧ n ≤ 40)
def lpB : Ss := .cons (.asg (.name (2, [])) (.bin .mul (.v 2) (.sub (.v 0) (.int 0)))) (.cons (.asg (.name (3, [])) (.bin .mul (.v 3) (.sub (.v 0) (.int 1)))) .nil)
include ha hb hn
theorem lp_loop (φ : Phi) (x : Option D) : ∃ x', forRun (.name (4, [])) (evSs φ P lpB) (rgL 0 (n.natAbs : Int)) [some (tp a b), some (.int n), some (.int 1), some (.int 1), x] = .nx [some (tp a b), some (.int n), some (.int (a ^ n.natAbs)), some (.int (b ^ n.natAbs)), x'] := by
  have s0 : opSub (.tup [.int a, .int b]) (.int 0) = .ok (.int a) := rfl
  have s1 : opSub (.tup [.int a, .int b]) (.int 1) = .ok (.int b) := rfl
  have hl : (rgL 0 (n.natAbs : Int)).length = n.natAbs := by rw [rgL_len]; omega
  obtain ⟨e', h1, x', h2⟩ := forRun_inv (tg := .name (4, [])) (body := evSs φ P lpB) (fun k e => ∃ x, e = [some (tp a b), some (.int n), some (.int (a ^ k)), some (.int (b ^ k)), x]) n.natAbs (rgL 0 (n.natAbs : Int)) 0 [some (tp a b), some (.int n), some (.int 1), some (.int 1), x]
    (by rw [hl]; omega) ⟨x, by simp⟩ (fun k d e hk _ ⟨y, he⟩ => by
      subst he
      have hk' : k ≤ 40 := by omega
      have m1 : mulOk (a ^ k) a = true := mulOk_big (ha.pow hk') ha.sm.big
      have m2 : mulOk (b ^ k) b = true := mulOk_big (hb.pow hk') hb.sm.big
      refine ⟨[some (tp a b), some (.int n), some (.int (a ^ k)), some (.int (b ^ k)), some d], rfl, [some (tp a b), some (.int n), some (.int (a ^ (k + 1))), some (.int (b ^ (k + 1))), some d], ?_, _, rfl⟩
      simp [lpB, evSs, evS, ev, evs, RE.bind, RE.o, Ev.gt, RV.re, s0, s1, opBin, binInt, m1, m2, stT, Ev.stN, Ev.kill, Ev.st, Int.pow_succ])
  rw [hl, Nat.zero_add] at h2
  exact ⟨x', by rw [h1, h2]⟩
/-- what the law asks of a power -/
def pwD (a b n : Int) : D := if 0 ≤ n then tp (a ^ n.natAbs) (b ^ n.natAbs) else if a ^ n.natAbs < 0 then tp (-(b ^ n.natAbs)) (-(a ^ n.natAbs)) else tp (b ^ n.natAbs) (a ^ n.natAbs)
theorem lpw_ok : phiAt T P (r + 1) 19 [tp a b, .int n] = .ok (pwD a b n) .non := by
  show runF (phiAt T P r) P c19 [tp a b, .int n] = _
  unfold runF
  rw [if_pos (show [tp a b, .int n].length = c19.ar from rfl)]
  show fin0 true (evSs (phiAt T P r) P c19.body [some (tp a b), some (.int n), none, none, none]) = _
  generalize phiAt T P r = φ at *
  obtain ⟨x', w⟩ := lp_loop a b n ha hb hn φ none
  have k2 : rgOk 0 (n.natAbs : Int) = true := by
    unfold rgOk
    simp
    omega
  have g : evi φ P (.rng1 (.bi .abs (.cons (.v 1) .nil))) [some (tp a b), some (.int n), some (.int 1), some (.int 1), none] = .ok (rgL 0 (n.natAbs : Int)) [some (tp a b), some (.int n), some (.int 1), some (.int 1), none] := by
    simp [evi, ev, evs, RE.bind, Ev.gt, abs_int, RV.re, k2]
  have c : ∃ rest, c19.body = .cons (.asg (.name (2, [])) (.int 1)) (.cons (.asg (.name (3, [])) (.int 1)) (.cons (.forr (.name (4, [])) (.rng1 (.bi .abs (.cons (.v 1) .nil))) lpB) rest)) ∧ rest = .cons (.iff (.cmp .ge (.v 1) (.int 0)) (.cons (.ret (.tup (.cons (.v 2) (.cons (.v 3) .nil)))) .nil) .nil) (.cons (.iff (.cmp .lt (.v 2) (.int 0)) (.cons (.ret (.tup (.cons (.neg (.v 3)) (.cons (.neg (.v 2)) .nil)))) .nil) .nil) (.cons (.ret (.tup (.cons (.v 3) (.cons (.v 2) .nil)))) .nil)) := ⟨_, rfl, rfl⟩
  obtain ⟨rest, c, hr⟩ := c
  have A : evSs φ P c19.body [some (tp a b), some (.int n), none, none, none] = evSs φ P (.cons (.forr (.name (4, [])) (.rng1 (.bi .abs (.cons (.v 1) .nil))) lpB) rest) [some (tp a b), some (.int n), some (.int 1), some (.int 1), none] := by
    rw [c]
    generalize Ss.cons (S.forr (.name (4, [])) (.rng1 (.bi .abs (.cons (.v 1) .nil))) lpB) rest = q
    simp [evSs, evS, ev, RE.o, stT, Ev.stN, Ev.kill, Ev.st]
  rw [A, forr_ok g w, hr]
  unfold pwD
  generalize a ^ n.natAbs = u
  generalize b ^ n.natAbs = v
  by_cases h0 : 0 ≤ n
  · simp [evSs, evS, ev, evs, RE.bind, RE.o, Ev.gt, RV.re, opCmp, ordI, h0, tru, fin0, sizeLine_eq]
  · by_cases h1 : u < 0
    · simp [evSs, evS, ev, evs, RE.bind, RE.o, Ev.gt, RV.re, opCmp, ordI, h0, h1, tru, fin0, sizeLine_eq]
    · simp [evSs, evS, ev, evs, RE.bind, RE.o, Ev.gt, RV.re, opCmp, ordI, h0, h1, tru, fin0, sizeLine_eq]
end
end G78
set_option Elab.async false
set_option linter.all false
set_option maxRecDepth 100000
set_option maxHeartbeats 4000000
namespace G78
open PySem L2 PySem.Spec PyProof.Rows Ev
/-! k78, plain: the rows of the methods' look are kept -/
theorem gcd_pow {a b : Int} (h : a.gcd b = 1) (k l : Nat) : (a ^ k).gcd (b ^ l) = 1 := by
  unfold Int.gcd at *
  rw [Int.natAbs_pow, Int.natAbs_pow]
  exact Nat.Coprime.pow k l h
theorem low_one {u v : Int} (h : u.gcd v = 1) : lowT u v = (if v < 0 then -u else u) ∧ lowB u v = (if v < 0 then -v else v) := by
  unfold lowT lowB
  rw [h]
  constructor
  · rw [show ((1 : Nat) : Int) = 1 from rfl, Int.ediv_one]
  · rw [show ((1 : Nat) : Int) = 1 from rfl, Int.ediv_one]
theorem row_r1 (r : Nat) (a b n : Int) (ha : Ms a) (hb : Ms b) (hn : -40 ≤ n ∧ n ≤ 40) (b0 : 0 < b) (hg : a.gcd b = 1) : RowD (phiAt T P (r + 5)) (r1 a b n (pwD a b n)) := by
  have hk : n.natAbs ≤ 40 := by omega
  unfold r1
  by_cases z : n < 0 ∧ a = 0
  · rw [if_pos z]
    exact ⟨_, _, _, rfl, d4_err r a b (.int n) (pw_bad r a b n (.inr (.inr z))), eq_num _ (ok_of _), rfl⟩
  · rw [if_neg z]
    by_cases h0 : 0 ≤ n
    · have w := pw_ok r a b n ha hb hn h0 (by omega)
      have bp : 0 < b ^ n.natAbs := Int.pow_pos b0
      have g := gcd_pow hg n.natAbs n.natAbs
      obtain ⟨e1, e2⟩ := low_id bp g
      unfold fl at w
      rw [e1, e2] at w
      have d := d4_ok r a b (.int n) _ _ w (hb.pow hk) bp g
      have e : pwD a b n = tp (a ^ n.natAbs) (b ^ n.natAbs) := if_pos h0
      rw [e]
      exact ⟨_, _, _, rfl, d, eq_mad _ _, rfl⟩
    · have a0 : a ≠ 0 := fun q => z ⟨by omega, q⟩
      have w := pw_neg r a b n ha hb hn (by omega) a0
      have g : (b ^ n.natAbs).gcd (a ^ n.natAbs) = 1 := by rw [Int.gcd_comm]; exact gcd_pow hg _ _
      have ap : a ^ n.natAbs ≠ 0 := Int.pow_ne_zero a0
      have hs := ha.pow hk
      obtain ⟨e1, e2⟩ := low_one g
      unfold fl at w
      rw [e1, e2] at w
      unfold pwD
      rw [if_neg h0]
      generalize a ^ n.natAbs = u at *
      generalize b ^ n.natAbs = v at *
      by_cases hu : u < 0
      · rw [if_pos hu, if_pos hu] at w
        rw [if_pos hu]
        exact ⟨_, _, _, rfl, d4_ok r a b (.int n) _ _ w (by rw [Int.natAbs_neg]; exact hs) (by omega) (by rw [Int.gcd_neg, Int.neg_gcd]; exact g), eq_mad _ _, rfl⟩
      · rw [if_neg hu, if_neg hu] at w
        rw [if_neg hu]
        exact ⟨_, _, _, rfl, d4_ok r a b (.int n) _ _ w hs (by omega) g, eq_mad _ _, rfl⟩
end G78
set_option Elab.async false
set_option linter.all false
set_option maxRecDepth 100000
set_option maxHeartbeats 4000000
namespace G78
open PySem L2 PySem.Spec PyProof.Rows Ev
/-! k78, plain: the methods' look, whole -/
section
variable (r : Nat) (a b c d n : Int) (ha : Ms a) (hb : Ms b) (hc : Ms c) (hd : Ms d) (hn : -40 ≤ n ∧ n ≤ 40) (b0 : 0 < b) (d0 : 0 < d) (hg : a.gcd b = 1)
theorem row_r2 (ha : Ms a) (b0 : 0 < b) : RowD (phiAt T P (r + 5)) (r2 a b (tl (1 * b) (1 * a))) := by
  unfold r2
  by_cases z : a = 0
  · subst z
    rw [if_pos rfl]
    exact ⟨_, _, _, rfl, d3_err r 0 b (.int 0) (inv_err r b), eq_num _ (ok_of _), rfl⟩
  · rw [if_neg z, Int.one_mul, Int.one_mul]
    obtain ⟨h1, h2, _⟩ := low_spec b a z
    exact ⟨_, _, _, rfl, d3_ok r a b (.int 0) _ _ (inv_ok r a b ha.sm.big z) (Nat.lt_of_le_of_lt (lowB_le b a z) ha.sm.big) h1 h2, eq_mad _ _, rfl⟩
theorem row_ov (y : D) (ha : Ms a) (hb : Ms b) (hc : Ms c) (hd : Ms d) (b0 : b ≠ 0) (c0 : c ≠ 0) (hp : phiAt T P (r + 3) 3 [y] = .ok (.tup [.int c, .int d]) .non) : RowD (phiAt T P (r + 5)) (.tup [.tup [fr a b, y], .int 2, mad (tl (a * d) (b * c))]) := by
  have z := Int.mul_ne_zero b0 c0
  obtain ⟨h1, h2, _⟩ := low_spec (a * d) (b * c) z
  exact ⟨_, _, _, rfl, d2_ok r a b y _ _ (over_ok r a b c d y hp ha.sm hb.sm hc.sm hd.sm b0 c0) (Nat.lt_of_le_of_lt (lowB_le _ _ z) (hb.sm.mul hc.sm)) h1 h2, eq_mad _ _, rfl⟩
theorem row_r3 (ha : Ms a) (hb : Ms b) (hc : Ms c) (hd : Ms d) (b0 : b ≠ 0) : RowD (phiAt T P (r + 5)) (r3 a b c d (tl (a * d) (b * c))) := by
  unfold r3
  by_cases z : c = 0
  · subst z
    rw [if_pos rfl]
    exact ⟨_, _, _, rfl, d2_err r a b (fr 0 d) (over_zero r a b d _ (pr_ins (r + 1) 0 d)), eq_num _ (ok_of _), rfl⟩
  · rw [if_neg z]
    exact row_ov r a b c d (fr c d) ha hb hc hd b0 z (pr_ins (r + 1) c d)
theorem row_of (p q : Int) (y : D) (h : phiAt T P (r + 3) 3 [y] = .ok (.tup [.int p, .int q]) .non) (q0 : 0 < q) (hq : q.natAbs < 2 ^ 1999) (hg : p.gcd q = 1) : RowD (phiAt T P (r + 5)) (.tup [.tup [y], .int 5, mad (tp p q)]) := by
  have w := of_ok r p q y h (by omega) hq
  obtain ⟨e1, e2⟩ := low_id q0 hg
  unfold fl at w
  rw [e1, e2] at w
  exact ⟨_, _, _, rfl, d5_ok r 0 0 y _ _ w hq q0 hg, eq_mad _ _, rfl⟩
include ha hb hc hd hn b0 d0 hg
theorem mg_all : ∀ x ∈ mrows a b c d n (pwD a b n) (tl (1 * b) (1 * a)) (tl (a * d) (b * c)) (tl (a * 1) (b * -3)), RowD (phiAt T P (r + 5)) x := by
  have n1 : b ≠ 0 := by omega
  have m3 : Ms (-3) := by unfold Ms; decide
  have m1 : Ms 1 := by unfold Ms; decide
  have bad : ∀ (y : D) (h : phiAt T P (r + 4) 38 [fr a b, y] = .err ⟨2, [.str "number"]⟩), RowD (phiAt T P (r + 5)) (row4 a b y (num "number")) := fun y h => ⟨_, _, _, rfl, d4_err r a b y h, eq_num _ (ok_of _), rfl⟩
  have ov : ∀ (y : D) (h : phiAt T P (r + 4) 36 [fr a b, y] = .err ⟨2, [.str "other"]⟩), RowD (phiAt T P (r + 5)) (.tup [.tup [fr a b, y], .int 2, num "other"]) := fun y h => ⟨_, _, _, rfl, d2_err r a b y h, eq_num _ (ok_of _), rfl⟩
  have th : ∀ (y : D) (h : phiAt T P (r + 4) 4 [y] = .err ⟨2, [.str "thing"]⟩), RowD (phiAt T P (r + 5)) (.tup [.tup [y], .int 5, num "thing"]) := fun y h => ⟨_, _, _, rfl, d5_err r 0 0 y h, eq_num _ (ok_of _), rfl⟩
  intro x hx
  simp only [mrows, List.mem_cons, List.not_mem_nil, or_false] at hx
  rcases hx with rfl | rfl | rfl | rfl | rfl | rfl | rfl | rfl | rfl | rfl | rfl | rfl | rfl | rfl | rfl
  · exact row_r1 r a b n ha hb hn b0 hg
  · exact row_r2 r a b ha b0
  · exact row_r3 r a b c d ha hb hc hd n1
  · exact bad _ (pw_bad r a b 41 (.inr (.inl (by decide))))
  · exact bad _ (pw_bad r a b (-41) (.inl (by decide)))
  · exact bad _ (pw_thing r a b .non rfl)
  · exact bad _ (pw_thing r a b (fl 2 1) rfl)
  · exact ov _ (over_zero r a b 1 _ (pr_int (r + 1) 0))
  · exact ov _ (over_err r a b _ (pr_non (r + 1)))
  · exact ov _ (over_err r a b _ (pr_str (r + 1) _))
  · exact row_ov r a b (-3) 1 (.int (-3)) ha hb m3 m1 n1 (by decide) (pr_int (r + 1) (-3))
  · exact row_of r a b (fr a b) (pr_ins (r + 1) a b) b0 hb.sm.big hg
  · exact row_of r (-7) 1 (.int (-7)) (pr_int (r + 1) (-7)) (by decide) (by decide) (by decide)
  · exact th _ (of_err r _ (pr_non (r + 1)))
  · exact th _ (of_err r _ (pr_str (r + 1) _))
theorem mg_ok : phiAt T P (r + 6) 21 [fr a b, tp a b, fr c d, tp c d, .int n] = .ok (.bl true) .non := by
  have n1 : b ≠ 0 := by omega
  have s1 : Sm 1 := by unfold Sm; exact Nat.one_lt_two_pow (by decide)
  have m3 : Ms (-3) := by unfold Ms; decide
  have z1 : (1 : Int) ≠ 0 := by decide
  obtain ⟨x6, w⟩ := mg_rows (phiAt T P (r + 5)) a b c d n (pwD a b n) (tl (1 * b) (1 * a)) (tl (a * d) (b * c)) (tl (a * 1) (b * -3)) (lpw_ok (r + 4) a b n ha hb hn) (fun a0 => lb_ok (r + 2) 1 1 a b s1 s1 ha.sm hb.sm z1 a0)
    (fun c0 => lb_ok (r + 2) a b c d ha.sm hb.sm hc.sm hd.sm n1 c0) (lb_ok (r + 2) a b (-3) 1 ha.sm hb.sm m3.sm s1 n1 (by decide)) (in1_ok (r + 2) 2)
  obtain ⟨e, v⟩ := mg_end (phiAt T P (r + 5)) (some (fr a b)) (some (tp a b)) (some (fr c d)) (some (tp c d)) (some (.int n)) none x6 _ (mg_all r a b c d n ha hb hc hd hn b0 d0 hg)
  show fin0 true (evSs (phiAt T P (r + 5)) P c21.body [some (fr a b), some (tp a b), some (fr c d), some (tp c d), some (.int n), none, none, none, none]) = _
  rw [w, v]
  rfl
end
end G78
set_option Elab.async false
set_option linter.all false
set_option maxRecDepth 100000
set_option maxHeartbeats 4000000
namespace G78
open PySem L2 PySem.Spec PyProof.Rows Ev
/-! k78, plain: what is drawn -/
theorem sub_at (l : List Int) (k : Int) (h0 : 0 ≤ k) (h1 : k < l.length) : ∃ t ∈ l, opSub (.lst (l.map .int)) (.int k) = .ok (.int t) := by
  have h2 : k.toNat < l.length := by omega
  refine ⟨l[k.toNat], List.getElem_mem h2, ?_⟩
  have e : L2.atI (l.map D.int) k = some (.int l[k.toNat]) := by
    unfold L2.atI L2.ixN
    rw [if_pos h0, if_pos (by rw [List.length_map]; exact h1)]
    show (l.map D.int)[k.toNat]? = _
    rw [List.getElem?_map, List.getElem?_eq_getElem h2]
    rfl
  show (match L2.atI (l.map D.int) k with | some d => RV.ok d | none => .stk) = _
  rw [e]
theorem take_ok (r : Nat) (L : List Int) (m : Int) (hm : 0 < m) (hL : ∀ y ∈ L, (0 : Int) ≤ y) (hl : L.length ≤ 3528) : ∃ (a : Int) (L' : List Int), phiAt T P (r + 1) 7 [.lst (L.map .int), .int m] = .ok (.int a) (.lst (L'.map .int)) ∧ (0 ≤ a ∧ a < m) ∧ (∀ y ∈ L', (0 : Int) ≤ y) ∧ L'.length ≤ 3528 := tak_ok L m hm hL hl
theorem drawn_ok (r : Nat) (L : List Int) (hL : ∀ y ∈ L, (0 : Int) ≤ y) (hl : L.length ≤ 3528) : ∃ (t b : Int) (L' : List Int), phiAt T P (r + 2) 17 [.lst (L.map .int)] = .ok (.tup [.int t, .int b]) (.lst (L'.map .int)) ∧ t ∈ tops ∧ b ∈ bots ∧ (∀ y ∈ L', (0 : Int) ≤ y) ∧ L'.length ≤ 3528 := by
  obtain ⟨i, L1, e1, hi, hL1, hl1⟩ := take_ok r L 12 (by decide) hL hl
  obtain ⟨j, L2, e2, hj, hL2, hl2⟩ := take_ok r L1 12 (by decide) hL1 hl1
  obtain ⟨t, ht, et⟩ := sub_at tops i hi.1 hi.2
  obtain ⟨b, hb, eb⟩ := sub_at bots j hj.1 hj.2
  refine ⟨t, b, L2, ?_, ht, hb, hL2, hl2⟩
  simp only [tops, bots, List.map] at et eb
  show runF (phiAt T P (r + 1)) P c17 [.lst (L.map .int)] = _
  unfold runF
  rw [if_pos (show [D.lst (L.map .int)].length = c17.ar from rfl)]
  show finL true 0 (evSs (phiAt T P (r + 1)) P c17.body [some (.lst (L.map .int)), none, none]) = _
  generalize phiAt T P (r + 1) = φ at *
  simp [c17, evSs, evS, ev, evs, RE.bind, RE.o, Ev.gt, e1, e2, et, eb, lend, lendR, insA, RF.val, RV.re, stT, Ev.stN, Ev.kill, Ev.st, finL, sizeLine_eq]
/-- the menu is small and has no 0 at the bottom -/
theorem tops_ms : ∀ t ∈ tops, Sm t ∧ t.natAbs < 2 ^ 45 := by
  have h : (tops.all fun t => decide (t.natAbs < 2 ^ 45)) = true := by decide +kernel
  intro t ht
  have q := of_decide_eq_true (List.all_eq_true.mp h t ht)
  exact ⟨Nat.lt_trans q (Nat.pow_lt_pow_right (by decide) (by decide)), q⟩
theorem bots_ms : ∀ b ∈ bots, b ≠ 0 ∧ b.natAbs < 2 ^ 45 := by
  have h : (bots.all fun t => !(t == 0) && decide (t.natAbs < 2 ^ 45)) = true := by decide +kernel
  intro t ht
  obtain ⟨q1, q2⟩ := Bool.and_eq_true_iff.mp (List.all_eq_true.mp h t ht)
  exact ⟨by simpa using q1, of_decide_eq_true q2⟩
end G78
set_option Elab.async false
set_option linter.all false
set_option maxRecDepth 100000
set_option maxHeartbeats 4000000
namespace G78
open PySem L2 PySem.Spec PyProof.Rows Ev
/-! k78, plain: the law, but for _law_whole_good -/
theorem lowT_le (a b : Int) (hb : b ≠ 0) : (lowT a b).natAbs ≤ a.natAbs := by
  obtain ⟨k, l, h1, h2, h3, h4, h5⟩ := gcd_fac a b hb
  obtain ⟨e2, _⟩ := low_vals h3 h1 h2 rfl
  have e3 : (lowT a b).natAbs = k.natAbs := by
    rw [e2]
    by_cases z : b < 0
    · rw [if_pos z, Int.natAbs_neg]
    · rw [if_neg z]
  have e4 : a.natAbs = a.gcd b * k.natAbs := by
    have := congrArg Int.natAbs h1
    rw [Int.natAbs_mul, Int.natAbs_natCast] at this
    exact this
  rw [e3]
  rw (config := { occs := .pos [1] }) [e4]
  exact Nat.le_mul_of_pos_left _ h3
def nums1 : List Int := [2, 0, -1, 1, -5, 7, 999999999999]
def nums2 : List Int := [2, 0, -1, 1, -3, 40, -40, 5, -2]
theorem nums1_sm : ∀ n ∈ nums1, Sm n := by
  have h : (nums1.all fun t => decide (t.natAbs < 2 ^ 45)) = true := by decide +kernel
  intro t ht
  exact Nat.lt_trans (of_decide_eq_true (List.all_eq_true.mp h t ht)) (Nat.pow_lt_pow_right (by decide) (by decide))
theorem nums2_ok : ∀ n ∈ nums2, -40 ≤ n ∧ n ≤ 40 := by
  have h : (nums2.all fun t => decide (-40 ≤ t) && decide (t ≤ 40)) = true := by decide +kernel
  intro t ht
  obtain ⟨q1, q2⟩ := Bool.and_eq_true_iff.mp (List.all_eq_true.mp h t ht)
  exact ⟨of_decide_eq_true q1, of_decide_eq_true q2⟩
/-- what is left to show of the rows of fractions -/
def WholeOk : Prop := ∀ (L : List Int) (a b : Int), (∀ y ∈ L, (0 : Int) ≤ y) → L.length ≤ 3528 → Ms a → Ms b → 0 < b → a.gcd b = 1 → ∃ L' : List Int, phiAt T P 9 23 [.lst (L.map .int), fr a b, tp a b] = .ok (.bl true) (.lst (L'.map .int))
theorem law_of (hW : WholeOk) (ns : List Int) (h : ns.length ≤ 63) : ∃ o, phiAt T P 10 24 [.scr ns] = .ok (.bl true) o := by
  obtain ⟨L, h1, hL, hl⟩ := str_ok (φ := phiAt T P 8) (P := P) ns h
  have e0 : phiAt T P 9 6 [.scr ns] = .ok (.lst (L.map .int)) .non := h1
  obtain ⟨t, b, L1, e1, ht, hb, hL1, hl1⟩ := drawn_ok 7 L hL hl
  obtain ⟨t2, b2, L2, e2, ht2, hb2, hL2, hl2⟩ := drawn_ok 7 L1 hL1 hl1
  obtain ⟨k, L3, e3, hk, hL3, hl3⟩ := take_ok 8 L2 7 (by decide) hL2 hl2
  obtain ⟨k', L4, e4, hk', hL4, hl4⟩ := take_ok 8 L3 9 (by decide) hL3 hl3
  obtain ⟨n, hn, en⟩ := sub_at nums1 k hk.1 hk.2
  obtain ⟨n', hn', en'⟩ := sub_at nums2 k' hk'.1 hk'.2
  obtain ⟨b0, bm⟩ := bots_ms b hb
  obtain ⟨b20, b2m⟩ := bots_ms b2 hb2
  obtain ⟨ts, tm⟩ := tops_ms t ht
  obtain ⟨t2s, t2m⟩ := tops_ms t2 ht2
  have big : ∀ {x : Int}, x.natAbs < 2 ^ 45 → x.natAbs < 2 ^ 1999 := fun h => Nat.lt_trans h (Nat.pow_lt_pow_right (by decide) (by decide))
  have l1 : phiAt T P 9 10 [.int t, .int b] = _ := ll_ok 7 t b b0 (big bm)
  have l2 : phiAt T P 9 10 [.int t2, .int b2] = _ := ll_ok 7 t2 b2 b20 (big b2m)
  have i1 : phiAt T P 9 25 [.ins 0 [], .int t, .int b] = _ := ini_ok 6 t b b0 (big bm)
  have i2 : phiAt T P 9 25 [.ins 0 [], .int t2, .int b2] = _ := ini_ok 6 t2 b2 b20 (big b2m)
  obtain ⟨om, m⟩ := made_ok t b ht hb
  obtain ⟨p1, p2, _⟩ := low_spec t b b0
  obtain ⟨q1, q2, _⟩ := low_spec t2 b2 b20
  have Ma : Ms (lowT t b) := Nat.lt_of_le_of_lt (lowT_le t b b0) tm
  have Mb : Ms (lowB t b) := Nat.lt_of_le_of_lt (lowB_le t b b0) bm
  have Mc : Ms (lowT t2 b2) := Nat.lt_of_le_of_lt (lowT_le t2 b2 b20) t2m
  have Md : Ms (lowB t2 b2) := Nat.lt_of_le_of_lt (lowB_le t2 b2 b20) b2m
  have sg : phiAt T P 9 20 [fr (lowT t b) (lowB t b), tp (lowT t b) (lowB t b), fr (lowT t2 b2) (lowB t2 b2), tp (lowT t2 b2) (lowB t2 b2), .int n] = _ := sg_ok 3 _ _ _ _ n Ma.sm Mb.sm Mc.sm Md.sm (nums1_sm n hn) p1 q1 p2 q2
  have mg : phiAt T P 9 21 [fr (lowT t b) (lowB t b), tp (lowT t b) (lowB t b), fr (lowT t2 b2) (lowB t2 b2), tp (lowT t2 b2) (lowB t2 b2), .int n'] = _ := mg_ok 3 _ _ _ _ n' Ma Mb Mc Md (nums2_ok n' hn') p1 q1 p2
  obtain ⟨L5, w⟩ := hW L4 _ _ hL4 hl4 Ma Mb p1 p2
  refine ⟨.non, ?_⟩
  show fin0 true (evSs (phiAt T P 9) P c24.body [some (.scr ns), none, none, none, none, none, none, none, none, none, none, none]) = _
  simp only [nums1, nums2, List.map] at en en'
  generalize phiAt T P 9 = φ at *
  generalize lowT t b = a1 at *
  generalize lowB t b = a2 at *
  generalize lowT t2 b2 = a3 at *
  generalize lowB t2 b2 = a4 at *
  simp only [fr, tp] at *
  simp [c24, evSs, evS, ev, evs, RE.bind, RE.o, Ev.gt, e0, e1, e2, e3, e4, l1, l2, i1, i2, m, sg, mg, w, en, en', lend, lendR, insA, tru, RF.val, RV.re, stT, stNs, Ev.stN, Ev.kill, Ev.st, fin0, sizeLine_eq]
end G78
set_option Elab.async false
set_option linter.all false
set_option maxRecDepth 100000
set_option maxHeartbeats 4000000
namespace G78
open PySem L2 PySem.Spec PyProof.Rows Ev
/-! k78, plain: rows of fractions, begun: the common bottom -/
def comS (c q : Int) : Int := (c * q).fdiv (c.gcd q : Nat)
def comG : Int → List (Int × Int) → Int
  | c, [] => c
  | c, pq :: l => comG (comS c pq.2) l
theorem comS_ok {c q : Int} {m : Nat} (hc : 0 < c) (hq : 0 < q) (bc : c < 2 ^ (45 * m)) (bq : q < 2 ^ 45) : 0 < comS c q ∧ comS c q < 2 ^ (45 * (m + 1)) := by
  have hg : 0 < c.gcd q := Int.gcd_pos_of_ne_zero_right c (by omega)
  have hcq := Int.mul_pos hc hq
  have e : comS c q = (c * q) / (c.gcd q : Nat) := Int.fdiv_eq_ediv_of_nonneg _ (by omega)
  rw [e]
  constructor
  · exact Int.ediv_pos_of_pos_of_dvd hcq (by omega) (Int.dvd_trans (Int.gcd_dvd_left c q) (Int.dvd_mul_right c q))
  · have h1 : c * q / (c.gcd q : Nat) ≤ c * q := Int.ediv_le_self _ (by omega)
    have h2 : c * q < 2 ^ (45 * m) * 2 ^ 45 := by
      have a1 : c * q ≤ c * 2 ^ 45 := Int.mul_le_mul_of_nonneg_left (by omega) (by omega)
      have a2 : c * 2 ^ 45 < 2 ^ (45 * m) * 2 ^ 45 := Int.mul_lt_mul_of_pos_right bc (by decide)
      omega
    have h3 : (2 : Int) ^ (45 * (m + 1)) = 2 ^ (45 * m) * 2 ^ 45 := by rw [Nat.mul_add, Int.pow_add]
    omega
def lwB : Ss := .cons (.asg (.name (1, [])) (.bin .fdiv (.bin .mul (.v 1) (.sub (.v 2) (.int 1))) (.call 9 (.cons (.v 1) (.cons (.sub (.v 2) (.int 1)) .nil))))) .nil
theorem lw_step (φ : Phi) (h9 : ∀ a b : Int, b.natAbs < 2 ^ 1999 → φ 9 [.int a, .int b] = .ok (.int (a.gcd b : Nat)) .non) (x0 x3 x4 x5 : Option D) (c p q : Int) {m : Nat} (hm : m < 40) (hc : 0 < c) (hq : 0 < q) (bc : c < 2 ^ (45 * m)) (bq : q < 2 ^ 45) :
    evSs φ P lwB [x0, some (.int c), some (tp p q), x3, x4, x5] = .nx [x0, some (.int (comS c q)), some (tp p q), x3, x4, x5] := by
  have b1 : q.natAbs < 2 ^ 1999 := by
    have : q.natAbs < 2 ^ 45 := by omega
    exact Nat.lt_trans this (Nat.pow_lt_pow_right (by decide) (by decide))
  have b2 : c.natAbs < 2 ^ 1999 := by
    have e : ((2 : Int) ^ (45 * m)) = ((2 ^ (45 * m) : Nat) : Int) := by rw [Int.natCast_pow]; rfl
    have : c.natAbs < 2 ^ (45 * m) := by omega
    exact Nat.lt_trans this (Nat.pow_lt_pow_right (by decide) (by omega))
  have s1 : opSub (.tup [.int p, .int q]) (.int 1) = .ok (.int q) := rfl
  have g0 : ((c.gcd q : Nat) : Int) ≠ 0 := by
    have := Int.gcd_pos_of_ne_zero_right c (show q ≠ 0 by omega)
    omega
  have gl : c.gcd q ≤ q.natAbs := Nat.le_of_dvd (by omega) (Int.gcd_dvd_natAbs_right c q)
  have d1 : divOk ((c.gcd q : Nat) : Int) = true := divOk_of g0 (by rw [Int.natAbs_natCast]; omega)
  have m1 : mulOk c q = true := by
    have h1 := log2_lt b2 (by decide)
    have h2 := log2_lt b1 (by decide)
    unfold mulOk
    simp only [decide_eq_true_eq]
    omega
  have k := h9 c q b1
  simp [lwB, evSs, evS, ev, evs, RE.bind, RE.o, Ev.gt, s1, k, m1, d1, opBin, binInt, RF.val, RV.re, stT, Ev.stN, Ev.kill, Ev.st, comS]
theorem lw_loop (φ : Phi) (h9 : ∀ a b : Int, b.natAbs < 2 ^ 1999 → φ 9 [.int a, .int b] = .ok (.int (a.gcd b : Nat)) .non) (x0 x3 x4 x5 : Option D) : ∀ (l : List (Int × Int)) (c : Int) (x2 : Option D) (m : Nat), (∀ pq ∈ l, 0 < pq.2 ∧ pq.2 < 2 ^ 45) → 0 < c → c < 2 ^ (45 * m) → m + l.length ≤ 40 →
    ∃ x2', forRun (.name (2, [])) (evSs φ P lwB) (l.map fun pq => tp pq.1 pq.2) [x0, some (.int c), x2, x3, x4, x5] = .nx [x0, some (.int (comG c l)), x2', x3, x4, x5] ∧ 0 < comG c l
  | [], c, x2, m, _, hc, _, _ => ⟨x2, rfl, hc⟩
  | pq :: l, c, x2, m, hl, hc, bc, hm => by
    obtain ⟨hq, bq⟩ := hl pq List.mem_cons_self
    rw [List.length_cons] at hm
    obtain ⟨z1, z2⟩ := comS_ok hc hq bc bq
    obtain ⟨x2', w, z⟩ := lw_loop φ h9 x0 x3 x4 x5 l (comS c pq.2) (some (tp pq.1 pq.2)) (m + 1) (fun y hy => hl y (List.mem_cons_of_mem _ hy)) z1 z2 (by omega)
    refine ⟨x2', ?_, z⟩
    rw [List.map_cons, for_go (e1 := [x0, some (.int c), some (tp pq.1 pq.2), x3, x4, x5]) rfl (lw_step φ h9 x0 x3 x4 x5 c pq.1 pq.2 (by omega) hc hq bc bq)]
    exact w
end G78
set_option Elab.async false
set_option linter.all false
set_option maxRecDepth 100000
set_option maxHeartbeats 4000000
namespace G78
open PySem L2 PySem.Spec PyProof.Rows Ev
/-! k78, plain: rows of fractions: the common divisor -/
theorem comG_ok : ∀ (l : List (Int × Int)) (c : Int) (m : Nat), (∀ pq ∈ l, 0 < pq.2 ∧ pq.2 < 2 ^ 45) → 0 < c → c < 2 ^ (45 * m) → 0 < comG c l ∧ comG c l < 2 ^ (45 * (m + l.length))
  | [], c, m, _, hc, bc => ⟨hc, bc⟩
  | pq :: l, c, m, hl, hc, bc => by
    obtain ⟨hq, bq⟩ := hl pq List.mem_cons_self
    obtain ⟨z1, z2⟩ := comS_ok hc hq bc bq
    have q := comG_ok l (comS c pq.2) (m + 1) (fun y hy => hl y (List.mem_cons_of_mem _ hy)) z1 z2
    rw [List.length_cons, show m + (l.length + 1) = m + 1 + l.length by omega]
    exact q
def shG : Int → List Int → Int
  | s, [] => s
  | s, t :: l => shG (s.gcd t : Nat) l
def lsB : Ss := .cons (.asg (.name (4, [])) (.call 9 (.cons (.v 4) (.cons (.v 5) .nil)))) .nil
theorem ls_loop (φ : Phi) (h9 : ∀ a b : Int, b.natAbs < 2 ^ 1999 → φ 9 [.int a, .int b] = .ok (.int (a.gcd b : Nat)) .non) (x0 x1 x2 x3 : Option D) : ∀ (l : List Int) (s : Int) (x5 : Option D), (∀ t ∈ l, t.natAbs < 2 ^ 1999) →
    ∃ x5', forRun (.name (5, [])) (evSs φ P lsB) (l.map .int) [x0, x1, x2, x3, some (.int s), x5] = .nx [x0, x1, x2, x3, some (.int (shG s l)), x5']
  | [], s, x5, _ => ⟨x5, rfl⟩
  | t :: l, s, x5, hl => by
    obtain ⟨x5', w⟩ := ls_loop φ h9 x0 x1 x2 x3 l (s.gcd t : Nat) (some (.int t)) fun y hy => hl y (List.mem_cons_of_mem _ hy)
    have k := h9 s t (hl t List.mem_cons_self)
    refine ⟨x5', ?_⟩
    have st : evSs φ P lsB [x0, x1, x2, x3, some (.int s), some (.int t)] = .nx [x0, x1, x2, x3, some (.int (s.gcd t : Nat)), some (.int t)] := by
      simp [lsB, evSs, evS, ev, evs, RE.bind, RE.o, Ev.gt, k, RF.val, RV.re, stT, Ev.stN, Ev.kill, Ev.st]
    rw [List.map_cons, for_go (e1 := [x0, x1, x2, x3, some (.int s), some (.int t)]) rfl st]
    exact w
theorem shG_nn : ∀ (l : List Int) (s : Int), 0 ≤ s → 0 ≤ shG s l
  | [], s, h => h
  | t :: l, s, _ => shG_nn l _ (Int.natCast_nonneg _)
/-- the tops over the common bottom; the answer -/
def whT (l : List (Int × Int)) : List Int := l.map fun pq => pq.1 * (comG 1 l).fdiv pq.2
def whR (l : List (Int × Int)) : List Int := if shG 0 (whT l) = 0 then whT l else (whT l).map fun t => t.fdiv (shG 0 (whT l))
end G78
set_option Elab.async false
set_option linter.all false
set_option maxRecDepth 100000
set_option maxHeartbeats 4000000
namespace G78
open PySem L2 PySem.Spec PyProof.Rows Ev
/-! k78, plain: the law's own whole numbers of a row -/
theorem mulOk_big' {i j : Int} (h : i.natAbs < 2 ^ 1999) (k : j.natAbs < 2 ^ 1999) : mulOk i j = true := by
  have h1 := log2_lt h (by decide)
  have h2 := log2_lt k (by decide)
  unfold mulOk
  simp only [decide_eq_true_eq]
  omega
def topF (c : Int) : D → D
  | .tup [.int p, .int q] => .int (p * c.fdiv q)
  | d => d
def divG (g : Int) : D → D
  | .int t => .int (t.fdiv g)
  | d => d
def okL (l : List (Int × Int)) : Prop := (∀ pq ∈ l, 0 < pq.2 ∧ pq.2 < 2 ^ 45 ∧ pq.1.natAbs < 2 ^ 45) ∧ l.length ≤ 20
theorem com_ok {l : List (Int × Int)} (h : okL l) : 0 < comG 1 l ∧ (comG 1 l).natAbs < 2 ^ 1200 := by
  obtain ⟨h1, h2⟩ := comG_ok l 1 1 (fun y hy => ⟨(h.1 y hy).1, (h.1 y hy).2.1⟩) (by decide) (by decide)
  refine ⟨h1, ?_⟩
  have e : ((2 : Int) ^ (45 * (1 + l.length))) = ((2 ^ (45 * (1 + l.length)) : Nat) : Int) := by rw [Int.natCast_pow]; rfl
  have h3 : (comG 1 l).natAbs < 2 ^ (45 * (1 + l.length)) := by omega
  have h4 := h.2
  exact Nat.lt_trans h3 (Nat.pow_lt_pow_right (by decide) (by omega))
theorem fdiv_le {c q : Int} (hc : 0 ≤ c) (hq : 0 < q) : (c.fdiv q).natAbs ≤ c.natAbs := by
  rw [Int.fdiv_eq_ediv_of_nonneg _ (by omega)]
  have h1 := Int.ediv_le_self q hc
  have h2 := Int.ediv_nonneg hc (show 0 ≤ q by omega)
  omega
theorem top_sm {l : List (Int × Int)} (h : okL l) : ∀ t ∈ whT l, t.natAbs < 2 ^ 1999 := fun t ht => by
  obtain ⟨pq, hp, rfl⟩ := List.mem_map.mp ht
  obtain ⟨h1, h2⟩ := com_ok h
  obtain ⟨q1, q2, q3⟩ := h.1 pq hp
  rw [Int.natAbs_mul]
  have h3 := fdiv_le (show 0 ≤ comG 1 l by omega) q1
  have h4 : pq.1.natAbs * ((comG 1 l).fdiv pq.2).natAbs ≤ 2 ^ 45 * 2 ^ 1200 := Nat.mul_le_mul (Nat.le_of_lt q3) (by omega)
  rw [← Nat.pow_add] at h4
  exact Nat.lt_of_le_of_lt h4 (Nat.pow_lt_pow_right (by decide) (by decide))
/-- the comprehension of the tops -/
theorem lw_tops (φ : Phi) (l : List (Int × Int)) (h : okL l) (x2 x3 x4 x5 : Option D) : ev φ P (.lc (.bin .mul (.sub (.v 2) (.int 0)) (.bin .fdiv (.v 1) (.sub (.v 2) (.int 1)))) (.one (.name (2, [])) (.seq (.v 0)) .none)) [some (.lst (l.map fun pq => tp pq.1 pq.2)), some (.int (comG 1 l)), x2, x3, x4, x5] =
    .ok (.lst ((whT l).map .int)) [some (.lst (l.map fun pq => tp pq.1 pq.2)), some (.int (comG 1 l)), x2, x3, x4, x5] := by
  obtain ⟨h1, h2⟩ := com_ok h
  have w := lc_map (tg := .name (2, [])) (tst := evc φ P .none) (elt := ev φ P (.bin .mul (.sub (.v 2) (.int 0)) (.bin .fdiv (.v 1) (.sub (.v 2) (.int 1))))) (F := topF (comG 1 l)) (e := [some (.lst (l.map fun pq => tp pq.1 pq.2)), some (.int (comG 1 l)), none, x3, x4, x5]) (l.map fun pq => tp pq.1 pq.2) []
    (by have := h.2; rw [List.length_map, sizeLine_eq]; simp; omega) (fun d hd => by
      obtain ⟨pq, hp, rfl⟩ := List.mem_map.mp hd
      obtain ⟨q1, q2, q3⟩ := h.1 pq hp
      refine ⟨[some (.lst (l.map fun pq => tp pq.1 pq.2)), some (.int (comG 1 l)), some (tp pq.1 pq.2), x3, x4, x5], [some (.lst (l.map fun pq => tp pq.1 pq.2)), some (.int (comG 1 l)), some (tp pq.1 pq.2), x3, x4, x5], [some (.lst (l.map fun pq => tp pq.1 pq.2)), some (.int (comG 1 l)), some (tp pq.1 pq.2), x3, x4, x5], rfl, by rw [evc], ?_, rfl⟩
      have s0 : opSub (.tup [.int pq.1, .int pq.2]) (.int 0) = .ok (.int pq.1) := rfl
      have s1 : opSub (.tup [.int pq.1, .int pq.2]) (.int 1) = .ok (.int pq.2) := rfl
      have d1 : divOk pq.2 = true := divOk_of (by omega) (Nat.lt_trans (show pq.2.natAbs < 2 ^ 45 by omega) (Nat.pow_lt_pow_right (by decide) (by decide)))
      have m1 : mulOk pq.1 ((comG 1 l).fdiv pq.2) = true := mulOk_big' (Nat.lt_trans q3 (Nat.pow_lt_pow_right (by decide) (by decide))) (Nat.lt_of_le_of_lt (fdiv_le (show 0 ≤ comG 1 l by omega) q1) (Nat.lt_trans h2 (Nat.pow_lt_pow_right (by decide) (by decide))))
      simp [ev, RE.bind, Ev.gt, s0, s1, opBin, binInt, d1, m1, RV.re, topF])
  have e : (l.map fun pq => tp pq.1 pq.2).map (topF (comG 1 l)) = (whT l).map .int := by
    rw [whT, List.map_map, List.map_map]
    rfl
  rw [e, List.nil_append] at w
  have g : evi φ P (.seq (.v 0)) [some (.lst (l.map fun pq => tp pq.1 pq.2)), some (.int (comG 1 l)), x2, x3, x4, x5] = .ok (l.map fun pq => tp pq.1 pq.2) [some (.lst (l.map fun pq => tp pq.1 pq.2)), some (.int (comG 1 l)), x2, x3, x4, x5] := by
    simp [evi, ev, RE.bind, Ev.gt]
  have k0 : kill (tgS (.name (2, []))) [some (.lst (l.map fun pq => tp pq.1 pq.2)), some (.int (comG 1 l)), x2, x3, x4, x5] = [some (.lst (l.map fun pq => tp pq.1 pq.2)), some (.int (comG 1 l)), none, x3, x4, x5] := rfl
  rw [ev]
  rw [g, RE.bind_ok, k0, w, RE.bind_ok]
  rfl
end G78
set_option Elab.async false
set_option linter.all false
set_option maxRecDepth 100000
set_option maxHeartbeats 4000000
namespace G78
open PySem L2 PySem.Spec PyProof.Rows Ev
/-! k78, plain: the law's own whole numbers of a row, whole -/
theorem shG_le : ∀ (l : List Int) (s : Int), s.natAbs < 2 ^ 1999 → (∀ t ∈ l, t.natAbs < 2 ^ 1999) → (shG s l).natAbs < 2 ^ 1999
  | [], s, h, _ => h
  | t :: l, s, h, hl => by
    refine shG_le l _ ?_ fun y hy => hl y (List.mem_cons_of_mem _ hy)
    rw [Int.natAbs_natCast]
    by_cases z : t = 0
    · subst z
      rw [Int.gcd_zero_right]
      exact h
    · exact Nat.lt_of_le_of_lt (Nat.le_of_dvd (Int.natAbs_pos.mpr z) (Int.gcd_dvd_natAbs_right s t)) (hl t List.mem_cons_self)
theorem lw_divs (φ : Phi) (ts : List Int) (g : Int) (g0 : g ≠ 0) (hg : g.natAbs < 2 ^ 1999) (hl : ts.length ≤ 20) (x0 x1 x2 x5 : Option D) : ev φ P (.lc (.bin .fdiv (.v 5) (.v 4)) (.one (.name (5, [])) (.seq (.v 3)) .none)) [x0, x1, x2, some (.lst (ts.map .int)), some (.int g), x5] =
    .ok (.lst ((ts.map fun t => t.fdiv g).map .int)) [x0, x1, x2, some (.lst (ts.map .int)), some (.int g), x5] := by
  have w := lc_map (tg := .name (5, [])) (tst := evc φ P .none) (elt := ev φ P (.bin .fdiv (.v 5) (.v 4))) (F := divG g) (e := [x0, x1, x2, some (.lst (ts.map .int)), some (.int g), none]) (ts.map .int) []
    (by rw [List.length_map, sizeLine_eq]; simp; omega) (fun d hd => by
      obtain ⟨t, _, rfl⟩ := List.mem_map.mp hd
      refine ⟨[x0, x1, x2, some (.lst (ts.map .int)), some (.int g), some (.int t)], [x0, x1, x2, some (.lst (ts.map .int)), some (.int g), some (.int t)], [x0, x1, x2, some (.lst (ts.map .int)), some (.int g), some (.int t)], rfl, by rw [evc], ?_, rfl⟩
      have d1 : divOk g = true := divOk_of g0 hg
      simp [ev, RE.bind, Ev.gt, opBin, binInt, d1, RV.re, divG])
  have e : (ts.map D.int).map (divG g) = (ts.map fun t => t.fdiv g).map .int := by
    rw [List.map_map, List.map_map]
    rfl
  rw [e, List.nil_append] at w
  have g1 : evi φ P (.seq (.v 3)) [x0, x1, x2, some (.lst (ts.map .int)), some (.int g), x5] = .ok (ts.map .int) [x0, x1, x2, some (.lst (ts.map .int)), some (.int g), x5] := by
    simp [evi, ev, RE.bind, Ev.gt]
  have k0 : kill (tgS (.name (5, []))) [x0, x1, x2, some (.lst (ts.map .int)), some (.int g), x5] = [x0, x1, x2, some (.lst (ts.map .int)), some (.int g), none] := rfl
  rw [ev]
  rw [g1, RE.bind_ok, k0, w, RE.bind_ok]
  rfl
theorem lw_whole (r : Nat) (l : List (Int × Int)) (h : okL l) : phiAt T P (r + 2) 16 [.lst (l.map fun pq => tp pq.1 pq.2)] = .ok (.lst ((whR l).map .int)) .non := by
  have h9 := ld_ok r
  have hs := shG_le (whT l) 0 (by decide) (top_sm h)
  have ht : (whT l).length ≤ 20 := by unfold whT; rw [List.length_map]; exact h.2
  show runF (phiAt T P (r + 1)) P c16 [.lst (l.map fun pq => tp pq.1 pq.2)] = _
  unfold runF
  rw [if_pos (show [D.lst (l.map fun pq => tp pq.1 pq.2)].length = c16.ar from rfl)]
  show fin0 true (evSs (phiAt T P (r + 1)) P c16.body [some (.lst (l.map fun pq => tp pq.1 pq.2)), none, none, none, none, none]) = _
  generalize phiAt T P (r + 1) = φ at *
  obtain ⟨x2, w1, _⟩ := lw_loop φ h9 (some (.lst (l.map fun pq => tp pq.1 pq.2))) none none none l 1 none 1 (fun y hy => ⟨(h.1 y hy).1, (h.1 y hy).2.1⟩) (by decide) (by decide) (by have := h.2; omega)
  have w2 := lw_tops φ l h x2 none none none
  obtain ⟨x5, w3⟩ := ls_loop φ h9 (some (.lst (l.map fun pq => tp pq.1 pq.2))) (some (.int (comG 1 l))) x2 (some (.lst ((whT l).map .int))) (whT l) 0 none (top_sm h)
  have g1 : evi φ P (.seq (.v 0)) [some (.lst (l.map fun pq => tp pq.1 pq.2)), some (.int 1), none, none, none, none] = .ok (l.map fun pq => tp pq.1 pq.2) [some (.lst (l.map fun pq => tp pq.1 pq.2)), some (.int 1), none, none, none, none] := by
    simp [evi, ev, RE.bind, Ev.gt]
  have g2 : evi φ P (.seq (.v 3)) [some (.lst (l.map fun pq => tp pq.1 pq.2)), some (.int (comG 1 l)), x2, some (.lst ((whT l).map .int)), some (.int 0), none] = .ok ((whT l).map .int) [some (.lst (l.map fun pq => tp pq.1 pq.2)), some (.int (comG 1 l)), x2, some (.lst ((whT l).map .int)), some (.int 0), none] := by
    simp [evi, ev, RE.bind, Ev.gt]
  generalize hrows : (l.map fun pq => tp pq.1 pq.2) = rows at *
  have A1 : evS φ P (.asg (.name (1, [])) (.int 1)) [some (.lst rows), none, none, none, none, none] = .nx [some (.lst rows), some (.int 1), none, none, none, none] := by
    simp [evS, ev, RE.o, stT, Ev.stN, Ev.kill, Ev.st]
  have A2 : evS φ P (.asg (.name (3, [])) (.lc (.bin .mul (.sub (.v 2) (.int 0)) (.bin .fdiv (.v 1) (.sub (.v 2) (.int 1)))) (.one (.name (2, [])) (.seq (.v 0)) .none))) [some (.lst rows), some (.int (comG 1 l)), x2, none, none, none] = .nx [some (.lst rows), some (.int (comG 1 l)), x2, some (.lst ((whT l).map .int)), none, none] := by
    rw [evS, w2]
    simp [RE.o, stT, Ev.stN, Ev.kill, Ev.st]
  have A3 : evS φ P (.asg (.name (4, [])) (.int 0)) [some (.lst rows), some (.int (comG 1 l)), x2, some (.lst ((whT l).map .int)), none, none] = .nx [some (.lst rows), some (.int (comG 1 l)), x2, some (.lst ((whT l).map .int)), some (.int 0), none] := by
    simp [evS, ev, RE.o, stT, Ev.stN, Ev.kill, Ev.st]
  show fin0 true (evSs φ P (.cons (.asg (.name (1, [])) (.int 1)) (.cons (.forr (.name (2, [])) (.seq (.v 0)) lwB) (.cons (.asg (.name (3, [])) (.lc (.bin .mul (.sub (.v 2) (.int 0)) (.bin .fdiv (.v 1) (.sub (.v 2) (.int 1)))) (.one (.name (2, [])) (.seq (.v 0)) .none))) (.cons (.asg (.name (4, [])) (.int 0)) (.cons (.forr (.name (5, [])) (.seq (.v 3)) lsB) (.cons (.iff (.cmp .eq (.v 4) (.int 0)) (.cons (.ret (.v 3)) .nil) .nil) (.cons (.ret (.lc (.bin .fdiv (.v 5) (.v 4)) (.one (.name (5, [])) (.seq (.v 3)) .none))) .nil))))))) [some (.lst rows), none, none, none, none, none]) = _
  rw [evSs, A1]
  dsimp only
  rw [forr_ok g1 w1, evSs, A2]
  dsimp only
  rw [evSs, A3]
  dsimp only
  rw [forr_ok g2 w3]
  unfold whR
  by_cases z : shG 0 (whT l) = 0
  · rw [if_pos z, z]
    simp [evSs, evS, ev, RE.bind, RE.o, Ev.gt, opCmp, eqI, RV.re, tru, fin0]
  · rw [if_neg z]
    have z' : (shG 0 (whT l) == 0) = false := by simpa using z
    have w4 := lw_divs φ (whT l) (shG 0 (whT l)) z hs ht (some (.lst rows)) (some (.int (comG 1 l))) x2 x5
    generalize shG 0 (whT l) = g at *
    have c0 : evSs φ P (.cons (.iff (.cmp .eq (.v 4) (.int 0)) (.cons (.ret (.v 3)) .nil) .nil) (.cons (.ret (.lc (.bin .fdiv (.v 5) (.v 4)) (.one (.name (5, [])) (.seq (.v 3)) .none))) .nil)) [some (.lst rows), some (.int (comG 1 l)), x2, some (.lst ((whT l).map .int)), some (.int g), x5] = evSs φ P (.cons (.ret (.lc (.bin .fdiv (.v 5) (.v 4)) (.one (.name (5, [])) (.seq (.v 3)) .none))) .nil) [some (.lst rows), some (.int (comG 1 l)), x2, some (.lst ((whT l).map .int)), some (.int g), x5] := by
      generalize Ss.cons (S.ret (.lc (.bin .fdiv (.v 5) (.v 4)) (.one (.name (5, [])) (.seq (.v 3)) .none))) .nil = q
      simp [evSs, evS, ev, RE.bind, RE.o, Ev.gt, opCmp, eqI, z', RV.re, tru]
    rw [c0, evSs, evS, w4]
    rfl
end G78
set_option Elab.async false
set_option linter.all false
set_option maxRecDepth 100000
set_option maxHeartbeats 4000000
namespace G78
open PySem L2 PySem.Spec PyProof.Rows Ev
/-! k78, plain: whole, its first loop -/
def prF (φ : Phi) (d : D) : D := match φ 3 [d] with
  | .ok x _ => x
  | _ => .non
def pwL : Ss := .cons (.asg (.name (2, [])) (.bin .fdiv (.bin .mul (.v 2) (.v 7)) (.call 1 (.cons (.v 2) (.cons (.v 7) .nil))))) .nil
theorem pl_step (φ : Phi) (h1 : ∀ a b : Int, b.natAbs < 2 ^ 1999 → φ 1 [.int a, .int b] = .ok (.int (a.gcd b : Nat)) .non) (x0 x1 x3 x4 x5 x8 : Option D) (c p q : Int) {m : Nat} (hm : m < 40) (hc : 0 < c) (hq : 0 < q) (bc : c < 2 ^ (45 * m)) (bq : q < 2 ^ 45) :
    evSs φ P pwL [x0, x1, some (.int c), x3, x4, x5, some (.int p), some (.int q), x8] = .nx [x0, x1, some (.int (comS c q)), x3, x4, x5, some (.int p), some (.int q), x8] := by
  have b1 : q.natAbs < 2 ^ 1999 := by
    have : q.natAbs < 2 ^ 45 := by omega
    exact Nat.lt_trans this (Nat.pow_lt_pow_right (by decide) (by decide))
  have b2 : c.natAbs < 2 ^ 1999 := by
    have e : ((2 : Int) ^ (45 * m)) = ((2 ^ (45 * m) : Nat) : Int) := by rw [Int.natCast_pow]; rfl
    have : c.natAbs < 2 ^ (45 * m) := by omega
    exact Nat.lt_trans this (Nat.pow_lt_pow_right (by decide) (by omega))
  have g0 : ((c.gcd q : Nat) : Int) ≠ 0 := by
    have := Int.gcd_pos_of_ne_zero_right c (show q ≠ 0 by omega)
    omega
  have gl : c.gcd q ≤ q.natAbs := Nat.le_of_dvd (by omega) (Int.gcd_dvd_natAbs_right c q)
  have d1 : divOk ((c.gcd q : Nat) : Int) = true := divOk_of g0 (by rw [Int.natAbs_natCast]; omega)
  have m1 : mulOk c q = true := mulOk_big' b2 b1
  have k := h1 c q b1
  simp [pwL, evSs, evS, ev, evs, RE.bind, RE.o, Ev.gt, k, m1, d1, opBin, binInt, RF.val, RV.re, stT, Ev.stN, Ev.kill, Ev.st, comS]
theorem pl_loop (φ : Phi) (h1 : ∀ a b : Int, b.natAbs < 2 ^ 1999 → φ 1 [.int a, .int b] = .ok (.int (a.gcd b : Nat)) .non) (x0 x1 x3 x4 x5 x8 : Option D) : ∀ (l : List (Int × Int)) (c : Int) (x6 x7 : Option D) (m : Nat), (∀ pq ∈ l, 0 < pq.2 ∧ pq.2 < 2 ^ 45) → 0 < c → c < 2 ^ (45 * m) → m + l.length ≤ 40 →
    ∃ x6' x7', forRun (.tup [(6, []), (7, [])]) (evSs φ P pwL) (l.map fun pq => tp pq.1 pq.2) [x0, x1, some (.int c), x3, x4, x5, x6, x7, x8] = .nx [x0, x1, some (.int (comG c l)), x3, x4, x5, x6', x7', x8]
  | [], c, x6, x7, m, _, hc, _, _ => ⟨x6, x7, rfl⟩
  | pq :: l, c, x6, x7, m, hl, hc, bc, hm => by
    obtain ⟨hq, bq⟩ := hl pq List.mem_cons_self
    rw [List.length_cons] at hm
    obtain ⟨z1, z2⟩ := comS_ok hc hq bc bq
    obtain ⟨x6', x7', w⟩ := pl_loop φ h1 x0 x1 x3 x4 x5 x8 l (comS c pq.2) (some (.int pq.1)) (some (.int pq.2)) (m + 1) (fun y hy => hl y (List.mem_cons_of_mem _ hy)) z1 z2 (by omega)
    refine ⟨x6', x7', ?_⟩
    rw [List.map_cons, for_go (e1 := [x0, x1, some (.int c), x3, x4, x5, some (.int pq.1), some (.int pq.2), x8]) rfl (pl_step φ h1 x0 x1 x3 x4 x5 x8 c pq.1 pq.2 (by omega) hc hq bc bq)]
    exact w
def psB : Ss := .cons (.asg (.name (4, [])) (.call 1 (.cons (.v 4) (.cons (.v 5) .nil)))) .nil
theorem ps_loop (φ : Phi) (h1 : ∀ a b : Int, b.natAbs < 2 ^ 1999 → φ 1 [.int a, .int b] = .ok (.int (a.gcd b : Nat)) .non) (x0 x1 x2 x3 x6 x7 x8 : Option D) : ∀ (l : List Int) (s : Int) (x5 : Option D), (∀ t ∈ l, t.natAbs < 2 ^ 1999) →
    ∃ x5', forRun (.name (5, [])) (evSs φ P psB) (l.map .int) [x0, x1, x2, x3, some (.int s), x5, x6, x7, x8] = .nx [x0, x1, x2, x3, some (.int (shG s l)), x5', x6, x7, x8]
  | [], s, x5, _ => ⟨x5, rfl⟩
  | t :: l, s, x5, hl => by
    obtain ⟨x5', w⟩ := ps_loop φ h1 x0 x1 x2 x3 x6 x7 x8 l (s.gcd t : Nat) (some (.int t)) fun y hy => hl y (List.mem_cons_of_mem _ hy)
    have k := h1 s t (hl t List.mem_cons_self)
    refine ⟨x5', ?_⟩
    have st : evSs φ P psB [x0, x1, x2, x3, some (.int s), some (.int t), x6, x7, x8] = .nx [x0, x1, x2, x3, some (.int (s.gcd t : Nat)), some (.int t), x6, x7, x8] := by
      simp [psB, evSs, evS, ev, evs, RE.bind, RE.o, Ev.gt, k, RF.val, RV.re, stT, Ev.stN, Ev.kill, Ev.st]
    rw [List.map_cons, for_go (e1 := [x0, x1, x2, x3, some (.int s), some (.int t), x6, x7, x8]) rfl st]
    exact w
end G78
set_option Elab.async false
set_option linter.all false
set_option maxRecDepth 100000
set_option maxHeartbeats 4000000
namespace G78
open PySem L2 PySem.Spec PyProof.Rows Ev
/-! k78, plain: whole's comprehensions -/
theorem wp_pairs (φ : Phi) (ys : List D) (hl : ys.length ≤ 20) (h : ∀ y ∈ ys, ∃ x, φ 3 [y] = .ok x .non) (x1 x2 x3 x4 x5 x6 x7 x8 : Option D) : ev φ P (.lc (.call 3 (.cons (.v 8) .nil)) (.one (.name (8, [])) (.seq (.v 0)) .none)) [some (.lst ys), x1, x2, x3, x4, x5, x6, x7, x8] = .ok (.lst (ys.map (prF φ))) [some (.lst ys), x1, x2, x3, x4, x5, x6, x7, x8] := by
  have w := lc_map (tg := .name (8, [])) (tst := evc φ P .none) (elt := ev φ P (.call 3 (.cons (.v 8) .nil))) (F := prF φ) (e := [some (.lst ys), x1, x2, x3, x4, x5, x6, x7, none]) ys []
    (by rw [sizeLine_eq]; simp; omega) (fun d hd => by
      obtain ⟨x, hx⟩ := h d hd
      refine ⟨[some (.lst ys), x1, x2, x3, x4, x5, x6, x7, some d], [some (.lst ys), x1, x2, x3, x4, x5, x6, x7, some d], [some (.lst ys), x1, x2, x3, x4, x5, x6, x7, some d], rfl, by rw [evc], ?_, rfl⟩
      have hf : prF φ d = x := by unfold prF; rw [hx]
      simp [ev, evs, RE.bind, Ev.gt, hx, hf, RF.val, RV.re])
  rw [List.nil_append] at w
  have g1 : evi φ P (.seq (.v 0)) [some (.lst ys), x1, x2, x3, x4, x5, x6, x7, x8] = .ok ys [some (.lst ys), x1, x2, x3, x4, x5, x6, x7, x8] := by
    simp [evi, ev, RE.bind, Ev.gt]
  have k0 : kill (tgS (.name (8, []))) [some (.lst ys), x1, x2, x3, x4, x5, x6, x7, x8] = [some (.lst ys), x1, x2, x3, x4, x5, x6, x7, none] := rfl
  rw [ev]
  rw [g1, RE.bind_ok, k0, w, RE.bind_ok]
  rfl
theorem wp_divs (φ : Phi) (ts : List Int) (g : Int) (g0 : g ≠ 0) (hg : g.natAbs < 2 ^ 1999) (hl : ts.length ≤ 20) (x0 x1 x2 x5 x6 x7 x8 : Option D) : ev φ P (.lc (.bin .fdiv (.v 5) (.v 4)) (.one (.name (5, [])) (.seq (.v 3)) .none)) [x0, x1, x2, some (.lst (ts.map .int)), some (.int g), x5, x6, x7, x8] =
    .ok (.lst ((ts.map fun t => t.fdiv g).map .int)) [x0, x1, x2, some (.lst (ts.map .int)), some (.int g), x5, x6, x7, x8] := by
  have w := lc_map (tg := .name (5, [])) (tst := evc φ P .none) (elt := ev φ P (.bin .fdiv (.v 5) (.v 4))) (F := divG g) (e := [x0, x1, x2, some (.lst (ts.map .int)), some (.int g), none, x6, x7, x8]) (ts.map .int) []
    (by rw [List.length_map, sizeLine_eq]; simp; omega) (fun d hd => by
      obtain ⟨t, _, rfl⟩ := List.mem_map.mp hd
      refine ⟨[x0, x1, x2, some (.lst (ts.map .int)), some (.int g), some (.int t), x6, x7, x8], [x0, x1, x2, some (.lst (ts.map .int)), some (.int g), some (.int t), x6, x7, x8], [x0, x1, x2, some (.lst (ts.map .int)), some (.int g), some (.int t), x6, x7, x8], rfl, by rw [evc], ?_, rfl⟩
      have d1 : divOk g = true := divOk_of g0 hg
      simp [ev, RE.bind, Ev.gt, opBin, binInt, d1, RV.re, divG])
  have e : (ts.map D.int).map (divG g) = (ts.map fun t => t.fdiv g).map .int := by
    rw [List.map_map, List.map_map]
    rfl
  rw [e, List.nil_append] at w
  have g1 : evi φ P (.seq (.v 3)) [x0, x1, x2, some (.lst (ts.map .int)), some (.int g), x5, x6, x7, x8] = .ok (ts.map .int) [x0, x1, x2, some (.lst (ts.map .int)), some (.int g), x5, x6, x7, x8] := by
    simp [evi, ev, RE.bind, Ev.gt]
  have k0 : kill (tgS (.name (5, []))) [x0, x1, x2, some (.lst (ts.map .int)), some (.int g), x5, x6, x7, x8] = [x0, x1, x2, some (.lst (ts.map .int)), some (.int g), none, x6, x7, x8] := rfl
  rw [ev]
  rw [g1, RE.bind_ok, k0, w, RE.bind_ok]
  rfl
end G78
set_option Elab.async false
set_option linter.all false
set_option maxRecDepth 100000
set_option maxHeartbeats 4000000
namespace G78
open PySem L2 PySem.Spec PyProof.Rows Ev
/-! k78, plain: whole's tops -/
theorem wp_tops (φ : Phi) (l : List (Int × Int)) (h : okL l) (x0 x3 x4 x5 x6 x7 x8 : Option D) : ev φ P (.lc (.bin .mul (.v 5) (.bin .fdiv (.v 2) (.v 7))) (.one (.tup [(5, []), (7, [])]) (.seq (.v 1)) .none)) [x0, some (.lst (l.map fun pq => tp pq.1 pq.2)), some (.int (comG 1 l)), x3, x4, x5, x6, x7, x8] =
    .ok (.lst ((whT l).map .int)) [x0, some (.lst (l.map fun pq => tp pq.1 pq.2)), some (.int (comG 1 l)), x3, x4, x5, x6, x7, x8] := by
  obtain ⟨h1, h2⟩ := com_ok h
  have w := lc_map (tg := .tup [(5, []), (7, [])]) (tst := evc φ P .none) (elt := ev φ P (.bin .mul (.v 5) (.bin .fdiv (.v 2) (.v 7)))) (F := topF (comG 1 l)) (e := [x0, some (.lst (l.map fun pq => tp pq.1 pq.2)), some (.int (comG 1 l)), x3, x4, none, x6, none, x8]) (l.map fun pq => tp pq.1 pq.2) []
    (by have := h.2; rw [List.length_map, sizeLine_eq]; simp; omega) (fun d hd => by
      obtain ⟨pq, hp, rfl⟩ := List.mem_map.mp hd
      obtain ⟨q1, q2, q3⟩ := h.1 pq hp
      refine ⟨[x0, some (.lst (l.map fun pq => tp pq.1 pq.2)), some (.int (comG 1 l)), x3, x4, some (.int pq.1), x6, some (.int pq.2), x8], [x0, some (.lst (l.map fun pq => tp pq.1 pq.2)), some (.int (comG 1 l)), x3, x4, some (.int pq.1), x6, some (.int pq.2), x8], [x0, some (.lst (l.map fun pq => tp pq.1 pq.2)), some (.int (comG 1 l)), x3, x4, some (.int pq.1), x6, some (.int pq.2), x8], rfl, by rw [evc], ?_, rfl⟩
      have d1 : divOk pq.2 = true := divOk_of (by omega) (Nat.lt_trans (show pq.2.natAbs < 2 ^ 45 by omega) (Nat.pow_lt_pow_right (by decide) (by decide)))
      have m1 : mulOk pq.1 ((comG 1 l).fdiv pq.2) = true := mulOk_big' (Nat.lt_trans q3 (Nat.pow_lt_pow_right (by decide) (by decide))) (Nat.lt_of_le_of_lt (fdiv_le (show 0 ≤ comG 1 l by omega) q1) (Nat.lt_trans h2 (Nat.pow_lt_pow_right (by decide) (by decide))))
      simp [ev, RE.bind, Ev.gt, opBin, binInt, d1, m1, RV.re, topF])
  have e : (l.map fun pq => tp pq.1 pq.2).map (topF (comG 1 l)) = (whT l).map .int := by
    rw [whT, List.map_map, List.map_map]
    rfl
  rw [e, List.nil_append] at w
  have g : evi φ P (.seq (.v 1)) [x0, some (.lst (l.map fun pq => tp pq.1 pq.2)), some (.int (comG 1 l)), x3, x4, x5, x6, x7, x8] = .ok (l.map fun pq => tp pq.1 pq.2) [x0, some (.lst (l.map fun pq => tp pq.1 pq.2)), some (.int (comG 1 l)), x3, x4, x5, x6, x7, x8] := by
    simp [evi, ev, RE.bind, Ev.gt]
  have k0 : kill (tgS (.tup [(5, []), (7, [])])) [x0, some (.lst (l.map fun pq => tp pq.1 pq.2)), some (.int (comG 1 l)), x3, x4, x5, x6, x7, x8] = [x0, some (.lst (l.map fun pq => tp pq.1 pq.2)), some (.int (comG 1 l)), x3, x4, none, x6, none, x8] := rfl
  rw [ev]
  rw [g, RE.bind_ok, k0, w, RE.bind_ok]
  rfl
end G78
set_option Elab.async false
set_option linter.all false
set_option maxRecDepth 100000
set_option maxHeartbeats 4000000
namespace G78
open PySem L2 PySem.Spec PyProof.Rows Ev
/-! k78, plain: whole -/
theorem whole_ok (r : Nat) (l : List (Int × Int)) (ys : List D) (h : okL l) (hy : ∀ y ∈ ys, ∃ x, phiAt T P (r + 2) 3 [y] = .ok x .non) (hm : ys.map (prF (phiAt T P (r + 2))) = l.map fun pq => tp pq.1 pq.2) :
    phiAt T P (r + 3) 5 [.lst ys] = .ok (.tup ((whR l).map .int)) .non := by
  have h9 := dv_ok (r + 1)
  have hs := shG_le (whT l) 0 (by decide) (top_sm h)
  have ht : (whT l).length ≤ 20 := by unfold whT; rw [List.length_map]; exact h.2
  have hyl : ys.length ≤ 20 := by
    have := congrArg List.length hm
    rw [List.length_map, List.length_map] at this
    rw [this]
    exact h.2
  show runF (phiAt T P (r + 2)) P c5 [.lst ys] = _
  unfold runF
  rw [if_pos (show [D.lst ys].length = c5.ar from rfl)]
  show fin0 true (evSs (phiAt T P (r + 2)) P c5.body [some (.lst ys), none, none, none, none, none, none, none, none]) = _
  have w0 := wp_pairs (phiAt T P (r + 2)) ys hyl hy none none none none none none none none
  rw [hm] at w0
  generalize phiAt T P (r + 2) = φ at *
  obtain ⟨x6, x7, w1⟩ := pl_loop φ h9 (some (.lst ys)) (some (.lst (l.map fun pq => tp pq.1 pq.2))) none none none none l 1 none none 1 (fun y hy => ⟨(h.1 y hy).1, (h.1 y hy).2.1⟩) (by decide) (by decide) (by have := h.2; omega)
  have w2 := wp_tops φ l h (some (.lst ys)) none none none x6 x7 none
  obtain ⟨x5, w3⟩ := ps_loop φ h9 (some (.lst ys)) (some (.lst (l.map fun pq => tp pq.1 pq.2))) (some (.int (comG 1 l))) (some (.lst ((whT l).map .int))) x6 x7 none (whT l) 0 none (top_sm h)
  have g1 : evi φ P (.seq (.v 1)) [some (.lst ys), some (.lst (l.map fun pq => tp pq.1 pq.2)), some (.int 1), none, none, none, none, none, none] = .ok (l.map fun pq => tp pq.1 pq.2) [some (.lst ys), some (.lst (l.map fun pq => tp pq.1 pq.2)), some (.int 1), none, none, none, none, none, none] := by
    simp [evi, ev, RE.bind, Ev.gt]
  generalize hrows : (l.map fun pq => tp pq.1 pq.2) = rows at *
  have g2 : evi φ P (.seq (.v 3)) [some (.lst ys), some (.lst rows), some (.int (comG 1 l)), some (.lst ((whT l).map .int)), some (.int 0), none, x6, x7, none] = .ok ((whT l).map .int) [some (.lst ys), some (.lst rows), some (.int (comG 1 l)), some (.lst ((whT l).map .int)), some (.int 0), none, x6, x7, none] := by
    simp [evi, ev, RE.bind, Ev.gt]
  have A0 : evS φ P (.asg (.name (1, [])) (.lc (.call 3 (.cons (.v 8) .nil)) (.one (.name (8, [])) (.seq (.v 0)) .none))) [some (.lst ys), none, none, none, none, none, none, none, none] = .nx [some (.lst ys), some (.lst rows), none, none, none, none, none, none, none] := by
    rw [evS, w0]
    simp [RE.o, stT, Ev.stN, Ev.kill, Ev.st]
  have A1 : evS φ P (.asg (.name (2, [])) (.int 1)) [some (.lst ys), some (.lst rows), none, none, none, none, none, none, none] = .nx [some (.lst ys), some (.lst rows), some (.int 1), none, none, none, none, none, none] := by
    simp [evS, ev, RE.o, stT, Ev.stN, Ev.kill, Ev.st]
  have A2 : evS φ P (.asg (.name (3, [])) (.lc (.bin .mul (.v 5) (.bin .fdiv (.v 2) (.v 7))) (.one (.tup [(5, []), (7, [])]) (.seq (.v 1)) .none))) [some (.lst ys), some (.lst rows), some (.int (comG 1 l)), none, none, none, x6, x7, none] = .nx [some (.lst ys), some (.lst rows), some (.int (comG 1 l)), some (.lst ((whT l).map .int)), none, none, x6, x7, none] := by
    rw [evS, w2]
    simp [RE.o, stT, Ev.stN, Ev.kill, Ev.st]
  have A3 : evS φ P (.asg (.name (4, [])) (.int 0)) [some (.lst ys), some (.lst rows), some (.int (comG 1 l)), some (.lst ((whT l).map .int)), none, none, x6, x7, none] = .nx [some (.lst ys), some (.lst rows), some (.int (comG 1 l)), some (.lst ((whT l).map .int)), some (.int 0), none, x6, x7, none] := by
    simp [evS, ev, RE.o, stT, Ev.stN, Ev.kill, Ev.st]
  show fin0 true (evSs φ P (.cons (.asg (.name (1, [])) (.lc (.call 3 (.cons (.v 8) .nil)) (.one (.name (8, [])) (.seq (.v 0)) .none))) (.cons (.asg (.name (2, [])) (.int 1)) (.cons (.forr (.tup [(6, []), (7, [])]) (.seq (.v 1)) pwL) (.cons (.asg (.name (3, [])) (.lc (.bin .mul (.v 5) (.bin .fdiv (.v 2) (.v 7))) (.one (.tup [(5, []), (7, [])]) (.seq (.v 1)) .none))) (.cons (.asg (.name (4, [])) (.int 0)) (.cons (.forr (.name (5, [])) (.seq (.v 3)) psB) (.cons (.iff (.cmp .eq (.v 4) (.int 0)) (.cons (.ret (.bi .tuple (.cons (.v 3) .nil))) .nil) .nil) (.cons (.ret (.bi .tuple (.cons (.lc (.bin .fdiv (.v 5) (.v 4)) (.one (.name (5, [])) (.seq (.v 3)) .none)) .nil))) .nil)))))))) [some (.lst ys), none, none, none, none, none, none, none, none]) = _
  rw [evSs, A0]
  dsimp only
  rw [evSs, A1]
  dsimp only
  rw [forr_ok g1 w1, evSs, A2]
  dsimp only
  rw [evSs, A3]
  dsimp only
  rw [forr_ok g2 w3]
  unfold whR
  by_cases z : shG 0 (whT l) = 0
  · rw [if_pos z, z]
    simp [evSs, evS, ev, evs, RE.bind, RE.o, Ev.gt, opCmp, eqI, opBi, RV.re, tru, fin0]
  · rw [if_neg z]
    have z' : (shG 0 (whT l) == 0) = false := by simpa using z
    have w4 := wp_divs φ (whT l) (shG 0 (whT l)) z hs ht (some (.lst ys)) (some (.lst rows)) (some (.int (comG 1 l))) x5 x6 x7 none
    generalize shG 0 (whT l) = g at *
    generalize hE : E.lc (.bin .fdiv (.v 5) (.v 4)) (.one (.name (5, [])) (.seq (.v 3)) .none) = q at *
    simp [evSs, evS, ev, evs, RE.bind, RE.o, Ev.gt, opCmp, eqI, z', w4, opBi, RV.re, tru, fin0]
end G78
set_option Elab.async false
set_option linter.all false
set_option maxRecDepth 100000
set_option maxHeartbeats 4000000
namespace G78
open PySem L2 PySem.Spec PyProof.Rows Ev
/-! k78, plain: the row that _law_whole_good draws -/
def IT (z : D × (Int × Int)) : Prop := (z.1 = fr z.2.1 z.2.2 ∨ (z.1 = .int z.2.1 ∧ z.2.2 = 1)) ∧ 0 < z.2.2 ∧ z.2.2 < 2 ^ 45 ∧ z.2.1.natAbs < 2 ^ 45
def ysO (zs : List (D × (Int × Int))) : List D := zs.map Prod.fst
def psO (zs : List (D × (Int × Int))) : List D := zs.map fun z => tp z.2.1 z.2.2
theorem ysO_app (zs : List (D × (Int × Int))) (z : D × (Int × Int)) : ysO (zs ++ [z]) = ysO zs ++ [z.1] := by simp [ysO]
theorem psO_app (zs : List (D × (Int × Int))) (z : D × (Int × Int)) : psO (zs ++ [z]) = psO zs ++ [tp z.2.1 z.2.2] := by simp [psO]
theorem ixN_last (n : Nat) : L2.ixN (n + 1) (n : Int) = some n := by
  unfold L2.ixN
  rw [if_pos (by omega), if_pos (by omega)]
  rfl
def wgB : Ss := (.cons (.asg (.tup [(8, []), (9, [])]) (.callI 17 0 0 .nil)) (.cons (.app 4 .nil (.call 10 (.cons (.v 8) (.cons (.v 9) .nil)))) (.cons (.app 3 .nil (.new 0 25 (.cons (.v 8) (.cons (.v 9) .nil)))) (.cons (.iff (.cmp .eq (.v 9) (.int 1)) (.cons (.set 3 .nil (.bin .sub (.bi .len (.cons (.v 3) .nil)) (.int 1)) (.v 8)) .nil) .nil) .nil))))
theorem set_last (ys : List D) (x y : D) : setF (.int ((ys.length : Int) + 1 - 1)) y (.lst (ys ++ [x])) = some (.lst (ys ++ [y])) := by
  have e : L2.ixN (ys ++ [x]).length ((ys.length : Int) + 1 - 1) = some ys.length := by
    rw [List.length_append, List.length_singleton, Int.add_sub_cancel]
    exact ixN_last _
  unfold setF
  simp only [e]
  rw [List.set_append_right _ _ (Nat.le_refl _), Nat.sub_self]
  rfl
theorem wg_step (a b : Int) (L : List Int) (hL : ∀ y ∈ L, (0 : Int) ≤ y) (hl : L.length ≤ 3528) (ys ps : List D) (hn : ys.length < 10) (hm : ps.length < 10) (x5 x8 x9 : Option D) :
    ∃ (L' : List Int) (z : D × (Int × Int)) (x8' x9' : Option D), evSs (phiAt T P 8) P wgB [some (.lst (L.map .int)), some (fr a b), some (tp a b), some (.lst ys), some (.lst ps), x5, none, none, x8, x9, none, none, none] =
      .nx [some (.lst (L'.map .int)), some (fr a b), some (tp a b), some (.lst (ys ++ [z.1])), some (.lst (ps ++ [tp z.2.1 z.2.2])), x5, none, none, x8', x9', none, none, none] ∧ IT z ∧ (∀ y ∈ L', (0 : Int) ≤ y) ∧ L'.length ≤ 3528 := by
  obtain ⟨t, bt, L', e1, ht, hb, hL', hl'⟩ := drawn_ok 6 L hL hl
  obtain ⟨b0, bm⟩ := bots_ms bt hb
  obtain ⟨ts, tm⟩ := tops_ms t ht
  have big : ∀ {x : Int}, x.natAbs < 2 ^ 45 → x.natAbs < 2 ^ 1999 := fun h => Nat.lt_trans h (Nat.pow_lt_pow_right (by decide) (by decide))
  have l1 : phiAt T P 8 10 [.int t, .int bt] = _ := ll_ok 6 t bt b0 (big bm)
  have i1 : phiAt T P 8 25 [.ins 0 [], .int t, .int bt] = _ := ini_ok 5 t bt b0 (big bm)
  obtain ⟨p1, p2, _⟩ := low_spec t bt b0
  have Ma : (lowT t bt).natAbs < 2 ^ 45 := Nat.lt_of_le_of_lt (lowT_le t bt b0) tm
  have Mb : (lowB t bt).natAbs < 2 ^ 45 := Nat.lt_of_le_of_lt (lowB_le t bt b0) bm
  have Mb' : lowB t bt < 2 ^ 45 := by omega
  have hy : ys.length < sizeLine := by rw [sizeLine_eq]; omega
  have hp : ps.length < sizeLine := by rw [sizeLine_eq]; omega
  by_cases z : bt = 1
  · subst z
    obtain ⟨q1, q2⟩ := low_id (a := t) (b := 1) (by decide) (by simp)
    rw [q1, q2] at l1 i1
    refine ⟨L', (.int t, (t, 1)), some (.int t), some (.int 1), ?_, ⟨.inr ⟨rfl, rfl⟩, (by decide : (0 : Int) < 1), (by decide : (1 : Int) < 2 ^ 45), tm⟩, hL', hl'⟩
    generalize phiAt T P 8 = φ at *
    have e9 : (1 : Int) == 1 := rfl
    have es := set_last ys (.ins 0 [.int t, .int 1]) (.int t)
    rw [Int.add_sub_cancel] at es
    simp [wgB, evSs, evS, ev, evs, RE.bind, RE.o, Ev.gt, e1, l1, i1, lend, lendR, insA, RF.val, RV.re, stT, stNs, Ev.stN, Ev.kill, Ev.st, upd1, updP, appF, hy, hp, opCmp, eqI, tru, opBi, opBin, binInt, es, tp]
  · have z' : (bt == 1) = false := by simpa using z
    refine ⟨L', (fr (lowT t bt) (lowB t bt), (lowT t bt, lowB t bt)), some (.int t), some (.int bt), ?_, ⟨.inl rfl, p1, Mb', Ma⟩, hL', hl'⟩
    generalize phiAt T P 8 = φ at *
    simp [wgB, evSs, evS, ev, evs, RE.bind, RE.o, Ev.gt, e1, l1, i1, lend, lendR, insA, RF.val, RV.re, stT, stNs, Ev.stN, Ev.kill, Ev.st, upd1, updP, appF, hy, hp, opCmp, eqI, tru, z', tp, fr]
theorem wg_loop (a b : Int) (L : List Int) (hL : ∀ y ∈ L, (0 : Int) ≤ y) (hl : L.length ≤ 3528) (k : Int) (hk : k < 6) (ds : List D) (hd : ds.length ≤ 6) (x5 x8 x9 : Option D) :
    ∃ (L' : List Int) (zs : List (D × (Int × Int))) (x5' x8' x9' : Option D), forRun (.name (5, [])) (evSs (phiAt T P 8) P wgB) ds [some (.lst (L.map .int)), some (fr a b), some (tp a b), some (.lst []), some (.lst []), x5, none, none, x8, x9, none, none, none] =
      .nx [some (.lst (L'.map .int)), some (fr a b), some (tp a b), some (.lst (ysO zs)), some (.lst (psO zs)), x5', none, none, x8', x9', none, none, none] ∧ (∀ z ∈ zs, IT z) ∧ zs.length ≤ 6 := by
  obtain ⟨e', h1, L', zs, y5, y8, y9, h2, h3, h4, h5, h6⟩ := forRun_inv (tg := .name (5, [])) (body := evSs (phiAt T P 8) P wgB) (fun n e => ∃ (L : List Int) (zs : List (D × (Int × Int))) (x5 x8 x9 : Option D), e = [some (.lst (L.map .int)), some (fr a b), some (tp a b), some (.lst (ysO zs)), some (.lst (psO zs)), x5, none, none, x8, x9, none, none, none] ∧ (∀ z ∈ zs, IT z) ∧ zs.length = n ∧ (∀ y ∈ L, (0 : Int) ≤ y) ∧ L.length ≤ 3528) 6 ds 0 [some (.lst (L.map .int)), some (fr a b), some (tp a b), some (.lst []), some (.lst []), x5, none, none, x8, x9, none, none, none] (by omega) ⟨L, [], x5, x8, x9, rfl, by simp, rfl, hL, hl⟩ (fun n d e hn hdd ⟨L, zs, x5, x8, x9, he, hz, hzn, hL, hl⟩ => by
    subst he
    refine ⟨[some (.lst (L.map .int)), some (fr a b), some (tp a b), some (.lst (ysO zs)), some (.lst (psO zs)), some d, none, none, x8, x9, none, none, none], rfl, ?_⟩
    obtain ⟨L', z, x8', x9', w, hi, hL', hl'⟩ := wg_step a b L hL hl (ysO zs) (psO zs) (by unfold ysO; rw [List.length_map]; omega) (by unfold psO; rw [List.length_map]; omega) (some d) x8 x9
    refine ⟨_, w, L', zs ++ [z], some d, x8', x9', by rw [ysO_app, psO_app], ?_, by rw [List.length_append, hzn]; rfl, hL', hl'⟩
    intro y hy
    rcases List.mem_append.mp hy with hy | hy
    · exact hz y hy
    · rw [List.mem_singleton.mp hy]; exact hi)
  exact ⟨L', zs, y5, y8, y9, by rw [h1, h2], h3, by omega⟩
end G78
set_option Elab.async false
set_option linter.all false
set_option maxRecDepth 100000
set_option maxHeartbeats 4000000
namespace G78
open PySem L2 PySem.Spec PyProof.Rows Ev
/-! k78, plain: whole, of a tuple -/
theorem wp_pairsT (φ : Phi) (ys : List D) (hl : ys.length ≤ 20) (h : ∀ y ∈ ys, ∃ x, φ 3 [y] = .ok x .non) (x1 x2 x3 x4 x5 x6 x7 x8 : Option D) : ev φ P (.lc (.call 3 (.cons (.v 8) .nil)) (.one (.name (8, [])) (.seq (.v 0)) .none)) [some (.tup ys), x1, x2, x3, x4, x5, x6, x7, x8] = .ok (.lst (ys.map (prF φ))) [some (.tup ys), x1, x2, x3, x4, x5, x6, x7, x8] := by
  have w := lc_map (tg := .name (8, [])) (tst := evc φ P .none) (elt := ev φ P (.call 3 (.cons (.v 8) .nil))) (F := prF φ) (e := [some (.tup ys), x1, x2, x3, x4, x5, x6, x7, none]) ys []
    (by rw [sizeLine_eq]; simp; omega) (fun d hd => by
      obtain ⟨x, hx⟩ := h d hd
      refine ⟨[some (.tup ys), x1, x2, x3, x4, x5, x6, x7, some d], [some (.tup ys), x1, x2, x3, x4, x5, x6, x7, some d], [some (.tup ys), x1, x2, x3, x4, x5, x6, x7, some d], rfl, by rw [evc], ?_, rfl⟩
      have hf : prF φ d = x := by unfold prF; rw [hx]
      simp [ev, evs, RE.bind, Ev.gt, hx, hf, RF.val, RV.re])
  rw [List.nil_append] at w
  have g1 : evi φ P (.seq (.v 0)) [some (.tup ys), x1, x2, x3, x4, x5, x6, x7, x8] = .ok ys [some (.tup ys), x1, x2, x3, x4, x5, x6, x7, x8] := by
    simp [evi, ev, RE.bind, Ev.gt]
  have k0 : kill (tgS (.name (8, []))) [some (.tup ys), x1, x2, x3, x4, x5, x6, x7, x8] = [some (.tup ys), x1, x2, x3, x4, x5, x6, x7, none] := rfl
  rw [ev]
  rw [g1, RE.bind_ok, k0, w, RE.bind_ok]
  rfl
theorem whole_okT (r : Nat) (l : List (Int × Int)) (ys : List D) (h : okL l) (hy : ∀ y ∈ ys, ∃ x, phiAt T P (r + 2) 3 [y] = .ok x .non) (hm : ys.map (prF (phiAt T P (r + 2))) = l.map fun pq => tp pq.1 pq.2) :
    phiAt T P (r + 3) 5 [.tup ys] = .ok (.tup ((whR l).map .int)) .non := by
  have h9 := dv_ok (r + 1)
  have hs := shG_le (whT l) 0 (by decide) (top_sm h)
  have ht : (whT l).length ≤ 20 := by unfold whT; rw [List.length_map]; exact h.2
  have hyl : ys.length ≤ 20 := by
    have := congrArg List.length hm
    rw [List.length_map, List.length_map] at this
    rw [this]
    exact h.2
  show runF (phiAt T P (r + 2)) P c5 [.tup ys] = _
  unfold runF
  rw [if_pos (show [D.tup ys].length = c5.ar from rfl)]
  show fin0 true (evSs (phiAt T P (r + 2)) P c5.body [some (.tup ys), none, none, none, none, none, none, none, none]) = _
  have w0 := wp_pairsT (phiAt T P (r + 2)) ys hyl hy none none none none none none none none
  rw [hm] at w0
  generalize phiAt T P (r + 2) = φ at *
  obtain ⟨x6, x7, w1⟩ := pl_loop φ h9 (some (.tup ys)) (some (.lst (l.map fun pq => tp pq.1 pq.2))) none none none none l 1 none none 1 (fun y hy => ⟨(h.1 y hy).1, (h.1 y hy).2.1⟩) (by decide) (by decide) (by have := h.2; omega)
  have w2 := wp_tops φ l h (some (.tup ys)) none none none x6 x7 none
  obtain ⟨x5, w3⟩ := ps_loop φ h9 (some (.tup ys)) (some (.lst (l.map fun pq => tp pq.1 pq.2))) (some (.int (comG 1 l))) (some (.lst ((whT l).map .int))) x6 x7 none (whT l) 0 none (top_sm h)
  have g1 : evi φ P (.seq (.v 1)) [some (.tup ys), some (.lst (l.map fun pq => tp pq.1 pq.2)), some (.int 1), none, none, none, none, none, none] = .ok (l.map fun pq => tp pq.1 pq.2) [some (.tup ys), some (.lst (l.map fun pq => tp pq.1 pq.2)), some (.int 1), none, none, none, none, none, none] := by
    simp [evi, ev, RE.bind, Ev.gt]
  generalize hrows : (l.map fun pq => tp pq.1 pq.2) = rows at *
  have g2 : evi φ P (.seq (.v 3)) [some (.tup ys), some (.lst rows), some (.int (comG 1 l)), some (.lst ((whT l).map .int)), some (.int 0), none, x6, x7, none] = .ok ((whT l).map .int) [some (.tup ys), some (.lst rows), some (.int (comG 1 l)), some (.lst ((whT l).map .int)), some (.int 0), none, x6, x7, none] := by
    simp [evi, ev, RE.bind, Ev.gt]
  have A0 : evS φ P (.asg (.name (1, [])) (.lc (.call 3 (.cons (.v 8) .nil)) (.one (.name (8, [])) (.seq (.v 0)) .none))) [some (.tup ys), none, none, none, none, none, none, none, none] = .nx [some (.tup ys), some (.lst rows), none, none, none, none, none, none, none] := by
    rw [evS, w0]
    simp [RE.o, stT, Ev.stN, Ev.kill, Ev.st]
  have A1 : evS φ P (.asg (.name (2, [])) (.int 1)) [some (.tup ys), some (.lst rows), none, none, none, none, none, none, none] = .nx [some (.tup ys), some (.lst rows), some (.int 1), none, none, none, none, none, none] := by
    simp [evS, ev, RE.o, stT, Ev.stN, Ev.kill, Ev.st]
  have A2 : evS φ P (.asg (.name (3, [])) (.lc (.bin .mul (.v 5) (.bin .fdiv (.v 2) (.v 7))) (.one (.tup [(5, []), (7, [])]) (.seq (.v 1)) .none))) [some (.tup ys), some (.lst rows), some (.int (comG 1 l)), none, none, none, x6, x7, none] = .nx [some (.tup ys), some (.lst rows), some (.int (comG 1 l)), some (.lst ((whT l).map .int)), none, none, x6, x7, none] := by
    rw [evS, w2]
    simp [RE.o, stT, Ev.stN, Ev.kill, Ev.st]
  have A3 : evS φ P (.asg (.name (4, [])) (.int 0)) [some (.tup ys), some (.lst rows), some (.int (comG 1 l)), some (.lst ((whT l).map .int)), none, none, x6, x7, none] = .nx [some (.tup ys), some (.lst rows), some (.int (comG 1 l)), some (.lst ((whT l).map .int)), some (.int 0), none, x6, x7, none] := by
    simp [evS, ev, RE.o, stT, Ev.stN, Ev.kill, Ev.st]
  show fin0 true (evSs φ P (.cons (.asg (.name (1, [])) (.lc (.call 3 (.cons (.v 8) .nil)) (.one (.name (8, [])) (.seq (.v 0)) .none))) (.cons (.asg (.name (2, [])) (.int 1)) (.cons (.forr (.tup [(6, []), (7, [])]) (.seq (.v 1)) pwL) (.cons (.asg (.name (3, [])) (.lc (.bin .mul (.v 5) (.bin .fdiv (.v 2) (.v 7))) (.one (.tup [(5, []), (7, [])]) (.seq (.v 1)) .none))) (.cons (.asg (.name (4, [])) (.int 0)) (.cons (.forr (.name (5, [])) (.seq (.v 3)) psB) (.cons (.iff (.cmp .eq (.v 4) (.int 0)) (.cons (.ret (.bi .tuple (.cons (.v 3) .nil))) .nil) .nil) (.cons (.ret (.bi .tuple (.cons (.lc (.bin .fdiv (.v 5) (.v 4)) (.one (.name (5, [])) (.seq (.v 3)) .none)) .nil))) .nil)))))))) [some (.tup ys), none, none, none, none, none, none, none, none]) = _
  rw [evSs, A0]
  dsimp only
  rw [evSs, A1]
  dsimp only
  rw [forr_ok g1 w1, evSs, A2]
  dsimp only
  rw [evSs, A3]
  dsimp only
  rw [forr_ok g2 w3]
  unfold whR
  by_cases z : shG 0 (whT l) = 0
  · rw [if_pos z, z]
    simp [evSs, evS, ev, evs, RE.bind, RE.o, Ev.gt, opCmp, eqI, opBi, RV.re, tru, fin0]
  · rw [if_neg z]
    have z' : (shG 0 (whT l) == 0) = false := by simpa using z
    have w4 := wp_divs φ (whT l) (shG 0 (whT l)) z hs ht (some (.tup ys)) (some (.lst rows)) (some (.int (comG 1 l))) x5 x6 x7 none
    generalize shG 0 (whT l) = g at *
    generalize hE : E.lc (.bin .fdiv (.v 5) (.v 4)) (.one (.name (5, [])) (.seq (.v 3)) .none) = q at *
    simp [evSs, evS, ev, evs, RE.bind, RE.o, Ev.gt, opCmp, eqI, z', w4, opBi, RV.re, tru, fin0]
end G78
set_option Elab.async false
set_option linter.all false
set_option maxRecDepth 100000
set_option maxHeartbeats 4000000
namespace G78
open PySem L2 PySem.Spec PyProof.Rows Ev
/-! k78, plain: _law_whole_good is True -/
theorem okO {zs : List (D × (Int × Int))} (h : ∀ z ∈ zs, IT z) (hl : zs.length ≤ 20) : okL (zs.map Prod.snd) := by
  refine ⟨fun pq hq => ?_, by rw [List.length_map]; exact hl⟩
  obtain ⟨z, hz, rfl⟩ := List.mem_map.mp hq
  obtain ⟨_, h1, h2, h3⟩ := h z hz
  exact ⟨h1, h2, h3⟩
theorem it_pr {z : D × (Int × Int)} (h : IT z) (r : Nat) : phiAt T P (r + 2) 3 [z.1] = .ok (tp z.2.1 z.2.2) .non := by
  obtain ⟨h1 | ⟨h1, h2⟩, _⟩ := h
  · rw [h1]; exact pr_ins r _ _
  · rw [h1, h2]; exact pr_int r _
theorem it_same {z : D × (Int × Int)} (h : IT z) : sameI (phiAt T P 8) P z.1 z.1 = true := by
  obtain ⟨h1 | ⟨h1, h2⟩, _⟩ := h
  · rw [h1]
    have e : phiAt T P 8 34 [fr z.2.1 z.2.2, fr z.2.1 z.2.2] = _ := eq_ok 4 z.2.1 z.2.2 z.2.1 z.2.2 _ (pr_ins 5 z.2.1 z.2.2)
    have hd : (P.cls 0).dn .eq = some 34 := rfl
    simp only [fr] at *
    simp [sameI, ownE, hd, e, RF.val]
  · rw [h1]; simp [sameI]
theorem row_same : ∀ zs : List (D × (Int × Int)), (∀ z ∈ zs, IT z) → sameL (phiAt T P 8) P (ysO zs) (ysO zs) = true
  | [], _ => rfl
  | z :: zs, h => by
    show (sameI (phiAt T P 8) P z.1 z.1 && sameL (phiAt T P 8) P (ysO zs) (ysO zs)) = true
    rw [it_same (h z List.mem_cons_self), row_same zs fun x hx => h x (List.mem_cons_of_mem _ hx)]
    rfl
theorem no_py (l : List D) (c : Nat) (m : List D) : toPyL (l ++ [.ins c m]) = none := by
  induction l with
  | nil => rfl
  | cons d l ih =>
    show toPyL (d :: (l ++ [.ins c m])) = none
    rw [toPyL, ih]
    cases toPy d <;> rfl
theorem no_eqD (l : List D) (c : Nat) (m : List D) : eqD (.lst (l ++ [.ins c m])) (.lst (l ++ [.ins c m])) = none := by
  unfold eqD
  rw [toPy, no_py]
theorem ints_py : ∀ l : List Int, toPyL (l.map D.int) = some (l.map PyData.int)
  | [] => rfl
  | i :: l => by
    show toPyL (.int i :: l.map D.int) = _
    rw [toPyL, ints_py l]
    rfl
theorem ints_lay : ∀ l : List Int, PyData.canLayAll0 (l.map PyData.int) = true
  | [] => rfl
  | i :: l => by
    show (true && PyData.canLayAll0 (l.map PyData.int)) = true
    rw [ints_lay l]
    rfl
theorem ints_dep : ∀ l : List Int, PyData.depthAll (l.map PyData.int) ≤ 1
  | [] => by decide
  | i :: l => by
    have := ints_dep l
    simp [PyData.depthAll, PyData.depth]
    omega
theorem eq_ints (l : List Int) : eqD (.tup (l.map .int)) (.tup (l.map .int)) = some true := by
  have sh : SeqAt.shaped (.tuple (l.map PyData.int)) = true := by
    show (PyData.canLayAll0 (l.map PyData.int) && decide (PyData.depth (.tuple (l.map PyData.int)) ≤ 64)) = true
    rw [ints_lay]
    have := ints_dep l
    simp [PyData.depth]
    omega
  unfold eqD
  rw [toPy, ints_py]
  simp only [sh, Bool.and_self, if_true]
  rw [PySem.SeqAt.eqv_refl _ (by show PyData.canLayAll0 (l.map PyData.int) = true; exact ints_lay l)]
/-- no part that is no int -/
theorem wg_parts (φ : Phi) (h8 : ∀ i, φ 8 [.int i] = .ok (.bl true) .non) (ts : List Int) (hl : ts.length ≤ 20) (x0 x1 x2 x3 x4 x5 x6 x8 x9 x11 x12 : Option D) :
    ev φ P (.lc (.v 10) (.one (.name (10, [])) (.seq (.v 7)) (.some (.nt (.call 8 (.cons (.v 10) .nil)))))) [x0, x1, x2, x3, x4, x5, x6, some (.tup (ts.map .int)), x8, x9, none, x11, x12] = .ok (.lst []) [x0, x1, x2, x3, x4, x5, x6, some (.tup (ts.map .int)), x8, x9, none, x11, x12] := by
  have w := lc_filter (tg := .name (10, [])) (tst := evc φ P (.some (.nt (.call 8 (.cons (.v 10) .nil))))) (elt := ev φ P (.v 10)) (F := id) (p := fun _ => false) (e := [x0, x1, x2, x3, x4, x5, x6, some (.tup (ts.map .int)), x8, x9, none, x11, x12]) (ts.map .int) []
    (by rw [sizeLine_eq]; simp; omega) (fun d hd => by
      obtain ⟨i, _, rfl⟩ := List.mem_map.mp hd
      refine ⟨[x0, x1, x2, x3, x4, x5, x6, some (.tup (ts.map .int)), x8, x9, some (.int i), x11, x12], [x0, x1, x2, x3, x4, x5, x6, some (.tup (ts.map .int)), x8, x9, some (.int i), x11, x12], rfl, ?_, (fun z => by cases z), fun _ => rfl⟩
      simp [evc, ev, evs, RE.bind, Ev.gt, h8, RF.val, RV.re, tru])
  have e0 : ((ts.map D.int).filter fun _ => false) = [] := by simp
  rw [List.nil_append, e0, List.map_nil] at w
  have g1 : evi φ P (.seq (.v 7)) [x0, x1, x2, x3, x4, x5, x6, some (.tup (ts.map .int)), x8, x9, none, x11, x12] = .ok (ts.map .int) [x0, x1, x2, x3, x4, x5, x6, some (.tup (ts.map .int)), x8, x9, none, x11, x12] := by
    simp [evi, ev, RE.bind, Ev.gt]
  simp only [ev]
  rw [g1]
  show ((lcRun (.name (10, [])) (evc φ P (.some (.nt (.call 8 (.cons (.v 10) .nil))))) (ev φ P (.v 10)) (ts.map .int) [] [x0, x1, x2, x3, x4, x5, x6, some (.tup (ts.map .int)), x8, x9, none, x11, x12]).bind _) = _
  rw [w]
  rfl
def wgZ : E := (.and (.cmp .eq (.call 5 (.cons (.lst (.cons (.int 0) (.cons (.new 0 40 (.cons (.int 0) .nil)) (.cons (.int 0) .nil)))) .nil)) (.tup (.cons (.int 0) (.cons (.int 0) (.cons (.int 0) .nil))))) (.cmp .eq (.call 5 (.cons (.lst (.cons (.neg (.int 2)) (.cons (.int 4) .nil))) .nil)) (.tup (.cons (.neg (.int 1)) (.cons (.int 2) .nil)))))
theorem wg_end (e : Nv) : ev (phiAt T P 8) P wgZ e = .ok (.bl true) e := by kernel_rfl
def wgC1 : E := (.or (.nt (.isi (.v 7) [.tuple])) (.cmp .gt (.bi .len (.cons (.lc (.v 10) (.one (.name (10, [])) (.seq (.v 7)) (.some (.nt (.call 8 (.cons (.v 10) .nil)))))) .nil)) (.int 0)))
def wgC2 : E := (.or (.cmp .ne (.v 7) (.bi .tuple (.cons (.call 16 (.cons (.v 12) .nil)) .nil))) (.or (.cmp .ne (.call 5 (.cons (.bi .tuple (.cons (.v 11) .nil)) .nil)) (.v 7)) (.cmp .ne (.v 11) (.v 6))))
theorem wholeOk : WholeOk := by
  intro L a b hL hl Ma Mb b0 hg
  obtain ⟨k, L1, e1, hk, hL1, hl1⟩ := take_ok 7 L 6 (by decide) hL hl
  have hrl : (rgL 0 k).length ≤ 6 := by unfold rgL; rw [List.length_map, List.length_range]; omega
  obtain ⟨L2, zs0, x5, x8, x9, w1, hz0, hn0⟩ := wg_loop a b L1 hL1 hl1 k hk.2 (rgL 0 k) hrl none none none
  obtain ⟨zs, ezs⟩ : ∃ zs, zs = zs0 ++ [(fr a b, (a, b))] := ⟨_, rfl⟩
  have hz : ∀ z ∈ zs, IT z := fun z h => by
    rw [ezs] at h
    rcases List.mem_append.mp h with h | h
    · exact hz0 z h
    · rw [List.mem_singleton.mp h]
      exact ⟨.inl rfl, b0, (by unfold Ms at Mb; omega : b < 2 ^ 45), Ma⟩
  have hn : zs.length ≤ 20 := by rw [ezs, List.length_append, List.length_singleton]; omega
  have hok := okO hz hn
  have hys : ysO zs = ysO zs0 ++ [fr a b] := by rw [ezs, ysO_app]
  have hps : psO zs = psO zs0 ++ [tp a b] := by rw [ezs, psO_app]
  have hy : ∀ y ∈ ysO zs, ∃ x, phiAt T P 7 3 [y] = .ok x .non := fun y h => by
    obtain ⟨z, q, rfl⟩ := List.mem_map.mp h
    exact ⟨_, it_pr (hz z q) 5⟩
  have hm : (ysO zs).map (prF (phiAt T P 7)) = (zs.map Prod.snd).map fun pq => tp pq.1 pq.2 := by
    unfold ysO
    rw [List.map_map, List.map_map]
    refine List.map_congr_left fun z q => ?_
    show prF (phiAt T P 7) z.1 = tp z.2.1 z.2.2
    have := it_pr (hz z q) 5
    unfold prF
    rw [this]
  have wl := whole_ok 5 _ _ hok hy hm
  have wt := whole_okT 5 _ _ hok hy hm
  have ww := lw_whole 6 _ hok
  have eps : ((zs.map Prod.snd).map fun pq => tp pq.1 pq.2) = psO zs := by unfold psO; rw [List.map_map]; rfl
  rw [eps] at ww
  have w8 : ∀ i, phiAt T P 8 8 [.int i] = .ok (.bl true) .non := li_int 7
  have sm := row_same zs hz
  have ne : eqD (.lst (ysO zs)) (.lst (ysO zs)) = none := by rw [hys]; exact no_eqD _ _ _
  have hlen : (whR (zs.map Prod.snd)).length ≤ 20 := by
    have h1 : (whT (zs.map Prod.snd)).length = zs.length := by unfold whT; simp
    unfold whR
    split
    · rw [h1]; exact hn
    · rw [List.length_map, h1]; exact hn
  have wz := wg_end
  have hrg : rgOk 0 k = true := by unfold rgOk; simp; omega
  have hy0 : (ysO zs0).length < sizeLine := by unfold ysO; rw [List.length_map, sizeLine_eq]; omega
  have hp0 : (psO zs0).length < sizeLine := by unfold psO; rw [List.length_map, sizeLine_eq]; omega
  have e1 : phiAt T P 8 7 [.lst (L.map .int), .int 6] = _ := e1
  refine ⟨L2, ?_⟩
  show finL true 0 (evSs (phiAt T P 8) P (.cons (.asg (.name (3, [11])) (.lst .nil)) (.cons (.asg (.name (4, [12])) (.lst .nil)) (.cons (.forr (.name (5, [])) (.rng1 (.callI 7 0 0 (.cons (.int 6) .nil))) wgB) (.cons (.app 3 .nil (.v 1)) (.cons (.app 4 .nil (.v 2)) (.cons (.asg (.name (6, [])) (.bi .list (.cons (.v 3) .nil))) (.cons (.frz 3 11) (.cons (.asg (.name (7, [])) (.call 5 (.cons (.v 11) .nil))) (.cons (.iff wgC1 (.cons (.ret (.bl false)) .nil) .nil) (.cons (.frz 4 12) (.cons (.iff wgC2 (.cons (.ret (.bl false)) .nil) .nil) (.cons (.ret wgZ) .nil)))))))))))) [some (.lst (L.map .int)), some (fr a b), some (tp a b), none, none, none, none, none, none, none, none, none, none]) = _
  have wp := wg_parts (phiAt T P 8) w8 (whR (zs.map Prod.snd)) hlen
  have eqf := eq_ints (whR (zs.map Prod.snd))
  change phiAt T P 8 5 _ = _ at wl
  change phiAt T P 8 5 _ = _ at wt
  change phiAt T P 8 16 _ = _ at ww
  generalize phiAt T P 8 = φ at *
  generalize ysO zs = ys at *
  generalize psO zs = ps at *
  generalize whR (zs.map Prod.snd) = ts at *
  have A1 : ∀ l, evS φ P (.asg (.name (3, [11])) (.lst .nil)) [some (.lst l), some (fr a b), some (tp a b), none, none, none, none, none, none, none, none, none, none] = .nx [some (.lst l), some (fr a b), some (tp a b), some (.lst []), none, none, none, none, none, none, none, none, none] := fun l => by
    simp [evS, ev, evs, RE.bind, RE.o, stT, Ev.stN, Ev.kill, Ev.st, sizeLine_eq]
  have A2 : ∀ l, evS φ P (.asg (.name (4, [12])) (.lst .nil)) [some (.lst l), some (fr a b), some (tp a b), some (.lst []), none, none, none, none, none, none, none, none, none] = .nx [some (.lst l), some (fr a b), some (tp a b), some (.lst []), some (.lst []), none, none, none, none, none, none, none, none] := fun l => by
    simp [evS, ev, evs, RE.bind, RE.o, stT, Ev.stN, Ev.kill, Ev.st, sizeLine_eq]
  have g1 : evi φ P (.rng1 (.callI 7 0 0 (.cons (.int 6) .nil))) [some (.lst (L.map .int)), some (fr a b), some (tp a b), some (.lst []), some (.lst []), none, none, none, none, none, none, none, none] = .ok (rgL 0 k) [some (.lst (L1.map .int)), some (fr a b), some (tp a b), some (.lst []), some (.lst []), none, none, none, none, none, none, none, none] := by
    simp [evi, ev, evs, RE.bind, Ev.gt, Ev.st, lend, lendR, insA, e1, hrg]
  have A3 : ∀ s0, evS φ P (.app 3 .nil (.v 1)) [s0, some (fr a b), some (tp a b), some (.lst (ysO zs0)), some (.lst (psO zs0)), x5, none, none, x8, x9, none, none, none] = .nx [s0, some (fr a b), some (tp a b), some (.lst ys), some (.lst (psO zs0)), x5, none, none, x8, x9, none, none, none] := fun s0 => by
    rw [hys]
    simp [evS, ev, evs, RE.bind, RE.o, Ev.gt, Ev.st, upd1, updP, appF, hy0]
  have A4 : ∀ s0, evS φ P (.app 4 .nil (.v 2)) [s0, some (fr a b), some (tp a b), some (.lst ys), some (.lst (psO zs0)), x5, none, none, x8, x9, none, none, none] = .nx [s0, some (fr a b), some (tp a b), some (.lst ys), some (.lst ps), x5, none, none, x8, x9, none, none, none] := fun s0 => by
    rw [hps]
    simp [evS, ev, evs, RE.bind, RE.o, Ev.gt, Ev.st, upd1, updP, appF, hp0]
  have A5 : ∀ s0, evS φ P (.asg (.name (6, [])) (.bi .list (.cons (.v 3) .nil))) [s0, some (fr a b), some (tp a b), some (.lst ys), some (.lst ps), x5, none, none, x8, x9, none, none, none] = .nx [s0, some (fr a b), some (tp a b), some (.lst ys), some (.lst ps), x5, some (.lst ys), none, x8, x9, none, none, none] := fun s0 => by
    simp [evS, ev, evs, RE.bind, RE.o, Ev.gt, stT, Ev.stN, Ev.kill, Ev.st, opBi, RV.re]
  have A6 : ∀ s0, evS φ P (.frz 3 11) [s0, some (fr a b), some (tp a b), some (.lst ys), some (.lst ps), x5, some (.lst ys), none, x8, x9, none, none, none] = .nx [s0, some (fr a b), some (tp a b), none, some (.lst ps), x5, some (.lst ys), none, x8, x9, none, some (.lst ys), none] := fun s0 => by
    simp [evS, Ev.gt, Ev.st]
  have A7 : ∀ s0, evS φ P (.asg (.name (7, [])) (.call 5 (.cons (.v 11) .nil))) [s0, some (fr a b), some (tp a b), none, some (.lst ps), x5, some (.lst ys), none, x8, x9, none, some (.lst ys), none] = .nx [s0, some (fr a b), some (tp a b), none, some (.lst ps), x5, some (.lst ys), some (.tup (ts.map .int)), x8, x9, none, some (.lst ys), none] := fun s0 => by
    simp [evS, ev, evs, RE.bind, RE.o, Ev.gt, stT, Ev.stN, Ev.kill, Ev.st, wl, RF.val, RV.re]
  have A8 : ∀ s0, evS φ P (.iff wgC1 (.cons (.ret (.bl false)) .nil) .nil) [s0, some (fr a b), some (tp a b), none, some (.lst ps), x5, some (.lst ys), some (.tup (ts.map .int)), x8, x9, none, some (.lst ys), none] = .nx [s0, some (fr a b), some (tp a b), none, some (.lst ps), x5, some (.lst ys), some (.tup (ts.map .int)), x8, x9, none, some (.lst ys), none] := fun s0 => by
    have wp' := wp s0 (some (fr a b)) (some (tp a b)) none (some (.lst ps)) x5 (some (.lst ys)) x8 x9 (some (.lst ys)) none
    unfold wgC1
    generalize (E.lc (.v 10) (.one (.name (10, [])) (.seq (.v 7)) (.some (.nt (.call 8 (.cons (.v 10) .nil)))))) = q at *
    simp [evSs, evS, ev, evs, RE.bind, RE.o, Ev.gt, wp', opBi, RV.re, tagged, tyIs, tru, opCmp, ordI]
  have A9 : ∀ s0, evS φ P (.frz 4 12) [s0, some (fr a b), some (tp a b), none, some (.lst ps), x5, some (.lst ys), some (.tup (ts.map .int)), x8, x9, none, some (.lst ys), none] = .nx [s0, some (fr a b), some (tp a b), none, none, x5, some (.lst ys), some (.tup (ts.map .int)), x8, x9, none, some (.lst ys), some (.lst ps)] := fun s0 => by
    simp [evS, Ev.gt, Ev.st]
  have A10 : ∀ s0, evS φ P (.iff wgC2 (.cons (.ret (.bl false)) .nil) .nil) [s0, some (fr a b), some (tp a b), none, none, x5, some (.lst ys), some (.tup (ts.map .int)), x8, x9, none, some (.lst ys), some (.lst ps)] = .nx [s0, some (fr a b), some (tp a b), none, none, x5, some (.lst ys), some (.tup (ts.map .int)), x8, x9, none, some (.lst ys), some (.lst ps)] := fun s0 => by
    have c1 := ne_of φ eqf
    have c2 : opCmp φ P .ne (.lst ys) (.lst ys) = .ok (.bl false) := by
      show (match eqD (.lst ys) (.lst ys) with | some b => .ok (.bl (!b)) | none => neL φ P (.lst ys) (.lst ys) : RV) = _
      rw [ne]
      show (if sameL φ P ys ys then .ok (.bl false) else .stk : RV) = _
      rw [if_pos sm]
    unfold wgC2
    simp [evSs, evS, ev, evs, RE.bind, RE.o, Ev.gt, wt, ww, opBi, RF.val, RV.re, tru, c1, c2]
  rw [evSs, A1]
  dsimp only
  rw [evSs, A2]
  dsimp only
  rw [forr_ok g1 w1, evSs, A3]
  dsimp only
  rw [evSs, A4]
  dsimp only
  rw [evSs, A5]
  dsimp only
  rw [evSs, A6]
  dsimp only
  rw [evSs, A7]
  dsimp only
  rw [evSs, A8]
  dsimp only
  rw [evSs, A9]
  dsimp only
  rw [evSs, A10]
  dsimp only
  rw [evSs, evS, wz]
  rfl
theorem law_ok (ns : List Int) (h : ns.length ≤ 63) : ∃ o, phiAt T P 10 24 [.scr ns] = .ok (.bl true) o := law_of wholeOk ns h
end G78
set_option Elab.async false
set_option linter.all false
set_option maxRecDepth 100000
set_option maxHeartbeats 0
open PySem PySem.W PySem.Calls PyProof.Rows
theorem PySem.Challenge.cw_steprows_k78_exact_fractions_holds : PySem.Challenge.rw_steprows_k78_exact_fractions.Holds := by
  w_on; o_law
  refine HandSHeadRun.head_any (r := OpenLaw.row PySem.Challenge.rw_steprows_k78_exact_fractions) (q := view (OpenLaw.row PySem.Challenge.rw_steprows_k78_exact_fractions).prog [31]) (H := G78.hk) (ob := G78.ob) (M := 6000) (loose := G78.others) (d := HandSHeadRun.topDef (OpenLaw.row PySem.Challenge.rw_steprows_k78_exact_fractions).prog 31) (kwd := []) G78.ob_eq
    (by kernel_rfl) (fun s => by kernel_rfl) G78.run (by kernel_rfl) (by kernel_rfl) (by kernel_rfl) (by rfl) (by first | assumption | decide +kernel) (by decide +kernel) ⟨rfl, rfl, rfl, rfl, rfl, by decide +kernel⟩ ?hw ?hc
  case hw => w_witness2
  case hc =>
    refine L2.walk_ofE (l := PySem.Challenge.rw_steprows_k78_exact_fractions) (n := 63) (k := 30) (x := "_law_script") (CX := Ev.CXw (PySem.Challenge.rw_steprows_k78_exact_fractions).prog) rfl (by decide) (by kernel_rfl) ⟨rfl, by decide, by decide⟩ ?F Ev.noErrW
    · intro w mg fa h Y G hmg0
      obtain ⟨K, KX, c⟩ := Y
      have hmg : mg ("law" : PySem.Str) = some (.ref fa) := by
        have e : (HandSHeadRun.topDef (OpenLaw.row PySem.Challenge.rw_steprows_k78_exact_fractions).prog 31).name = ("law" : PySem.Str) := by kernel_rfl
        rw [← e]
        exact hmg0
      obtain ⟨fd, hb, hF⟩ := G78.facts (w := w) KX G hmg c 9
      exact ⟨K, fd, _, KX, hb, fun H a ns hl _ hS => Ev.law_ans hS (G78.law_ok ns hl) fun _ => rfl, fun base _ _ => Ev.anyW (hF base)⟩

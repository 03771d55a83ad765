import PyProof.Rows.All
import Wide.All
import OpenK.AllK
import Wide.FinOn
import PySem.Challenge.RW_heapcarries_k11_whole_loads_that_lead_an
import HandS.ForMost
import HandS.IsInst
import HandS.Style
import HandS.TupAny
import HandS.Deep
import HandS.Walk
import HandS.Zip
import HandS.Conv
import HandS.Flow
import HandS.TupLen
import HandS.Words
set_option Elab.async false
set_option linter.all false
set_option maxRecDepth 100000
/-! Ev0: a small evaluator of plain data -/
namespace Ev
open PySem (Str)
abbrev Key := Sum Int Str

/-- data; kl: a list that stands from the beginning; ref n: the n-th changing object; fn i: the i-th def -/
inductive D where
  | non | bl (b : Bool) | int (i : Int) | str (s : Str)
  | tup (xs : List D) | lst (xs : List D) | kl (xs : List D)
  | dk (ks : List Key) (vs : List D) | dt (ks : List (List Key)) (vs : List D)
  | ref (n : Nat) | fn (i : Nat) | ty (t : String)
  deriving Inhabited

mutual
def D.beq : D → D → Bool
  | .non, .non => true
  | .bl a, .bl b => a == b
  | .int a, .int b => decide (a = b)
  | .str a, .str b => decide (a = b)
  | .tup a, .tup b => D.beqs a b
  | .lst a, .lst b => D.beqs a b
  | .kl a, .kl b => D.beqs a b
  | .dk k a, .dk l b => decide (k = l) && D.beqs a b
  | .dt k a, .dt l b => decide (k = l) && D.beqs a b
  | .ref a, .ref b => decide (a = b)
  | .fn a, .fn b => decide (a = b)
  | .ty a, .ty b => decide (a = b)
  | _, _ => false
def D.beqs : List D → List D → Bool
  | [], [] => true
  | x :: xs, y :: ys => D.beq x y && D.beqs xs ys
  | _, _ => false
end
mutual
theorem D.beq_eq : ∀ {a b : D}, D.beq a b = true → a = b
  | .non, b, h => by cases b <;> simp [D.beq] at h ⊢
  | .bl a, b, h => by cases b <;> simp [D.beq] at h ⊢; exact h
  | .int a, b, h => by cases b <;> simp [D.beq] at h ⊢; exact h
  | .str a, b, h => by cases b <;> simp [D.beq] at h ⊢; exact h
  | .tup a, b, h => by cases b <;> simp [D.beq] at h ⊢; exact D.beqs_eq h
  | .lst a, b, h => by cases b <;> simp [D.beq] at h ⊢; exact D.beqs_eq h
  | .kl a, b, h => by cases b <;> simp [D.beq] at h ⊢; exact D.beqs_eq h
  | .dk k a, b, h => by cases b <;> simp [D.beq] at h ⊢; exact ⟨h.1, D.beqs_eq h.2⟩
  | .dt k a, b, h => by cases b <;> simp [D.beq] at h ⊢; exact ⟨h.1, D.beqs_eq h.2⟩
  | .ref a, b, h => by cases b <;> simp [D.beq] at h ⊢; exact h
  | .fn a, b, h => by cases b <;> simp [D.beq] at h ⊢; exact h
  | .ty a, b, h => by cases b <;> simp [D.beq] at h ⊢; exact h
theorem D.beqs_eq : ∀ {a b : List D}, D.beqs a b = true → a = b
  | [], b, h => by cases b <;> simp [D.beqs] at h ⊢
  | x :: xs, b, h => by cases b <;> simp [D.beqs] at h ⊢; exact ⟨D.beq_eq h.1, D.beqs_eq h.2⟩
end
mutual
theorem D.beq_refl : ∀ a : D, D.beq a a = true
  | .non => rfl
  | .bl a => by simp [D.beq]
  | .int a => by simp [D.beq]
  | .str a => by simp [D.beq]
  | .tup a => by simp [D.beq, D.beqs_refl a]
  | .lst a => by simp [D.beq, D.beqs_refl a]
  | .kl a => by simp [D.beq, D.beqs_refl a]
  | .dk k a => by simp [D.beq, D.beqs_refl a]
  | .dt k a => by simp [D.beq, D.beqs_refl a]
  | .ref a => by simp [D.beq]
  | .fn a => by simp [D.beq]
  | .ty a => by simp [D.beq]
theorem D.beqs_refl : ∀ a : List D, D.beqs a a = true
  | [] => rfl
  | x :: xs => by simp [D.beqs, D.beq_refl x, D.beqs_refl xs]
end
instance : DecidableEq D := fun a b => if h : D.beq a b = true then .isTrue (D.beq_eq h) else .isFalse fun e => h (e ▸ D.beq_refl a)
/-- a changing object; dead: given up -/
inductive O where
  | lst (xs : List D)
  | dk (ks : List Key) (vs : List D) | dt (ks : List (List Key)) (vs : List D)
  | dead
  deriving DecidableEq

abbrev AH := List O
abbrev Env := List (Option D)
inductive Res (α : Type) where
  | ok (a : α) (A : AH)
  | exc (c : Nat) (d : D) (A : AH)
  | bad
def bnd {α β : Type} (r : Res α) (g : α → AH → Res β) : Res β :=
  match r with
  | .ok a A => g a A
  | .exc c d A => .exc c d A
  | .bad => .bad
@[simp] theorem bnd_ok {α β : Type} (a : α) (A : AH) (g : α → AH → Res β) : bnd (.ok a A) g = g a A := (Eq.refl _).trans rfl
@[simp] theorem bnd_exc {α β : Type} (c : Nat) (d : D) (A : AH) (g : α → AH → Res β) : bnd (.exc c d A : Res α) g = .exc c d A := (Eq.refl _).trans rfl
@[simp] theorem bnd_bad {α β : Type} (g : α → AH → Res β) : bnd (.bad : Res α) g = .bad := (Eq.refl _).trans rfl
def ofO {α : Type} (o : Option α) (A : AH) : Res α := match o with
  | some a => .ok a A
  | none => .bad
@[simp] theorem ofO_some {α : Type} (a : α) (A : AH) : ofO (some a) A = .ok a A := (Eq.refl _).trans rfl
@[simp] theorem ofO_none {α : Type} (A : AH) : ofO (none : Option α) A = .bad := (Eq.refl _).trans rfl
/-- no exception may leave -/
def calm {α : Type} (r : Res α) : Res α := match r with
  | .exc _ _ _ => .bad
  | r => r
@[simp] theorem calm_ok {α : Type} (a : α) (A : AH) : calm (.ok a A) = .ok a A := (Eq.refl _).trans rfl
@[simp] theorem calm_bad {α : Type} : calm (.bad : Res α) = .bad := (Eq.refl _).trans rfl

abbrev lim : Nat := 16777216

/-! ### looks at values -/
/-- a changing object's content, as a value -/
def shal (A : AH) : D → D
  | .ref n => match A[n]? with
    | some (.lst xs) => .lst xs
    | some (.dk ks vs) => .dk ks vs
    | some (.dt ks vs) => .dt ks vs
    | _ => .ref n
  | d => d
def seqO : D → Option (List D)
  | .lst xs => some xs
  | .tup xs => some xs
  | .kl xs => some xs
  | _ => none
def lstO : D → Option (List D)
  | .lst xs => some xs
  | _ => none
def intO : D → Option Int
  | .int i => some i
  | _ => none
def intsO : List D → Option (List Int)
  | [] => some []
  | .int i :: r => (intsO r).map (i :: ·)
  | _ :: _ => none
def blsO : List D → Option (List Bool)
  | [] => some []
  | .bl i :: r => (blsO r).map (i :: ·)
  | _ :: _ => none
/-- a key: an int or a text -/
def keyO : D → Option Key
  | .int i => some (.inl i)
  | .str s => some (.inr s)
  | _ => none
def keysO : List D → Option (List Key)
  | [] => some []
  | d :: r => match keyO d, keysO r with
    | some k, some ks => some (k :: ks)
    | _, _ => none
/-- the value that a dict holds -/
def dget {κ : Type} [DecidableEq κ] (k : κ) : List κ → List D → Option D
  | j :: ks, v :: vs => if j = k then some v else dget k ks vs
  | _, _ => none
def dsub {κ : Type} [DecidableEq κ] (k : κ) (v : D) : List κ → List D → List D
  | j :: ks, w :: vs => (if j = k then v else w) :: dsub k v ks vs
  | _, _ => []
def dputV {κ : Type} [DecidableEq κ] (k : κ) (v : D) (ks : List κ) (vs : List D) : List D := if k ∈ ks then dsub k v ks vs else vs ++ [v]
def dputK {κ : Type} [DecidableEq κ] (k : κ) (ks : List κ) : List κ := if k ∈ ks then ks else ks ++ [k]

mutual
/-- what may be compared: no objects, no dicts; n deep at most -/
def D.flatN : Nat → D → Bool
  | _, .non => true
  | _, .bl _ => true
  | _, .int _ => true
  | _, .str s => PySem.PyData.strOk s
  | n + 1, .tup xs => D.flatNs n xs
  | n + 1, .lst xs => D.flatNs n xs
  | _, _ => false
def D.flatNs : Nat → List D → Bool
  | _, [] => true
  | n, x :: xs => D.flatN n x && D.flatNs n xs
end
mutual
/-- == -/
def D.eqv : D → D → Bool
  | .non, .non => true
  | .bl a, .bl b => a == b
  | .bl a, .int j => (if a then 1 else 0) == j
  | .int i, .bl b => i == (if b then 1 else 0)
  | .int i, .int j => i == j
  | .str x, .str y => x == y
  | .lst xs, .lst ys => D.eqvs xs ys
  | .tup xs, .tup ys => D.eqvs xs ys
  | _, _ => false
def D.eqvs : List D → List D → Bool
  | [], [] => true
  | x :: xs, y :: ys => D.eqv x y && D.eqvs xs ys
  | _, _ => false
end
def eqO (A : AH) (x y : D) : Option Bool :=
  let x := shal A x
  let y := shal A y
  if (D.flatN 60 x && D.flatN 60 y) = true then some (D.eqv x y) else none
def truO (A : AH) (x : D) : Option Bool := match shal A x with
  | .non => some false
  | .bl b => some b
  | .int i => some (i != 0)
  | .str s => some (s.length != 0)
  | .tup xs => some (!xs.isEmpty)
  | .lst xs => some (!xs.isEmpty)
  | .dk ks _ => some (!ks.isEmpty)
  | _ => none
def lenO (A : AH) (x : D) : Option Int := match shal A x with
  | .str s => some s.length
  | .tup xs => some xs.length
  | .lst xs => some xs.length
  | .kl xs => some xs.length
  | .dk ks _ => some ks.length
  | _ => none
/-- the place in a row of n -/
def ixN (n : Nat) (i : Int) : Option Nat := if 0 ≤ i then (if i < n then some i.toNat else none) else if -(n : Int) ≤ i then some (i + n).toNat else none
def atI {α : Type} (xs : List α) (i : Int) : Option α := (ixN xs.length i).bind fun j => xs[j]?
def idxO (A : AH) (x i : D) : Option D := match shal A x, i with
  | .lst xs, .int i => atI xs i
  | .kl xs, .int i => atI xs i
  | .tup xs, .int i => atI xs i
  | .str s, .int i => (atI s.cps.toList i).map fun c => .str ⟨#[c]⟩
  | .dk ks vs, k => match keyO k with
    | some k => dget k ks vs
    | none => none
  | .dt ks vs, .tup k => match keysO k with
    | some k => dget k ks vs
    | none => none
  | _, _ => none
def sIx (n d : Nat) : Option Int → Nat
  | none => d
  | some v => if v < 0 then (v + (n : Int)).toNat else min v.toNat n
def cut {α : Type} (xs : List α) (lo hi : Option Int) : List α := (xs.drop (sIx xs.length 0 lo)).take (sIx xs.length xs.length hi - sIx xs.length 0 lo)
def slcO (A : AH) (x : D) (lo hi : Option Int) : Option D := match shal A x with
  | .lst xs => some (.lst (cut xs lo hi))
  | .kl xs => some (.lst (cut xs lo hi))
  | .tup xs => some (.tup (cut xs lo hi))
  | .str s => some (.str ⟨(cut s.cps.toList lo hi).toArray⟩)
  | _ => none
def inO (A : AH) (x c : D) : Option Bool := match shal A c with
  | .lst xs => let x := shal A x; if (D.flatN 60 x && D.flatN 60 (.lst xs)) = true then some (xs.any fun y => D.eqv y x) else none
  | .tup xs => let x := shal A x; if (D.flatN 60 x && D.flatN 60 (.tup xs)) = true then some (xs.any fun y => D.eqv y x) else none
  | .dk ks vs => match keyO x with
    | some k => some (dget k ks vs).isSome
    | none => none
  | .dt ks vs => match x with
    | .tup k => match keysO k with
      | some k => some (dget k ks vs).isSome
      | none => none
    | _ => none
  | _ => none

/-! ### operators -/
inductive Bop where
  | add | sub | mul | mod | fdiv | pow
  deriving DecidableEq
def mulOk (i j : Int) : Prop := (-(2 ^ 64) < i ∧ i < 2 ^ 64) ∨ (-(2 ^ 64) < j ∧ j < 2 ^ 64)
instance (i j : Int) : Decidable (mulOk i j) := by unfold mulOk; exact inferInstance
def addO (x y : D) : Option D := match x, y with
  | .int i, .int j => some (.int (i + j))
  | .str a, .str b => if a.length + b.length ≤ lim then some (.str (a ++ b)) else none
  | .tup xs, .tup ys => if xs.length + ys.length ≤ lim then some (.tup (xs ++ ys)) else none
  | .lst xs, .lst ys => if xs.length + ys.length ≤ lim then some (.lst (xs ++ ys)) else none
  | _, _ => none
def binO (A : AH) : Bop → D → D → Option D
  | .add, x, y => addO (shal A x) (shal A y)
  | .sub, .int i, .int j => some (.int (i - j))
  | .mul, .int i, .int j => if mulOk i j then some (.int (i * j)) else none
  | .mod, .int i, .int j => if 0 < j then some (.int (i % j)) else none
  | .fdiv, .int i, .int j => if 0 < j ∧ j < 1073741824 then some (.int (i / j)) else none
  | .pow, .int i, .int j => if 0 ≤ j ∧ j ≤ 1000000 ∧ i.natAbs < 2 ^ 64 then some (.int (i ^ j.toNat)) else none
  | _, _, _ => none
inductive Cop where
  | eq | ne | lt | le | gt | ge | isin | notin
  deriving DecidableEq
def lexLt : List Int → List Int → Bool
  | [], [] => false
  | [], _ :: _ => true
  | _ :: _, [] => false
  | x :: xs, y :: ys => if x = y then lexLt xs ys else decide (x < y)
def ltO : D → D → Option Bool
  | .int i, .int j => some (decide (i < j))
  | .tup xs, .tup ys => match intsO xs, intsO ys with
    | some a, some b => some (lexLt a b)
    | _, _ => none
  | _, _ => none
def int2 (f : Int → Int → Bool) : D → D → Option Bool
  | .int i, .int j => some (f i j)
  | _, _ => none
def cmpO (A : AH) : Cop → D → D → Option Bool
  | .eq, x, y => eqO A x y
  | .ne, x, y => (eqO A x y).map (!·)
  | .lt, x, y => ltO x y
  | .le, x, y => int2 (fun i j => decide (i ≤ j)) x y
  | .gt, x, y => int2 (fun i j => decide (j < i)) x y
  | .ge, x, y => int2 (fun i j => decide (j ≤ i)) x y
  | .isin, x, y => inO A x y
  | .notin, x, y => (inO A x y).map (!·)

/-! ### built-ins by their values -/
inductive Bi where
  | len | int | abs | max2 | min2 | max1 | min1 | sum | all | any | list | tuple | isi | divmod
  deriving DecidableEq
def tyName : D → Option String
  | .non => some "NoneType"
  | .bl _ => some "bool"
  | .int _ => some "int"
  | .str _ => some "str"
  | .tup _ => some "tuple"
  | .lst _ => some "list"
  | .kl _ => some "list"
  | .dk _ _ => some "dict"
  | _ => none
def isiT (d : D) (t : String) : Option Bool := (tyName d).bind fun n => L2.kitB n t
@[simp] theorem kit_NoneType_bool : L2.kitB "NoneType" "bool" = some false := by decide +kernel
@[simp] theorem kit_NoneType_int : L2.kitB "NoneType" "int" = some false := by decide +kernel
@[simp] theorem kit_NoneType_str : L2.kitB "NoneType" "str" = some false := by decide +kernel
@[simp] theorem kit_NoneType_tuple : L2.kitB "NoneType" "tuple" = some false := by decide +kernel
@[simp] theorem kit_NoneType_list : L2.kitB "NoneType" "list" = some false := by decide +kernel
@[simp] theorem kit_NoneType_dict : L2.kitB "NoneType" "dict" = some false := by decide +kernel
@[simp] theorem kit_bool_bool : L2.kitB "bool" "bool" = some true := by decide +kernel
@[simp] theorem kit_bool_int : L2.kitB "bool" "int" = some true := by decide +kernel
@[simp] theorem kit_bool_str : L2.kitB "bool" "str" = some false := by decide +kernel
@[simp] theorem kit_bool_tuple : L2.kitB "bool" "tuple" = some false := by decide +kernel
@[simp] theorem kit_bool_list : L2.kitB "bool" "list" = some false := by decide +kernel
@[simp] theorem kit_bool_dict : L2.kitB "bool" "dict" = some false := by decide +kernel
@[simp] theorem kit_int_bool : L2.kitB "int" "bool" = some false := by decide +kernel
@[simp] theorem kit_int_int : L2.kitB "int" "int" = some true := by decide +kernel
@[simp] theorem kit_int_str : L2.kitB "int" "str" = some false := by decide +kernel
@[simp] theorem kit_int_tuple : L2.kitB "int" "tuple" = some false := by decide +kernel
@[simp] theorem kit_int_list : L2.kitB "int" "list" = some false := by decide +kernel
@[simp] theorem kit_int_dict : L2.kitB "int" "dict" = some false := by decide +kernel
@[simp] theorem kit_str_bool : L2.kitB "str" "bool" = some false := by decide +kernel
@[simp] theorem kit_str_int : L2.kitB "str" "int" = some false := by decide +kernel
@[simp] theorem kit_str_str : L2.kitB "str" "str" = some true := by decide +kernel
@[simp] theorem kit_str_tuple : L2.kitB "str" "tuple" = some false := by decide +kernel
@[simp] theorem kit_str_list : L2.kitB "str" "list" = some false := by decide +kernel
@[simp] theorem kit_str_dict : L2.kitB "str" "dict" = some false := by decide +kernel
@[simp] theorem kit_tuple_bool : L2.kitB "tuple" "bool" = some false := by decide +kernel
@[simp] theorem kit_tuple_int : L2.kitB "tuple" "int" = some false := by decide +kernel
@[simp] theorem kit_tuple_str : L2.kitB "tuple" "str" = some false := by decide +kernel
@[simp] theorem kit_tuple_tuple : L2.kitB "tuple" "tuple" = some true := by decide +kernel
@[simp] theorem kit_tuple_list : L2.kitB "tuple" "list" = some false := by decide +kernel
@[simp] theorem kit_tuple_dict : L2.kitB "tuple" "dict" = some false := by decide +kernel
@[simp] theorem kit_list_bool : L2.kitB "list" "bool" = some false := by decide +kernel
@[simp] theorem kit_list_int : L2.kitB "list" "int" = some false := by decide +kernel
@[simp] theorem kit_list_str : L2.kitB "list" "str" = some false := by decide +kernel
@[simp] theorem kit_list_tuple : L2.kitB "list" "tuple" = some false := by decide +kernel
@[simp] theorem kit_list_list : L2.kitB "list" "list" = some true := by decide +kernel
@[simp] theorem kit_list_dict : L2.kitB "list" "dict" = some false := by decide +kernel
@[simp] theorem kit_dict_bool : L2.kitB "dict" "bool" = some false := by decide +kernel
@[simp] theorem kit_dict_int : L2.kitB "dict" "int" = some false := by decide +kernel
@[simp] theorem kit_dict_str : L2.kitB "dict" "str" = some false := by decide +kernel
@[simp] theorem kit_dict_tuple : L2.kitB "dict" "tuple" = some false := by decide +kernel
@[simp] theorem kit_dict_list : L2.kitB "dict" "list" = some false := by decide +kernel
@[simp] theorem kit_dict_dict : L2.kitB "dict" "dict" = some true := by decide +kernel
def maxL : List Int → Option Int
  | [] => none
  | x :: r => some (r.foldl (fun a b => if a < b then b else a) x)
def minL : List Int → Option Int
  | [] => none
  | x :: r => some (r.foldl (fun a b => if b < a then b else a) x)
def ints1 (A : AH) (x : D) : Option (List Int) := (seqO (shal A x)).bind intsO
def biO (A : AH) : Bi → List D → Option D
  | .len, [x] => (lenO A x).map .int
  | .int, [.int i] => some (.int i)
  | .int, [.bl b] => some (.int (if b then 1 else 0))
  | .abs, [.int i] => some (.int (if i < 0 then -i else i))
  | .max2, [.int i, .int j] => some (.int (if j > i then j else i))
  | .min2, [.int i, .int j] => some (.int (if j < i then j else i))
  | .max1, [x] => (ints1 A x).bind fun l => (maxL l).map .int
  | .min1, [x] => (ints1 A x).bind fun l => (minL l).map .int
  | .sum, [x] => (ints1 A x).map fun l => .int l.sum
  | .all, [x] => ((lstO (shal A x)).bind blsO).map fun l => .bl (l.all id)
  | .any, [x] => ((lstO (shal A x)).bind blsO).map fun l => .bl (l.any id)
  | .list, [x] => (seqO (shal A x)).map .lst
  | .tuple, [x] => (seqO (shal A x)).map .tup
  | .isi, [x, .ty t] => (isiT (shal A x) t).map .bl
  | .divmod, [.int i, .int j] => if 0 < j ∧ j < 1073741824 then some (.tup [.int (i / j), .int (i % j)]) else none
  | _, _ => none
end Ev

set_option maxRecDepth 100000
/-! Ev1: the evaluator's own syntax, and what it does -/
namespace Ev
open PySem (Str)
mutual
inductive E where
  | var (i : Nat)
  | int (i : Int) | bl (b : Bool) | non | str (s : Str)
  | gv (x : Str) (i : Int) | ty (x : String) | fn (x : Str) (i : Nat)
  | tup (es : Es) | lst (es : Es) | lstM (es : Es) | dkN | dtN
  | bin (op : Bop) (a b : E) | neg (a : E) | not (a : E)
  | and (a b : E) | or (a b : E) | one (a : E)
  | ite (c a b : E)
  | cmp (op : Cop) (a b : E) | chn (p q : Cop) (a b c : E)
  | isN (a : E) (neg : Bool) | isB (a : E) (b neg : Bool)
  | idx (a b : E) | slc (a : E) (lo hi : Eo)
  | call (f : Nat) (es : Es) | callK (f : Nat) (es kes : Es) (ix : List Nat)
  | bi (b : Bi) (es : Es)
  | lrng (a : E)
  | lstOf (a : E)
  | app (o a : E)
  | comp (m : Bool) (own : List Nat) (tg : T) (it : I) (cs : Es) (e : E)
inductive Eo where
  | no | yes (e : E)
inductive Es where
  | nil | cons (e : E) (r : Es)
inductive T where
  | nm (i : Nat) | tup (ts : Ts) | sub (o i : E)
inductive Ts where
  | nil | cons (t : T) (r : Ts)
inductive I where
  | seq (e : E) | rng1 (a : E) | rng2 (a b : E) | zip (a b : E) | zip3 (a b c : E) | enum (a : E)
end
mutual
inductive S where
  | asg (t : T) (e : E)
  | par (is : List Nat) (es : Es)
  | ex (e : E)
  | iff (c : E) (a b : Ss)
  | whl (n : Nat) (c : E) (a : Ss)
  | for (t : T) (it : I) (a : Ss)
  | ret (e : E) | retN | pass | brk | cnt
  | never
  | frz (i : Nat)
inductive Ss where
  | nil | cons (s : S) (r : Ss)
end

def E.tOk : E → Bool
  | .ite _ _ _ => false
  | .not a => a.tOk
  | .one a => a.tOk
  | .and a b => a.tOk && b.tOk
  | .or a b => a.tOk && b.tOk
  | _ => true

/-! ### small steps -/
def tst (r : Res D) : Res Bool := bnd r fun d A => ofO (truO A d) A
def wipe (env : Env) : List Nat → Env
  | [] => env
  | v :: vs => (wipe env vs).set v none
def upto (lo : Int) : Nat → List D
  | 0 => []
  | n + 1 => .int lo :: upto (lo + 1) n
def rngOk (i : Int) : Prop := -(2 ^ 62) ≤ i ∧ i < 2 ^ 62
instance (i : Int) : Decidable (rngOk i) := by unfold rngOk; exact inferInstance
def zip2 : List D → List D → List D
  | x :: xs, y :: ys => .tup [x, y] :: zip2 xs ys
  | _, _ => []
def zip3 : List D → List D → List D → List D
  | x :: xs, y :: ys, z :: zs => .tup [x, y, z] :: zip3 xs ys zs
  | _, _, _ => []
def enumF (i : Int) : List D → List D
  | [] => []
  | x :: xs => .tup [.int i, x] :: enumF (i + 1) xs
/-- a store o[i] = v -/
def setO (A : AH) (o i v : D) : Option AH := match o with
  | .ref n => match A[n]?, i with
    | some (.lst xs), .int i => (ixN xs.length i).map fun j => A.set n (.lst (xs.set j v))
    | some (.dk ks vs), k => (keyO k).bind fun k => if ks.length < lim then some (A.set n (.dk (dputK k ks) (dputV k v ks vs))) else none
    | some (.dt ks vs), .tup k => (keysO k).bind fun k => if ks.length < lim then some (A.set n (.dt (dputK k ks) (dputV k v ks vs))) else none
    | _, _ => none
  | _ => none
def appO (A : AH) (o v : D) : Option AH := match o with
  | .ref n => match A[n]? with
    | some (.lst xs) => if xs.length < lim then some (A.set n (.lst (xs ++ [v]))) else none
    | _ => none
  | _ => none

def tupO : D → Option (List D)
  | .tup xs => some xs
  | _ => none
def zipO (x y : D) : Option (List D × List D) := match x, y with
  | .lst xs, .lst ys => some (xs, ys)
  | .tup xs, .tup ys => some (xs, ys)
  | _, _ => none
def lstR (A : AH) (x : D) : Option Unit := match shal A x with
  | .lst _ => some ()
  | _ => none
/-- the turns of a comprehension -/
def compL (as : D → Env → AH → Res Env) (cs : Env → AH → Res Bool) (ef : Env → AH → Res D) (env : Env) : List D → AH → Res (List D)
  | [], A => .ok [] A
  | x :: xs, A => bnd (as x env A) fun env1 A => bnd (cs env1 A) fun b A =>
      if b = true then bnd (ef env1 A) fun d A => bnd (compL as cs ef env xs A) fun ds A => .ok (d :: ds) A
      else compL as cs ef env xs A
inductive Fl where
  | nx | bk | ct | rt (d : D)
def forL (as : D → Env → AH → Res Env) (body : Env → AH → Res (Fl × Env)) : List D → Env → AH → Res (Fl × Env)
  | [], env, A => .ok (.nx, env) A
  | x :: xs, env, A => bnd (as x env A) fun env1 A => bnd (body env1 A) fun f A => match f.1 with
    | .nx => forL as body xs f.2 A
    | .ct => forL as body xs f.2 A
    | .bk => .ok (.nx, f.2) A
    | .rt d => .ok (.rt d, f.2) A
def whlL (c : Env → AH → Res Bool) (body : Env → AH → Res (Fl × Env)) : Nat → Env → AH → Res (Fl × Env)
  | 0, _, _ => .bad
  | n + 1, env, A => bnd (c env A) fun b A => if b = true then bnd (body env A) fun f A => match f.1 with
      | .nx => whlL c body n f.2 A
      | .ct => whlL c body n f.2 A
      | .bk => .ok (.nx, f.2) A
      | .rt d => .ok (.rt d, f.2) A
    else .ok (.nx, env) A

abbrev Cl := Nat → List D → AH → Res D
/-- the arguments in the parameters' order -/
def placed (ds ks : List D) (ix : List Nat) : List D := ds ++ (List.range ks.length).filterMap fun j => (ix.idxOf? (ds.length + j)).bind fun p => ks[p]?

mutual
def ev (cl : Cl) : E → Env → AH → Res D
  | .var i, env, A => match env[i]? with
    | some (some d) => .ok d A
    | _ => .bad
  | .int i, _, A => .ok (.int i) A
  | .bl b, _, A => .ok (.bl b) A
  | .non, _, A => .ok .non A
  | .str s, _, A => .ok (.str s) A
  | .gv _ i, _, A => .ok (.int i) A
  | .ty t, _, A => .ok (.ty t) A
  | .fn _ i, _, A => .ok (.fn i) A
  | .tup es, env, A => bnd (evs cl es env A) fun ds A => .ok (.tup ds) A
  | .lst es, env, A => bnd (evs cl es env A) fun ds A => .ok (.lst ds) A
  | .lstM es, env, A => bnd (evs cl es env A) fun ds A => .ok (.ref A.length) (A ++ [.lst ds])
  | .dkN, _, A => .ok (.ref A.length) (A ++ [.dk [] []])
  | .dtN, _, A => .ok (.ref A.length) (A ++ [.dt [] []])
  | .bin op a b, env, A => bnd (ev cl a env A) fun x A => bnd (ev cl b env A) fun y A => ofO (binO A op x y) A
  | .neg a, env, A => bnd (ev cl a env A) fun x A => match x with
    | .int i => .ok (.int (-i)) A
    | _ => .bad
  | .not a, env, A => bnd (tst (ev cl a env A)) fun b A => .ok (.bl (!b)) A
  | .and a b, env, A => bnd (ev cl a env A) fun x A => bnd (ofO (truO A x) A) fun t A => if t = true then ev cl b env A else .ok x A
  | .or a b, env, A => bnd (ev cl a env A) fun x A => bnd (ofO (truO A x) A) fun t A => if t = true then .ok x A else ev cl b env A
  | .one a, env, A => ev cl a env A
  | .ite c a b, env, A => bnd (tst (ev cl c env A)) fun t A => if t = true then ev cl a env A else ev cl b env A
  | .cmp op a b, env, A => bnd (ev cl a env A) fun x A => bnd (ev cl b env A) fun y A => ofO ((cmpO A op x y).map .bl) A
  | .chn p q a b c, env, A => bnd (ev cl a env A) fun x A => bnd (ev cl b env A) fun y A => bnd (ofO (cmpO A p x y) A) fun t A =>
      if t = true then bnd (ev cl c env A) fun z A => ofO ((cmpO A q y z).map .bl) A else .ok (.bl false) A
  | .isN a neg, env, A => bnd (ev cl a env A) fun x A => .ok (.bl (decide (x = .non) != neg)) A
  | .isB a b neg, env, A => bnd (ev cl a env A) fun x A => .ok (.bl (decide (x = .bl b) != neg)) A
  | .idx a b, env, A => bnd (ev cl a env A) fun x A => bnd (ev cl b env A) fun y A => ofO (idxO A x y) A
  | .slc a lo hi, env, A => bnd (ev cl a env A) fun x A => bnd (evo cl lo env A) fun l A => bnd (evo cl hi env A) fun h A => ofO (slcO A x l h) A
  | .call f es, env, A => bnd (evs cl es env A) fun ds A => cl f ds A
  | .callK f es ks ix, env, A => bnd (evs cl es env A) fun ds A => bnd (evs cl ks env A) fun ws A => cl f (placed ds ws ix) A
  | .bi b es, env, A => bnd (evs cl es env A) fun ds A => ofO (biO A b ds) A
  | .lrng a, env, A => bnd (ev cl a env A) fun x A => match x with
    | .int j => if rngOk j ∧ j ≤ lim then .ok (.lst (upto 0 j.toNat)) A else .bad
    | _ => .bad
  | .lstOf a, env, A => bnd (ev cl a env A) fun x A => bnd (ofO (seqO (shal A x)) A) fun xs A => .ok (.ref A.length) (A ++ [.lst xs])
  | .app o a, env, A => bnd (ev cl o env A) fun x A => bnd (ofO (lstR A x) A) fun _ A => bnd (ev cl a env A) fun y A => bnd (ofO (appO A x y) A) fun A1 _ => .ok .non A1
  | .comp m own tg it cs e, env, A => bnd (evi cl it env A) fun xs A => bnd (calm (compL (fun d => asg cl tg d) (fun env A => evt cl cs env A) (fun env A => ev cl e env A) (wipe env own) xs A)) fun ds A =>
      if ds.length ≤ lim then (if m = true then .ok (.ref A.length) (A ++ [.lst ds]) else .ok (.lst ds) A) else .bad
def evo (cl : Cl) : Eo → Env → AH → Res (Option Int)
  | .no, _, A => .ok none A
  | .yes e, env, A => bnd (ev cl e env A) fun x A => ofO ((intO x).map some) A
def evs (cl : Cl) : Es → Env → AH → Res (List D)
  | .nil, _, A => .ok [] A
  | .cons e r, env, A => bnd (ev cl e env A) fun d A => bnd (evs cl r env A) fun ds A => .ok (d :: ds) A
/-- all tests hold -/
def evt (cl : Cl) : Es → Env → AH → Res Bool
  | .nil, _, A => .ok true A
  | .cons e r, env, A => bnd (tst (ev cl e env A)) fun t A => if t = true then evt cl r env A else .ok false A
/-- a store of d -/
def asg (cl : Cl) : T → D → Env → AH → Res Env
  | .nm i, d, env, A => .ok (env.set i (some d)) A
  | .tup ts, d, env, A => bnd (ofO (tupO d) A) fun xs A => asgs cl ts xs env A
  | .sub o i, d, env, A => bnd (ev cl o env A) fun x A => bnd (ev cl i env A) fun y A => bnd (ofO (setO A x y d) A) fun A1 _ => .ok env A1
def asgs (cl : Cl) : Ts → List D → Env → AH → Res Env
  | .nil, ds, env, A => match ds with
    | [] => .ok env A
    | _ :: _ => .bad
  | .cons t r, ds, env, A => match ds with
    | [] => .bad
    | d :: ds => bnd (asg cl t d env A) fun env A => asgs cl r ds env A
/-- what a for walks -/
def evi (cl : Cl) : I → Env → AH → Res (List D)
  | .seq e, env, A => bnd (ev cl e env A) fun x A => ofO (seqO x) A
  | .rng1 a, env, A => bnd (ev cl a env A) fun x A => match x with
    | .int j => if rngOk j then .ok (upto 0 j.toNat) A else .bad
    | _ => .bad
  | .rng2 a b, env, A => bnd (ev cl a env A) fun x A => bnd (ev cl b env A) fun y A => match x, y with
    | .int i, .int j => if rngOk i ∧ rngOk j then .ok (upto i (j - i).toNat) A else .bad
    | _, _ => .bad
  | .zip a b, env, A => bnd (ev cl a env A) fun x A => bnd (ev cl b env A) fun y A => bnd (ofO (zipO x y) A) fun q A => .ok (zip2 q.1 q.2) A
  | .zip3 a b c, env, A => bnd (ev cl a env A) fun x A => bnd (ev cl b env A) fun y A => bnd (ev cl c env A) fun z A =>
      bnd (ofO (seqO x) A) fun xs A => bnd (ofO (seqO y) A) fun ys A => bnd (ofO (seqO z) A) fun zs A => .ok (zip3 xs ys zs) A
  | .enum a, env, A => bnd (ev cl a env A) fun x A => bnd (ofO (lstO x) A) fun xs A => .ok (enumF 0 xs) A
end

/-! ### giving up an object: its content becomes a value -/
def killAll : List Nat → AH → AH
  | [], A => A
  | n :: r, A => killAll r (A.set n .dead)
def fzL (f : D → Option (D × List Nat)) : List D → Option (List D × List Nat)
  | [] => some ([], [])
  | x :: xs => match f x, fzL f xs with
    | some (d, l), some (ds, ls) => some (d :: ds, l ++ ls)
    | _, _ => none
/-- d with its objects' contents put in, and which objects those were -/
def fz (A : AH) : Nat → D → Option (D × List Nat)
  | 0, _ => none
  | k + 1, .ref n => match A[n]? with
    | some (.lst xs) => (fzL (fz A k) xs).map fun p => (.lst p.1, n :: p.2)
    | some (.dk ks vs) => (fzL (fz A k) vs).map fun p => (.dk ks p.1, n :: p.2)
    | some (.dt ks vs) => (fzL (fz A k) vs).map fun p => (.dt ks p.1, n :: p.2)
    | _ => none
  | k + 1, .tup xs => (fzL (fz A k) xs).map fun p => (.tup p.1, p.2)
  | k + 1, .lst xs => (fzL (fz A k) xs).map fun p => (.lst p.1, p.2)
  | k + 1, .kl xs => (fzL (fz A k) xs).map fun p => (.kl p.1, p.2)
  | k + 1, .dk ks vs => (fzL (fz A k) vs).map fun p => (.dk ks p.1, p.2)
  | k + 1, .dt ks vs => (fzL (fz A k) vs).map fun p => (.dt ks p.1, p.2)
  | _ + 1, d => some (d, [])
def D.atom : D → Bool
  | .non => true
  | .bl _ => true
  | .int _ => true
  | .str _ => true
  | _ => false
def O.flat : O → Bool
  | .lst xs => xs.all D.atom
  | .dk _ vs => vs.all D.atom
  | .dt _ vs => vs.all D.atom
  | .dead => true
/-- each elder object is as it was, or holds no objects -/
def oldOk : AH → AH → Bool
  | [], _ => true
  | _ :: _, [] => false
  | o :: r, o' :: r' => (decide (o' = o) || o'.flat) && oldOk r r'

def setPar : List Nat → List D → Env → Env
  | i :: is, d :: ds, env => setPar is ds (env.set i (some d))
  | _, _, env => env
mutual
def evS (cl : Cl) : S → Env → AH → Res (Fl × Env)
  | .asg t e, env, A => bnd (ev cl e env A) fun d A => bnd (asg cl t d env A) fun env A => .ok (.nx, env) A
  | .par is es, env, A => bnd (evs cl es env A) fun ds A => if ds.length = is.length then .ok (.nx, setPar is ds env) A else .bad
  | .ex e, env, A => bnd (ev cl e env A) fun _ A => .ok (.nx, env) A
  | .iff c a b, env, A => bnd (tst (ev cl c env A)) fun t A => if t = true then evSs cl a env A else evSs cl b env A
  | .whl n c a, env, A => whlL (fun env A => tst (ev cl c env A)) (fun env A => evSs cl a env A) n env A
  | .for t it a, env, A => bnd (evi cl it env A) fun xs A => forL (fun d => asg cl t d) (fun env A => evSs cl a env A) xs env A
  | .ret e, env, A => bnd (ev cl e env A) fun d A => .ok (.rt d, env) A
  | .retN, env, A => .ok (.rt .non, env) A
  | .pass, env, A => .ok (.nx, env) A
  | .brk, env, A => .ok (.bk, env) A
  | .cnt, env, A => .ok (.ct, env) A
  | .never, _, _ => .bad
  | .frz i, env, A => match env[i]? with
    | some (some d) => match fz A 8 d with
      | some (d', L) => .ok (.nx, env.set i (some d')) (killAll L A)
      | none => .bad
    | _ => .bad
def evSs (cl : Cl) : Ss → Env → AH → Res (Fl × Env)
  | .nil, env, A => .ok (.nx, env) A
  | .cons s r, env, A => bnd (evS cl s env A) fun f A => match f.1 with
    | .nx => evSs cl r f.2 A
    | _ => .ok f A
end

/-- a def: parameters, names, body; fz: what it hands back is made a value, its own objects are dropped -/
structure Df where
  np : Nat
  ns : Nat
  fz : Bool
  body : Ss
def startE (ds : List D) (ns : Nat) : Env := ds.map some ++ List.replicate (ns - ds.length) none
def finish (m : Bool) (A : AH) (d : D) (A' : AH) : Res D :=
  if m = true then match fz A' 8 d with
    | some (d', L) => if (L.all (fun n => decide (A.length ≤ n)) && oldOk A A') = true then .ok d' (A'.take A.length) else .bad
    | none => .bad
  else .ok d A'
def runDf (cl : Cl) (df : Df) (ds : List D) (A : AH) : Res D :=
  if ds.length = df.np then bnd (evSs cl df.body (startE ds df.ns) A) fun f A' => match f.1 with
    | .rt d => finish df.fz A d A'
    | .nx => finish df.fz A .non A'
    | _ => .bad
  else .bad
def callF (Ps : List Df) : Nat → Cl
  | 0, _, _, _ => .bad
  | n + 1, f, ds, A => match Ps[f]? with
    | some df => runDf (callF Ps n) df ds A
    | none => .bad
end Ev

set_option maxRecDepth 100000
/-! Ev2: how the evaluator's data lie in the layer's heap -/
namespace Ev
open PySem PySem.Spec L2
abbrev St := L2.St

/-- where the changing objects lie; what may change or is being made; the heap -/
structure Wd where
  m : List Addr
  W : Addr → Prop
  H : Hp
/-- a list of the written part -/
def KL (K : PySem.W.Frag) (a : Addr) (xs : List V) : Prop :=
  ∃ (o : Obj) (its : Array Value) (n : Nat), K.lookup a = some o ∧ o.cls = .type "list" ∧ o.dict = none ∧ o.data = .seq its n ∧ its.size ≤ sizeLine ∧ Vals xs its.toList
/-- it stands and does not change -/
def Stl (ω : Wd) (a : Addr) (u : HO) : Prop := ¬ ω.W a ∧ Rd ω.H a u
def SLs (K : PySem.W.Frag) (ω : Wd) (a : Addr) (xs : List V) : Prop := Stl ω a (.lst xs) ∨ KL K a xs
def STs (K : PySem.W.Frag) (ω : Wd) (a : Addr) (xs : List V) : Prop := ω.H a = some (.tup xs)
theorem SLs.sq {K : PySem.W.Frag} {ω : Wd} {a : Addr} {xs : List V} (h : SLs K ω a xs) : SqL K ω.H a xs := h.elim (fun h => .inl h.2) .inr
theorem STs.sq {K : PySem.W.Frag} {ω : Wd} {a : Addr} {xs : List V} (h : STs K ω a xs) : SqT K ω.H a xs := .inl (.inl h)

mutual
inductive Rep (K : PySem.W.Frag) (F : Nat → Addr) (ω : Wd) : D → V → Prop where
  | non : Rep K F ω .non .non
  | bl (b : Bool) : Rep K F ω (.bl b) (.bl b)
  | int (i : Int) : Rep K F ω (.int i) (.int i)
  | str (s : Str) (h : s.length ≤ sizeLine) : Rep K F ω (.str s) (.str s)
  | tup {a : Addr} {xs : List D} {vs : List V} (h : STs K ω a vs) (l : vs.length ≤ sizeLine) (r : Reps K F ω xs vs) : Rep K F ω (.tup xs) (.ref a)
  | lst {a : Addr} {xs : List D} {vs : List V} (h : Stl ω a (.lst vs)) (l : vs.length ≤ sizeLine) (r : Reps K F ω xs vs) : Rep K F ω (.lst xs) (.ref a)
  | kl {a : Addr} {xs : List D} {vs : List V} (h : SLs K ω a vs) (l : vs.length ≤ sizeLine) (r : Reps K F ω xs vs) : Rep K F ω (.kl xs) (.ref a)
  | dk {a : Addr} {ks : List Key} {xs : List D} {vs : List V} (h : Stl ω a (.dK (ks.zip vs))) (l : ks.length = xs.length) (r : Reps K F ω xs vs) : Rep K F ω (.dk ks xs) (.ref a)
  | dt {a : Addr} {ks : List (List Key)} {xs : List D} {vs : List V} (h : Stl ω a (.dT (ks.zip vs))) (l : ks.length = xs.length) (r : Reps K F ω xs vs) : Rep K F ω (.dt ks xs) (.ref a)
  | ref {n : Nat} {a : Addr} (h : ω.m[n]? = some a) : Rep K F ω (.ref n) (.ref a)
  | fn (i : Nat) : Rep K F ω (.fn i) (.ref (F i))
  | ty (t : String) : Rep K F ω (.ty t) (.ty t)
inductive Reps (K : PySem.W.Frag) (F : Nat → Addr) (ω : Wd) : List D → List V → Prop where
  | nil : Reps K F ω [] []
  | cons {x : D} {v : V} {xs : List D} {vs : List V} (h : Rep K F ω x v) (r : Reps K F ω xs vs) : Reps K F ω (x :: xs) (v :: vs)
end

section
variable {K : PySem.W.Frag} {F : Nat → Addr} {ω ω' : Wd}
theorem Reps.len : ∀ {xs : List D} {vs : List V}, Reps K F ω xs vs → xs.length = vs.length
  | _, _, .nil => rfl
  | _, _, .cons _ r => by simp [Reps.len r]
theorem Reps.get : ∀ {xs : List D} {vs : List V} {i : Nat} {d : D}, Reps K F ω xs vs → xs[i]? = some d → ∃ v, vs[i]? = some v ∧ Rep K F ω d v
  | _, _, i, d, .nil, e => by simp at e
  | _, _, 0, d, .cons h _, e => by simp at e; subst e; exact ⟨_, rfl, h⟩
  | _, _, i + 1, d, .cons _ r, e => by
    obtain ⟨v, h1, h2⟩ := Reps.get r (by simpa using e)
    exact ⟨v, by simpa using h1, h2⟩
theorem Reps.get' : ∀ {xs : List D} {vs : List V} {i : Nat} {v : V}, Reps K F ω xs vs → vs[i]? = some v → ∃ d, xs[i]? = some d ∧ Rep K F ω d v
  | _, _, i, d, .nil, e => by simp at e
  | _, _, 0, d, .cons h _, e => by simp at e; subst e; exact ⟨_, rfl, h⟩
  | _, _, i + 1, d, .cons _ r, e => by
    obtain ⟨v, h1, h2⟩ := Reps.get' r (by simpa using e)
    exact ⟨v, by simpa using h1, h2⟩
theorem Reps.app : ∀ {xs ys : List D} {vs us : List V}, Reps K F ω xs vs → Reps K F ω ys us → Reps K F ω (xs ++ ys) (vs ++ us)
  | _, _, _, _, .nil, s => s
  | _, _, _, _, .cons h r, s => .cons h (Reps.app r s)
theorem Reps.take : ∀ {xs : List D} {vs : List V} (n : Nat), Reps K F ω xs vs → Reps K F ω (xs.take n) (vs.take n)
  | _, _, 0, _ => .nil
  | _, _, _ + 1, .nil => .nil
  | _, _, n + 1, .cons h r => .cons h (Reps.take n r)
theorem Reps.drop : ∀ {xs : List D} {vs : List V} (n : Nat), Reps K F ω xs vs → Reps K F ω (xs.drop n) (vs.drop n)
  | _, _, 0, r => r
  | _, _, _ + 1, .nil => .nil
  | _, _, n + 1, .cons _ r => Reps.drop n r
theorem Reps.set {d : D} {v : V} (h : Rep K F ω d v) : ∀ {xs : List D} {vs : List V} (n : Nat), Reps K F ω xs vs → Reps K F ω (xs.set n d) (vs.set n v)
  | _, _, _, .nil => .nil
  | _, _, 0, .cons _ r => .cons h r
  | _, _, n + 1, .cons q r => .cons q (Reps.set h n r)

/-- what stood still stands -/
structure Le (ω ω' : Wd) : Prop where
  m : ω.m <+: ω'.m
  keepW : ∀ a, (ω.H a).isSome = true → ¬ ω.W a → ¬ ω'.W a
  rd : ∀ a u, ¬ ω.W a → Rd ω.H a u → Rd ω'.H a u
  trk : ∀ a, (ω.H a).isSome = true → (ω'.H a).isSome = true
  tup : ∀ a xs, ω.H a = some (.tup xs) → ω'.H a = some (.tup xs)
theorem Le.refl (ω : Wd) : Le ω ω := ⟨List.prefix_refl _, fun _ _ h => h, fun _ _ _ h => h, fun _ h => h, fun _ _ h => h⟩
theorem Le.trans {a b c : Wd} (h : Le a b) (k : Le b c) : Le a c :=
  ⟨h.m.trans k.m, fun x hx hw => k.keepW x (h.trk x hx) (h.keepW x hx hw), fun x u hw r => k.rd x u (h.keepW x (by rcases r with r | ⟨o, r⟩ <;> simp [r]) hw) (h.rd x u hw r), fun x hx => k.trk x (h.trk x hx), fun x xs e => k.tup x xs (h.tup x xs e)⟩
theorem Rd.isSome {H : Hp} {a : Addr} {u : HO} (r : Rd H a u) : (H a).isSome = true := by rcases r with r | ⟨o, r⟩ <;> simp [r]
theorem Stl.le {a : Addr} {u : HO} (h : Stl ω a u) (l : Le ω ω') : Stl ω' a u := ⟨l.keepW a (Rd.isSome h.2) h.1, l.rd a u h.1 h.2⟩
theorem SLs.le {a : Addr} {xs : List V} (h : SLs K ω a xs) (l : Le ω ω') : SLs K ω' a xs := h.imp (·.le l) id
theorem STs.le {a : Addr} {xs : List V} (h : STs K ω a xs) (l : Le ω ω') : STs K ω' a xs := l.tup a xs h
mutual
theorem Rep.le (l : Le ω ω') : ∀ {d : D} {v : V}, Rep K F ω d v → Rep K F ω' d v
  | _, _, .non => .non
  | _, _, .bl b => .bl b
  | _, _, .int i => .int i
  | _, _, .str s h => .str s h
  | _, _, .tup h z r => .tup (h.le l) z (Reps.le l r)
  | _, _, .lst h z r => .lst (h.le l) z (Reps.le l r)
  | _, _, .kl h z r => .kl (h.le l) z (Reps.le l r)
  | _, _, .dk h z r => .dk (h.le l) z (Reps.le l r)
  | _, _, .dt h z r => .dt (h.le l) z (Reps.le l r)
  | _, _, .ref h => .ref (by obtain ⟨t, e⟩ := l.m; rw [← e, List.getElem?_append_left (List.getElem?_eq_some_iff.mp h).1]; exact h)
  | _, _, .fn i => .fn i
  | _, _, .ty t => .ty t
theorem Reps.le (l : Le ω ω') : ∀ {xs : List D} {vs : List V}, Reps K F ω xs vs → Reps K F ω' xs vs
  | _, _, .nil => .nil
  | _, _, .cons h r => .cons (Rep.le l h) (Reps.le l r)
end

/-- the object at a -/
def RepO (K : PySem.W.Frag) (F : Nat → Addr) (ω : Wd) (o : O) (a : Addr) : Prop := match o with
  | .lst xs => ∃ vs, ω.H a = some (.lst vs) ∧ vs.length ≤ sizeLine ∧ Reps K F ω xs vs
  | .dk ks xs => ∃ vs, ω.H a = some (.dK (ks.zip vs)) ∧ ks.length = xs.length ∧ Reps K F ω xs vs
  | .dt ks xs => ∃ vs, ω.H a = some (.dT (ks.zip vs)) ∧ ks.length = xs.length ∧ Reps K F ω xs vs
  | .dead => True
/-- the changing objects; P: what is being made outside of the evaluator's sight -/
structure HR (K : PySem.W.Frag) (F : Nat → Addr) (P : Addr → Prop) (ω : Wd) (A : AH) : Prop where
  len : ω.m.length = A.length
  nd : ω.m.Nodup
  trk : ∀ a ∈ ω.m, (ω.H a).isSome = true
  sep : ∀ a, P a → a ∉ ω.m
  ptrk : ∀ a, P a → (ω.H a).isSome = true
  ex : ∀ a, ω.W a ↔ (P a ∨ ∃ (n : Nat) (o : O), ω.m[n]? = some a ∧ A[n]? = some o ∧ o ≠ O.dead)
  obj : ∀ (n : Nat) (o : O) (a : Addr), A[n]? = some o → ω.m[n]? = some a → RepO K F ω o a
/-- what is being made is untouched -/
def Pk (P : Addr → Prop) (ω ω' : Wd) : Prop := ∀ a, P a → ω'.H a = ω.H a
theorem Pk.refl (P : Addr → Prop) (ω : Wd) : Pk P ω ω := fun _ _ => rfl
theorem Pk.trans {P : Addr → Prop} {a b c : Wd} (h : Pk P a b) (k : Pk P b c) : Pk P a c := fun x hx => (k x hx).trans (h x hx)
theorem HR.fresh {P : Addr → Prop} {A : AH} (h : HR K F P ω A) {p : Addr} (hp : ω.H p = none) : ¬ ω.W p := fun w => by
  rcases (h.ex p).mp w with q | ⟨n, o, hm, _, _⟩
  · have := h.ptrk p q; rw [hp] at this; cases this
  · have := h.trk p (List.mem_of_getElem? hm); rw [hp] at this; cases this

/-- local names -/
structure EnvR (K : PySem.W.Frag) (F : Nat → Addr) (ω : Wd) (env : Env) (σ : St) : Prop where
  len : env.length = σ.length
  at' : ∀ (i : Nat) (d : D), env[i]? = some (some d) → ∃ v : V, σ[i]? = some (some v) ∧ Rep K F ω d v
theorem EnvR.le (l : Le ω ω') {env : Env} {σ : St} (h : EnvR K F ω env σ) : EnvR K F ω' env σ := ⟨h.len, fun i d e => let ⟨v, h1, h2⟩ := h.at' i d e; ⟨v, h1, h2.le l⟩⟩
theorem EnvR.set {env : Env} {σ : St} {d : D} {v : V} (h : EnvR K F ω env σ) (i : Nat) (r : Rep K F ω d v) : EnvR K F ω (env.set i (some d)) (σ.set i (some v)) := by
  refine ⟨by simp [h.len], fun j e hj => ?_⟩
  by_cases hi : i = j
  · subst hi
    by_cases hl : i < env.length
    · rw [List.getElem?_set_self hl] at hj
      cases hj
      exact ⟨v, List.getElem?_set_self (h.len ▸ hl), r⟩
    · rw [List.getElem?_eq_none (by simpa using hl)] at hj
      cases hj
  · rw [List.getElem?_set_ne hi] at hj
    obtain ⟨u, h1, h2⟩ := h.at' j e hj
    exact ⟨u, by rw [List.getElem?_set_ne hi]; exact h1, h2⟩
theorem EnvR.wipe {env : Env} {σ : St} (h : EnvR K F ω env σ) : ∀ vs : List Nat, EnvR K F ω (wipe env vs) (L2.wipe σ vs)
  | [] => h
  | i :: vs => by
    have ih := EnvR.wipe h vs
    refine ⟨by simp only [Ev.wipe, L2.wipe, List.length_set]; exact ih.len, fun j e hj => ?_⟩
    simp only [Ev.wipe] at hj
    simp only [L2.wipe]
    by_cases hi : i = j
    · subst hi
      by_cases hl : i < (Ev.wipe env vs).length
      · rw [List.getElem?_set_self hl] at hj; cases hj
      · rw [List.getElem?_eq_none (by simpa using hl)] at hj; cases hj
    · rw [List.getElem?_set_ne hi] at hj
      obtain ⟨u, h1, h2⟩ := ih.at' j e hj
      exact ⟨u, by rw [List.getElem?_set_ne hi]; exact h1, h2⟩

/-! ### outcomes -/
/-- whatever the machine makes of it, Φ holds behind it -/
def Out {α : Type} (K : PySem.W.Frag) (F : Nat → Addr) (P : Addr → Prop) (ω : Wd) (r : Res α) (Φ : α → Wd → AH → Prop) : Prop := match r with
  | .ok a A' => ∀ ω', Le ω ω' → Pk P ω ω' → HR K F P ω' A' → Φ a ω' A'
  | .exc _ _ _ => False
  | .bad => False
variable {P : Addr → Prop} {α β : Type}
theorem Out.le {r : Res α} {Φ : α → Wd → AH → Prop} (l : Le ω ω') (k : Pk P ω ω') (h : Out K F P ω r Φ) : Out K F P ω' r Φ := by
  cases r with
  | ok a A => exact fun ω'' l' k' hr => h ω'' (l.trans l') (k.trans k') hr
  | exc _ _ _ => exact h
  | bad => exact h
theorem Out.bnd {r : Res α} {g : α → AH → Res β} {Φ : β → Wd → AH → Prop} (h : Out K F P ω (bnd r g) Φ) : Out K F P ω r fun a ω' A' => Out K F P ω' (g a A') Φ := by
  cases r with
  | ok a A => exact fun ω' l k hr => Out.le l k h
  | exc _ _ _ => exact h
  | bad => exact h
theorem Out.imp {r : Res α} {Φ Ψ : α → Wd → AH → Prop} (h : Out K F P ω r Φ) (f : ∀ a ω' A', Le ω ω' → Pk P ω ω' → HR K F P ω' A' → Φ a ω' A' → Ψ a ω' A') : Out K F P ω r Ψ := by
  cases r with
  | ok a A => exact fun ω' l k hr => f a ω' A l k hr (h ω' l k hr)
  | exc _ _ _ => exact h
  | bad => exact h
/-- the machine has made just this -/
theorem Out.here {a : α} {A' : AH} {Φ : α → Wd → AH → Prop} (h : Out K F P ω (.ok a A') Φ) (hr : HR K F P ω A') : Φ a ω A' := h ω (Le.refl ω) (Pk.refl P ω) hr
theorem Out.ofO {o : Option α} {A : AH} {Φ : α → Wd → AH → Prop} (h : Out K F P ω (ofO o A) Φ) : ∃ a, o = some a ∧ Out K F P ω (.ok a A) Φ := by
  cases o with
  | none => exact h.elim
  | some a => exact ⟨a, rfl, h⟩
theorem Out.calm {r : Res α} {Φ : α → Wd → AH → Prop} (h : Out K F P ω (calm r) Φ) : Out K F P ω r Φ := by
  cases r with
  | ok a A => exact h
  | exc _ _ _ => exact h.elim
  | bad => exact h
end

/-! ### a heap with one thing more; an object changed -/
section
variable {K : PySem.W.Frag} {F : Nat → Addr} {ω : Wd} {P : Addr → Prop} {A : AH}
/-- a new thing at p -/
abbrev Wd.new (ω : Wd) (p : Addr) (u : HO) : Wd := { ω with H := upd ω.H p u }
theorem rd_new {H : Hp} {p a : Addr} {u o : HO} (hp : H p = none) (r : Rd H a o) : Rd (upd H p u) a o := by
  have hne : a ≠ p := fun e => by subst e; rcases r with r | ⟨_, r⟩ <;> (rw [hp] at r; cases r)
  rcases r with r | ⟨b, r⟩
  · exact .inl (by rw [upd_ne hne]; exact r)
  · exact .inr ⟨b, by rw [upd_ne hne]; exact r⟩
theorem some_new {H : Hp} {p a : Addr} {u : HO} (h : (H a).isSome = true) : (upd H p u a).isSome = true := by
  unfold upd; split <;> simp [h]
theorem Le.new (ω : Wd) {p : Addr} {u : HO} (hp : ω.H p = none) : Le ω (ω.new p u) :=
  ⟨List.prefix_refl _, fun _ _ h => h, fun a o _ r => rd_new hp r, fun a h => some_new h, fun a xs h => (upd_ne (fun e => by subst e; rw [hp] at h; cases h)).trans h⟩
theorem Pk.new {p : Addr} {u : HO} (hp : ω.H p = none) (hP : ∀ a, P a → (ω.H a).isSome = true) : Pk P ω (ω.new p u) := fun a ha => by
  have hne : a ≠ p := fun e => by subst e; have := hP a ha; rw [hp] at this; cases this
  exact upd_ne hne
theorem RepO.le {ω' : Wd} {o : O} {a : Addr} (l : Le ω ω') (h : RepO K F ω o a) (e : ω'.H a = ω.H a) : RepO K F ω' o a := by
  cases o with
  | lst xs => obtain ⟨vs, h1, h2, h3⟩ := h; exact ⟨vs, e.trans h1, h2, h3.le l⟩
  | dk ks xs => obtain ⟨vs, h1, h2, h3⟩ := h; exact ⟨vs, e.trans h1, h2, h3.le l⟩
  | dt ks xs => obtain ⟨vs, h1, h2, h3⟩ := h; exact ⟨vs, e.trans h1, h2, h3.le l⟩
  | dead => trivial
theorem HR.new (h : HR K F P ω A) {p : Addr} {u : HO} (hp : ω.H p = none) : HR K F P (ω.new p u) A := by
  have hne : ∀ {a}, (ω.H a).isSome = true → a ≠ p := fun {a} z e => by subst e; rw [hp] at z; cases z
  refine ⟨h.len, h.nd, fun a ha => some_new (h.trk a ha), h.sep, fun a ha => some_new (h.ptrk a ha), h.ex, fun n o a ho hm => ?_⟩
  exact (h.obj n o a ho hm).le (Le.new ω hp) (upd_ne (hne (h.trk a (List.mem_of_getElem? hm))))
/-- a new still thing -/
theorem HR.still (h : HR K F P ω A) {p : Addr} {u : HO} (hp : ω.H p = none) : Stl (ω.new p u) p u := ⟨h.fresh hp, .inl upd_same⟩

/-- a new changing object -/
abbrev Wd.obj (ω : Wd) (p : Addr) (u : HO) : Wd := { m := ω.m ++ [p], W := fun a => ω.W a ∨ a = p, H := upd ω.H p u }
theorem Le.obj (ω : Wd) {p : Addr} {u : HO} (hp : ω.H p = none) : Le ω (ω.obj p u) :=
  ⟨List.prefix_append _ _, fun a h w z => z.elim w (fun e => by subst e; rw [hp] at h; cases h), fun a o _ r => rd_new hp r, fun a h => some_new h, fun a xs h => (upd_ne (fun e => by subst e; rw [hp] at h; cases h)).trans h⟩
theorem get_snoc {α : Type} {l : List α} {x y : α} {n : Nat} (h : (l ++ [x])[n]? = some y) : l[n]? = some y ∨ (n = l.length ∧ y = x) := by
  by_cases hn : n < l.length
  · rw [List.getElem?_append_left hn] at h; exact .inl h
  · by_cases e : n = l.length
    · subst e; simp at h; exact .inr ⟨rfl, h.symm⟩
    · rw [List.getElem?_eq_none (by simp; omega)] at h; cases h
theorem HR.mko (h : HR K F P ω A) {p : Addr} {u : HO} {o : O} (hp : ω.H p = none) (hd : o ≠ O.dead) (ho : RepO K F (ω.obj p u) o p) : HR K F P (ω.obj p u) (A ++ [o]) := by
  have hne : ∀ {a}, (ω.H a).isSome = true → a ≠ p := fun {a} z e => by subst e; rw [hp] at z; cases z
  have hpm : p ∉ ω.m := fun z => hne (h.trk p z) rfl
  refine ⟨by simp [h.len], ?_, fun a ha => ?_, fun a ha z => ?_, fun a ha => some_new (h.ptrk a ha), fun a => ⟨?_, ?_⟩, fun n o' a ho' hm => ?_⟩
  · exact List.nodup_append.mpr ⟨h.nd, by simp, fun a ha b hb => by simp at hb; subst hb; exact fun e => hpm (e ▸ ha)⟩
  · rcases List.mem_append.mp ha with z | z
    · exact some_new (h.trk a z)
    · simp at z; subst z; simp [upd_same]
  · rcases List.mem_append.mp z with z | z
    · exact h.sep a ha z
    · simp at z; exact hne (h.ptrk a ha) z
  · rintro (z | z)
    · rcases (h.ex a).mp z with q | ⟨n, o', q1, q2, q3⟩
      · exact .inl q
      · exact .inr ⟨n, o', by rw [List.getElem?_append_left (List.getElem?_eq_some_iff.mp q1).1]; exact q1, by rw [List.getElem?_append_left (List.getElem?_eq_some_iff.mp q2).1]; exact q2, q3⟩
    · subst z
      exact .inr ⟨ω.m.length, o, by simp, by rw [h.len]; simp, hd⟩
  · rintro (z | ⟨n, o', q1, q2, q3⟩)
    · exact .inl ((h.ex a).mpr (.inl z))
    · rcases get_snoc q1 with e1 | ⟨e1, e2⟩
      · rcases get_snoc q2 with e3 | ⟨e3, _⟩
        · exact .inl ((h.ex a).mpr (.inr ⟨n, o', e1, e3, q3⟩))
        · have := (List.getElem?_eq_some_iff.mp e1).1; rw [h.len] at this; omega
      · exact .inr e2
  · rcases get_snoc hm with e1 | ⟨e1, e2⟩
    · rcases get_snoc ho' with e3 | ⟨e3, _⟩
      · exact (h.obj n o' a e3 e1).le (Le.obj ω hp) (upd_ne (hne (h.trk a (List.mem_of_getElem? e1))))
      · have := (List.getElem?_eq_some_iff.mp e1).1; rw [h.len] at this; omega
    · rcases get_snoc ho' with e3 | ⟨e3, e4⟩
      · have := (List.getElem?_eq_some_iff.mp e3).1; rw [h.len] at e1; omega
      · subst e4; subst e2; exact ho

theorem nodup_get {α : Type} : ∀ {l : List α} {i j : Nat} {x : α}, l.Nodup → l[i]? = some x → l[j]? = some x → i = j
  | [], _, _, _, _, h, _ => by simp at h
  | y :: l, 0, 0, _, _, _, _ => rfl
  | y :: l, 0, j + 1, x, n, h, k => by
    simp at h k; subst h
    exact absurd (List.mem_of_getElem? k) (List.nodup_cons.mp n).1
  | y :: l, i + 1, 0, x, n, h, k => by
    simp at h k; subst k
    exact absurd (List.mem_of_getElem? h) (List.nodup_cons.mp n).1
  | y :: l, i + 1, j + 1, x, n, h, k => by
    exact congrArg (· + 1) (nodup_get (List.nodup_cons.mp n).2 (by simpa using h) (by simpa using k))
/-- a changing object is changed -/
abbrev Wd.chg (ω : Wd) (p : Addr) (u : HO) : Wd := { ω with H := upd ω.H p u }
theorem Le.chg (h : HR K F P ω A) {n : Nat} {o : O} {p : Addr} {u : HO} (hm : ω.m[n]? = some p) (hA : A[n]? = some o) (hd : o ≠ O.dead) : Le ω (ω.chg p u) := by
  have hw : ω.W p := (h.ex p).mpr (.inr ⟨n, o, hm, hA, hd⟩)
  refine ⟨List.prefix_refl _, fun _ _ z => z, fun a v z r => ?_, fun a z => some_new z, fun a xs e => (upd_ne fun z => ?_).trans e⟩
  rotate_left
  · subst z
    have q := h.obj n o a hA hm
    cases o with
    | lst xs => obtain ⟨vs, h1, _⟩ := q; rw [e] at h1; cases h1
    | dk ks xs => obtain ⟨vs, h1, _⟩ := q; rw [e] at h1; cases h1
    | dt ks xs => obtain ⟨vs, h1, _⟩ := q; rw [e] at h1; cases h1
    | dead => exact hd rfl
  have hne : a ≠ p := fun e => z (e ▸ hw)
  rcases r with r | ⟨b, r⟩
  · exact .inl ((upd_ne hne).trans r)
  · exact .inr ⟨b, (upd_ne hne).trans r⟩
theorem Pk.chg (h : HR K F P ω A) {n : Nat} {p : Addr} {u : HO} (hm : ω.m[n]? = some p) : Pk P ω (ω.chg p u) := fun a ha =>
  upd_ne fun e => h.sep a ha (e ▸ List.mem_of_getElem? hm)
theorem HR.chg (h : HR K F P ω A) {n : Nat} {o o' : O} {p : Addr} {u : HO} (hm : ω.m[n]? = some p) (hA : A[n]? = some o) (hd : o ≠ O.dead) (hd' : o' ≠ O.dead)
    (ho : RepO K F (ω.chg p u) o' p) : HR K F P (ω.chg p u) (A.set n o') := by
  have hnA : n < A.length := (List.getElem?_eq_some_iff.mp hA).1
  refine ⟨by simp [h.len], h.nd, fun a ha => some_new (h.trk a ha), h.sep, fun a ha => some_new (h.ptrk a ha), fun a => ?_, fun k oo a ho' hm' => ?_⟩
  · refine (h.ex a).trans ⟨?_, ?_⟩
    · rintro (z | ⟨k, oo, q1, q2, q3⟩)
      · exact .inl z
      · by_cases e : n = k
        · subst e; exact .inr ⟨n, o', q1, List.getElem?_set_self hnA, hd'⟩
        · exact .inr ⟨k, oo, q1, by rw [List.getElem?_set_ne e]; exact q2, q3⟩
    · rintro (z | ⟨k, oo, q1, q2, q3⟩)
      · exact .inl z
      · by_cases e : n = k
        · subst e; exact .inr ⟨n, o, q1, hA, hd⟩
        · exact .inr ⟨k, oo, q1, by rw [List.getElem?_set_ne e] at q2; exact q2, q3⟩
  · by_cases e : n = k
    · subst e
      rw [List.getElem?_set_self hnA] at ho'
      cases ho'
      rw [hm] at hm'; cases hm'
      exact ho
    · rw [List.getElem?_set_ne e] at ho'
      refine (h.obj k oo a ho' hm').le (Le.chg h hm hA hd) (upd_ne fun z => e ?_)
      subst z
      exact nodup_get h.nd hm hm'
end
end Ev

set_option maxRecDepth 100000
/-! Ev3: the operators, by values -/
namespace Ev
open PySem PySem.Spec L2

section
variable {K : PySem.W.Frag} {F : Nat → Addr} {ω : Wd} {P : Addr → Prop} {A : AH}
/-- the end of an expression -/
abbrev fin (K : PySem.W.Frag) (F : Nat → Addr) (Q : VK) : D → Wd → AH → Prop := fun d ω' _ => ∀ v, Rep K F ω' d v → Q v ω'.H
abbrev finB (Q : Bool → Hp → Prop) : Bool → Wd → AH → Prop := fun b ω' _ => Q b ω'.H

theorem Out.val {d : D} {Q : VK} {v : V} (h : Out K F P ω (.ok d A) (fin K F Q)) (hr : HR K F P ω A) (r : Rep K F ω d v) : Q v ω.H := h.here hr v r
/-- a new list, a new tuple -/
theorem Out.newL {xs : List D} {vs : List V} {Q : VK} (h : Out K F P ω (.ok (.lst xs) A) (fin K F Q)) (hr : HR K F P ω A) (r : Reps K F ω xs vs) (l : vs.length ≤ sizeLine) (p : Addr) (hp : ω.H p = none) :
    Q (.ref p) (upd ω.H p (.lst vs)) :=
  h (ω.new p (.lst vs)) (Le.new ω hp) (Pk.new hp hr.ptrk) (hr.new hp) _ (.lst (hr.still hp) l (r.le (Le.new ω hp)))
theorem Out.newT {xs : List D} {vs : List V} {Q : VK} (h : Out K F P ω (.ok (.tup xs) A) (fin K F Q)) (hr : HR K F P ω A) (r : Reps K F ω xs vs) (l : vs.length ≤ sizeLine) (p : Addr) (hp : ω.H p = none) :
    Q (.ref p) (upd ω.H p (.tup vs)) :=
  h (ω.new p (.tup vs)) (Le.new ω hp) (Pk.new hp hr.ptrk) (hr.new hp) _ (.tup upd_same l (r.le (Le.new ω hp)))

/-! ### looks through a changing object -/
def View (K : PySem.W.Frag) (F : Nat → Addr) (ω : Wd) : D → V → Prop
  | .lst xs, v => ∃ a vs, v = .ref a ∧ Rd ω.H a (.lst vs) ∧ vs.length ≤ sizeLine ∧ Reps K F ω xs vs
  | .dk ks xs, v => ∃ a vs, v = .ref a ∧ Rd ω.H a (.dK (ks.zip vs)) ∧ ks.length = xs.length ∧ Reps K F ω xs vs
  | .dt ks xs, v => ∃ a vs, v = .ref a ∧ Rd ω.H a (.dT (ks.zip vs)) ∧ ks.length = xs.length ∧ Reps K F ω xs vs
  | d, v => Rep K F ω d v
theorem view (hr : HR K F P ω A) : ∀ {d : D} {v : V}, Rep K F ω d v → View K F ω (shal A d) v
  | _, _, .non => .non
  | _, _, .bl b => .bl b
  | _, _, .int i => .int i
  | _, _, .str s h => .str s h
  | _, _, .tup h z r => .tup h z r
  | _, _, .lst h z r => ⟨_, _, rfl, h.2, z, r⟩
  | _, _, .kl h z r => .kl h z r
  | _, _, .dk h z r => ⟨_, _, rfl, h.2, z, r⟩
  | _, _, .dt h z r => ⟨_, _, rfl, h.2, z, r⟩
  | _, _, .ref (n := n) (a := a) h => by
    have e0 : shal A (.ref n) = (match A[n]? with
      | some (.lst xs) => .lst xs
      | some (.dk ks vs) => .dk ks vs
      | some (.dt ks vs) => .dt ks vs
      | _ => .ref n) := rfl
    rw [e0]
    cases e : A[n]? with
    | none => exact Rep.ref h
    | some o =>
      have q := hr.obj n o a e h
      cases o with
      | lst xs => obtain ⟨vs, h1, h2, h3⟩ := q; exact ⟨_, _, rfl, .inl h1, h2, h3⟩
      | dk ks xs => obtain ⟨vs, h1, h2, h3⟩ := q; exact ⟨_, _, rfl, .inl h1, h2, h3⟩
      | dt ks xs => obtain ⟨vs, h1, h2, h3⟩ := q; exact ⟨_, _, rfl, .inl h1, h2, h3⟩
      | dead => exact Rep.ref h
  | _, _, .fn i => .fn i
  | _, _, .ty t => .ty t
theorem Rep.int_inv {i : Int} {v : V} (h : Rep K F ω (.int i) v) : v = .int i := by cases h; rfl
theorem Rep.bl_inv {i : Bool} {v : V} (h : Rep K F ω (.bl i) v) : v = .bl i := by cases h; rfl
theorem Rep.str_inv {i : Str} {v : V} (h : Rep K F ω (.str i) v) : v = .str i ∧ i.length ≤ sizeLine := by cases h with | str _ h => exact ⟨rfl, h⟩
theorem Rep.non_inv {v : V} (h : Rep K F ω .non v) : v = .non := by cases h; rfl
theorem Rep.tup_inv {xs : List D} {v : V} (h : Rep K F ω (.tup xs) v) : ∃ a vs, v = .ref a ∧ STs K ω a vs ∧ vs.length ≤ sizeLine ∧ Reps K F ω xs vs := by
  cases h with | tup h z r => exact ⟨_, _, rfl, h, z, r⟩
theorem Rep.kl_inv {xs : List D} {v : V} (h : Rep K F ω (.kl xs) v) : ∃ a vs, v = .ref a ∧ SLs K ω a vs ∧ vs.length ≤ sizeLine ∧ Reps K F ω xs vs := by
  cases h with | kl h z r => exact ⟨_, _, rfl, h, z, r⟩
theorem Rep.lst_inv {xs : List D} {v : V} (h : Rep K F ω (.lst xs) v) : ∃ a vs, v = .ref a ∧ Stl ω a (.lst vs) ∧ vs.length ≤ sizeLine ∧ Reps K F ω xs vs := by
  cases h with | lst h z r => exact ⟨_, _, rfl, h, z, r⟩
theorem Rep.ref_inv {n : Nat} {v : V} (h : Rep K F ω (.ref n) v) : ∃ a, v = .ref a ∧ ω.m[n]? = some a := by
  cases h with | ref h => exact ⟨_, rfl, h⟩
theorem Rep.ty_inv {t : String} {v : V} (h : Rep K F ω (.ty t) v) : v = .ty t := by cases h; rfl
/-- all are ints -/
theorem intsO_rep : ∀ {xs : List D} {ns : List Int} {vs : List V}, intsO xs = some ns → Reps K F ω xs vs → vs = ns.map V.int
  | [], ns, _, h, .nil => by simp [intsO] at h; subst h; rfl
  | x :: xs, ns, _, h, .cons hx r => by
    cases hx with
    | int i =>
      simp only [intsO, Option.map_eq_some_iff] at h
      obtain ⟨ms, h1, h2⟩ := h
      subst h2
      rw [intsO_rep h1 r]; rfl
    | _ => simp [intsO] at h
theorem blsO_rep : ∀ {xs : List D} {ns : List Bool} {vs : List V}, blsO xs = some ns → Reps K F ω xs vs → vs = ns.map V.bl
  | [], ns, _, h, .nil => by simp [blsO] at h; subst h; rfl
  | x :: xs, ns, _, h, .cons hx r => by
    cases hx with
    | bl i =>
      simp only [blsO, Option.map_eq_some_iff] at h
      obtain ⟨ms, h1, h2⟩ := h
      subst h2
      rw [blsO_rep h1 r]; rfl
    | _ => simp [blsO] at h
theorem keyO_rep {d : D} {k : Key} {v : V} (h : keyO d = some k) (r : Rep K F ω d v) : v = kV k := by
  cases r <;> simp [keyO] at h <;> (subst h; rfl)
theorem keysO_rep : ∀ {xs : List D} {ks : List Key} {vs : List V}, keysO xs = some ks → Reps K F ω xs vs → vs = ks.map kV
  | [], ns, _, h, .nil => by simp [keysO] at h; subst h; rfl
  | x :: xs, ns, _, h, .cons hx r => by
    simp only [keysO] at h
    cases e1 : keyO x with
    | none => simp [e1] at h
    | some k =>
      cases e2 : keysO xs with
      | none => simp [e1, e2] at h
      | some ks =>
        simp [e1, e2] at h
        subst h
        rw [keyO_rep e1 hx, keysO_rep e2 r]; rfl
end

theorem sizeLine_eq' : sizeLine = lim := sizeLine_eq
/-! ### two-place operators -/
/-- by values: the evaluator's g -/
def rM2 (K : PySem.W.Frag) (F : Nat → Addr) (g : D → D → AH → Res D) : R2 := fun x y H Q =>
  ∃ P ω A d e, ω.H = H ∧ HR K F P ω A ∧ Rep K F ω d x ∧ Rep K F ω e y ∧ Out K F P ω (g d e A) (fin K F Q)
section
variable {X : Cx} {F : Nat → Addr}
theorem Rd.lst_at {P : Program} {w : World} {H : Hp} {h : Heap} {l : Addr} {xs : List V} (r : Rd H l (.lst xs)) (x : HOk P w H h) : xs.length ≤ sizeLine ∧ ∃ (its : List Value) (n : Nat), Vals xs its ∧ xs.length = its.length ∧ h.get? l = some { cls := .type "list", data := .seq its.toArray n } := by
  obtain ⟨z, its, n, rr, e⟩ := r.ok x
  exact ⟨z, its, n, rr, rr.length, e⟩
def rCatR : R2 := fun x y H Q => ∃ l b xs zs, x = .ref l ∧ y = .ref b ∧ Rd H l (.lst xs) ∧ Rd H b (.lst zs) ∧ xs.length + zs.length ≤ sizeLine ∧ ∀ p, H p = none → Q (.ref p) (upd H p (.lst (xs ++ zs)))
theorem op_catR : OpR X (binaryOp .Add) rCatR := by
  intro pins s σ H x y v u Q I rx ry h
  obtain ⟨l, b, xs, zs, rfl, rfl, hH, hB, hz, q⟩ := h
  cases rx
  cases ry
  obtain ⟨z, its, n, r, hl, e⟩ := Rd.lst_at hH I.hok
  obtain ⟨z2, its2, n2, r2, hl2, e2⟩ := Rd.lst_at hB I.hok
  refine PySem.P.add_list e e2 ?_ (by rw [List.size_toArray, List.size_toArray]; omega)
  have ea : its.toArray ++ its2.toArray = (its ++ its2).toArray := by simp
  rw [ea]
  exact ⟨.ref _, _, I.lnew (t' := s.toks) (r.append r2) (by rw [List.length_append]; omega), rfl, q _ I.fresh⟩

theorem op_addM : OpR X (binaryOp .Add) (rM2 X.K F fun x y A => ofO (binO A .add x y) A) := by
  intro pins s σ H x y v u Q I rx ry h
  obtain ⟨P, ω, A, d, e, rfl, hr, rd, re, o⟩ := h
  obtain ⟨r, e1, o⟩ := o.ofO
  have vd := view hr rd
  have ve := view hr re
  have e1 : addO (shal A d) (shal A e) = some r := e1
  revert e1 vd ve
  generalize shal A d = d'
  generalize shal A e = e'
  intro vd ve e1
  unfold addO at e1
  split at e1
  · cases e1
    obtain rfl := Rep.int_inv vd
    obtain rfl := Rep.int_inv ve
    exact op_add pins s σ _ _ _ v u Q I rx ry ⟨_, _, rfl, rfl, o.val hr (.int _)⟩
  · split at e1
    · rename_i hl
      cases e1
      obtain ⟨rfl, z1⟩ := Rep.str_inv vd
      obtain ⟨rfl, z2⟩ := Rep.str_inv ve
      rw [← sizeLine_eq'] at hl
      exact op_add_str pins s σ _ _ _ v u Q I rx ry ⟨_, _, rfl, rfl, hl, o.val hr (.str _ (by rw [Str.length_append]; exact hl))⟩
    · cases e1
  · split at e1
    · rename_i hl
      cases e1
      have vo := ve
      have wo := vd
      obtain ⟨a, vs, rfl, s1, z1, r1⟩ := Rep.tup_inv vd
      obtain ⟨b, us, rfl, s2, z2, r2⟩ := Rep.tup_inv ve
      have hl' : vs.length + us.length ≤ sizeLine := by rw [sizeLine_eq, ← r1.len, ← r2.len]; exact hl
      refine op_catA pins s σ _ _ _ v u Q I rx ry ⟨a, b, vs, us, rfl, rfl, s1.sq, s2.sq, hl', fun e => ?_, fun e1 e2 => ?_, fun e1 e2 p hp => ?_⟩
      · subst e; cases r1; exact o.val hr vo
      · subst e2; cases r2; rw [List.append_nil] at o; exact o.val hr wo
      · exact o.newT hr (r1.app r2) (by rw [List.length_append]; exact hl') p hp
    · cases e1
  · split at e1
    · rename_i hl
      cases e1
      obtain ⟨a, vs, rfl, s1, z1, r1⟩ := vd
      obtain ⟨b, us, rfl, s2, z2, r2⟩ := ve
      have hl' : vs.length + us.length ≤ sizeLine := by rw [sizeLine_eq, ← r1.len, ← r2.len]; exact hl
      exact op_catR pins s σ _ _ _ v u Q I rx ry ⟨a, b, vs, us, rfl, rfl, s1, s2, hl', fun p hp => o.newL hr (r1.app r2) (by rw [List.length_append]; exact hl') p hp⟩
    · cases e1
  · cases e1
def Bop.op : Bop → Operator
  | .add => .Add
  | .sub => .Sub
  | .mul => .Mult
  | .mod => .Mod
  | .fdiv => .FloorDiv
  | .pow => .Pow
/-- two ints in -/
theorem int2_rep {K : PySem.W.Frag} {ω : Wd} {i j : Int} {x y : V} (h : Rep K F ω (.int i) x) (k : Rep K F ω (.int j) y) : x = .int i ∧ y = .int j := ⟨h.int_inv, k.int_inv⟩
theorem op_binM (op : Bop) : OpR X (binaryOp op.op) (rM2 X.K F fun x y A => ofO (binO A op x y) A) := by
  intro pins s σ H x y v u Q I rx ry h
  have h0 := h
  obtain ⟨P, ω, A, d, e, rfl, hr, rd, re, o⟩ := h
  obtain ⟨r, e1, o⟩ := o.ofO
  unfold binO at e1
  split at e1
  · exact op_addM pins s σ _ x y v u Q I rx ry h0
  · cases e1
    obtain ⟨rfl, rfl⟩ := int2_rep rd re
    exact op_sub pins s σ _ _ _ v u Q I rx ry ⟨_, _, rfl, rfl, o.val hr (.int _)⟩
  · split at e1
    · rename_i hm
      cases e1
      obtain ⟨rfl, rfl⟩ := int2_rep rd re
      exact op_mul pins s σ _ _ _ v u Q I rx ry ⟨_, _, rfl, rfl, hm, o.val hr (.int _)⟩
    · cases e1
  · split at e1
    · rename_i hm
      cases e1
      obtain ⟨rfl, rfl⟩ := int2_rep rd re
      exact op_mod pins s σ _ _ _ v u Q I rx ry ⟨_, _, rfl, rfl, hm, o.val hr (.int _)⟩
    · cases e1
  · split at e1
    · rename_i hm
      cases e1
      obtain ⟨rfl, rfl⟩ := int2_rep rd re
      exact op_fdiv pins s σ _ _ _ v u Q I rx ry ⟨_, _, rfl, rfl, hm, o.val hr (.int _)⟩
    · cases e1
  · split at e1
    · rename_i hm
      cases e1
      obtain ⟨rfl, rfl⟩ := int2_rep rd re
      exact op_pow pins s σ _ _ _ v u Q I rx ry ⟨_, _, rfl, rfl, hm, o.val hr (.int _)⟩
    · cases e1
  · cases e1

/-! ### comparisons -/
mutual
def D.py : D → PyData
  | .bl b => .bool b
  | .int i => .int i
  | .str s => .str s
  | .tup xs => .tuple (D.pys xs)
  | .lst xs => .list (D.pys xs)
  | _ => .none
def D.pys : List D → List PyData
  | [] => []
  | x :: xs => D.py x :: D.pys xs
end
mutual
theorem D.py_eqv : ∀ {n m : Nat} {x y : D}, D.flatN n x = true → D.flatN m y = true → PyData.eqv (D.py x) (D.py y) = D.eqv x y
  | _, _, .non, y, h, k => by cases y <;> simp_all [D.py, D.eqv, PyData.eqv, D.flatN]
  | _, _, .bl b, y, h, k => by cases y <;> simp_all [D.py, D.eqv, PyData.eqv, D.flatN]
  | _, _, .int i, y, h, k => by cases y <;> simp_all [D.py, D.eqv, PyData.eqv, D.flatN]
  | _, _, .str s, y, h, k => by cases y <;> simp_all [D.py, D.eqv, PyData.eqv, D.flatN]
  | 0, _, .tup xs, y, h, k => by simp [D.flatN] at h
  | 0, _, .lst xs, y, h, k => by simp [D.flatN] at h
  | n + 1, m, .tup xs, y, h, k => by
    cases y with
    | tup ys =>
      cases m with
      | zero => simp [D.flatN] at k
      | succ m => simp only [D.flatN] at h k; simp only [D.py, D.eqv, PyData.eqv]; exact D.pys_eqv h k
    | _ => simp_all [D.py, D.eqv, PyData.eqv, D.flatN]
  | n + 1, m, .lst xs, y, h, k => by
    cases y with
    | lst ys =>
      cases m with
      | zero => simp [D.flatN] at k
      | succ m => simp only [D.flatN] at h k; simp only [D.py, D.eqv, PyData.eqv]; exact D.pys_eqv h k
    | _ => simp_all [D.py, D.eqv, PyData.eqv, D.flatN]
  | _, _, .kl _, _, h, _ => by simp [D.flatN] at h
  | _, _, .dk _ _, _, h, _ => by simp [D.flatN] at h
  | _, _, .dt _ _, _, h, _ => by simp [D.flatN] at h
  | _, _, .ref _, _, h, _ => by simp [D.flatN] at h
  | _, _, .fn _, _, h, _ => by simp [D.flatN] at h
  | _, _, .ty _, _, h, _ => by simp [D.flatN] at h
theorem D.pys_eqv : ∀ {n m : Nat} {x y : List D}, D.flatNs n x = true → D.flatNs m y = true → PyData.eqvAll (D.pys x) (D.pys y) = D.eqvs x y
  | _, _, [], [], _, _ => rfl
  | _, _, [], _ :: _, _, _ => rfl
  | _, _, _ :: _, [], _, _ => rfl
  | n, m, x :: xs, y :: ys, h, k => by
    simp only [D.flatNs, Bool.and_eq_true] at h k
    simp only [D.pys, PyData.eqvAll, D.eqvs]
    rw [D.py_eqv h.1 k.1, D.pys_eqv h.2 k.2]
end
mutual
theorem D.py_lay : ∀ {n : Nat} {x : D}, D.flatN n x = true → (D.py x).canLay0 = true ∧ (D.py x).depth ≤ n
  | _, .non, _ => by simp [D.py, PyData.canLay0, PyData.depth]
  | _, .bl _, _ => by simp [D.py, PyData.canLay0, PyData.depth]
  | _, .int _, _ => by simp [D.py, PyData.canLay0, PyData.depth]
  | _, .str s, h => by simp [D.flatN] at h; simp [D.py, PyData.canLay0, PyData.depth, h]
  | 0, .tup xs, h => by simp [D.flatN] at h
  | 0, .lst xs, h => by simp [D.flatN] at h
  | n + 1, .tup xs, h => by
    simp only [D.flatN] at h
    obtain ⟨h1, h2⟩ := D.pys_lay h
    simp only [D.py, PyData.canLay0, PyData.depth]
    exact ⟨h1, by omega⟩
  | n + 1, .lst xs, h => by
    simp only [D.flatN] at h
    obtain ⟨h1, h2⟩ := D.pys_lay h
    simp only [D.py, PyData.canLay0, PyData.depth]
    exact ⟨h1, by omega⟩
  | _, .kl _, h => by simp [D.flatN] at h
  | _, .dk _ _, h => by simp [D.flatN] at h
  | _, .dt _ _, h => by simp [D.flatN] at h
  | _, .ref _, h => by simp [D.flatN] at h
  | _, .fn _, h => by simp [D.flatN] at h
  | _, .ty _, h => by simp [D.flatN] at h
theorem D.pys_lay : ∀ {n : Nat} {x : List D}, D.flatNs n x = true → PyData.canLayAll0 (D.pys x) = true ∧ PyData.depthAll (D.pys x) ≤ n
  | _, [], _ => by simp [D.pys, PyData.canLayAll0, PyData.depthAll]
  | n, x :: xs, h => by
    simp only [D.flatNs, Bool.and_eq_true] at h
    obtain ⟨h1, h2⟩ := D.py_lay h.1
    obtain ⟨h3, h4⟩ := D.pys_lay h.2
    simp only [D.pys, PyData.canLayAll0, PyData.depthAll, h1, h3]
    exact ⟨rfl, by omega⟩
end
theorem D.py_shaped {x : D} (h : D.flatN 60 x = true) : SeqAt.shaped (D.py x) = true := by
  obtain ⟨h1, h2⟩ := D.py_lay h
  show ((D.py x).canLay0 && decide ((D.py x).depth ≤ 64)) = true
  rw [h1, decide_eq_true (by omega)]; rfl
section
variable {K : PySem.W.Frag} {ω : Wd}
mutual
theorem Rep.dp : ∀ {n : Nat} {d : D} {v : V}, D.flatN n d = true → Rep K F ω d v → Dp K ω.H v (D.py d)
  | _, _, _, _, .non => by simp only [D.py]; exact .non
  | _, _, _, _, .bl b => by simp only [D.py]; exact .bl b
  | _, _, _, _, .int i => by simp only [D.py]; exact .int i
  | _, _, _, _, .str s h => by simp only [D.py]; exact .str s
  | 0, _, _, h, .tup _ _ _ => by simp [D.flatN] at h
  | 0, _, _, h, .lst _ _ _ => by simp [D.flatN] at h
  | n + 1, _, _, h, .tup s _ r => by simp only [D.flatN] at h; simp only [D.py]; exact .tup s.sq (Reps.dp h r)
  | n + 1, _, _, h, .lst s _ r => by simp only [D.flatN] at h; simp only [D.py]; exact .lst (.inl s.2) (Reps.dp h r)
  | _, _, _, h, .kl _ _ _ => by simp [D.flatN] at h
  | _, _, _, h, .dk _ _ _ => by simp [D.flatN] at h
  | _, _, _, h, .dt _ _ _ => by simp [D.flatN] at h
  | _, _, _, h, .ref _ => by simp [D.flatN] at h
  | _, _, _, h, .fn _ => by simp [D.flatN] at h
  | _, _, _, h, .ty _ => by simp [D.flatN] at h
theorem Reps.dp : ∀ {n : Nat} {d : List D} {v : List V}, D.flatNs n d = true → Reps K F ω d v → DpAll K ω.H v (D.pys d)
  | _, _, _, _, .nil => by simp only [D.pys]; exact .nil
  | n, _, _, h, .cons r rs => by
    simp only [D.flatNs, Bool.and_eq_true] at h
    simp only [D.pys]
    exact .cons (Rep.dp h.1 r) (Reps.dp h.2 rs)
end
theorem View.dp {d : D} {v : V} (h : D.flatN 60 d = true) (r : View K F ω d v) : Dp K ω.H v (D.py d) := by
  cases d with
  | lst xs =>
    obtain ⟨a, vs, rfl, s, _, r⟩ := r
    simp only [D.flatN] at h; simp only [D.py]
    exact .lst (.inl s) (r.dp h)
  | dk _ _ => simp [D.flatN] at h
  | dt _ _ => simp [D.flatN] at h
  | _ => exact Rep.dp h r
end
end
end Ev

set_option maxRecDepth 100000
/-! Ev4: comparisons, truth, subscripts, by values -/
namespace Ev
open PySem PySem.Spec L2

theorem lexLt_eq : ∀ a b : List Int, lexLt a b = HT.lexLt a b
  | [], [] => rfl
  | [], _ :: _ => rfl
  | _ :: _, [] => rfl
  | x :: xs, y :: ys => by simp only [lexLt, HT.lexLt, lexLt_eq xs ys]
theorem any_py {d : D} (hd : D.flatN 60 d = true) : ∀ {n : Nat} {xs : List D}, D.flatNs n xs = true → (D.pys xs).any (fun z => PyData.eqv z (D.py d)) = xs.any fun y => D.eqv y d
  | _, [], _ => rfl
  | n, x :: xs, h => by
    simp only [D.flatNs, Bool.and_eq_true] at h
    simp only [D.pys, List.any_cons, D.py_eqv h.1 hd, any_py hd h.2]
section
variable {κ : Type} [DecidableEq κ] {K : PySem.W.Frag} {F : Nat → Addr} {ω : Wd}
theorem dget_some {k : κ} : ∀ {ks : List κ} {xs : List D} {vs : List V} {d : D}, dget k ks xs = some d → Reps K F ω xs vs → ∃ v, valV (ks.zip vs) k = some v ∧ Rep K F ω d v
  | [], _, _, d, h, _ => by simp [dget] at h
  | _ :: _, [], _, d, h, _ => by simp [dget] at h
  | j :: ks, x :: xs, _, d, h, .cons hx r => by
    simp only [dget] at h
    by_cases e : j = k
    · rw [if_pos e] at h
      cases h
      exact ⟨_, by rw [List.zip_cons_cons]; exact valV_pos e, hx⟩
    · rw [if_neg e] at h
      obtain ⟨v, h1, h2⟩ := dget_some h r
      exact ⟨v, by rw [List.zip_cons_cons, valV_neg e]; exact h1, h2⟩
theorem dget_none {k : κ} : ∀ {ks : List κ} {xs : List D} {vs : List V}, dget k ks xs = none → Reps K F ω xs vs → valV (ks.zip vs) k = none
  | [], _, _, h, _ => rfl
  | _ :: _, [], _, h, .nil => rfl
  | j :: ks, x :: xs, _, h, .cons hx r => by
    simp only [dget] at h
    by_cases e : j = k
    · rw [if_pos e] at h; cases h
    · rw [if_neg e] at h
      rw [List.zip_cons_cons, valV_neg e]
      exact dget_none h r
theorem dget_isSome {k : κ} {ks : List κ} {xs : List D} {vs : List V} (r : Reps K F ω xs vs) : (dget k ks xs).isSome = (valV (ks.zip vs) k).isSome := by
  cases e : dget k ks xs with
  | none => rw [dget_none e r]; rfl
  | some d => obtain ⟨v, h, _⟩ := dget_some e r; rw [h]; rfl
end
def Cop.op : Cop → CmpOp
  | .eq => .Eq
  | .ne => .NotEq
  | .lt => .Lt
  | .le => .LtE
  | .gt => .Gt
  | .ge => .GtE
  | .isin => .In
  | .notin => .NotIn
section
variable {X : Cx} {F : Nat → Addr}
/-- x in t, t a tuple of data -/
def rInT (K : PySem.W.Frag) (neg : Bool) : R2 := fun x y H Q => ∃ d ds, Dp K H x d ∧ Dp K H y (.tuple ds) ∧ SeqAt.shaped d = true ∧ SeqAt.shaped (.tuple ds) = true ∧ Q (.bl ((ds.any fun z => PyData.eqv z d) != neg)) H
theorem op_inT (hu : X.A.units + 65 < cLine) : OpR X (compareOp .In) (rInT X.K false) := by
  intro pins s σ H x y v u Q I rx ry h
  obtain ⟨d, ds, hd, he, sd, se, q⟩ := h
  obtain ⟨as, r1⟩ := Dp.reads I d x v hd rx
  obtain ⟨bs, r2⟩ := Dp.reads I (.tuple ds) y u he ry
  exact SeqAt.in_tuple_reads r2 r1 (SeqAt.canLay_of_shaped se) (SeqAt.canLay_of_shaped sd) (PyProof.Rows.room_in_shaped sd hu) ⟨.bl _, H, I, rfl, by simpa using q⟩
theorem op_notInT (hu : X.A.units + 65 < cLine) : OpR X (compareOp .NotIn) (rInT X.K true) := by
  intro pins s σ H x y v u Q I rx ry h
  obtain ⟨d, ds, hd, he, sd, se, q⟩ := h
  obtain ⟨as, r1⟩ := Dp.reads I d x v hd rx
  obtain ⟨bs, r2⟩ := Dp.reads I (.tuple ds) y u he ry
  exact SeqAt.notIn_tuple_reads r2 r1 (SeqAt.canLay_of_shaped se) (SeqAt.canLay_of_shaped sd) (PyProof.Rows.room_in_shaped sd hu) ⟨.bl _, H, I, rfl, by simpa using q⟩

theorem eqM (hu : X.A.units + 65 < cLine) {pins : List (Addr × Obj)} {s : Shared} {σ : L2.St} {x y : V} {v u : Value} {Q : VK} {P : Addr → Prop} {ω : Wd} {A : AH} {d e : D} {b : Bool}
    (I : Inv X pins σ ω.H s) (rx : RelV x v) (ry : RelV y u) (hr : HR X.K F P ω A) (rd : Rep X.K F ω d x) (re : Rep X.K F ω e y) (h : eqO A d e = some b) :
    (Q (.bl b) ω.H → wpAny (model X.prog X.w) X.A (compareOp .Eq v u) (EP X pins σ Q) X.xe s) ∧ (Q (.bl (!b)) ω.H → wpAny (model X.prog X.w) X.A (compareOp .NotEq v u) (EP X pins σ Q) X.xe s) := by
  unfold eqO at h
  simp only at h
  split at h
  · rename_i hf
    simp only [Bool.and_eq_true] at hf
    have e1 := D.py_eqv hf.1 hf.2
    cases h
    have d1 := (view hr rd).dp hf.1
    have d2 := (view hr re).dp hf.2
    exact ⟨fun q => op_eqD (by omega) pins s σ _ x y v u Q I rx ry ⟨_, _, d1, d2, D.py_shaped hf.1, D.py_shaped hf.2, by rw [e1]; exact q⟩,
      fun q => op_neD (by omega) pins s σ _ x y v u Q I rx ry ⟨_, _, d1, d2, D.py_shaped hf.1, D.py_shaped hf.2, by rw [e1]; exact q⟩⟩
  · cases h
theorem inM (hu : X.A.units + 65 < cLine) {pins : List (Addr × Obj)} {s : Shared} {σ : L2.St} {x y : V} {v u : Value} {Q : VK} {P : Addr → Prop} {ω : Wd} {A : AH} {d e : D} {b : Bool}
    (I : Inv X pins σ ω.H s) (rx : RelV x v) (ry : RelV y u) (hr : HR X.K F P ω A) (rd : Rep X.K F ω d x) (re : Rep X.K F ω e y) (h : inO A d e = some b) :
    (Q (.bl b) ω.H → wpAny (model X.prog X.w) X.A (compareOp .In v u) (EP X pins σ Q) X.xe s) ∧ (Q (.bl (!b)) ω.H → wpAny (model X.prog X.w) X.A (compareOp .NotIn v u) (EP X pins σ Q) X.xe s) := by
  have ve := view hr re
  unfold inO at h
  revert ve h
  generalize shal A e = e'
  intro h ve
  split at h
  · rename_i xs
    simp only at h
    split at h
    · rename_i hf
      simp only [Bool.and_eq_true] at hf
      cases h
      have d1 := (view hr rd).dp hf.1
      have d2 := View.dp hf.2 ve
      have e2 : D.flatNs 59 xs = true := by simpa [D.flatN] using hf.2
      have e1 := any_py hf.1 e2
      simp only [D.py] at d2
      have s2 := D.py_shaped hf.2
      simp only [D.py] at s2
      exact ⟨fun q => op_inD hu pins s σ _ x y v u Q I rx ry ⟨_, _, d1, d2, D.py_shaped hf.1, s2, by rw [e1]; exact q⟩,
        fun q => op_notInD hu pins s σ _ x y v u Q I rx ry ⟨_, _, d1, d2, D.py_shaped hf.1, s2, by rw [e1]; exact q⟩⟩
    · cases h
  · rename_i xs
    simp only at h
    split at h
    · rename_i hf
      simp only [Bool.and_eq_true] at hf
      cases h
      have d1 := (view hr rd).dp hf.1
      have d2 := View.dp hf.2 ve
      have e2 : D.flatNs 59 xs = true := by simpa [D.flatN] using hf.2
      have e1 := any_py hf.1 e2
      simp only [D.py] at d2
      have s2 := D.py_shaped hf.2
      simp only [D.py] at s2
      exact ⟨fun q => op_inT hu pins s σ _ x y v u Q I rx ry ⟨_, _, d1, d2, D.py_shaped hf.1, s2, by rw [e1, Bool.bne_false]; exact q⟩,
        fun q => op_notInT hu pins s σ _ x y v u Q I rx ry ⟨_, _, d1, d2, D.py_shaped hf.1, s2, by rw [e1, Bool.bne_true]; exact q⟩⟩
    · cases h
  · rename_i ks xs
    split at h
    · rename_i k hk
      cases h
      obtain ⟨a, vs, rfl, s1, l, r⟩ := ve
      cases ry
      have g : DGet ω.H a x (valV (ks.zip vs) k) := .inl ⟨_, _, s1, keyO_rep hk rd, rfl⟩
      rw [dget_isSome r]
      exact ⟨fun q => d_in (by omega) I g rx fun s' I' => ⟨.bl _, _, I', rfl, q⟩, fun q => d_notIn (by omega) I g rx fun s' I' => ⟨.bl _, _, I', rfl, q⟩⟩
    · cases h
  · rename_i ks xs
    split at h
    · rename_i kd
      split at h
      · rename_i k hk
        cases h
        obtain ⟨a, vs, rfl, s1, l, r⟩ := ve
        cases ry
        obtain ⟨b, us, rfl, s2, _, r2⟩ := Rep.tup_inv rd
        have eu := keysO_rep hk r2
        subst eu
        have g : DGet ω.H a (.ref b) (valV (ks.zip vs) k) := .inr ⟨_, _, _, s1, rfl, s2, rfl⟩
        rw [dget_isSome r]
        exact ⟨fun q => d_in (by omega) I g rx fun s' I' => ⟨.bl _, _, I', rfl, q⟩, fun q => d_notIn (by omega) I g rx fun s' I' => ⟨.bl _, _, I', rfl, q⟩⟩
      · cases h
    · cases h
  · cases h
theorem ltM (hu : X.A.units + 65 < cLine) {pins : List (Addr × Obj)} {s : Shared} {σ : L2.St} {x y : V} {v u : Value} {Q : VK} {ω : Wd} {d e : D} {b : Bool}
    (I : Inv X pins σ ω.H s) (rx : RelV x v) (ry : RelV y u) (rd : Rep X.K F ω d x) (re : Rep X.K F ω e y) (h : ltO d e = some b) (q : Q (.bl b) ω.H) :
    wpAny (model X.prog X.w) X.A (compareOp .Lt v u) (EP X pins σ Q) X.xe s := by
  unfold ltO at h
  split at h
  · cases h
    obtain ⟨rfl, rfl⟩ := int2_rep rd re
    exact op_lt pins s σ _ _ _ v u Q I rx ry ⟨_, _, rfl, rfl, q⟩
  · split at h
    · rename_i a b e1 e2
      cases h
      obtain ⟨p, us, rfl, s1, _, r1⟩ := Rep.tup_inv rd
      obtain ⟨p', us', rfl, s2, _, r2⟩ := Rep.tup_inv re
      have q1 := intsO_rep e1 r1
      have q2 := intsO_rep e2 r2
      subst q1 q2
      exact op_ltT (by omega) pins s σ _ _ _ v u Q I rx ry ⟨_, _, _, _, rfl, rfl, s1.sq, s2.sq, by rw [← lexLt_eq]; exact q⟩
    · cases h
  · cases h
theorem int2M {f : Int → Int → Bool} {op : CmpOp} {ω : Wd} {d e : D} {b : Bool} {x y : V} (rd : Rep X.K F ω d x) (re : Rep X.K F ω e y) (h : int2 f d e = some b) : ∃ i j, x = .int i ∧ y = .int j ∧ f i j = b := by
  unfold int2 at h
  split at h
  · cases h; obtain ⟨rfl, rfl⟩ := int2_rep rd re; exact ⟨_, _, rfl, rfl, rfl⟩
  · cases h
theorem op_cmpM (hu : X.A.units + 65 < cLine) (op : Cop) : OpR X (compareOp op.op) (rM2 X.K F fun x y A => ofO ((cmpO A op x y).map .bl) A) := by
  intro pins s σ H x y v u Q I rx ry h
  obtain ⟨P, ω, A, d, e, rfl, hr, rd, re, o⟩ := h
  obtain ⟨r, e1, o⟩ := o.ofO
  rw [Option.map_eq_some_iff] at e1
  obtain ⟨b, e1, rfl⟩ := e1
  have q : Q (.bl b) ω.H := o.val hr (.bl b)
  cases op with
  | eq => exact (eqM hu I rx ry hr rd re e1).1 q
  | ne =>
    simp only [cmpO, Option.map_eq_some_iff] at e1
    obtain ⟨b', e1, rfl⟩ := e1
    exact (eqM hu I rx ry hr rd re e1).2 q
  | lt => exact ltM hu I rx ry rd re e1 q
  | le =>
    obtain ⟨i, j, rfl, rfl, rfl⟩ := int2M (op := .LtE) rd re e1
    exact op_le pins s σ _ _ _ v u Q I rx ry ⟨_, _, rfl, rfl, q⟩
  | gt =>
    obtain ⟨i, j, rfl, rfl, rfl⟩ := int2M (op := .LtE) rd re e1
    exact op_gt pins s σ _ _ _ v u Q I rx ry ⟨_, _, rfl, rfl, q⟩
  | ge =>
    obtain ⟨i, j, rfl, rfl, rfl⟩ := int2M (op := .LtE) rd re e1
    exact op_ge pins s σ _ _ _ v u Q I rx ry ⟨_, _, rfl, rfl, q⟩
  | isin => exact (inM hu I rx ry hr rd re e1).1 q
  | notin =>
    simp only [cmpO, Option.map_eq_some_iff] at e1
    obtain ⟨b', e1, rfl⟩ := e1
    exact (inM hu I rx ry hr rd re e1).2 q

/-! ### is, is not of a truth -/
theorem rel_bool {x : V} {v : Value} {c : Bool} (rx : RelV x v) : (v == Value.bool c) = decide (x = V.bl c) := by
  cases x with
  | bl b => cases (show v = Value.bool b from rx); by_cases e : b = c <;> simp [e]
  | int i => obtain ⟨t, rfl⟩ := rx; simp
  | str i => obtain ⟨t, rfl⟩ := rx; simp
  | byt i => obtain ⟨t, rfl⟩ := rx; simp
  | flt i => obtain ⟨t, rfl⟩ := rx; simp
  | non => cases (show v = Value.none from rx); simp
  | ref a => cases (show v = Value.ref a from rx); simp
  | ty t => cases (show v = Value.type t from rx); simp
theorem op_isB {c : Bool} : OpR X (compareOp .Is) (fun x y H Q => y = .bl c ∧ Q (.bl (decide (x = .bl c))) H) := by
  intro pins s σ H x y v u Q I rx ry h
  obtain ⟨rfl, q⟩ := h
  cases (show u = Value.bool c from ry)
  have fin : EP X pins σ Q (.bool (v == .bool c)) s := ⟨.bl _, H, I, rfl, by rw [rel_bool rx]; exact q⟩
  cases x with
  | bl b => cases (show v = Value.bool b from rx); exact wpAny_pure fin
  | int i => obtain ⟨t, rfl⟩ := rx; exact wpAny_pure fin
  | str i => obtain ⟨t, rfl⟩ := rx; exact wpAny_pure fin
  | byt i => obtain ⟨t, rfl⟩ := rx; exact wpAny_pure fin
  | flt i => obtain ⟨t, rfl⟩ := rx; exact wpAny_pure fin
  | non => cases (show v = Value.none from rx); exact wpAny_pure fin
  | ref a => cases (show v = Value.ref a from rx); exact wpAny_pure fin
  | ty t => cases (show v = Value.type t from rx); exact wpAny_pure fin
theorem op_notB {c : Bool} : OpR X (compareOp .IsNot) (fun x y H Q => y = .bl c ∧ Q (.bl (!decide (x = .bl c))) H) := by
  intro pins s σ H x y v u Q I rx ry h
  obtain ⟨rfl, q⟩ := h
  cases (show u = Value.bool c from ry)
  have fin : EP X pins σ Q (.bool (!(v == .bool c))) s := ⟨.bl _, H, I, rfl, by rw [rel_bool rx]; exact q⟩
  cases x with
  | bl b => cases (show v = Value.bool b from rx); exact wpAny_pure fin
  | int i => obtain ⟨t, rfl⟩ := rx; exact wpAny_pure fin
  | str i => obtain ⟨t, rfl⟩ := rx; exact wpAny_pure fin
  | byt i => obtain ⟨t, rfl⟩ := rx; exact wpAny_pure fin
  | flt i => obtain ⟨t, rfl⟩ := rx; exact wpAny_pure fin
  | non => cases (show v = Value.none from rx); exact wpAny_pure fin
  | ref a => cases (show v = Value.ref a from rx); exact wpAny_pure fin
  | ty t => cases (show v = Value.type t from rx); exact wpAny_pure fin
theorem rep_isN {K : PySem.W.Frag} {ω : Wd} {d : D} {v : V} (r : Rep K F ω d v) : decide (v = .non) = decide (d = .non) := by cases r <;> simp
theorem rep_isB {K : PySem.W.Frag} {ω : Wd} {d : D} {v : V} {c : Bool} (r : Rep K F ω d v) : decide (v = .bl c) = decide (d = .bl c) := by cases r <;> simp

/-! ### truth -/
theorem zip_empty {κ : Type} {K : PySem.W.Frag} {ω : Wd} {ks : List κ} {xs : List D} {vs : List V} (l : ks.length = xs.length) (r : Reps K F ω xs vs) : (ks.zip vs).isEmpty = ks.isEmpty := by
  cases r with
  | nil => cases ks with
    | nil => rfl
    | cons _ _ => simp at l
  | cons _ _ => cases ks with
    | nil => simp at l
    | cons k ks => rfl
theorem zip_len {κ : Type} {K : PySem.W.Frag} {ω : Wd} {ks : List κ} {xs : List D} {vs : List V} (l : ks.length = xs.length) (r : Reps K F ω xs vs) : (ks.zip vs).length = ks.length := by
  rw [List.length_zip, ← r.len, l, Nat.min_self]
theorem tru_rd {pins : List (Addr × Obj)} {s : Shared} {σ : L2.St} {ω : Wd} {P : Addr → Prop} {A : AH} {x : V} {v : Value} {d : D} {b : Bool} {Q : Bool → Hp → Prop}
    (I : Inv X pins σ ω.H s) (rx : RelV x v) (hr : HR X.K F P ω A) (rd : Rep X.K F ω d x) (h : truO A d = some b) (q : Q b ω.H) : wpAny (model X.prog X.w) X.A (truthy v) (TP X pins σ Q) X.xe s := by
  have vd := view hr rd
  unfold truO at h
  revert vd h
  generalize shal A d = d'
  intro h vd
  have go : ∀ k, TruV X.K x ω.H k → k = b → wpAny (model X.prog X.w) X.A (truthy v) (TP X pins σ Q) X.xe s := fun k t e => tru_ok pins s σ _ x v Q I rx ⟨k, t, e ▸ q⟩
  split at h
  · cases h; obtain rfl := Rep.non_inv vd; exact go _ rfl rfl
  · cases h; obtain rfl := Rep.bl_inv vd; exact go _ rfl rfl
  · cases h; obtain rfl := Rep.int_inv vd; exact go _ rfl rfl
  · rename_i z
    cases h
    obtain ⟨rfl, hz⟩ := Rep.str_inv vd
    refine go _ ⟨hz, rfl⟩ ?_
    cases e : z.length with
    | zero => rfl
    | succ n => simp; omega
  · cases h
    obtain ⟨a, vs, rfl, s1, _, r⟩ := Rep.tup_inv vd
    exact go _ (.inr (.inl ⟨vs, s1.sq, rfl⟩)) (by cases r <;> rfl)
  · cases h
    obtain ⟨a, vs, rfl, s1, _, r⟩ := vd
    exact go _ (.inl ⟨vs, .inl s1, rfl⟩) (by cases r <;> rfl)
  · cases h
    obtain ⟨a, vs, rfl, s1, l, r⟩ := vd
    cases rx
    refine d_truth I s1 fun s' I' => ⟨_, I', ?_⟩
    rw [zip_empty l r]; exact q
  · cases h

/-! ### subscripts -/
def ixN_eq (n : Nat) (i : Int) : L2.ixN n i = Ev.ixN n i := rfl
theorem Reps.atI {K : PySem.W.Frag} {ω : Wd} {xs : List D} {vs : List V} {i : Int} {d : D} (r : Reps K F ω xs vs) (h : Ev.atI xs i = some d) : ∃ v, L2.atI vs i = some v ∧ Rep K F ω d v := by
  unfold Ev.atI at h
  unfold L2.atI
  rw [← r.len]
  cases e : Ev.ixN xs.length i with
  | none => rw [e] at h; cases h
  | some j =>
    rw [e] at h
    obtain ⟨v, h1, h2⟩ := r.get h
    exact ⟨v, by rw [show L2.ixN xs.length i = some j from e]; exact h1, h2⟩
/-- d[y] -/
theorem ix_dict (hu : X.A.units + 1 < cLine) : IxR X (fun x y H Q => ∃ a v, x = .ref a ∧ DGet H a y (some v) ∧ Q v H) := by
  intro value slice pins s σ H x y v u Q I rx ry h hs
  obtain ⟨a, w', rfl, g, q⟩ := h
  cases (show v = Value.ref a from rx)
  have hT := dict_typeIs I g
  unfold PyProof.Rows.subscriptTail
  refine wpAny_bind ?_
  rw [getitemInPython_of_ne hT.not_modules]
  refine wpAny_bind (wpAny_specialOf hT PySem.F.slot_dict_getitem.lookup ?_)
  have fin : wpAny (model X.prog X.w) X.A (subscripted slice false (.ref a) u) (fun r s₃ => wpAny (model X.prog X.w) X.A (letTemporaryGo value (.ref a) r >>= fun _ => pure r) (EP X pins σ Q) X.xe s₃) X.xe s := by
    rw [hs]
    exact wpAny_operating (d_getItem hu I g ry fun w2 s3 I3 rw' => wpAny_bind (wpAny_letTemporaryGo (wpAny_pure ⟨w', H, I3, rw', q⟩)))
  first
    | exact wpAny_pure (wpAny_bind fin)
    | exact wpAny_bind (wpAny_pure (wpAny_bind fin))
    | exact wpAny_bind fin
theorem op_idxM (hu : X.A.units + 65 < cLine) : IxR X (rM2 X.K F fun x y A => ofO (idxO A x y) A) := by
  intro value slice pins s σ H x y v u Q I rx ry h hs
  obtain ⟨P, ω, A, d, e, rfl, hr, rd, re, o⟩ := h
  obtain ⟨r, e1, oo⟩ := o.ofO
  clear o
  have vd := view hr rd
  unfold idxO at e1
  revert vd e1
  generalize shal A d = d'
  intro e1 vd
  split at e1
  · obtain ⟨a, vs, rfl, s1, _, r1⟩ := vd
    obtain rfl := Rep.int_inv re
    obtain ⟨w', h1, h2⟩ := r1.atI e1
    exact ix_list value slice pins s σ _ _ _ v u Q I rx ry ⟨_, _, _, _, rfl, rfl, .inl s1, h1, oo.val hr h2⟩ hs
  · obtain ⟨a, vs, rfl, s1, _, r1⟩ := Rep.kl_inv vd
    obtain rfl := Rep.int_inv re
    obtain ⟨w', h1, h2⟩ := r1.atI e1
    exact ix_list value slice pins s σ _ _ _ v u Q I rx ry ⟨_, _, _, _, rfl, rfl, s1.sq, h1, oo.val hr h2⟩ hs
  · obtain ⟨a, vs, rfl, s1, _, r1⟩ := Rep.tup_inv vd
    obtain rfl := Rep.int_inv re
    obtain ⟨w', h1, h2⟩ := r1.atI e1
    exact ix_tup value slice pins s σ _ _ _ v u Q I rx ry ⟨_, _, _, _, rfl, rfl, s1.sq, h1, oo.val hr h2⟩ hs
  · obtain ⟨rfl, hz⟩ := Rep.str_inv vd
    obtain rfl := Rep.int_inv re
    rw [Option.map_eq_some_iff] at e1
    obtain ⟨c, h1, rfl⟩ := e1
    exact ix_str value slice pins s σ _ _ _ v u Q I rx ry ⟨_, _, _, rfl, rfl, hz, h1, oo.val hr (.str _ (by rw [sizeLine_eq]; show 1 ≤ 16777216; decide))⟩ hs
  · split at e1
    · rename_i k hk
      obtain ⟨a, vs, rfl, s1, _, r1⟩ := vd
      obtain ⟨w', h1, h2⟩ := dget_some e1 r1
      have g : DGet ω.H a y (some w') := .inl ⟨_, _, s1, keyO_rep hk re, h1.symm⟩
      exact ix_dict (by omega) value slice pins s σ _ _ _ v u Q I rx ry ⟨a, w', rfl, g, oo.val hr h2⟩ hs
    · cases e1
  · split at e1
    · rename_i k hk
      obtain ⟨a, vs, rfl, s1, _, r1⟩ := vd
      obtain ⟨b, us, rfl, s2, _, r2⟩ := Rep.tup_inv re
      have eu := keysO_rep hk r2
      subst eu
      obtain ⟨w', h1, h2⟩ := dget_some e1 r1
      have g : DGet ω.H a (.ref b) (some w') := .inr ⟨_, _, _, s1, rfl, s2, h1.symm⟩
      exact ix_dict (by omega) value slice pins s σ _ _ _ v u Q I rx ry ⟨a, w', rfl, g, oo.val hr h2⟩ hs
    · cases e1
  · cases e1
end
end Ev

set_option maxRecDepth 100000
set_option maxHeartbeats 1000000
/-! EvZ: zip of three, each a list or a tuple -/
namespace Ev
open PySem PySem.Spec PyProof.Rows L2
inductive Sk where
  | l | t
def SIt (k : Sk) (h : Heap) (it l : Addr) (i : Nat) : Prop := match k with
  | .l => h.IsListIter it l i
  | .t => h.IsTupleIter it l i
def SSq (k : Sk) (h : Heap) (l : Addr) (xs : Array Value) : Prop := match k with
  | .l => h.IsList l xs
  | .t => h.IsTuple l xs
def Sk.itc : Sk → String
  | .l => "list_iterator"
  | .t => "tuple_iterator"
theorem SIt.at {k : Sk} {h h' : Heap} {it l : Addr} {i : Nat} (x : SIt k h it l i) (e : ∀ o, h.get? it = some o → h'.get? it = some o) : SIt k h' it l i := by
  cases k with
  | l => exact Heap.IsListIter.at x e
  | t => exact Heap.IsTupleIter.at x e
theorem SSq.at {k : Sk} {h h' : Heap} {l : Addr} {xs : Array Value} (x : SSq k h l xs) (e : ∀ o, h.get? l = some o → h'.get? l = some o) : SSq k h' l xs := by
  cases k with
  | l => exact Heap.IsList.at x e
  | t => obtain ⟨o, ho, r⟩ := (show h.IsTuple l xs from x); exact ⟨o, e o ho, r⟩
theorem SIt.get {k : Sk} {h : Heap} {it l : Addr} {i : Nat} (x : SIt k h it l i) : ∃ o, h.get? it = some o ∧ ∀ v, o.data ≠ .cell v := by
  cases k with
  | l => obtain ⟨o, e, _, d⟩ := (show h.IsListIter it l i from x); exact ⟨o, e, fun v q => by rw [d] at q; cases q⟩
  | t => obtain ⟨o, e, _, d⟩ := (show h.IsTupleIter it l i from x); exact ⟨o, e, fun v q => by rw [d] at q; cases q⟩
theorem SSq.get {k : Sk} {h : Heap} {l : Addr} {xs : Array Value} (x : SSq k h l xs) : ∃ o, h.get? l = some o := by
  cases k with
  | l => obtain ⟨o, e, _⟩ := (show h.IsList l xs from x); exact ⟨o, e⟩
  | t => obtain ⟨o, e, _⟩ := (show h.IsTuple l xs from x); exact ⟨o, e⟩
section
variable {prog : Program} {w : World} {A : Around} {E : Value → Shared → Prop} {s : Shared}
theorem next_item {k : Sk} {it l : Addr} {i : Nat} {items : Array Value} {x : Value} {Q : Value → Shared → Prop} (hit : SIt k s.heap it l i) (hl : SSq k s.heap l items) (hx : items[i]? = some x)
    (hQ : ∀ h', SIt k h' it l (i + 1) → Heap.SameBut it s.heap h' → Q x { s with heap := h' }) : wpAny (model prog w) A (Builtin.SmallTypes.nextOf (.ref it)) Q E s := by
  cases k with
  | l => exact wpAny_nextOf_list_item hit hl hx hQ
  | t => exact RZ.nextOf_tuple_item hit hl hx hQ
theorem next_end {k : Sk} {it l : Addr} {i : Nat} {items : Array Value} {Q : Value → Shared → Prop} (hh : A.handled = none) (hit : SIt k s.heap it l i) (hl : SSq k s.heap l items) (hx : items[i]? = none)
    (hE : ∀ h' e, Heap.ExtBut it s.heap h' → (∃ o, h'.get? e = some o ∧ o.cls = .type "StopIteration") → E (.ref e) { s with heap := h' }) :
    wpAny (model prog w) A (Builtin.SmallTypes.nextOf (.ref it)) Q E s := by
  cases k with
  | l => exact wpAny_nextOf_list_end hh hit hl hx hE
  | t => exact RZ.nextOf_tuple_end hh hit hl hx hE
theorem iter_sq {k : Sk} {l : Addr} {items : Array Value} {Q : Value → Shared → Prop} (hl : SSq k s.heap l items)
    (h : Q (.ref s.heap.objs.size) { s with heap := s.heap.push { cls := .type k.itc, data := .fields #[.ref l, .int 0 0] } }) : wpAny (model prog w) A (pyIter (.ref l)) Q E s := by
  cases k with
  | l => exact wpAny_pyIter_list hl h
  | t => exact wpAny_pyIter_tuple hl h

abbrev IsTri (h : Heap) (T : Addr) (a b c : Value) : Prop := h.get? T = some { cls := .type "tuple", data := .seq #[a, b, c] }
theorem wpAny_updateSeq_tri {T : Addr} {a b c x : Value} {k : Nat} {Q : Unit → Shared → Prop} (hT : IsTri s.heap T a b c)
    (h : ∀ h', h'.get? T = some { cls := .type "tuple", data := .seq ((#[a, b, c] : Array Value).setIfInBounds k x) } → Heap.SameBut T s.heap h' → Q () { s with heap := h' }) :
    wpAny (model prog w) A (updateSeq T (·.setIfInBounds k x)) Q E s := by
  refine wpAny_updateSeq hT rfl (h _ ?_ (Heap.SameBut.update ..))
  rw [Heap.get?_update_self _ hT rfl]
  simp [Obj.mapSeq]
/-- the seven objects lie apart, the sources too -/
structure Ap3 (z TI TO i1 i2 i3 : Addr) (l1 l2 l3 : Addr) : Prop where
  TIz : TI ≠ z
  TOz : TO ≠ z
  i1z : i1 ≠ z
  i2z : i2 ≠ z
  i3z : i3 ≠ z
  TITO : TI ≠ TO
  TIi1 : TI ≠ i1
  TIi2 : TI ≠ i2
  TIi3 : TI ≠ i3
  TOi1 : TO ≠ i1
  TOi2 : TO ≠ i2
  TOi3 : TO ≠ i3
  i12 : i1 ≠ i2
  i13 : i1 ≠ i3
  i23 : i2 ≠ i3
  ls : ∀ l, l = l1 ∨ l = l2 ∨ l = l3 → l ≠ z ∧ l ≠ TO ∧ l ≠ i1 ∧ l ≠ i2 ∧ l ≠ i3

theorem z3_item {k1 k2 k3 : Sk} {z TI TO i1 i2 i3 l1 l2 l3 : Addr} {n : Nat} {xs ys zs : Array Value} {x y u a b c : Value} {Q : Value → Shared → Prop} (D : Ap3 z TI TO i1 i2 i3 l1 l2 l3)
    (hz : IsZip s.heap z TI TO .none) (hTI : IsTri s.heap TI (.ref i1) (.ref i2) (.ref i3)) (hTO : IsTri s.heap TO a b c)
    (h1 : SIt k1 s.heap i1 l1 n) (h2 : SIt k2 s.heap i2 l2 n) (h3 : SIt k3 s.heap i3 l3 n) (hl1 : SSq k1 s.heap l1 xs) (hl2 : SSq k2 s.heap l2 ys) (hl3 : SSq k3 s.heap l3 zs) (hx : xs[n]? = some x) (hy : ys[n]? = some y) (hu : zs[n]? = some u)
    (hQ : ∀ h', IsZip h' z TI TO (rawInt s.heap.objs.size) → IsTri h' TO x y u → SIt k1 h' i1 l1 (n + 1) → SIt k2 h' i2 l2 (n + 1) → SIt k3 h' i3 l3 (n + 1) → IsTri h' s.heap.objs.size x y u → h'.objs.size = s.heap.objs.size + 1 →
      (∀ c o, c ≠ z → c ≠ TO → c ≠ i1 → c ≠ i2 → c ≠ i3 → s.heap.get? c = some o → h'.get? c = some o) → Q (.ref s.heap.objs.size) { s with heap := h' }) :
    wpAny (model prog w) A (Builtin.«zip.__next__» ⟨[.ref z], []⟩) (fun fin s' => ∃ v, fin = .done (.ret v) ∧ Q v s') E s := by
  have a1 := D.ls l1 (.inl rfl)
  have a2 := D.ls l2 (.inr (.inl rfl))
  have a3 := D.ls l3 (.inr (.inr rfl))
  show wpAny _ _ (field (.ref z) 2 >>= _) _ _ _
  refine wpAny_bind (wpAny_field hz rfl (x := .bool false) rfl ?_)
  show wpAny _ _ (field (.ref z) 3 >>= _) _ _ _
  refine wpAny_bind (wpAny_field hz rfl (x := .ref TI) rfl ?_)
  refine wpAny_bind (wpAny_seqItems hTI rfl ?_)
  show wpAny _ _ (Builtin.SmallTypes.ownedTupleIsFree (.ref z) >>= _) _ _ _
  refine wpAny_bind ?_
  unfold Builtin.SmallTypes.ownedTupleIsFree
  refine wpAny_bind (wpAny_field hz rfl (x := .none) rfl (wpAny_pure ?_))
  simp only [if_true]
  refine wpAny_bind (wpAny_rule ?_)
  refine wpAny_bind (wpAny_field hz rfl (x := .ref TO) rfl ?_)
  refine wpAny_bind (wpAny_setField_rec hz (by simp) fun h₁ hz₁ hs₁ => ?_)
  replace hz₁ : IsZip h₁ z TI TO .ellipsis := hz₁
  refine wpAny_bind ?_
  simp only [List.zipIdx_cons, List.zipIdx_nil, List.forIn_cons, List.forIn_nil]
  have e1 := hs₁.extBut
  have hTO₁ : IsTri h₁ TO a b c := e1 _ _ D.TOz hTO
  -- the first
  refine wpAny_bind (wpAny_bind (wpAny_onRaise ?_))
  show wpAny _ _ (Builtin.SmallTypes.nextOf (.ref i1) >>= _) _ _ _
  refine wpAny_bind (next_item (h1.at fun o q => e1 _ o D.i1z q) (hl1.at fun o q => e1 _ o a1.1 q) hx fun h₂ h1₂ hs₂ => wpAny_pure ?_)
  have e2 := hs₂.extBut
  have hTO₂ : IsTri h₂ TO a b c := e2 _ _ D.TOi1 hTO₁
  refine wpAny_bind (wpAny_seqItems hTO₂ rfl ?_)
  refine wpAny_bind (wpAny_updateSeq_tri hTO₂ fun h₃ hTO₃ hs₃ => ?_)
  replace hTO₃ : IsTri h₃ TO x b c := hTO₃
  have e3 := hs₃.extBut
  refine wpAny_bind (wpAny_letGo (wpAny_pure ?_))
  have up3 : ∀ c o, c ≠ z → c ≠ TO → c ≠ i1 → s.heap.get? c = some o → h₃.get? c = some o := fun c o c1 c2 c3 e => e3 _ _ c2 (e2 _ _ c3 (e1 _ _ c1 e))
  -- the second
  refine wpAny_bind (wpAny_bind (wpAny_onRaise ?_))
  show wpAny _ _ (Builtin.SmallTypes.nextOf (.ref i2) >>= _) _ _ _
  refine wpAny_bind (next_item (h2.at fun o q => up3 _ o D.i2z D.TOi2.symm D.i12.symm q) (hl2.at fun o q => up3 _ o a2.1 a2.2.1 a2.2.2.1 q) hy fun h₄ h2₄ hs₄ => wpAny_pure ?_)
  have e4 := hs₄.extBut
  have hTO₄ : IsTri h₄ TO x b c := e4 _ _ D.TOi2 hTO₃
  refine wpAny_bind (wpAny_seqItems hTO₄ rfl ?_)
  refine wpAny_bind (wpAny_updateSeq_tri hTO₄ fun h₅ hTO₅ hs₅ => ?_)
  replace hTO₅ : IsTri h₅ TO x y c := hTO₅
  have e5 := hs₅.extBut
  refine wpAny_bind (wpAny_letGo (wpAny_pure ?_))
  have up5 : ∀ c o, c ≠ z → c ≠ TO → c ≠ i1 → c ≠ i2 → s.heap.get? c = some o → h₅.get? c = some o := fun c o c1 c2 c3 c4 e => e5 _ _ c2 (e4 _ _ c4 (up3 c o c1 c2 c3 e))
  -- the third
  refine wpAny_bind (wpAny_bind (wpAny_onRaise ?_))
  show wpAny _ _ (Builtin.SmallTypes.nextOf (.ref i3) >>= _) _ _ _
  refine wpAny_bind (next_item (h3.at fun o q => up5 _ o D.i3z D.TOi3.symm D.i13.symm D.i23.symm q) (hl3.at fun o q => up5 _ o a3.1 a3.2.1 a3.2.2.1 a3.2.2.2.1 q) hu fun h₆ h3₆ hs₆ => wpAny_pure ?_)
  have e6 := hs₆.extBut
  have hTO₆ : IsTri h₆ TO x y c := e6 _ _ D.TOi3 hTO₅
  refine wpAny_bind (wpAny_seqItems hTO₆ rfl ?_)
  refine wpAny_bind (wpAny_updateSeq_tri hTO₆ fun h₇ hTO₇ hs₇ => ?_)
  replace hTO₇ : IsTri h₇ TO x y u := hTO₇
  have e7 := hs₇.extBut
  refine wpAny_bind (wpAny_letGo (wpAny_pure (wpAny_pure ?_)))
  have up7 : ∀ c o, c ≠ z → c ≠ TO → c ≠ i1 → c ≠ i2 → c ≠ i3 → s.heap.get? c = some o → h₇.get? c = some o := fun c o c1 c2 c3 c4 c5 e => e7 _ _ c2 (e6 _ _ c5 (up5 c o c1 c2 c3 c4 e))
  refine wpAny_bind (wpAny_seqItems hTO₇ rfl ?_)
  refine wpAny_bind (wpAny_newTuple ?_)
  have hsz : h₇.objs.size = s.heap.objs.size := by rw [hs₇.1, hs₆.1, hs₅.1, hs₄.1, hs₃.1, hs₂.1, hs₁.1]
  have hz₇ : IsZip h₇ z TI TO .ellipsis := e7 _ _ D.TOz.symm (e6 _ _ D.i3z.symm (e5 _ _ D.TOz.symm (e4 _ _ D.i2z.symm (e3 _ _ D.TOz.symm (e2 _ _ D.i1z.symm hz₁)))))
  have h1₇ : SIt k1 h₇ i1 l1 (n + 1) := h1₂.at fun o q => e7 _ _ D.TOi1.symm (e6 _ _ D.i13 (e5 _ _ D.TOi1.symm (e4 _ _ D.i12 (e3 _ _ D.TOi1.symm q))))
  have h2₇ : SIt k2 h₇ i2 l2 (n + 1) := h2₄.at fun o q => e7 _ _ D.TOi2.symm (e6 _ _ D.i23 (e5 _ _ D.TOi2.symm q))
  have h3₇ : SIt k3 h₇ i3 l3 (n + 1) := h3₆.at fun o q => e7 _ _ D.TOi3.symm q
  have hzlt : z < h₇.objs.size := Heap.lt_size hz₇
  show wpAny _ _ (Builtin.SmallTypes.ownedTupleHandOut (.ref z) (.ref h₇.objs.size) >>= _) _ _ _
  refine wpAny_bind ?_
  unfold Builtin.SmallTypes.ownedTupleHandOut
  have hz₈ : IsZip (h₇.push { cls := .type "tuple", data := .seq #[x, y, u] }) z TI TO .ellipsis := Heap.get?_push_of_some _ hz₇
  refine wpAny_bind (wpAny_setField_rec hz₈ (by simp) fun h₉ hz₉ hs₉ => ?_)
  replace hz₉ : IsZip h₉ z TI TO (rawInt h₇.objs.size) := hz₉
  refine wpAny_setField_rec hz₉ (by simp) fun h₀ hz₀ hs₀ => ?_
  replace hz₀ : IsZip h₀ z TI TO (rawInt h₇.objs.size) := hz₀
  have up : ∀ c o, c ≠ z → h₇.get? c = some o → h₀.get? c = some o := fun c o c1 e => hs₀.extBut _ _ c1 (hs₉.extBut _ _ c1 (Heap.get?_push_of_some _ e))
  have hT₀ : IsTri h₀ h₇.objs.size x y u := hs₀.extBut _ _ (Nat.ne_of_gt hzlt) (hs₉.extBut _ _ (Nat.ne_of_gt hzlt) (Heap.get?_push_size _ rfl))
  have hz0 : h₀.objs.size = h₇.objs.size + 1 := by rw [hs₀.1, hs₉.1, Heap.size_push]
  rw [hsz] at hz₀ hT₀ hz0
  refine wpAny_pure ⟨_, rfl, ?_⟩
  show Q (.ref h₇.objs.size) _
  rw [hsz]
  exact hQ h₀ hz₀ (up _ _ D.TOz hTO₇) (h1₇.at fun o e => up _ o D.i1z e) (h2₇.at fun o e => up _ o D.i2z e) (h3₇.at fun o e => up _ o D.i3z e) hT₀ hz0 fun c o c1 c2 c3 c4 c5 e => up c o c1 (up7 c o c1 c2 c3 c4 c5 e)

theorem z3_end {k1 k2 k3 : Sk} {z TI TO i1 i2 i3 l1 l2 l3 : Addr} {n : Nat} {xs ys zs : Array Value} {a b c : Value} {Q : Fin → Shared → Prop} (hh : A.handled = none) (D : Ap3 z TI TO i1 i2 i3 l1 l2 l3)
    (hz : IsZip s.heap z TI TO .none) (hTI : IsTri s.heap TI (.ref i1) (.ref i2) (.ref i3)) (hTO : IsTri s.heap TO a b c)
    (h1 : SIt k1 s.heap i1 l1 n) (h2 : SIt k2 s.heap i2 l2 n) (h3 : SIt k3 s.heap i3 l3 n) (hl1 : SSq k1 s.heap l1 xs) (hl2 : SSq k2 s.heap l2 ys) (hl3 : SSq k3 s.heap l3 zs) (hend : xs[n]? = none ∨ ys[n]? = none ∨ zs[n]? = none)
    (hE : ∀ h' e, (∀ c o, c ≠ z → c ≠ TO → c ≠ i1 → c ≠ i2 → c ≠ i3 → s.heap.get? c = some o → h'.get? c = some o) → (∃ o, h'.get? e = some o ∧ o.cls = .type "StopIteration") → E (.ref e) { s with heap := h' }) :
    wpAny (model prog w) A (Builtin.«zip.__next__» ⟨[.ref z], []⟩) Q E s := by
  have a1 := D.ls l1 (.inl rfl)
  have a2 := D.ls l2 (.inr (.inl rfl))
  have a3 := D.ls l3 (.inr (.inr rfl))
  show wpAny _ _ (field (.ref z) 2 >>= _) _ _ _
  refine wpAny_bind (wpAny_field hz rfl (x := .bool false) rfl ?_)
  show wpAny _ _ (field (.ref z) 3 >>= _) _ _ _
  refine wpAny_bind (wpAny_field hz rfl (x := .ref TI) rfl ?_)
  refine wpAny_bind (wpAny_seqItems hTI rfl ?_)
  show wpAny _ _ (Builtin.SmallTypes.ownedTupleIsFree (.ref z) >>= _) _ _ _
  refine wpAny_bind ?_
  unfold Builtin.SmallTypes.ownedTupleIsFree
  refine wpAny_bind (wpAny_field hz rfl (x := .none) rfl (wpAny_pure ?_))
  simp only [if_true]
  refine wpAny_bind (wpAny_rule ?_)
  refine wpAny_bind (wpAny_field hz rfl (x := .ref TO) rfl ?_)
  refine wpAny_bind (wpAny_setField_rec hz (by simp) fun h₁ hz₁ hs₁ => ?_)
  replace hz₁ : IsZip h₁ z TI TO .ellipsis := hz₁
  refine wpAny_bind ?_
  simp only [List.zipIdx_cons, List.zipIdx_nil, List.forIn_cons, List.forIn_nil]
  have e1 := hs₁.extBut
  have hTO₁ : IsTri h₁ TO a b c := e1 _ _ D.TOz hTO
  refine wpAny_bind (wpAny_bind (wpAny_onRaise ?_))
  show wpAny _ _ (Builtin.SmallTypes.nextOf (.ref i1) >>= _) _ _ _
  cases hx : xs[n]? with
  | none =>
    refine wpAny_bind (next_end hh (h1.at fun o q => e1 _ o D.i1z q) (hl1.at fun o q => e1 _ o a1.1 q) hx fun h₂ e hs₂ he => ?_)
    obtain ⟨oe, hoe, hce⟩ := he
    have hz₂ : IsZip h₂ z TI TO .ellipsis := hs₂ _ _ D.i1z.symm hz₁
    have hez : e ≠ z := fun x => by subst x; rw [hz₂] at hoe; cases hoe; simp at hce
    refine wpAny_setField_rec hz₂ (by simp) fun h₃ _ hs₃ => hE h₃ e (fun c o c1 _ c3 _ _ x => hs₃.extBut _ _ c1 (hs₂ _ _ c3 (e1 _ _ c1 x))) ⟨oe, hs₃.extBut _ _ hez hoe, hce⟩
  | some x =>
    refine wpAny_bind (next_item (h1.at fun o q => e1 _ o D.i1z q) (hl1.at fun o q => e1 _ o a1.1 q) hx fun h₂ h1₂ hs₂ => wpAny_pure ?_)
    have e2 := hs₂.extBut
    have hTO₂ : IsTri h₂ TO a b c := e2 _ _ D.TOi1 hTO₁
    refine wpAny_bind (wpAny_seqItems hTO₂ rfl ?_)
    refine wpAny_bind (wpAny_updateSeq_tri hTO₂ fun h₃ hTO₃ hs₃ => ?_)
    replace hTO₃ : IsTri h₃ TO x b c := hTO₃
    have e3 := hs₃.extBut
    refine wpAny_bind (wpAny_letGo (wpAny_pure ?_))
    have up3 : ∀ c o, c ≠ z → c ≠ TO → c ≠ i1 → s.heap.get? c = some o → h₃.get? c = some o := fun c o c1 c2 c3 e => e3 _ _ c2 (e2 _ _ c3 (e1 _ _ c1 e))
    have hz₃ : IsZip h₃ z TI TO .ellipsis := e3 _ _ D.TOz.symm (e2 _ _ D.i1z.symm hz₁)
    refine wpAny_bind (wpAny_bind (wpAny_onRaise ?_))
    show wpAny _ _ (Builtin.SmallTypes.nextOf (.ref i2) >>= _) _ _ _
    cases hy : ys[n]? with
    | none =>
      refine wpAny_bind (next_end hh (h2.at fun o q => up3 _ o D.i2z D.TOi2.symm D.i12.symm q) (hl2.at fun o q => up3 _ o a2.1 a2.2.1 a2.2.2.1 q) hy fun h₄ e hs₄ he => ?_)
      obtain ⟨oe, hoe, hce⟩ := he
      have hz₄ : IsZip h₄ z TI TO .ellipsis := hs₄ _ _ D.i2z.symm hz₃
      have hez : e ≠ z := fun x => by subst x; rw [hz₄] at hoe; cases hoe; simp at hce
      refine wpAny_setField_rec hz₄ (by simp) fun h₅ _ hs₅ => hE h₅ e (fun c o c1 c2 c3 c4 _ x => hs₅.extBut _ _ c1 (hs₄ _ _ c4 (up3 c o c1 c2 c3 x))) ⟨oe, hs₅.extBut _ _ hez hoe, hce⟩
    | some y =>
      have hu : zs[n]? = none := by rcases hend with h | h | h; rw [hx] at h; cases h; rw [hy] at h; cases h; exact h
      refine wpAny_bind (next_item (h2.at fun o q => up3 _ o D.i2z D.TOi2.symm D.i12.symm q) (hl2.at fun o q => up3 _ o a2.1 a2.2.1 a2.2.2.1 q) hy fun h₄ h2₄ hs₄ => wpAny_pure ?_)
      have e4 := hs₄.extBut
      have hTO₄ : IsTri h₄ TO x b c := e4 _ _ D.TOi2 hTO₃
      refine wpAny_bind (wpAny_seqItems hTO₄ rfl ?_)
      refine wpAny_bind (wpAny_updateSeq_tri hTO₄ fun h₅ hTO₅ hs₅ => ?_)
      have e5 := hs₅.extBut
      refine wpAny_bind (wpAny_letGo (wpAny_pure ?_))
      have up5 : ∀ c o, c ≠ z → c ≠ TO → c ≠ i1 → c ≠ i2 → s.heap.get? c = some o → h₅.get? c = some o := fun c o c1 c2 c3 c4 e => e5 _ _ c2 (e4 _ _ c4 (up3 c o c1 c2 c3 e))
      have hz₅ : IsZip h₅ z TI TO .ellipsis := e5 _ _ D.TOz.symm (e4 _ _ D.i2z.symm hz₃)
      refine wpAny_bind (wpAny_bind (wpAny_onRaise ?_))
      show wpAny _ _ (Builtin.SmallTypes.nextOf (.ref i3) >>= _) _ _ _
      refine wpAny_bind (next_end hh (h3.at fun o q => up5 _ o D.i3z D.TOi3.symm D.i13.symm D.i23.symm q) (hl3.at fun o q => up5 _ o a3.1 a3.2.1 a3.2.2.1 a3.2.2.2.1 q) hu fun h₆ e hs₆ he => ?_)
      obtain ⟨oe, hoe, hce⟩ := he
      have hz₆ : IsZip h₆ z TI TO .ellipsis := hs₆ _ _ D.i3z.symm hz₅
      have hez : e ≠ z := fun x => by subst x; rw [hz₆] at hoe; cases hoe; simp at hce
      refine wpAny_setField_rec hz₆ (by simp) fun h₇ _ hs₇ => hE h₇ e (fun c o c1 c2 c3 c4 c5 x => hs₇.extBut _ _ c1 (hs₆ _ _ c5 (up5 c o c1 c2 c3 c4 x))) ⟨oe, hs₇.extBut _ _ hez hoe, hce⟩

theorem pyNext_z3_item {k1 k2 k3 : Sk} {z TI TO i1 i2 i3 l1 l2 l3 : Addr} {n : Nat} {xs ys zs : Array Value} {x y u a b c : Value} {Q : Option Value → Shared → Prop} (D : Ap3 z TI TO i1 i2 i3 l1 l2 l3)
    (hz : IsZip s.heap z TI TO .none) (hTI : IsTri s.heap TI (.ref i1) (.ref i2) (.ref i3)) (hTO : IsTri s.heap TO a b c)
    (h1 : SIt k1 s.heap i1 l1 n) (h2 : SIt k2 s.heap i2 l2 n) (h3 : SIt k3 s.heap i3 l3 n) (hl1 : SSq k1 s.heap l1 xs) (hl2 : SSq k2 s.heap l2 ys) (hl3 : SSq k3 s.heap l3 zs) (hx : xs[n]? = some x) (hy : ys[n]? = some y) (hu : zs[n]? = some u)
    (hQ : ∀ h', IsZip h' z TI TO (rawInt s.heap.objs.size) → IsTri h' TO x y u → SIt k1 h' i1 l1 (n + 1) → SIt k2 h' i2 l2 (n + 1) → SIt k3 h' i3 l3 (n + 1) → IsTri h' s.heap.objs.size x y u → h'.objs.size = s.heap.objs.size + 1 →
      (∀ c o, c ≠ z → c ≠ TO → c ≠ i1 → c ≠ i2 → c ≠ i3 → s.heap.get? c = some o → h'.get? c = some o) → Q (some (.ref s.heap.objs.size)) { s with heap := h' }) :
    wpAny (model prog w) A (pyNext (.ref z)) Q E s := by
  have hT : s.TypeIs (.ref z) "zip" := ⟨_, hz, rfl⟩
  unfold pyNext
  exact wpAny_bind (wpAny_attempt (wpAny_callSpecial?_slot (name := Str.ofString "__next__") hT F.slot_zip_next
    (wpAny_call_entry F.slot_zip_next hT F.entry_zip_next
      (z3_item D hz hTI hTO h1 h2 h3 hl1 hl2 hl3 hx hy hu fun h' q1 q2 q3 q4 q5 q6 q7 q8 => wpAny_pure (hQ h' q1 q2 q3 q4 q5 q6 q7 q8)) (F.args_zip_next_1 _))))
theorem pyNext_z3_end {k1 k2 k3 : Sk} {z TI TO i1 i2 i3 l1 l2 l3 : Addr} {n : Nat} {xs ys zs : Array Value} {a b c : Value} {Q : Option Value → Shared → Prop} (hh : A.handled = none) (D : Ap3 z TI TO i1 i2 i3 l1 l2 l3)
    (hz : IsZip s.heap z TI TO .none) (hTI : IsTri s.heap TI (.ref i1) (.ref i2) (.ref i3)) (hTO : IsTri s.heap TO a b c)
    (h1 : SIt k1 s.heap i1 l1 n) (h2 : SIt k2 s.heap i2 l2 n) (h3 : SIt k3 s.heap i3 l3 n) (hl1 : SSq k1 s.heap l1 xs) (hl2 : SSq k2 s.heap l2 ys) (hl3 : SSq k3 s.heap l3 zs) (hend : xs[n]? = none ∨ ys[n]? = none ∨ zs[n]? = none)
    (hQ : ∀ h', (∀ c o, c ≠ z → c ≠ TO → c ≠ i1 → c ≠ i2 → c ≠ i3 → s.heap.get? c = some o → h'.get? c = some o) → Q none { s with heap := h' }) : wpAny (model prog w) A (pyNext (.ref z)) Q E s := by
  have hT : s.TypeIs (.ref z) "zip" := ⟨_, hz, rfl⟩
  unfold pyNext
  refine wpAny_bind (wpAny_attempt (wpAny_callSpecial?_slot (name := Str.ofString "__next__") hT F.slot_zip_next
    (wpAny_call_entry F.slot_zip_next hT F.entry_zip_next (z3_end hh D hz hTI hTO h1 h2 h3 hl1 hl2 hl3 hend fun h' e hk he => ?_) (F.args_zip_next_1 _))))
  obtain ⟨o, ho, hc⟩ := he
  refine wpAny_bind (wpAny_isInstance (T := "StopIteration") (b := true) ⟨o, ho, hc⟩ isSubtype_stop ?_)
  exact wpAny_pure (hQ _ hk)
end

theorem tc_zip_3 (a b c : Value) : checkTypeCall "zip" ⟨[a, b, c], []⟩ = pure () := by kernel_rfl
theorem nc_zip_3 (a b c : Value) : checkBuiltinCall "zip.__new__" ⟨[.type "zip", a, b, c], []⟩ = pure () := by kernel_rfl
theorem args_object_init_4 (a b c d : Value) : argsOk "object.__init__" ⟨[a, b, c, d], []⟩ := by
  unfold argsOk; rw [signature?_of (id := "object.__init__") (n := ['_', '_', 't', 'i', 'n', 'i', '_', '_']) (o := ['t', 'c', 'e', 'j', 'b', 'o']) (by kernel_rfl) F.owner_object]; kernel_rfl
abbrev zI (k : Sk) (l : Addr) : Obj := { cls := .type k.itc, data := .fields #[.ref l, .int 0 0] }
abbrev zA (k1 : Sk) (h : Heap) (l1 : Addr) : Heap := h.push (zI k1 l1)
abbrev zB (k1 k2 : Sk) (h : Heap) (l1 l2 : Addr) : Heap := (zA k1 h l1).push (zI k2 l2)
abbrev zC (k1 k2 k3 : Sk) (h : Heap) (l1 l2 l3 : Addr) : Heap := (zB k1 k2 h l1 l2).push (zI k3 l3)
abbrev zD (k1 k2 k3 : Sk) (h : Heap) (l1 l2 l3 : Addr) : Heap := (zC k1 k2 k3 h l1 l2 l3).push { cls := .type "tuple", data := .seq #[.ref h.objs.size, .ref (zA k1 h l1).objs.size, .ref (zB k1 k2 h l1 l2).objs.size] }
abbrev zE (k1 k2 k3 : Sk) (h : Heap) (l1 l2 l3 : Addr) : Heap := (zD k1 k2 k3 h l1 l2 l3).push { cls := .type "tuple", data := .seq #[.none, .none, .none] }
abbrev zF (k1 k2 k3 : Sk) (h : Heap) (l1 l2 l3 : Addr) : Heap := (zE k1 k2 k3 h l1 l2 l3).push { cls := .type "zip", data := .fields #[.none, .bool false, .bool false, .ref (zC k1 k2 k3 h l1 l2 l3).objs.size, .ref (zD k1 k2 k3 h l1 l2 l3).objs.size] }
theorem meets_z3 (k1 k2 k3 : Sk) (l1 l2 l3 : Addr) (xs ys zs : Array Value) :
    Meets (Builtin.«zip.__new__» ⟨[.type "zip", .ref l1, .ref l2, .ref l3], []⟩) (fun _ R s => SSq k1 s.heap l1 xs ∧ SSq k2 s.heap l2 ys ∧ SSq k3 s.heap l3 zs ∧
      R (.ok (.ret (.ref (zE k1 k2 k3 s.heap l1 l2 l3).objs.size))) { s with heap := zF k1 k2 k3 s.heap l1 l2 l3 }) :=
  .of_wp fun prog w A R s h => by
    obtain ⟨hp, g, d, tk, os⟩ := s; obtain ⟨hl1, hl2, hl3, h⟩ := h
    have hsub := sub_zip
    have hL1 : SSq k1 (Shared.heap ⟨hp, g, d, tk, os⟩) l1 xs := hl1
    have hL2 : SSq k2 (Shared.heap ⟨hp.push (zI k1 l1), g, d, tk, os⟩) l2 ys := SSq.at hl2 fun o e => Heap.get?_push_of_some _ e
    have hL3 : SSq k3 (Shared.heap ⟨(hp.push (zI k1 l1)).push (zI k2 l2), g, d, tk, os⟩) l3 zs := SSq.at hl3 fun o e => Heap.get?_push_of_some _ (Heap.get?_push_of_some _ e)
    wp_walk using iter_sq hL1, iter_sq hL2, iter_sq hL3
    exact ⟨_, rfl, h⟩
def SqK (K : PySem.W.Frag) (k : Sk) (H : Hp) (a : Addr) (xs : List V) : Prop := match k with
  | .l => SqL K H a xs
  | .t => SqT K H a xs
theorem Inv_sq {X : Cx} {pins : List (Addr × Obj)} {σ : L2.St} {H : Hp} {s : Shared} {k : Sk} {a : Addr} {xs : List V} (I : Inv X pins σ H s) (h : SqK X.K k H a xs) : ∃ its : List Value, Vals xs its ∧ SSq k s.heap a its.toArray := by
  cases k with
  | l => obtain ⟨its, rv, p, _⟩ := I.list h; exact ⟨its, rv, p.isList⟩
  | t => obtain ⟨its, rv, p, _⟩ := I.tuple h; exact ⟨its, rv, p⟩
/-! ### the ints of a list or a tuple: their sum, the greatest, the least -/
section
variable {prog : Program} {w : World} {A : Around} {E : Value → Shared → Prop} {s : Shared} {k : Sk} {l : Addr}
theorem walks_sq (hh : A.handled = none) (I ax : Addr) (hne : ax ≠ I) (items : Array Value) : Walks prog w A I [I, ax] [I] items.size (fun i v => items[i]? = some v) (fun i h => SIt k h I ax i ∧ SSq k h ax items) := by
  cases k with
  | l => exact Walks.list hh I ax hne items
  | t => exact Walks.tuple hh I ax hne items
theorem iter_sqW {items : Array Value} {Q : Value → Shared → Prop} (hl : SSq k s.heap l items)
    (h : ∀ s₂ : Shared, s₂ = { s with heap := s.heap.push (zI k l) } → (SIt k s₂.heap s.heap.objs.size l 0 ∧ SSq k s₂.heap l items) → (∀ b ∈ [s.heap.objs.size, l], b < s₂.heap.objs.size) → l ≠ s.heap.objs.size → Q (.ref s.heap.objs.size) s₂) : wpAny (model prog w) A (pyIter (.ref l)) Q E s := by
  obtain ⟨o, e⟩ := hl.get
  have hlt : l < s.heap.objs.size := Heap.lt_size e
  refine iter_sq hl (h _ rfl ⟨?_, hl.at fun o e => Heap.get?_push_of_some _ e⟩ (fun b hb => ?_) (Nat.ne_of_lt hlt))
  · cases k with
    | l => exact ⟨_, Heap.get?_push_size _ rfl, rfl, rfl⟩
    | t => exact ⟨_, Heap.get?_push_size _ rfl, rfl, rfl⟩
  · show b < (s.heap.push (zI k l)).objs.size
    rw [Heap.size_push]
    simp only [List.mem_cons, List.not_mem_nil, or_false] at hb
    rcases hb with e | e
    · rw [e]; exact Nat.lt_succ_self _
    · rw [e]; exact Nat.lt_succ_of_lt hlt
theorem kept_sq {h h' : Heap} {o1 : Obj} (hk : ∀ b o, b ∉ [h.objs.size] → (h.push o1).get? b = some o → h'.get? b = some o) : ∀ b o, h.get? b = some o → h'.get? b = some o := fun b o e =>
  hk b o (fun z => by simp only [List.mem_cons, List.not_mem_nil, or_false] at z; exact absurd (z ▸ Heap.lt_size e) (Nat.lt_irrefl _)) (Heap.get?_push_of_some _ e)
variable {its : List Value} {ns : List Int} {Q : Value → Shared → Prop}
theorem sum_sq (hh : A.handled = none) (hl : SSq k s.heap l its.toArray) (hi : IntsAre its ns)
    (h : ∀ h' tk t', (∀ b o, s.heap.get? b = some o → h'.get? b = some o) → Q (.int ns.sum t') { s with heap := h', toks := tk }) : wpAny (model prog w) A (call (.builtin "sum") [.ref l]) Q E s := by
  obtain ⟨xs, e⟩ := hi.allInts.items
  have hn : numsOf (intItems xs).toList = ns := by rw [← e]; exact hi.numsOf
  rw [nums_intItems] at hn
  rw [e] at hl
  refine call_sum_walkG (iter_sqW hl fun s₂ e2 st hfp hne => ?_)
  subst e2
  refine ⟨_, _, _, _, _, _, numAt xs, rfl, walks_sq (A := A.in1) hh _ l hne (intItems xs), st, hfp, (fun _ _ => intItems_at), fun h' tk t' hk => ?_⟩
  have q := h h' tk t' (kept_sq hk)
  rw [← hn] at q
  have e3 : preSum (numAt xs) (intItems xs).size = (xs.toList.map (·.1)).sum := by
    rw [preSum_eq, List.take_of_length_le (by simp [intItems])]
  rw [e3]; exact q
theorem max_sq (hh : A.handled = none) (hl : SSq k s.heap l its.toArray) (hi : IntsAre its ns) (hne : 0 < ns.length)
    (h : ∀ h' tk M t', (∀ b o, s.heap.get? b = some o → h'.get? b = some o) → M ∈ ns → (∀ a, a ∈ ns → a ≤ M) → Q (.int M t') { s with heap := h', toks := tk }) : wpAny (model prog w) A (call (.builtin "max") [.ref l]) Q E s := by
  obtain ⟨xs, e⟩ := hi.allInts.items
  have hn : numsOf (intItems xs).toList = ns := by rw [← e]; exact hi.numsOf
  rw [nums_intItems] at hn
  subst hn
  rw [e] at hl
  have hsz : 0 < xs.size := by simpa using hne
  refine call_max_walk (iter_sqW hl fun s₂ e2 st hfp hne => ?_)
  subst e2
  refine ⟨_, _, _, _, _, _, _, rfl, walks_sq (A := A.in1) hh _ l hne (intItems xs), st, hfp, by simpa [intItems] using hsz, CmpOf.ints_gt (numAt xs) (fun _ _ => intItems_at), fun v h' tk hP hk => ?_⟩
  obtain ⟨t, rfl⟩ := intItems_at hP
  have e5 : (intItems xs).size = xs.size := by simp [intItems]
  rw [e5]
  obtain ⟨h1, h2⟩ := argBest_gt (numAt xs) (xs.size - 1)
  refine h h' tk _ t (kept_sq hk) ?_ fun a ha => ?_
  · rw [numAt_eq]; exact PySem.getD_mem (by rw [List.length_map, Array.length_toList]; omega)
  · obtain ⟨j, hj, rfl⟩ := mem_getD ha
    rw [List.length_map, Array.length_toList] at hj
    rw [← numAt_eq]; exact h2 j (by omega)
theorem min_sq (hh : A.handled = none) (hl : SSq k s.heap l its.toArray) (hi : IntsAre its ns) (hne : 0 < ns.length)
    (h : ∀ h' tk M t', (∀ b o, s.heap.get? b = some o → h'.get? b = some o) → M ∈ ns → (∀ a, a ∈ ns → M ≤ a) → Q (.int M t') { s with heap := h', toks := tk }) : wpAny (model prog w) A (call (.builtin "min") [.ref l]) Q E s := by
  obtain ⟨xs, e⟩ := hi.allInts.items
  have hn : numsOf (intItems xs).toList = ns := by rw [← e]; exact hi.numsOf
  rw [nums_intItems] at hn
  subst hn
  rw [e] at hl
  have hsz : 0 < xs.size := by simpa using hne
  refine call_min_walk (iter_sqW hl fun s₂ e2 st hfp hne => ?_)
  subst e2
  refine ⟨_, _, _, _, _, _, _, rfl, walks_sq (A := A.in1) hh _ l hne (intItems xs), st, hfp, by simpa [intItems] using hsz, CmpOf.ints_lt (numAt xs) (fun _ _ => intItems_at), fun v h' tk hP hk => ?_⟩
  obtain ⟨t, rfl⟩ := intItems_at hP
  have e5 : (intItems xs).size = xs.size := by simp [intItems]
  rw [e5]
  obtain ⟨h1, h2⟩ := argBest_lt (numAt xs) (xs.size - 1)
  refine h h' tk _ t (kept_sq hk) ?_ fun a ha => ?_
  · rw [numAt_eq]; exact PySem.getD_mem (by rw [List.length_map, Array.length_toList]; omega)
  · obtain ⟨j, hj, rfl⟩ := mem_getD ha
    rw [List.length_map, Array.length_toList] at hj
    rw [← numAt_eq]; exact h2 j (by omega)
end
section
variable {X : Cx}
def rSumK (K : PySem.W.Frag) : List V → Hp → VK → Prop := fun vs H Q => ∃ (k : Sk) (a : Addr) (ns : List Int), vs = [V.ref a] ∧ SqK K k H a (ns.map V.int) ∧ Q (.int ns.sum) H
def rMaxK (K : PySem.W.Frag) : List V → Hp → VK → Prop := fun vs H Q => ∃ (k : Sk) (a : Addr) (ns : List Int), vs = [V.ref a] ∧ SqK K k H a (ns.map V.int) ∧ 0 < ns.length ∧ ∀ m, m ∈ ns → (∀ y, y ∈ ns → y ≤ m) → Q (.int m) H
def rMinK (K : PySem.W.Frag) : List V → Hp → VK → Prop := fun vs H Q => ∃ (k : Sk) (a : Addr) (ns : List Int), vs = [V.ref a] ∧ SqK K k H a (ns.map V.int) ∧ 0 < ns.length ∧ ∀ m, m ∈ ns → (∀ y, y ∈ ns → m ≤ y) → Q (.int m) H
theorem cr_sumK (hc : X.calm = true) : CallR X (.builtin "sum") (rSumK X.K) := by
  intro pins s σ H vs us Q I r h
  obtain ⟨k, a, ns, rfl, hs, q⟩ := h
  obtain ⟨its, rv, hl⟩ := Inv_sq I hs
  rw [Vals.ref1 r]
  exact sum_sq (I.ok.hd hc) hl rv.ints fun h' tk t' hk => ⟨.int _, H, I.kept hk, ⟨_, rfl⟩, q⟩
theorem cr_maxK (hc : X.calm = true) : CallR X (.builtin "max") (rMaxK X.K) := by
  intro pins s σ H vs us Q I r h
  obtain ⟨k, a, ns, rfl, hs, hne, q⟩ := h
  obtain ⟨its, rv, hl⟩ := Inv_sq I hs
  rw [Vals.ref1 r]
  exact max_sq (I.ok.hd hc) hl rv.ints hne fun h' tk m t' hk h1 h2 => ⟨.int _, H, I.kept hk, ⟨_, rfl⟩, q m h1 h2⟩
theorem cr_minK (hc : X.calm = true) : CallR X (.builtin "min") (rMinK X.K) := by
  intro pins s σ H vs us Q I r h
  obtain ⟨k, a, ns, rfl, hs, hne, q⟩ := h
  obtain ⟨its, rv, hl⟩ := Inv_sq I hs
  rw [Vals.ref1 r]
  exact min_sq (I.ok.hd hc) hl rv.ints hne fun h' tk m t' hk h1 h2 => ⟨.int _, H, I.kept hk, ⟨_, rfl⟩, q m h1 h2⟩
end
end Ev

set_option maxRecDepth 100000
/-! Ev5: slices, built-ins, stores, by values -/
namespace Ev
open PySem PySem.Spec L2
section
variable {X : Cx} {F : Nat → Addr}

/-! ### slices -/
theorem sIx_eq (n d : Nat) (o : Option Int) : Ev.sIx n d o = HT.sIx n d o := by cases o <;> rfl
theorem Reps.cut {K : PySem.W.Frag} {ω : Wd} {xs : List D} {vs : List V} (r : Reps K F ω xs vs) (lo hi : Option Int) : Reps K F ω (Ev.cut xs lo hi) (cutV vs lo hi) := by
  unfold Ev.cut cutV
  rw [r.len, sIx_eq, sIx_eq]
  exact (r.drop _).take _
def rSlM (K : PySem.W.Frag) (F : Nat → Addr) : V → Option Int → Option Int → Hp → VK → Prop := fun x lo hi H Q =>
  ∃ P ω A d, ω.H = H ∧ HR K F P ω A ∧ Rep K F ω d x ∧ Out K F P ω (ofO (slcO A d lo hi) A) (fin K F Q)
theorem sl_M : SlR X (rSlM X.K F) := by
  intro pins s σ H x v vl vu lo hi sl Q I rx hs pl pu h
  obtain ⟨P, ω, A, d, rfl, hr, rd, o⟩ := h
  obtain ⟨r, e1, oo⟩ := o.ofO
  clear o
  have vd := view hr rd
  unfold slcO at e1
  revert vd e1
  generalize shal A d = d'
  intro e1 vd
  split at e1
  · cases e1
    obtain ⟨a, vs, rfl, s1, l, r1⟩ := vd
    exact sl_list pins s σ _ _ v vl vu lo hi sl Q I rx hs pl pu ⟨a, vs, rfl, .inl s1, fun p hp => oo.newL hr (r1.cut lo hi) (Nat.le_trans (cutV_length vs lo hi) l) p hp⟩
  · cases e1
    obtain ⟨a, vs, rfl, s1, l, r1⟩ := Rep.kl_inv vd
    exact sl_list pins s σ _ _ v vl vu lo hi sl Q I rx hs pl pu ⟨a, vs, rfl, s1.sq, fun p hp => oo.newL hr (r1.cut lo hi) (Nat.le_trans (cutV_length vs lo hi) l) p hp⟩
  · rename_i xs
    cases e1
    have vo := vd
    obtain ⟨a, vs, rfl, s1, l, r1⟩ := Rep.tup_inv vd
    refine sl_tupA pins s σ _ _ v vl vu lo hi sl Q I rx hs pl pu ⟨a, vs, rfl, s1.sq, fun hw => ?_, fun _ p hp => oo.newT hr (r1.cut lo hi) (Nat.le_trans (cutV_length vs lo hi) l) p hp⟩
    have e : Ev.cut xs lo hi = xs := by
      unfold Ev.cut
      rw [sIx_eq, sIx_eq, r1.len, hw.1, hw.2, List.drop_zero, ← r1.len, Nat.sub_zero, List.take_length]
    rw [e] at oo
    exact oo.val hr vo
  · cases e1
    obtain ⟨rfl, hz⟩ := Rep.str_inv vd
    refine sl_str pins s σ _ _ v vl vu lo hi sl Q I rx hs pl pu ⟨_, rfl, hz, ?_⟩
    rename_i z
    have e : (⟨(Ev.cut z.cps.toList lo hi).toArray⟩ : Str) = cutS z lo hi := by
      unfold Ev.cut cutS
      rw [sIx_eq, sIx_eq, Array.length_toList]; rfl
    rw [e] at oo
    exact oo.val hr (.str _ (Nat.le_trans (cutS_length z lo hi) hz))
  · cases e1

/-! ### built-ins by their values -/
def rCM (K : PySem.W.Frag) (F : Nat → Addr) (g : List D → AH → Res D) : List V → Hp → VK → Prop := fun vs H Q =>
  ∃ P ω A ds, ω.H = H ∧ HR K F P ω A ∧ Reps K F ω ds vs ∧ Out K F P ω (g ds A) (fin K F Q)
/-- the built-in function or type -/
def Bi.val : Bi → Value
  | .len => .builtin "len"
  | .int => .type "int"
  | .abs => .builtin "abs"
  | .max2 => .builtin "max"
  | .min2 => .builtin "min"
  | .max1 => .builtin "max"
  | .min1 => .builtin "min"
  | .sum => .builtin "sum"
  | .all => .builtin "all"
  | .any => .builtin "any"
  | .list => .type "list"
  | .tuple => .type "tuple"
  | .isi => .builtin "isinstance"
  | .divmod => .builtin "divmod"
theorem Reps.one {K : PySem.W.Frag} {ω : Wd} {d : D} {vs : List V} (r : Reps K F ω [d] vs) : ∃ v, vs = [v] ∧ Rep K F ω d v := by
  cases r with | cons h t => cases t; exact ⟨_, rfl, h⟩
theorem Reps.two {K : PySem.W.Frag} {ω : Wd} {d e : D} {vs : List V} (r : Reps K F ω [d, e] vs) : ∃ v u, vs = [v, u] ∧ Rep K F ω d v ∧ Rep K F ω e u := by
  cases r with | cons h t => cases t with | cons h2 t => cases t; exact ⟨_, _, rfl, h, h2⟩
theorem ints1_rep {K : PySem.W.Frag} {P : Addr → Prop} {ω : Wd} {A : AH} {d : D} {v : V} {ns : List Int} (hr : HR K F P ω A) (r : Rep K F ω d v) (h : ints1 A d = some ns) :
    ∃ k a, v = .ref a ∧ SqK K k ω.H a (ns.map V.int) := by
  have vd := view hr r
  unfold ints1 at h
  revert vd h
  generalize shal A d = d'
  intro h vd
  rw [Option.bind_eq_some_iff] at h
  obtain ⟨xs, h1, h2⟩ := h
  cases d' with
  | lst ys =>
    cases h1
    obtain ⟨a, vs, rfl, s1, _, r1⟩ := vd
    have := intsO_rep h2 r1
    subst this
    exact ⟨.l, a, rfl, .inl s1⟩
  | tup ys =>
    cases h1
    obtain ⟨a, vs, rfl, s1, _, r1⟩ := Rep.tup_inv vd
    have := intsO_rep h2 r1
    subst this
    exact ⟨.t, a, rfl, s1.sq⟩
  | kl ys =>
    cases h1
    obtain ⟨a, vs, rfl, s1, _, r1⟩ := Rep.kl_inv vd
    have := intsO_rep h2 r1
    subst this
    exact ⟨.l, a, rfl, s1.sq⟩
  | _ => cases h1
theorem bls1_rep {K : PySem.W.Frag} {P : Addr → Prop} {ω : Wd} {A : AH} {d : D} {v : V} {ns : List Bool} (hr : HR K F P ω A) (r : Rep K F ω d v) (h : (lstO (shal A d)).bind blsO = some ns) :
    ∃ a, v = .ref a ∧ SqL K ω.H a (ns.map V.bl) := by
  have vd := view hr r
  revert vd h
  generalize shal A d = d'
  intro h vd
  rw [Option.bind_eq_some_iff] at h
  obtain ⟨xs, h1, h2⟩ := h
  cases d' with
  | lst ys =>
    cases h1
    obtain ⟨a, vs, rfl, s1, _, r1⟩ := vd
    have := blsO_rep h2 r1
    subst this
    exact ⟨a, rfl, .inl s1⟩
  | _ => cases h1
theorem foldl_max : ∀ (r : List Int) (x : Int), (∀ y ∈ x :: r, y ≤ r.foldl (fun a b => if a < b then b else a) x) ∧ r.foldl (fun a b => if a < b then b else a) x ∈ x :: r
  | [], x => ⟨fun y h => by simp at h; subst h; exact Int.le_refl _, by simp⟩
  | z :: r, x => by
    have ih := foldl_max r (if x < z then z else x)
    simp only [List.foldl_cons]
    refine ⟨fun y h => ?_, ?_⟩
    · have h0 := ih.1 (if x < z then z else x) List.mem_cons_self
      rcases List.mem_cons.mp h with e | h
      · subst e; refine Int.le_trans ?_ h0; split <;> omega
      · rcases List.mem_cons.mp h with e | h
        · subst e; refine Int.le_trans ?_ h0; split <;> omega
        · exact ih.1 y (List.mem_cons_of_mem _ h)
    · have h1 := ih.2
      rcases List.mem_cons.mp h1 with e | h
      · rw [e]; split <;> simp
      · exact List.mem_cons_of_mem _ (List.mem_cons_of_mem _ h)
theorem foldl_min : ∀ (r : List Int) (x : Int), (∀ y ∈ x :: r, r.foldl (fun a b => if b < a then b else a) x ≤ y) ∧ r.foldl (fun a b => if b < a then b else a) x ∈ x :: r
  | [], x => ⟨fun y h => by simp at h; subst h; exact Int.le_refl _, by simp⟩
  | z :: r, x => by
    have ih := foldl_min r (if z < x then z else x)
    simp only [List.foldl_cons]
    refine ⟨fun y h => ?_, ?_⟩
    · have h0 := ih.1 (if z < x then z else x) List.mem_cons_self
      rcases List.mem_cons.mp h with e | h
      · subst e; refine Int.le_trans h0 ?_; split <;> omega
      · rcases List.mem_cons.mp h with e | h
        · subst e; refine Int.le_trans h0 ?_; split <;> omega
        · exact ih.1 y (List.mem_cons_of_mem _ h)
    · have h1 := ih.2
      rcases List.mem_cons.mp h1 with e | h
      · rw [e]; split <;> simp
      · exact List.mem_cons_of_mem _ (List.mem_cons_of_mem _ h)
theorem lenM {pins : List (Addr × Obj)} {s : Shared} {σ : L2.St} {ω : Wd} {P : Addr → Prop} {A : AH} {v : V} {u : Value} {d : D} {n : Int} {Q : VK}
    (I : Inv X pins σ ω.H s) (rx : RelV v u) (hr : HR X.K F P ω A) (rd : Rep X.K F ω d v) (h : lenO A d = some n) (q : Q (.int n) ω.H) : wpAny (model X.prog X.w) X.A (call (.builtin "len") [u]) (EP X pins σ Q) X.xe s := by
  have vd := view hr rd
  unfold lenO at h
  revert vd h
  generalize shal A d = d'
  intro h vd
  split at h
  · cases h
    obtain ⟨rfl, hz⟩ := Rep.str_inv vd
    exact call_len_str pins s σ _ _ _ Q I (.cons rx .nil) ⟨_, rfl, hz, q⟩
  · cases h
    obtain ⟨a, vs, rfl, s1, _, r⟩ := Rep.tup_inv vd
    exact call_len_seq pins s σ _ _ _ Q I (.cons rx .nil) ⟨_, _, rfl, .inr s1.sq, by rw [← r.len]; exact q⟩
  · cases h
    obtain ⟨a, vs, rfl, s1, _, r⟩ := vd
    exact call_len_seq pins s σ _ _ _ Q I (.cons rx .nil) ⟨_, _, rfl, .inl (.inl s1), by rw [← r.len]; exact q⟩
  · cases h
    obtain ⟨a, vs, rfl, s1, _, r⟩ := Rep.kl_inv vd
    exact call_len_seq pins s σ _ _ _ Q I (.cons rx .nil) ⟨_, _, rfl, .inl s1.sq, by rw [← r.len]; exact q⟩
  · cases h
    obtain ⟨a, vs, rfl, s1, l, r⟩ := vd
    cases rx
    refine d_len I s1 fun t s' I' => ⟨.int _, _, I', ⟨_, rfl⟩, ?_⟩
    rw [zip_len l r]; exact q
  · cases h
theorem isiM {pins : List (Addr × Obj)} {s : Shared} {σ : L2.St} {ω : Wd} {P : Addr → Prop} {A : AH} {x : V} {u u2 : Value} {d : D} {t : String} {b : Bool} {Q : VK}
    (I : Inv X pins σ ω.H s) (rx : RelV x u) (r2 : RelV (.ty t) u2) (hr : HR X.K F P ω A) (rd : Rep X.K F ω d x) (h : isiT (shal A d) t = some b) (q : Q (.bl b) ω.H) :
    wpAny (model X.prog X.w) X.A (call (.builtin "isinstance") [u, u2]) (EP X pins σ Q) X.xe s := by
  have vd := view hr rd
  unfold isiT at h
  revert vd h
  generalize shal A d = d'
  intro h vd
  rw [Option.bind_eq_some_iff] at h
  obtain ⟨n, h1, h2⟩ := h
  have go : TyX X.K ω.H x (.type n) → wpAny (model X.prog X.w) X.A (call (.builtin "isinstance") [u, u2]) (EP X pins σ Q) X.xe s := fun ty =>
    call_isi pins s σ _ _ _ Q I (.cons rx (.cons r2 .nil)) ⟨x, .ty t, .type n, .type t, b, rfl, .ty t, ty, kit_ty h2, q⟩
  cases d' with
  | non => cases h1; obtain rfl := Rep.non_inv vd; exact go (.base .non)
  | bl c => cases h1; obtain rfl := Rep.bl_inv vd; exact go (.base (.bl c))
  | int c => cases h1; obtain rfl := Rep.int_inv vd; exact go (.base (.int c))
  | str c => cases h1; obtain ⟨rfl, _⟩ := Rep.str_inv vd; exact go (.base (.str c))
  | tup xs => cases h1; obtain ⟨a, vs, rfl, s1, _, _⟩ := Rep.tup_inv vd; exact go (.base (.tup s1))
  | lst xs =>
    cases h1; obtain ⟨a, vs, rfl, s1, _, _⟩ := vd
    rcases s1 with s1 | ⟨o, s1⟩
    · exact go (.base (.lst s1))
    · exact go (.base (.frz s1))
  | kl xs =>
    cases h1; obtain ⟨a, vs, rfl, s1, _, _⟩ := Rep.kl_inv vd
    rcases s1 with ⟨_, s1 | ⟨o, s1⟩⟩ | ⟨o, its, m, e, c, _⟩
    · exact go (.base (.lst s1))
    · exact go (.base (.frz s1))
    · exact go (.kList e c)
  | dk ks xs =>
    cases h1; obtain ⟨a, vs, rfl, s1, _, _⟩ := vd
    rcases s1 with s1 | ⟨o, s1⟩
    · exact go (.base (.dK s1))
    · exact go (.fDict s1)
  | dt _ _ => cases h1
  | ref _ => cases h1
  | fn _ => cases h1
  | ty _ => cases h1
theorem seq_list {K : PySem.W.Frag} {ω : Wd} {d : D} {v : V} {xs : List D} (vd : View K F ω d v) (h : seqO d = some xs) : ∃ a vs, v = .ref a ∧ (SqL K ω.H a vs ∨ STs K ω a vs) ∧ vs.length ≤ sizeLine ∧ Reps K F ω xs vs := by
  cases d with
  | tup ys => cases h; obtain ⟨a, vs, rfl, s1, l, r⟩ := Rep.tup_inv vd; exact ⟨a, vs, rfl, .inr s1, l, r⟩
  | lst ys => cases h; obtain ⟨a, vs, rfl, s1, l, r⟩ := vd; exact ⟨a, vs, rfl, .inl (.inl s1), l, r⟩
  | kl ys => cases h; obtain ⟨a, vs, rfl, s1, l, r⟩ := Rep.kl_inv vd; exact ⟨a, vs, rfl, .inl s1.sq, l, r⟩
  | _ => cases h
theorem call_biM (hc : X.calm = true) (b : Bi) : CallR X b.val (rCM X.K F fun ds A => ofO (biO A b ds) A) := by
  intro pins s σ H vs us Q I rs h
  obtain ⟨P, ω, A, ds, rfl, hr, rd, o⟩ := h
  obtain ⟨r, e1, oo⟩ := o.ofO
  clear o
  unfold biO at e1
  split at e1
  · rw [Option.map_eq_some_iff] at e1
    obtain ⟨n, e1, rfl⟩ := e1
    obtain ⟨v, rfl, r1⟩ := rd.one
    obtain ⟨u, rfl, rx⟩ := vals1 rs
    exact lenM I rx hr r1 e1 (oo.val hr (.int _))
  · cases e1
    obtain ⟨v, rfl, r1⟩ := rd.one
    obtain rfl := Rep.int_inv r1
    exact call_int1 pins s σ _ _ _ Q I rs (.inl ⟨_, rfl, oo.val hr (.int _)⟩)
  · cases e1
    obtain ⟨v, rfl, r1⟩ := rd.one
    obtain rfl := Rep.bl_inv r1
    exact call_int1 pins s σ _ _ _ Q I rs (.inr ⟨_, rfl, oo.val hr (.int _)⟩)
  · cases e1
    obtain ⟨v, rfl, r1⟩ := rd.one
    obtain rfl := Rep.int_inv r1
    exact call_abs pins s σ _ _ _ Q I rs ⟨_, rfl, oo.val hr (.int _)⟩
  · cases e1
    obtain ⟨v, u, rfl, r1, r2⟩ := rd.two
    obtain ⟨rfl, rfl⟩ := int2_rep r1 r2
    exact call_max2 hc pins s σ _ _ _ Q I rs ⟨_, _, rfl, oo.val hr (.int _)⟩
  · cases e1
    obtain ⟨v, u, rfl, r1, r2⟩ := rd.two
    obtain ⟨rfl, rfl⟩ := int2_rep r1 r2
    exact call_min2 hc pins s σ _ _ _ Q I rs ⟨_, _, rfl, oo.val hr (.int _)⟩
  · rw [Option.bind_eq_some_iff] at e1
    obtain ⟨ns, e1, e2⟩ := e1
    rw [Option.map_eq_some_iff] at e2
    obtain ⟨m, e2, rfl⟩ := e2
    obtain ⟨v, rfl, r1⟩ := rd.one
    obtain ⟨sk, a, rfl, s1⟩ := ints1_rep hr r1 e1
    cases ns with
    | nil => cases e2
    | cons n ns =>
      cases e2
      obtain ⟨f1, f2⟩ := foldl_max ns n
      exact cr_maxK hc pins s σ _ _ _ Q I rs ⟨sk, a, _, rfl, s1, by simp, fun m' h1 h2 => by rw [show m' = _ from Int.le_antisymm (f1 m' h1) (h2 _ f2)]; exact oo.val hr (.int _)⟩
  · rw [Option.bind_eq_some_iff] at e1
    obtain ⟨ns, e1, e2⟩ := e1
    rw [Option.map_eq_some_iff] at e2
    obtain ⟨m, e2, rfl⟩ := e2
    obtain ⟨v, rfl, r1⟩ := rd.one
    obtain ⟨sk, a, rfl, s1⟩ := ints1_rep hr r1 e1
    cases ns with
    | nil => cases e2
    | cons n ns =>
      cases e2
      obtain ⟨f1, f2⟩ := foldl_min ns n
      exact cr_minK hc pins s σ _ _ _ Q I rs ⟨sk, a, _, rfl, s1, by simp, fun m' h1 h2 => by rw [show m' = _ from Int.le_antisymm (h2 _ f2) (f1 m' h1)]; exact oo.val hr (.int _)⟩
  · rw [Option.map_eq_some_iff] at e1
    obtain ⟨ns, e1, rfl⟩ := e1
    obtain ⟨v, rfl, r1⟩ := rd.one
    obtain ⟨sk, a, rfl, s1⟩ := ints1_rep hr r1 e1
    exact cr_sumK hc pins s σ _ _ _ Q I rs ⟨sk, a, _, rfl, s1, oo.val hr (.int _)⟩
  · rw [Option.map_eq_some_iff] at e1
    obtain ⟨ns, e1, rfl⟩ := e1
    obtain ⟨v, rfl, r1⟩ := rd.one
    obtain ⟨a, rfl, s1⟩ := bls1_rep hr r1 e1
    exact cr_all hc pins s σ _ _ _ Q I rs ⟨a, _, rfl, s1, oo.val hr (.bl _)⟩
  · rw [Option.map_eq_some_iff] at e1
    obtain ⟨ns, e1, rfl⟩ := e1
    obtain ⟨v, rfl, r1⟩ := rd.one
    obtain ⟨a, rfl, s1⟩ := bls1_rep hr r1 e1
    exact cr_any hc pins s σ _ _ _ Q I rs ⟨a, _, rfl, s1, oo.val hr (.bl _)⟩
  · rw [Option.map_eq_some_iff] at e1
    obtain ⟨xs, e1, rfl⟩ := e1
    obtain ⟨v, rfl, r1⟩ := rd.one
    obtain ⟨a, vs, rfl, s1, l, r2⟩ := seq_list (view hr r1) e1
    exact call_list_of pins s σ _ _ _ Q I rs ⟨a, vs, rfl, s1.imp id STs.sq, fun p hp => oo.newL hr r2 l p hp⟩
  · rw [Option.map_eq_some_iff] at e1
    obtain ⟨xs, e1, rfl⟩ := e1
    obtain ⟨v, rfl, r1⟩ := rd.one
    obtain ⟨a, vs, rfl, s1, l, r2⟩ := seq_list (view hr r1) e1
    rcases s1 with s1 | s1
    · exact call_tuple_of pins s σ _ _ _ Q I rs ⟨a, vs, rfl, .inl ⟨s1, fun p hp => oo.newT hr r2 l p hp⟩⟩
    · exact call_tuple_of pins s σ _ _ _ Q I rs ⟨a, vs, rfl, .inr ⟨s1.sq, oo.val hr (.tup s1 l r2)⟩⟩
  · rw [Option.map_eq_some_iff] at e1
    obtain ⟨b, e1, rfl⟩ := e1
    obtain ⟨v, u, rfl, r1, r2⟩ := rd.two
    obtain rfl := Rep.ty_inv r2
    obtain ⟨w1, w2, rfl, q1, q2⟩ := vals2 rs
    exact isiM I q1 q2 hr r1 e1 (oo.val hr (.bl _))
  · split at e1
    · rename_i hm
      cases e1
      obtain ⟨v, u, rfl, r1, r2⟩ := rd.two
      obtain ⟨rfl, rfl⟩ := int2_rep r1 r2
      exact call_divmod pins s σ _ _ _ Q I rs ⟨_, _, rfl, hm, fun p hp => oo.newT hr (.cons (.int _) (.cons (.int _) .nil)) (by rw [sizeLine_eq]; show 2 ≤ 16777216; decide) p hp⟩
    · cases e1
  · cases e1

/-! ### stores -/
def rSetM (K : PySem.W.Frag) (F : Nat → Addr) : TSet := fun o i v H Q => ∃ P ω A od id' vd A1, ω.H = H ∧ HR K F P ω A ∧ Rep K F ω od o ∧ Rep K F ω id' i ∧ Rep K F ω vd v ∧ setO A od id' vd = some A1 ∧
  ∀ ω', Le ω ω' → Pk P ω ω' → HR K F P ω' A1 → Q ω'.H
theorem HR.obj' {K : PySem.W.Frag} {P : Addr → Prop} {ω : Wd} {A : AH} {n : Nat} {o : O} (hr : HR K F P ω A) (h : A[n]? = some o) : ∃ a, ω.m[n]? = some a := by
  have hl := (List.getElem?_eq_some_iff.mp h).1
  exact ⟨ω.m[n]'(hr.len ▸ hl), List.getElem?_eq_getElem _⟩
section
variable {κ : Type} [DecidableEq κ] {K : PySem.W.Frag} {ω : Wd}
theorem dsub_rep {k : κ} {d : D} {v : V} (hd : Rep K F ω d v) : ∀ {ks : List κ} {xs : List D} {vs : List V}, ks.length = xs.length → Reps K F ω xs vs →
    ∃ us, Reps K F ω (dsub k d ks xs) us ∧ (ks.zip vs).map (fun kv => if kv.1 = k then (kv.1, v) else kv) = ks.zip us ∧ (dsub k d ks xs).length = ks.length
  | [], [], _, _, .nil => ⟨[], .nil, rfl, rfl⟩
  | j :: ks, x :: xs, _, l, .cons (v := u) (vs := vs) hx r => by
    obtain ⟨us, h1, h2, h3⟩ := dsub_rep (k := k) hd (by simpa using l) r
    by_cases e : j = k
    · refine ⟨v :: us, ?_, ?_, ?_⟩
      · simp only [dsub, if_pos e]; exact .cons hd h1
      · simp only [List.zip_cons_cons, List.map_cons, if_pos e, h2]
      · simp only [dsub, List.length_cons, h3]
    · refine ⟨u :: us, ?_, ?_, ?_⟩
      · simp only [dsub, if_neg e]; exact .cons hx h1
      · simp only [List.zip_cons_cons, List.map_cons, if_neg e, h2]
      · simp only [dsub, List.length_cons, h3]
  | [], _ :: _, _, l, _ => by simp at l
  | _ :: _, [], _, l, _ => by simp at l
theorem zip_any {k : κ} : ∀ {ks : List κ} {vs : List V}, ks.length = vs.length → (ks.zip vs).any (fun kv => decide (kv.1 = k)) = decide (k ∈ ks)
  | [], _, _ => by simp
  | j :: ks, [], h => by simp at h
  | j :: ks, v :: vs, h => by
    rw [List.zip_cons_cons, List.any_cons, zip_any (by simpa using h)]
    by_cases e : j = k
    · simp [e]
    · have e' : ¬ k = j := fun z => e z.symm
      simp [e, e']
theorem zip_snoc {k : κ} {v : V} : ∀ {ks : List κ} {vs : List V}, ks.length = vs.length → ks.zip vs ++ [(k, v)] = (ks ++ [k]).zip (vs ++ [v])
  | [], [], _ => rfl
  | [], _ :: _, h => by simp at h
  | _ :: _, [], h => by simp at h
  | j :: ks, u :: vs, h => by
    simp only [List.zip_cons_cons, List.cons_append, zip_snoc (ks := ks) (vs := vs) (by simpa using h)]
theorem dput_rep {k : κ} {d : D} {v : V} (hd : Rep K F ω d v) {ks : List κ} {xs : List D} {vs : List V} (l : ks.length = xs.length) (r : Reps K F ω xs vs) :
    ∃ us, Reps K F ω (dputV k d ks xs) us ∧ putK (ks.zip vs) k v = (dputK k ks).zip us ∧ (dputK k ks).length = (dputV k d ks xs).length := by
  have lv : ks.length = vs.length := l.trans r.len
  by_cases e : k ∈ ks
  · obtain ⟨us, h1, h2, h3⟩ := dsub_rep (k := k) hd l r
    refine ⟨us, ?_, ?_, ?_⟩
    · unfold dputV; rw [if_pos e]; exact h1
    · unfold putK dputK; rw [zip_any lv, if_pos (decide_eq_true e), if_pos e]; exact h2
    · unfold dputK dputV; rw [if_pos e, if_pos e]; exact h3.symm
  · refine ⟨vs ++ [v], ?_, ?_, ?_⟩
    · unfold dputV; rw [if_neg e]; exact r.app (.cons hd .nil)
    · unfold putK dputK; rw [zip_any lv, if_neg (by simp [e]), if_neg e]; exact zip_snoc lv
    · unfold dputK dputV; rw [if_neg e, if_neg e]; simp [l]
end
theorem ltLim {n : Nat} (h : n < lim) : n < sizeLine := by rw [sizeLine_eq]; exact h
theorem set_M (hu : X.A.units + 65 < cLine) : PSet X (rSetM X.K F) := by
  intro pins s σ H o i v ov iv u Q I ro ri rv h
  obtain ⟨P, ω, A, od, id', vd, A1, rfl, hr, r1, r2, r3, e1, ot⟩ := h
  unfold setO at e1
  split at e1
  · rename_i n
    obtain ⟨a, rfl, hm⟩ := Rep.ref_inv r1
    split at e1
    · rename_i xs k hA
      obtain ⟨vs, h1, h2, h3⟩ := hr.obj n _ a hA hm
      rw [Option.map_eq_some_iff] at e1
      obtain ⟨j, e1, rfl⟩ := e1
      obtain rfl := Rep.int_inv r2
      have q : Q (upd ω.H a (.lst (vs.set j v))) := by
        have l := Le.chg (u := .lst (vs.set j v)) hr hm hA (by simp)
        exact ot _ l (Pk.chg hr hm) (hr.chg hm hA (by simp) (by simp) ⟨_, upd_same, by rw [List.length_set]; exact h2, (Reps.set r3 j h3).le l⟩)
      exact set_list pins s σ _ _ _ v ov iv u Q I ro ri rv ⟨a, vs, k, j, rfl, rfl, h1, by rw [← h3.len]; exact e1, q⟩
    · rename_i ks xs hA
      obtain ⟨vs, h1, h2, h3⟩ := hr.obj n _ a hA hm
      rw [Option.bind_eq_some_iff] at e1
      obtain ⟨k, hk, e1⟩ := e1
      split at e1
      · rename_i hl
        cases e1
        obtain ⟨us, g1, g2, g3⟩ := dput_rep (k := k) r3 h2 h3
        have q : Q (upd ω.H a (.dK (putK (ks.zip vs) k v))) := by
          rw [g2]
          have l := Le.chg (u := .dK ((dputK k ks).zip us)) hr hm hA (by simp)
          exact ot _ l (Pk.chg hr hm) (hr.chg hm hA (by simp) (by simp) ⟨_, upd_same, g3, g1.le l⟩)
        cases ro
        exact d_setItem (by omega) I (.inl ⟨_, k, h1, keyO_rep hk r2, by rw [zip_len h2 h3]; exact ltLim hl, rfl⟩) ri rv fun s' I' => ⟨_, I', q⟩
      · cases e1
    · rename_i ks xs kd hA
      obtain ⟨vs, h1, h2, h3⟩ := hr.obj n _ a hA hm
      rw [Option.bind_eq_some_iff] at e1
      obtain ⟨k, hk, e1⟩ := e1
      split at e1
      · rename_i hl
        cases e1
        obtain ⟨us, g1, g2, g3⟩ := dput_rep (k := k) r3 h2 h3
        have q : Q (upd ω.H a (.dT (putK (ks.zip vs) k v))) := by
          rw [g2]
          have l := Le.chg (u := .dT ((dputK k ks).zip us)) hr hm hA (by simp)
          exact ot _ l (Pk.chg hr hm) (hr.chg hm hA (by simp) (by simp) ⟨_, upd_same, g3, g1.le l⟩)
        obtain ⟨b, ts, rfl, s2, _, r4⟩ := Rep.tup_inv r2
        have et := keysO_rep hk r4
        subst et
        cases ro
        exact d_setItem (by omega) I (.inr ⟨_, k, b, h1, rfl, s2, by rw [zip_len h2 h3]; exact ltLim hl, rfl⟩) ri rv fun s' I' => ⟨_, I', q⟩
      · cases e1
    · cases e1
  · cases e1
/-- o.append(v) -/
def rAppM (K : PySem.W.Frag) (F : Nat → Addr) : V → List V → Hp → VK → Prop := fun x vs H Q => ∃ P ω A od vd A1 v, vs = [v] ∧ ω.H = H ∧ HR K F P ω A ∧ Rep K F ω od x ∧ Rep K F ω vd v ∧ appO A od vd = some A1 ∧
  ∀ ω', Le ω ω' → Pk P ω ω' → HR K F P ω' A1 → Q .non ω'.H
theorem mt_M : MtM X "list.append" (rAppM X.K F) := by
  intro pins s σ H x vs v us Q I rx rv h
  obtain ⟨P, ω, A, od, vd, A1, y, rfl, rfl, hr, r1, r3, e1, ot⟩ := h
  unfold appO at e1
  split at e1
  · rename_i n
    obtain ⟨a, rfl, hm⟩ := Rep.ref_inv r1
    split at e1
    · rename_i xs hA
      obtain ⟨ws, h1, h2, h3⟩ := hr.obj n _ a hA hm
      split at e1
      · rename_i hl
        cases e1
        have hl' : ws.length < sizeLine := by rw [← h3.len]; exact ltLim hl
        have q : Q .non (upd ω.H a (.lst (ws ++ [y]))) := by
          have l := Le.chg (u := .lst (ws ++ [y])) hr hm hA (by simp)
          exact ot _ l (Pk.chg hr hm) (hr.chg hm hA (by simp) (by simp) ⟨_, upd_same, by rw [List.length_append, List.length_singleton]; exact hl', (h3.app (.cons r3 .nil)).le l⟩)
        exact mt_append pins s σ _ _ _ v us Q I rx rv ⟨a, ws, y, rfl, rfl, h1, hl', q⟩
      · cases e1
    · cases e1
  · cases e1
end
end Ev

set_option maxRecDepth 100000
/-! Ev6: expressions -/
namespace Ev
open PySem PySem.Spec L2

theorem _root_.L2.PE.imp {X : Cx} {e : Expr} {t t' : TE} (h : PE X e t) (i : ∀ σ H Q, t' σ H Q → t σ H Q) : PE X e t' := ⟨fun pins s σ H Q I q => h.run pins s σ H Q I (i σ H Q q)⟩
theorem _root_.L2.PT.imp {X : Cx} {e : Expr} {t t' : TT} (h : PT X e t) (i : ∀ σ H Q, t' σ H Q → t σ H Q) : PT X e t' := ⟨fun pins s σ H Q I q => h.run pins s σ H Q I (i σ H Q q)⟩
theorem _root_.L2.PA.imp {X : Cx} {e : List Expr} {t t' : TA} (h : PA X e t) (i : ∀ σ H Q, t' σ H Q → t σ H Q) : PA X e t' := ⟨fun pos pins s σ H Q I q => h.run pos pins s σ H Q I (i σ H Q q)⟩
theorem _root_.L2.PO.imp {X : Cx} {e : Option Expr} {t t' : TO} (h : PO X e t) (i : ∀ σ H Q, t' σ H Q → t σ H Q) : PO X e t' := ⟨fun pins s σ H Q I q => h.run pins s σ H Q I (i σ H Q q)⟩

/-- the readings of the evaluator's expressions -/
def tM (K : PySem.W.Frag) (F : Nat → Addr) (f : Env → AH → Res D) : TE := fun σ H Q =>
  ∃ P ω env A, ω.H = H ∧ HR K F P ω A ∧ EnvR K F ω env σ ∧ Out K F P ω (f env A) (fin K F Q)
def tMb (K : PySem.W.Frag) (F : Nat → Addr) (f : Env → AH → Res Bool) : TT := fun σ H Q =>
  ∃ P ω env A, ω.H = H ∧ HR K F P ω A ∧ EnvR K F ω env σ ∧ Out K F P ω (f env A) (finB Q)
def tMs (K : PySem.W.Frag) (F : Nat → Addr) (f : Env → AH → Res (List D)) : TA := fun σ H Q =>
  ∃ P ω env A, ω.H = H ∧ HR K F P ω A ∧ EnvR K F ω env σ ∧ Out K F P ω (f env A) fun ds ω' _ => ∀ vs, Reps K F ω' ds vs → Q vs ω'.H
def tMo (K : PySem.W.Frag) (F : Nat → Addr) (f : Env → AH → Res (Option Int)) : TO := fun σ H Q =>
  ∃ P ω env A, ω.H = H ∧ HR K F P ω A ∧ EnvR K F ω env σ ∧ Out K F P ω (f env A) fun o ω' _ => Q o ω'.H

section
variable {K : PySem.W.Frag} {F : Nat → Addr} {σ : St} {H : Hp}
/-- a value has come, g is left -/
abbrev Mid (K : PySem.W.Frag) (F : Nat → Addr) (σ : St) {α : Type} (g : D → Env → AH → Res α) (Φ : α → Wd → AH → Prop) (x : V) (H1 : Hp) : Prop :=
  ∃ P ω env A d, ω.H = H1 ∧ HR K F P ω A ∧ EnvR K F ω env σ ∧ Rep K F ω d x ∧ Out K F P ω (g d env A) Φ
theorem tM.step {α : Type} {fa : Env → AH → Res D} {g : D → Env → AH → Res α} {Φ : α → Wd → AH → Prop}
    (h : ∃ P ω env A, ω.H = H ∧ HR K F P ω A ∧ EnvR K F ω env σ ∧ Out K F P ω (bnd (fa env A) fun x A => g x env A) Φ) : tM K F fa σ H (Mid K F σ g Φ) := by
  obtain ⟨P, ω, env, A, rfl, hr, er, o⟩ := h
  exact ⟨P, ω, env, A, rfl, hr, er, o.bnd.imp fun d ω' A' l k hr' o' v rv => ⟨P, ω', env, A', d, rfl, hr', er.le l, rv, o'⟩⟩
theorem tM.bin {fa fb : Env → AH → Res D} {g : D → D → AH → Res D} {Q : VK}
    (h : tM K F (fun env A => bnd (fa env A) fun x A => bnd (fb env A) fun y A => g x y A) σ H Q) : tOp (rM2 K F g) (tM K F fa) (tM K F fb) σ H Q := by
  obtain ⟨P, ω, env, A, rfl, hr, er, o⟩ := h
  exact ⟨P, ω, env, A, rfl, hr, er, o.bnd.imp fun d ω1 A1 l k hr1 o1 v rv =>
    ⟨P, ω1, env, A1, rfl, hr1, er.le l, o1.bnd.imp fun e ω2 A2 l2 k2 hr2 o2 u ru => ⟨P, ω2, A2, d, e, rfl, hr2, rv.le l2, ru, o2⟩⟩⟩
end
section
variable {X : Cx} {F : Nat → Addr} {a b c : Expr} {fa fb fc : Env → AH → Res D} {pos p p2 : Pos}
theorem pe_varM {i : Nat} {x : Str} (hN : X.N[i]? = some x) (hv : Vis X.env.scope x) (hd : (x == ("__debug__" : Str)) = false) (hcd : (x == ("__classdict__" : Str)) = false) :
    PE X (.Name x pos) (tM X.K F fun env A => match env[i]? with | some (some d) => .ok d A | _ => .bad) :=
  (pe_var hN hv hd hcd).imp fun σ H Q h => by
    obtain ⟨P, ω, env, A, rfl, hr, er, o⟩ := h
    dsimp only at o
    cases e : env[i]? with
    | none => rw [e] at o; exact o.elim
    | some q => cases q with
      | none => rw [e] at o; exact o.elim
      | some d =>
        rw [e] at o
        obtain ⟨v, h1, h2⟩ := er.at' i d e
        exact ⟨v, h1, o.val hr h2⟩
theorem pe_cM {e : Expr} {d : D} {v : V} (h : PE X e (tC v)) (r : ∀ ω, Rep X.K F ω d v) : PE X e (tM X.K F fun _ A => .ok d A) :=
  h.imp fun σ H Q h => by
    obtain ⟨P, ω, env, A, rfl, hr, er, o⟩ := h
    exact o.val hr (r ω)
theorem pe_binM (op : Bop) (ha : PE X a (tM X.K F fa)) (hb : PE X b (tM X.K F fb)) : PE X (.BinOp a op.op b pos) (tM X.K F fun env A => bnd (fa env A) fun x A => bnd (fb env A) fun y A => ofO (binO A op x y) A) :=
  (pe_op (op_binM op) ha hb).imp fun σ H Q h => tM.bin h
theorem pe_cmpM (hu : X.A.units + 65 < cLine) (op : Cop) (ha : PE X a (tM X.K F fa)) (hb : PE X b (tM X.K F fb)) (hm : behindInMarks op.op b = false) :
    PE X (.Compare a [op.op] [b] pos) (tM X.K F fun env A => bnd (fa env A) fun x A => bnd (fb env A) fun y A => ofO ((cmpO A op x y).map .bl) A) :=
  (pe_cmpR (op_cmpM hu op) ha hb hm).imp fun σ H Q h => tM.bin h
theorem pe_idxM (hu : X.A.units + 65 < cLine) (ha : PE X a (tM X.K F fa)) (hb : PE X b (tM X.K F fb)) (hs : PlainIx b) :
    PE X (.Subscript a b pos) (tM X.K F fun env A => bnd (fa env A) fun x A => bnd (fb env A) fun y A => ofO (idxO A x y) A) :=
  (pe_ix (op_idxM hu) ha hb hs).imp fun σ H Q h => tM.bin h
theorem pe_negM (ha : PE X a (tM X.K F fa)) : PE X (.UnaryOp .USub a pos) (tM X.K F fun env A => bnd (fa env A) fun x A => match x with
    | .int i => .ok (.int (-i)) A
    | _ => .bad) :=
  (pe_un un_neg ha).imp fun σ H Q h => by
    obtain ⟨P, ω, env, A, rfl, hr, er, o⟩ := h
    refine ⟨P, ω, env, A, rfl, hr, er, o.bnd.imp fun d ω1 A1 l k hr1 o1 v rv => ?_⟩
    cases d with
    | int i => obtain rfl := Rep.int_inv rv; exact ⟨i, rfl, o1.val hr1 (.int _)⟩
    | _ => exact o1.elim
theorem pe_isNM {neg : Bool} {j : Nat} {pos'} (ha : PE X a (tM X.K F fa)) : PE X (.Compare a [if neg = true then .IsNot else .Is] [.Constant .none j pos'] pos) (tM X.K F fun env A => bnd (fa env A) fun x A => .ok (.bl (decide (x = .non) != neg)) A) := by
  cases neg with
  | false =>
    refine (pe_cmpR op_isN ha pe_non (nomark _)).imp fun σ H Q h => ?_
    obtain ⟨P, ω, env, A, rfl, hr, er, o⟩ := h
    exact ⟨P, ω, env, A, rfl, hr, er, o.bnd.imp fun d ω1 A1 l k hr1 o1 v rv => ⟨rfl, by rw [rep_isN rv]; exact (by simpa using o1.val hr1 (.bl _))⟩⟩
  | true =>
    refine (pe_cmpR op_notN ha pe_non (nomark _)).imp fun σ H Q h => ?_
    obtain ⟨P, ω, env, A, rfl, hr, er, o⟩ := h
    exact ⟨P, ω, env, A, rfl, hr, er, o.bnd.imp fun d ω1 A1 l k hr1 o1 v rv => ⟨rfl, by rw [rep_isN rv]; exact (by simpa using o1.val hr1 (.bl _))⟩⟩
theorem pe_isBM {c neg : Bool} {j : Nat} {pos'} (ha : PE X a (tM X.K F fa)) : PE X (.Compare a [if neg = true then .IsNot else .Is] [.Constant (.bool c) j pos'] pos) (tM X.K F fun env A => bnd (fa env A) fun x A => .ok (.bl (decide (x = .bl c) != neg)) A) := by
  cases neg with
  | false =>
    refine (pe_cmpR (op_isB (c := c)) ha pe_bl (nomark _)).imp fun σ H Q h => ?_
    obtain ⟨P, ω, env, A, rfl, hr, er, o⟩ := h
    exact ⟨P, ω, env, A, rfl, hr, er, o.bnd.imp fun d ω1 A1 l k hr1 o1 v rv => ⟨rfl, by rw [rep_isB rv]; exact (by simpa using o1.val hr1 (.bl _))⟩⟩
  | true =>
    refine (pe_cmpR (op_notB (c := c)) ha pe_bl (nomark _)).imp fun σ H Q h => ?_
    obtain ⟨P, ω, env, A, rfl, hr, er, o⟩ := h
    exact ⟨P, ω, env, A, rfl, hr, er, o.bnd.imp fun d ω1 A1 l k hr1 o1 v rv => ⟨rfl, by rw [rep_isB rv]; exact (by simpa using o1.val hr1 (.bl _))⟩⟩

/-! ### argument lists, displays -/
theorem pa_nilM : PA X [] (tMs X.K F fun _ A => .ok [] A) := pa_nil.imp fun σ H Q h => by
  obtain ⟨P, ω, env, A, rfl, hr, er, o⟩ := h
  exact o.here hr [] .nil
theorem pa_consM {es : List Expr} {fs : Env → AH → Res (List D)} (ha : PE X a (tM X.K F fa)) (hr : PA X es (tMs X.K F fs)) (hs : starEach (a :: es) X.env = (false, eval a X.env) :: starEach es X.env) :
    PA X (a :: es) (tMs X.K F fun env A => bnd (fa env A) fun d A => bnd (fs env A) fun ds A => .ok (d :: ds) A) := (pa_cons ha hr hs).imp fun σ H Q h => by
  obtain ⟨P, ω, env, A, rfl, hr, er, o⟩ := h
  exact ⟨P, ω, env, A, rfl, hr, er, o.bnd.imp fun d ω1 A1 l k hr1 o1 v rv => ⟨P, ω1, env, A1, rfl, hr1, er.le l, o1.bnd.imp fun ds ω2 A2 l2 k2 hr2 o2 vs rvs => o2.here hr2 _ (.cons (rv.le l2) rvs)⟩⟩
theorem pe_tupM {es : List Expr} {fs : Env → AH → Res (List D)} {x1} (h : PA X es (tMs X.K F fs)) (hf : ∀ env A ds A', fs env A = .ok ds A' → ds.length ≤ lim) :
    PE X (.Tuple es x1 pos) (tM X.K F fun env A => bnd (fs env A) fun ds A => .ok (.tup ds) A) := (pe_tup h).imp fun σ H Q h => by
  obtain ⟨P, ω, env, A, rfl, hr, er, o⟩ := h
  refine ⟨P, ω, env, A, rfl, hr, er, ?_⟩
  cases e : fs env A with
  | ok ds A' =>
    have el := hf env A ds A' e
    dsimp only at o
    rw [e] at o
    intro ω1 l k hr1 vs rvs
    have hl : vs.length ≤ sizeLine := by rw [← rvs.len, sizeLine_eq]; exact el
    exact ⟨hl, fun p hp => (Out.le l k o).newT hr1 rvs hl p hp⟩
  | exc _ _ _ => dsimp only at o; rw [e] at o; exact o.elim
  | bad => dsimp only at o; rw [e] at o; exact o.elim
theorem pe_lstM {es : List Expr} {fs : Env → AH → Res (List D)} (h : PA X es (tMs X.K F fs)) (hf : ∀ env A ds A', fs env A = .ok ds A' → ds.length ≤ lim) :
    PE X (.List es pos) (tM X.K F fun env A => bnd (fs env A) fun ds A => .ok (.lst ds) A) := (pe_lst h).imp fun σ H Q h => by
  obtain ⟨P, ω, env, A, rfl, hr, er, o⟩ := h
  refine ⟨P, ω, env, A, rfl, hr, er, ?_⟩
  cases e : fs env A with
  | ok ds A' =>
    have el := hf env A ds A' e
    dsimp only at o
    rw [e] at o
    intro ω1 l k hr1 vs rvs
    have hl : vs.length ≤ sizeLine := by rw [← rvs.len, sizeLine_eq]; exact el
    exact ⟨hl, fun p hp => (Out.le l k o).newL hr1 rvs hl p hp⟩
  | exc _ _ _ => dsimp only at o; rw [e] at o; exact o.elim
  | bad => dsimp only at o; rw [e] at o; exact o.elim
/-- a new changing object -/
theorem Out.newO {K : PySem.W.Frag} {P : Addr → Prop} {ω : Wd} {A : AH} {o : O} {u : HO} {Q : VK} (h : Out K F P ω (.ok (.ref A.length) (A ++ [o])) (fin K F Q)) (hr : HR K F P ω A) (p : Addr) (hp : ω.H p = none) (hd : o ≠ O.dead)
    (ho : RepO K F (ω.obj p u) o p) : Q (.ref p) (upd ω.H p u) := by
  refine h (ω.obj p u) (Le.obj ω hp) (fun a ha => upd_ne fun e => ?_) (hr.mko hp hd ho) _ (.ref ?_)
  · subst e; have := hr.ptrk a ha; rw [hp] at this; cases this
  · rw [← hr.len]; simp
theorem pe_lstMM {es : List Expr} {fs : Env → AH → Res (List D)} (h : PA X es (tMs X.K F fs)) (hf : ∀ env A ds A', fs env A = .ok ds A' → ds.length ≤ lim) :
    PE X (.List es pos) (tM X.K F fun env A => bnd (fs env A) fun ds A => .ok (.ref A.length) (A ++ [.lst ds])) := (pe_lst h).imp fun σ H Q h => by
  obtain ⟨P, ω, env, A, rfl, hr, er, o⟩ := h
  refine ⟨P, ω, env, A, rfl, hr, er, ?_⟩
  cases e : fs env A with
  | ok ds A' =>
    have el := hf env A ds A' e
    dsimp only at o
    rw [e] at o
    intro ω1 l k hr1 vs rvs
    have hl : vs.length ≤ sizeLine := by rw [← rvs.len, sizeLine_eq]; exact el
    exact ⟨hl, fun p hp => (Out.le l k o).newO hr1 p hp (by simp) ⟨vs, upd_same, hl, rvs.le (Le.obj ω1 hp)⟩⟩
  | exc _ _ _ => dsimp only at o; rw [e] at o; exact o.elim
  | bad => dsimp only at o; rw [e] at o; exact o.elim
theorem pe_dkM : PE X (.Dict [] [] pos) (tM X.K F fun _ A => .ok (.ref A.length) (A ++ [.dk [] []])) := pe_dnewK.imp fun σ H Q h => by
  obtain ⟨P, ω, env, A, rfl, hr, er, o⟩ := h
  exact fun p hp => o.newO hr p hp (by simp) ⟨[], upd_same, rfl, .nil⟩
theorem pe_dtM : PE X (.Dict [] [] pos) (tM X.K F fun _ A => .ok (.ref A.length) (A ++ [.dt [] []])) := pe_dnewT.imp fun σ H Q h => by
  obtain ⟨P, ω, env, A, rfl, hr, er, o⟩ := h
  exact fun p hp => o.newO hr p hp (by simp) ⟨[], upd_same, rfl, .nil⟩

/-! ### truth, and, or, not, if -/
theorem tru_run {pins : List (Addr × Obj)} {s : Shared} {σ : L2.St} {ω : Wd} {P : Addr → Prop} {A : AH} {x : V} {v : Value} {d : D} {b : Bool} {Q : Bool → Shared → Prop}
    (I : Inv X pins σ ω.H s) (rx : RelV x v) (hr : HR X.K F P ω A) (rd : Rep X.K F ω d x) (h : truO A d = some b) (q : ∀ s', Inv X pins σ ω.H s' → Q b s') : wpAny (model X.prog X.w) X.A (truthy v) Q X.xe s := by
  refine thn (tru_rd (Q := fun c H' => c = b ∧ H' = ω.H) I rx hr rd h ⟨rfl, rfl⟩) fun c s' ⟨H', I', e1, e2⟩ => ?_
  subst e1 e2
  exact q s' I'
theorem pe_andM {rest : List Expr} (ha : PE X a (tM X.K F fa)) (hb : PE X (.BoolOp .And (b :: rest) pos) (tM X.K F fb)) :
    PE X (.BoolOp .And (a :: b :: rest) pos) (tM X.K F fun env A => bnd (fa env A) fun x A => bnd (ofO (truO A x) A) fun t A => if t = true then fb env A else .ok x A) := by
  refine ⟨fun pins s σ H Q I h => ?_⟩
  refine PyProof.Rows.BoolOp_and (thn (ha.run pins s σ H _ I (tM.step h)) fun v s1 ⟨x, H1, I1, r1, q1⟩ => ?_)
  obtain ⟨P, ω, env, A, d, rfl, hr, er, rd, o⟩ := q1
  obtain ⟨t, e, o⟩ := o.bnd.ofO
  have o : Out X.K F P ω _ _ := o.here hr
  refine tru_run I1 r1 hr rd e fun s2 I2 => ?_
  cases t with
  | true => exact hb.run pins s2 σ ω.H Q I2 ⟨P, ω, env, A, rfl, hr, er, o⟩
  | false => exact ⟨x, ω.H, I2, r1, o.val hr rd⟩
theorem pe_orM {rest : List Expr} (ha : PE X a (tM X.K F fa)) (hb : PE X (.BoolOp .Or (b :: rest) pos) (tM X.K F fb)) :
    PE X (.BoolOp .Or (a :: b :: rest) pos) (tM X.K F fun env A => bnd (fa env A) fun x A => bnd (ofO (truO A x) A) fun t A => if t = true then .ok x A else fb env A) := by
  refine ⟨fun pins s σ H Q I h => ?_⟩
  refine PyProof.Rows.BoolOp_or (thn (ha.run pins s σ H _ I (tM.step h)) fun v s1 ⟨x, H1, I1, r1, q1⟩ => ?_)
  obtain ⟨P, ω, env, A, d, rfl, hr, er, rd, o⟩ := q1
  obtain ⟨t, e, o⟩ := o.bnd.ofO
  have o : Out X.K F P ω _ _ := o.here hr
  refine tru_run I1 r1 hr rd e fun s2 I2 => ?_
  cases t with
  | false => exact hb.run pins s2 σ ω.H Q I2 ⟨P, ω, env, A, rfl, hr, er, o⟩
  | true => exact ⟨x, ω.H, I2, r1, o.val hr rd⟩
theorem pe_notM (ha : PE X a (tM X.K F fa)) : PE X (.UnaryOp .Not a pos) (tM X.K F fun env A => bnd (tst (fa env A)) fun b A => .ok (.bl (!b)) A) := by
  refine ⟨fun pins s σ H Q I h => ?_⟩
  have h : ∃ P ω env A, ω.H = H ∧ HR X.K F P ω A ∧ EnvR X.K F ω env σ ∧ Out X.K F P ω (bnd (fa env A) fun d A => bnd (ofO (truO A d) A) fun b A => .ok (D.bl (!b)) A) (fin X.K F Q) := by
    obtain ⟨P, ω, env, A, rfl, hr, er, o⟩ := h
    refine ⟨P, ω, env, A, rfl, hr, er, ?_⟩
    have e : bnd (tst (fa env A)) (fun b A => Res.ok (D.bl (!b)) A) = (bnd (fa env A) fun d A => bnd (ofO (truO A d) A) fun b A => .ok (D.bl (!b)) A) := by
      unfold tst; cases fa env A <;> rfl
    rw [← e]; exact o
  refine PyProof.Rows.UnaryOp_ (thn (ha.run pins s σ H _ I (tM.step h)) fun v s1 ⟨x, H1, I1, r1, q1⟩ => ?_)
  obtain ⟨P, ω, env, A, d, rfl, hr, er, rd, o⟩ := q1
  obtain ⟨t, e, o⟩ := o.bnd.ofO
  have o : Out X.K F P ω _ _ := o.here hr
  exact PyProof.Rows.not_of (tru_run I1 r1 hr rd e fun s2 I2 => ⟨.bl (!t), ω.H, I2, rfl, o.val hr (.bl _)⟩)
theorem pe_oneM {op} (ha : PE X a (tM X.K F fa)) : PE X (.BoolOp op [a] pos) (tM X.K F fa) := pe_one ha

/-! tests -/
abbrev fT (fa : Env → AH → Res D) : Env → AH → Res Bool := fun env A => tst (fa env A)
theorem pt_valM (ha : PE X a (tM X.K F fa)) (he : ∀ whole, isTrue a X.env whole = (do let v ← whole; standAt a.pos; holding [v] (truthy v))) : PT X a (tMb X.K F (fT fa)) := by
  refine ⟨fun pins s σ H Q I h => ?_⟩
  rw [he]
  refine wpAny_bind (thn (ha.run pins s σ H _ I (tM.step h)) fun v s1 ⟨x, H1, I1, r1, q1⟩ => ?_)
  obtain ⟨P, ω, env, A, d, rfl, hr, er, rd, o⟩ := q1
  obtain ⟨t, e, o⟩ := o.ofO
  exact wpAny_bind (wpAny_standAt (wpAny_holding (tru_run I1 r1 hr rd e fun s2 I2 => ⟨ω.H, I2, o.here hr⟩)))
/-- a test that always is a truth -/
theorem pt_ofB {e : Expr} {t : TE} {f : Env → AH → Res D} (h : PT X e (tTest t)) (i : ∀ σ H Q, tM X.K F f σ H Q → t σ H Q) (hb : ∀ env A d A', f env A = .ok d A' → ∃ b, d = .bl b) : PT X e (tMb X.K F (fT f)) :=
  h.imp fun σ H Q q => by
    refine i σ H _ ?_
    obtain ⟨P, ω, env, A, rfl, hr, er, o⟩ := q
    refine ⟨P, ω, env, A, rfl, hr, er, ?_⟩
    unfold fT tst at o
    cases e : f env A with
    | ok d A' =>
      rw [e] at o
      obtain ⟨b, rfl⟩ := hb env A d A' e
      intro ω1 l k hr1 v rv
      obtain rfl := Rep.bl_inv rv
      exact ⟨b, rfl, o ω1 l k hr1⟩
    | exc _ _ _ => rw [e] at o; exact o.elim
    | bad => rw [e] at o; exact o.elim
theorem tst_bnd {f : Res D} {g : D → AH → Res D} : tst (bnd f g) = bnd f fun d A => tst (g d A) := by cases f <;> rfl
theorem ofO_bl {o : Option Bool} {A : AH} {d : D} {A' : AH} (h : ofO (o.map D.bl) A = .ok d A') : ∃ b, d = .bl b := by
  cases o with
  | none => cases h
  | some b => cases h; exact ⟨b, rfl⟩
theorem bnd_out {α β : Type} {f : Res α} {g : α → AH → Res β} {d : β} {A' : AH} (h : bnd f g = .ok d A') : ∃ a A1, f = .ok a A1 ∧ g a A1 = .ok d A' := by
  cases f with
  | ok a A => exact ⟨a, A, rfl, h⟩
  | exc _ _ _ => cases h
  | bad => cases h
theorem pt_cmpM (hu : X.A.units + 65 < cLine) (op : Cop) (ha : PE X a (tM X.K F fa)) (hb : PE X b (tM X.K F fb)) (hm : behindInMarks op.op b = false) :
    PT X (.Compare a [op.op] [b] pos) (tMb X.K F (fT fun env A => bnd (fa env A) fun x A => bnd (fb env A) fun y A => ofO ((cmpO A op x y).map .bl) A)) := by
  refine pt_ofB (pt_cmpR (op_cmpM hu op) ha hb hm) (fun σ H Q h => tM.bin h) fun env A d A' h => ?_
  obtain ⟨_, _, _, h⟩ := bnd_out h
  obtain ⟨_, _, _, h⟩ := bnd_out h
  exact ofO_bl h
theorem pt_isNM {neg : Bool} {j : Nat} {pos'} (ha : PE X a (tM X.K F fa)) : PT X (.Compare a [if neg = true then .IsNot else .Is] [.Constant .none j pos'] pos) (tMb X.K F (fT fun env A => bnd (fa env A) fun x A => .ok (.bl (decide (x = .non) != neg)) A)) := by
  have fin0 : ∀ env A d A', (bnd (fa env A) fun x A => Res.ok (D.bl (decide (x = .non) != neg)) A) = .ok d A' → ∃ b, d = .bl b := fun env A d A' h => by
    obtain ⟨_, _, _, h⟩ := bnd_out h; cases h; exact ⟨_, rfl⟩
  cases neg with
  | false =>
    refine pt_ofB (pt_cmpR op_isN ha pe_non (nomark _)) (fun σ H Q h => ?_) fin0
    obtain ⟨P, ω, env, A, rfl, hr, er, o⟩ := h
    exact ⟨P, ω, env, A, rfl, hr, er, o.bnd.imp fun d ω1 A1 l k hr1 o1 v rv => ⟨rfl, by rw [rep_isN rv]; exact (by simpa using o1.val hr1 (.bl _))⟩⟩
  | true =>
    refine pt_ofB (pt_cmpR op_notN ha pe_non (nomark _)) (fun σ H Q h => ?_) fin0
    obtain ⟨P, ω, env, A, rfl, hr, er, o⟩ := h
    exact ⟨P, ω, env, A, rfl, hr, er, o.bnd.imp fun d ω1 A1 l k hr1 o1 v rv => ⟨rfl, by rw [rep_isN rv]; exact (by simpa using o1.val hr1 (.bl _))⟩⟩
theorem pt_isBM {c neg : Bool} {j : Nat} {pos'} (ha : PE X a (tM X.K F fa)) : PT X (.Compare a [if neg = true then .IsNot else .Is] [.Constant (.bool c) j pos'] pos) (tMb X.K F (fT fun env A => bnd (fa env A) fun x A => .ok (.bl (decide (x = .bl c) != neg)) A)) := by
  have fin0 : ∀ env A d A', (bnd (fa env A) fun x A => Res.ok (D.bl (decide (x = .bl c) != neg)) A) = .ok d A' → ∃ b, d = .bl b := fun env A d A' h => by
    obtain ⟨_, _, _, h⟩ := bnd_out h; cases h; exact ⟨_, rfl⟩
  cases neg with
  | false =>
    refine pt_ofB (pt_cmpR (op_isB (c := c)) ha pe_bl (nomark _)) (fun σ H Q h => ?_) fin0
    obtain ⟨P, ω, env, A, rfl, hr, er, o⟩ := h
    exact ⟨P, ω, env, A, rfl, hr, er, o.bnd.imp fun d ω1 A1 l k hr1 o1 v rv => ⟨rfl, by rw [rep_isB rv]; exact (by simpa using o1.val hr1 (.bl _))⟩⟩
  | true =>
    refine pt_ofB (pt_cmpR (op_notB (c := c)) ha pe_bl (nomark _)) (fun σ H Q h => ?_) fin0
    obtain ⟨P, ω, env, A, rfl, hr, er, o⟩ := h
    exact ⟨P, ω, env, A, rfl, hr, er, o.bnd.imp fun d ω1 A1 l k hr1 o1 v rv => ⟨rfl, by rw [rep_isB rv]; exact (by simpa using o1.val hr1 (.bl _))⟩⟩
/-- a chain -/
abbrev fChn (p q : Cop) (fa fb fc : Env → AH → Res D) : Env → AH → Res D := fun env A => bnd (fa env A) fun x A => bnd (fb env A) fun y A => bnd (ofO (cmpO A p x y) A) fun t A =>
      if t = true then bnd (fc env A) fun z A => ofO ((cmpO A q y z).map .bl) A else .ok (.bl false) A
theorem tM.chain {K : PySem.W.Frag} {p q : Cop} {σ : St} {H : Hp} {Q : VK} (h : tM K F (fChn p q fa fb fc) σ H Q) :
    tChain (rM2 K F fun x y A => ofO ((cmpO A p x y).map .bl) A) (rM2 K F fun x y A => ofO ((cmpO A q x y).map .bl) A) (tM K F fa) (tM K F fb) (tM K F fc) σ H Q := by
  obtain ⟨P, ω, env, A, rfl, hr, er, o⟩ := h
  refine ⟨P, ω, env, A, rfl, hr, er, o.bnd.imp fun d ω1 A1 l k hr1 o1 v rv => ⟨P, ω1, env, A1, rfl, hr1, er.le l, o1.bnd.imp fun e ω2 A2 l2 k2 hr2 o2 u ru => ?_⟩⟩
  obtain ⟨t, e2, o2⟩ := o2.bnd.ofO
  refine ⟨P, ω2, A2, d, e, rfl, hr2, rv.le l2, ru, ?_⟩
  dsimp only
  rw [e2]
  intro ω3 l3 k3 hr3 w rw'
  obtain rfl := Rep.bl_inv rw'
  have o3 := o2 ω3 l3 k3 hr3
  refine ⟨t, rfl, ?_⟩
  cases t with
  | true => exact ⟨P, ω3, env, A2, rfl, hr3, ((er.le l).le l2).le l3, o3.bnd.imp fun z ω4 A4 l4 k4 hr4 o4 zv rz => ⟨P, ω4, A4, e, z, rfl, hr4, (ru.le l3).le l4, rz, o4⟩⟩
  | false => exact o3.val hr3 (.bl false)
theorem pe_chnM (hu : X.A.units + 65 < cLine) (p q : Cop) (ha : PE X a (tM X.K F fa)) (hb : PE X b (tM X.K F fb)) (hc : PE X c (tM X.K F fc)) (hm : lastMarks [p.op, q.op] [b, c] = false) :
    PE X (.Compare a [p.op, q.op] [b, c] pos) (tM X.K F (fChn p q fa fb fc)) :=
  (pe_chain (op_cmpM hu p) (op_cmpM hu q) ha hb hc hm).imp fun σ H Q h => tM.chain h
theorem pt_chnM (hu : X.A.units + 65 < cLine) (p q : Cop) (ha : PE X a (tM X.K F fa)) (hb : PE X b (tM X.K F fb)) (hc : PE X c (tM X.K F fc)) (hm : lastMarks [p.op, q.op] [b, c] = false) :
    PT X (.Compare a [p.op, q.op] [b, c] pos) (tMb X.K F (fT (fChn p q fa fb fc))) := by
  refine pt_ofB (pt_chain (op_cmpM hu p) (op_cmpM hu q) ha hb hc hm) (fun σ H Q h => tM.chain h) fun env A d A' h => ?_
  obtain ⟨_, _, _, h⟩ := bnd_out h
  obtain ⟨_, _, _, h⟩ := bnd_out h
  obtain ⟨t, _, _, h⟩ := bnd_out h
  cases t with
  | true =>
    obtain ⟨_, _, _, h⟩ := bnd_out h
    exact ofO_bl h
  | false => cases h; exact ⟨_, rfl⟩
end
end Ev

set_option maxRecDepth 100000
/-! Ev7: more of expressions; targets; what is walked -/
namespace Ev
open PySem PySem.Spec L2
theorem _root_.L2.PW.imp {X : Cx} {e : Expr} {t t' : TT} (h : PW X e t) (i : ∀ σ H Q, t' σ H Q → t σ H Q) : PW X e t' := ⟨fun w pins s σ H Q I q => h.run w pins s σ H Q I (i σ H Q q)⟩
section
variable {X : Cx} {F : Nat → Addr} {a b c : Expr} {fa fb fc : Env → AH → Res D} {pos p p2 : Pos}
abbrev fAnd (fa fb : Env → AH → Res D) : Env → AH → Res D := fun env A => bnd (fa env A) fun x A => bnd (ofO (truO A x) A) fun t A => if t = true then fb env A else .ok x A
abbrev fOr (fa fb : Env → AH → Res D) : Env → AH → Res D := fun env A => bnd (fa env A) fun x A => bnd (ofO (truO A x) A) fun t A => if t = true then .ok x A else fb env A
theorem tst_and (env : Env) (A : AH) : tst (fAnd fa fb env A) = bnd (tst (fa env A)) fun t A => if t = true then tst (fb env A) else .ok false A := by
  unfold fAnd tst
  cases fa env A with
  | ok x A =>
    simp only [bnd_ok]
    cases e : truO A x with
    | none => rfl
    | some t => cases t <;> simp [e]
  | exc _ _ _ => rfl
  | bad => rfl
theorem tst_or (env : Env) (A : AH) : tst (fOr fa fb env A) = bnd (tst (fa env A)) fun t A => if t = true then .ok true A else tst (fb env A) := by
  unfold fOr tst
  cases fa env A with
  | ok x A =>
    simp only [bnd_ok]
    cases e : truO A x with
    | none => rfl
    | some t => cases t <;> simp [e]
  | exc _ _ _ => rfl
  | bad => rfl
theorem tst_not (env : Env) (A : AH) : tst (bnd (tst (fa env A)) fun b A => .ok (D.bl (!b)) A) = bnd (tst (fa env A)) fun t A => .ok (!t) A := by
  cases tst (fa env A) <;> rfl
theorem pw_andM {rest : List Expr} (ha : PT X a (tMb X.K F (fT fa))) (hb : PW X (.BoolOp .And (b :: rest) pos) (tMb X.K F (fT fb))) : PW X (.BoolOp .And (a :: b :: rest) pos) (tMb X.K F (fT (fAnd fa fb))) :=
  (pw_and ha hb).imp fun σ H Q h => by
    obtain ⟨P, ω, env, A, rfl, hr, er, o⟩ := h
    unfold fT at o
    rw [tst_and] at o
    refine ⟨P, ω, env, A, rfl, hr, er, o.bnd.imp fun t ω1 A1 l k hr1 o1 => ?_⟩
    cases t with
    | true => exact ⟨P, ω1, env, A1, rfl, hr1, er.le l, o1⟩
    | false => exact o1.here hr1
theorem pw_orM {rest : List Expr} (ha : PT X a (tMb X.K F (fT fa))) (hb : PW X (.BoolOp .Or (b :: rest) pos) (tMb X.K F (fT fb))) : PW X (.BoolOp .Or (a :: b :: rest) pos) (tMb X.K F (fT (fOr fa fb))) :=
  (pw_or ha hb).imp fun σ H Q h => by
    obtain ⟨P, ω, env, A, rfl, hr, er, o⟩ := h
    unfold fT at o
    rw [tst_or] at o
    refine ⟨P, ω, env, A, rfl, hr, er, o.bnd.imp fun t ω1 A1 l k hr1 o1 => ?_⟩
    cases t with
    | true => exact o1.here hr1
    | false => exact ⟨P, ω1, env, A1, rfl, hr1, er.le l, o1⟩
theorem pw_oneM {op} (ha : PT X a (tMb X.K F (fT fa))) : PW X (.BoolOp op [a] pos) (tMb X.K F (fT fa)) := by
  cases op with
  | And => exact pw_and1 ha
  | Or => exact pw_or1 ha
theorem pt_notM (ha : PT X a (tMb X.K F (fT fa))) : PT X (.UnaryOp .Not a pos) (tMb X.K F (fT fun env A => bnd (tst (fa env A)) fun b A => .ok (D.bl (!b)) A)) :=
  (pt_not ha).imp fun σ H Q h => by
    obtain ⟨P, ω, env, A, rfl, hr, er, o⟩ := h
    unfold fT at o
    rw [tst_not] at o
    exact ⟨P, ω, env, A, rfl, hr, er, o.bnd.imp fun t ω1 A1 l k hr1 o1 => o1.here hr1⟩
theorem pe_iteM (hc : PT X c (tMb X.K F (fT fc))) (ha : PE X a (tM X.K F fa)) (hb : PE X b (tM X.K F fb)) :
    PE X (.IfExp c a b pos) (tM X.K F fun env A => bnd (tst (fc env A)) fun t A => if t = true then fa env A else fb env A) :=
  (pe_ifExp hc ha hb).imp fun σ H Q h => by
    obtain ⟨P, ω, env, A, rfl, hr, er, o⟩ := h
    refine ⟨P, ω, env, A, rfl, hr, er, o.bnd.imp fun t ω1 A1 l k hr1 o1 => ?_⟩
    cases t with
    | true => exact ⟨P, ω1, env, A1, rfl, hr1, er.le l, o1⟩
    | false => exact ⟨P, ω1, env, A1, rfl, hr1, er.le l, o1⟩

/-! ### slices -/
theorem po_noneM : PO X none (tMo X.K F fun _ A => .ok none A) := po_none.imp fun σ H Q h => by
  obtain ⟨P, ω, env, A, rfl, hr, er, o⟩ := h
  exact o.here hr
theorem po_someM (ha : PE X a (tM X.K F fa)) : PO X (some a) (tMo X.K F fun env A => bnd (fa env A) fun x A => ofO ((intO x).map some) A) := (po_some ha).imp fun σ H Q h => by
  obtain ⟨P, ω, env, A, rfl, hr, er, o⟩ := h
  refine ⟨P, ω, env, A, rfl, hr, er, o.bnd.imp fun d ω1 A1 l k hr1 o1 v rv => ?_⟩
  cases d with
  | int i => obtain rfl := Rep.int_inv rv; exact ⟨i, rfl, o1.here hr1⟩
  | _ => exact o1.elim
theorem pe_slcM {lo hi : Option Expr} {fl fh : Env → AH → Res (Option Int)} (ha : PE X a (tM X.K F fa)) (hl : PO X lo (tMo X.K F fl)) (hh : PO X hi (tMo X.K F fh)) :
    PE X (.Subscript a (.Slice lo hi none p2) pos) (tM X.K F fun env A => bnd (fa env A) fun x A => bnd (fl env A) fun l A => bnd (fh env A) fun h A => ofO (slcO A x l h) A) :=
  (pe_slice sl_M ha hl hh).imp fun σ H Q h => by
    obtain ⟨P, ω, env, A, rfl, hr, er, o⟩ := h
    exact ⟨P, ω, env, A, rfl, hr, er, o.bnd.imp fun d ω1 A1 l k hr1 o1 v rv => ⟨P, ω1, env, A1, rfl, hr1, er.le l, o1.bnd.imp fun lo ω2 A2 l2 k2 hr2 o2 =>
      ⟨P, ω2, env, A2, rfl, hr2, (er.le l).le l2, o2.bnd.imp fun hi ω3 A3 l3 k3 hr3 o3 => ⟨P, ω3, A3, d, rfl, hr3, (rv.le l2).le l3, o3⟩⟩⟩⟩

/-! ### calls -/
/-- a def's promise: what the evaluator makes of it -/
def spM (K : PySem.W.Frag) (F : Nat → Addr) (n : Nat) (g : List D → AH → Res D) : Sp := fun vs H Q _ =>
  vs.length = n ∧ ∃ P ω A ds, ω.H = H ∧ HR K F P ω A ∧ Reps K F ω ds vs ∧ Out K F P ω (g ds A) (fin K F Q)
theorem pe_callM {CX : CXT} {k : Nat} {f : Addr} {fd : FuncData} {ps : List Str} {x : Str} {es : List Expr} {fs : Env → AH → Res (List D)} {g : List D → AH → Res D}
    (G : FnOk X.prog X.w X.K X.mg X.base CX k f fd ps (spM X.K F ps.length g)) (hr : Room k X.A) (hg : Gl X x) (hm : X.mg x = some (.ref f)) (hk : PySem.W.keepIn X.K (.ref f) = true) (hb : Binds X.K fd ps [])
    (hx : Passes CX X (fun _ _ _ => False)) (ha : PA X (a :: es) (tMs X.K F fs)) (hdb : (x == ("__debug__" : Str)) = false)
    (he : starEach (a :: es) X.env = (false, eval a X.env) :: starEach es X.env) (hpl : (backTo pos (starEach es X.env)).any (·.1) = false) (hn : ∀ env A ds A', fs env A = .ok ds A' → ds.length = ps.length) :
    PE X (.Call (.Name x p) (a :: es) [] pos) (tM X.K F fun env A => bnd (fs env A) fun ds A => g ds A) :=
  (pe_call (E := fun _ _ _ => False) G hr hg hm hk hb .nil hx ha hdb he hpl).imp fun σ H Q h => by
    obtain ⟨P, ω, env, A, rfl, hr, er, o⟩ := h
    refine ⟨P, ω, env, A, rfl, hr, er, ?_⟩
    cases e : fs env A with
    | ok ds A' =>
      have el := hn env A ds A' e
      dsimp only at o
      rw [e] at o
      intro ω1 l k hr1 vs rvs
      rw [List.append_nil]
      exact ⟨by rw [← rvs.len]; exact el, P, ω1, A', ds, rfl, hr1, rvs, Out.le l k o⟩
    | exc _ _ _ => dsimp only at o; rw [e] at o; exact o.elim
    | bad => dsimp only at o; rw [e] at o; exact o.elim
theorem pe_call0M {CX : CXT} {k : Nat} {f : Addr} {fd : FuncData} {x : Str} {g : List D → AH → Res D}
    (G : FnOk X.prog X.w X.K X.mg X.base CX k f fd [] (spM X.K F 0 g)) (hr : Room k X.A) (hg : Gl X x) (hm : X.mg x = some (.ref f)) (hk : PySem.W.keepIn X.K (.ref f) = true) (hb : Binds X.K fd [] [])
    (hx : Passes CX X (fun _ _ _ => False)) (hdb : (x == ("__debug__" : Str)) = false) :
    PE X (.Call (.Name x p) [] [] pos) (tM X.K F fun env A => g [] A) :=
  (pe_call0 (E := fun _ _ _ => False) G hr hg hm hk hb .nil hx hdb).imp fun σ H Q h => by
    obtain ⟨P, ω, env, A, rfl, hr, er, o⟩ := h
    exact ⟨rfl, P, ω, A, [], rfl, hr, .nil, o⟩
theorem tMs_cb {K : PySem.W.Frag} {fs : Env → AH → Res (List D)} {g : List D → AH → Res D} {σ : St} {H : Hp} {Q : VK} (h : tM K F (fun env A => bnd (fs env A) fun ds A => g ds A) σ H Q) : tCB (rCM K F g) (tMs K F fs) σ H Q := by
  obtain ⟨P, ω, env, A, rfl, hr, er, o⟩ := h
  exact ⟨P, ω, env, A, rfl, hr, er, o.bnd.imp fun ds ω1 A1 l k hr1 o1 vs rvs => ⟨P, ω1, A1, ds, rfl, hr1, rvs, o1⟩⟩
def Bi.nm : Bi → String
  | .len => "len" | .int => "int" | .abs => "abs" | .max2 => "max" | .min2 => "min" | .max1 => "max" | .min1 => "min" | .sum => "sum" | .all => "all" | .any => "any" | .list => "list" | .tuple => "tuple" | .isi => "isinstance" | .divmod => "divmod"
theorem Bi.boot (b : Bi) : bootBuiltins (Str.ofString b.nm) = some b.val := by cases b <;> decide +kernel
theorem Bi.nmok (b : Bi) : Str.ofString b.nm ≠ Str.ofString "__name__" ∧ (Str.ofString b.nm == Str.ofString "__debug__") = false := by cases b <;> decide +kernel
theorem pe_biM (b : Bi) (hc : X.calm = true) {es : List Expr} {fs : Env → AH → Res (List D)} (hg : Gl X (Str.ofString b.nm)) (hm : X.mg (Str.ofString b.nm) = none) (ha : PA X (a :: es) (tMs X.K F fs))
    (he : starEach (a :: es) X.env = (false, eval a X.env) :: starEach es X.env) (hpl : (backTo pos (starEach es X.env)).any (·.1) = false) :
    PE X (.Call (.Name (Str.ofString b.nm) p) (a :: es) [] pos) (tM X.K F fun env A => bnd (fs env A) fun ds A => ofO (biO A b ds) A) := by
  have h := call_biM (F := F) hc b
  have hv := b.boot
  obtain ⟨h1, h2⟩ := b.nmok
  have go : PE X (.Call (.Name (Str.ofString b.nm) p) (a :: es) [] pos) (tCB (rCM X.K F fun ds A => ofO (biO A b ds) A) (tMs X.K F fs)) := by
    cases hb : b.val with
    | builtin id => rw [hb] at h hv; exact pe_callB h hg hm hv ha h1 h2 he hpl
    | type T => rw [hb] at h hv; exact pe_callTy h hg hm hv ha h1 h2 he hpl
    | _ => cases b <;> cases hb
  exact go.imp fun σ H Q q => tMs_cb q
/-- o.append(e) -/
theorem pe_appM {o : Expr} {fo : Env → AH → Res D} {apos cpos : Pos} (ho : PE X o (tM X.K F fo)) (ha : PE X a (tM X.K F fa))
    (hbase : attributeBase o "append" X.env (eval o X.env) = eval o X.env)
    (hfew : ((backTo cpos (starEach [a] X.env)).all (fun x => !x.1) && (backToKw cpos (keywordEach [] X.env)).all (fun x => x.1.isSome)
      && decide ([a].length + ([] : List Keyword).length + (if ([] : List Keyword).isEmpty then 0 else 1) < 30)) = true)
    (hline : (apos.endLine == cpos.line) = true) (hs : starEach [a] X.env = (false, eval a X.env) :: starEach [] X.env) (hplain : (backTo cpos (starEach [] X.env)).any (·.1) = false) :
    PE X (.Call (.Attribute o "append" apos) [a] [] cpos) (tM X.K F fun env A => bnd (fo env A) fun x A => bnd (ofO (lstR A x) A) fun _ A => bnd (fa env A) fun y A => bnd (ofO (appO A x y) A) fun A1 _ => .ok .non A1) :=
  (pe_bm PySem.F.plainAttrs_list PySem.F.slot_list_append PySem.F.type_list_append (mt_M (F := F)) ho (pa_cons ha pa_nil hs) hbase hfew hline hs hplain).imp fun σ H Q h => by
    obtain ⟨P, ω, env, A, rfl, hr, er, o⟩ := h
    refine ⟨P, ω, env, A, rfl, hr, er, o.bnd.imp fun d ω1 A1 l k hr1 o1 v rv => ?_⟩
    obtain ⟨_, e1, o1⟩ := o1.bnd.ofO
    have o1 := o1.here hr1
    refine ⟨?_, P, ω1, env, A1, rfl, hr1, er.le l, o1.bnd.imp fun e ω2 A2 l2 k2 hr2 o2 u ru => ?_⟩
    · have vd := view hr1 rv
      unfold lstR at e1
      revert e1 vd
      generalize shal A1 d = d'
      intro e1 vd
      cases d' with
      | lst xs => obtain ⟨a, vs, rfl, s1, _, _⟩ := vd; exact .inl ⟨rfl, vs, .inl s1⟩
      | _ => cases e1
    · obtain ⟨A3, e2, o2⟩ := o2.bnd.ofO
      have o2 : Out X.K F P ω2 (.ok D.non A3) _ := o2.here hr2
      exact ⟨P, ω2, A2, d, e, A3, u, rfl, rfl, hr2, rv.le l2, ru, e2, fun ω' l' k' hr' => o2 ω' l' k' hr' _ .non⟩

/-! ### targets -/
/-- nothing but the slots L is changed -/
def But (L : List Nat) (σ σ' : St) : Prop := σ'.length = σ.length ∧ ∀ j, j ∉ L → σ'[j]? = σ[j]?
def gM (K : PySem.W.Frag) (F : Nat → Addr) (L : List Nat) (f : D → Env → AH → Res Env) : TG := fun v σ H Q =>
  ∃ P ω env A d, ω.H = H ∧ HR K F P ω A ∧ EnvR K F ω env σ ∧ Rep K F ω d v ∧ Out K F P ω (f d env A) fun env' ω' _ => ∀ σ', EnvR K F ω' env' σ' → But L σ σ' → Q σ' ω'.H
def gMs (K : PySem.W.Frag) (F : Nat → Addr) (L : List Nat) (f : List D → Env → AH → Res Env) : TGs := fun vs σ H Q =>
  ∃ P ω env A ds, ω.H = H ∧ HR K F P ω A ∧ EnvR K F ω env σ ∧ Reps K F ω ds vs ∧ Out K F P ω (f ds env A) fun env' ω' _ => ∀ σ', EnvR K F ω' env' σ' → But L σ σ' → Q σ' ω'.H
theorem _root_.L2.PG.imp {X : Cx} {e : Expr} {t t' : TG} (h : PG X e t) (i : ∀ v σ H Q, t' v σ H Q → t v σ H Q) : PG X e t' := ⟨fun pins s σ H v u Q I r q => h.run pins s σ H v u Q I r (i v σ H Q q)⟩
theorem _root_.L2.PGs.imp {X : Cx} {e : List Expr} {t t' : TGs} (h : PGs X e t) (i : ∀ v σ H Q, t' v σ H Q → t v σ H Q) : PGs X e t' := ⟨fun pins s σ H v u Q I r q => h.run pins s σ H v u Q I r (i v σ H Q q)⟩
theorem But.refl (L : List Nat) (σ : St) : But L σ σ := ⟨rfl, fun _ _ => rfl⟩
theorem But.trans {L : List Nat} {a b c : St} (h : But L a b) (k : But L b c) : But L a c := ⟨k.1.trans h.1, fun j hj => (k.2 j hj).trans (h.2 j hj)⟩
theorem But.mono {L L' : List Nat} {a b : St} (h : But L a b) (k : ∀ j, j ∈ L → j ∈ L') : But L' a b := ⟨h.1, fun j hj => h.2 j fun z => hj (k j z)⟩
theorem pg_nmM {i : Nat} {x : Str} (hN : X.N.Nodup) (hi : X.N[i]? = some x) (hx : Loc X.env.scope x) (hf : X.fn x = true ∨ X.env.scope.names.lookup x = some .local) :
    PG X (.Name x pos) (gM X.K F [i] fun d env A => .ok (env.set i (some d)) A) := (pg_name hN hi hx hf).imp fun v σ H Q h => by
  obtain ⟨P, ω, env, A, d, rfl, hr, er, rv, o⟩ := h
  refine o.here hr _ (er.set i rv) ⟨by simp, fun j hj => ?_⟩
  have hne : i ≠ j := fun e => hj (by simp [e])
  rw [List.getElem?_set_ne hne]
theorem pgs_nilM {L : List Nat} : PGs X [] (gMs X.K F L fun ds env A => match ds with
    | [] => .ok env A
    | _ :: _ => .bad) := pgs_nil.imp fun vs σ H Q h => by
  obtain ⟨P, ω, env, A, ds, rfl, hr, er, rv, o⟩ := h
  cases ds with
  | nil => cases rv; exact ⟨rfl, o.here hr _ er (But.refl _ _)⟩
  | cons _ _ => exact o.elim
theorem pgs_consM {L : List Nat} {es : List Expr} {g : D → Env → AH → Res Env} {gs : List D → Env → AH → Res Env} (h1 : PG X a (gM X.K F L g)) (h2 : PGs X es (gMs X.K F L gs))
    (hs : (assignEach (a :: es) X.env).map (·.2) = assign a X.env :: (assignEach es X.env).map (·.2)) :
    PGs X (a :: es) (gMs X.K F L fun ds env A => match ds with
      | [] => .bad
      | d :: ds => bnd (g d env A) fun env A => gs ds env A) := (pgs_cons h1 h2 hs).imp fun vs σ H Q h => by
  obtain ⟨P, ω, env, A, ds, rfl, hr, er, rv, o⟩ := h
  cases ds with
  | nil => exact o.elim
  | cons d ds =>
    cases rv with
    | cons r rs =>
      exact ⟨_, _, rfl, P, ω, env, A, d, rfl, hr, er, r, o.bnd.imp fun env1 ω1 A1 l k hr1 o1 σ1 er1 b1 =>
        ⟨P, ω1, env1, A1, ds, rfl, hr1, er1, rs.le l, o1.imp fun env2 ω2 A2 l2 k2 hr2 q σ2 er2 b2 => q σ2 er2 (b1.trans b2)⟩⟩
theorem pg_tupM {L : List Nat} {es : List Expr} {k : Nat} {gs : List D → Env → AH → Res Env} {n : Nat} (hc : X.calm = true) (h : PGs X es (gMs X.K F L gs))
    (hn : (assignEach es X.env).length = n) (hst : (assignEach es X.env).findIdx? (·.1) = none) (hl : ∀ ds env A env' A', gs ds env A = .ok env' A' → ds.length = n) :
    PG X (.Tuple es k pos) (gM X.K F L fun d env A => bnd (ofO (tupO d) A) fun xs A => gs xs env A) := (pg_tup hc h hn hst).imp fun v σ H Q h => by
  obtain ⟨P, ω, env, A, d, rfl, hr, er, rv, o⟩ := h
  obtain ⟨xs, e1, o1⟩ := o.bnd.ofO
  have oo : Out X.K F P ω (gs xs env A) _ := o1.here hr
  clear o o1
  cases d with
  | tup ys =>
    cases e1
    obtain ⟨a, vs, rfl, s1, l, r⟩ := Rep.tup_inv rv
    refine ⟨a, vs, rfl, s1.sq, ?_, P, ω, env, A, xs, rfl, hr, er, r, oo⟩
    rw [← r.len]
    cases e : gs xs env A with
    | ok env' A' => exact hl _ _ _ _ _ e
    | exc _ _ _ => rw [e] at oo; exact oo.elim
    | bad => rw [e] at oo; exact oo.elim
  | _ => cases e1
theorem pg_subM {L : List Nat} (hu : X.A.units + 65 < cLine) (ha : PE X a (tM X.K F fa)) (hb : PE X b (tM X.K F fb))
    (hs : ∀ v, assign (.Subscript a b pos) X.env v = (do
      let ov ← holding [v] (eval a X.env)
      let iv ← holding [v, ov] (eval b X.env)
      standAt pos
      holding [v, ov, iv] (setItem ov iv v)
      release [v, ov, iv] [])) :
    PG X (.Subscript a b pos) (gM X.K F L fun d env A => bnd (fa env A) fun x A => bnd (fb env A) fun y A => bnd (ofO (setO A x y d) A) fun A1 _ => .ok env A1) :=
  (pg_sub ha hb (set_M (F := F) hu) hs).imp fun v σ H Q h => by
    obtain ⟨P, ω, env, A, d, rfl, hr, er, rv, o⟩ := h
    refine ⟨P, ω, env, A, rfl, hr, er, o.bnd.imp fun x ω1 A1 l k hr1 o1 v1 rv1 => ⟨P, ω1, env, A1, rfl, hr1, er.le l, o1.bnd.imp fun y ω2 A2 l2 k2 hr2 o2 v2 rv2 => ?_⟩⟩
    obtain ⟨A3, e3, o2⟩ := o2.bnd.ofO
    have o2 : Out X.K F P ω2 (.ok env A3) _ := o2.here hr2
    exact ⟨P, ω2, A2, x, y, d, A3, rfl, hr2, rv1.le l2, rv2, (rv.le l).le l2, e3, fun ω' l' k' hr' => o2 ω' l' k' hr' σ (((er.le l).le l2).le l') (But.refl _ _)⟩
end
end Ev

set_option maxRecDepth 100000
/-! Ev8: what is walked; comprehensions; statements -/
namespace Ev
open PySem PySem.Spec L2
theorem _root_.L2.PI.imp {X : Cx} {tg e : Expr} {t t' : TI} (h : PI X tg e t) (i : ∀ σ H R, t' σ H R → t σ H R) : PI X tg e t' := ⟨fun pins s σ H R I q => h.run pins s σ H R I (i σ H R q)⟩
theorem _root_.L2.PI.or {X : Cx} {tg e : Expr} {t t' : TI} (h : PI X tg e t) (h' : PI X tg e t') : PI X tg e (fun σ H R => t σ H R ∨ t' σ H R) :=
  ⟨fun pins s σ H R I q => q.elim (h.run pins s σ H R I) (h'.run pins s σ H R I)⟩

/-- J gives xs, one after the other -/
structure Wk (K : PySem.W.Frag) (F : Nat → Addr) (J : It) (xs : List D) (ω : Wd) : Prop where
  goes : ∀ ω', Le ω ω' → ∀ i, i < xs.length → J.go i ω'.H
  stops : ∀ ω', Le ω ω' → J.stop xs.length ω'.H
  yields : ∀ P ω' A i x H', Le ω ω' → HR K F P ω' A → i < xs.length → J.yld i ω'.H x H' → ∃ d ω'', xs[i]? = some d ∧ ω''.H = H' ∧ Le ω' ω'' ∧ Pk P ω' ω'' ∧ HR K F P ω'' A ∧ Rep K F ω'' d x
def iM (K : PySem.W.Frag) (F : Nat → Addr) (f : Env → AH → Res (List D)) : TI := fun σ H R =>
  ∃ P ω env A, ω.H = H ∧ HR K F P ω A ∧ EnvR K F ω env σ ∧ Out K F P ω (f env A) fun xs ω' _ => ∀ J, Wk K F J xs ω' → R J ω'.H
section
variable {K : PySem.W.Frag} {F : Nat → Addr} {ω : Wd}
theorem Wk.of {J : It} {xs : List D} {vs : List V} {G : Hp → Prop} (w : Walk J vs.length G (YAt vs)) (r : Reps K F ω xs vs) (hG : ∀ ω', Le ω ω' → G ω'.H) : Wk K F J xs ω := by
  refine ⟨fun ω' l i hi => w.goes i _ (by rw [← r.len]; exact hi) (hG ω' l), fun ω' l => by rw [r.len]; exact w.stops _ (hG ω' l), fun P ω' A i x H' l hr hi y => ?_⟩
  obtain ⟨e1, e2⟩ := w.yields i _ x H' (by rw [← r.len]; exact hi) (hG ω' l) y
  obtain ⟨d, h1, h2⟩ := r.get' e2
  exact ⟨d, ω', h1, e1.symm, Le.refl _, Pk.refl _ _, hr, h2.le l⟩
theorem upto_len : ∀ (n : Nat) (lo : Int), (upto lo n).length = n
  | 0, _ => rfl
  | n + 1, lo => by simp [upto, upto_len n]
theorem upto_get : ∀ (n : Nat) (lo : Int) (i : Nat), i < n → (upto lo n)[i]? = some (.int (lo + i))
  | 0, _, _, h => by omega
  | n + 1, lo, 0, _ => by simp [upto]
  | n + 1, lo, i + 1, h => by
    simp only [upto, List.getElem?_cons_succ]
    rw [upto_get n (lo + 1) i (by omega)]
    congr 2; omega
theorem Wk.rng {lo : Int} {n : Nat} : Wk K F (Itr lo n) (upto lo n) ω := by
  refine ⟨fun ω' l i hi => by rw [upto_len] at hi; exact hi, fun ω' l => by rw [upto_len]; exact Nat.le_refl n, fun P ω' A i x H' l hr hi y => ?_⟩
  obtain ⟨e1, e2⟩ := y
  rw [upto_len] at hi
  exact ⟨_, ω', upto_get n lo i hi, e1.symm, Le.refl _, Pk.refl _ _, hr, by rw [e2]; exact .int _⟩
theorem zip2_len : ∀ (xs ys : List D), (zip2 xs ys).length = min xs.length ys.length
  | [], _ => by simp [zip2]
  | _ :: _, [] => by simp [zip2]
  | x :: xs, y :: ys => by simp [zip2, zip2_len xs ys, Nat.succ_min_succ]
theorem zip2_get : ∀ (xs ys : List D) (i : Nat) (x y : D), xs[i]? = some x → ys[i]? = some y → (zip2 xs ys)[i]? = some (.tup [x, y])
  | [], _, _, _, _, h, _ => by simp at h
  | _ :: _, [], _, _, _, _, h => by simp at h
  | x :: xs, y :: ys, 0, _, _, h, k => by simp at h k; subst h k; rfl
  | x :: xs, y :: ys, i + 1, _, _, h, k => by simp only [zip2, List.getElem?_cons_succ] at *; exact zip2_get xs ys i _ _ h k
/-- pairs, each in a new tuple -/
theorem Wk.pairs {J : It} {xs ys : List D} {vs us : List V} {n : Nat} {G : Hp → Prop} (hn : n = min vs.length us.length) (w : Walk J n G (YPair (fun i => vs[i]?) (fun i => us[i]?))) (r : Reps K F ω xs vs) (q : Reps K F ω ys us) (hG : ∀ ω', Le ω ω' → G ω'.H) :
    Wk K F J (zip2 xs ys) ω := by
  have hl : (zip2 xs ys).length = n := by rw [zip2_len, r.len, q.len, hn]
  refine ⟨fun ω' l i hi => w.goes i _ (by rw [← hl]; exact hi) (hG ω' l), fun ω' l => by rw [hl]; exact w.stops _ (hG ω' l), fun P ω' A i x H' l hr hi y => ?_⟩
  obtain ⟨T, x1, y1, rfl, nT, rfl, h1, h2⟩ := w.yields i _ x H' (by rw [← hl]; exact hi) (hG ω' l) y
  obtain ⟨d, g1, g2⟩ := r.get' h1
  obtain ⟨e, g3, g4⟩ := q.get' h2
  have ln := Le.new (u := .tup [x1, y1]) ω' nT
  exact ⟨_, ω'.new T (.tup [x1, y1]), zip2_get xs ys i d e g1 g3, rfl, ln, Pk.new nT hr.ptrk, hr.new nT,
    .tup upd_same (by rw [sizeLine_eq]; show 2 ≤ 16777216; decide) (.cons ((g2.le l).le ln) (.cons ((g4.le l).le ln) .nil))⟩
theorem walk_zipT {a b : Addr} {xs ys : List V} {n : Nat} (hn : n = min xs.length ys.length) : Walk (RZ.ItzT K a b) n (fun H => SqT K H a xs ∧ SqT K H b ys) (YPair (fun i => xs[i]?) (fun i => ys[i]?)) := by
  subst hn
  refine ⟨fun i _ hi q => ?_, fun _ q => ⟨xs, ys, q.1, q.2, by omega⟩, fun i H v H' _ q y => ?_⟩
  · have h1 : i < xs.length := by omega
    have h2 : i < ys.length := by omega
    exact ⟨xs, ys, xs[i], ys[i], q.1, q.2, by simp [h1], by simp [h2]⟩
  · obtain ⟨T, x, y, h1, h2, h3, h4, h5⟩ := y
    exact ⟨T, x, y, h1, h2, h3, h4 xs q.1, h5 ys q.2⟩
end
section
variable {X : Cx} {F : Nat → Addr} {a b c tg : Expr} {fa fb fc : Env → AH → Res D} {pos p p2 : Pos}
theorem pi_seqM (ha : PE X a (tM X.K F fa)) : PI X tg a (iM X.K F fun env A => bnd (fa env A) fun x A => ofO (seqO x) A) :=
  (PI.or (pi_list ha) (pi_tup ha)).imp fun σ H R h => by
    obtain ⟨P, ω, env, A, rfl, hr, er, o⟩ := h
    dsimp only at o
    cases e : fa env A with
    | ok d A' =>
      rw [e] at o
      obtain ⟨xs, e1, o1⟩ := Out.ofO o
      cases d with
      | tup ys =>
        cases e1
        refine .inr ⟨P, ω, env, A, rfl, hr, er, ?_⟩
        rw [e]
        intro ω1 l k hr1 v rv
        obtain ⟨p, vs, rfl, s1, _, r⟩ := Rep.tup_inv rv
        exact ⟨p, rfl, ⟨vs, s1.sq⟩, o1 ω1 l k hr1 _ (Wk.of walk_tup r fun ω' l' => (s1.le l').sq)⟩
      | lst ys =>
        cases e1
        refine .inl ⟨P, ω, env, A, rfl, hr, er, ?_⟩
        rw [e]
        intro ω1 l k hr1 v rv
        obtain ⟨p, vs, rfl, s1, _, r⟩ := Rep.lst_inv rv
        exact ⟨p, rfl, ⟨vs, .inl s1.2⟩, o1 ω1 l k hr1 _ (Wk.of walk_list r fun ω' l' => .inl (s1.le l').2)⟩
      | kl ys =>
        cases e1
        refine .inl ⟨P, ω, env, A, rfl, hr, er, ?_⟩
        rw [e]
        intro ω1 l k hr1 v rv
        obtain ⟨p, vs, rfl, s1, _, r⟩ := Rep.kl_inv rv
        exact ⟨p, rfl, ⟨vs, s1.sq⟩, o1 ω1 l k hr1 _ (Wk.of walk_list r fun ω' l' => (s1.le l').sq)⟩
      | _ => cases e1
    | exc _ _ _ => rw [e] at o; exact o.elim
    | bad => rw [e] at o; exact o.elim
theorem pi_rng1M (hg : Gl X "range") (hm : X.mg "range" = none) (ha : PE X a (tM X.K F fa)) (hs : starEach [a] X.env = [(false, eval a X.env)]) (hs2 : starEach [a] X.env = (false, eval a X.env) :: starEach [] X.env) :
    PI X tg (.Call (.Name "range" p) [a] [] pos) (iM X.K F fun env A => bnd (fa env A) fun x A => match x with
    | .int j => if rngOk j then .ok (upto 0 j.toNat) A else .bad
    | _ => .bad) :=
  (pi_range1 hg hm (pa_cons ha pa_nil hs2) hs).imp fun σ H R h => by
    obtain ⟨P, ω, env, A, rfl, hr, er, o⟩ := h
    refine ⟨P, ω, env, A, rfl, hr, er, o.bnd.imp fun d ω1 A1 l k hr1 o1 v rv => ?_⟩
    cases d with
    | int j =>
      obtain rfl := Rep.int_inv rv
      dsimp only at o1
      split at o1
      · rename_i hj
        exact ⟨j, rfl, hj.1, hj.2, o1.here hr1 _ Wk.rng⟩
      · exact o1.elim
    | _ => exact o1.elim
theorem pi_rng2M (hg : Gl X "range") (hm : X.mg "range" = none) (ha : PE X a (tM X.K F fa)) (hb : PE X b (tM X.K F fb)) (hs : starEach [a, b] X.env = [(false, eval a X.env), (false, eval b X.env)]) (hs2 : starEach [b] X.env = [(false, eval b X.env)])
    (hs3 : starEach [a, b] X.env = (false, eval a X.env) :: starEach [b] X.env) (hs4 : starEach [b] X.env = (false, eval b X.env) :: starEach [] X.env) :
    PI X tg (.Call (.Name "range" p) [a, b] [] pos) (iM X.K F fun env A => bnd (fa env A) fun x A => bnd (fb env A) fun y A => match x, y with
    | .int i, .int j => if rngOk i ∧ rngOk j then .ok (upto i (j - i).toNat) A else .bad
    | _, _ => .bad) :=
  (pi_range2 hg hm (pa_cons ha (pa_cons hb pa_nil hs4) hs3) hs hs2).imp fun σ H R h => by
    obtain ⟨P, ω, env, A, rfl, hr, er, o⟩ := h
    refine ⟨P, ω, env, A, rfl, hr, er, o.bnd.imp fun d ω1 A1 l k hr1 o1 v rv => ⟨P, ω1, env, A1, rfl, hr1, er.le l, o1.bnd.imp fun e ω2 A2 l2 k2 hr2 o2 u ru => ?_⟩⟩
    split at o2
    · split at o2
      · rename_i hj
        obtain rfl := Rep.int_inv rv
        obtain rfl := Rep.int_inv ru
        exact ⟨_, _, rfl, ⟨hj.1.1, hj.1.2, hj.2.1, hj.2.2⟩, o2.here hr2 _ Wk.rng⟩
      · exact o2.elim
    · exact o2.elim
theorem pi_zipM {elts : List Expr} {kk : Nat} {tpos : Pos} (hg : Gl X "zip") (hm : X.mg "zip" = none) (ha : PE X a (tM X.K F fa)) (hb : PE X b (tM X.K F fb))
    (hs3 : starEach [a, b] X.env = (false, eval a X.env) :: starEach [b] X.env) (hs4 : starEach [b] X.env = (false, eval b X.env) :: starEach [] X.env) (hpl : (backTo pos (starEach [b] X.env)).any (·.1) = false) :
    PI X (.Tuple elts kk tpos) (.Call (.Name "zip" p) [a, b] [] pos) (iM X.K F fun env A => bnd (fa env A) fun x A => bnd (fb env A) fun y A => bnd (ofO (zipO x y) A) fun q A => .ok (zip2 q.1 q.2) A) :=
  (RZ.pi_zipA hg hm (pa_cons ha (pa_cons hb pa_nil hs4) hs3) hs3 hpl).imp fun σ H R h => by
    obtain ⟨P, ω, env, A, rfl, hr, er, o⟩ := h
    refine ⟨P, ω, env, A, rfl, hr, er, o.bnd.imp fun d ω1 A1 l k hr1 o1 v rv => ⟨P, ω1, env, A1, rfl, hr1, er.le l, o1.bnd.imp fun e ω2 A2 l2 k2 hr2 o2 u ru => ?_⟩⟩
    obtain ⟨q, e1, o3⟩ := o2.bnd.ofO
    have o4 : Out X.K F P ω2 (.ok (zip2 q.1 q.2) A2) _ := o3.here hr2
    clear o o1 o2 o3
    have rv := rv.le l2
    unfold zipO at e1
    split at e1
    · cases e1
      obtain ⟨p, vs, rfl, s1, _, r1⟩ := Rep.lst_inv rv
      obtain ⟨p', us, rfl, s2, _, r2⟩ := Rep.lst_inv ru
      exact ⟨p, p', vs, us, rfl, .inl ⟨.inl s1.2, .inl s2.2, o4.here hr2 _ (Wk.pairs rfl (walk_zip rfl) r1 r2 fun ω' l' => ⟨.inl (s1.le l').2, .inl (s2.le l').2⟩)⟩⟩
    · cases e1
      obtain ⟨p, vs, rfl, s1, _, r1⟩ := Rep.tup_inv rv
      obtain ⟨p', us, rfl, s2, _, r2⟩ := Rep.tup_inv ru
      exact ⟨p, p', vs, us, rfl, .inr ⟨s1.sq, s2.sq, o4.here hr2 _ (Wk.pairs rfl (walk_zipT rfl) r1 r2 fun ω' l' => ⟨(s1.le l').sq, (s2.le l').sq⟩)⟩⟩
    · cases e1
end
end Ev

set_option maxRecDepth 100000
/-! Ev9: comprehensions -/
namespace Ev
open PySem PySem.Spec L2

theorem wipe_get : ∀ (vs : List Nat) (σ : St) (j : Nat), (L2.wipe σ vs)[j]? = if j ∈ vs then σ[j]?.map (fun _ => none) else σ[j]?
  | [], σ, j => by simp [L2.wipe]
  | v :: vs, σ, j => by
    simp only [L2.wipe]
    by_cases e : v = j
    · subst e
      simp only [List.mem_cons, true_or, if_true]
      by_cases h : v < σ.length
      · rw [List.getElem?_set_self (by rw [L2.wipe_length]; exact h), List.getElem?_eq_getElem h]; rfl
      · rw [List.getElem?_eq_none (by rw [List.length_set, L2.wipe_length]; omega), List.getElem?_eq_none (by omega)]; rfl
    · rw [List.getElem?_set_ne e, wipe_get vs σ j]
      have e' : ¬ j = v := fun z => e z.symm
      simp [e']
theorem wipe_but {L own : List Nat} (hL : ∀ j, j ∈ L → j ∈ own) {σ σ' : St} (h : But L (L2.wipe σ own) σ') : L2.wipe σ' own = L2.wipe σ own := by
  refine List.ext_getElem? fun j => ?_
  rw [wipe_get, wipe_get]
  have hl : σ'.length = σ.length := h.1.trans (L2.wipe_length σ own)
  by_cases hj : j ∈ own
  · rw [if_pos hj, if_pos hj]
    by_cases hz : j < σ.length
    · rw [List.getElem?_eq_getElem hz, List.getElem?_eq_getElem (hl ▸ hz)]; rfl
    · rw [List.getElem?_eq_none (by omega), List.getElem?_eq_none (by omega)]
  · rw [if_neg hj, if_neg hj, h.2 j fun z => hj (hL j z), wipe_get, if_neg hj]

section
variable {K : PySem.W.Frag} {F : Nat → Addr} {P : Addr → Prop} {ω : Wd} {A : AH}
/-- a list that is being made at p -/
abbrev Wd.mk' (ω : Wd) (p : Addr) (u : HO) : Wd := { m := ω.m, W := fun a => ω.W a ∨ a = p, H := upd ω.H p u }
abbrev PD (P : Addr → Prop) (p : Addr) : Addr → Prop := fun a => P a ∨ a = p
theorem Le.mk' (ω : Wd) {p : Addr} {u : HO} (hp : ω.H p = none) : Le ω (ω.mk' p u) :=
  ⟨List.prefix_refl _, fun a h w z => z.elim w (fun e => by subst e; rw [hp] at h; cases h), fun a o _ r => rd_new hp r, fun a h => some_new h, fun a xs h => (upd_ne (fun e => by subst e; rw [hp] at h; cases h)).trans h⟩
theorem HR.mk' (h : HR K F P ω A) {p : Addr} {u : HO} (hp : ω.H p = none) : HR K F (PD P p) (ω.mk' p u) A := by
  have hne : ∀ {a}, (ω.H a).isSome = true → a ≠ p := fun {a} z e => by subst e; rw [hp] at z; cases z
  refine ⟨h.len, h.nd, fun a ha => some_new (h.trk a ha), fun a ha z => ?_, fun a ha => ?_, fun a => ⟨?_, ?_⟩, fun n o a ho hm => ?_⟩
  · rcases ha with q | q
    · exact h.sep a q z
    · exact hne (h.trk a z) q
  · rcases ha with q | q
    · exact some_new (h.ptrk a q)
    · subst q; show (upd ω.H a u a).isSome = true; rw [upd_same]; rfl
  · rintro (z | z)
    · rcases (h.ex a).mp z with q | q
      · exact .inl (.inl q)
      · exact .inr q
    · exact .inl (.inr z)
  · rintro ((z | z) | z)
    · exact .inl ((h.ex a).mpr (.inl z))
    · exact .inr z
    · exact .inl ((h.ex a).mpr (.inr z))
  · exact (h.obj n o a ho hm).le (Le.mk' ω hp) (upd_ne (hne (h.trk a (List.mem_of_getElem? hm))))
/-- it grows -/
theorem Le.grow (h : HR K F P ω A) {p : Addr} {xs ys : List V} (hp : P p) (e : ω.H p = some (.lst xs)) : Le ω (ω.chg p (.lst ys)) := by
  have hw : ω.W p := (h.ex p).mpr (.inl hp)
  refine ⟨List.prefix_refl _, fun _ _ z => z, fun a v z r => ?_, fun a z => some_new z, fun a zs q => (upd_ne fun z => ?_).trans q⟩
  · have hne : a ≠ p := fun e => z (e ▸ hw)
    rcases r with r | ⟨b, r⟩
    · exact .inl ((upd_ne hne).trans r)
    · exact .inr ⟨b, (upd_ne hne).trans r⟩
  · subst z; rw [e] at q; cases q
theorem HR.grow (h : HR K F P ω A) {p : Addr} {xs ys : List V} (hp : P p) (e : ω.H p = some (.lst xs)) : HR K F P (ω.chg p (.lst ys)) A :=
  ⟨h.len, h.nd, fun a ha => some_new (h.trk a ha), h.sep, fun a ha => some_new (h.ptrk a ha), h.ex, fun n o a ho hm =>
    (h.obj n o a ho hm).le (Le.grow h hp e) (upd_ne fun z => h.sep p hp (z ▸ List.mem_of_getElem? hm))⟩
/-- it is done: a still list -/
abbrev Wd.done (ω : Wd) (P : Addr → Prop) (A : AH) : Wd := { ω with W := fun a => P a ∨ ∃ (n : Nat) (o : O), ω.m[n]? = some a ∧ A[n]? = some o ∧ o ≠ O.dead }
theorem Le.done {p : Addr} (h : HR K F (PD P p) ω A) : Le ω (ω.done P A) :=
  ⟨List.prefix_refl _, fun a _ z q => z ((h.ex a).mpr (q.imp .inl id)), fun _ _ _ r => r, fun _ z => z, fun _ _ e => e⟩
theorem HR.done {p : Addr} (h : HR K F (PD P p) ω A) : HR K F P (ω.done P A) A :=
  ⟨h.len, h.nd, h.trk, fun a ha => h.sep a (.inl ha), fun a ha => h.ptrk a (.inl ha), fun a => Iff.rfl, fun n o a ho hm => (h.obj n o a ho hm).le (Le.done h) rfl⟩
theorem Stl.done {p : Addr} (h : HR K F (PD P p) ω A) (hp : ¬ P p) {u : HO} (e : ω.H p = some u) : Stl (ω.done P A) p u :=
  ⟨fun z => z.elim hp fun ⟨n, o, q, _⟩ => h.sep p (.inr rfl) (List.mem_of_getElem? q), .inl e⟩
/-- it is done: a changing object -/
abbrev Wd.doneO (ω : Wd) (p : Addr) : Wd := { ω with m := ω.m ++ [p] }
theorem Le.doneO (ω : Wd) (p : Addr) : Le ω (ω.doneO p) := ⟨List.prefix_append _ _, fun _ _ z => z, fun _ _ _ r => r, fun _ z => z, fun _ _ e => e⟩
theorem HR.doneO {p : Addr} {o : O} (h : HR K F (PD P p) ω A) (hp : ¬ P p) (hd : o ≠ O.dead) (ho : RepO K F (ω.doneO p) o p) : HR K F P (ω.doneO p) (A ++ [o]) := by
  have hpm : p ∉ ω.m := h.sep p (.inr rfl)
  refine ⟨by simp [h.len], ?_, fun a ha => ?_, fun a ha z => ?_, fun a ha => h.ptrk a (.inl ha), fun a => ⟨fun z => ?_, ?_⟩, fun n o' a ho' hm => ?_⟩
  · exact List.nodup_append.mpr ⟨h.nd, by simp, fun a ha b hb => by simp at hb; subst hb; exact fun e => hpm (e ▸ ha)⟩
  · rcases List.mem_append.mp ha with z | z
    · exact h.trk a z
    · simp at z; subst z; exact h.ptrk a (.inr rfl)
  · rcases List.mem_append.mp z with z | z
    · exact h.sep a (.inl ha) z
    · simp at z; subst z; exact hp ha
  · rcases (h.ex a).mp z with (q | q) | ⟨n, o', q1, q2, q3⟩
    · exact .inl q
    · subst q
      exact .inr ⟨ω.m.length, o, by simp, by rw [h.len]; simp, hd⟩
    · exact .inr ⟨n, o', by rw [List.getElem?_append_left (List.getElem?_eq_some_iff.mp q1).1]; exact q1, by rw [List.getElem?_append_left (List.getElem?_eq_some_iff.mp q2).1]; exact q2, q3⟩
  · rintro (z | ⟨n, o', q1, q2, q3⟩)
    · exact (h.ex a).mpr (.inl (.inl z))
    · rcases get_snoc q1 with e1 | ⟨e1, e2⟩
      · rcases get_snoc q2 with e3 | ⟨e3, _⟩
        · exact (h.ex a).mpr (.inr ⟨n, o', e1, e3, q3⟩)
        · have := (List.getElem?_eq_some_iff.mp e1).1; rw [h.len] at this; omega
      · exact (h.ex a).mpr (.inl (.inr e2))
  · rcases get_snoc hm with e1 | ⟨e1, e2⟩
    · rcases get_snoc ho' with e3 | ⟨e3, _⟩
      · exact (h.obj n o' a e3 e1).le (Le.doneO ω p) rfl
      · have := (List.getElem?_eq_some_iff.mp e1).1; rw [h.len] at this; omega
    · rcases get_snoc ho' with e3 | ⟨e3, e4⟩
      · have := (List.getElem?_eq_some_iff.mp e3).1; rw [h.len] at e1; omega
      · subst e4; subst e2; exact ho
end

theorem compL_cons {as : D → Env → AH → Res Env} {cs : Env → AH → Res Bool} {ef : Env → AH → Res D} {env : Env} {x : D} {xs : List D} {A : AH} {rest : List D} {Ae : AH} (h : compL as cs ef env (x :: xs) A = .ok rest Ae) :
    ∃ env1 A1 b A2, as x env A = .ok env1 A1 ∧ cs env1 A1 = .ok b A2 ∧ (b = true → ∃ d A3 r, ef env1 A2 = .ok d A3 ∧ compL as cs ef env xs A3 = .ok r Ae ∧ rest = d :: r) ∧ (b = false → compL as cs ef env xs A2 = .ok rest Ae) := by
  simp only [compL] at h
  obtain ⟨env1, A1, h1, h⟩ := bnd_out h
  obtain ⟨b, A2, h2, h⟩ := bnd_out h
  refine ⟨env1, A1, b, A2, h1, h2, fun e => ?_, fun e => ?_⟩
  · rw [if_pos e] at h
    obtain ⟨d, A3, h3, h⟩ := bnd_out h
    obtain ⟨r, A4, h4, h⟩ := bnd_out h
    cases h
    exact ⟨d, A3, r, h3, h4, rfl⟩
  · rw [if_neg (by simp [e])] at h
    exact h
theorem tLc_M {K : PySem.W.Frag} {F : Nat → Addr} {fi : Env → AH → Res (List D)} {as : D → Env → AH → Res Env} {cs : Env → AH → Res Bool} {ef : Env → AH → Res D} {L own : List Nat} (hL : ∀ j, j ∈ L → j ∈ own) {m : Bool} {σ : St} {H : Hp} {Q : VK}
    (h : tM K F (fun env A => bnd (fi env A) fun xs A => bnd (calm (compL as cs ef (wipe env own) xs A)) fun ds A =>
      if ds.length ≤ lim then (if m = true then .ok (.ref A.length) (A ++ [.lst ds]) else .ok (.lst ds) A) else .bad) σ H Q) :
    tLc (iM K F fi) (gM K F L as) (tMb K F cs) (tM K F ef) own σ H Q := by
  obtain ⟨P, ω, env, A, rfl, hr, er, o⟩ := h
  refine ⟨P, ω, env, A, rfl, hr, er, o.bnd.imp fun xs ω1 A1 l k hr1 o1 J wk Dd nD => ?_⟩
  -- what comes of the turns
  obtain ⟨total, Ae, hT, o2⟩ : ∃ total Ae, compL as cs ef (wipe env own) xs A1 = .ok total Ae ∧ Out K F P ω1 (if total.length ≤ lim then (if m = true then .ok (.ref Ae.length) (Ae ++ [.lst total]) else .ok (.lst total) Ae) else .bad) (fin K F Q) := by
    cases e : compL as cs ef (wipe env own) xs A1 with
    | ok total Ae => rw [e] at o1; exact ⟨total, Ae, rfl, o1⟩
    | exc _ _ _ => rw [e] at o1; exact o1.elim
    | bad => rw [e] at o1; exact o1.elim
  have hlim : total.length ≤ lim := by
    by_cases z : total.length ≤ lim
    · exact z
    · rw [if_neg z] at o2; exact o2.elim
  rw [if_pos hlim] at o2
  have nP : ¬ P Dd := fun z => by have := hr1.ptrk Dd z; rw [nD] at this; cases this
  have er1 := er.le l
  let Pv : Nat → Hp → Prop := fun i H => ∃ ω' A' acc vs rest, ω'.H = H ∧ Le ω1 ω' ∧ Pk P ω1 ω' ∧ HR K F (PD P Dd) ω' A' ∧ ω'.H Dd = some (.lst vs) ∧ Reps K F ω' acc vs ∧
    compL as cs ef (wipe env own) (xs.drop i) A' = .ok rest Ae ∧ acc ++ rest = total
  have start : Pv 0 (upd ω1.H Dd (.lst [])) :=
    ⟨ω1.mk' Dd (.lst []), A1, [], [], total, rfl, Le.mk' ω1 nD, fun a ha => upd_ne fun e => nP (e ▸ ha), hr1.mk' nD, upd_same, .nil, by simpa using hT, rfl⟩
  refine ⟨fun i n H => n = xs.length - i ∧ i ≤ xs.length ∧ Pv i H, ⟨xs.length, by simp, Nat.zero_le _, start⟩, ?_⟩
  rintro i n H ⟨rfl, hi, ω', A', acc, vs, rest, rfl, l', k', hr', hD, racc, hc, ht⟩
  by_cases hlt : i < xs.length
  · refine .inr ⟨wk.goes ω' l' i hlt, Pv (i + 1), fun H' p' => ⟨xs.length - (i + 1), by omega, rfl, hlt, p'⟩, fun x H' y => ?_⟩
    obtain ⟨d, ω3, hd, rfl, l3, k3, hr3, rd⟩ := wk.yields (PD P Dd) ω' A' i x H' l' hr' hlt y
    have hdrop : xs.drop i = d :: xs.drop (i + 1) := by
      have e1 := List.drop_eq_getElem_cons hlt
      rw [List.getElem?_eq_getElem hlt] at hd
      rw [e1, Option.some.inj hd]
    rw [hdrop] at hc
    obtain ⟨env1, A2, b, A3, h1, h2, h3, h4⟩ := compL_cons hc
    refine ⟨PD P Dd, ω3, wipe env own, A', d, rfl, hr3, (((er1.le l').le l3).wipe own), rd, ?_⟩
    rw [h1]
    intro ω4 l4 k4 hr4 σ4 er4 b4
    refine ⟨wipe_but hL b4, PD P Dd, ω4, env1, A2, rfl, hr4, er4, ?_⟩
    rw [h2]
    intro ω5 l5 k5 hr5
    have kk : ∀ {ωz : Wd}, Pk (PD P Dd) ω5 ωz → Pk P ω1 ωz := fun kz a ha => by
      rw [kz a (.inl ha), k5 a (.inl ha), k4 a (.inl ha), k3 a (.inl ha), k' a ha]
    have dd : ω5.H Dd = some (.lst vs) := by rw [k5 Dd (.inr rfl), k4 Dd (.inr rfl), k3 Dd (.inr rfl), hD]
    have l15 := ((l'.trans l3).trans l4).trans l5
    have racc5 := ((racc.le l3).le l4).le l5
    cases b with
    | true =>
      obtain ⟨dv, A4, r, g1, g2, g3⟩ := h3 rfl
      refine ⟨PD P Dd, ω5, env1, A3, rfl, hr5, er4.le l5, ?_⟩
      rw [g1]
      intro ω6 l6 k6 hr6 v rv
      have d6 : ω6.H Dd = some (.lst vs) := by rw [k6 Dd (.inr rfl), dd]
      have hsz : vs.length < sizeLine := by
        rw [← racc5.len, sizeLine_eq]
        have : (acc ++ rest).length ≤ lim := by rw [ht]; exact hlim
        rw [g3, List.length_append, List.length_cons] at this
        show acc.length < 16777216
        have e : lim = 16777216 := rfl
        omega
      have lg := Le.grow (ys := vs ++ [v]) hr6 (.inr rfl) d6
      refine ⟨vs, d6, hsz, ω6.chg Dd (.lst (vs ++ [v])), A4, acc ++ [dv], vs ++ [v], r, rfl, (l15.trans l6).trans lg, fun a ha => ?_, hr6.grow (.inr rfl) d6, upd_same, ((racc5.le l6).app (.cons rv .nil)).le lg, g2, ?_⟩
      · have hne : a ≠ Dd := fun e => nP (e ▸ ha)
        show upd ω6.H Dd (.lst (vs ++ [v])) a = _
        rw [upd_ne hne]
        exact kk k6 a ha
      · rw [List.append_assoc, List.singleton_append, ← g3]; exact ht
    | false =>
      show Pv (i + 1) ω5.H
      exact ⟨ω5, A3, acc, vs, rest, rfl, l15, kk (Pk.refl _ _), hr5, dd, racc5, h4 rfl, ht⟩
  · have e : i = xs.length := by omega
    subst e
    refine .inl ⟨wk.stops ω' l', ?_⟩
    rw [List.drop_length] at hc
    cases hc
    rw [List.append_nil] at ht
    subst ht
    have hv : vs.length ≤ sizeLine := by rw [← racc.len, sizeLine_eq]; exact hlim
    cases m with
    | false =>
      have ld := Le.done hr'
      exact o2 (ω'.done P Ae) (l'.trans ld) k' hr'.done _ (.lst (Stl.done hr' nP hD) hv (racc.le ld))
    | true =>
      have ld := Le.doneO ω' Dd
      refine o2 (ω'.doneO Dd) (l'.trans ld) k' (hr'.doneO nP (by simp) ⟨vs, hD, hv, racc.le ld⟩) _ (.ref ?_)
      rw [← hr'.len]; simp
end Ev

set_option maxRecDepth 100000
/-! Ev10: statements -/
namespace Ev
open PySem PySem.Spec L2

def finS (K : PySem.W.Frag) (F : Nat → Addr) (D : Ends) : Fl × Env → Wd → AH → Prop := fun p ω' _ => match p.1 with
  | .nx => ∀ σ', EnvR K F ω' p.2 σ' → D.nx σ' ω'.H
  | .ct => ∀ σ', EnvR K F ω' p.2 σ' → D.ct σ' ω'.H
  | .bk => ∀ σ', EnvR K F ω' p.2 σ' → D.bk σ' ω'.H
  | .rt d => ∀ v, Rep K F ω' d v → D.rt v ω'.H
def sM (K : PySem.W.Frag) (F : Nat → Addr) (f : Env → AH → Res (Fl × Env)) : TS := fun D σ H =>
  ∃ P ω env A, ω.H = H ∧ HR K F P ω A ∧ EnvR K F ω env σ ∧ Out K F P ω (f env A) (finS K F D)
theorem _root_.L2.PS.imp {X : Cx} {e : Stmt} {t t' : TS} (h : PS X e t) (i : ∀ D σ H, t' D σ H → t D σ H) : PS X e t' := ⟨fun pins s σ H D I q => h.run pins s σ H D I (i D σ H q)⟩
theorem _root_.L2.PSs.imp {X : Cx} {e : List Stmt} {t t' : TS} (h : PSs X e t) (i : ∀ D σ H, t' D σ H → t D σ H) : PSs X e t' := ⟨fun pins s σ H D I q => h.run pins s σ H D I (i D σ H q)⟩
section
variable {X : Cx} {F : Nat → Addr} {a b c tg e : Expr} {fa fb fc fe : Env → AH → Res D} {pos p p2 : Pos} {st : Stmt} {rest body orelse : List Stmt} {f g : Env → AH → Res (Fl × Env)}
theorem pss_nilM : PSs X [] (sM X.K F fun env A => .ok (.nx, env) A) := pss_nil.imp fun D σ H h => by
  obtain ⟨P, ω, env, A, rfl, hr, er, o⟩ := h
  exact o.here hr σ er
theorem pss_consM (h1 : PS X st (sM X.K F f)) (h2 : PSs X rest (sM X.K F g)) : PSs X (st :: rest) (sM X.K F fun env A => bnd (f env A) fun q A => match q.1 with
    | .nx => g q.2 A
    | _ => .ok q A) := (pss_cons h1 h2).imp fun D σ H h => by
  obtain ⟨P, ω, env, A, rfl, hr, er, o⟩ := h
  refine ⟨P, ω, env, A, rfl, hr, er, o.bnd.imp fun q ω1 A1 l k hr1 o1 => ?_⟩
  obtain ⟨fl, env1⟩ := q
  cases fl with
  | nx => exact fun σ' er' => ⟨P, ω1, env1, A1, rfl, hr1, er', o1⟩
  | ct => exact fun σ' er' => o1.here hr1 σ' er'
  | bk => exact fun σ' er' => o1.here hr1 σ' er'
  | rt d => exact fun v rv => o1.here hr1 v rv
theorem ps_asgM {L : List Nat} {ga : D → Env → AH → Res Env} (he : PE X e (tM X.K F fe)) (hg : PG X tg (gM X.K F L ga)) (hs : swapsWithSole [tg] e pos.line X.env = pure false) (hw : swappedStores [tg] e X.env = pure none)
    (h1 : (assignEach [tg] X.env).map (·.2) = [assign tg X.env]) :
    PS X (.Assign [tg] e pos) (sM X.K F fun env A => bnd (fe env A) fun d A => bnd (ga d env A) fun env A => .ok (.nx, env) A) := (ps_asg he hg hs hw h1).imp fun D σ H h => by
  obtain ⟨P, ω, env, A, rfl, hr, er, o⟩ := h
  exact ⟨P, ω, env, A, rfl, hr, er, o.bnd.imp fun d ω1 A1 l k hr1 o1 v rv => ⟨P, ω1, env, A1, d, rfl, hr1, er.le l, rv, o1.bnd.imp fun env2 ω2 A2 l2 k2 hr2 o2 σ' er' _ => o2.here hr2 σ' er'⟩⟩
theorem ps_exM (he : PE X e (tM X.K F fe)) (hs : swapsWith e none pos.line X.env = pure false) : PS X (.Expr e pos) (sM X.K F fun env A => bnd (fe env A) fun _ A => .ok (.nx, env) A) := (ps_expr he hs).imp fun D σ H h => by
  obtain ⟨P, ω, env, A, rfl, hr, er, o⟩ := h
  exact ⟨P, ω, env, A, rfl, hr, er, o.bnd.imp fun d ω1 A1 l k hr1 o1 v rv => o1.here hr1 σ (er.le l)⟩
theorem ps_retM (he : PE X e (tM X.K F fe)) : PS X (.Return (some e) pos) (sM X.K F fun env A => bnd (fe env A) fun d A => .ok (.rt d, env) A) := (ps_ret he).imp fun D σ H h => by
  obtain ⟨P, ω, env, A, rfl, hr, er, o⟩ := h
  exact ⟨P, ω, env, A, rfl, hr, er, o.bnd.imp fun d ω1 A1 l k hr1 o1 v rv => o1.here hr1 v rv⟩
theorem ps_retNM : PS X (.Return none pos) (sM X.K F fun env A => .ok (.rt .non, env) A) := ps_retN.imp fun D σ H h => by
  obtain ⟨P, ω, env, A, rfl, hr, er, o⟩ := h
  exact o.here hr _ .non
theorem ps_passM : PS X (.Pass pos) (sM X.K F fun env A => .ok (.nx, env) A) := ps_pass.imp fun D σ H h => by
  obtain ⟨P, ω, env, A, rfl, hr, er, o⟩ := h
  exact o.here hr σ er
theorem ps_brkM : PS X (.Break pos) (sM X.K F fun env A => .ok (.bk, env) A) := ps_break.imp fun D σ H h => by
  obtain ⟨P, ω, env, A, rfl, hr, er, o⟩ := h
  exact o.here hr σ er
theorem ps_cntM : PS X (.Continue pos) (sM X.K F fun env A => .ok (.ct, env) A) := ps_continue.imp fun D σ H h => by
  obtain ⟨P, ω, env, A, rfl, hr, er, o⟩ := h
  exact o.here hr σ er
theorem ps_neverM : PS X st (sM X.K F fun _ _ => .bad) := ps_never.imp fun D σ H h => by
  obtain ⟨P, ω, env, A, rfl, hr, er, o⟩ := h
  exact o
theorem ps_iffM (hc : PT X c (tMb X.K F (fT fc))) (ha : PSs X body (sM X.K F f)) (hb : PSs X orelse (sM X.K F g)) : PS X (.If c body orelse pos) (sM X.K F fun env A => bnd (tst (fc env A)) fun t A => if t = true then f env A else g env A) := (ps_if hc ha hb).imp fun D σ H h => by
  obtain ⟨P, ω, env, A, rfl, hr, er, o⟩ := h
  refine ⟨P, ω, env, A, rfl, hr, er, o.bnd.imp fun t ω1 A1 l k hr1 o1 => ?_⟩
  cases t with
  | true => exact ⟨P, ω1, env, A1, rfl, hr1, er.le l, o1⟩
  | false => exact ⟨P, ω1, env, A1, rfl, hr1, er.le l, o1⟩
theorem ps_whlM {n : Nat} (hp : PassesOwn (model X.prog X.w) X.A X.env X.xe) (hc : PT X c (tMb X.K F (fT fc))) (hb : PSs X body (sM X.K F f)) :
    PS X (.While c body [] pos) (sM X.K F fun env A => whlL (fun env A => tst (fc env A)) f n env A) := (ps_while hp hc hb).imp fun D σ H h => by
  obtain ⟨P, ω, env, A, rfl, hr, er, o⟩ := h
  refine ⟨fun n σ H => ∃ ω env A, ω.H = H ∧ HR X.K F P ω A ∧ EnvR X.K F ω env σ ∧ Out X.K F P ω (whlL (fun env A => tst (fc env A)) f n env A) (finS X.K F D), ⟨n, ω, env, A, rfl, hr, er, o⟩, ?_⟩
  rintro n σ H ⟨ω, env, A, rfl, hr, er, o⟩
  cases n with
  | zero => exact o.elim
  | succ n =>
    refine ⟨P, ω, env, A, rfl, hr, er, o.bnd.imp fun t ω1 A1 l k hr1 o1 => ?_⟩
    cases t with
    | false => exact o1.here hr1 σ (er.le l)
    | true =>
      refine ⟨fun σ' H' => ∃ ω env A, ω.H = H' ∧ HR X.K F P ω A ∧ EnvR X.K F ω env σ' ∧ Out X.K F P ω (whlL (fun env A => tst (fc env A)) f n env A) (finS X.K F D), fun σ' H' q => ⟨n, Nat.lt_succ_self n, q⟩, P, ω1, env, A1, rfl, hr1, er.le l, o1.bnd.imp fun q ω2 A2 l2 k2 hr2 o2 => ?_⟩
      obtain ⟨fl, env2⟩ := q
      cases fl with
      | nx => exact fun σ' er' => ⟨ω2, env2, A2, rfl, hr2, er', o2⟩
      | ct => exact fun σ' er' => ⟨ω2, env2, A2, rfl, hr2, er', o2⟩
      | bk => exact fun σ' er' => o2.here hr2 σ' er'
      | rt d => exact fun v rv => o2.here hr2 v rv
theorem ps_forM {L : List Nat} {iter : Expr} {fi : Env → AH → Res (List D)} {ga : D → Env → AH → Res Env} (hp : PassesOwn (model X.prog X.w) X.A X.env X.xe) (hc : X.calm = true) (hi : PI X tg iter (iM X.K F fi)) (hg : PG X tg (gM X.K F L ga)) (hb : PSs X body (sM X.K F f))
    (hs : ∀ x, foldedSetIterable iter X.env x = pure x) : PS X (.For tg iter body [] pos) (sM X.K F fun env A => bnd (fi env A) fun xs A => forL ga f xs env A) := (ps_for hp hc hi hg hb hs).imp fun D σ H h => by
  obtain ⟨P, ω, env, A, rfl, hr, er, o⟩ := h
  refine ⟨P, ω, env, A, rfl, hr, er, o.bnd.imp fun xs ω1 A1 l k hr1 o1 J wk => ?_⟩
  let Pv : Nat → St → Hp → Prop := fun i σ H => ∃ ω' env' A', ω'.H = H ∧ Le ω1 ω' ∧ HR X.K F P ω' A' ∧ EnvR X.K F ω' env' σ ∧ Out X.K F P ω' (forL ga f (xs.drop i) env' A') (finS X.K F D)
  refine ⟨fun i m σ H => m = xs.length - i ∧ i ≤ xs.length ∧ Pv i σ H, ⟨xs.length, by simp, Nat.zero_le _, ω1, env, A1, rfl, Le.refl _, hr1, er.le l, by simpa using o1⟩, ?_⟩
  rintro i n σ' H ⟨rfl, hi, ω', env', A', rfl, l', hr', er', o'⟩
  by_cases hlt : i < xs.length
  · refine .inr ⟨wk.goes ω' l' i hlt, Pv (i + 1), fun σ' H' p' => ⟨xs.length - (i + 1), by omega, rfl, hlt, p'⟩, fun x H' y => ?_⟩
    obtain ⟨d, ω3, hd, rfl, l3, k3, hr3, rd⟩ := wk.yields P ω' A' i x H' l' hr' hlt y
    have hdrop : xs.drop i = d :: xs.drop (i + 1) := by
      have e1 := List.drop_eq_getElem_cons hlt
      rw [List.getElem?_eq_getElem hlt] at hd
      rw [e1, Option.some.inj hd]
    rw [hdrop] at o'
    have o3 := Out.le l3 k3 o'
    refine ⟨P, ω3, env', A', d, rfl, hr3, er'.le l3, rd, o3.bnd.imp fun env1 ω4 A2 l4 k4 hr4 o4 σ4 er4 _ => ⟨P, ω4, env1, A2, rfl, hr4, er4, o4.bnd.imp fun q ω5 A3 l5 k5 hr5 o5 => ?_⟩⟩
    have l15 := ((l'.trans l3).trans l4).trans l5
    obtain ⟨fl, env5⟩ := q
    cases fl with
    | nx => exact fun σ5 er5 => ⟨ω5, env5, A3, rfl, l15, hr5, er5, o5⟩
    | ct => exact fun σ5 er5 => ⟨ω5, env5, A3, rfl, l15, hr5, er5, o5⟩
    | bk => exact fun σ5 er5 => o5.here hr5 σ5 er5
    | rt d => exact fun v rv => o5.here hr5 v rv
  · have e : i = xs.length := by omega
    subst e
    rw [List.drop_length] at o'
    exact .inl ⟨wk.stops ω' l', o'.here hr' σ' er'⟩

/-! ### two, three names at once -/
theorem ps_par2M {i j : Nat} {x y : Str} {px py pt : Pos} {kt k2 pt2} {fs : Env → AH → Res (List D)} (hc : X.calm = true) (hN : X.N.Nodup) (hi : X.N[i]? = some x) (hj : X.N[j]? = some y) (hij : i ≠ j)
    (hx : X.env.scope.names.lookup x = some .local) (hy : X.env.scope.names.lookup y = some .local) (ha : PA X [a, b] (tMs X.K F fs))
    (hw : swappedStores [.Tuple [.Name x px, .Name y py] kt pt] (.Tuple [a, b] k2 pt2) X.env = pure (some [x, y]))
    (hs : swapsWithSole [.Tuple [.Name x px, .Name y py] kt pt] (.Tuple [a, b] k2 pt2) pos.line X.env = pure false) (hl : ∀ env A ds A', fs env A = .ok ds A' → ds.length = 2) :
    PS X (.Assign [.Tuple [.Name x px, .Name y py] kt pt] (.Tuple [a, b] k2 pt2) pos) (sM X.K F fun env A => bnd (fs env A) fun ds A => if ds.length = [i, j].length then .ok (.nx, setPar [i, j] ds env) A else .bad) := by
  refine PS.imp (t := tPar i j (tMs X.K F fs)) (by first | exact ps_par hc hN hi hj hij hx hy ha hw hs | exact ps_par hc hN hi hj hij hx hy ha hs hw | exact ps_par hc hN hi hj hij hx hy ha hw) fun D σ H h => ?_
  obtain ⟨P, ω, env, A, rfl, hr, er, o⟩ := h
  refine ⟨P, ω, env, A, rfl, hr, er, ?_⟩
  cases e : fs env A with
  | ok ds A' =>
    dsimp only at o
    rw [e] at o
    have el := hl _ _ _ _ e
    intro ω1 l k hr1 vs rvs
    match ds, vs, rvs, el with
    | [d1, d2], _, .cons (v := v1) r1 (.cons (v := v2) r2 .nil), _ =>
      exact ⟨v1, v2, rfl, (Out.le l k o).here hr1 _ (((er.le l).set i r1).set j r2)⟩
  | exc _ _ _ => dsimp only at o; rw [e] at o; exact o.elim
  | bad => dsimp only at o; rw [e] at o; exact o.elim
theorem ps_par3M {i j n : Nat} {x y z : Str} {px py pz pt : Pos} {kt k2 pt2} {fs : Env → AH → Res (List D)} (hc : X.calm = true) (hN : X.N.Nodup) (hi : X.N[i]? = some x) (hj : X.N[j]? = some y) (hn : X.N[n]? = some z) (hij : i ≠ j) (hin : i ≠ n) (hjn : j ≠ n)
    (hx : X.env.scope.names.lookup x = some .local) (hy : X.env.scope.names.lookup y = some .local) (hz : X.env.scope.names.lookup z = some .local) (ha : PA X [a, b, c] (tMs X.K F fs))
    (hw : swappedStores [.Tuple [.Name x px, .Name y py, .Name z pz] kt pt] (.Tuple [a, b, c] k2 pt2) X.env = pure (some [x, y, z]))
    (hs : swapsWithSole [.Tuple [.Name x px, .Name y py, .Name z pz] kt pt] (.Tuple [a, b, c] k2 pt2) pos.line X.env = pure false) (hl : ∀ env A ds A', fs env A = .ok ds A' → ds.length = 3) :
    PS X (.Assign [.Tuple [.Name x px, .Name y py, .Name z pz] kt pt] (.Tuple [a, b, c] k2 pt2) pos) (sM X.K F fun env A => bnd (fs env A) fun ds A => if ds.length = [i, j, n].length then .ok (.nx, setPar [i, j, n] ds env) A else .bad) := by
  refine PS.imp (t := tPar3 i j n (tMs X.K F fs)) (ps_par3 hc hN hi hj hn hij hin hjn hx hy hz ha hw hs) fun D σ H h => ?_
  obtain ⟨P, ω, env, A, rfl, hr, er, o⟩ := h
  refine ⟨P, ω, env, A, rfl, hr, er, ?_⟩
  cases e : fs env A with
  | ok ds A' =>
    dsimp only at o
    rw [e] at o
    have el := hl _ _ _ _ e
    intro ω1 l k hr1 vs rvs
    match ds, vs, rvs, el with
    | [d1, d2, d3], _, .cons (v := v1) r1 (.cons (v := v2) r2 (.cons (v := v3) r3 .nil)), _ =>
      exact ⟨v1, v2, v3, rfl, (Out.le l k o).here hr1 _ ((((er.le l).set i r1).set j r2).set n r3)⟩
  | exc _ _ _ => dsimp only at o; rw [e] at o; exact o.elim
  | bad => dsimp only at o; rw [e] at o; exact o.elim
end

/-! ### an object is given up -/
section
variable {K : PySem.W.Frag} {F : Nat → Addr} {P : Addr → Prop} {ω : Wd} {A : AH}
theorem kill_get : ∀ (L : List Nat) (A : AH) (n : Nat), (killAll L A)[n]? = if n ∈ L then A[n]?.map (fun _ => O.dead) else A[n]?
  | [], A, n => by simp [killAll]
  | m :: L, A, n => by
    simp only [killAll]
    rw [kill_get L (A.set m .dead) n]
    by_cases e : m = n
    · subst e
      simp only [List.mem_cons, true_or, if_true]
      by_cases h : m < A.length
      · rw [List.getElem?_set_self h, List.getElem?_eq_getElem h]; split <;> rfl
      · rw [List.getElem?_eq_none (by simp; omega), List.getElem?_eq_none (by omega)]; split <;> rfl
    · rw [List.getElem?_set_ne e]
      have e' : ¬ n = m := fun z => e z.symm
      simp [e']
theorem kill_len : ∀ (L : List Nat) (A : AH), (killAll L A).length = A.length
  | [], _ => rfl
  | m :: L, A => by simp only [killAll]; rw [kill_len L]; simp
mutual
theorem Rep.atom {ω' : Wd} : ∀ {d : D} {v : V}, d.atom = true → Rep K F ω d v → Rep K F ω' d v
  | _, _, _, .non => .non
  | _, _, _, .bl b => .bl b
  | _, _, _, .int i => .int i
  | _, _, _, .str s h => .str s h
  | _, _, h, .tup _ _ _ => by simp [D.atom] at h
  | _, _, h, .lst _ _ _ => by simp [D.atom] at h
  | _, _, h, .kl _ _ _ => by simp [D.atom] at h
  | _, _, h, .dk _ _ _ => by simp [D.atom] at h
  | _, _, h, .dt _ _ _ => by simp [D.atom] at h
  | _, _, h, .ref _ => by simp [D.atom] at h
  | _, _, h, .fn _ => by simp [D.atom] at h
  | _, _, h, .ty _ => by simp [D.atom] at h
end
theorem Reps.atom {ω' : Wd} : ∀ {d : List D} {v : List V}, d.all D.atom = true → Reps K F ω d v → Reps K F ω' d v
  | _, _, _, .nil => .nil
  | _, _, h, .cons r rs => by
    simp only [List.all_cons, Bool.and_eq_true] at h
    exact .cons (r.atom h.1) (Reps.atom h.2 rs)
/-- what fz makes, in a world that knows less of what changes -/
theorem fzL_rep {f : D → Option (D × List Nat)} {m' : List Addr} {W' : Addr → Prop} (hf : ∀ d v d' L, f d = some (d', L) → (∀ n ∈ L, ∀ a, ω.m[n]? = some a → ¬ W' a) → Rep K F ω d v → Rep K F ⟨m', W', ω.H⟩ d' v) :
    ∀ {xs : List D} {vs : List V} {ys : List D} {L : List Nat}, fzL f xs = some (ys, L) → (∀ n ∈ L, ∀ a, ω.m[n]? = some a → ¬ W' a) → Reps K F ω xs vs → Reps K F ⟨m', W', ω.H⟩ ys vs
  | [], _, ys, L, h, hL, .nil => by simp [fzL] at h; obtain ⟨rfl, rfl⟩ := h; exact .nil
  | x :: xs, _, ys, L, h, hL, .cons r rs => by
    simp only [fzL] at h
    cases e1 : f x with
    | none => rw [e1] at h; cases h
    | some q =>
      cases e2 : fzL f xs with
      | none => rw [e1, e2] at h; cases h
      | some q2 =>
        obtain ⟨d, l⟩ := q
        obtain ⟨ds, ls⟩ := q2
        rw [e1, e2] at h
        cases h
        exact .cons (hf x _ d l e1 (fun n hn => hL n (List.mem_append_left _ hn)) r) (fzL_rep hf e2 (fun n hn => hL n (List.mem_append_right _ hn)) rs)
theorem fzL_len {f : D → Option (D × List Nat)} : ∀ {xs ys : List D} {L : List Nat}, fzL f xs = some (ys, L) → ys.length = xs.length
  | [], ys, L, h => by simp [fzL] at h; obtain ⟨rfl, rfl⟩ := h; rfl
  | x :: xs, ys, L, h => by
    simp only [fzL] at h
    cases e1 : f x with
    | none => rw [e1] at h; cases h
    | some q =>
      cases e2 : fzL f xs with
      | none => rw [e1, e2] at h; cases h
      | some q2 =>
        obtain ⟨d, l⟩ := q
        obtain ⟨ds, ls⟩ := q2
        rw [e1, e2] at h
        cases h
        simp [fzL_len e2]
theorem fz_rep (hr : HR K F P ω A) {m' : List Addr} {W' : Addr → Prop} (hW : ∀ a, W' a → ω.W a) : ∀ (k : Nat) (d : D) (v : V) (d' : D) (L : List Nat), fz A k d = some (d', L) → (∀ n ∈ L, ∀ a, ω.m[n]? = some a → ¬ W' a) → Rep K F ω d v → Rep K F ⟨m', W', ω.H⟩ d' v
  | 0, d, v, d', L, h, _, _ => by simp [fz] at h
  | k + 1, d, v, d', L, h, hL, r => by
    have ih := fun {xs vs ys L} => fzL_rep (xs := xs) (vs := vs) (ys := ys) (L := L) (fz_rep hr hW (m' := m') k)
    have st : ∀ {a u}, Stl ω a u → Stl ⟨m', W', ω.H⟩ a u := fun q => ⟨fun z => q.1 (hW _ z), q.2⟩
    cases r with
    | non => cases h; exact .non
    | bl b => cases h; exact .bl b
    | int i => cases h; exact .int i
    | str s hs => cases h; exact .str s hs
    | fn i => cases h; exact .fn i
    | ty t => cases h; exact .ty t
    | kl s l rs =>
      simp only [fz, Option.map_eq_some_iff] at h
      obtain ⟨⟨ys, L'⟩, h1, h2⟩ := h
      cases h2
      exact .kl (s.imp st id) l (ih h1 hL rs)
    | tup s l rs =>
      simp only [fz, Option.map_eq_some_iff] at h
      obtain ⟨⟨ys, L'⟩, h1, h2⟩ := h
      cases h2
      exact .tup s l (ih h1 hL rs)
    | lst s l rs =>
      simp only [fz, Option.map_eq_some_iff] at h
      obtain ⟨⟨ys, L'⟩, h1, h2⟩ := h
      cases h2
      exact .lst (st s) l (ih h1 hL rs)
    | dk s l rs =>
      simp only [fz, Option.map_eq_some_iff] at h
      obtain ⟨⟨ys, L'⟩, h1, h2⟩ := h
      cases h2
      exact .dk (st s) (l.trans (fzL_len h1).symm) (ih h1 hL rs)
    | dt s l rs =>
      simp only [fz, Option.map_eq_some_iff] at h
      obtain ⟨⟨ys, L'⟩, h1, h2⟩ := h
      cases h2
      exact .dt (st s) (l.trans (fzL_len h1).symm) (ih h1 hL rs)
    | ref hm =>
      rename_i n a
      simp only [fz] at h
      cases e : A[n]? with
      | none => rw [e] at h; cases h
      | some o =>
        rw [e] at h
        have q := hr.obj n o a e hm
        cases o with
        | lst xs =>
          obtain ⟨vs, h1, h2, h3⟩ := q
          simp only [Option.map_eq_some_iff] at h
          obtain ⟨⟨ys, L'⟩, g1, g2⟩ := h
          cases g2
          exact .lst ⟨hL n List.mem_cons_self a hm, .inl h1⟩ h2 (ih g1 (fun n' hn' => hL n' (List.mem_cons_of_mem _ hn')) h3)
        | dk ks xs =>
          obtain ⟨vs, h1, h2, h3⟩ := q
          simp only [Option.map_eq_some_iff] at h
          obtain ⟨⟨ys, L'⟩, g1, g2⟩ := h
          cases g2
          exact .dk ⟨hL n List.mem_cons_self a hm, .inl h1⟩ (h2.trans (fzL_len g1).symm) (ih g1 (fun n' hn' => hL n' (List.mem_cons_of_mem _ hn')) h3)
        | dt ks xs =>
          obtain ⟨vs, h1, h2, h3⟩ := q
          simp only [Option.map_eq_some_iff] at h
          obtain ⟨⟨ys, L'⟩, g1, g2⟩ := h
          cases g2
          exact .dt ⟨hL n List.mem_cons_self a hm, .inl h1⟩ (h2.trans (fzL_len g1).symm) (ih g1 (fun n' hn' => hL n' (List.mem_cons_of_mem _ hn')) h3)
        | dead => cases h
end
end Ev

set_option maxRecDepth 100000
/-! Ev11: objects given up: at a ghost step, at a def's end -/
namespace Ev
open PySem PySem.Spec L2
section
variable {K : PySem.W.Frag} {F : Nat → Addr} {P : Addr → Prop} {ω ω2 : Wd} {A A2 : AH}
/-- what still may change, by A -/
abbrev Live (P : Addr → Prop) (m : List Addr) (A : AH) : Addr → Prop := fun a => P a ∨ ∃ (n : Nat) (o : O), m[n]? = some a ∧ A[n]? = some o ∧ o ≠ O.dead
abbrev Wd.kill (ω : Wd) (P : Addr → Prop) (A' : AH) : Wd := { ω with W := Live P ω.m A' }
theorem kill_live {L : List Nat} {n : Nat} {o : O} (h : (killAll L A)[n]? = some o) (hd : o ≠ O.dead) : n ∉ L ∧ A[n]? = some o := by
  rw [kill_get] at h
  by_cases hn : n ∈ L
  · rw [if_pos hn] at h
    cases e : A[n]? with
    | none => rw [e] at h; cases h
    | some q => rw [e] at h; cases h; exact absurd rfl hd
  · rw [if_neg hn] at h; exact ⟨hn, h⟩
theorem kill_W (h : HR K F P ω A) {L : List Nat} {a : Addr} (z : (ω.kill P (killAll L A)).W a) : ω.W a := by
  rcases z with z | ⟨n, o, q1, q2, q3⟩
  · exact (h.ex a).mpr (.inl z)
  · exact (h.ex a).mpr (.inr ⟨n, o, q1, (kill_live q2 q3).2, q3⟩)
theorem Le.kill (h : HR K F P ω A) (L : List Nat) : Le ω (ω.kill P (killAll L A)) :=
  ⟨List.prefix_refl _, fun a _ z q => z (kill_W h q), fun _ _ _ r => r, fun _ z => z, fun _ _ e => e⟩
theorem HR.kill (h : HR K F P ω A) (L : List Nat) : HR K F P (ω.kill P (killAll L A)) (killAll L A) :=
  ⟨by rw [kill_len]; exact h.len, h.nd, h.trk, h.sep, h.ptrk, fun _ => Iff.rfl, fun n o a ho hm => by
    by_cases e : o = O.dead
    · subst e; trivial
    · exact (h.obj n o a (kill_live ho e).2 hm).le (Le.kill h L) rfl⟩
theorem Rep.kill (h : HR K F P ω A) {k : Nat} {d d' : D} {L : List Nat} {v : V} (e : fz A k d = some (d', L)) (r : Rep K F ω d v) : Rep K F (ω.kill P (killAll L A)) d' v := by
  refine fz_rep h (W' := Live P ω.m (killAll L A)) (fun a z => kill_W h z) k d v d' L e (fun n hn a hm z => ?_) r
  rcases z with z | ⟨n', o, q1, q2, q3⟩
  · exact h.sep a z (List.mem_of_getElem? hm)
  · have e1 : n = n' := nodup_get h.nd hm q1
    subst e1
    exact (kill_live q2 q3).1 hn
/-- the ghost step -/
theorem frz_M {i : Nat} {g : Env → AH → Res (Fl × Env)} {D : Ends} {σ : St} {H : Hp} (h : sM K F (fun env A => bnd (match env[i]? with
    | some (some d) => match fz A 8 d with
      | some (d', L) => (.ok (.nx, env.set i (some d')) (killAll L A) : Res (Fl × Env))
      | none => .bad
    | _ => .bad) fun q A => match q.1 with
    | .nx => g q.2 A
    | _ => .ok q A) D σ H) : sM K F g D σ H := by
  obtain ⟨P, ω, env, A, rfl, hr, er, o⟩ := h
  dsimp only at o
  split at o
  · rename_i d e1
    split at o
    · rename_i d' L e2
      refine ⟨P, ω.kill P (killAll L A), env.set i (some d'), killAll L A, rfl, hr.kill L, ⟨?_, fun j e hj => ?_⟩, Out.le (Le.kill hr L) (fun _ _ => rfl) o⟩
      · rw [List.length_set]; exact er.len
      · by_cases hij : i = j
        · subst hij
          have hl : i < env.length := (List.getElem?_eq_some_iff.mp e1).1
          rw [List.getElem?_set_self hl] at hj
          cases hj
          obtain ⟨v, h1, h2⟩ := er.at' i d e1
          exact ⟨v, h1, h2.kill hr e2⟩
        · rw [List.getElem?_set_ne hij] at hj
          exact (er.le (Le.kill hr L)).at' j e hj
    · exact o.elim
  · exact o.elim

/-! ### the end of a def -/
mutual
/-- the objects that d names are among the first k -/
def D.rl (k : Nat) : D → Bool
  | .ref n => decide (n < k)
  | .tup xs => D.rls k xs
  | .lst xs => D.rls k xs
  | .kl xs => D.rls k xs
  | .dk _ xs => D.rls k xs
  | .dt _ xs => D.rls k xs
  | _ => true
def D.rls (k : Nat) : List D → Bool
  | [] => true
  | x :: xs => D.rl k x && D.rls k xs
end
mutual
theorem Rep.rl : ∀ {d : D} {v : V}, Rep K F ω d v → D.rl ω.m.length d = true
  | _, _, .non => rfl
  | _, _, .bl b => rfl
  | _, _, .int i => rfl
  | _, _, .str s h => rfl
  | _, _, .tup _ _ r => by simp only [D.rl]; exact Reps.rl r
  | _, _, .lst _ _ r => by simp only [D.rl]; exact Reps.rl r
  | _, _, .kl _ _ r => by simp only [D.rl]; exact Reps.rl r
  | _, _, .dk _ _ r => by simp only [D.rl]; exact Reps.rl r
  | _, _, .dt _ _ r => by simp only [D.rl]; exact Reps.rl r
  | _, _, .ref h => by simp only [D.rl]; exact decide_eq_true (List.getElem?_eq_some_iff.mp h).1
  | _, _, .fn i => rfl
  | _, _, .ty t => rfl
theorem Reps.rl : ∀ {d : List D} {v : List V}, Reps K F ω d v → D.rls ω.m.length d = true
  | _, _, .nil => rfl
  | _, _, .cons r rs => by simp only [D.rls, Bool.and_eq_true]; exact ⟨Rep.rl r, Reps.rl rs⟩
end
/-- fewer objects -/
abbrev Wd.less (ω : Wd) (k : Nat) (P : Addr → Prop) (A : AH) : Wd := { ω with m := ω.m.take k, W := Live P (ω.m.take k) (A.take k) }
theorem take_get {α : Type} {l : List α} {k n : Nat} {x : α} (h : (l.take k)[n]? = some x) : n < k ∧ l[n]? = some x := by
  rw [List.getElem?_take] at h
  split at h
  · exact ⟨by assumption, h⟩
  · cases h
theorem less_W (h : HR K F P ω A) {k : Nat} {a : Addr} (z : (ω.less k P A).W a) : ω.W a := by
  rcases z with z | ⟨n, o, q1, q2, q3⟩
  · exact (h.ex a).mpr (.inl z)
  · exact (h.ex a).mpr (.inr ⟨n, o, (take_get q1).2, (take_get q2).2, q3⟩)
mutual
theorem Rep.less {k : Nat} {m' : List Addr} {W' : Addr → Prop} (hm : m' = ω.m.take k) (hW : ∀ a, W' a → ω.W a) : ∀ {d : D} {v : V}, D.rl k d = true → Rep K F ω d v → Rep K F ⟨m', W', ω.H⟩ d v
  | _, _, _, .non => .non
  | _, _, _, .bl b => .bl b
  | _, _, _, .int i => .int i
  | _, _, _, .str s h => .str s h
  | _, _, e, .tup h z r => .tup h z (Reps.less hm hW (by simpa only [D.rl] using e) r)
  | _, _, e, .lst h z r => .lst ⟨fun q => h.1 (hW _ q), h.2⟩ z (Reps.less hm hW (by simpa only [D.rl] using e) r)
  | _, _, e, .kl h z r => .kl (h.imp (fun h => ⟨fun q => h.1 (hW _ q), h.2⟩) id) z (Reps.less hm hW (by simpa only [D.rl] using e) r)
  | _, _, e, .dk h z r => .dk ⟨fun q => h.1 (hW _ q), h.2⟩ z (Reps.less hm hW (by simpa only [D.rl] using e) r)
  | _, _, e, .dt h z r => .dt ⟨fun q => h.1 (hW _ q), h.2⟩ z (Reps.less hm hW (by simpa only [D.rl] using e) r)
  | .ref n, _, e, .ref h => .ref (by
      have e1 : n < k := by simpa only [D.rl, decide_eq_true_eq] using e
      show m'[n]? = _
      rw [hm, List.getElem?_take_of_lt e1]; exact h)
  | _, _, _, .fn i => .fn i
  | _, _, _, .ty t => .ty t
theorem Reps.less {k : Nat} {m' : List Addr} {W' : Addr → Prop} (hm : m' = ω.m.take k) (hW : ∀ a, W' a → ω.W a) : ∀ {d : List D} {v : List V}, D.rls k d = true → Reps K F ω d v → Reps K F ⟨m', W', ω.H⟩ d v
  | _, _, _, .nil => .nil
  | _, _, e, .cons r rs => by
    simp only [D.rls, Bool.and_eq_true] at e
    exact .cons (Rep.less hm hW e.1 r) (Reps.less hm hW e.2 rs)
end
theorem Le.less (hr : HR K F P ω A) (hr2 : HR K F P ω2 A2) (l : Le ω ω2) : Le ω (ω2.less A.length P A2) := by
  refine ⟨?_, fun a h z q => l.keepW a h z (less_W hr2 q), l.rd, l.trk, l.tup⟩
  obtain ⟨t, e⟩ := l.m
  show ω.m <+: ω2.m.take A.length
  rw [← e, ← hr.len, List.take_left]
  exact List.prefix_refl _
theorem oldOk_at : ∀ {A A2 : AH}, oldOk A A2 = true → ∀ (n : Nat) (o : O), n < A.length → A2[n]? = some o → A[n]? = some o ∨ o.flat = true
  | [], _, _, n, _, h, _ => by simp at h
  | _ :: _, [], h, _, _, _, _ => by simp [oldOk] at h
  | a :: A, b :: A2, h, 0, o, _, h2 => by
    simp only [oldOk, Bool.and_eq_true, Bool.or_eq_true, decide_eq_true_eq] at h
    simp only [List.getElem?_cons_zero, Option.some.injEq] at h2 ⊢
    subst h2
    exact h.1.imp (fun e => e.symm) id
  | a :: A, b :: A2, h, n + 1, o, hn, h2 => by
    simp only [oldOk, Bool.and_eq_true] at h
    simp only [List.getElem?_cons_succ] at h2 ⊢
    exact oldOk_at h.2 n o (by simpa using hn) h2
theorem flat_lst {o : List D} : (O.lst o).flat = true → o.all D.atom = true := id
theorem HR.less (hr : HR K F P ω A) (hr2 : HR K F P ω2 A2) (l : Le ω ω2) (ho : oldOk A A2 = true) : HR K F P (ω2.less A.length P A2) (A2.take A.length) := by
  have hl : ω.m.length ≤ ω2.m.length := l.m.length_le
  have hl2 : A.length ≤ A2.length := by rw [← hr.len, ← hr2.len]; exact hl
  refine ⟨?_, hr2.nd.sublist (List.take_sublist _ _), fun a ha => hr2.trk a (List.mem_of_mem_take ha), fun a ha z => hr2.sep a ha (List.mem_of_mem_take z), hr2.ptrk, fun _ => Iff.rfl, fun n o a ho' hm' => ?_⟩
  · show (ω2.m.take A.length).length = _
    rw [List.length_take, List.length_take, hr2.len]
  · obtain ⟨hn, hm⟩ := take_get hm'
    have ha2 := (take_get ho').2
    have q := hr2.obj n o a ha2 hm
    have sub : ∀ {xs : List D} {vs : List V}, (xs.all D.atom = true ∨ D.rls A.length xs = true) → Reps K F ω2 xs vs → Reps K F (ω2.less A.length P A2) xs vs := fun {xs vs} h r => by
      rcases h with h | h
      · exact Reps.atom h r
      · exact Reps.less rfl (fun a z => less_W hr2 z) h r
    have was := oldOk_at ho n o hn ha2
    have rlOf : A[n]? = some o → RepO K F ω o a := fun e => by
      have hmn : ω.m[n]? = some a := by
        obtain ⟨t, e2⟩ := l.m
        have hn' : n < ω.m.length := by rw [hr.len]; exact hn
        rw [← e2, List.getElem?_append_left hn'] at hm
        exact hm
      exact hr.obj n o a e hmn
    cases o with
    | lst xs =>
      obtain ⟨vs, h1, h2, h3⟩ := q
      refine ⟨vs, h1, h2, sub (was.elim (fun e => .inr ?_) .inl) h3⟩
      obtain ⟨us, _, _, r⟩ := rlOf e
      rw [← hr.len]; exact r.rl
    | dk ks xs =>
      obtain ⟨vs, h1, h2, h3⟩ := q
      refine ⟨vs, h1, h2, sub (was.elim (fun e => .inr ?_) .inl) h3⟩
      obtain ⟨us, _, _, r⟩ := rlOf e
      rw [← hr.len]; exact r.rl
    | dt ks xs =>
      obtain ⟨vs, h1, h2, h3⟩ := q
      refine ⟨vs, h1, h2, sub (was.elim (fun e => .inr ?_) .inl) h3⟩
      obtain ⟨us, _, _, r⟩ := rlOf e
      rw [← hr.len]; exact r.rl
    | dead => trivial
/-- a def's result -/
theorem finish_M {m : Bool} {d : D} {v : V} {Q : VK} (hr : HR K F P ω A) (l : Le ω ω2) (k : Pk P ω ω2) (hr2 : HR K F P ω2 A2) (rd : Rep K F ω2 d v) (o : Out K F P ω (finish m A d A2) (fin K F Q)) : Q v ω2.H := by
  cases m with
  | false => exact o ω2 l k hr2 v rd
  | true =>
    unfold finish at o
    rw [if_pos rfl] at o
    split at o
    · rename_i d' L e
      split at o
      · rename_i c
        rw [Bool.and_eq_true] at c
        obtain ⟨c1, c2⟩ := c
        refine o (ω2.less A.length P A2) (Le.less hr hr2 l) k (hr.less hr2 l c2) v ?_
        refine fz_rep hr2 (fun a z => less_W hr2 z) 8 d v d' L e (fun n hn a hm z => ?_) rd
        have hn' : A.length ≤ n := of_decide_eq_true (List.all_eq_true.mp c1 n hn)
        rcases z with z | ⟨n', o', q1, q2, q3⟩
        · exact hr2.sep a z (List.mem_of_getElem? hm)
        · obtain ⟨h1, h2⟩ := take_get q1
          have e1 : n = n' := nodup_get hr2.nd hm h2
          omega
      · exact o.elim
    · exact o.elim
end
end Ev

set_option maxRecDepth 100000
set_option maxHeartbeats 1000000
/-! EvZ2: zip of three, by the layer and by the evaluator; list(x) as an object -/
namespace Ev
open PySem PySem.Spec PyProof.Rows L2
section
variable {prog : Program} {w : World} {A : Around} {E : Value → Shared → Prop} {s : Shared}
theorem call_z3 {k1 k2 k3 : Sk} {l1 l2 l3 : Addr} {xs ys zs : Array Value} {Q : Value → Shared → Prop} (hl1 : SSq k1 s.heap l1 xs) (hl2 : SSq k2 s.heap l2 ys) (hl3 : SSq k3 s.heap l3 zs)
    (h : ∀ h', IsZip h' (s.heap.objs.size + 5) (s.heap.objs.size + 3) (s.heap.objs.size + 4) .none → IsTri h' (s.heap.objs.size + 3) (.ref s.heap.objs.size) (.ref (s.heap.objs.size + 1)) (.ref (s.heap.objs.size + 2)) →
      IsTri h' (s.heap.objs.size + 4) .none .none .none → SIt k1 h' s.heap.objs.size l1 0 → SIt k2 h' (s.heap.objs.size + 1) l2 0 → SIt k3 h' (s.heap.objs.size + 2) l3 0 →
      (∀ c o, s.heap.get? c = some o → h'.get? c = some o) → Q (.ref (s.heap.objs.size + 5)) { s with heap := h' }) :
    wpAny (model prog w) A (call (.type "zip") [.ref l1, .ref l2, .ref l3]) Q E s := by
  refine callType_new F.called_zip (by decide) (tc_zip_3 _ _ _) (nc_zip_3 _ _ _) (fun obj => args_object_init_4 obj _ _ _) F.entry_zip_new
    (meets_z3 k1 k2 k3 l1 l2 l3 xs ys zs) ⟨hl1, hl2, hl3, ?_⟩
  have z1 : (zA k1 s.heap l1).objs.size = s.heap.objs.size + 1 := Heap.size_push ..
  have z2 : (zB k1 k2 s.heap l1 l2).objs.size = s.heap.objs.size + 2 := by rw [Heap.size_push, z1]
  have z3 : (zC k1 k2 k3 s.heap l1 l2 l3).objs.size = s.heap.objs.size + 3 := by rw [Heap.size_push, z2]
  have z4 : (zD k1 k2 k3 s.heap l1 l2 l3).objs.size = s.heap.objs.size + 4 := by rw [Heap.size_push, z3]
  have z5 : (zE k1 k2 k3 s.heap l1 l2 l3).objs.size = s.heap.objs.size + 5 := by rw [Heap.size_push, z4]
  have up : ∀ {h : Heap} {o' : Obj} {c : Addr} {o : Obj}, h.get? c = some o → (h.push o').get? c = some o := fun e => Heap.get?_push_of_some _ e
  have g6 : (zF k1 k2 k3 s.heap l1 l2 l3).get? (zE k1 k2 k3 s.heap l1 l2 l3).objs.size = some _ := Heap.get?_push_size _ rfl
  have g5 : (zF k1 k2 k3 s.heap l1 l2 l3).get? (zD k1 k2 k3 s.heap l1 l2 l3).objs.size = some _ := up (Heap.get?_push_size _ rfl)
  have g4 : (zF k1 k2 k3 s.heap l1 l2 l3).get? (zC k1 k2 k3 s.heap l1 l2 l3).objs.size = some _ := up (up (Heap.get?_push_size _ rfl))
  have g3 : (zF k1 k2 k3 s.heap l1 l2 l3).get? (zB k1 k2 s.heap l1 l2).objs.size = some (zI k3 l3) := up (up (up (Heap.get?_push_size _ rfl)))
  have g2 : (zF k1 k2 k3 s.heap l1 l2 l3).get? (zA k1 s.heap l1).objs.size = some (zI k2 l2) := up (up (up (up (Heap.get?_push_size _ rfl))))
  have g1 : (zF k1 k2 k3 s.heap l1 l2 l3).get? s.heap.objs.size = some (zI k1 l1) := up (up (up (up (up (Heap.get?_push_size _ rfl)))))
  show _ ∧ _
  rw [z3, z4, z5] at g6
  rw [z4] at g5
  rw [z1, z2, z3] at g4
  rw [z2] at g3
  rw [z1] at g2
  rw [z5]
  have it : ∀ {k : Sk} {h : Heap} {c l : Addr}, h.get? c = some (zI k l) → SIt k h c l 0 := fun {k h c l} e => by
    cases k with
    | l => exact ⟨_, e, rfl, rfl⟩
    | t => exact ⟨_, e, rfl, rfl⟩
  exact ⟨⟨_, g6, rfl⟩, h _ g6 g4 g5 (it g1) (it g2) (it g3) fun c o x => up (up (up (up (up (up x)))))⟩
end
theorem Inv_inj {X : Cx} {pins : List (Addr × Obj)} {σ : St} {H : Hp} {s : Shared} {k : Sk} {a : Addr} {xs ys : List V} (I : Inv X pins σ H s) (h : SqK X.K k H a xs) (h' : SqK X.K k H a ys) : xs = ys := by
  cases k with
  | l => exact I.list_inj h h'
  | t => exact I.tuple_inj h h'
/-- three sources as they stand at each turn -/
def Itz3 (K : PySem.W.Frag) (k1 k2 k3 : Sk) (a b c : Addr) : It :=
  ⟨fun i H => ∃ (xs ys zs : List V) (x y z : V), SqK K k1 H a xs ∧ SqK K k2 H b ys ∧ SqK K k3 H c zs ∧ xs[i]? = some x ∧ ys[i]? = some y ∧ zs[i]? = some z,
    fun i H v H' => ∃ T x y z, v = .ref T ∧ H T = none ∧ H' = upd H T (.tup [x, y, z]) ∧ (∀ xs, SqK K k1 H a xs → xs[i]? = some x) ∧ (∀ ys, SqK K k2 H b ys → ys[i]? = some y) ∧ ∀ zs, SqK K k3 H c zs → zs[i]? = some z,
    fun i H => ∃ xs ys zs : List V, SqK K k1 H a xs ∧ SqK K k2 H b ys ∧ SqK K k3 H c zs ∧ (xs.length ≤ i ∨ ys.length ≤ i ∨ zs.length ≤ i)⟩
theorem turn_z3 {P : Program} {w : World} {K : PySem.W.Frag} {elts : List Expr} {kk : Nat} {tpos : Pos} {k1 k2 k3 : Sk} {a b c z TI TO i1 i2 i3 : Addr} (D : Ap3 z TI TO i1 i2 i3 a b c) :
    Turn P w K (.Tuple elts kk tpos) (Itz3 K k1 k2 k3 a b c) [z, TI, TO, i1, i2, i3] z (fun i h => IsZip h z TI TO .none ∧ IsTri h TI (.ref i1) (.ref i2) (.ref i3) ∧ (∃ x y u, IsTri h TO x y u) ∧ SIt k1 h i1 a i ∧ SIt k2 h i2 b i ∧ SIt k3 h i3 c i) where
  mem := by simp
  obj := fun i h st c hc => by
    obtain ⟨hz, hTI, ⟨x, y, u, hTO⟩, h1, h2, h3⟩ := st
    have e' : c = z ∨ c = TI ∨ c = TO ∨ c = i1 ∨ c = i2 ∨ c = i3 := by simpa using hc
    rcases e' with q | q | q | q | q | q
    · rw [q]; exact ⟨_, hz, fun v q => nomatch q⟩
    · rw [q]; exact ⟨_, hTI, fun v q => nomatch q⟩
    · rw [q]; exact ⟨_, hTO, fun v q => nomatch q⟩
    · rw [q]; exact h1.get
    · rw [q]; exact h2.get
    · rw [q]; exact h3.get
  keep := fun i h h' st k => by
    obtain ⟨hz, hTI, ⟨x, y, u, hTO⟩, h1, h2, h3⟩ := st
    exact ⟨k z (by simp) _ hz, k TI (by simp) _ hTI, ⟨x, y, u, k TO (by simp) _ hTO⟩, h1.at fun o q => k i1 (by simp) o q, h2.at fun o q => k i2 (by simp) o q, h3.at fun o q => k i3 (by simp) o q⟩
  item := by
    intro X hP hw hK hc i pins s σ H E I hf st hg
    subst hP hw hK
    obtain ⟨hz, hTI, ⟨x0, y0, u0, hTO⟩, h1, h2, h3⟩ := st
    obtain ⟨xs, ys, zs, x, y, u, hqx, hqy, hqu, hx, hy, hu⟩ := hg
    obtain ⟨its, rv, p⟩ := Inv_sq I hqx
    obtain ⟨its2, rv2, p2⟩ := Inv_sq I hqy
    obtain ⟨its3, rv3, p3⟩ := Inv_sq I hqu
    obtain ⟨v1, hv1, ru1⟩ := rv.get hx
    obtain ⟨v2, hv2, ru2⟩ := rv2.get hy
    obtain ⟨v3, hv3, ru3⟩ := rv3.get hu
    have hzl : z < s.heap.objs.size := Heap.lt_size hz
    refine pyNext_z3_item D hz hTI hTO h1 h2 h3 p p2 p3 (x := v1) (y := v2) (u := v3) (by simpa using hv1) (by simpa using hv2) (by simpa using hv3) fun h' z' TO' h1' h2' h3' hT hsz hk => ?_
    refine ⟨_, rfl, wpAny_letOwnedTupleGo_zip (s := { s with heap := h' }) z' fun h'' z'' sb => ?_⟩
    have hT2 : h''.get? s.heap.objs.size = some { cls := .type "tuple", data := .seq #[v1, v2, v3] } := (sb.2 _ (Nat.ne_of_gt hzl)).trans hT
    have new : ObjOk X.prog X.w (upd H s.heap.objs.size (.tup [x, y, u])) h'' s.heap.objs.size (.tup [x, y, u]) :=
      ⟨by show 3 ≤ sizeLine; decide, [v1, v2, v3], .cons ru1 (.cons ru2 (.cons ru3 .nil)), ⟨_, hT2, rfl, _, rfl⟩⟩
    have I1 : Inv X pins σ (upd H s.heap.objs.size (.tup [x, y, u])) { s with heap := h'' } :=
      I.turnedNew (t' := s.toks) (ch := [z, TI, TO, i1, i2, i3]) (fun c o hb q => (sb.2 c (fun q' => hb (by simp [q']))).trans (hk c o (fun q' => hb (by simp [q'])) (fun q' => hb (by simp [q'])) (fun q' => hb (by simp [q'])) (fun q' => hb (by simp [q'])) (fun q' => hb (by simp [q'])) q)) hf (Nat.le_refl _) new
    refine ⟨.ref s.heap.objs.size, _, I1, rfl, ⟨_, x, y, u, rfl, I.hok.fresh (Nat.le_refl _), rfl, fun l hl => by rw [Inv_inj I hl hqx]; exact hx, fun l hl => by rw [Inv_inj I hl hqy]; exact hy, fun l hl => by rw [Inv_inj I hl hqu]; exact hu⟩, ⟨z'', ?_, ⟨v1, v2, v3, ?_⟩, ?_, ?_, ?_⟩, fun c hcm => ?_⟩
    · exact (sb.2 _ D.TIz).trans (hk _ _ D.TIz D.TITO D.TIi1 D.TIi2 D.TIi3 hTI)
    · exact (sb.2 _ D.TOz).trans TO'
    · exact h1'.at fun o q => (sb.2 _ D.i1z).trans q
    · exact h2'.at fun o q => (sb.2 _ D.i2z).trans q
    · exact h3'.at fun o q => (sb.2 _ D.i3z).trans q
    · have hlt : c < s.heap.objs.size := by
        have e' : c = z ∨ c = TI ∨ c = TO ∨ c = i1 ∨ c = i2 ∨ c = i3 := by simpa using hcm
        rcases e' with q | q | q | q | q | q
        · rw [q]; exact hzl
        · rw [q]; exact Heap.lt_size hTI
        · rw [q]; exact Heap.lt_size hTO
        · rw [q]; obtain ⟨_, e1, _⟩ := h1.get; exact Heap.lt_size e1
        · rw [q]; obtain ⟨_, e2, _⟩ := h2.get; exact Heap.lt_size e2
        · rw [q]; obtain ⟨_, e3, _⟩ := h3.get; exact Heap.lt_size e3
      rw [upd_ne (Nat.ne_of_lt hlt)]
      exact (hf c hcm).1
  done := by
    intro X hP hw hK hc i pins s σ H E I hf st hg
    subst hP hw hK
    obtain ⟨hz, hTI, ⟨x0, y0, u0, hTO⟩, h1, h2, h3⟩ := st
    obtain ⟨xs, ys, zs, hqx, hqy, hqu, hend⟩ := hg
    obtain ⟨its, rv, p⟩ := Inv_sq I hqx
    obtain ⟨its2, rv2, p2⟩ := Inv_sq I hqy
    obtain ⟨its3, rv3, p3⟩ := Inv_sq I hqu
    have l1 := rv.length
    have l2 := rv2.length
    have l3 := rv3.length
    have he : its.toArray[i]? = none ∨ its2.toArray[i]? = none ∨ its3.toArray[i]? = none := by
      rcases hend with q | q | q
      · exact .inl (by simp; omega)
      · exact .inr (.inl (by simp; omega))
      · exact .inr (.inr (by simp; omega))
    exact pyNext_z3_end (I.ok.hd hc) D hz hTI hTO h1 h2 h3 p p2 p3 he fun h' hk => ⟨rfl, I.turnedL (t' := s.toks) (ch := [z, TI, TO, i1, i2, i3]) (fun c o hb q =>
      hk c o (fun q' => hb (by simp [q'])) (fun q' => hb (by simp [q'])) (fun q' => hb (by simp [q'])) (fun q' => hb (by simp [q'])) (fun q' => hb (by simp [q'])) q) hf⟩
  self := fun A i s Q E st h => wpAny_pyIter_zip st.1 h
theorem ap3_new {n a b c : Nat} (ha : a < n) (hb : b < n) (hc : c < n) : Ap3 (n + 5) (n + 3) (n + 4) n (n + 1) (n + 2) a b c := by
  refine ⟨?_, ?_, ?_, ?_, ?_, ?_, ?_, ?_, ?_, ?_, ?_, ?_, ?_, ?_, ?_, fun l hl => ?_⟩
  all_goals (try (show (_ : Nat) ≠ _; omega))
  have hl : l < n := by rcases hl with e | e | e <;> (rw [e]; assumption)
  refine ⟨?_, ?_, ?_, ?_, ?_⟩ <;> first | exact Nat.ne_of_lt hl | exact Nat.ne_of_lt (Nat.lt_of_lt_of_le hl (Nat.le_add_right _ _))
def iZip3 (K : PySem.W.Frag) (ta : TA) : TI := fun σ H R => ta σ H fun vs H1 => ∃ k1 k2 k3 a b c xs ys zs, vs = [.ref a, .ref b, .ref c] ∧ SqK K k1 H1 a xs ∧ SqK K k2 H1 b ys ∧ SqK K k3 H1 c zs ∧ R (Itz3 K k1 k2 k3 a b c) H1
theorem pi_zip3 {X : Cx} {e e2 e3 : Expr} {ta : TA} {p pos tpos : Pos} {elts : List Expr} {kk : Nat} (hg : Gl X "zip") (hm : X.mg "zip" = none) (ha : PA X [e, e2, e3] ta)
    (hs : starEach [e, e2, e3] X.env = (false, eval e X.env) :: starEach [e2, e3] X.env) (hpl : (backTo pos (starEach [e2, e3] X.env)).any (·.1) = false) :
    PI X (.Tuple elts kk tpos) (.Call (.Name "zip" p) [e, e2, e3] [] pos) (iZip3 X.K ta) := by
  refine ⟨fun pins s σ H R I h => ?_⟩
  refine Call_ (ld_blt I hg hm PyProof.Rows.boot_zip (PyProof.Rows.callWith_type1 (thn (ha.run pos pins s σ H _ I h) fun us s1 ⟨vs, H1, I1, r1, q1⟩ => ?_) hs hpl))
  obtain ⟨k1, k2, k3, a, b, c, xs, ys, zs, ex, hqx, hqy, hqu, q⟩ := q1
  subst ex
  cases r1 with
  | cons r rr =>
    cases rr with
    | cons r' rr =>
      cases rr with
      | cons r'' rr =>
        cases rr
        cases r
        cases r'
        cases r''
        have fresh6 : ∀ c, c ∈ [s1.heap.objs.size + 5, s1.heap.objs.size + 3, s1.heap.objs.size + 4, s1.heap.objs.size, s1.heap.objs.size + 1, s1.heap.objs.size + 2] → FpOk X pins H1 c := fun c hcm => by
          have hle : s1.heap.objs.size ≤ c := by
            have e' : c = s1.heap.objs.size + 5 ∨ c = s1.heap.objs.size + 3 ∨ c = s1.heap.objs.size + 4 ∨ c = s1.heap.objs.size ∨ c = s1.heap.objs.size + 1 ∨ c = s1.heap.objs.size + 2 := by simpa using hcm
            rcases e' with z | z | z | z | z | z <;> rw [z] <;> first | exact Nat.le_add_right _ _ | exact Nat.le_refl _
          exact I1.fpOk hle (I1.hok.fresh hle)
        obtain ⟨its, rv, p1⟩ := Inv_sq I1 hqx
        obtain ⟨its2, rv2, p2⟩ := Inv_sq I1 hqy
        obtain ⟨its3, rv3, p3⟩ := Inv_sq I1 hqu
        refine call_z3 p1 p2 p3 fun h' hz hTI hTO h1 h2 h3 hk => wpAny_pyIter_zip hz ?_
        have I2 : Inv X pins σ H1 { s1 with heap := h' } := I1.kept (t' := s1.toks) hk
        obtain ⟨_, q1⟩ := p1.get
        obtain ⟨_, q2⟩ := p2.get
        obtain ⟨_, q3⟩ := p3.get
        exact ⟨s1.heap.objs.size + 5, [s1.heap.objs.size + 5, s1.heap.objs.size + 3, s1.heap.objs.size + 4, s1.heap.objs.size, s1.heap.objs.size + 1, s1.heap.objs.size + 2], _, _, H1, rfl, I2,
          turn_z3 (ap3_new (Heap.lt_size q1) (Heap.lt_size q2) (Heap.lt_size q3)), ⟨hz, hTI, ⟨_, _, _, hTO⟩, h1, h2, h3⟩, fresh6, q⟩

/-! ### by the evaluator -/
theorem zip3_len : ∀ (xs ys zs : List D), (zip3 xs ys zs).length = min xs.length (min ys.length zs.length)
  | [], _, _ => by simp [zip3]
  | _ :: _, [], _ => by simp [zip3]
  | _ :: _, _ :: _, [] => by simp [zip3]
  | x :: xs, y :: ys, z :: zs => by simp only [zip3, List.length_cons, zip3_len xs ys zs]; omega
theorem zip3_get : ∀ (xs ys zs : List D) (i : Nat) (x y z : D), xs[i]? = some x → ys[i]? = some y → zs[i]? = some z → (zip3 xs ys zs)[i]? = some (.tup [x, y, z])
  | [], _, _, _, _, _, _, h, _, _ => by simp at h
  | _ :: _, [], _, _, _, _, _, _, h, _ => by simp at h
  | _ :: _, _ :: _, [], _, _, _, _, _, _, h => by simp at h
  | x :: xs, y :: ys, z :: zs, 0, _, _, _, h, k, j => by simp at h k j; subst h k j; rfl
  | x :: xs, y :: ys, z :: zs, i + 1, _, _, _, h, k, j => by simp only [zip3, List.getElem?_cons_succ] at *; exact zip3_get xs ys zs i _ _ _ h k j
theorem seq_src {K : PySem.W.Frag} {F : Nat → Addr} {ω : Wd} {d : D} {v : V} {xs : List D} (r : Rep K F ω d v) (h : seqO d = some xs) : ∃ k a vs, v = .ref a ∧ (∀ ω', Le ω ω' → SqK K k ω'.H a vs) ∧ Reps K F ω xs vs := by
  cases d with
  | tup ys => cases h; obtain ⟨a, vs, rfl, s1, _, r⟩ := Rep.tup_inv r; exact ⟨.t, a, vs, rfl, fun ω' l => (s1.le l).sq, r⟩
  | lst ys => cases h; obtain ⟨a, vs, rfl, s1, _, r⟩ := Rep.lst_inv r; exact ⟨.l, a, vs, rfl, fun ω' l => .inl (s1.le l).2, r⟩
  | kl ys => cases h; obtain ⟨a, vs, rfl, s1, _, r⟩ := Rep.kl_inv r; exact ⟨.l, a, vs, rfl, fun ω' l => (s1.le l).sq, r⟩
  | _ => cases h
theorem Wk.tris {K : PySem.W.Frag} {F : Nat → Addr} {ω : Wd} {k1 k2 k3 : Sk} {a b c : Addr} {xs ys zs : List D} {vs us ws : List V} (s1 : ∀ ω', Le ω ω' → SqK K k1 ω'.H a vs) (s2 : ∀ ω', Le ω ω' → SqK K k2 ω'.H b us) (s3 : ∀ ω', Le ω ω' → SqK K k3 ω'.H c ws)
    (r1 : Reps K F ω xs vs) (r2 : Reps K F ω ys us) (r3 : Reps K F ω zs ws) : Wk K F (Itz3 K k1 k2 k3 a b c) (zip3 xs ys zs) ω := by
  have hl : (zip3 xs ys zs).length = min vs.length (min us.length ws.length) := by rw [zip3_len, r1.len, r2.len, r3.len]
  refine ⟨fun ω' l i hi => ?_, fun ω' l => ⟨vs, us, ws, s1 ω' l, s2 ω' l, s3 ω' l, by rw [hl]; omega⟩, fun P ω' A i x H' l hr hi y => ?_⟩
  · rw [hl] at hi
    exact ⟨vs, us, ws, vs[i]'(by omega), us[i]'(by omega), ws[i]'(by omega), s1 ω' l, s2 ω' l, s3 ω' l, List.getElem?_eq_getElem _, List.getElem?_eq_getElem _, List.getElem?_eq_getElem _⟩
  · obtain ⟨T, x1, y1, z1, rfl, nT, rfl, h1, h2, h3⟩ := y
    obtain ⟨d1, g1, q1⟩ := r1.get' (h1 _ (s1 ω' l))
    obtain ⟨d2, g2, q2⟩ := r2.get' (h2 _ (s2 ω' l))
    obtain ⟨d3, g3, q3⟩ := r3.get' (h3 _ (s3 ω' l))
    have ln := Le.new (u := .tup [x1, y1, z1]) ω' nT
    exact ⟨_, ω'.new T (.tup [x1, y1, z1]), zip3_get xs ys zs i d1 d2 d3 g1 g2 g3, rfl, ln, Pk.new nT hr.ptrk, hr.new nT,
      .tup upd_same (by rw [sizeLine_eq]; show 3 ≤ 16777216; decide) (.cons ((q1.le l).le ln) (.cons ((q2.le l).le ln) (.cons ((q3.le l).le ln) .nil)))⟩
section
variable {X : Cx} {F : Nat → Addr} {a b c : Expr} {fa fb fc : Env → AH → Res D} {pos p : Pos}
theorem pi_zip3M {elts : List Expr} {kk : Nat} {tpos : Pos} (hg : Gl X "zip") (hm : X.mg "zip" = none) (ha : PE X a (tM X.K F fa)) (hb : PE X b (tM X.K F fb)) (hc : PE X c (tM X.K F fc))
    (hs3 : starEach [a, b, c] X.env = (false, eval a X.env) :: starEach [b, c] X.env) (hs4 : starEach [b, c] X.env = (false, eval b X.env) :: starEach [c] X.env) (hs5 : starEach [c] X.env = (false, eval c X.env) :: starEach [] X.env) (hpl : (backTo pos (starEach [b, c] X.env)).any (·.1) = false) :
    PI X (.Tuple elts kk tpos) (.Call (.Name "zip" p) [a, b, c] [] pos) (iM X.K F fun env A => bnd (fa env A) fun x A => bnd (fb env A) fun y A => bnd (fc env A) fun z A =>
      bnd (ofO (seqO x) A) fun xs A => bnd (ofO (seqO y) A) fun ys A => bnd (ofO (seqO z) A) fun zs A => .ok (zip3 xs ys zs) A) :=
  (pi_zip3 hg hm (pa_cons ha (pa_cons hb (pa_cons hc pa_nil hs5) hs4) hs3) hs3 hpl).imp fun σ H R h => by
    obtain ⟨P, ω, env, A, rfl, hr, er, o⟩ := h
    refine ⟨P, ω, env, A, rfl, hr, er, o.bnd.imp fun d ω1 A1 l k hr1 o1 v rv => ⟨P, ω1, env, A1, rfl, hr1, er.le l, o1.bnd.imp fun e ω2 A2 l2 k2 hr2 o2 u ru => ⟨P, ω2, env, A2, rfl, hr2, (er.le l).le l2, o2.bnd.imp fun d3 ω3 A3 l3 k3 hr3 o3 v3 rv3 => ?_⟩⟩⟩
    obtain ⟨xs, e1, p3⟩ := o3.bnd.ofO
    have p4 := p3.here hr3
    obtain ⟨ys, e2, p5⟩ := p4.bnd.ofO
    have p6 := p5.here hr3
    obtain ⟨zs, e3, p7⟩ := p6.bnd.ofO
    have p8 : Out X.K F P ω3 (.ok (zip3 xs ys zs) A3) _ := p7.here hr3
    obtain ⟨ka, aa, va, rfl, sa, ra⟩ := seq_src ((rv.le l2).le l3) e1
    obtain ⟨kb, ab, vb, rfl, sb, rb⟩ := seq_src (ru.le l3) e2
    obtain ⟨kc, ac, vc, rfl, sc, rc⟩ := seq_src rv3 e3
    exact ⟨ka, kb, kc, aa, ab, ac, va, vb, vc, rfl, sa ω3 (Le.refl _), sb ω3 (Le.refl _), sc ω3 (Le.refl _), p8.here hr3 _ (Wk.tris sa sb sc ra rb rc)⟩
/-- list(x), to be changed -/
theorem pe_lstOfM (hg : Gl X "list") (hm : X.mg "list" = none) (ha : PE X a (tM X.K F fa)) (hs : starEach [a] X.env = (false, eval a X.env) :: starEach [] X.env) (hpl : (backTo pos (starEach [] X.env)).any (·.1) = false) :
    PE X (.Call (.Name "list" p) [a] [] pos) (tM X.K F fun env A => bnd (fa env A) fun x A => bnd (ofO (seqO (shal A x)) A) fun xs A => .ok (.ref A.length) (A ++ [.lst xs])) :=
  (pe_callTy call_list_of hg hm boot_list (pa_cons ha pa_nil hs) (by decide +kernel) (by decide +kernel) hs hpl).imp fun σ H Q h => by
    obtain ⟨P, ω, env, A, rfl, hr, er, o⟩ := h
    refine ⟨P, ω, env, A, rfl, hr, er, o.bnd.imp fun d ω1 A1 l k hr1 o1 v rv => ?_⟩
    obtain ⟨xs, e1, p1⟩ := o1.bnd.ofO
    have p2 : Out X.K F P ω1 (.ok (D.ref A1.length) (A1 ++ [O.lst xs])) _ := p1.here hr1
    obtain ⟨q, vs, rfl, s1, hl, r⟩ := seq_list (view hr1 rv) e1
    exact ⟨q, vs, rfl, s1.imp id (·.sq), fun l hl' => p2.newO hr1 l hl' (by simp) ⟨vs, upd_same, hl, r.le (Le.obj ω1 hl')⟩⟩
end
end Ev

set_option maxRecDepth 100000
/-! Ev12: the check of the evaluator's syntax against the text: side conditions; calls with keywords; comprehensions -/
namespace Ev
open PySem PySem.Spec L2

def visC (sc : Scope) (x : Str) : Bool := match sc.names.lookup x with
  | some .local => true
  | some .cell => true
  | some .free => true
  | _ => false
def locC (sc : Scope) (x : Str) : Bool := match sc.names.lookup x with
  | some .local => true
  | some .cell => true
  | _ => false
def ownC (sc : Scope) (x : Str) : Bool := match sc.names.lookup x with
  | some .local => true
  | _ => false
def gloC (sc : Scope) (x : Str) : Bool := match sc.names.lookup x with
  | some .globalImplicit => true
  | _ => false
def dbg (x : Str) : Bool := x == Str.ofString "__debug__"
def cld (x : Str) : Bool := x == Str.ofString "__classdict__"
theorem visC_of {sc : Scope} {x : Str} (h : visC sc x = true) : Vis sc x := by
  unfold visC at h
  split at h
  · exact .inl (by assumption)
  · exact .inr (.inl (by assumption))
  · exact .inr (.inr (by assumption))
  · cases h
theorem locC_of {sc : Scope} {x : Str} (h : locC sc x = true) : Loc sc x := by
  unfold locC at h
  split at h
  · exact .inl (by assumption)
  · exact .inr (by assumption)
  · cases h
theorem ownC_of {sc : Scope} {x : Str} (h : ownC sc x = true) : sc.names.lookup x = some .local := by
  unfold ownC at h
  split at h
  · assumption
  · cases h
theorem gloC_of {X : Cx} {x : Str} (h : gloC X.env.scope x = true) : Gl X x := by
  unfold gloC at h
  split at h
  · assumption
  · cases h

/-! ### forms without marks -/
def noStar : Expr → Bool
  | .Starred _ _ => false
  | _ => true
def noSet : Expr → Bool
  | .Set _ _ _ => false
  | _ => true
def noSlc : Expr → Bool
  | .Slice _ _ _ _ => false
  | _ => true
def noCall : Expr → Bool
  | .Call _ _ _ _ => false
  | _ => true
def noComp : Expr → Bool
  | .ListComp _ _ _ _ => false
  | .SetComp _ _ _ _ => false
  | .DictComp _ _ _ _ _ => false
  | _ => true
def noTup : Expr → Bool
  | .Tuple _ _ _ => false
  | .List _ _ => false
  | _ => true
def noName : Expr → Bool
  | .Name _ _ => false
  | _ => true
/-- isTrue has no form of its own for it -/
def plainT : Expr → Bool
  | .UnaryOp _ _ _ => false
  | .BoolOp _ _ _ => false
  | .IfExp _ _ _ _ => false
  | .Compare _ _ _ _ => false
  | _ => true
theorem star_cons {a : Expr} {es : List Expr} {env : PySem.Env} (h : noStar a = true) : starEach (a :: es) env = (false, eval a env) :: starEach es env := by
  cases a <;> first | rfl | cases h
theorem star_any : ∀ {es : List Expr} {env : PySem.Env}, es.all noStar = true → ∀ x ∈ starEach es env, x.1 = false
  | [], env, _, x, hx => by rw [show starEach [] env = [] from rfl] at hx; cases hx
  | a :: es, env, h, x, hx => by
    simp only [List.all_cons, Bool.and_eq_true] at h
    rw [star_cons h.1] at hx
    rcases List.mem_cons.mp hx with e | hx
    · rw [e]
    · exact star_any h.2 x hx
theorem back_any {es : List Expr} {env : PySem.Env} {pos : Pos} (h : es.all noStar = true) : (backTo pos (starEach es env)).any (·.1) = false := by
  unfold backTo
  rw [List.any_map, List.any_eq_false]
  intro x hx
  have := star_any h x hx
  simp [this]
theorem ass_cons {a : Expr} {es : List Expr} {env : PySem.Env} (h : noStar a = true) : assignEach (a :: es) env = (false, assign a env) :: assignEach es env := by
  cases a <;> first | rfl | cases h
theorem ass_len : ∀ {es : List Expr} {env : PySem.Env}, es.all noStar = true → (assignEach es env).length = es.length
  | [], _, _ => rfl
  | a :: es, env, h => by
    simp only [List.all_cons, Bool.and_eq_true] at h
    rw [ass_cons h.1, List.length_cons, List.length_cons, ass_len h.2]
theorem ass_find : ∀ {es : List Expr} {env : PySem.Env}, es.all noStar = true → (assignEach es env).findIdx? (·.1) = none
  | [], _, _ => rfl
  | a :: es, env, h => by
    simp only [List.all_cons, Bool.and_eq_true] at h
    rw [ass_cons h.1, List.findIdx?_cons, ass_find h.2]; rfl
theorem fold_none {e : Expr} {env : PySem.Env} (h : noSet e = true) : ∀ x, foldedSetIterable e env x = pure x := by
  intro x; cases e <;> first | rfl | cases h
theorem behind_none {op : CmpOp} {e : Expr} (h : noSet e = true) : behindInMarks op e = false := by
  cases e <;> first | rfl | cases h
theorem plainIx_of {e : Expr} (h : noSlc e = true) : PlainIx e := by
  intro o i; cases e <;> first | rfl | cases h
theorem sub_plain {a b : Expr} {pos : Pos} {env : PySem.Env} (h : noSlc b = true) : ∀ v, assign (.Subscript a b pos) env v = (do
      let ov ← holding [v] (eval a env)
      let iv ← holding [v, ov] (eval b env)
      standAt pos
      holding [v, ov, iv] (setItem ov iv v)
      release [v, ov, iv] []) := by
  intro v; cases b <;> first | rfl | cases h
theorem attr_base {o : Expr} {s : Str} {env : PySem.Env} {m : Sem Value} (h : noCall o = true) : attributeBase o s env m = m := by
  cases o <;> first | rfl | cases h
theorem true_plain {e : Expr} {env : PySem.Env} (h : plainT e = true) : ∀ whole, isTrue e env whole = (do let v ← whole; standAt e.pos; holding [v] (truthy v)) := by
  intro whole; cases e <;> first | rfl | cases h
theorem swaps_none {e : Expr} {t : Option Expr} {l : Nat} {env : PySem.Env} (h : noComp e = true) : swapsWith e t l env = pure false := by
  cases e <;> first | rfl | cases h
theorem swaps_tgt {e t : Expr} {l : Nat} {env : PySem.Env} (h : noName t = true) : swapsWith e (some t) l env = pure false := by
  cases e <;> first | rfl | (cases t <;> first | rfl | cases h)
theorem swapped_none {t e : Expr} {env : PySem.Env} (h : noTup t = true ∨ noTup e = true) : swappedStores [t] e env = pure none := by
  rcases h with h | h
  · cases t <;> first | rfl | cases h
  · cases t <;> first | rfl | (cases e <;> first | rfl | cases h)

/-! ### the context -/
structure Tb where
  fns : List (Str × List Str)
  gis : List (Str × Int)
  blts : List Str
  kws : List (Nat × Nat × List Str × List Nat)
structure Ct where
  T : Tb
  N : List Str
  sc : Scope
  fn : Str → Bool
def Ct.blk (ct : Ct) (scope : Scope) : Ct := { ct with sc := relS scope ct.sc, fn := fun x => scope.names.lookup x == some .cell }
/-- the arguments by places -/
def placeV {α : Type} (ds ks : List α) (ix : List Nat) : List α := ds ++ (List.range ks.length).filterMap fun j => (ix.idxOf? (ds.length + j)).bind fun p => ks[p]?
def KwB (fd : FuncData) (ps : List Str) (m : Nat) (ks : List Str) (ix : List Nat) : Prop :=
  ∀ (s : Shared) (us ws : List Value), us.length = m → ws.length = ks.length → BindsTo s fd ⟨us, ks.zip ws⟩ (ps.zip (placeV us ws ix))
/-- a def, as its callers want it -/
structure FnG (ct : Ct) (F : Nat → Addr) (cl : Cl) (X : Cx) (k : Nat) (i : Nat) (x : Str) (ps : List Str) : Prop where
  ex : ∃ fd, FnOk X.prog X.w X.K X.mg X.base CX0 k (F i) fd ps (spM X.K F ps.length (cl i)) ∧ Binds X.K fd ps [] ∧ ∀ q ∈ ct.T.kws, q.1 = i → KwB fd ps q.2.1 q.2.2.1 q.2.2.2
  mg : X.mg x = some (.ref (F i))
  kp : PySem.W.keepIn X.K (.ref (F i)) = true
structure Good (ct : Ct) (F : Nat → Addr) (cl : Cl) (X : Cx) : Prop where
  sc : X.env.scope = ct.sc
  kind : X.env.scope.kind = .function
  N : X.N = ct.N
  nd : X.N.Nodup
  calm : X.calm = true
  fn : ∀ x, ct.fn x = true → X.fn x = true
  xe : X.xe = fun _ _ => False
  k : ∃ k, Room k X.A ∧ ∀ (i : Nat) (x : Str) (ps : List Str), ct.T.fns[i]? = some (x, ps) → FnG ct F cl X k i x ps
  gis : ∀ q ∈ ct.T.gis, ∃ t, X.mg q.1 = some (.int q.2 t)
  blts : ∀ x ∈ ct.T.blts, X.mg x = none
section
variable {ct : Ct} {F : Nat → Addr} {cl : Cl} {X : Cx}
theorem Good.hu (g : Good ct F cl X) : X.A.units + 65 < cLine := by
  obtain ⟨k, hr, _⟩ := g.k
  have := hr.un; omega
theorem Good.own (g : Good ct F cl X) : PassesOwn (model X.prog X.w) X.A X.env X.xe := by rw [g.xe]; exact PassesOwn.never
theorem Good.blk (g : Good ct F cl X) {scope : Scope} (hk : scope.kind = .function) (s : Shared) (H : Hp) (C : Addr) (cs : List (Str × Addr)) (fp : List Addr) : Good (ct.blk scope) F cl (X.blk s H scope (compEnvC scope cs C X.env) fp) :=
  ⟨by show relS scope X.env.scope = _; rw [g.sc]; rfl, hk, g.N, g.nd, g.calm, fun x h => h, rfl,
    let ⟨k, hr, h⟩ := g.k; ⟨k, hr, fun i x ps e => ⟨(h i x ps e).ex, (h i x ps e).mg, (h i x ps e).kp⟩⟩, g.gis, g.blts⟩
theorem Good.gl (g : Good ct F cl X) {x : Str} (h : gloC ct.sc x = true) : Gl X x := gloC_of (by rw [g.sc]; exact h)
end

/-! ### calls with keywords -/
theorem _root_.L2.PK.imp {X : Cx} {e : List Keyword} {t t' : TA} (h : PK X e t) (i : ∀ σ H Q, t' σ H Q → t σ H Q) : PK X e t' := ⟨fun pos pins s σ H Q I q => h.run pos pins s σ H Q I (i σ H Q q)⟩
theorem placeV_vals {us : List Value} {vs : List V} {ws : List Value} {zs : List V} {ix : List Nat} (r : Vals vs us) (rz : Vals zs ws) : Vals (placeV vs zs ix) (placeV us ws ix) := by
  unfold placeV
  rw [r.length, rz.length]
  refine r.append ?_
  generalize List.range ws.length = l
  induction l with
  | nil => exact .nil
  | cons j l ih =>
    simp only [List.filterMap_cons]
    cases e : ix.idxOf? (us.length + j) with
    | none => exact ih
    | some p =>
      simp only [Option.bind_some]
      cases e2 : zs[p]? with
      | none => rw [rz.none_of e2]; exact ih
      | some z =>
        obtain ⟨u, h1, h2⟩ := rz.get e2
        rw [h1]
        exact .cons h2 ih
theorem placeV_reps {K : PySem.W.Frag} {F : Nat → Addr} {ω : Wd} {ds ks : List D} {vs zs : List V} {ix : List Nat} (r : Reps K F ω ds vs) (rz : Reps K F ω ks zs) : Reps K F ω (placeV ds ks ix) (placeV vs zs ix) := by
  unfold placeV
  rw [r.len, rz.len]
  refine r.app ?_
  generalize List.range zs.length = l
  induction l with
  | nil => exact .nil
  | cons j l ih =>
    simp only [List.filterMap_cons]
    cases e : ix.idxOf? (vs.length + j) with
    | none => exact ih
    | some p =>
      simp only [Option.bind_some]
      cases e2 : ks[p]? with
      | none =>
        have e3 : zs[p]? = none := by
          rw [List.getElem?_eq_none_iff] at e2 ⊢; rw [← rz.len]; exact e2
        rw [e3]; exact ih
      | some z =>
        obtain ⟨u, h1, h2⟩ := rz.get e2
        rw [h1]
        exact .cons h2 ih
theorem placed_eq (ds ks : List D) (ix : List Nat) : placed ds ks ix = placeV ds ks ix := rfl
section
variable {X : Cx} {F : Nat → Addr} {a : Expr} {fa : Env → AH → Res D} {pos p : Pos}
theorem pk_nilM : PK X [] (tMs X.K F fun _ A => .ok [] A) := pk_nil.imp fun σ H Q h => by
  obtain ⟨P, ω, env, A, rfl, hr, er, o⟩ := h
  exact o.here hr [] .nil
theorem pk_consM {kws : List Keyword} {nm : Option Str} {kpos : Pos} {fs : Env → AH → Res (List D)} (ha : PE X a (tM X.K F fa)) (hr : PK X kws (tMs X.K F fs)) :
    PK X (⟨nm, a, kpos⟩ :: kws) (tMs X.K F fun env A => bnd (fa env A) fun d A => bnd (fs env A) fun ds A => .ok (d :: ds) A) := (pk_cons ha hr).imp fun σ H Q h => by
  obtain ⟨P, ω, env, A, rfl, hr, er, o⟩ := h
  exact ⟨P, ω, env, A, rfl, hr, er, o.bnd.imp fun d ω1 A1 l k hr1 o1 v rv => ⟨P, ω1, env, A1, rfl, hr1, er.le l, o1.bnd.imp fun ds ω2 A2 l2 k2 hr2 o2 vs rvs => o2.here hr2 _ (.cons (rv.le l2) rvs)⟩⟩
def kwN (kws : List Keyword) : List (Option Str) := kws.map fun k => match k with | ⟨n, _, _⟩ => n
theorem kw_all {env : PySem.Env} {pos : Pos} : ∀ {kws : List Keyword} {ks : List Str}, kwN kws = ks.map some → (backToKw pos (keywordEach kws env)).all (·.1.isSome) = true ∧ (backToKw pos (keywordEach kws env)).filterMap (·.1) = ks ∧ (backToKw pos (keywordEach kws env)).any (·.1.isNone) = false
  | [], ks, h => by cases ks with
    | nil => exact ⟨rfl, rfl, rfl⟩
    | cons _ _ => cases h
  | ⟨n, e, kp⟩ :: kws, ks, h => by
    cases ks with
    | nil => cases h
    | cons k ks =>
      simp only [kwN, List.map_cons, List.cons.injEq] at h
      obtain ⟨h1, h2, h3⟩ := kw_all (env := env) (pos := pos) (kws := kws) (ks := ks) h.2
      obtain ⟨rfl, _⟩ := h
      have e : backToKw pos (keywordEach (⟨some k, e, kp⟩ :: kws) env) = (some k, do let v ← eval e env; standAt pos; pure v) :: backToKw pos (keywordEach kws env) := rfl
      rw [e]
      refine ⟨?_, ?_, ?_⟩
      · rw [List.all_cons, h1]; rfl
      · rw [List.filterMap_cons, h2]
      · rw [List.any_cons, h3]; rfl
theorem run_kw {k : Nat} {f : Addr} {fd : FuncData} {ps ks : List Str} {sp : Sp} {m : Nat} {ix : List Nat} {pins : List (Addr × Obj)} {σ : St} {H : Hp} {s : Shared} {Q : VK} {us ws : List Value} {vs zs : List V} (G : FnOk X.prog X.w X.K X.mg X.base CX0 k f fd ps sp) (hr : Room k X.A) (hb : KwB fd ps m ks ix)
    (I : Inv X pins σ H s) (r : Vals vs us) (rz : Vals zs ws) (l1 : us.length = m) (l2 : ws.length = ks.length) (h : sp (placeV vs zs ix) H Q fun _ _ _ => False) : wpAny (model X.prog X.w) X.A (call (.ref f) us (ks.zip ws)) (EP X pins σ Q) X.xe s := by
  refine wpAny_call (codeAny_mono (G.run X.A X.stack s H ⟨us, ks.zip ws⟩ (placeV us ws ix) (placeV vs zs ix) Q _ hr I.env0 (hb s us ws l1 l2) (placeV_vals r rz) h) fun r s' hq => ?_)
  cases r with
  | error e => exact hq.elim
  | ok fl =>
    cases fl with
    | ret u => exact I.after hq
    | next => exact False.elim hq
    | brk => exact False.elim hq
    | cont => exact False.elim hq
/-- the keywords' part of a call -/
theorem kw_part {k : Nat} {f : Addr} {fd : FuncData} {ps ks : List Str} {m : Nat} {ix : List Nat} {kws : List Keyword} {gs : Env → AH → Res (List D)} {g : List D → AH → Res D} {pins : List (Addr × Obj)} {σ : St} {Q : VK}
    (G : FnOk X.prog X.w X.K X.mg X.base CX0 k f fd ps (spM X.K F ps.length g)) (hr : Room k X.A) (hb : KwB fd ps m ks ix)
    (hkw : PK X kws (tMs X.K F gs)) (hks : kwN kws = ks.map some)
    (hn2 : ∀ env A ds A', gs env A = .ok ds A' → ds.length = ks.length) (hp : ∀ ds ws : List D, ds.length = m → ws.length = ks.length → (placeV ds ws ix).length = ps.length)
    {us : List Value} {s1 : Shared} {vs : List V} {H1 : Hp} (I1 : Inv X pins σ H1 s1) (r : Vals vs us)
    (q : ∃ P ω env A ds, ω.H = H1 ∧ HR X.K F P ω A ∧ EnvR X.K F ω env σ ∧ Reps X.K F ω ds vs ∧ ds.length = m ∧ Out X.K F P ω (bnd (gs env A) fun ws A => g (placed ds ws ix) A) (fin X.K F Q)) :
    wpAny (model X.prog X.w) X.A (evalAll ((backToKw pos (keywordEach kws X.env)).map (·.2))) (fun ws s₂ => X.K.In s₂.heap ∧ wpAny (model X.prog X.w) X.A (call (.ref f) ([] ++ us) (((backToKw pos (keywordEach kws X.env)).filterMap (·.1)).zip ws)) (EP X pins σ Q) X.xe s₂) X.xe s1 := by
  obtain ⟨P, ω, env, A, ds, rfl, hr1, er, rds, ld, o⟩ := q
  obtain ⟨_, h2, _⟩ := kw_all (env := X.env) (pos := pos) hks
  refine thn (hkw.run pos pins s1 σ ω.H (fun zs H2 => zs.length = ks.length ∧ spM X.K F ps.length g (placeV vs zs ix) H2 Q fun _ _ _ => False) I1 ⟨P, ω, env, A, rfl, hr1, er, ?_⟩) fun ws s2 ⟨zs, H2, I2, rz, lz, q2⟩ => ⟨I2.kIn, ?_⟩
  · cases e : gs env A with
    | ok ws A' =>
      have el := hn2 _ _ _ _ e
      rw [e] at o
      intro ω1 l k hr2 zs rzs
      refine ⟨by rw [← rzs.len]; exact el, ?_, P, ω1, A', placeV ds ws ix, rfl, hr2, placeV_reps (rds.le l) rzs, Out.le l k o⟩
      rw [← (placeV_reps (rds.le l) rzs).len]
      exact hp _ _ ld el
    | exc _ _ _ => rw [e] at o; exact o.elim
    | bad => rw [e] at o; exact o.elim
  · rw [h2, List.nil_append]
    exact run_kw G hr hb I2 r rz (by rw [← r.length, ← rds.len]; exact ld) (by rw [← rz.length]; exact lz) q2
theorem pe_callKM {k : Nat} {f : Addr} {fd : FuncData} {ps ks : List Str} {m : Nat} {ix : List Nat} {x : Str} {es : List Expr} {kws : List Keyword} {fs gs : Env → AH → Res (List D)} {g : List D → AH → Res D}
    (G : FnOk X.prog X.w X.K X.mg X.base CX0 k f fd ps (spM X.K F ps.length g)) (hr : Room k X.A) (hg : Gl X x) (hm : X.mg x = some (.ref f)) (hk : PySem.W.keepIn X.K (.ref f) = true) (hb : KwB fd ps m ks ix)
    (ha : PA X (a :: es) (tMs X.K F fs)) (hkw : PK X kws (tMs X.K F gs)) (hks : kwN kws = ks.map some) (hdb : dbg x = false) (hst : (a :: es).all noStar = true)
    (hn : ∀ env A ds A', fs env A = .ok ds A' → ds.length = m) (hn2 : ∀ env A ds A', gs env A = .ok ds A' → ds.length = ks.length) (hp : ∀ ds ws : List D, ds.length = m → ws.length = ks.length → (placeV ds ws ix).length = ps.length) :
    PE X (.Call (.Name x p) (a :: es) kws pos) (tM X.K F fun env A => bnd (fs env A) fun ds A => bnd (gs env A) fun ws A => g (placed ds ws ix) A) := by
  refine ⟨fun pins s σ H Q I h => ?_⟩
  obtain ⟨h1, _, h3⟩ := kw_all (env := X.env) (pos := pos) hks
  have hpl : ((backTo pos (starEach (a :: es) X.env)).any (·.1) || (backToKw pos (keywordEach kws X.env)).any (·.1.isNone)) = false := by rw [back_any hst, h3]; rfl
  refine wpAny_Call_Name_kw (ld_glob I hg hm ?_ hdb)
  obtain ⟨P, ω, env, A, rfl, hr1, er, o⟩ := h
  have o1 : Out X.K F P ω (fs env A) fun ds ω' A' => ds.length = m ∧ Out X.K F P ω' (bnd (gs env A') fun ws A => g (placed ds ws ix) A) (fin X.K F Q) := by
    cases e : fs env A with
    | ok ds A' =>
      have el := hn _ _ _ _ e
      dsimp only at o
      rw [e] at o
      exact fun ω1 l k hr2 => ⟨el, Out.le l k o⟩
    | exc _ _ _ => dsimp only at o; rw [e] at o; exact o.elim
    | bad => dsimp only at o; rw [e] at o; exact o.elim
  simp only [List.all_cons, Bool.and_eq_true] at hst
  exact PySem.W.callWith_KW (h₀ := X.base) I.ok.mod.kin hk h1 (thn (ha.run pos pins s σ ω.H _ I ⟨P, ω, env, A, rfl, hr1, er, o1.imp fun ds ω1 A1 l k hr2 q vs rvs => ⟨P, ω1, env, A1, ds, rfl, hr2, er.le l, rvs, q.1, q.2⟩⟩) fun us s1 ⟨vs, H1, I1, r, q⟩ => kw_part G hr hb hkw hks hn2 hp I1 r q) hpl (star_cons hst.1)
theorem pe_callK0M {k : Nat} {f : Addr} {fd : FuncData} {ps ks : List Str} {ix : List Nat} {x : Str} {kws : List Keyword} {gs : Env → AH → Res (List D)} {g : List D → AH → Res D}
    (G : FnOk X.prog X.w X.K X.mg X.base CX0 k f fd ps (spM X.K F ps.length g)) (hr : Room k X.A) (hg : Gl X x) (hm : X.mg x = some (.ref f)) (hk : PySem.W.keepIn X.K (.ref f) = true) (hb : KwB fd ps 0 ks ix)
    (hkw : PK X kws (tMs X.K F gs)) (hks : kwN kws = ks.map some) (hdb : dbg x = false)
    (hn2 : ∀ env A ds A', gs env A = .ok ds A' → ds.length = ks.length) (hp : ∀ ds ws : List D, ds.length = 0 → ws.length = ks.length → (placeV ds ws ix).length = ps.length) :
    PE X (.Call (.Name x p) [] kws pos) (tM X.K F fun env A => bnd (gs env A) fun ws A => g (placed [] ws ix) A) := by
  refine ⟨fun pins s σ H Q I h => ?_⟩
  obtain ⟨h1, _, h3⟩ := kw_all (env := X.env) (pos := pos) hks
  have hpl : ((backTo pos (starEach [] X.env)).any (·.1) || (backToKw pos (keywordEach kws X.env)).any (·.1.isNone)) = false := by rw [h3]; rfl
  refine wpAny_Call_Name_kw (ld_glob I hg hm ?_ hdb)
  obtain ⟨P, ω, env, A, rfl, hr1, er, o⟩ := h
  exact PySem.W.callWith_KW0 (h₀ := X.base) I.ok.mod.kin hk h1 (kw_part G hr hb hkw hks hn2 hp (us := []) (vs := []) I .nil ⟨P, ω, env, A, [], rfl, hr1, er, .nil, rfl, o⟩) hpl
end
end Ev

set_option maxRecDepth 100000
/-! Ev13: the check of expressions, and that it suffices -/
namespace Ev
open PySem PySem.Spec L2
def Es.len : Es → Nat
  | .nil => 0
  | .cons _ r => r.len + 1
def Ts.len : Ts → Nat
  | .nil => 0
  | .cons _ r => r.len + 1
mutual
def T.slots : T → List Nat
  | .nm i => [i]
  | .tup ts => ts.slots
  | .sub _ _ => []
def Ts.slots : Ts → List Nat
  | .nil => []
  | .cons t r => t.slots ++ r.slots
end
theorem evs_len {cl : Cl} : ∀ {es : Es} {env : Env} {A : AH} {ds : List D} {A' : AH}, evs cl es env A = .ok ds A' → ds.length = es.len
  | .nil, env, A, ds, A', h => by simp only [evs] at h; cases h; rfl
  | .cons e r, env, A, ds, A', h => by
    simp only [evs] at h
    obtain ⟨d, A1, h1, h⟩ := bnd_out h
    obtain ⟨ds', A2, h2, h⟩ := bnd_out h
    cases h
    simp [Es.len, evs_len h2]
theorem asgs_len {cl : Cl} : ∀ {ts : Ts} {ds : List D} {env : Env} {A : AH} {env' : Env} {A' : AH}, asgs cl ts ds env A = .ok env' A' → ds.length = ts.len
  | .nil, [], env, A, env', A', h => rfl
  | .nil, _ :: _, env, A, env', A', h => by simp only [asgs] at h; cases h
  | .cons t r, [], env, A, env', A', h => by simp only [asgs] at h; cases h
  | .cons t r, d :: ds, env, A, env', A', h => by
    simp only [asgs] at h
    obtain ⟨d', A1, h1, h⟩ := bnd_out h
    simp [Ts.len, asgs_len h]
theorem place_len {α β : Type} {ds ks : List α} {us ws : List β} {ix : List Nat} (h : ds.length = us.length) (k : ks.length = ws.length) : (placeV ds ks ix).length = (placeV us ws ix).length := by
  unfold placeV
  rw [List.length_append, List.length_append, h, k]
  congr 1
  generalize List.range ws.length = l
  induction l with
  | nil => rfl
  | cons j l ih =>
    simp only [List.filterMap_cons]
    cases e : ix.idxOf? (us.length + j) with
    | none => exact ih
    | some p =>
      simp only [Option.bind_some]
      by_cases hp : p < ks.length
      · rw [List.getElem?_eq_getElem hp, List.getElem?_eq_getElem (k ▸ hp)]
        simp [ih]
      · rw [List.getElem?_eq_none (by omega), List.getElem?_eq_none (by omega)]
        exact ih

def Bop.is : Bop → Operator → Bool
  | .add, .Add => true
  | .sub, .Sub => true
  | .mul, .Mult => true
  | .mod, .Mod => true
  | .fdiv, .FloorDiv => true
  | .pow, .Pow => true
  | _, _ => false
theorem Bop.is_eq {b : Bop} {o : Operator} (h : b.is o = true) : o = b.op := by cases b <;> cases o <;> first | rfl | cases h
def Cop.is : Cop → CmpOp → Bool
  | .eq, .Eq => true
  | .ne, .NotEq => true
  | .lt, .Lt => true
  | .le, .LtE => true
  | .gt, .Gt => true
  | .ge, .GtE => true
  | .isin, .In => true
  | .notin, .NotIn => true
  | _, _ => false
theorem Cop.is_eq {b : Cop} {o : CmpOp} (h : b.is o = true) : o = b.op := by cases b <;> cases o <;> first | rfl | cases h
def isOp (neg : Bool) : CmpOp → Bool
  | .Is => !neg
  | .IsNot => neg
  | _ => false
theorem isOp_eq {neg : Bool} {o : CmpOp} (h : isOp neg o = true) : o = (if neg = true then .IsNot else .Is) := by
  cases neg <;> cases o <;> first | rfl | cases h
def ownP (N : List Str) (own : List Nat) : List (Str × Nat) := own.filterMap fun i => (N[i]?).map fun x => (x, i)
def tyIn : List String := ["int", "bool", "str", "tuple", "list", "dict"]
theorem tyIn_boot : ∀ t ∈ tyIn, bootBuiltins (Str.ofString t) = some (.type t) ∧ Str.ofString t ≠ Str.ofString "__name__" ∧ (Str.ofString t == Str.ofString "__debug__") = false := by
  intro t h
  simp only [tyIn, List.mem_cons, List.not_mem_nil, or_false] at h
  rcases h with rfl | rfl | rfl | rfl | rfl | rfl <;> decide +kernel
def isTuple : Expr → Bool
  | .Tuple _ _ _ => true
  | _ => false
mutual
def chkE (ct : Ct) : E → Expr → Bool
  | .var i, a => match a with
    | .Name x _ => decide (ct.N[i]? = some x) && visC ct.sc x && !dbg x && !cld x
    | _ => false
  | .int i, a => match a with
    | .Constant (.int j) _ _ => decide (i = j)
    | _ => false
  | .bl b, a => match a with
    | .Constant (.bool c) _ _ => decide (b = c)
    | _ => false
  | .non, a => match a with
    | .Constant .none _ _ => true
    | _ => false
  | .str s, a => match a with
    | .Constant (.str t) _ _ => decide (s = t) && decide (s.length ≤ lim)
    | _ => false
  | .gv x i, a => match a with
    | .Name y _ => decide (x = y) && gloC ct.sc x && ct.T.gis.any (fun q => decide (q = (x, i))) && !dbg x
    | _ => false
  | .ty t, a => match a with
    | .Name y _ => decide (y = Str.ofString t) && tyIn.contains t && gloC ct.sc y && ct.T.blts.any (fun q => decide (q = y))
    | _ => false
  | .fn _ _, _ => false
  | .tup es, a => match a with
    | .Tuple as _ _ => chkEs ct es as && decide (es.len ≤ lim)
    | _ => false
  | .lst es, a => match a with
    | .List as _ => chkEs ct es as && decide (es.len ≤ lim)
    | _ => false
  | .lstM es, a => match a with
    | .List as _ => chkEs ct es as && decide (es.len ≤ lim)
    | _ => false
  | .dkN, a => match a with
    | .Dict [] [] _ => true
    | _ => false
  | .dtN, a => match a with
    | .Dict [] [] _ => true
    | _ => false
  | .bin op e f, a => match a with
    | .BinOp b o c _ => op.is o && chkE ct e b && chkE ct f c
    | _ => false
  | .neg e, a => match a with
    | .UnaryOp .USub b _ => chkE ct e b
    | _ => false
  | .not e, a => match a with
    | .UnaryOp .Not b _ => chkE ct e b && e.tOk
    | _ => false
  | .and e f, a => match a with
    | .BoolOp .And (b :: c :: r) p => chkE ct e b && chkE ct f (.BoolOp .And (c :: r) p)
    | _ => false
  | .or e f, a => match a with
    | .BoolOp .Or (b :: c :: r) p => chkE ct e b && chkE ct f (.BoolOp .Or (c :: r) p)
    | _ => false
  | .one e, a => match a with
    | .BoolOp _ [b] _ => chkE ct e b
    | _ => false
  | .ite e f g, a => match a with
    | .IfExp b c d _ => chkE ct e b && e.tOk && chkE ct f c && chkE ct g d
    | _ => false
  | .cmp op e f, a => match a with
    | .Compare b [o] [c] _ => op.is o && chkE ct e b && chkE ct f c && noSet c
    | _ => false
  | .chn p q e f g, a => match a with
    | .Compare b [o, u] [c, d] _ => p.is o && q.is u && chkE ct e b && chkE ct f c && chkE ct g d && noSet d
    | _ => false
  | .isN e neg, a => match a with
    | .Compare b [o] [.Constant .none _ _] _ => isOp neg o && chkE ct e b
    | _ => false
  | .isB e c neg, a => match a with
    | .Compare b [o] [.Constant (.bool c') _ _] _ => isOp neg o && chkE ct e b && decide (c = c')
    | _ => false
  | .idx e f, a => match a with
    | .Subscript b c _ => chkE ct e b && chkE ct f c && noSlc c
    | _ => false
  | .slc e lo hi, a => match a with
    | .Subscript b (.Slice l h none _) _ => chkE ct e b && chkEo ct lo l && chkEo ct hi h
    | _ => false
  | .call f es, a => match a with
    | .Call (.Name x _) as [] _ => chkEs ct es as && gloC ct.sc x && !dbg x && (match ct.T.fns[f]? with
      | some (y, ps) => decide (x = y) && decide (es.len = ps.length)
      | none => false)
    | _ => false
  | .callK f es ks ix, a => match a with
    | .Call (.Name x _) as kws _ => chkEs ct es as && chkKs ct ks kws && gloC ct.sc x && !dbg x && (match ct.T.fns[f]? with
      | some (y, ps) => decide (x = y) && decide (kwN kws = ((kwN kws).filterMap id).map some) && ct.T.kws.any (fun q => decide (q = (f, es.len, (kwN kws).filterMap id, ix))) &&
          decide (ks.len = ((kwN kws).filterMap id).length) && decide ((placeV (List.replicate es.len ()) (List.replicate ks.len ()) ix).length = ps.length)
      | none => false)
    | _ => false
  | .bi b es, a => match a with
    | .Call (.Name x _) as [] _ => chkEs ct es as && decide (0 < es.len) && decide (x = Str.ofString b.nm) && gloC ct.sc x && ct.T.blts.any (fun q => decide (q = x))
    | _ => false
  | .lrng _, _ => false
  | .lstOf e, a => match a with
    | .Call (.Name x _) [b] [] _ => decide (x = Str.ofString "list") && gloC ct.sc x && ct.T.blts.any (fun q => decide (q = x)) && chkE ct e b && noStar b
    | _ => false
  | .app o e, a => match a with
    | .Call (.Attribute b m ap) [c] [] p => chkE ct o b && chkE ct e c && decide (m = Str.ofString "append") && noCall b && noStar c && (ap.endLine == p.line)
    | _ => false
  | .comp _ own tg it cs e, a => match a with
    | .ListComp elt [⟨t, iter, ifs, k⟩] scope _ => decide (k = 0) && blkC ct.N ct.sc scope (ownP ct.N own) && decide ((ownP ct.N own).map (·.2) = own) && noSet iter && chkI ct it t iter &&
        chkT (ct.blk scope) tg t && tg.slots.all (fun j => own.contains j) && chkC (ct.blk scope) cs ifs && chkE (ct.blk scope) e elt
    | _ => false
def chkEo (ct : Ct) : Eo → Option Expr → Bool
  | .no, a => a.isNone
  | .yes e, a => match a with
    | some b => chkE ct e b
    | none => false
def chkEs (ct : Ct) : Es → List Expr → Bool
  | .nil, as => as.isEmpty
  | .cons e r, as => match as with
    | a :: as => chkE ct e a && noStar a && chkEs ct r as
    | [] => false
def chkKs (ct : Ct) : Es → List Keyword → Bool
  | .nil, as => as.isEmpty
  | .cons e r, as => match as with
    | ⟨_, a, _⟩ :: as => chkE ct e a && chkKs ct r as
    | [] => false
def chkC (ct : Ct) : Es → List Expr → Bool
  | .nil, as => as.isEmpty
  | .cons e r, as => match as with
    | [a] => chkE ct e a && e.tOk && (match r with
      | .nil => true
      | _ => false)
    | _ => false
def chkT (ct : Ct) : T → Expr → Bool
  | .nm i, a => match a with
    | .Name x _ => decide (ct.N[i]? = some x) && locC ct.sc x && (ct.fn x || ownC ct.sc x)
    | _ => false
  | .tup ts, a => match a with
    | .Tuple as _ _ => chkTs ct ts as
    | _ => false
  | .sub o i, a => match a with
    | .Subscript b c _ => chkE ct o b && chkE ct i c && noSlc c
    | _ => false
def chkTs (ct : Ct) : Ts → List Expr → Bool
  | .nil, as => as.isEmpty
  | .cons t r, as => match as with
    | a :: as => chkT ct t a && noStar a && chkTs ct r as
    | [] => false
def chkI (ct : Ct) : I → Expr → Expr → Bool
  | .seq e, _, a => chkE ct e a
  | .rng1 e, _, a => match a with
    | .Call (.Name x _) [b] [] _ => decide (x = Str.ofString "range") && gloC ct.sc x && ct.T.blts.any (fun q => decide (q = x)) && chkE ct e b && noStar b
    | _ => false
  | .rng2 e f, _, a => match a with
    | .Call (.Name x _) [b, c] [] _ => decide (x = Str.ofString "range") && gloC ct.sc x && ct.T.blts.any (fun q => decide (q = x)) && chkE ct e b && noStar b && chkE ct f c && noStar c
    | _ => false
  | .zip e f, tg, a => match a with
    | .Call (.Name x _) [b, c] [] _ => isTuple tg && decide (x = Str.ofString "zip") && gloC ct.sc x && ct.T.blts.any (fun q => decide (q = x)) && chkE ct e b && noStar b && chkE ct f c && noStar c
    | _ => false
  | .zip3 e f d, tg, a => match a with
    | .Call (.Name x _) [b, c, u] [] _ => isTuple tg && decide (x = Str.ofString "zip") && gloC ct.sc x && ct.T.blts.any (fun q => decide (q = x)) && chkE ct e b && noStar b && chkE ct f c && noStar c && chkE ct d u && noStar u
    | _ => false
  | .enum _, _, _ => false
end

theorem chkEs_star {ct : Ct} : ∀ {es : Es} {as : List Expr}, chkEs ct es as = true → as.all noStar = true ∧ as.length = es.len
  | .nil, as, h => by
    cases as with
    | nil => exact ⟨rfl, rfl⟩
    | cons _ _ => simp [chkEs] at h
  | .cons e r, as, h => by
    cases as with
    | nil => simp [chkEs] at h
    | cons a as =>
      simp only [chkEs, Bool.and_eq_true] at h
      obtain ⟨h1, h2⟩ := chkEs_star h.2
      exact ⟨by rw [List.all_cons, h.1.2, h1]; rfl, by simp [Es.len, h2]⟩
theorem chkTs_star {ct : Ct} : ∀ {es : Ts} {as : List Expr}, chkTs ct es as = true → as.all noStar = true ∧ as.length = es.len
  | .nil, as, h => by
    cases as with
    | nil => exact ⟨rfl, rfl⟩
    | cons _ _ => simp [chkTs] at h
  | .cons e r, as, h => by
    cases as with
    | nil => simp [chkTs] at h
    | cons a as =>
      simp only [chkTs, Bool.and_eq_true] at h
      obtain ⟨h1, h2⟩ := chkTs_star h.2
      exact ⟨by rw [List.all_cons, h.1.2, h1]; rfl, by simp [Ts.len, h2]⟩
theorem any_dec {α : Type} [DecidableEq α] {l : List α} {x : α} (h : l.any (fun q => decide (q = x)) = true) : x ∈ l := by
  obtain ⟨y, hy, e⟩ := List.any_eq_true.mp h
  rw [← of_decide_eq_true e]; exact hy
theorem gM_mono {X : Cx} {F : Nat → Addr} {tg : Expr} {L L' : List Nat} {f : D → Env → AH → Res Env} (h : PG X tg (gM X.K F L f)) (k : ∀ j, j ∈ L → j ∈ L') : PG X tg (gM X.K F L' f) :=
  h.imp fun v σ H Q ⟨P, ω, env, A, d, e1, hr, er, rv, o⟩ => ⟨P, ω, env, A, d, e1, hr, er, rv, o.imp fun env' ω' A' l k' hr' q σ' er' b => q σ' er' (b.mono k)⟩
theorem gMs_mono {X : Cx} {F : Nat → Addr} {tg : List Expr} {L L' : List Nat} {f : List D → Env → AH → Res Env} (h : PGs X tg (gMs X.K F L f)) (k : ∀ j, j ∈ L → j ∈ L') : PGs X tg (gMs X.K F L' f) :=
  h.imp fun v σ H Q ⟨P, ω, env, A, d, e1, hr, er, rv, o⟩ => ⟨P, ω, env, A, d, e1, hr, er, rv, o.imp fun env' ω' A' l k' hr' q σ' er' b => q σ' er' (b.mono k)⟩
theorem _root_.L2.PTs.imp {X : Cx} {e : List Expr} {t t' : TT} (h : PTs X e t) (i : ∀ σ H Q, t' σ H Q → t σ H Q) : PTs X e t' := ⟨fun pins s σ H Q I q => h.run pins s σ H Q I (i σ H Q q)⟩
theorem tst_id (r : Res D) : (bnd (tst r) fun t A => if t = true then Res.ok true A else .ok false A) = tst r := by
  cases r with
  | ok d A =>
    unfold tst
    simp only [bnd_ok]
    cases truO A d with
    | none => rfl
    | some t => cases t <;> rfl
  | exc _ _ _ => rfl
  | bad => rfl

structure EOk (F : Nat → Addr) (cl : Cl) (X : Cx) (e : E) (a : Expr) : Prop where
  pe : PE X a (tM X.K F (ev cl e))
  pt : e.tOk = true → PT X a (tMb X.K F (fT (ev cl e)))
  pw : e.tOk = true → ∀ op vs p, a = .BoolOp op vs p → PW X a (tMb X.K F (fT (ev cl e)))
theorem EOk.plain {F : Nat → Addr} {cl : Cl} {X : Cx} {e : E} {a : Expr} (h : PE X a (tM X.K F (ev cl e))) (hp : plainT a = true) : EOk F cl X e a :=
  ⟨h, fun _ => pt_valM h (true_plain hp), fun _ op vs p e => by subst e; cases hp⟩
theorem EOk.ofT {F : Nat → Addr} {cl : Cl} {X : Cx} {e : E} {a : Expr} (h : PE X a (tM X.K F (ev cl e))) (t : e.tOk = true → PT X a (tMb X.K F (fT (ev cl e)))) (hp : ∀ op vs p, a ≠ .BoolOp op vs p) : EOk F cl X e a :=
  ⟨h, t, fun _ op vs p e => absurd e (hp op vs p)⟩
theorem EOk.ofW {F : Nat → Addr} {cl : Cl} {X : Cx} {e : E} {a : Expr} (h : PE X a (tM X.K F (ev cl e))) (t : e.tOk = true → PW X a (tMb X.K F (fT (ev cl e)))) : EOk F cl X e a :=
  ⟨h, fun k => (t k).pt, fun k _ _ _ _ => t k⟩
/-- a comprehension's parts -/
structure LcOk (F : Nat → Addr) (cl : Cl) (X : Cx) (own : List Nat) (tg : T) (it : I) (cs : Es) (e : E) (t iter elt : Expr) (ifs : List Expr) (scope : Scope) (ow : List (Str × Nat)) : Prop where
  hi : PI X t iter (iM X.K F (evi cl it))
  ok : BlkOk X.N X.env.scope scope ow
  eq : ow.map (·.2) = own
  hg : ∀ (s : Shared) (H : Hp) (C : Addr) (cs' : List (Str × Addr)) (fp : List Addr), PG (X.blk s H scope (compEnvC scope cs' C X.env) fp) t (gM X.K F tg.slots (asg cl tg))
  ht : ∀ (s : Shared) (H : Hp) (C : Addr) (cs' : List (Str × Addr)) (fp : List Addr), PTs (X.blk s H scope (compEnvC scope cs' C X.env) fp) ifs (tMb X.K F (evt cl cs))
  he : ∀ (s : Shared) (H : Hp) (C : Addr) (cs' : List (Str × Addr)) (fp : List Addr), PE (X.blk s H scope (compEnvC scope cs' C X.env) fp) elt (tM X.K F (ev cl e))
  hs : ∀ x, foldedSetIterable iter X.env x = pure x
  sl : ∀ j, j ∈ tg.slots → j ∈ own
mutual
theorem okE {ct : Ct} {F : Nat → Addr} {cl : Cl} {X : Cx} (g : Good ct F cl X) : ∀ (e : E) (a : Expr), chkE ct e a = true → EOk F cl X e a
  | .var i, a, h => by
    simp only [chkE] at h
    split at h
    · simp only [Bool.and_eq_true, Bool.not_eq_true', decide_eq_true_eq] at h
      obtain ⟨⟨⟨h1, h2⟩, h3⟩, h4⟩ := h
      exact .plain (pe_varM (by rw [g.N]; exact h1) (by rw [g.sc]; exact visC_of h2) h3 h4) rfl
    · cases h
  | .int i, a, h => by
    simp only [chkE] at h
    split at h
    · simp only [decide_eq_true_eq] at h
      subst h
      exact .plain (pe_cM pe_int fun ω => .int _) rfl
    · cases h
  | .bl i, a, h => by
    simp only [chkE] at h
    split at h
    · simp only [decide_eq_true_eq] at h
      subst h
      exact .plain (pe_cM pe_bl fun ω => .bl _) rfl
    · cases h
  | .non, a, h => by
    simp only [chkE] at h
    split at h
    · exact .plain (pe_cM pe_non fun ω => .non) rfl
    · cases h
  | .str s, a, h => by
    simp only [chkE] at h
    split at h
    · simp only [Bool.and_eq_true, decide_eq_true_eq] at h
      obtain ⟨rfl, h2⟩ := h
      exact .plain (pe_cM pe_str fun ω => .str _ (by rw [sizeLine_eq]; exact h2)) rfl
    · cases h
  | .gv x i, a, h => by
    simp only [chkE] at h
    split at h
    · simp only [Bool.and_eq_true, Bool.not_eq_true', decide_eq_true_eq] at h
      obtain ⟨⟨⟨rfl, h2⟩, h3⟩, h4⟩ := h
      obtain ⟨t, hm⟩ := g.gis _ (any_dec h3)
      exact .plain (pe_cM (pe_glob (v := .int i) (g.gl h2) hm ⟨t, rfl⟩ h4) fun ω => .int _) rfl
    · cases h
  | .ty t, a, h => by
    simp only [chkE] at h
    split at h
    · simp only [Bool.and_eq_true, decide_eq_true_eq] at h
      obtain ⟨⟨⟨rfl, h2⟩, h3⟩, h4⟩ := h
      obtain ⟨b1, b2, b3⟩ := tyIn_boot t (by simpa using h2)
      exact .plain (pe_cM (pe_bltn (v := .ty t) (g.gl h3) (g.blts _ (any_dec h4)) b1 rfl b2 b3) fun ω => .ty _) rfl
    · cases h
  | .fn _ _, a, h => by simp only [chkE] at h; cases h
  | .tup es, a, h => by
    simp only [chkE] at h
    split at h
    · simp only [Bool.and_eq_true, decide_eq_true_eq] at h
      exact .plain (pe_tupM (okEs g es _ h.1) fun env A ds A' e => by rw [evs_len e]; exact h.2) rfl
    · cases h
  | .lst es, a, h => by
    simp only [chkE] at h
    split at h
    · simp only [Bool.and_eq_true, decide_eq_true_eq] at h
      exact .plain (pe_lstM (okEs g es _ h.1) fun env A ds A' e => by rw [evs_len e]; exact h.2) rfl
    · cases h
  | .lstM es, a, h => by
    simp only [chkE] at h
    split at h
    · simp only [Bool.and_eq_true, decide_eq_true_eq] at h
      exact .plain (pe_lstMM (okEs g es _ h.1) fun env A ds A' e => by rw [evs_len e]; exact h.2) rfl
    · cases h
  | .dkN, a, h => by
    simp only [chkE] at h
    split at h
    · exact .plain pe_dkM rfl
    · cases h
  | .dtN, a, h => by
    simp only [chkE] at h
    split at h
    · exact .plain pe_dtM rfl
    · cases h
  | .bin op e f, a, h => by
    simp only [chkE] at h
    split at h
    · simp only [Bool.and_eq_true] at h
      obtain ⟨⟨h1, h2⟩, h3⟩ := h
      obtain rfl := Bop.is_eq h1
      exact .plain (pe_binM op (okE g e _ h2).pe (okE g f _ h3).pe) rfl
    · cases h
  | .neg e, a, h => by
    simp only [chkE] at h
    split at h
    · have q := pe_negM (pos := ‹Pos›) (okE g e _ h).pe
      exact ⟨q, fun _ => pt_valM q (fun _ => rfl), fun _ op vs p e => by cases e⟩
    · cases h
  | .not e, a, h => by
    simp only [chkE] at h
    split at h
    · simp only [Bool.and_eq_true] at h
      exact .ofT (pe_notM (okE g e _ h.1).pe) (fun k => pt_notM ((okE g e _ h.1).pt h.2)) (fun _ _ _ e => by cases e)
    · cases h
  | .and e f, a, h => by
    simp only [chkE] at h
    split at h
    · simp only [Bool.and_eq_true] at h
      refine .ofW (pe_andM (okE g e _ h.1).pe (okE g f _ h.2).pe) fun k => ?_
      simp only [E.tOk, Bool.and_eq_true] at k
      exact pw_andM ((okE g e _ h.1).pt k.1) ((okE g f _ h.2).pw k.2 _ _ _ rfl)
    · cases h
  | .or e f, a, h => by
    simp only [chkE] at h
    split at h
    · simp only [Bool.and_eq_true] at h
      refine .ofW (pe_orM (okE g e _ h.1).pe (okE g f _ h.2).pe) fun k => ?_
      simp only [E.tOk, Bool.and_eq_true] at k
      exact pw_orM ((okE g e _ h.1).pt k.1) ((okE g f _ h.2).pw k.2 _ _ _ rfl)
    · cases h
  | .one e, a, h => by
    simp only [chkE] at h
    split at h
    · refine .ofW (pe_oneM (okE g e _ h).pe) fun k => pw_oneM ((okE g e _ h).pt (by simpa only [E.tOk] using k))
    · cases h
  | .ite e f d, a, h => by
    simp only [chkE] at h
    split at h
    · simp only [Bool.and_eq_true] at h
      obtain ⟨⟨⟨h1, h2⟩, h3⟩, h4⟩ := h
      exact .ofT (pe_iteM ((okE g e _ h1).pt h2) (okE g f _ h3).pe (okE g d _ h4).pe) (fun k => by simp only [E.tOk] at k; cases k) (fun _ _ _ e => by cases e)
    · cases h
  | .cmp op e f, a, h => by
    simp only [chkE] at h
    split at h
    · simp only [Bool.and_eq_true] at h
      obtain ⟨⟨⟨h1, h2⟩, h3⟩, h4⟩ := h
      obtain rfl := Cop.is_eq h1
      exact .ofT (pe_cmpM g.hu op (okE g e _ h2).pe (okE g f _ h3).pe (behind_none h4)) (fun _ => pt_cmpM g.hu op (okE g e _ h2).pe (okE g f _ h3).pe (behind_none h4)) (fun _ _ _ e => by cases e)
    · cases h
  | .chn p q e f d, a, h => by
    simp only [chkE] at h
    split at h
    · simp only [Bool.and_eq_true] at h
      obtain ⟨⟨⟨⟨⟨h1, h2⟩, h3⟩, h4⟩, h5⟩, h6⟩ := h
      obtain rfl := Cop.is_eq h1
      obtain rfl := Cop.is_eq h2
      exact .ofT (pe_chnM g.hu p q (okE g e _ h3).pe (okE g f _ h4).pe (okE g d _ h5).pe (behind_none h6)) (fun _ => pt_chnM g.hu p q (okE g e _ h3).pe (okE g f _ h4).pe (okE g d _ h5).pe (behind_none h6)) (fun _ _ _ e => by cases e)
    · cases h
  | .isN e neg, a, h => by
    simp only [chkE] at h
    split at h
    · simp only [Bool.and_eq_true] at h
      obtain rfl := isOp_eq h.1
      exact .ofT (pe_isNM (okE g e _ h.2).pe) (fun _ => pt_isNM (okE g e _ h.2).pe) (fun _ _ _ e => by cases e)
    · cases h
  | .isB e c neg, a, h => by
    simp only [chkE] at h
    split at h
    · simp only [Bool.and_eq_true, decide_eq_true_eq] at h
      obtain ⟨⟨h1, h2⟩, rfl⟩ := h
      obtain rfl := isOp_eq h1
      exact .ofT (pe_isBM (okE g e _ h2).pe) (fun _ => pt_isBM (okE g e _ h2).pe) (fun _ _ _ e => by cases e)
    · cases h
  | .idx e f, a, h => by
    simp only [chkE] at h
    split at h
    · simp only [Bool.and_eq_true] at h
      obtain ⟨⟨h1, h2⟩, h3⟩ := h
      exact .plain (pe_idxM g.hu (okE g e _ h1).pe (okE g f _ h2).pe (plainIx_of h3)) rfl
    · cases h
  | .slc e lo hi, a, h => by
    simp only [chkE] at h
    split at h
    · simp only [Bool.and_eq_true] at h
      obtain ⟨⟨h1, h2⟩, h3⟩ := h
      exact .plain (pe_slcM (okE g e _ h1).pe (okEo g lo _ h2) (okEo g hi _ h3)) rfl
    · cases h
  | .call f es, a, h => by
    simp only [chkE] at h
    split at h
    · rename_i x p as pos
      simp only [Bool.and_eq_true, Bool.not_eq_true'] at h
      obtain ⟨⟨⟨h1, h2⟩, h3⟩, h4⟩ := h
      split at h4
      · rename_i y ps hf
        simp only [Bool.and_eq_true, decide_eq_true_eq] at h4
        obtain ⟨rfl, hl⟩ := h4
        obtain ⟨k, hr, hk⟩ := g.k
        obtain ⟨⟨fd, G, hb, _⟩, hm, hkp⟩ := hk f x ps hf
        obtain ⟨hst, hlen⟩ := chkEs_star h1
        cases as with
        | nil =>
          cases es with
          | cons _ _ => simp [Es.len] at hlen
          | nil =>
            cases ps with
            | nil => exact .plain (pe_call0M G hr (g.gl h2) hm hkp hb pass0 h3) rfl
            | cons _ _ => simp [Es.len] at hl
        | cons b as =>
          simp only [List.all_cons, Bool.and_eq_true] at hst
          exact .plain (pe_callM G hr (g.gl h2) hm hkp hb pass0 (okEs g es _ h1) h3 (star_cons hst.1) (back_any hst.2) fun env A ds A' e => by rw [evs_len e]; exact hl) rfl
      · cases h4
    · cases h
  | .callK f es ks ix, a, h => by
    simp only [chkE] at h
    split at h
    · rename_i x p as kws pos
      simp only [Bool.and_eq_true, Bool.not_eq_true'] at h
      obtain ⟨⟨⟨⟨h1, h2⟩, h3⟩, h4⟩, h5⟩ := h
      split at h5
      · rename_i y ps hf
        simp only [Bool.and_eq_true, decide_eq_true_eq] at h5
        obtain ⟨⟨⟨⟨rfl, hn⟩, hq⟩, hkl⟩, hpl⟩ := h5
        obtain ⟨k, hr, hk⟩ := g.k
        obtain ⟨⟨fd, G, hb, hB⟩, hm, hkp⟩ := hk f x ps hf
        obtain ⟨hst, hlen⟩ := chkEs_star h1
        have hb := hB _ (any_dec hq) rfl
        have hpp : ∀ ds ws : List D, ds.length = es.len → ws.length = ((kwN kws).filterMap id).length → (placeV ds ws ix).length = ps.length := fun ds ws e1 e2 => by
          rw [← hpl]; exact place_len (by simp [e1]) (by simp [e2, hkl])
        cases as with
        | nil =>
          cases es with
          | cons _ _ => simp [Es.len] at hlen
          | nil => exact .plain (pe_callK0M G hr (g.gl h3) hm hkp hb (okKs g ks _ h2) hn h4 (fun env A ds A' e => by rw [evs_len e]; exact hkl) hpp) rfl
        | cons b as =>
          exact .plain (pe_callKM G hr (g.gl h3) hm hkp hb (okEs g es _ h1) (okKs g ks _ h2) hn h4 hst (fun env A ds A' e => evs_len e) (fun env A ds A' e => by rw [evs_len e]; exact hkl) hpp) rfl
      · cases h5
    · cases h
  | .bi b es, a, h => by
    simp only [chkE] at h
    split at h
    · rename_i x p as pos
      simp only [Bool.and_eq_true, decide_eq_true_eq] at h
      obtain ⟨⟨⟨⟨h1, h2⟩, rfl⟩, h4⟩, h5⟩ := h
      obtain ⟨hst, hlen⟩ := chkEs_star h1
      cases as with
      | nil => rw [← hlen] at h2; simp at h2
      | cons b' as =>
        simp only [List.all_cons, Bool.and_eq_true] at hst
        exact .plain (pe_biM b g.calm (g.gl h4) (g.blts _ (any_dec h5)) (okEs g es _ h1) (star_cons hst.1) (back_any hst.2)) rfl
    · cases h
  | .lrng _, a, h => by simp only [chkE] at h; cases h
  | .lstOf e, a, h => by
    simp only [chkE] at h
    split at h
    · simp only [Bool.and_eq_true, decide_eq_true_eq] at h
      obtain ⟨⟨⟨⟨rfl, h2⟩, h3⟩, h4⟩, h5⟩ := h
      exact .plain (pe_lstOfM (g.gl h2) (g.blts _ (any_dec h3)) (okE g e _ h4).pe (star_cons h5) rfl) rfl
    · cases h
  | .app o e, a, h => by
    simp only [chkE] at h
    split at h
    · simp only [Bool.and_eq_true, decide_eq_true_eq] at h
      obtain ⟨⟨⟨⟨⟨h1, h2⟩, rfl⟩, h4⟩, h5⟩, h6⟩ := h
      exact .plain (pe_appM (okE g o _ h1).pe (okE g e _ h2).pe (attr_base h4) (by rw [show starEach _ X.env = _ from star_cons h5]; rfl) h6 (star_cons h5) rfl) rfl
    · cases h
  | .comp m own tg it cs e, a, h => by
    simp only [chkE] at h
    split at h
    · rename_i elt t iter ifs k scope pos
      have L : LcOk F cl X own tg it cs e t iter elt ifs scope (ownP ct.N own) := by
        simp only [Bool.and_eq_true, decide_eq_true_eq] at h
        obtain ⟨⟨⟨⟨⟨⟨⟨⟨hk, h1⟩, h2⟩, h3⟩, h4⟩, h5⟩, h6⟩, h7⟩, h8⟩ := h
        have ok := blkOk_by h1
        exact ⟨okI g it _ _ h4, by rw [g.N, g.sc]; exact ok, h2, fun s H C cs' fp => okT (g.blk ok.kind s H C cs' fp) tg _ h5, fun s H C cs' fp => okC (g.blk ok.kind s H C cs' fp) cs _ h7, fun s H C cs' fp => (okE (g.blk ok.kind s H C cs' fp) e _ h8).pe,
          fold_none h3, fun j hj => by simpa using List.all_eq_true.mp h6 j hj⟩
      have hk : k = 0 := by
        simp only [Bool.and_eq_true, decide_eq_true_eq] at h
        exact h.1.1.1.1.1.1.1.1
      subst hk
      refine .plain ((pe_lc g.calm g.nd L.hi L.ok L.hg L.ht L.he L.hs).imp fun σ H Q q => ?_) rfl
      rw [L.eq]
      exact tLc_M L.sl (m := m) q
    · cases h
theorem okEo {ct : Ct} {F : Nat → Addr} {cl : Cl} {X : Cx} (g : Good ct F cl X) : ∀ (e : Eo) (a : Option Expr), chkEo ct e a = true → PO X a (tMo X.K F (evo cl e))
  | .no, a, h => by
    cases a with
    | none => exact po_noneM
    | some _ => simp [chkEo] at h
  | .yes e, a, h => by
    cases a with
    | none => simp [chkEo] at h
    | some b => exact po_someM (okE g e b (by simpa only [chkEo] using h)).pe
theorem okEs {ct : Ct} {F : Nat → Addr} {cl : Cl} {X : Cx} (g : Good ct F cl X) : ∀ (e : Es) (a : List Expr), chkEs ct e a = true → PA X a (tMs X.K F (evs cl e))
  | .nil, a, h => by
    cases a with
    | nil => exact pa_nilM
    | cons _ _ => simp [chkEs] at h
  | .cons e r, a, h => by
    cases a with
    | nil => simp [chkEs] at h
    | cons b as =>
      simp only [chkEs, Bool.and_eq_true] at h
      exact pa_consM (okE g e b h.1.1).pe (okEs g r as h.2) (star_cons h.1.2)
theorem okKs {ct : Ct} {F : Nat → Addr} {cl : Cl} {X : Cx} (g : Good ct F cl X) : ∀ (e : Es) (a : List Keyword), chkKs ct e a = true → PK X a (tMs X.K F (evs cl e))
  | .nil, a, h => by
    cases a with
    | nil => exact pk_nilM
    | cons _ _ => simp [chkKs] at h
  | .cons e r, a, h => by
    cases a with
    | nil => simp [chkKs] at h
    | cons b as =>
      obtain ⟨n, b, p⟩ := b
      simp only [chkKs, Bool.and_eq_true] at h
      exact pk_consM (okE g e b h.1).pe (okKs g r as h.2)
theorem okC {ct : Ct} {F : Nat → Addr} {cl : Cl} {X : Cx} (g : Good ct F cl X) : ∀ (e : Es) (a : List Expr), chkC ct e a = true → PTs X a (tMb X.K F (evt cl e))
  | .nil, a, h => by
    cases a with
    | nil =>
      refine pts_nil.imp fun σ H Q q => ?_
      obtain ⟨P, ω, env, A, rfl, hr, er, o⟩ := q
      exact o.here hr
    | cons _ _ => simp [chkC] at h
  | .cons e r, a, h => by
    simp only [chkC] at h
    split at h
    · simp only [Bool.and_eq_true] at h
      obtain ⟨⟨h1, h2⟩, h3⟩ := h
      cases r with
      | nil =>
        refine (pts_one ((okE g e _ h1).pt h2)).imp fun σ H Q q => ?_
        obtain ⟨P, ω, env, A, rfl, hr, er, o⟩ := q
        refine ⟨P, ω, env, A, rfl, hr, er, ?_⟩
        have e1 : evt cl (.cons e .nil) env A = tst (ev cl e env A) := by
          simp only [evt]
          exact tst_id _
        rw [e1] at o
        exact o
      | cons _ _ => cases h3
    · cases h
theorem okT {ct : Ct} {F : Nat → Addr} {cl : Cl} {X : Cx} (g : Good ct F cl X) : ∀ (e : T) (a : Expr), chkT ct e a = true → PG X a (gM X.K F e.slots (asg cl e))
  | .nm i, a, h => by
    simp only [chkT] at h
    split at h
    · simp only [Bool.and_eq_true, Bool.or_eq_true, decide_eq_true_eq] at h
      obtain ⟨⟨h1, h2⟩, h3⟩ := h
      exact pg_nmM g.nd (by rw [g.N]; exact h1) (by rw [g.sc]; exact locC_of h2) (h3.imp (fun h => g.fn _ h) fun h => by rw [g.sc]; exact ownC_of h)
    · cases h
  | .tup ts, a, h => by
    simp only [chkT] at h
    split at h
    · obtain ⟨h1, h2⟩ := chkTs_star h
      exact pg_tupM (L := ts.slots) g.calm (okTs g ts _ h) (ass_len h1) (ass_find h1) fun ds env A env' A' e => by rw [asgs_len e, h2]
    · cases h
  | .sub o i, a, h => by
    simp only [chkT] at h
    split at h
    · simp only [Bool.and_eq_true] at h
      obtain ⟨⟨h1, h2⟩, h3⟩ := h
      exact pg_subM g.hu (okE g o _ h1).pe (okE g i _ h2).pe (sub_plain h3)
    · cases h
theorem okTs {ct : Ct} {F : Nat → Addr} {cl : Cl} {X : Cx} (g : Good ct F cl X) : ∀ (e : Ts) (a : List Expr), chkTs ct e a = true → PGs X a (gMs X.K F e.slots (asgs cl e))
  | .nil, a, h => by
    cases a with
    | nil => exact pgs_nilM
    | cons _ _ => simp [chkTs] at h
  | .cons t r, a, h => by
    cases a with
    | nil => simp [chkTs] at h
    | cons b as =>
      simp only [chkTs, Bool.and_eq_true] at h
      exact pgs_consM (L := t.slots ++ r.slots) (gM_mono (okT g t b h.1.1) fun j hj => List.mem_append_left _ hj) (gMs_mono (okTs g r as h.2) fun j hj => List.mem_append_right _ hj) (by rw [ass_cons h.1.2]; rfl)
theorem okI {ct : Ct} {F : Nat → Addr} {cl : Cl} {X : Cx} (g : Good ct F cl X) : ∀ (e : I) (tg a : Expr), chkI ct e tg a = true → PI X tg a (iM X.K F (evi cl e))
  | .seq e, tg, a, h => pi_seqM (okE g e a (by simpa only [chkI] using h)).pe
  | .rng1 e, tg, a, h => by
    simp only [chkI] at h
    split at h
    · simp only [Bool.and_eq_true, decide_eq_true_eq] at h
      obtain ⟨⟨⟨⟨rfl, h2⟩, h3⟩, h4⟩, h5⟩ := h
      exact pi_rng1M (g.gl h2) (g.blts _ (any_dec h3)) (okE g e _ h4).pe (star_cons h5) (star_cons h5)
    · cases h
  | .rng2 e f, tg, a, h => by
    simp only [chkI] at h
    split at h
    · simp only [Bool.and_eq_true, decide_eq_true_eq] at h
      obtain ⟨⟨⟨⟨⟨⟨rfl, h2⟩, h3⟩, h4⟩, h5⟩, h6⟩, h7⟩ := h
      have s1 := star_cons (es := []) (env := X.env) h7
      have s2 := fun es => star_cons (es := es) (env := X.env) h5
      exact pi_rng2M (g.gl h2) (g.blts _ (any_dec h3)) (okE g e _ h4).pe (okE g f _ h6).pe (by rw [s2, s1]; rfl) s1 (s2 _) s1
    · cases h
  | .zip e f, tg, a, h => by
    simp only [chkI] at h
    split at h
    · simp only [Bool.and_eq_true, decide_eq_true_eq] at h
      obtain ⟨⟨⟨⟨⟨⟨⟨h0, rfl⟩, h2⟩, h3⟩, h4⟩, h5⟩, h6⟩, h7⟩ := h
      cases tg with
      | Tuple elts kk tpos => exact pi_zipM (g.gl h2) (g.blts _ (any_dec h3)) (okE g e _ h4).pe (okE g f _ h6).pe (star_cons h5) (star_cons h7) (back_any (by simp [h7]))
      | _ => cases h0
    · cases h
  | .zip3 e f d, tg, a, h => by
    simp only [chkI] at h
    split at h
    · simp only [Bool.and_eq_true, decide_eq_true_eq] at h
      obtain ⟨⟨⟨⟨⟨⟨⟨⟨⟨h0, rfl⟩, h2⟩, h3⟩, h4⟩, h5⟩, h6⟩, h7⟩, h8⟩, h9⟩ := h
      cases tg with
      | Tuple elts kk tpos => exact pi_zip3M (g.gl h2) (g.blts _ (any_dec h3)) (okE g e _ h4).pe (okE g f _ h6).pe (okE g d _ h8).pe (star_cons h5) (star_cons h7) (star_cons h9) (back_any (by simp [h7, h9]))
      | _ => cases h0
    · cases h
  | .enum _, tg, a, h => by simp only [chkI] at h; cases h
end
end Ev

set_option maxRecDepth 100000
/-! Ev14: the check of statements, and that it suffices -/
namespace Ev
open PySem PySem.Spec L2
theorem fm_lt {α β : Type} {f : α → Option β} : ∀ {l : List α}, (l.any fun x => (f x).isNone) = true → (l.filterMap f).length ≠ l.length
  | [], h => by simp at h
  | x :: l, h => by
    have hle := List.length_filterMap_le f l
    simp only [List.any_cons, Bool.or_eq_true] at h
    rw [List.filterMap_cons]
    cases e : f x with
    | none => simp only [List.length_cons]; omega
    | some y =>
      rw [e] at h
      have := fm_lt (l := l) (h.resolve_left (by simp))
      simp only [List.length_cons]; omega
def notOwn (sc : Scope) : Expr → Bool
  | .Name x _ => !ownC sc x
  | _ => true
theorem swapped_mixed {ts vs : List Expr} {k k2 : Nat} {p p2 : Pos} {env : PySem.Env} (h : ts.any (notOwn env.scope) = true) : swappedStores [.Tuple ts k p] (.Tuple vs k2 p2) env = pure none := by
  unfold swappedStores
  simp only
  split
  · rfl
  split
  · rfl
  split
  · rfl
  rename_i h1
  exfalso
  rw [Bool.or_eq_true, not_or] at h1
  refine h1.1 (bne_iff_ne.mpr (fm_lt ?_))
  obtain ⟨t, ht, e⟩ := List.any_eq_true.mp h
  refine List.any_eq_true.mpr ⟨t, ht, ?_⟩
  cases t with
  | Name x px =>
    have e : (!ownC env.scope x) = true := e
    have e2 : (env.kindOf x == some NameKind.local) = false := by
      rw [beq_eq_false_iff_ne]
      intro z
      have z : env.scope.names.lookup x = some .local := z
      unfold ownC at e
      rw [z] at e
      cases e
    simp [e2]
  | _ => rfl
theorem swapped_fold {ts vs : List Expr} {k k2 : Nat} {p p2 : Pos} {env : PySem.Env} (h : vs.all (foldedForSure 8) = true) : swappedStores [.Tuple ts k p] (.Tuple vs k2 p2) env = pure none := by
  unfold swappedStores
  simp only
  split
  · rfl
  split
  · rfl
  split
  · rfl
  first | rfl | (rw [if_pos h]; rfl)
theorem starred_none {vs : List Expr} (h : vs.all noStar = true) : (vs.any fun | .Starred .. => true | _ => false) = false := by
  rw [List.any_eq_false]
  intro x hx
  have := List.all_eq_true.mp h x hx
  cases x <;> first | exact absurd this Bool.false_ne_true | simp
theorem swapped_two {a b : Expr} {x y : Str} {px py p p2 : Pos} {k k2 : Nat} {env : PySem.Env} (hb : env.blockKind = .function) (hx : env.kindOf x = some .local) (hy : env.kindOf y = some .local) (hl : (px.line == py.line) = true) (hne : (x == y) = false)
    (hs : [a, b].all noStar = true) (hf : [a, b].all (foldedForSure 8) = false) (hc : [a, b].all (constantsAlone 8) = false) :
    swappedStores [.Tuple [.Name x px, .Name y py] k p] (.Tuple [a, b] k2 p2) env = pure (some [x, y]) := by
  have hl' : (py.line == px.line) = true := by rw [beq_iff_eq] at hl ⊢; exact hl.symm
  have hd : ([x, y] : List Str).eraseDups = [x, y] := by
    rw [List.eraseDups_cons]
    have : (y == x) = false := by rw [beq_eq_false_iff_ne] at hne ⊢; exact fun e => hne e.symm
    simp [this, List.eraseDups_cons]
  unfold swappedStores
  simp only [hf, hc, hb, hx, hy, Expr.pos, List.head?_cons, Option.map_some, Option.getD_some, List.filterMap_cons, List.filterMap_nil, hl', beq_self_eq_true, Bool.and_self, if_true, hd]
  rw [if_neg (by simp), if_neg (by rw [Bool.not_eq_true]; exact starred_none hs), if_neg (by simp), if_neg (by simp), if_neg (by simp)]
theorem swapped_three {a b c : Expr} {x y z : Str} {px py pz p p2 : Pos} {k k2 : Nat} {env : PySem.Env} (hb : env.blockKind = .function) (hx : env.kindOf x = some .local) (hy : env.kindOf y = some .local) (hz : env.kindOf z = some .local)
    (hl : (px.line == py.line) = true) (hl2 : (px.line == pz.line) = true) (hne : (x == y) = false) (hne2 : (x == z) = false) (hne3 : (y == z) = false)
    (hs : [a, b, c].all noStar = true) (hf : [a, b, c].all (foldedForSure 8) = false) (hc : [a, b, c].all (constantsAlone 8) = false) :
    swappedStores [.Tuple [.Name x px, .Name y py, .Name z pz] k p] (.Tuple [a, b, c] k2 p2) env = pure (some [x, y, z]) := by
  have hl' : (py.line == px.line) = true := by rw [beq_iff_eq] at hl ⊢; exact hl.symm
  have hl2' : (pz.line == px.line) = true := by rw [beq_iff_eq] at hl2 ⊢; exact hl2.symm
  have hd : ([x, y, z] : List Str).eraseDups = [x, y, z] := by
    have e1 : (y == x) = false := by rw [beq_eq_false_iff_ne] at hne ⊢; exact fun e => hne e.symm
    have e2 : (z == x) = false := by rw [beq_eq_false_iff_ne] at hne2 ⊢; exact fun e => hne2 e.symm
    have e3 : (z == y) = false := by rw [beq_eq_false_iff_ne] at hne3 ⊢; exact fun e => hne3 e.symm
    rw [List.eraseDups_cons]
    simp [e1, e2, List.eraseDups_cons, e3]
  unfold swappedStores
  simp only [hf, hc, hb, hx, hy, hz, Expr.pos, List.head?_cons, Option.map_some, Option.getD_some, List.filterMap_cons, List.filterMap_nil, hl', hl2', beq_self_eq_true, Bool.and_self, if_true, hd]
  rw [if_neg (by simp), if_neg (by rw [Bool.not_eq_true]; exact starred_none hs), if_neg (by simp), if_neg (by simp), if_neg (by simp)]

theorem swaps_cell {e t : Expr} {l : Nat} {env : PySem.Env} (h : notOwn env.scope t = true) : swapsWith e (some t) l env = pure false := by
  cases t with
  | Name x px =>
    have e1 : (!ownC env.scope x) = true := h
    have e2 : (env.kindOf x == some NameKind.local) = false := by
      rw [beq_eq_false_iff_ne]
      intro z
      have z : env.scope.names.lookup x = some .local := z
      unfold ownC at e1
      rw [z] at e1
      cases e1
    cases e <;> first | rfl | (unfold swapsWith; simp [e2])
  | _ => exact swaps_tgt rfl
/-- the stores of a tuple come in the written order -/
def swN (sc : Scope) (tg a : Expr) : Bool := noTup tg || noTup a || (match tg, a with
  | .Tuple ts _ _, .Tuple vs _ _ => ts.any (notOwn sc) || vs.all (foldedForSure 8)
  | _, _ => false)
theorem swN_of {tg a : Expr} {env : PySem.Env} (h : swN env.scope tg a = true) : swappedStores [tg] a env = pure none := by
  unfold swN at h
  rw [Bool.or_eq_true, Bool.or_eq_true] at h
  rcases h with (h | h) | h
  · exact swapped_none (.inl h)
  · exact swapped_none (.inr h)
  · split at h
    · rw [Bool.or_eq_true] at h
      exact h.elim swapped_mixed swapped_fold
    · cases h
/-- name = [..] on one line -/
def oneL (ct : Ct) (tg a : Expr) : Bool := match tg, a with
  | .Name y py, .ListComp _ _ scope cp => ownC ct.sc y && (py.line == cp.line) && !(scope.names.any fun (n, k) => n == y && (k == .local || k == .cell))
  | _, _ => false
def E.isComp : E → Bool
  | .comp _ _ _ _ _ _ => true
  | _ => false
def T.nmO : T → Option Nat
  | .nm i => some i
  | _ => none
def S.fzO : S → Option Nat
  | .frz i => some i
  | _ => none
mutual
def chkS (ct : Ct) : S → Stmt → Bool
  | .asg t e, st => match st with
    | .Assign [tg] a _ => chkE ct e a && chkT ct t tg && ((oneL ct tg a && e.isComp && t.nmO.isSome) || ((noComp a || notOwn ct.sc tg) && swN ct.sc tg a && noStar tg))
    | _ => false
  | .par is es, st => match st with
    | .Assign [.Tuple [.Name x px, .Name y py] _ _] (.Tuple [a, b] _ _) _ => (match is with
      | [i, j] => chkEs ct es [a, b] && decide (ct.N[i]? = some x) && decide (ct.N[j]? = some y) && decide (i ≠ j) && ownC ct.sc x && ownC ct.sc y && (px.line == py.line) && !(x == y) && [a, b].all noStar && !([a, b].all (foldedForSure 8)) && !([a, b].all (constantsAlone 8))
      | _ => false)
    | .Assign [.Tuple [.Name x px, .Name y py, .Name z pz] _ _] (.Tuple [a, b, c] _ _) _ => (match is with
      | [i, j, n] => chkEs ct es [a, b, c] && decide (ct.N[i]? = some x) && decide (ct.N[j]? = some y) && decide (ct.N[n]? = some z) && decide (i ≠ j) && decide (i ≠ n) && decide (j ≠ n) && ownC ct.sc x && ownC ct.sc y && ownC ct.sc z &&
          (px.line == py.line) && (px.line == pz.line) && !(x == y) && !(x == z) && !(y == z) && [a, b, c].all noStar && !([a, b, c].all (foldedForSure 8)) && !([a, b, c].all (constantsAlone 8))
      | _ => false)
    | _ => false
  | .ex e, st => match st with
    | .Expr a _ => chkE ct e a && noComp a
    | _ => false
  | .iff c a b, st => match st with
    | .If d as bs _ => chkE ct c d && c.tOk && chkSs ct a as && chkSs ct b bs
    | _ => false
  | .whl _ c a, st => match st with
    | .While d as [] _ => chkE ct c d && c.tOk && chkSs ct a as
    | _ => false
  | .for t it a, st => match st with
    | .For tg iter as [] _ => chkI ct it tg iter && chkT ct t tg && chkSs ct a as && noSet iter
    | _ => false
  | .ret e, st => match st with
    | .Return (some a) _ => chkE ct e a
    | _ => false
  | .retN, st => match st with
    | .Return none _ => true
    | _ => false
  | .pass, st => match st with
    | .Pass _ => true
    | _ => false
  | .brk, st => match st with
    | .Break _ => true
    | _ => false
  | .cnt, st => match st with
    | .Continue _ => true
    | _ => false
  | .never, _ => true
  | .frz _, _ => false
def chkSs (ct : Ct) : Ss → List Stmt → Bool
  | .nil, sts => sts.isEmpty
  | .cons s r, sts => match s.fzO with
    | some _ => chkSs ct r sts
    | none => match sts with
      | st :: sts => chkS ct s st && chkSs ct r sts
      | [] => false
end
theorem okAsg {ct : Ct} {F : Nat → Addr} {cl : Cl} {X : Cx} (g : Good ct F cl X) {t : T} {e : E} {tg a : Expr} {pos : Pos} (h1 : chkE ct e a = true) (h2 : chkT ct t tg = true) (h3 : ((oneL ct tg a && e.isComp && t.nmO.isSome) || ((noComp a || notOwn ct.sc tg) && swN ct.sc tg a && noStar tg)) = true) :
    PS X (.Assign [tg] a pos) (sM X.K F (evS cl (.asg t e))) := by
  rw [Bool.or_eq_true] at h3
  rcases h3 with h3 | h3
  · simp only [Bool.and_eq_true] at h3
    obtain ⟨⟨h3, h4⟩, h5⟩ := h3
    cases e with
    | comp m own tg' it cs e' =>
      cases t with
      | nm i =>
        unfold oneL at h3
        split at h3
        · rename_i y py elt gs scope cp
          simp only [Bool.and_eq_true, Bool.not_eq_true'] at h3
          obtain ⟨⟨q1, q2⟩, q3⟩ := h3
          simp only [chkT, Bool.and_eq_true, decide_eq_true_eq] at h2
          obtain ⟨⟨n1, n2⟩, n3⟩ := h2
          have hloc : X.env.scope.names.lookup y = some .local := by rw [g.sc]; exact ownC_of q1
          simp only [chkE] at h1
          split at h1
          · rename_i t1 iter ifs k _ _ heq
            cases heq
            simp only [Bool.and_eq_true, decide_eq_true_eq] at h1
            obtain ⟨⟨⟨⟨⟨⟨⟨⟨hk, b1⟩, b2⟩, b3⟩, b4⟩, b5⟩, b6⟩, b7⟩, b8⟩ := h1
            subst hk
            have ok := blkOk_by b1
            have h := ps_setLc (elt := elt) (ifs := ifs) (g := gM X.K F tg'.slots (asg cl tg')) (tt := tMb X.K F (evt cl cs)) (te := tM X.K F (ev cl e')) (spos := pos) (py := py) g.calm g.nd (by rw [g.N]; exact n1) hloc (sw_true g.kind hloc q2 q3) (okI g it _ _ b4) (by rw [g.N, g.sc]; exact ok) (fun s H C cs' fp => okT (g.blk ok.kind s H C cs' fp) tg' _ b5) (fun s H C cs' fp => okC (g.blk ok.kind s H C cs' fp) cs _ b7)
              (fun s H C cs' fp => (okE (g.blk ok.kind s H C cs' fp) e' _ b8).pe) (fold_none b3)
            refine h.imp fun D σ H q => ?_
            obtain ⟨P, ω, env, A, rfl, hr, er, o⟩ := q
            rw [b2]
            refine tLc_M (m := m) (fun j hj => by simpa using List.all_eq_true.mp b6 j hj) ⟨P, ω, env, A, rfl, hr, er, ?_⟩
            have o2 : Out X.K F P ω (bnd (ev cl (.comp m own tg' it cs e') env A) fun d A => (.ok (.nx, env.set i (some d)) A : Res (Fl × Env))) (finS X.K F D) := o
            exact o2.bnd.imp fun d ω1 A1 l k hr1 o1 v rv => o1.here hr1 _ ((er.le l).set i rv)
          · cases h1
        · cases h3
      | tup _ => cases h5
      | sub _ _ => cases h5
    | _ => cases h4
  · simp only [Bool.and_eq_true, Bool.or_eq_true] at h3
    obtain ⟨⟨h3, h4⟩, h5⟩ := h3
    have hs : swapsWithSole [tg] a pos.line X.env = pure false := h3.elim (fun h => swaps_none h) fun h => swaps_cell (by rw [g.sc]; exact h)
    exact ps_asgM (okE g e a h1).pe (okT g t tg h2) hs (swN_of (by rw [g.sc]; exact h4)) (by rw [ass_cons h5]; rfl)
theorem Good.local {ct : Ct} {F : Nat → Addr} {cl : Cl} {X : Cx} (g : Good ct F cl X) {x : Str} (h : ownC ct.sc x = true) : X.env.scope.names.lookup x = some .local := by rw [g.sc]; exact ownC_of h
theorem Good.block {ct : Ct} {F : Nat → Addr} {cl : Cl} {X : Cx} (g : Good ct F cl X) : X.env.blockKind = .function := by unfold PySem.Env.blockKind; rw [g.kind]; rfl
mutual
theorem okS {ct : Ct} {F : Nat → Addr} {cl : Cl} {X : Cx} (g : Good ct F cl X) : ∀ (s : S) (st : Stmt), chkS ct s st = true → PS X st (sM X.K F (evS cl s))
  | .asg t e, st, h => by
    simp only [chkS] at h
    split at h
    · rw [Bool.and_eq_true, Bool.and_eq_true] at h
      exact okAsg g h.1.1 h.1.2 h.2
    · cases h
  | .par is es, st, h => by
    simp only [chkS] at h
    split at h
    · split at h
      · simp only [Bool.and_eq_true, Bool.not_eq_true', decide_eq_true_eq] at h
        obtain ⟨⟨⟨⟨⟨⟨⟨⟨⟨⟨h1, h2⟩, h3⟩, h4⟩, h5⟩, h6⟩, h7⟩, h8⟩, h9⟩, h10⟩, h11⟩ := h
        exact ps_par2M g.calm g.nd (by rw [g.N]; exact h2) (by rw [g.N]; exact h3) h4 (g.local h5) (g.local h6) (okEs g es _ h1) (swapped_two g.block (g.local h5) (g.local h6) h7 h8 h9 h10 h11) rfl
          fun env A ds A' e => by rw [evs_len e, ← (chkEs_star h1).2]; rfl
      · cases h
    · split at h
      · simp only [Bool.and_eq_true, Bool.not_eq_true', decide_eq_true_eq] at h
        obtain ⟨⟨⟨⟨⟨⟨⟨⟨⟨⟨⟨⟨⟨⟨⟨⟨⟨h1, h2⟩, h3⟩, h4⟩, h5⟩, h6⟩, h7⟩, h8⟩, h9⟩, h10⟩, h11⟩, h12⟩, h13⟩, h14⟩, h15⟩, h16⟩, h17⟩, h18⟩ := h
        exact ps_par3M g.calm g.nd (by rw [g.N]; exact h2) (by rw [g.N]; exact h3) (by rw [g.N]; exact h4) h5 h6 h7 (g.local h8) (g.local h9) (g.local h10) (okEs g es _ h1)
          (swapped_three g.block (g.local h8) (g.local h9) (g.local h10) h11 h12 h13 h14 h15 h16 h17 h18) rfl fun env A ds A' e => by rw [evs_len e, ← (chkEs_star h1).2]; rfl
      · cases h
    · cases h
  | .ex e, st, h => by
    simp only [chkS] at h
    split at h
    · rw [Bool.and_eq_true] at h
      exact ps_exM (okE g e _ h.1).pe (swaps_none h.2)
    · cases h
  | .iff c a b, st, h => by
    simp only [chkS] at h
    split at h
    · simp only [Bool.and_eq_true] at h
      exact ps_iffM ((okE g c _ h.1.1.1).pt h.1.1.2) (okSs g a _ h.1.2) (okSs g b _ h.2)
    · cases h
  | .whl n c a, st, h => by
    simp only [chkS] at h
    split at h
    · simp only [Bool.and_eq_true] at h
      exact ps_whlM g.own ((okE g c _ h.1.1).pt h.1.2) (okSs g a _ h.2)
    · cases h
  | .for t it a, st, h => by
    simp only [chkS] at h
    split at h
    · simp only [Bool.and_eq_true] at h
      exact ps_forM g.own g.calm (okI g it _ _ h.1.1.1) (okT g t _ h.1.1.2) (okSs g a _ h.1.2) (fold_none h.2)
    · cases h
  | .ret e, st, h => by
    simp only [chkS] at h
    split at h
    · exact ps_retM (okE g e _ h).pe
    · cases h
  | .retN, st, h => by
    simp only [chkS] at h
    split at h
    · exact ps_retNM
    · cases h
  | .pass, st, h => by
    simp only [chkS] at h
    split at h
    · exact ps_passM
    · cases h
  | .brk, st, h => by
    simp only [chkS] at h
    split at h
    · exact ps_brkM
    · cases h
  | .cnt, st, h => by
    simp only [chkS] at h
    split at h
    · exact ps_cntM
    · cases h
  | .never, st, h => ps_neverM
  | .frz _, st, h => by simp only [chkS] at h; cases h
theorem okSs {ct : Ct} {F : Nat → Addr} {cl : Cl} {X : Cx} (g : Good ct F cl X) : ∀ (s : Ss) (st : List Stmt), chkSs ct s st = true → PSs X st (sM X.K F (evSs cl s))
  | .nil, st, h => by
    cases st with
    | nil => exact pss_nilM
    | cons _ _ => simp [chkSs] at h
  | .cons s r, st, h => by
    simp only [chkSs] at h
    split at h
    · rename_i i e
      have hs : s = .frz i := by cases s <;> first | (cases e; rfl) | cases e
      subst hs
      exact (okSs g r st h).imp fun D σ H q => frz_M q
    · cases st with
      | nil => cases h
      | cons st sts =>
        simp only [Bool.and_eq_true] at h
        exact pss_consM (okS g s st h.1) (okSs g r sts h.2)
end
end Ev

set_option maxRecDepth 100000
/-! Ev15: a whole text of defs -/
namespace Ev
open PySem PySem.Spec L2
/-- a def of the text: its name, its parameters, its names, its statement; what the evaluator makes of it -/
structure Dd where
  nm : Str
  ps : List Str
  N : List Str
  st : Stmt
  df : Df
def scC (N ps : List Str) (sc : Scope) : Bool := (match sc.kind with
  | .function => true
  | _ => false) && !sc.isCoroutine && !sc.isGenerator && decide N.Nodup && decide (N.take ps.length = ps) && (ps.all fun x => locC sc x) && (sc.names.all fun y => match y.2 with
  | .free => false
  | _ => true)
theorem scC_of {N ps : List Str} {sc : Scope} (h : scC N ps sc = true) : FnScope N ps sc := by
  unfold scC at h
  simp only [Bool.and_eq_true, Bool.not_eq_true', decide_eq_true_eq] at h
  obtain ⟨⟨⟨⟨⟨⟨h1, h2⟩, h3⟩, h4⟩, h5⟩, h6⟩, h7⟩ := h
  refine ⟨?_, h2, h3, h4, h5, fun x hx => locC_of (List.all_eq_true.mp h6 x hx), fun y hy e => ?_⟩
  · split at h1
    · assumption
    · cases h1
  · have := List.all_eq_true.mp h7 y hy
    rw [e] at this; cases this
def chkD (T : Tb) (d : Dd) : Bool := decide (d.df.np = d.ps.length) && decide (d.df.ns = d.N.length) && scC d.N d.ps (defScope d.st) && chkSs ⟨T, d.N, defScope d.st, fun _ => true⟩ d.df.body (defBody d.st)
/-- what is known of the def's object -/
structure DefAt (K : PySem.W.Frag) (mg : Str → Option Value) (T : Tb) (F : Nat → Addr) (i : Nat) (d : Dd) : Prop where
  ex : ∃ fd, Fun K d.nm d.nm d.st (F i) fd ∧ Binds K fd d.ps [] ∧ ∀ q ∈ T.kws, q.1 = i → KwB fd d.ps q.2.1 q.2.2.1 q.2.2.2
  mg : mg d.nm = some (.ref (F i))
section
variable {P : Program} {w : World} {K : PySem.W.Frag} {mg : Str → Option Value} {base : Heap} {F : Nat → Addr}
theorem start_env {ω : Wd} {ds : List D} {vs : List V} {N : List Str} (r : Reps K F ω ds vs) : EnvR K F ω (startE ds N.length) (L2.start N vs) := by
  refine ⟨?_, fun i d e => ?_⟩
  · unfold startE L2.start
    simp [r.len]
  · unfold startE at e
    unfold L2.start
    by_cases hi : i < ds.length
    · rw [List.getElem?_append_left (by simpa using hi), List.getElem?_map] at e
      cases e2 : ds[i]? with
      | none => rw [e2] at e; cases e
      | some d' =>
        rw [e2] at e; cases e
        obtain ⟨v, h1, h2⟩ := r.get e2
        refine ⟨v, ?_, h2⟩
        rw [List.getElem?_append_left (by simp; rw [← r.len]; exact hi), List.getElem?_map, h1]; rfl
    · rw [List.getElem?_append_right (by simpa using hi), List.getElem?_replicate] at e
      split at e <;> cases e
theorem all_ok {T : Tb} {Ds : List Dd} (hT : T.fns = Ds.map fun d => (d.nm, d.ps)) (hc : ∀ d ∈ Ds, chkD T d = true) (hD : ∀ (i : Nat) (d : Dd), Ds[i]? = some d → DefAt K mg T F i d)
    (hi : ∀ q ∈ T.gis, ∃ t, mg q.1 = some (.int q.2 t)) (hb : ∀ x ∈ T.blts, mg x = none) :
    ∀ (n i : Nat) (d : Dd), Ds[i]? = some d → ∀ fd, Fun K d.nm d.nm d.st (F i) fd → FnOk P w K mg base CX0 n (F i) fd d.ps (spM K F d.ps.length (callF (Ds.map Dd.df) n i))
  | 0, i, d, e, fd, G => ⟨fun vs H Q E h => h.1, fun A outer s H args us vs Q E hr e0 hb r h => by
      obtain ⟨_, P', ω, A', ds, _, _, _, o⟩ := h
      exact (show False from o).elim⟩
  | n + 1, i, d, e, fd, G => by
    have hd : d ∈ Ds := List.mem_of_getElem? e
    have hck := hc d hd
    unfold chkD at hck
    simp only [Bool.and_eq_true, decide_eq_true_eq] at hck
    obtain ⟨⟨⟨h1, h2⟩, h3⟩, h4⟩ := hck
    have S := scC_of h3
    refine G.ok S (fun vs H Q E h => h.1) fun cdv A outer s H vs Q E hr h => ?_
    obtain ⟨hl, P', ω, A', ds, rfl, hr1, rds, o⟩ := h
    let ct : Ct := ⟨T, d.N, defScope d.st, fun _ => true⟩
    have g : Good ct F (callF (Ds.map Dd.df) n) (cxOf CX0 P w K mg base d.N d.nm (defScope d.st) (F i) cdv A outer s ω.H E).nox :=
      ⟨rfl, S.kind, rfl, S.nd, rfl, fun _ _ => rfl, rfl, ⟨n, hr, fun j x ps e2 => by
        have e2 : T.fns[j]? = some (x, ps) := e2
        rw [hT, List.getElem?_map] at e2
        cases e3 : Ds[j]? with
        | none => rw [e3] at e2; cases e2
        | some d2 =>
          rw [e3] at e2; cases e2
          obtain ⟨⟨fd2, G2, b2, k2⟩, m2⟩ := hD j d2 e3
          exact ⟨⟨fd2, all_ok hT hc hD hi hb n j d2 e3 fd2 G2, b2, k2⟩, m2, G2.kp⟩⟩, hi, hb⟩
    refine ⟨_, okSs g d.df.body (defBody d.st) h4, P', ω, startE ds d.df.ns, A', rfl, hr1, by rw [h2]; exact start_env rds, ?_⟩
    have e5 : callF (Ds.map Dd.df) (n + 1) i ds A' = runDf (callF (Ds.map Dd.df) n) d.df ds A' := by
      simp only [callF, List.getElem?_map, e, Option.map_some]
    rw [e5] at o
    unfold runDf at o
    rw [if_pos (by rw [h1, rds.len]; exact hl)] at o
    have key : ∀ q A1, evSs (callF (Ds.map Dd.df) n) d.df.body (startE ds d.df.ns) A' = .ok q A1 → ∀ ω1, Le ω ω1 → Pk P' ω ω1 → HR K F P' ω1 A1 → finS K F { nx := fun _ H' => Q .non H', rt := Q } q ω1 A1 := by
      intro q A1 e6 ω1 l k hr2
      rw [e6] at o
      obtain ⟨fl, env1⟩ := q
      cases fl with
      | nx => exact fun σ' er' => finish_M hr1 l k hr2 .non o
      | rt dv => exact fun v rv => finish_M hr1 l k hr2 rv o
      | bk => exact (show False from o).elim
      | ct => exact (show False from o).elim
    cases e6 : evSs (callF (Ds.map Dd.df) n) d.df.body (startE ds d.df.ns) A' with
    | ok q A1 => exact key q A1 e6
    | exc _ _ _ => rw [e6] at o; exact (show False from o).elim
    | bad => rw [e6] at o; exact (show False from o).elim
/-- the law's own end -/
def spEnd (K : PySem.W.Frag) : Sp := fun vs H Q _ => ∃ (a : Addr) (ns : List Int), vs = [.ref a] ∧ SqL K H a (ns.map V.int) ∧ ns.length ≤ 63 ∧ ∀ H', Q (.bl true) H'
theorem ints_rep {ω : Wd} : ∀ ns : List Int, Reps K F ω (ns.map D.int) (ns.map V.int)
  | [] => .nil
  | n :: ns => .cons (.int n) (ints_rep ns)
theorem hr_nil (H : Hp) : HR K F (fun _ => False) ⟨[], fun _ => False, H⟩ [] := by
  refine ⟨rfl, List.nodup_nil, ?_, ?_, ?_, ?_, ?_⟩
  · intro a ha; cases ha
  · intro a ha; exact ha.elim
  · intro a ha; exact ha.elim
  · intro a
    refine ⟨fun z => z.elim, fun z => ?_⟩
    rcases z with z | ⟨n, o, z, _⟩
    · exact z.elim
    · rw [List.getElem?_nil] at z; cases z
  · intro n o a z; rw [List.getElem?_nil] at z; cases z
theorem end_ok {f : List D → AH → Res D} (h : ∀ ns : List Int, ns.length ≤ 63 → f [.kl (ns.map D.int)] [] = .ok (.bl true) []) : ∀ vs H Q E, spEnd K vs H Q E → spM K F 1 f vs H Q E := by
  intro vs H Q E ⟨a, ns, e, hs, hl, q⟩
  subst e
  refine ⟨rfl, fun _ => False, ⟨[], fun _ => False, H⟩, [], [.kl (ns.map D.int)], rfl, hr_nil H, .cons (.kl ?_ ?_ (ints_rep ns)) .nil, ?_⟩
  · exact hs.imp (fun r => ⟨id, r⟩) id
  · rw [sizeLine_eq, List.length_map]; exact Nat.le_trans hl (by decide)
  · rw [h ns hl]
    intro ω' l k hr v rv
    rw [Rep.bl_inv rv]; exact q _
/-- the goal that all_mk of the worked proofs has -/
theorem law_ok {T : Tb} {Ds : List Dd} {i k : Nat} {d : Dd} {fa : Addr} (hT : T.fns = Ds.map fun d => (d.nm, d.ps)) (hc : ∀ d ∈ Ds, chkD T d = true) (hD : ∀ (i : Nat) (d : Dd), Ds[i]? = some d → DefAt K mg T F i d)
    (hi : ∀ q ∈ T.gis, ∃ t, mg q.1 = some (.int q.2 t)) (hb : ∀ x ∈ T.blts, mg x = none) (e : Ds[i]? = some d) (hps : d.ps = [Str.ofString "script"]) (hfa : mg d.nm = some (.ref fa))
    (hbt : ∀ fd, Fun K d.nm d.nm d.st fa fd → ∀ (s : Shared) (u : Value), BindsTo s fd ⟨[u], []⟩ [(Str.ofString "script", u)])
    (h : ∀ ns : List Int, ns.length ≤ 63 → callF (Ds.map Dd.df) k i [.kl (ns.map D.int)] [] = .ok (.bl true) []) :
    ∃ fd : FuncData, (∀ (s : Shared) (u : Value), BindsTo s fd ⟨[u], []⟩ [(Str.ofString "script", u)]) ∧ ∀ base : Heap, FnOk P w K mg base CX0 k fa fd [Str.ofString "script"] (spEnd K) := by
  obtain ⟨⟨fd, G, _, _⟩, m⟩ := hD i d e
  have : fa = F i := by rw [hfa] at m; cases m; rfl
  subst this
  refine ⟨fd, hbt fd G, fun base => ?_⟩
  have h2 := all_ok (P := P) (w := w) (base := base) hT hc hD hi hb k i d e fd G
  rw [hps] at h2
  exact h2.imp (end_ok h)
end
end Ev

set_option maxRecDepth 100000
/-! Ev16: what the top has written, def by def -/
namespace Ev
open PySem PySem.Spec L2
def AllI (P : Nat → Dd → Prop) : Nat → List Dd → Prop
  | _, [] => True
  | n, d :: ds => P n d ∧ AllI P (n + 1) ds
theorem AllI.get {P : Nat → Dd → Prop} : ∀ {ds : List Dd} {n i : Nat} {d : Dd}, AllI P n ds → ds[i]? = some d → P (n + i) d
  | [], n, i, d, _, e => by simp at e
  | x :: ds, n, 0, d, h, e => by simp at e; subst e; exact h.1
  | x :: ds, n, i + 1, d, h, e => by
    have := AllI.get (i := i) h.2 (by simpa using e)
    rw [show n + (i + 1) = n + 1 + i by omega]; exact this
/-- how a def's arguments are bound -/
def BindP (_ : Nat) (d : Dd) : Prop := ∀ (kV doc pm : Value) (an : Option Addr) (cdv ct : Value) (us : List Value), us.length = d.ps.length → bindArgs (PySem.W.fnOf d.nm d.nm (defArgs d.st) (defBody d.st) (defScope d.st) .none kV doc pm an cdv ct) ⟨us, []⟩ = pure (d.ps.zip us)
def KwP (Ds : List Dd) (q : Nat × Nat × List Str × List Nat) : Prop := ∀ d, Ds[q.1]? = some d → ∀ (kV doc pm : Value) (an : Option Addr) (cdv ct : Value) (us ws : List Value), us.length = q.2.1 → ws.length = q.2.2.1.length →
  bindArgs (PySem.W.fnOf d.nm d.nm (defArgs d.st) (defBody d.st) (defScope d.st) .none kV doc pm an cdv ct) ⟨us, q.2.2.1.zip ws⟩ = pure (d.ps.zip (placeV us ws q.2.2.2))
def AllQ {α : Type} (P : α → Prop) : List α → Prop
  | [] => True
  | q :: qs => P q ∧ AllQ P qs
theorem AllQ.get {α : Type} {P : α → Prop} : ∀ {qs : List α}, AllQ P qs → ∀ q ∈ qs, P q
  | [], _, q, h => by cases h
  | x :: qs, h, q, hq => (List.mem_cons.mp hq).elim (fun e => e ▸ h.1) fun hq => AllQ.get h.2 q hq
structure DA (K : PySem.W.Frag) (d : Dd) (f : Addr) : Prop where
  ns : PySem.W.nsIn K mainGlobals d.nm = some (some (.ref f))
  ex : ∃ (oc : Value) (od : Option Addr) (kV doc pm : Value) (an : Option Addr) (cdv ct : Value) (osl : Array (Option Value)), K.lookup f = some ⟨oc, od, .func (PySem.W.fnOf d.nm d.nm (defArgs d.st) (defBody d.st) (defScope d.st) .none kV doc pm an cdv ct), osl⟩ ∧ PySem.W.codeIn K cdv d.nm = true
  kp : PySem.W.keepIn K (.ref f) = true
theorem da_then {Q : Prop} {K : PySem.W.Frag} {h : Heap} (_ : K.In h) {d : Dd} {n : Str} (hn : d.nm = n) {f : Addr} {oc : Value} {od an : Option Addr} {osl : Array (Option Value)} {kV doc pm cdv ct : Value} (a : PySem.W.nsIn K mainGlobals n = some (some (.ref f)))
    (l : K.lookup f = some ⟨oc, od, .func (PySem.W.fnOf n n (defArgs d.st) (defBody d.st) (defScope d.st) .none kV doc pm an cdv ct), osl⟩) (c : PySem.W.codeIn K cdv n = true) (k : PySem.W.keepIn K (.ref f) = true) (z : (∃ f, DA K d f) → Q) : Q := by
  subst hn
  exact z ⟨f, a, ⟨_, _, _, _, _, _, _, _, _, l, c⟩, k⟩
theorem gi_then {Q : Prop} {K : PySem.W.Frag} {h : Heap} (_ : K.In h) {n : Str} {i : Int} {t : Tok} (a : PySem.W.nsIn K mainGlobals n = some (some (.int i t))) (z : (∃ t, PySem.W.nsIn K mainGlobals n = some (some (.int i t))) → Q) : Q := z ⟨t, a⟩
theorem bl_then {Q : Prop} {K : PySem.W.Frag} {h : Heap} (_ : K.In h) {n : Str} (a : PySem.W.nsIn K mainGlobals n = some none) (z : PySem.W.nsIn K mainGlobals n = some none → Q) : Q := z a
def FOf (K : PySem.W.Frag) (Ds : List Dd) (i : Nat) : Addr := match Ds[i]? with
  | some d => (match PySem.W.nsIn K mainGlobals d.nm with
    | some (some (.ref f)) => f
    | _ => 0)
  | none => 0
theorem law_mk {P : Program} {w : World} {K : PySem.W.Frag} {h : Heap} {mg : Str → Option Value} {fa : Addr} {T : Tb} {Ds : List Dd} {i k : Nat} {d : Dd} (KX : K.In h) (G : h.Ns mainGlobals mg) (hfa : mg d.nm = some (.ref fa))
    (hT : T.fns = Ds.map fun d => (d.nm, d.ps)) (hc : Ds.all (fun d => chkD T d) = true) (hB : AllI BindP 0 Ds) (hK : AllQ (KwP Ds) T.kws) (hA : AllI (fun _ d => ∃ f, DA K d f) 0 Ds)
    (gi : AllQ (fun q : Str × Int => ∃ t, PySem.W.nsIn K mainGlobals q.1 = some (some (.int q.2 t))) T.gis) (bl : AllQ (fun x => PySem.W.nsIn K mainGlobals x = some none) T.blts) (e : Ds[i]? = some d) (hps : d.ps = [Str.ofString "script"])
    (hlaw : ∀ ns : List Int, ns.length ≤ 63 → callF (Ds.map Dd.df) k i [.kl (ns.map D.int)] [] = .ok (.bl true) []) :
    ∃ fd : FuncData, (∀ (s : Shared) (u : Value), BindsTo s fd ⟨[u], []⟩ [(Str.ofString "script", u)]) ∧ ∀ base : Heap, K.In base → base.Ns mainGlobals mg → FnOk P w K mg base CX0 k fa fd [Str.ofString "script"] (spEnd K) := by
  have hD : ∀ (i : Nat) (d : Dd), Ds[i]? = some d → DefAt K mg T (FOf K Ds) i d := fun i d e => by
    obtain ⟨f, a⟩ := hA.get e
    have hF : FOf K Ds i = f := by unfold FOf; rw [e]; simp only [a.ns]
    have b := hB.get e
    rw [Nat.zero_add] at b
    obtain ⟨oc, od, kV, doc, pm, an, cdv, ct, osl, l, c⟩ := a.ex
    refine ⟨⟨_, by rw [hF]; exact fun_mk l c a.kp, .all (b kV doc pm an cdv ct), fun q hq hi s us ws h1 h2 => .of_eq (hK.get q hq d (by rw [hi]; exact e) kV doc pm an cdv ct us ws h1 h2)⟩, by rw [hF]; exact PySem.W.mg_of KX G a.ns⟩
  have bt : ∀ fd, Fun K d.nm d.nm d.st fa fd → ∀ (s : Shared) (u : Value), BindsTo s fd ⟨[u], []⟩ [(Str.ofString "script", u)] := fun fd Gf s u => by
    obtain ⟨oc, od, kV, doc, pm, an, cdv, ct, osl, rfl, lk, hcd⟩ := Gf.ex
    have b := (hB.get e) kV doc pm an cdv ct
    have := b [u] (by rw [hps]; rfl)
    rw [hps] at this
    exact .of_eq this
  obtain ⟨fd, h1, h2⟩ := law_ok (P := P) (w := w) (k := k) hT (fun d hd => List.all_eq_true.mp hc d hd) hD (fun q hq => let ⟨t, z⟩ := gi.get q hq; ⟨t, PySem.W.mg_of KX G z⟩) (fun x hx => PySem.W.mg_none_of KX G (bl.get x hx)) e hps hfa bt hlaw
  exact ⟨fd, h1, fun base _ _ => h2 base⟩
end Ev

set_option maxRecDepth 100000
/-! Pl0: the evaluator's steps as rows for simp; states with one pool -/
namespace Ev
open PySem (Str)
section
variable {cl : Cl} {env : Env} {A : AH}
@[simp] theorem ev_var (i : Nat) : ev cl (.var i) env A = (match env[i]? with | some (some d) => .ok d A | _ => .bad) := (Eq.refl _).trans rfl
@[simp] theorem ev_int (i : Int) : ev cl (.int i) env A = .ok (.int i) A := (Eq.refl _).trans rfl
@[simp] theorem ev_bl (b : Bool) : ev cl (.bl b) env A = .ok (.bl b) A := (Eq.refl _).trans rfl
@[simp] theorem ev_non : ev cl .non env A = .ok .non A := (Eq.refl _).trans rfl
@[simp] theorem ev_str (s : Str) : ev cl (.str s) env A = .ok (.str s) A := (Eq.refl _).trans rfl
@[simp] theorem ev_gv (x : Str) (i : Int) : ev cl (.gv x i) env A = .ok (.int i) A := (Eq.refl _).trans rfl
@[simp] theorem ev_ty (t : String) : ev cl (.ty t) env A = .ok (.ty t) A := (Eq.refl _).trans rfl
@[simp] theorem ev_tup (es : Es) : ev cl (.tup es) env A = bnd (evs cl es env A) fun ds A => .ok (.tup ds) A := (Eq.refl _).trans rfl
@[simp] theorem ev_lst (es : Es) : ev cl (.lst es) env A = bnd (evs cl es env A) fun ds A => .ok (.lst ds) A := (Eq.refl _).trans rfl
@[simp] theorem ev_lstM (es : Es) : ev cl (.lstM es) env A = bnd (evs cl es env A) fun ds A => .ok (.ref A.length) (A ++ [.lst ds]) := (Eq.refl _).trans rfl
@[simp] theorem ev_dkN : ev cl .dkN env A = .ok (.ref A.length) (A ++ [.dk [] []]) := (Eq.refl _).trans rfl
@[simp] theorem ev_dtN : ev cl .dtN env A = .ok (.ref A.length) (A ++ [.dt [] []]) := (Eq.refl _).trans rfl
@[simp] theorem ev_bin (op : Bop) (a b : E) : ev cl (.bin op a b) env A = bnd (ev cl a env A) fun x A => bnd (ev cl b env A) fun y A => ofO (binO A op x y) A := (Eq.refl _).trans rfl
@[simp] theorem ev_neg (a : E) : ev cl (.neg a) env A = bnd (ev cl a env A) fun x A => match x with
    | .int i => .ok (.int (-i)) A
    | _ => .bad := (Eq.refl _).trans rfl
@[simp] theorem ev_not (a : E) : ev cl (.not a) env A = bnd (tst (ev cl a env A)) fun b A => .ok (.bl (!b)) A := (Eq.refl _).trans rfl
@[simp] theorem ev_and (a b : E) : ev cl (.and a b) env A = bnd (ev cl a env A) fun x A => bnd (ofO (truO A x) A) fun t A => if t = true then ev cl b env A else .ok x A := (Eq.refl _).trans rfl
@[simp] theorem ev_or (a b : E) : ev cl (.or a b) env A = bnd (ev cl a env A) fun x A => bnd (ofO (truO A x) A) fun t A => if t = true then .ok x A else ev cl b env A := (Eq.refl _).trans rfl
@[simp] theorem ev_one (a : E) : ev cl (.one a) env A = ev cl a env A := (Eq.refl _).trans rfl
@[simp] theorem ev_ite (c a b : E) : ev cl (.ite c a b) env A = bnd (tst (ev cl c env A)) fun t A => if t = true then ev cl a env A else ev cl b env A := (Eq.refl _).trans rfl
@[simp] theorem ev_cmp (op : Cop) (a b : E) : ev cl (.cmp op a b) env A = bnd (ev cl a env A) fun x A => bnd (ev cl b env A) fun y A => ofO ((cmpO A op x y).map .bl) A := (Eq.refl _).trans rfl
@[simp] theorem ev_chn (p q : Cop) (a b c : E) : ev cl (.chn p q a b c) env A = bnd (ev cl a env A) fun x A => bnd (ev cl b env A) fun y A => bnd (ofO (cmpO A p x y) A) fun t A =>
      if t = true then bnd (ev cl c env A) fun z A => ofO ((cmpO A q y z).map .bl) A else .ok (.bl false) A := (Eq.refl _).trans rfl
@[simp] theorem ev_isN (a : E) (neg : Bool) : ev cl (.isN a neg) env A = bnd (ev cl a env A) fun x A => .ok (.bl (decide (x = .non) != neg)) A := (Eq.refl _).trans rfl
@[simp] theorem ev_isB (a : E) (b neg : Bool) : ev cl (.isB a b neg) env A = bnd (ev cl a env A) fun x A => .ok (.bl (decide (x = .bl b) != neg)) A := (Eq.refl _).trans rfl
@[simp] theorem ev_idx (a b : E) : ev cl (.idx a b) env A = bnd (ev cl a env A) fun x A => bnd (ev cl b env A) fun y A => ofO (idxO A x y) A := (Eq.refl _).trans rfl
@[simp] theorem ev_slc (a : E) (lo hi : Eo) : ev cl (.slc a lo hi) env A = bnd (ev cl a env A) fun x A => bnd (evo cl lo env A) fun l A => bnd (evo cl hi env A) fun h A => ofO (slcO A x l h) A := (Eq.refl _).trans rfl
@[simp] theorem ev_call (f : Nat) (es : Es) : ev cl (.call f es) env A = bnd (evs cl es env A) fun ds A => cl f ds A := (Eq.refl _).trans rfl
@[simp] theorem ev_callK (f : Nat) (es ks : Es) (ix : List Nat) : ev cl (.callK f es ks ix) env A = bnd (evs cl es env A) fun ds A => bnd (evs cl ks env A) fun ws A => cl f (placed ds ws ix) A := (Eq.refl _).trans rfl
@[simp] theorem ev_bi (b : Bi) (es : Es) : ev cl (.bi b es) env A = bnd (evs cl es env A) fun ds A => ofO (biO A b ds) A := (Eq.refl _).trans rfl
@[simp] theorem ev_lstOf (a : E) : ev cl (.lstOf a) env A = bnd (ev cl a env A) fun x A => bnd (ofO (seqO (shal A x)) A) fun xs A => .ok (.ref A.length) (A ++ [.lst xs]) := (Eq.refl _).trans rfl
@[simp] theorem ev_app (o a : E) : ev cl (.app o a) env A = bnd (ev cl o env A) fun x A => bnd (ofO (lstR A x) A) fun _ A => bnd (ev cl a env A) fun y A => bnd (ofO (appO A x y) A) fun A1 _ => .ok .non A1 := (Eq.refl _).trans rfl
theorem ev_comp (m : Bool) (own : List Nat) (tg : T) (it : I) (cs : Es) (e : E) : ev cl (.comp m own tg it cs e) env A = bnd (evi cl it env A) fun xs A => bnd (calm (compL (fun d => asg cl tg d) (fun env A => evt cl cs env A) (fun env A => ev cl e env A) (wipe env own) xs A)) fun ds A =>
      if ds.length ≤ lim then (if m = true then .ok (.ref A.length) (A ++ [.lst ds]) else .ok (.lst ds) A) else .bad := (Eq.refl _).trans rfl
@[simp] theorem evo_no : evo cl .no env A = .ok none A := (Eq.refl _).trans rfl
@[simp] theorem evo_yes (e : E) : evo cl (.yes e) env A = bnd (ev cl e env A) fun x A => ofO ((intO x).map some) A := (Eq.refl _).trans rfl
@[simp] theorem evs_nil : evs cl .nil env A = .ok [] A := (Eq.refl _).trans rfl
@[simp] theorem evs_cons (e : E) (r : Es) : evs cl (.cons e r) env A = bnd (ev cl e env A) fun d A => bnd (evs cl r env A) fun ds A => .ok (d :: ds) A := (Eq.refl _).trans rfl
@[simp] theorem evt_nil : evt cl .nil env A = .ok true A := (Eq.refl _).trans rfl
@[simp] theorem evt_cons (e : E) (r : Es) : evt cl (.cons e r) env A = bnd (tst (ev cl e env A)) fun t A => if t = true then evt cl r env A else .ok false A := (Eq.refl _).trans rfl
@[simp] theorem asg_nm (i : Nat) (d : D) : asg cl (.nm i) d env A = .ok (env.set i (some d)) A := (Eq.refl _).trans rfl
@[simp] theorem asg_tup (ts : Ts) (d : D) : asg cl (.tup ts) d env A = bnd (ofO (tupO d) A) fun xs A => asgs cl ts xs env A := (Eq.refl _).trans rfl
@[simp] theorem asg_sub (o i : E) (d : D) : asg cl (.sub o i) d env A = bnd (ev cl o env A) fun x A => bnd (ev cl i env A) fun y A => bnd (ofO (setO A x y d) A) fun A1 _ => .ok env A1 := (Eq.refl _).trans rfl
@[simp] theorem asgs_nil : asgs cl .nil [] env A = .ok env A := (Eq.refl _).trans rfl
@[simp] theorem asgs_cons (t : T) (r : Ts) (d : D) (ds : List D) : asgs cl (.cons t r) (d :: ds) env A = bnd (asg cl t d env A) fun env A => asgs cl r ds env A := (Eq.refl _).trans rfl
@[simp] theorem evi_seq (e : E) : evi cl (.seq e) env A = bnd (ev cl e env A) fun x A => ofO (seqO x) A := (Eq.refl _).trans rfl
@[simp] theorem evi_rng1 (a : E) : evi cl (.rng1 a) env A = bnd (ev cl a env A) fun x A => match x with
    | .int j => if rngOk j then .ok (upto 0 j.toNat) A else .bad
    | _ => .bad := (Eq.refl _).trans rfl
@[simp] theorem evi_rng2 (a b : E) : evi cl (.rng2 a b) env A = bnd (ev cl a env A) fun x A => bnd (ev cl b env A) fun y A => match x, y with
    | .int i, .int j => if rngOk i ∧ rngOk j then .ok (upto i (j - i).toNat) A else .bad
    | _, _ => .bad := (Eq.refl _).trans rfl
@[simp] theorem evi_zip (a b : E) : evi cl (.zip a b) env A = bnd (ev cl a env A) fun x A => bnd (ev cl b env A) fun y A => bnd (ofO (zipO x y) A) fun q A => .ok (zip2 q.1 q.2) A := (Eq.refl _).trans rfl
@[simp] theorem evi_zip3 (a b c : E) : evi cl (.zip3 a b c) env A = bnd (ev cl a env A) fun x A => bnd (ev cl b env A) fun y A => bnd (ev cl c env A) fun z A =>
      bnd (ofO (seqO x) A) fun xs A => bnd (ofO (seqO y) A) fun ys A => bnd (ofO (seqO z) A) fun zs A => .ok (zip3 xs ys zs) A := (Eq.refl _).trans rfl
@[simp] theorem evS_asg (t : T) (e : E) : evS cl (.asg t e) env A = bnd (ev cl e env A) fun d A => bnd (asg cl t d env A) fun env A => .ok (.nx, env) A := (Eq.refl _).trans rfl
@[simp] theorem evS_par (is : List Nat) (es : Es) : evS cl (.par is es) env A = bnd (evs cl es env A) fun ds A => if ds.length = is.length then .ok (.nx, setPar is ds env) A else .bad := (Eq.refl _).trans rfl
@[simp] theorem evS_ex (e : E) : evS cl (.ex e) env A = bnd (ev cl e env A) fun _ A => .ok (.nx, env) A := (Eq.refl _).trans rfl
@[simp] theorem evS_iff (c : E) (a b : Ss) : evS cl (.iff c a b) env A = bnd (tst (ev cl c env A)) fun t A => if t = true then evSs cl a env A else evSs cl b env A := (Eq.refl _).trans rfl
theorem evS_whl (n : Nat) (c : E) (a : Ss) : evS cl (.whl n c a) env A = whlL (fun env A => tst (ev cl c env A)) (fun env A => evSs cl a env A) n env A := (Eq.refl _).trans rfl
theorem evS_for (t : T) (it : I) (a : Ss) : evS cl (.for t it a) env A = bnd (evi cl it env A) fun xs A => forL (fun d => asg cl t d) (fun env A => evSs cl a env A) xs env A := (Eq.refl _).trans rfl
@[simp] theorem evS_ret (e : E) : evS cl (.ret e) env A = bnd (ev cl e env A) fun d A => .ok (.rt d, env) A := (Eq.refl _).trans rfl
@[simp] theorem evS_retN : evS cl .retN env A = .ok (.rt .non, env) A := (Eq.refl _).trans rfl
@[simp] theorem evS_pass : evS cl .pass env A = .ok (.nx, env) A := (Eq.refl _).trans rfl
@[simp] theorem evS_brk : evS cl .brk env A = .ok (.bk, env) A := (Eq.refl _).trans rfl
@[simp] theorem evS_cnt : evS cl .cnt env A = .ok (.ct, env) A := (Eq.refl _).trans rfl
@[simp] theorem evSs_nil : evSs cl .nil env A = .ok (.nx, env) A := (Eq.refl _).trans rfl
/-- the rest of a suite -/
def nextS (cl : Cl) (r : Ss) (f : Fl × Env) (A : AH) : Res (Fl × Env) := match f.1 with
  | .nx => evSs cl r f.2 A
  | _ => .ok f A
@[simp] theorem nextS_nx (r : Ss) : nextS cl r (.nx, env) A = evSs cl r env A := (Eq.refl _).trans rfl
@[simp] theorem nextS_rt (r : Ss) (d : D) : nextS cl r (.rt d, env) A = .ok (.rt d, env) A := (Eq.refl _).trans rfl
@[simp] theorem nextS_bk (r : Ss) : nextS cl r (.bk, env) A = .ok (.bk, env) A := (Eq.refl _).trans rfl
@[simp] theorem nextS_ct (r : Ss) : nextS cl r (.ct, env) A = .ok (.ct, env) A := (Eq.refl _).trans rfl
@[simp] theorem evSs_cons (s : S) (r : Ss) : evSs cl (.cons s r) env A = bnd (evS cl s env A) (nextS cl r) := (Eq.refl _).trans rfl
@[simp] theorem tst_ok (d : D) : tst (.ok d A) = ofO (truO A d) A := (Eq.refl _).trans rfl
@[simp] theorem truO_bl (b : Bool) : truO A (.bl b) = some b := (Eq.refl _).trans rfl
@[simp] theorem truO_int (i : Int) : truO A (.int i) = some (i != 0) := (Eq.refl _).trans rfl
@[simp] theorem truO_tup (xs : List D) : truO A (.tup xs) = some (!xs.isEmpty) := (Eq.refl _).trans rfl
@[simp] theorem truO_lst (xs : List D) : truO A (.lst xs) = some (!xs.isEmpty) := (Eq.refl _).trans rfl
@[simp] theorem truO_non : truO A .non = some false := (Eq.refl _).trans rfl
@[simp] theorem shal_int (i : Int) : shal A (.int i) = .int i := (Eq.refl _).trans rfl
@[simp] theorem shal_bl (i : Bool) : shal A (.bl i) = .bl i := (Eq.refl _).trans rfl
@[simp] theorem shal_tup (xs : List D) : shal A (.tup xs) = .tup xs := (Eq.refl _).trans rfl
@[simp] theorem shal_lst (xs : List D) : shal A (.lst xs) = .lst xs := (Eq.refl _).trans rfl
@[simp] theorem shal_kl (xs : List D) : shal A (.kl xs) = .kl xs := (Eq.refl _).trans rfl
theorem shal_ref {n : Nat} {xs : List D} (h : A[n]? = some (.lst xs)) : shal A (.ref n) = .lst xs := by
  show (match A[n]? with | some (.lst xs) => D.lst xs | some (.dk ks vs) => .dk ks vs | some (.dt ks vs) => .dt ks vs | _ => .ref n) = _
  rw [h]
@[simp] theorem seqO_lst (xs : List D) : seqO (.lst xs) = some xs := (Eq.refl _).trans rfl
@[simp] theorem seqO_tup (xs : List D) : seqO (.tup xs) = some xs := (Eq.refl _).trans rfl
@[simp] theorem seqO_kl (xs : List D) : seqO (.kl xs) = some xs := (Eq.refl _).trans rfl
@[simp] theorem tupO_tup (xs : List D) : tupO (.tup xs) = some xs := (Eq.refl _).trans rfl
@[simp] theorem intO_int (i : Int) : intO (.int i) = some i := (Eq.refl _).trans rfl
@[simp] theorem binO_add (i j : Int) : binO A .add (.int i) (.int j) = some (.int (i + j)) := (Eq.refl _).trans rfl
@[simp] theorem binO_sub (i j : Int) : binO A .sub (.int i) (.int j) = some (.int (i - j)) := (Eq.refl _).trans rfl
@[simp] theorem binO_mod (i j : Int) : binO A .mod (.int i) (.int j) = if 0 < j then some (.int (i % j)) else none := (Eq.refl _).trans rfl
@[simp] theorem binO_fdiv (i j : Int) : binO A .fdiv (.int i) (.int j) = if 0 < j ∧ j < 1073741824 then some (.int (i / j)) else none := (Eq.refl _).trans rfl
theorem binO_mul (i j : Int) : binO A .mul (.int i) (.int j) = if mulOk i j then some (.int (i * j)) else none := (Eq.refl _).trans rfl
theorem binO_mulL {i j : Int} (h : -(2 ^ 64) < i ∧ i < 2 ^ 64) : binO A .mul (.int i) (.int j) = some (.int (i * j)) := if_pos (.inl h)
theorem binO_mulR {i j : Int} (h : -(2 ^ 64) < j ∧ j < 2 ^ 64) : binO A .mul (.int i) (.int j) = some (.int (i * j)) := if_pos (.inr h)
@[simp] theorem cmpO_lt (i j : Int) : cmpO A .lt (.int i) (.int j) = some (decide (i < j)) := (Eq.refl _).trans rfl
@[simp] theorem cmpO_le (i j : Int) : cmpO A .le (.int i) (.int j) = some (decide (i ≤ j)) := (Eq.refl _).trans rfl
@[simp] theorem cmpO_gt (i j : Int) : cmpO A .gt (.int i) (.int j) = some (decide (j < i)) := (Eq.refl _).trans rfl
@[simp] theorem cmpO_ge (i j : Int) : cmpO A .ge (.int i) (.int j) = some (decide (j ≤ i)) := (Eq.refl _).trans rfl
@[simp] theorem cmpO_eq (i j : Int) : cmpO A .eq (.int i) (.int j) = some (i == j) := (Eq.refl _).trans rfl
@[simp] theorem cmpO_ne (i j : Int) : cmpO A .ne (.int i) (.int j) = some (!(i == j)) := (Eq.refl _).trans rfl
@[simp] theorem cmpO_eqb (i j : Bool) : cmpO A .eq (.bl i) (.bl j) = some (i == j) := (Eq.refl _).trans rfl
@[simp] theorem lenO_tup (xs : List D) : lenO A (.tup xs) = some (xs.length : Int) := (Eq.refl _).trans rfl
@[simp] theorem lenO_lst (xs : List D) : lenO A (.lst xs) = some (xs.length : Int) := (Eq.refl _).trans rfl
@[simp] theorem lenO_kl (xs : List D) : lenO A (.kl xs) = some (xs.length : Int) := (Eq.refl _).trans rfl
@[simp] theorem idxO_tup (xs : List D) (i : Int) : idxO A (.tup xs) (.int i) = atI xs i := (Eq.refl _).trans rfl
@[simp] theorem idxO_lst (xs : List D) (i : Int) : idxO A (.lst xs) (.int i) = atI xs i := (Eq.refl _).trans rfl
@[simp] theorem idxO_kl (xs : List D) (i : Int) : idxO A (.kl xs) (.int i) = atI xs i := (Eq.refl _).trans rfl
theorem idxO_ref {n : Nat} {xs : List D} (h : A[n]? = some (.lst xs)) (i : Int) : idxO A (.ref n) (.int i) = atI xs i := by
  have e := shal_ref h
  unfold idxO
  rw [e]
theorem setO_ref {n : Nat} {xs : List D} (h : A[n]? = some (.lst xs)) (i : Int) (v : D) : setO A (.ref n) (.int i) v = (ixN xs.length i).map fun j => A.set n (.lst (xs.set j v)) := by
  show (match A[n]?, D.int i with
    | some (.lst xs), .int i => (ixN xs.length i).map fun j => A.set n (.lst (xs.set j v))
    | some (.dk ks vs), k => (keyO k).bind fun k => if ks.length < lim then some (A.set n (.dk (dputK k ks) (dputV k v ks vs))) else none
    | some (.dt ks vs), .tup k => (keysO k).bind fun k => if ks.length < lim then some (A.set n (.dt (dputK k ks) (dputV k v ks vs))) else none
    | _, _ => none) = _
  rw [h]
theorem appO_ref {n : Nat} {xs : List D} (h : A[n]? = some (.lst xs)) (hl : xs.length < lim) (v : D) : appO A (.ref n) v = some (A.set n (.lst (xs ++ [v]))) := by
  show (match A[n]? with
    | some (.lst xs) => if xs.length < lim then some (A.set n (.lst (xs ++ [v]))) else none
    | _ => none) = _
  rw [h]
  exact if_pos hl
theorem lstR_ref {n : Nat} {xs : List D} (h : A[n]? = some (.lst xs)) : lstR A (.ref n) = some () := by
  unfold lstR
  rw [shal_ref h]
@[simp] theorem bi_len (x : D) : biO A .len [x] = (lenO A x).map .int := (Eq.refl _).trans rfl
@[simp] theorem bi_int (i : Int) : biO A .int [.int i] = some (.int i) := (Eq.refl _).trans rfl
@[simp] theorem bi_abs (i : Int) : biO A .abs [.int i] = some (.int (if i < 0 then -i else i)) := (Eq.refl _).trans rfl
@[simp] theorem bi_max2 (i j : Int) : biO A .max2 [.int i, .int j] = some (.int (if j > i then j else i)) := (Eq.refl _).trans rfl
@[simp] theorem bi_min2 (i j : Int) : biO A .min2 [.int i, .int j] = some (.int (if j < i then j else i)) := (Eq.refl _).trans rfl
@[simp] theorem bi_max1 (x : D) : biO A .max1 [x] = (ints1 A x).bind fun l => (maxL l).map .int := (Eq.refl _).trans rfl
@[simp] theorem bi_min1 (x : D) : biO A .min1 [x] = (ints1 A x).bind fun l => (minL l).map .int := (Eq.refl _).trans rfl
@[simp] theorem bi_sum (x : D) : biO A .sum [x] = (ints1 A x).map fun l => .int l.sum := (Eq.refl _).trans rfl
@[simp] theorem bi_all (x : D) : biO A .all [x] = ((lstO (shal A x)).bind blsO).map fun l => .bl (l.all id) := (Eq.refl _).trans rfl
@[simp] theorem bi_any (x : D) : biO A .any [x] = ((lstO (shal A x)).bind blsO).map fun l => .bl (l.any id) := (Eq.refl _).trans rfl
@[simp] theorem bi_list (x : D) : biO A .list [x] = (seqO (shal A x)).map .lst := (Eq.refl _).trans rfl
@[simp] theorem bi_tuple (x : D) : biO A .tuple [x] = (seqO (shal A x)).map .tup := (Eq.refl _).trans rfl
@[simp] theorem bi_isi (x : D) (t : String) : biO A .isi [x, .ty t] = (isiT (shal A x) t).map .bl := (Eq.refl _).trans rfl
@[simp] theorem bi_divmod (i j : Int) : biO A .divmod [.int i, .int j] = if 0 < j ∧ j < 1073741824 then some (.tup [.int (i / j), .int (i % j)]) else none := (Eq.refl _).trans rfl
@[simp] theorem isi_int (i : Int) (t : String) : isiT (.int i) t = L2.kitB "int" t := (Eq.refl _).trans rfl
@[simp] theorem isi_bl (i : Bool) (t : String) : isiT (.bl i) t = L2.kitB "bool" t := (Eq.refl _).trans rfl
@[simp] theorem isi_tup (xs : List D) (t : String) : isiT (.tup xs) t = L2.kitB "tuple" t := (Eq.refl _).trans rfl
@[simp] theorem isi_lst (xs : List D) (t : String) : isiT (.lst xs) t = L2.kitB "list" t := (Eq.refl _).trans rfl
@[simp] theorem isi_non (t : String) : isiT .non t = L2.kitB "NoneType" t := (Eq.refl _).trans rfl
@[simp] theorem isi_str (s : Str) (t : String) : isiT (.str s) t = L2.kitB "str" t := (Eq.refl _).trans rfl
@[simp] theorem lstO_lst (xs : List D) : lstO (.lst xs) = some xs := (Eq.refl _).trans rfl
@[simp] theorem ints1_lst (xs : List D) : ints1 A (.lst xs) = intsO xs := (Eq.refl _).trans rfl
@[simp] theorem ints1_tup (xs : List D) : ints1 A (.tup xs) = intsO xs := (Eq.refl _).trans rfl
@[simp] theorem intsO_map (ns : List Int) : intsO (ns.map D.int) = some ns := by
  induction ns with
  | nil => rfl
  | cons n ns ih => simp [intsO, ih]
@[simp] theorem blsO_map (ns : List Bool) : blsO (ns.map D.bl) = some ns := by
  induction ns with
  | nil => rfl
  | cons n ns ih => simp [blsO, ih]
end
@[simp] theorem setPar_nil (ds : List D) (env : Env) : setPar [] ds env = env := (Eq.refl _).trans rfl
@[simp] theorem setPar_cons (i : Nat) (is : List Nat) (d : D) (ds : List D) (env : Env) : setPar (i :: is) (d :: ds) env = setPar is ds (env.set i (some d)) := (Eq.refl _).trans rfl
@[simp] theorem wipe_nil (env : Env) : wipe env [] = env := (Eq.refl _).trans rfl
@[simp] theorem wipe_cons (env : Env) (v : Nat) (vs : List Nat) : wipe env (v :: vs) = (wipe env vs).set v none := (Eq.refl _).trans rfl
theorem atI_nat {α : Type} {xs : List α} {n : Nat} {x : α} (h : xs[n]? = some x) : atI xs (n : Int) = some x := by
  have hl : n < xs.length := (List.getElem?_eq_some_iff.mp h).1
  unfold atI ixN
  rw [if_pos (by omega), if_pos (by omega)]
  simpa using h
theorem atI_get {α : Type} {xs : List α} {n : Nat} (h : n < xs.length) : atI xs (n : Int) = some xs[n] := atI_nat (List.getElem?_eq_getElem h)
@[simp] theorem atI_zero {α : Type} (x : α) (xs : List α) : atI (x :: xs) 0 = some x := atI_nat (n := 0) rfl
@[simp] theorem atI_one {α : Type} (x y : α) (xs : List α) : atI (x :: y :: xs) 1 = some y := atI_nat (n := 1) rfl
@[simp] theorem atI_two {α : Type} (x y z : α) (xs : List α) : atI (x :: y :: z :: xs) 2 = some z := atI_nat (n := 2) rfl
theorem ixN_nat {k n : Nat} (h : n < k) : ixN k (n : Int) = some n := by
  unfold ixN
  rw [if_pos (by omega), if_pos (by omega)]
  simp
/-- a range's numbers -/
theorem upto_map (lo : Int) (n : Nat) : upto lo n = (List.range n).map fun j => D.int (lo + (j : Nat)) := by
  refine List.ext_getElem? fun i => ?_
  by_cases h : i < n
  · rw [upto_get n lo i h, List.getElem?_map, List.getElem?_range h]; rfl
  · rw [List.getElem?_eq_none (by rw [upto_len]; omega), List.getElem?_eq_none (by simp; omega)]
theorem rng_ok {n : Nat} (h : n ≤ 1000000) : rngOk (n : Int) := by unfold rngOk; omega
/-- a def's end, by what its body did -/
def fnEnd (m : Bool) (A : AH) (r : Res (Fl × Env)) : Res D := bnd r fun f A' => match f.1 with
  | .rt d => finish m A d A'
  | .nx => finish m A .non A'
  | _ => .bad
@[simp] theorem fnEnd_rt (m : Bool) (A A' : AH) (d : D) (env : Env) : fnEnd m A (.ok (.rt d, env) A') = finish m A d A' := (Eq.refl _).trans rfl
@[simp] theorem fnEnd_nx (m : Bool) (A A' : AH) (env : Env) : fnEnd m A (.ok (.nx, env) A') = finish m A .non A' := (Eq.refl _).trans rfl
theorem run_eq {cl : Cl} {df : Df} {ds : List D} {A : AH} (h : ds.length = df.np) : runDf cl df ds A = fnEnd df.fz A (evSs cl df.body (startE ds df.ns) A) := if_pos h
/-- a def's call by its body -/
theorem run_ok {cl : Cl} {df : Df} {ds : List D} {A A' : AH} {d : D} {env : Env} (hl : ds.length = df.np) (h : evSs cl df.body (startE ds df.ns) A = .ok (.rt d, env) A') : runDf cl df ds A = finish df.fz A d A' := by
  unfold runDf
  rw [if_pos hl, h]; rfl
theorem run_nx {cl : Cl} {df : Df} {ds : List D} {A A' : AH} {env : Env} (hl : ds.length = df.np) (h : evSs cl df.body (startE ds df.ns) A = .ok (.nx, env) A') : runDf cl df ds A = finish df.fz A .non A' := by
  unfold runDf
  rw [if_pos hl, h]; rfl

/-! ### the end of a def -/
theorem oldOk_refl : ∀ (A E : AH), oldOk A (A ++ E) = true
  | [], _ => rfl
  | o :: A, E => by simp [oldOk, oldOk_refl A E]
/-- values without objects -/
def D.pure : D → Bool
  | d => D.rl 0 d
theorem fzL_pure {f : D → Option (D × List Nat)} : ∀ {xs : List D}, (∀ x ∈ xs, f x = some (x, [])) → fzL f xs = some (xs, [])
  | [], _ => rfl
  | x :: xs, h => by
    simp only [fzL]
    rw [h x List.mem_cons_self, fzL_pure fun y hy => h y (List.mem_cons_of_mem _ hy)]
    rfl
mutual
/-- no objects; at most k deep -/
def D.pu : Nat → D → Bool
  | 0, _ => false
  | _ + 1, .ref _ => false
  | k + 1, .tup xs => D.pus k xs
  | k + 1, .lst xs => D.pus k xs
  | k + 1, .kl xs => D.pus k xs
  | k + 1, .dk _ vs => D.pus k vs
  | k + 1, .dt _ vs => D.pus k vs
  | _ + 1, _ => true
def D.pus : Nat → List D → Bool
  | _, [] => true
  | k, x :: xs => D.pu k x && D.pus k xs
end
theorem pus_mem : ∀ {k : Nat} {xs : List D}, D.pus k xs = true → ∀ x ∈ xs, D.pu k x = true
  | _, [], _, x, h => by cases h
  | k, y :: ys, h, x, hx => by
    simp only [D.pus, Bool.and_eq_true] at h
    exact (List.mem_cons.mp hx).elim (fun e => e ▸ h.1) fun hx => pus_mem h.2 x hx
theorem pus_of : ∀ {k : Nat} {xs : List D}, (∀ x ∈ xs, D.pu k x = true) → D.pus k xs = true
  | _, [], _ => by simp [D.pus]
  | k, y :: ys, h => by
    simp only [D.pus, Bool.and_eq_true]
    exact ⟨h y List.mem_cons_self, pus_of fun x hx => h x (List.mem_cons_of_mem _ hx)⟩
theorem fz_pu {A : AH} : ∀ (k : Nat) (d : D), D.pu k d = true → fz A k d = some (d, [])
  | 0, d, h => by simp [D.pu] at h
  | k + 1, d, h => by
    have ih := fun xs (hx : D.pus k xs = true) => fzL_pure (f := fz A k) (xs := xs) fun x hm => fz_pu k x (pus_mem hx x hm)
    cases d with
    | ref _ => simp [D.pu] at h
    | tup xs => simp only [D.pu] at h; simp only [fz, ih xs h]; rfl
    | lst xs => simp only [D.pu] at h; simp only [fz, ih xs h]; rfl
    | kl xs => simp only [D.pu] at h; simp only [fz, ih xs h]; rfl
    | dk _ xs => simp only [D.pu] at h; simp only [fz, ih xs h]; rfl
    | dt _ xs => simp only [D.pu] at h; simp only [fz, ih xs h]; rfl
    | _ => rfl
@[simp] theorem pu_int (k : Nat) (i : Int) : D.pu (k + 1) (.int i) = true := rfl
@[simp] theorem pu_bl (k : Nat) (i : Bool) : D.pu (k + 1) (.bl i) = true := rfl
@[simp] theorem pu_non (k : Nat) : D.pu (k + 1) .non = true := rfl
theorem pu_ints (k : Nat) (ns : List Int) : D.pus (k + 1) (ns.map D.int) = true := pus_of fun x hx => by
  obtain ⟨n, _, rfl⟩ := List.mem_map.mp hx; rfl
/-- a pure def's end: its objects E go -/
theorem fin_pu {A E : AH} {d : D} (h : D.pu 8 d = true) : finish true A d (A ++ E) = .ok d A := by
  unfold finish
  rw [if_pos rfl, fz_pu 8 d h]
  simp [oldOk_refl]
theorem fin_pu0 {A : AH} {d : D} (h : D.pu 8 d = true) : finish true A d A = .ok d A := by
  have := fin_pu (A := A) (E := []) h
  rwa [List.append_nil] at this

/-! ### states with one pool -/
def pl (p : Int × Int × Int) : O := .lst [.int p.1, .int p.2.1, .int p.2.2]
def St1 (pre : AH) (p : Int × Int × Int) (E : AH) : AH := pre ++ pl p :: E
section
variable {pre E E' : AH} {p q : Int × Int × Int}
theorem St1_get : (St1 pre p E)[pre.length]? = some (.lst [.int p.1, .int p.2.1, .int p.2.2]) := by
  unfold St1 pl; rw [List.getElem?_append_right (Nat.le_refl _)]; simp
theorem St1_set (a b c : Int) : (St1 pre p E).set pre.length (.lst [.int a, .int b, .int c]) = St1 pre (a, b, c) E := by
  unfold St1 pl; rw [List.set_append_right _ _ (Nat.le_refl _)]; simp
theorem St1_app : St1 pre p E ++ E' = St1 pre p (E ++ E') := by unfold St1; simp
theorem St1_len : (St1 pre p E).length = pre.length + (1 + E.length) := by unfold St1; simp; omega
theorem St1_getE {j : Nat} : (St1 pre p E)[pre.length + (1 + j)]? = E[j]? := by
  unfold St1; rw [List.getElem?_append_right (by omega)]
  rw [show pre.length + (1 + j) - pre.length = j + 1 by omega]; rfl
theorem St1_setE {j : Nat} {o : O} : (St1 pre p E).set (pre.length + (1 + j)) o = St1 pre p (E.set j o) := by
  unfold St1; rw [List.set_append_right _ _ (by omega)]
  rw [show pre.length + (1 + j) - pre.length = j + 1 by omega]; rfl
theorem oldOk_pool : oldOk (St1 pre p E) (St1 pre q (E ++ E')) = true := by
  unfold St1
  induction pre with
  | nil => simp [oldOk, oldOk_refl, pl, O.flat, D.atom]
  | cons o pre ih => simp [oldOk]; simpa using ih
theorem take_pool : (St1 pre q (E ++ E')).take (St1 pre p E).length = St1 pre q E := by
  rw [← St1_app, show (St1 pre p E).length = (St1 pre q E).length by rw [St1_len, St1_len], List.take_left']
  rfl
theorem fin_pool {d d' : D} {L : List Nat} (h : fz (St1 pre q (E ++ E')) 8 d = some (d', L)) (hL : ∀ n ∈ L, pre.length + (1 + E.length) ≤ n) : finish true (St1 pre p E) d (St1 pre q (E ++ E')) = .ok d' (St1 pre q E) := by
  unfold finish
  rw [if_pos rfl, h]
  simp only [oldOk_pool, take_pool, Bool.and_true]
  rw [if_pos]
  rw [List.all_eq_true]
  intro n hn
  rw [St1_len]
  exact decide_eq_true (hL n hn)
theorem fin_pool_pu {d : D} (h : D.pu 8 d = true) : finish true (St1 pre p E) d (St1 pre q (E ++ E')) = .ok d (St1 pre q E) := fin_pool (fz_pu 8 d h) fun n hn => by cases hn
theorem fin_pool0 {d : D} (h : D.pu 8 d = true) : finish true (St1 pre p E) d (St1 pre q E) = .ok d (St1 pre q E) := by
  have := fin_pool_pu (pre := pre) (p := p) (q := q) (E := E) (E' := []) h
  rwa [List.append_nil] at this
end

/-! ### comprehensions -/
section
variable {as : D → Env → AH → Res Env} {cs : Env → AH → Res Bool} {ef : Env → AH → Res D} {env : Env}
/-- pure turns, all kept -/
theorem compL_map {α : Type} {f : α → D} {g : α → D} : ∀ {xs : List α} {A : AH}, (∀ x ∈ xs, ∃ env1, as (f x) env A = .ok env1 A ∧ cs env1 A = .ok true A ∧ ef env1 A = .ok (g x) A) → compL as cs ef env (xs.map f) A = .ok (xs.map g) A
  | [], A, _ => rfl
  | x :: xs, A, h => by
    obtain ⟨env1, h1, h2, h3⟩ := h x List.mem_cons_self
    simp only [List.map_cons, compL, h1, bnd_ok, h2, if_true, h3]
    rw [compL_map fun y hy => h y (List.mem_cons_of_mem _ hy)]
    rfl
/-- pure turns, some kept -/
theorem compL_fm {α : Type} {f : α → D} {g : α → Option D} : ∀ {xs : List α} {A : AH}, (∀ x ∈ xs, ∃ env1, as (f x) env A = .ok env1 A ∧ ((cs env1 A = .ok true A ∧ ∃ d, ef env1 A = .ok d A ∧ g x = some d) ∨ (cs env1 A = .ok false A ∧ g x = none))) → compL as cs ef env (xs.map f) A = .ok (xs.filterMap g) A
  | [], A, _ => rfl
  | x :: xs, A, h => by
    obtain ⟨env1, h1, h2⟩ := h x List.mem_cons_self
    have ih := compL_fm fun y hy => h y (List.mem_cons_of_mem _ hy)
    simp only [List.map_cons, compL, h1, bnd_ok]
    rcases h2 with ⟨h2, d, h3, h4⟩ | ⟨h2, h4⟩
    · simp only [h2, bnd_ok, if_true, h3, ih, List.filterMap_cons, h4]
    · simp only [h2, bnd_ok, ih, List.filterMap_cons, h4]
      rfl
/-- turns that change the state -/
theorem compL_st {α : Type} {f : α → D} {β : Type} {g : β → D} {Inv : AH → Prop} {Q : α → β → Prop} : ∀ {xs : List α} {A : AH}, Inv A → (∀ x ∈ xs, ∀ A, Inv A → ∃ env1 A1 A2 A3 y, as (f x) env A = .ok env1 A1 ∧ cs env1 A1 = .ok true A2 ∧ ef env1 A2 = .ok (g y) A3 ∧ Inv A3 ∧ Q x y) →
    ∃ (ys : List β) (A' : AH), compL as cs ef env (xs.map f) A = .ok (ys.map g) A' ∧ Inv A' ∧ ys.length = xs.length ∧ ∀ (i : Nat) x y, xs[i]? = some x → ys[i]? = some y → Q x y
  | [], A, hA, _ => ⟨[], A, rfl, hA, rfl, fun i x y h => by simp at h⟩
  | x :: xs, A, hA, h => by
    obtain ⟨env1, A1, A2, A3, y, h1, h2, h3, h4, h5⟩ := h x List.mem_cons_self A hA
    obtain ⟨ys, A', k1, k2, k3, k4⟩ := compL_st (xs := xs) h4 fun x hx => h x (List.mem_cons_of_mem _ hx)
    refine ⟨y :: ys, A', ?_, k2, by simp [k3], fun i x' y' e1 e2 => ?_⟩
    · simp only [List.map_cons, compL, h1, bnd_ok, h2, if_true, h3, k1]
    · cases i with
      | zero => simp at e1 e2; subst e1 e2; exact h5
      | succ i => exact k4 i x' y' (by simpa using e1) (by simpa using e2)
end
/-! ### loops -/
/-- a loop that goes through, by an invariant over what is done -/
theorem forL_inv {α : Type} {as : D → Env → AH → Res Env} {body : Env → AH → Res (Fl × Env)} {f : α → D} {Pv : List α → Env → AH → Prop} : ∀ (xs done : List α) (env : Env) (A : AH), Pv done env A →
    (∀ done x rest env A, done ++ x :: rest = done ++ (x :: rest) → Pv done env A → x ∈ xs → ∃ env1 A1 fl env2 A2, as (f x) env A = .ok env1 A1 ∧ body env1 A1 = .ok (fl, env2) A2 ∧ (fl = .nx ∨ fl = .ct) ∧ Pv (done ++ [x]) env2 A2) →
    ∃ env' A', forL as body (xs.map f) env A = .ok (.nx, env') A' ∧ Pv (done ++ xs) env' A'
  | [], done, env, A, h, _ => ⟨env, A, rfl, by simpa using h⟩
  | x :: xs, done, env, A, h, step => by
    obtain ⟨env1, A1, fl, env2, A2, h1, h2, h3, h4⟩ := step done x [] env A rfl h List.mem_cons_self
    obtain ⟨env', A', k1, k2⟩ := forL_inv xs (done ++ [x]) env2 A2 h4 fun done x rest env A e p hx => step done x rest env A e p (List.mem_cons_of_mem _ hx)
    refine ⟨env', A', ?_, by simpa using k2⟩
    simp only [List.map_cons, forL, h1, bnd_ok, h2]
    rcases h3 with rfl | rfl <;> exact k1
end Ev

set_option maxRecDepth 100000
/-! Pl1: more rows -/
namespace Ev
open PySem (Str)
section
variable {A E : AH}
@[simp] theorem fin_bl (b : Bool) : finish true A (.bl b) A = .ok (.bl b) A := fin_pu0 rfl
@[simp] theorem fin_int (b : Int) : finish true A (.int b) A = .ok (.int b) A := fin_pu0 rfl
@[simp] theorem fin_non : finish true A .non A = .ok .non A := fin_pu0 rfl
@[simp] theorem fin_blE (b : Bool) : finish true A (.bl b) (A ++ E) = .ok (.bl b) A := fin_pu rfl
@[simp] theorem fin_intE (b : Int) : finish true A (.int b) (A ++ E) = .ok (.int b) A := fin_pu rfl
theorem pu_tints (k : Nat) (ns : List Int) : D.pu (k + 2) (.tup (ns.map D.int)) = true := by simp only [D.pu]; exact pu_ints k ns
@[simp] theorem fin_tints (ns : List Int) : finish true A (.tup (ns.map D.int)) A = .ok (.tup (ns.map D.int)) A := fin_pu0 (pu_tints 6 ns)
@[simp] theorem fin_tintsE (ns : List Int) : finish true A (.tup (ns.map D.int)) (A ++ E) = .ok (.tup (ns.map D.int)) A := fin_pu (pu_tints 6 ns)
end
section
variable {pre E E' : AH} {p q : Int × Int × Int}
@[simp] theorem fin_blP (b : Bool) : finish true (St1 pre p E) (.bl b) (St1 pre q E) = .ok (.bl b) (St1 pre q E) := fin_pool0 rfl
@[simp] theorem fin_intP (b : Int) : finish true (St1 pre p E) (.int b) (St1 pre q E) = .ok (.int b) (St1 pre q E) := fin_pool0 rfl
@[simp] theorem fin_blPE (b : Bool) : finish true (St1 pre p E) (.bl b) (St1 pre q (E ++ E')) = .ok (.bl b) (St1 pre q E) := fin_pool_pu rfl
@[simp] theorem fin_intPE (b : Int) : finish true (St1 pre p E) (.int b) (St1 pre q (E ++ E')) = .ok (.int b) (St1 pre q E) := fin_pool_pu rfl
@[simp] theorem fin_tintsP (ns : List Int) : finish true (St1 pre p E) (.tup (ns.map D.int)) (St1 pre q E) = .ok (.tup (ns.map D.int)) (St1 pre q E) := fin_pool0 (pu_tints 6 ns)
end
/-- a comprehension of truths over numbers -/
theorem all_map_true {α : Type} {xs : List α} {f : α → Bool} (h : ∀ x ∈ xs, f x = true) : (xs.map f).all id = true := by
  rw [List.all_eq_true]
  intro b hb
  obtain ⟨x, hx, rfl⟩ := List.mem_map.mp hb
  exact h x hx
theorem len_le {n : Nat} (h : n ≤ 1000) : n ≤ lim := Nat.le_trans h (by decide)

section
variable {cl : Cl} {env : Env} {A A1 : AH} {own : List Nat} {tg : T} {it : I} {cs : Es} {e : E}
/-- a comprehension, turn by turn the same state, all kept -/
theorem cmp_map {α : Type} {f g : α → D} {xs : List α} (hi : evi cl it env A = .ok (xs.map f) A1) (hl : xs.length ≤ 100000)
    (h : ∀ x ∈ xs, ∃ env1, asg cl tg (f x) (wipe env own) A1 = .ok env1 A1 ∧ evt cl cs env1 A1 = .ok true A1 ∧ ev cl e env1 A1 = .ok (g x) A1) : ev cl (.comp false own tg it cs e) env A = .ok (.lst (xs.map g)) A1 := by
  rw [ev_comp, hi]
  simp only [bnd_ok]
  rw [compL_map (f := f) (g := g) h]
  simp only [calm_ok, bnd_ok, List.length_map]
  rw [if_pos (Nat.le_trans hl (by decide))]
  rfl
theorem cmp_fm {α : Type} {f : α → D} {g : α → Option D} {xs : List α} (hi : evi cl it env A = .ok (xs.map f) A1) (hl : xs.length ≤ 100000)
    (h : ∀ x ∈ xs, ∃ env1, asg cl tg (f x) (wipe env own) A1 = .ok env1 A1 ∧ ((evt cl cs env1 A1 = .ok true A1 ∧ ∃ d, ev cl e env1 A1 = .ok d A1 ∧ g x = some d) ∨ (evt cl cs env1 A1 = .ok false A1 ∧ g x = none))) :
    ev cl (.comp false own tg it cs e) env A = .ok (.lst (xs.filterMap g)) A1 := by
  rw [ev_comp, hi]
  simp only [bnd_ok]
  rw [compL_fm (f := f) (g := g) h]
  simp only [calm_ok, bnd_ok]
  rw [if_pos (Nat.le_trans (List.length_filterMap_le _ _) (Nat.le_trans hl (by decide)))]
  rfl
/-- a comprehension whose turns change the state -/
theorem cmp_st {α β : Type} {f : α → D} {g : β → D} {Inv : AH → Prop} {Q : α → β → Prop} {xs : List α} (hi : evi cl it env A = .ok (xs.map f) A1) (hl : xs.length ≤ 100000) (hA : Inv A1)
    (h : ∀ x ∈ xs, ∀ A, Inv A → ∃ env1 A1 A2 A3 y, asg cl tg (f x) (wipe env own) A = .ok env1 A1 ∧ evt cl cs env1 A1 = .ok true A2 ∧ ev cl e env1 A2 = .ok (g y) A3 ∧ Inv A3 ∧ Q x y) :
    ∃ (ys : List β) (A' : AH), ev cl (.comp false own tg it cs e) env A = .ok (.lst (ys.map g)) A' ∧ Inv A' ∧ ys.length = xs.length ∧ ∀ (i : Nat) x y, xs[i]? = some x → ys[i]? = some y → Q x y := by
  obtain ⟨ys, A', k1, k2, k3, k4⟩ := compL_st (as := fun d => asg cl tg d) (cs := fun env A => evt cl cs env A) (ef := fun env A => ev cl e env A) (env := wipe env own) (f := f) (g := g) (Inv := Inv) (Q := Q) hA h
  refine ⟨ys, A', ?_, k2, k3, k4⟩
  rw [ev_comp, hi]
  simp only [bnd_ok]
  rw [k1]
  simp only [calm_ok, bnd_ok, List.length_map]
  rw [if_pos (by rw [k3]; exact Nat.le_trans hl (by decide))]
  rfl
/-- a loop by an invariant over what is done -/
theorem for_inv {α : Type} {f : α → D} {body : Ss} {xs : List α} {Pv : List α → Env → AH → Prop} (hi : evi cl it env A = .ok (xs.map f) A1) (h0 : Pv [] env A1)
    (h : ∀ done x env A, x ∈ xs → Pv done env A → ∃ env1 A1 fl env2 A2, asg cl tg (f x) env A = .ok env1 A1 ∧ evSs cl body env1 A1 = .ok (fl, env2) A2 ∧ (fl = .nx ∨ fl = .ct) ∧ Pv (done ++ [x]) env2 A2) :
    ∃ env' A', evS cl (.for tg it body) env A = .ok (.nx, env') A' ∧ Pv xs env' A' := by
  obtain ⟨env', A', k1, k2⟩ := forL_inv (as := fun d => asg cl tg d) (body := fun env A => evSs cl body env A) (f := f) (Pv := Pv) xs [] env A1 h0 fun done x _ env A _ p hx => h done x env A hx p
  exact ⟨env', A', by rw [evS_for, hi]; exact k1, by simpa using k2⟩
end
theorem evi_r0 {cl : Cl} {env : Env} {A A1 : AH} {a : E} {i : Int} (ha : ev cl a env A = .ok (.int i) A1) (h : rngOk i) : evi cl (.rng1 a) env A = .ok (upto 0 i.toNat) A1 := by
  have h0 := evi_rng1 (cl := cl) (env := env) (A := A) a
  rw [ha] at h0
  rw [h0, bnd_ok]
  exact if_pos h
theorem upto_0 (n : Nat) : upto 0 n = (List.range n).map fun k : Nat => D.int k := by
  rw [upto_map]
  refine List.map_congr_left fun k _ => ?_
  rw [Int.zero_add]
theorem evi_r1 {cl : Cl} {env : Env} {A A1 : AH} {a : E} {n : Nat} (ha : ev cl a env A = .ok (.int n) A1) (h : n ≤ 1000) : evi cl (.rng1 a) env A = .ok ((List.range n).map fun k : Nat => D.int k) A1 := by
  have e := evi_r0 ha (rng_ok (n := n) (Nat.le_trans h (by decide)))
  rw [Int.toNat_natCast, upto_0] at e
  exact e
theorem evi_r2 {cl : Cl} {env : Env} {A A1 A2 : AH} {a b : E} {i j : Int} (ha : ev cl a env A = .ok (.int i) A1) (hb : ev cl b env A1 = .ok (.int j) A2) (hi : -1000 ≤ i ∧ i ≤ 1000) (hj : -1000 ≤ j ∧ j ≤ 1000) :
    evi cl (.rng2 a b) env A = .ok ((List.range (j - i).toNat).map fun k : Nat => D.int (i + k)) A2 := by
  have e : rngOk i ∧ rngOk j := by unfold rngOk; omega
  rw [evi_rng2, ha]
  simp only [bnd_ok, hb]
  rw [if_pos e, upto_map]
theorem zip2_map {α β : Type} {f : α → D} {g : β → D} : ∀ (xs : List α) (ys : List β), zip2 (xs.map f) (ys.map g) = (xs.zip ys).map fun p => .tup [f p.1, g p.2]
  | [], _ => rfl
  | _ :: _, [] => rfl
  | x :: xs, y :: ys => by simp only [List.map_cons, zip2, List.zip_cons_cons, zip2_map xs ys]
theorem zip3_map {α β γ : Type} {f : α → D} {g : β → D} {h : γ → D} : ∀ (xs : List α) (ys : List β) (zs : List γ), zip3 (xs.map f) (ys.map g) (zs.map h) = (xs.zip (ys.zip zs)).map fun p => .tup [f p.1, g p.2.1, h p.2.2]
  | [], _, _ => rfl
  | _ :: _, [], _ => rfl
  | _ :: _, _ :: _, [] => rfl
  | x :: xs, y :: ys, z :: zs => by simp only [List.map_cons, zip3, List.zip_cons_cons, zip3_map xs ys zs]
theorem atI_map {α : Type} {f : α → D} {xs : List α} {j : Nat} (h : j < xs.length) : atI (xs.map f) (j : Int) = some (f xs[j]) := atI_nat (by simp [h])
theorem atI_map' {α : Type} {f : α → D} {xs : List α} {j : Nat} {x : α} (h : xs[j]? = some x) : atI (xs.map f) (j : Int) = some (f x) := atI_nat (by simp [h])
@[simp] theorem cmp_ltT (A : AH) (a b c d : Int) : cmpO A .lt (.tup [.int a, .int b]) (.tup [.int c, .int d]) = some (lexLt [a, b] [c, d]) := (Eq.refl _).trans rfl
@[simp] theorem slc_2 (A : AH) (a b c : D) : slcO A (.tup [a, b, c]) none (some 2) = some (.tup [a, b]) := (Eq.refl _).trans rfl

/-! ### webs as data -/
abbrev Road := Nat × Nat × Nat
def rD (r : Road) : D := .tup [.int r.1, .int r.2.1, .int r.2.2]
def wD (m : Nat) (rs : List Road) : D := .tup [.int m, .tup (rs.map rD)]
def iD (ns : List Int) : D := .tup (ns.map D.int)
structure WebOk (m : Nat) (rs : List Road) : Prop where
  lo : 1 ≤ m
  hi : m ≤ 9
  len : rs.length ≤ 20
  road : ∀ r ∈ rs, r.1 < r.2.1 ∧ r.2.1 < m ∧ 1 ≤ r.2.2 ∧ r.2.2 ≤ 99
  sorted : rs.Pairwise fun a b => a.1 < b.1 ∨ (a.1 = b.1 ∧ a.2.1 < b.2.1)
end Ev

set_option maxRecDepth 100000
/-! Pl2: the newest object; rows of ints; loads on roads -/
namespace Ev
open PySem (Str)
section
variable {A : AH} {xs : List D}
theorem last_get : (A ++ [O.lst xs])[A.length]? = some (.lst xs) := by simp
@[simp] theorem idx_last (i : Int) : idxO (A ++ [.lst xs]) (.ref A.length) (.int i) = atI xs i := idxO_ref last_get i
@[simp] theorem shal_last : shal (A ++ [.lst xs]) (.ref A.length) = .lst xs := shal_ref last_get
@[simp] theorem lstR_last : lstR (A ++ [.lst xs]) (.ref A.length) = some () := lstR_ref last_get
theorem set_last (i : Int) (v : D) : setO (A ++ [.lst xs]) (.ref A.length) (.int i) v = (ixN xs.length i).map fun j => A ++ [.lst (xs.set j v)] := by
  rw [setO_ref last_get]
  congr 1
  funext j
  simp [List.set_append_right]
theorem app_last (h : xs.length < lim) (v : D) : appO (A ++ [.lst xs]) (.ref A.length) v = some (A ++ [.lst (xs ++ [v])]) := by
  rw [appO_ref last_get h]
  simp [List.set_append_right]
end
theorem at_int {ns : List Int} {j : Nat} (h : j < ns.length) : atI (ns.map D.int) (j : Int) = some (.int (ns.getD j 0)) := by
  rw [atI_map h, List.getD_eq_getElem?_getD, List.getElem?_eq_getElem h]; rfl
theorem set_int {A : AH} {ns : List Int} {j : Nat} (h : j < ns.length) (v : Int) : setO (A ++ [.lst (ns.map D.int)]) (.ref A.length) (.int j) (.int v) = some (A ++ [.lst ((ns.set j v).map D.int)]) := by
  rw [set_last, List.length_map, ixN_nat h, Option.map_some, List.map_set]
theorem flat_ints (k : Nat) : ∀ ns : List Int, D.flatNs k (ns.map D.int) = true
  | [] => by simp [D.flatNs]
  | n :: ns => by simp only [List.map_cons, D.flatNs, flat_ints k ns, Bool.and_true]; cases k <;> rfl
theorem eqvs_ints : ∀ a b : List Int, D.eqvs (a.map D.int) (b.map D.int) = decide (a = b)
  | [], [] => by simp [D.eqvs]
  | [], _ :: _ => by simp [D.eqvs]
  | _ :: _, [] => by simp [D.eqvs]
  | x :: a, y :: b => by
    simp only [List.map_cons, D.eqvs, eqvs_ints a b, D.eqv]
    by_cases h : x = y <;> simp [h]
theorem eq_iD (A : AH) (a b : List Int) : cmpO A .eq (iD a) (iD b) = some (decide (a = b)) := by
  show eqO A (iD a) (iD b) = _
  unfold eqO iD
  simp only [shal_tup, D.flatN, flat_ints, Bool.and_self, if_true, D.eqv, eqvs_ints]
/-- loads on roads: what each place has then -/
def stepF (h : List Int) (p : Road × Int) : List Int := (h.set p.1.1 (h.getD p.1.1 0 - p.2)).set p.1.2.1 (h.getD p.1.2.1 0 + p.2)
def comesF (h : List Int) (ps : List (Road × Int)) : List Int := ps.foldl stepF h
theorem stepF_len (h : List Int) (p : Road × Int) : (stepF h p).length = h.length := by simp [stepF]
theorem comesF_len : ∀ (ps : List (Road × Int)) (h : List Int), (comesF h ps).length = h.length
  | [], _ => rfl
  | p :: ps, h => by
    show (comesF (stepF h p) ps).length = _
    rw [comesF_len ps, stepF_len]
theorem comesF_snoc (h : List Int) (ps : List (Road × Int)) (p : Road × Int) : comesF h (ps ++ [p]) = stepF (comesF h ps) p := by
  unfold comesF; rw [List.foldl_append]; rfl
def absI (i : Int) : Int := if i < 0 then -i else i
def costF (ps : List (Road × Int)) : Int := (ps.map fun p => (p.1.2.2 : Int) * absI p.2).sum
def gainF (hs ws ts : List Int) : Int := ((ts.zip ((hs.zip ws).map fun p => p.1 - p.2)).map fun p => p.1 * p.2).sum
structure HeightsOk (m : Nat) (rs : List Road) (ts : List Int) : Prop where
  len : ts.length = m
  road : ∀ r ∈ rs, absI (ts.getD r.1 0 - ts.getD r.2.1 0) ≤ r.2.2
end Ev

set_option maxRecDepth 100000
/-! Pl3: the pool's rows -/
namespace Ev
open PySem (Str)
section
variable {pre E : AH} {p : Int × Int × Int}
@[simp] theorem pool_0 : idxO (St1 pre p E) (.ref pre.length) (.int 0) = some (.int p.1) := by rw [idxO_ref St1_get, atI_zero]
@[simp] theorem pool_1 : idxO (St1 pre p E) (.ref pre.length) (.int 1) = some (.int p.2.1) := by rw [idxO_ref St1_get, atI_one]
@[simp] theorem pool_2 : idxO (St1 pre p E) (.ref pre.length) (.int 2) = some (.int p.2.2) := by rw [idxO_ref St1_get, atI_two]
@[simp] theorem pool_s0 (v : Int) : setO (St1 pre p E) (.ref pre.length) (.int 0) (.int v) = some (St1 pre (v, p.2) E) := by
  rw [setO_ref St1_get]
  show (ixN 3 ((0 : Nat) : Int)).map _ = _
  rw [ixN_nat (by decide), Option.map_some]
  exact congrArg some (St1_set v p.2.1 p.2.2)
@[simp] theorem pool_s1 (v : Int) : setO (St1 pre p E) (.ref pre.length) (.int 1) (.int v) = some (St1 pre (p.1, v, p.2.2) E) := by
  rw [setO_ref St1_get]
  show (ixN 3 ((1 : Nat) : Int)).map _ = _
  rw [ixN_nat (by decide), Option.map_some]
  exact congrArg some (St1_set p.1 v p.2.2)
@[simp] theorem pool_s2 (v : Int) : setO (St1 pre p E) (.ref pre.length) (.int 2) (.int v) = some (St1 pre (p.1, p.2.1, v) E) := by
  rw [setO_ref St1_get]
  show (ixN 3 ((2 : Nat) : Int)).map _ = _
  rw [ixN_nat (by decide), Option.map_some]
  exact congrArg some (St1_set p.1 p.2.1 v)
theorem new_get {o : O} : (St1 pre p (E ++ [o]))[pre.length + (1 + E.length)]? = some o := by rw [St1_getE]; simp
theorem new_set {o o' : O} : (St1 pre p (E ++ [o])).set (pre.length + (1 + E.length)) o' = St1 pre p (E ++ [o']) := by rw [St1_setE]; simp [List.set_append_right]
theorem new_app {xs : List D} (h : xs.length < lim) (v : D) : appO (St1 pre p (E ++ [.lst xs])) (.ref (pre.length + (1 + E.length))) v = some (St1 pre p (E ++ [.lst (xs ++ [v])])) := by rw [appO_ref new_get h, new_set]
theorem new_shal {xs : List D} : shal (St1 pre p (E ++ [.lst xs])) (.ref (pre.length + (1 + E.length))) = .lst xs := shal_ref new_get
theorem new_lstR {xs : List D} : lstR (St1 pre p (E ++ [.lst xs])) (.ref (pre.length + (1 + E.length))) = some () := lstR_ref new_get
end
@[simp] theorem fin_false (A A' : AH) (d : D) : finish false A d A' = .ok d A' := (Eq.refl _).trans rfl
theorem cut_map {f : Int → D} (xs : List Int) (lo hi : Option Int) : cut (xs.map f) lo hi = (cut xs lo hi).map f := by simp [cut, List.map_take, List.map_drop]
theorem cut_len {α : Type} (xs : List α) (lo hi : Option Int) : (cut xs lo hi).length ≤ xs.length := by unfold cut; rw [List.length_take, List.length_drop]; omega
theorem slc_kl (A : AH) (xs : List D) (lo hi : Option Int) : slcO A (.kl xs) lo hi = some (.lst (cut xs lo hi)) := (Eq.refl _).trans rfl
theorem pow_18 (A : AH) : binO A .pow (.int 10) (.int 18) = some (.int 1000000000000000000) := by
  show (if 0 ≤ (18 : Int) ∧ (18 : Int) ≤ 1000000 ∧ (10 : Int).natAbs < 2 ^ 64 then some (D.int (10 ^ (18 : Int).toNat)) else none) = _
  rw [if_pos (by decide)]; rfl
theorem pow_20 (A : AH) : binO A .pow (.int 10) (.int 20) = some (.int 100000000000000000000) := by
  show (if 0 ≤ (20 : Int) ∧ (20 : Int) ≤ 1000000 ∧ (10 : Int).natAbs < 2 ^ 64 then some (D.int (10 ^ (20 : Int).toNat)) else none) = _
  rw [if_pos (by decide)]; rfl
theorem mulR {A : AH} (i : Int) {j : Int} (h : -1000000 < j ∧ j < 1000000) : binO A .mul (.int i) (.int j) = some (.int (i * j)) := binO_mulR (by omega)
theorem mulL {A : AH} {i : Int} (j : Int) (h : -1000000 < i ∧ i < 1000000) : binO A .mul (.int i) (.int j) = some (.int (i * j)) := binO_mulL (by omega)
end Ev

set_option maxRecDepth 100000
/-! Pl4: loops by their turns' numbers; slices of values and of objects -/
namespace Ev
open PySem (Str)
theorem forL_ix {α : Type} {as : D → Env → AH → Res Env} {body : Env → AH → Res (Fl × Env)} {f : α → D} {Pv : Nat → Env → AH → Prop} : ∀ (xs : List α) (k : Nat) (env : Env) (A : AH), Pv k env A →
    (∀ i x env A, xs[i]? = some x → Pv (k + i) env A → ∃ env1 A1 fl env2 A2, as (f x) env A = .ok env1 A1 ∧ body env1 A1 = .ok (fl, env2) A2 ∧ (fl = .nx ∨ fl = .ct) ∧ Pv (k + i + 1) env2 A2) →
    ∃ env' A', forL as body (xs.map f) env A = .ok (.nx, env') A' ∧ Pv (k + xs.length) env' A'
  | [], k, env, A, h, _ => ⟨env, A, rfl, h⟩
  | x :: xs, k, env, A, h, step => by
    obtain ⟨env1, A1, fl, env2, A2, h1, h2, h3, h4⟩ := step 0 x env A rfl h
    obtain ⟨env', A', k1, k2⟩ := forL_ix (Pv := Pv) xs (k + 1) env2 A2 h4 fun i y env A e p => by
      have := step (i + 1) y env A (by simpa using e) (by rw [show k + (i + 1) = k + 1 + i by omega]; exact p)
      rw [show k + (i + 1) + 1 = k + 1 + i + 1 by omega] at this
      exact this
    refine ⟨env', A', ?_, by rw [show k + (x :: xs).length = k + 1 + xs.length by simp; omega]; exact k2⟩
    simp only [List.map_cons, forL, h1, bnd_ok, h2]
    rcases h3 with rfl | rfl <;> exact k1
section
variable {cl : Cl} {env : Env} {A A1 : AH} {tg : T} {it : I}
theorem for_ix {α : Type} {f : α → D} {body : Ss} {xs : List α} {Pv : Nat → Env → AH → Prop} (hi : evi cl it env A = .ok (xs.map f) A1) (h0 : Pv 0 env A1)
    (h : ∀ i x env A, xs[i]? = some x → Pv i env A → ∃ env1 A1 fl env2 A2, asg cl tg (f x) env A = .ok env1 A1 ∧ evSs cl body env1 A1 = .ok (fl, env2) A2 ∧ (fl = .nx ∨ fl = .ct) ∧ Pv (i + 1) env2 A2) :
    ∃ env' A', evS cl (.for tg it body) env A = .ok (.nx, env') A' ∧ Pv xs.length env' A' := by
  obtain ⟨env', A', k1, k2⟩ := forL_ix (as := fun d => asg cl tg d) (body := fun env A => evSs cl body env A) (f := f) (Pv := Pv) xs 0 env A1 h0 fun i x env A e p => by
    rw [Nat.zero_add] at p ⊢; exact h i x env A e p
  exact ⟨env', A', by rw [evS_for, hi]; exact k1, by rwa [Nat.zero_add] at k2⟩
/-- over range(n) -/
theorem for_rng {f : Nat → D} {body : Ss} {n : Nat} {Pv : Nat → Env → AH → Prop} (hi : evi cl it env A = .ok ((List.range n).map f) A1) (h0 : Pv 0 env A1)
    (h : ∀ i env A, i < n → Pv i env A → ∃ env1 A1 fl env2 A2, asg cl tg (f i) env A = .ok env1 A1 ∧ evSs cl body env1 A1 = .ok (fl, env2) A2 ∧ (fl = .nx ∨ fl = .ct) ∧ Pv (i + 1) env2 A2) :
    ∃ env' A', evS cl (.for tg it body) env A = .ok (.nx, env') A' ∧ Pv n env' A' := by
  obtain ⟨env', A', k1, k2⟩ := for_ix (tg := tg) (body := body) (Pv := Pv) hi h0 fun i x env A e p => by
    have hl : i < n := by have := (List.getElem?_eq_some_iff.mp e).1; rwa [List.length_range] at this
    rw [List.getElem?_range hl] at e
    cases e
    exact h i env A hl p
  exact ⟨env', A', k1, by rwa [List.length_range] at k2⟩
end
section
variable {A : AH} {d : D} {xs : List D}
theorem slc_of (h : shal A d = .lst xs) (lo hi : Option Int) : slcO A d lo hi = some (.lst (cut xs lo hi)) := by unfold slcO; rw [h]
theorem len_of (h : shal A d = .lst xs) : lenO A d = some (xs.length : Int) := by unfold lenO; rw [h]
theorem add_lst (ys : List D) (h : xs.length + ys.length ≤ 1000) : binO A .add (.lst xs) (.lst ys) = some (.lst (xs ++ ys)) := by
  show (if xs.length + ys.length ≤ lim then some (D.lst (xs ++ ys)) else none) = _
  rw [if_pos (Nat.le_trans h (by decide))]
end
theorem sIx_nat {n d k : Nat} (h : k ≤ n) : sIx n d (some (k : Int)) = k := by
  show (if (k : Int) < 0 then ((k : Int) + (n : Int)).toNat else min (k : Int).toNat n) = k
  rw [if_neg (by omega), Int.toNat_natCast, Nat.min_eq_left h]
theorem cut_to {α : Type} {xs : List α} {k : Nat} (h : k ≤ xs.length) : cut xs none (some (k : Int)) = xs.take k := by
  unfold cut
  rw [sIx_nat h]
  rfl
theorem cut_from {α : Type} {xs : List α} {k : Nat} (h : k ≤ xs.length) : cut xs (some (k : Int)) none = xs.drop k := by
  unfold cut
  rw [sIx_nat h]
  show (xs.drop k).take (xs.length - k) = _
  rw [List.take_of_length_le (by simp)]
theorem pu_roads (k : Nat) (rs : List Road) : D.pus (k + 2) (rs.map rD) = true := pus_of fun x hx => by
  obtain ⟨r, _, rfl⟩ := List.mem_map.mp hx; rfl
theorem pu_wD (k m : Nat) (rs : List Road) : D.pu (k + 4) (wD m rs) = true := by
  simp [wD, D.pu, D.pus, pu_roads]
end Ev

set_option maxRecDepth 100000
/-! Pl5: tables of distances -/
namespace Ev
open PySem (Str)
abbrev Mx := Nat → Nat → Option Int
def oD : Option Int → D
  | none => .non
  | some i => .int i
def rowO (m : Nat) (F : Mx) (i : Nat) : O := .lst ((List.range m).map fun j => oD (F i j))
def matN (m k : Nat) (F : Mx) : AH := (List.range k).map fun i => rowO m F i
def updF (F : Mx) (i j : Nat) (v : Option Int) : Mx := fun a b => if a = i ∧ b = j then v else F a b
theorem matN_len (m k : Nat) (F : Mx) : (matN m k F).length = k := by simp [matN]
theorem matN_succ (m k : Nat) (F : Mx) : matN m (k + 1) F = matN m k F ++ [rowO m F k] := by simp [matN, List.range_succ]
section
variable {A : AH} {m : Nat} {F : Mx} {i j : Nat}
theorem mat_get (hi : i < m) : (A ++ matN m m F)[A.length + i]? = some (rowO m F i) := by
  rw [List.getElem?_append_right (Nat.le_add_right _ _), Nat.add_sub_cancel_left]
  simp [matN, hi]
theorem mat_idx (hi : i < m) (hj : j < m) : idxO (A ++ matN m m F) (.ref (A.length + i)) (.int j) = some (oD (F i j)) := by
  rw [idxO_ref (mat_get hi)]
  have h : j < (List.range m).length := by rw [List.length_range]; exact hj
  rw [atI_map h, List.getElem_range]
theorem mat_set (hi : i < m) (hj : j < m) (v : Option Int) : setO (A ++ matN m m F) (.ref (A.length + i)) (.int j) (oD v) = some (A ++ matN m m (updF F i j v)) := by
  rw [setO_ref (mat_get hi), List.length_map, List.length_range, ixN_nat hj, Option.map_some, List.set_append_right _ _ (Nat.le_add_right _ _), Nat.add_sub_cancel_left]
  congr 2
  refine List.ext_getElem? fun a => ?_
  by_cases ha : a < m
  · by_cases hai : i = a
    · subst hai
      rw [List.getElem?_set_self (by rw [matN_len]; exact ha)]
      simp only [matN, List.getElem?_map, List.getElem?_range ha, Option.map_some]
      congr 1
      unfold rowO
      congr 1
      refine List.ext_getElem? fun b => ?_
      by_cases hb : b < m
      · by_cases hbj : j = b
        · subst hbj
          rw [List.getElem?_set_self (by simpa using hb)]
          simp [List.getElem?_range hb, updF]
        · rw [List.getElem?_set_ne hbj]
          have : ¬ b = j := fun z => hbj z.symm
          simp [List.getElem?_range hb, updF, this]
      · rw [List.getElem?_eq_none (by simp; omega), List.getElem?_eq_none (by simp; omega)]
    · rw [List.getElem?_set_ne hai]
      have : ¬ a = i := fun z => hai z.symm
      simp [matN, List.getElem?_range ha, rowO, updF, this]
  · rw [List.getElem?_eq_none (by simp [matN]; omega), List.getElem?_eq_none (by simp [matN]; omega)]
end
/-- the table as an object of rows -/
def farD (k m : Nat) : D := .lst ((List.range m).map fun i => .ref (k + i))
theorem far_idx {A B : AH} {m i : Nat} (hi : i < m) : idxO B (farD A.length m) (.int i) = some (.ref (A.length + i)) := by
  unfold farD
  rw [idxO_lst]
  have h : i < (List.range m).length := by rw [List.length_range]; exact hi
  rw [atI_map h, List.getElem_range]
/-- the table as a value -/
def distD (m : Nat) (F : Mx) : D := .lst ((List.range m).map fun i => .lst ((List.range m).map fun j => oD (F i j)))
theorem dist_row {A : AH} {m i : Nat} {F : Mx} (hi : i < m) : idxO A (distD m F) (.int i) = some (.lst ((List.range m).map fun j => oD (F i j))) := by
  unfold distD
  rw [idxO_lst]
  have h : i < (List.range m).length := by rw [List.length_range]; exact hi
  rw [atI_map h, List.getElem_range]
theorem dist_at {A : AH} {m i j : Nat} {F : Mx} (hj : j < m) : idxO A (.lst ((List.range m).map fun j => oD (F i j))) (.int j) = some (oD (F i j)) := by
  rw [idxO_lst]
  have h : j < (List.range m).length := by rw [List.length_range]; exact hj
  rw [atI_map h, List.getElem_range]
theorem fzL_map {α : Type} {f : D → Option (D × List Nat)} {g h : α → D} {k : α → List Nat} : ∀ (l : List α), (∀ x ∈ l, f (g x) = some (h x, k x)) → fzL f (l.map g) = some (l.map h, l.flatMap k)
  | [], _ => rfl
  | x :: l, e => by
    simp only [List.map_cons, fzL]
    rw [e x List.mem_cons_self, fzL_map l fun y hy => e y (List.mem_cons_of_mem _ hy)]
    simp
theorem pu_oD (k : Nat) (o : Option Int) : D.pu (k + 1) (oD o) = true := by cases o <;> rfl
theorem fz_far {A : AH} {m : Nat} {F : Mx} : ∃ L, fz (A ++ matN m m F) 8 (farD A.length m) = some (distD m F, L) ∧ ∀ n ∈ L, A.length ≤ n := by
  refine ⟨(List.range m).flatMap fun i => [A.length + i], ?_, fun n hn => ?_⟩
  · have e := fzL_map (f := fz (A ++ matN m m F) 7) (g := fun i : Nat => D.ref (A.length + i)) (h := fun i => D.lst ((List.range m).map fun j => oD (F i j))) (k := fun i => [A.length + i]) (List.range m) fun i hi => by
      have hi := List.mem_range.mp hi
      have q : fz (A ++ matN m m F) 7 (.ref (A.length + i)) = (match (A ++ matN m m F)[A.length + i]? with
        | some (.lst xs) => (fzL (fz (A ++ matN m m F) 6) xs).map fun p => (D.lst p.1, (A.length + i) :: p.2)
        | some (.dk ks vs) => (fzL (fz (A ++ matN m m F) 6) vs).map fun p => (D.dk ks p.1, (A.length + i) :: p.2)
        | some (.dt ks vs) => (fzL (fz (A ++ matN m m F) 6) vs).map fun p => (D.dt ks p.1, (A.length + i) :: p.2)
        | _ => none) := rfl
      rw [q, mat_get hi]
      simp only [rowO]
      rw [fzL_pure fun x hx => ?_]
      · rfl
      · obtain ⟨j, _, rfl⟩ := List.mem_map.mp hx
        exact fz_pu 6 _ (pu_oD 5 _)
    show (fzL (fz (A ++ matN m m F) 7) ((List.range m).map fun i => .ref (A.length + i))).map _ = _
    rw [e]
    rfl
  · obtain ⟨i, _, hi⟩ := List.mem_flatMap.mp hn
    simp at hi; omega
theorem fin_gen {A E : AH} {d d' : D} {L : List Nat} (h : fz (A ++ E) 8 d = some (d', L)) (hL : ∀ n ∈ L, A.length ≤ n) : finish true A d (A ++ E) = .ok d' A := by
  unfold finish
  rw [if_pos rfl, h]
  simp only [oldOk_refl, Bool.and_true, List.take_left']
  rw [if_pos]
  rw [List.all_eq_true]
  exact fun n hn => decide_eq_true (hL n hn)

/-! ### one more place between -/
def relax (F : Mx) (k : Nat) : Mx := fun i j => match F i k, F k j with
  | some a, some b => (match F i j with
    | none => some (a + b)
    | some c => if a + b < c then some (a + b) else some c)
  | _, _ => F i j
theorem relax_le {F : Mx} {k i j : Nat} {c : Int} (h : F i j = some c) : ∃ d, relax F k i j = some d ∧ d ≤ c := by
  unfold relax
  rw [h]
  split
  · simp only
    split
    · exact ⟨_, rfl, by omega⟩
    · exact ⟨_, rfl, by omega⟩
  · exact ⟨_, rfl, Int.le_refl _⟩
theorem relax_via {F : Mx} {k i j : Nat} {a b : Int} (h1 : F i k = some a) (h2 : F k j = some b) : ∃ d, relax F k i j = some d ∧ d ≤ a + b := by
  unfold relax
  rw [h1, h2]
  simp only
  split
  · exact ⟨_, rfl, Int.le_refl _⟩
  · split
    · exact ⟨_, rfl, Int.le_refl _⟩
    · exact ⟨_, rfl, by omega⟩
theorem relax_is {F : Mx} {k i j : Nat} {d : Int} (h : relax F k i j = some d) : F i j = some d ∨ ∃ a b, F i k = some a ∧ F k j = some b ∧ d = a + b := by
  unfold relax at h
  split at h
  · rename_i a b h1 h2
    split at h
    · cases h; exact .inr ⟨a, b, h1, h2, rfl⟩
    · rename_i c h3
      split at h
      · cases h; exact .inr ⟨a, b, h1, h2, rfl⟩
      · cases h; exact .inl h3
  · exact .inl h
structure Tri (m k : Nat) (rs : List Road) (F : Mx) : Prop where
  diag : ∀ i, i < m → F i i = some 0
  nn : ∀ i j v, F i j = some v → 0 ≤ v
  road : ∀ r ∈ rs, (∃ v, F r.1 r.2.1 = some v ∧ v ≤ r.2.2) ∧ ∃ v, F r.2.1 r.1 = some v ∧ v ≤ r.2.2
  tri : ∀ t, t < k → ∀ i j v w, F i t = some v → F t j = some w → ∃ u, F i j = some u ∧ u ≤ v + w
theorem Tri.next {m k : Nat} {rs : List Road} {F : Mx} (h : Tri m k rs F) (hk : k < m) : Tri m (k + 1) rs (relax F k) := by
  have hkk := h.diag k hk
  have nn : ∀ i j v, relax F k i j = some v → 0 ≤ v := fun i j v e => by
    rcases relax_is e with e | ⟨a, b, e1, e2, rfl⟩
    · exact h.nn _ _ _ e
    · have := h.nn _ _ _ e1; have := h.nn _ _ _ e2; omega
  refine ⟨fun i hi => ?_, nn, fun r hr => ?_, fun t ht i j v w hv hw => ?_⟩
  · obtain ⟨d, e, hd⟩ := relax_le (k := k) (h.diag i hi)
    have := nn _ _ _ e
    rw [e]; congr 1; omega
  · obtain ⟨⟨v, e1, hv⟩, w, e2, hw⟩ := h.road r hr
    obtain ⟨d1, f1, g1⟩ := relax_le (k := k) e1
    obtain ⟨d2, f2, g2⟩ := relax_le (k := k) e2
    exact ⟨⟨d1, f1, by omega⟩, d2, f2, by omega⟩
  · by_cases htk : t = k
    · subst htk
      have ev : F i t = some v := by
        rcases relax_is hv with e | ⟨a, b, e1, e2, rfl⟩
        · exact e
        · rw [hkk] at e2; cases e2; rw [e1]; simp
      have ew : F t j = some w := by
        rcases relax_is hw with e | ⟨a, b, e1, e2, rfl⟩
        · exact e
        · rw [hkk] at e1; cases e1; rw [e2]; simp
      exact relax_via ev ew
    · have ht' : t < k := by omega
      rcases relax_is hv with ev | ⟨a, b, e1, e2, rfl⟩
      · rcases relax_is hw with ew | ⟨c, d, f1, f2, rfl⟩
        · obtain ⟨u, hu, hl⟩ := h.tri t ht' i j v w ev ew
          obtain ⟨u', hu', hl'⟩ := relax_le (k := k) hu
          exact ⟨u', hu', by omega⟩
        · obtain ⟨u, hu, hl⟩ := h.tri t ht' i k v c ev f1
          obtain ⟨u', hu', hl'⟩ := relax_via hu f2
          exact ⟨u', hu', by omega⟩
      · rcases relax_is hw with ew | ⟨c, d, f1, f2, rfl⟩
        · obtain ⟨u, hu, hl⟩ := h.tri t ht' k j b w e2 ew
          obtain ⟨u', hu', hl'⟩ := relax_via e1 hu
          exact ⟨u', hu', by omega⟩
        · obtain ⟨u', hu', hl'⟩ := relax_via e1 f2
          have := h.nn _ _ _ e2; have := h.nn _ _ _ f1
          exact ⟨u', hu', by omega⟩
/-- the table while the place k is put between: the cells before (a, b) are done -/
def curF (F : Mx) (k a b : Nat) : Mx := fun i j => if i < a ∨ (i = a ∧ j < b) then relax F k i j else F i j
theorem relax_k {F : Mx} {k : Nat} (hk : F k k = some 0) (i : Nat) : relax F k i k = F i k := by
  unfold relax
  rw [hk]
  cases e : F i k with
  | none => rfl
  | some a => simp
theorem relax_k' {F : Mx} {k : Nat} (hk : F k k = some 0) (j : Nat) : relax F k k j = F k j := by
  unfold relax
  rw [hk]
  cases e : F k j with
  | none => rfl
  | some a => simp
theorem cur_ik {F : Mx} {k a b : Nat} (hk : F k k = some 0) (i : Nat) : curF F k a b i k = F i k := by unfold curF; rw [relax_k hk]; split <;> rfl
theorem cur_kj {F : Mx} {k a b : Nat} (hk : F k k = some 0) (j : Nat) : curF F k a b k j = F k j := by unfold curF; rw [relax_k' hk]; split <;> rfl
theorem cur_at {F : Mx} {k a b : Nat} : curF F k a b a b = F a b := by unfold curF; rw [if_neg (by omega)]
theorem cur_set {F : Mx} {k a b : Nat} : updF (curF F k a b) a b (relax F k a b) = curF F k a (b + 1) := by
  funext i j
  unfold updF curF
  by_cases h : i = a ∧ j = b
  · obtain ⟨rfl, rfl⟩ := h
    rw [if_pos ⟨rfl, rfl⟩, if_pos (by omega)]
  · rw [if_neg h]
    by_cases h2 : i < a ∨ (i = a ∧ j < b)
    · rw [if_pos h2, if_pos (by omega)]
    · rw [if_neg h2, if_neg (by omega)]
theorem cur_same {F : Mx} {k a b : Nat} (h : relax F k a b = F a b) : curF F k a b = curF F k a (b + 1) := by
  rw [← cur_set, h]
  funext i j
  unfold updF
  by_cases e : i = a ∧ j = b
  · obtain ⟨rfl, rfl⟩ := e
    rw [if_pos ⟨rfl, rfl⟩, cur_at]
  · rw [if_neg e]
theorem cur_0 {F : Mx} {k : Nat} : curF F k 0 0 = F := by
  funext i j; unfold curF; rw [if_neg (by omega)]
theorem matN_congr {m k : Nat} {F G : Mx} (h : ∀ i j, i < k → j < m → F i j = G i j) : matN m k F = matN m k G := by
  unfold matN
  refine List.map_congr_left fun i hi => ?_
  unfold rowO
  congr 1
  refine List.map_congr_left fun j hj => ?_
  rw [h i j (List.mem_range.mp hi) (List.mem_range.mp hj)]
theorem cur_row {F : Mx} {k m a : Nat} : matN m m (curF F k a m) = matN m m (curF F k (a + 1) 0) := matN_congr fun i j hi hj => by
  unfold curF
  by_cases h : i < a ∨ (i = a ∧ j < m)
  · rw [if_pos h, if_pos (by omega)]
  · rw [if_neg h, if_neg (by omega)]
theorem cur_all {F : Mx} {k m : Nat} : matN m m (curF F k m 0) = matN m m (relax F k) := matN_congr fun i j hi hj => by
  unfold curF; rw [if_pos (.inl hi)]
end Ev

set_option maxRecDepth 100000
/-! Pl6: comprehensions by their turns' numbers -/
namespace Ev
open PySem (Str)
theorem compL_ix {as : D → Env → AH → Res Env} {cs : Env → AH → Res Bool} {ef : Env → AH → Res D} {env : Env} {α : Type} {f : α → D} {g : Nat → D} {Pv : Nat → AH → Prop} : ∀ (xs : List α) (k : Nat) (A : AH), Pv k A →
    (∀ i x A, xs[i]? = some x → Pv (k + i) A → ∃ env1 A1 A2 A3, as (f x) env A = .ok env1 A1 ∧ cs env1 A1 = .ok true A2 ∧ ef env1 A2 = .ok (g (k + i)) A3 ∧ Pv (k + i + 1) A3) →
    ∃ A', compL as cs ef env (xs.map f) A = .ok ((List.range' k xs.length).map g) A' ∧ Pv (k + xs.length) A'
  | [], k, A, h, _ => ⟨A, rfl, h⟩
  | x :: xs, k, A, h, step => by
    obtain ⟨env1, A1, A2, A3, h1, h2, h3, h4⟩ := step 0 x A rfl h
    obtain ⟨A', k1, k2⟩ := compL_ix (Pv := Pv) xs (k + 1) A3 h4 fun i y A e p => by
      have := step (i + 1) y A (by simpa using e) (by rw [show k + (i + 1) = k + 1 + i by omega]; exact p)
      rw [show k + (i + 1) = k + 1 + i by omega] at this
      exact this
    refine ⟨A', ?_, by rw [show k + (x :: xs).length = k + 1 + xs.length by simp; omega]; exact k2⟩
    simp only [List.map_cons, compL, h1, bnd_ok, h2, if_true, h3, k1, List.length_cons, List.range'_succ]
    rfl
section
variable {cl : Cl} {env : Env} {A A1 : AH} {own : List Nat} {tg : T} {it : I} {cs : Es} {e : E}
theorem cmp_rng {f g : Nat → D} {n : Nat} {Pv : Nat → AH → Prop} (hi : evi cl it env A = .ok ((List.range n).map f) A1) (hl : n ≤ 100000) (h0 : Pv 0 A1)
    (h : ∀ i A, i < n → Pv i A → ∃ env1 A1 A2 A3, asg cl tg (f i) (wipe env own) A = .ok env1 A1 ∧ evt cl cs env1 A1 = .ok true A2 ∧ ev cl e env1 A2 = .ok (g i) A3 ∧ Pv (i + 1) A3) :
    ∃ A', ev cl (.comp false own tg it cs e) env A = .ok (.lst ((List.range n).map g)) A' ∧ Pv n A' := by
  obtain ⟨A', k1, k2⟩ := compL_ix (as := fun d => asg cl tg d) (cs := fun env A => evt cl cs env A) (ef := fun env A => ev cl e env A) (env := wipe env own) (f := f) (g := g) (Pv := Pv) (List.range n) 0 A1 h0 fun i x A ex p => by
    have hl : i < n := by have := (List.getElem?_eq_some_iff.mp ex).1; rwa [List.length_range] at this
    rw [List.getElem?_range hl] at ex
    cases ex
    rw [Nat.zero_add] at p ⊢
    exact h i A hl p
  rw [Nat.zero_add, List.length_range] at k2
  refine ⟨A', ?_, k2⟩
  rw [ev_comp, hi]
  simp only [bnd_ok]
  rw [k1]
  simp only [calm_ok, bnd_ok, List.length_map, List.length_range', List.length_range]
  rw [if_pos (Nat.le_trans hl (by decide)), ← List.range_eq_range']
  rfl
theorem cmp_mapM {α : Type} {f g : α → D} {xs : List α} (hi : evi cl it env A = .ok (xs.map f) A1) (hl : xs.length ≤ 100000)
    (h : ∀ x ∈ xs, ∃ env1, asg cl tg (f x) (wipe env own) A1 = .ok env1 A1 ∧ evt cl cs env1 A1 = .ok true A1 ∧ ev cl e env1 A1 = .ok (g x) A1) : ev cl (.comp true own tg it cs e) env A = .ok (.ref A1.length) (A1 ++ [.lst (xs.map g)]) := by
  rw [ev_comp, hi]
  simp only [bnd_ok]
  rw [compL_map (f := f) (g := g) h]
  simp only [calm_ok, bnd_ok, List.length_map]
  rw [if_pos (Nat.le_trans hl (by decide))]
  rfl
end
end Ev

set_option maxRecDepth 100000
/-! Pl7: least values; heights of a table -/
namespace Ev
open PySem (Str)
theorem minL_spec {l : List Int} {x : Int} (h : minL l = some x) : (∀ y ∈ l, x ≤ y) ∧ x ∈ l := by
  cases l with
  | nil => cases h
  | cons a r =>
    have e := foldl_min r a
    have : x = r.foldl (fun a b => if b < a then b else a) a := (Option.some.inj h).symm
    rw [this]; exact e
theorem minL_ex {l : List Int} {y : Int} (h : y ∈ l) : ∃ x, minL l = some x := by
  cases l with
  | nil => cases h
  | cons a r => exact ⟨_, rfl⟩
/-- from the place i: the base and the way -/
def valsF (m : Nat) (F : Mx) (bs : List Int) (i : Nat) : List Int := (List.range m).filterMap fun j => (F i j).map fun v => bs.getD j 0 + v
def hF (m : Nat) (F : Mx) (bs : List Int) (i : Nat) : Int := (minL (valsF m F bs i)).getD 0
def htsF (m : Nat) (F : Mx) (bs : List Int) : List Int := (List.range m).map (hF m F bs)
theorem mem_vals {m : Nat} {F : Mx} {bs : List Int} {i : Nat} {y : Int} : y ∈ valsF m F bs i ↔ ∃ j v, j < m ∧ F i j = some v ∧ y = bs.getD j 0 + v := by
  unfold valsF
  rw [List.mem_filterMap]
  refine ⟨fun ⟨j, hj, e⟩ => ?_, fun ⟨j, v, hj, e, hy⟩ => ⟨j, List.mem_range.mpr hj, by rw [e, hy]; rfl⟩⟩
  obtain ⟨v, e1, e2⟩ := Option.map_eq_some_iff.mp e
  exact ⟨j, v, List.mem_range.mp hj, e1, e2.symm⟩
theorem hF_spec {m : Nat} {rs : List Road} {F : Mx} (h : Tri m m rs F) (bs : List Int) {i : Nat} (hi : i < m) : minL (valsF m F bs i) = some (hF m F bs i) ∧ (∀ j v, j < m → F i j = some v → hF m F bs i ≤ bs.getD j 0 + v) ∧ ∃ j v, j < m ∧ F i j = some v ∧ hF m F bs i = bs.getD j 0 + v := by
  obtain ⟨x, hx⟩ := minL_ex (mem_vals.mpr ⟨i, 0, hi, h.diag i hi, rfl⟩ : _ ∈ valsF m F bs i)
  have e : hF m F bs i = x := by unfold hF; rw [hx]; rfl
  obtain ⟨h1, h2⟩ := minL_spec hx
  rw [e]
  exact ⟨hx, fun j v hj hv => h1 _ (mem_vals.mpr ⟨j, v, hj, hv, rfl⟩), mem_vals.mp h2⟩
theorem hts_get {m : Nat} {F : Mx} {bs : List Int} {i : Nat} (hi : i < m) : (htsF m F bs).getD i 0 = hF m F bs i := by
  unfold htsF
  rw [List.getD_eq_getElem?_getD, List.getElem?_map, List.getElem?_range hi]; rfl
theorem hts_ok {m : Nat} {rs : List Road} {F : Mx} (hw : WebOk m rs) (h : Tri m m rs F) (bs : List Int) : HeightsOk m rs (htsF m F bs) := by
  refine ⟨by simp [htsF], fun r hr => ?_⟩
  obtain ⟨r1, r2, r3, r4⟩ := hw.road r hr
  have ha : r.1 < m := by omega
  rw [hts_get ha, hts_get r2]
  obtain ⟨⟨d, hd, hdl⟩, d', hd', hdl'⟩ := h.road r hr
  obtain ⟨_, a1, ja, va, a2, a3, a4⟩ := hF_spec h bs ha
  obtain ⟨_, b1, jb, vb, b2, b3, b4⟩ := hF_spec h bs r2
  obtain ⟨u, hu, hul⟩ := h.tri r.2.1 r2 _ _ _ _ hd b3
  obtain ⟨w, hw', hwl⟩ := h.tri r.1 ha _ _ _ _ hd' a3
  have := a1 jb u b2 hu
  have := b1 ja w a2 hw'
  unfold absI
  split <;> omega
end Ev

set_option maxRecDepth 100000
/-! Pl8: heights and loads -/
namespace Ev
open PySem (Str)
def dotF (ts hs : List Int) : Int := ((ts.zip hs).map fun p => p.1 * p.2).sum
theorem gain_dot : ∀ {hs ws ts : List Int}, hs.length = ts.length → ws.length = ts.length → gainF hs ws ts = dotF ts hs - dotF ts ws
  | [], [], [], _, _ => rfl
  | h :: hs, w :: ws, t :: ts, a, b => by
    have ih := gain_dot (hs := hs) (ws := ws) (ts := ts) (by simpa using a) (by simpa using b)
    simp only [gainF, dotF, List.zip_cons_cons, List.map_cons, List.sum_cons] at ih ⊢
    rw [ih, Int.mul_sub]; omega
  | [], _ :: _, [], _, b => by simp at b
  | [], [], _ :: _, a, _ => by simp at a
  | [], _ :: _, _ :: _, a, _ => by simp at a
  | _ :: _, _, [], a, _ => by simp at a
  | _ :: _, [], _ :: _, _, b => by simp at b
theorem dot_set : ∀ {ts hs : List Int} {i : Nat} {v : Int}, hs.length = ts.length → i < hs.length → dotF ts (hs.set i v) = dotF ts hs + ts.getD i 0 * (v - hs.getD i 0)
  | [], [], i, v, _, h => by simp at h
  | [], _ :: _, _, _, h, _ => by simp at h
  | _ :: _, [], _, _, h, _ => by simp at h
  | t :: ts, h :: hs, 0, v, _, _ => by
    simp only [dotF, List.set_cons_zero, List.zip_cons_cons, List.map_cons, List.sum_cons, List.getD_cons_zero]
    rw [Int.mul_sub]; omega
  | t :: ts, h :: hs, i + 1, v, hl, hi => by
    have ih := dot_set (ts := ts) (hs := hs) (i := i) (v := v) (by simpa using hl) (by simpa using hi)
    simp only [dotF, List.set_cons_succ, List.zip_cons_cons, List.map_cons, List.sum_cons, List.getD_cons_succ] at ih ⊢
    rw [ih]; omega
/-- what the loads give at the heights -/
def stepsF (ts : List Int) (ps : List (Road × Int)) : Int := (ps.map fun p => p.2 * (ts.getD p.1.1 0 - ts.getD p.1.2.1 0)).sum
theorem dot_step {m : Nat} {ts hs : List Int} {p : Road × Int} (ht : ts.length = m) (hh : hs.length = m) (h : p.1.1 < p.1.2.1 ∧ p.1.2.1 < m) : dotF ts (stepF hs p) = dotF ts hs - p.2 * (ts.getD p.1.1 0 - ts.getD p.1.2.1 0) := by
  unfold stepF
  have e : (hs.set p.1.1 (hs.getD p.1.1 0 - p.2)).getD p.1.2.1 0 = hs.getD p.1.2.1 0 := by
    rw [List.getD_eq_getElem?_getD, List.getElem?_set_ne (by omega), List.getD_eq_getElem?_getD]
  rw [dot_set (by simp; omega) (by simp; omega), e, dot_set (by omega) (by omega)]
  have e1 : hs.getD p.1.1 0 - p.2 - hs.getD p.1.1 0 = -p.2 := by omega
  have e2 : hs.getD p.1.2.1 0 + p.2 - hs.getD p.1.2.1 0 = p.2 := by omega
  rw [e1, e2, Int.mul_neg, Int.mul_sub, Int.mul_comm p.2, Int.mul_comm p.2]; omega
theorem dot_comes {m : Nat} {ts : List Int} (ht : ts.length = m) : ∀ {ps : List (Road × Int)} {hs : List Int}, hs.length = m → (∀ p ∈ ps, p.1.1 < p.1.2.1 ∧ p.1.2.1 < m) → dotF ts (comesF hs ps) = dotF ts hs - stepsF ts ps
  | [], hs, _, _ => by simp [comesF, stepsF]
  | p :: ps, hs, hh, h => by
    have ih := dot_comes (ps := ps) (hs := stepF hs p) ht (by rw [stepF_len, hh]) fun q hq => h q (List.mem_cons_of_mem _ hq)
    show dotF ts (comesF (stepF hs p) ps) = _
    rw [ih, dot_step ht hh (h p List.mem_cons_self)]
    simp only [stepsF, List.map_cons, List.sum_cons]; omega
theorem gain_comes {m : Nat} {ts hs : List Int} {ps : List (Road × Int)} (ht : ts.length = m) (hh : hs.length = m) (h : ∀ p ∈ ps, p.1.1 < p.1.2.1 ∧ p.1.2.1 < m) : gainF hs (comesF hs ps) ts = stepsF ts ps := by
  rw [gain_dot (by omega) (by rw [comesF_len]; omega), dot_comes ht hh h]; omega
theorem mul_le_abs {x d l : Int} (h : absI d ≤ l) : x * d ≤ l * absI x := by
  unfold absI at h ⊢
  by_cases hx : x < 0
  · rw [if_pos hx, Int.mul_comm l, ← Int.neg_mul_neg]
    exact Int.mul_le_mul_of_nonneg_left (by split at h <;> omega) (by omega)
  · rw [if_neg hx, Int.mul_comm l]
    exact Int.mul_le_mul_of_nonneg_left (by split at h <;> omega) (by omega)
theorem steps_le {ts : List Int} : ∀ {ps : List (Road × Int)}, (∀ p ∈ ps, absI (ts.getD p.1.1 0 - ts.getD p.1.2.1 0) ≤ p.1.2.2) → stepsF ts ps ≤ costF ps
  | [], _ => by simp [stepsF, costF]
  | p :: ps, h => by
    have ih := steps_le (ps := ps) fun q hq => h q (List.mem_cons_of_mem _ hq)
    have := mul_le_abs (x := p.2) (h p List.mem_cons_self)
    simp only [stepsF, costF, List.map_cons, List.sum_cons] at ih ⊢
    omega
theorem gain_shift (c : Int) : ∀ {hs ws ts : List Int}, hs.length = ts.length → ws.length = ts.length → gainF hs ws (ts.map (· + c)) = gainF hs ws ts + c * (hs.sum - ws.sum)
  | [], [], [], _, _ => by simp [gainF]
  | h :: hs, w :: ws, t :: ts, a, b => by
    have ih := gain_shift c (hs := hs) (ws := ws) (ts := ts) (by simpa using a) (by simpa using b)
    simp only [gainF, List.zip_cons_cons, List.map_cons, List.sum_cons] at ih ⊢
    rw [ih, Int.add_mul]
    have e : c * (h + hs.sum - (w + ws.sum)) = c * (h - w) + c * (hs.sum - ws.sum) := by rw [← Int.mul_add]; congr 1; omega
    rw [e]; omega
  | [], _ :: _, [], _, b => by simp at b
  | [], [], _ :: _, a, _ => by simp at a
  | [], _ :: _, _ :: _, a, _ => by simp at a
  | _ :: _, _, [], a, _ => by simp at a
  | _ :: _, [], _ :: _, _, b => by simp at b
end Ev

set_option maxRecDepth 100000
/-! Pl9: equal lists of answers; arguments by names -/
namespace Ev
open PySem (Str)
theorem placed_2 (a b : D) : placed [] [a, b] [1, 0] = [b, a] := rfl
theorem placed_3 (a b c : D) : placed [] [a, b, c] [2, 1, 0] = [c, b, a] := rfl
theorem placed_4 (a b c d : D) : placed [] [a, b, c, d] [3, 2, 1, 0] = [d, c, b, a] := rfl
theorem eq_lstI (A : AH) (a b : List Int) : cmpO A .eq (.lst (a.map D.int)) (.lst (b.map D.int)) = some (decide (a = b)) := by
  show eqO A (.lst (a.map D.int)) (.lst (b.map D.int)) = _
  unfold eqO
  simp only [shal_lst, D.flatN, flat_ints, Bool.and_self, if_true, D.eqv, eqvs_ints]
theorem eqvs_self : ∀ {xs : List D}, (∀ x ∈ xs, D.eqv x x = true) → D.eqvs xs xs = true
  | [], _ => by simp [D.eqvs]
  | x :: xs, h => by simp [D.eqvs, h x List.mem_cons_self, eqvs_self fun y hy => h y (List.mem_cons_of_mem _ hy)]
theorem flatNs_of {k : Nat} : ∀ {xs : List D}, (∀ x ∈ xs, D.flatN k x = true) → D.flatNs k xs = true
  | [], _ => by simp [D.flatNs]
  | x :: xs, h => by simp [D.flatNs, h x List.mem_cons_self, flatNs_of fun y hy => h y (List.mem_cons_of_mem _ hy)]
theorem flat_iD (k : Nat) (a : List Int) : D.flatN (k + 1) (iD a) = true := by simp only [iD, D.flatN]; exact flat_ints k a
theorem eqv_iD (a : List Int) : D.eqv (iD a) (iD a) = true := by simp only [iD, D.eqv]; rw [eqvs_ints]; simp
theorem eq_self {A : AH} {xs : List D} (h : ∀ x ∈ xs, (∃ a, x = iD a) ∨ (∃ i, x = .int i) ∨ ∃ b, x = .bl b) : cmpO A .eq (.lst xs) (.lst xs) = some true := by
  show eqO A (.lst xs) (.lst xs) = _
  unfold eqO
  have e1 : D.flatNs 59 xs = true := flatNs_of fun x hx => by
    rcases h x hx with ⟨a, rfl⟩ | ⟨i, rfl⟩ | ⟨b, rfl⟩
    · exact flat_iD 58 a
    · rfl
    · rfl
  have e2 : D.eqvs xs xs = true := eqvs_self fun x hx => by
    rcases h x hx with ⟨a, rfl⟩ | ⟨i, rfl⟩ | ⟨b, rfl⟩
    · exact eqv_iD a
    · simp [D.eqv]
    · simp [D.eqv]
  simp only [shal_lst, D.flatN, e1, Bool.and_self, if_true, D.eqv, e2]
/-- the places that hold less than none or more than 99 -/
def badL (ns : List Int) : List Int := ns.filter fun x => !(decide (-1 < x) && decide (x < 100))
theorem bad_none {m : Nat} {ns : List Int} (hl : ns.length = m) (h : badL ns = []) : ns.length = m ∧ ∀ x ∈ ns, 0 ≤ x ∧ x ≤ 99 := by
  refine ⟨hl, fun x hx => ?_⟩
  unfold badL at h
  rw [List.filter_eq_nil_iff] at h
  have := h x hx
  simp at this
  omega
end Ev

set_option maxRecDepth 100000
namespace K11
open PySem Ev
abbrev top (i : Nat) : Stmt := PySem.Challenge.pw_heapcarries_k11_whole_loads_that_lead_an.main.body.getD i (.Pass ⟨0, 0, 0, 0⟩)
abbrev i_is_whole : Nat := 0
abbrev i_is_between : Nat := 1
abbrev i_is_tuple_of : Nat := 2
abbrev i_is_length : Nat := 3
abbrev i_is_road : Nat := 4
abbrev i_are_roads : Nat := 5
abbrev i_is_web_by : Nat := 6
abbrev i_is_heap : Nat := 7
abbrev i_are_heaps_by : Nat := 8
abbrev i_excess_by : Nat := 9
abbrev i_are_loads_by : Nat := 10
abbrev i_are_numbers : Nat := 11
abbrev i_are_heights_by : Nat := 12
abbrev i_comes_by : Nat := 13
abbrev i_does_lead_by : Nat := 14
abbrev i_load_cost_by : Nat := 15
abbrev i_gain_by : Nat := 16
abbrev i_check_web : Nat := 17
abbrev i_check_heaps : Nat := 18
abbrev i_check_both : Nat := 19
abbrev i_check_loads : Nat := 20
abbrev i_check_heights : Nat := 21
abbrev i_comes : Nat := 22
abbrev i_does_lead : Nat := 23
abbrev i_load_cost : Nat := 24
abbrev i_gain : Nat := 25
abbrev i__law_pool : Nat := 26
abbrev i__law_draw : Nat := 27
abbrev i__law_pick : Nat := 28
abbrev i__law_same : Nat := 29
abbrev i__law_tells : Nat := 30
abbrev i__law_web : Nat := 31
abbrev i__law_distances : Nat := 32
abbrev i__law_heaps : Nat := 33
abbrev i__law_comes : Nat := 34
abbrev i__law_cost : Nat := 35
abbrev i__law_gain : Nat := 36
abbrev i__law_loads : Nat := 37
abbrev i__law_heights : Nat := 38
abbrev i__law_is_told : Nat := 39
abbrev i__law_right : Nat := 40
abbrev i_law : Nat := 41
/-- is_whole -/
def b_is_whole : Ss := (.cons (.ret (.and (.bi .isi (.cons (.var 0) (.cons (.ty "int") .nil))) (.one (.not (.bi .isi (.cons (.var 0) (.cons (.ty "bool") .nil))))))) .nil)
def f_is_whole : Df := ⟨1, 1, true, b_is_whole⟩
/-- is_between -/
def b_is_between : Ss := (.cons (.ret (.and (.call i_is_whole (.cons (.var 0) .nil)) (.one (.chn .le .le (.var 1) (.var 0) (.var 2))))) .nil)
def f_is_between : Df := ⟨3, 3, true, b_is_between⟩
/-- is_tuple_of -/
def b_is_tuple_of : Ss := (.cons (.ret (.and (.bi .isi (.cons (.var 0) (.cons (.ty "tuple") .nil))) (.one (.cmp .eq (.bi .len (.cons (.var 0) .nil)) (.var 1))))) .nil)
def f_is_tuple_of : Df := ⟨2, 2, true, b_is_tuple_of⟩
/-- is_length -/
def b_is_length : Ss := (.cons (.ret (.call i_is_between (.cons (.var 0) (.cons (.int 1) (.cons (.gv (Str.ofString "MOST_LENGTH") 99) .nil))))) .nil)
def f_is_length : Df := ⟨1, 1, true, b_is_length⟩
/-- is_road -/
def b_is_road : Ss := (.cons (.iff (.or (.not (.call i_is_tuple_of (.cons (.var 1) (.cons (.int 3) .nil)))) (.or (.not (.call i_is_between (.cons (.idx (.var 1) (.gv (Str.ofString "FIRST") 0)) (.cons (.int 0) (.cons (.bin .sub (.var 0) (.int 1)) .nil))))) (.one (.not (.call i_is_length (.cons (.idx (.var 1) (.gv (Str.ofString "LENGTH") 2)) .nil)))))) (.cons (.ret (.bl false)) .nil) .nil) (.cons (.ret (.call i_is_between (.cons (.idx (.var 1) (.gv (Str.ofString "SECOND") 1)) (.cons (.bin .add (.idx (.var 1) (.gv (Str.ofString "FIRST") 0)) (.int 1)) (.cons (.bin .sub (.var 0) (.int 1)) .nil))))) .nil))
def f_is_road : Df := ⟨2, 2, true, b_is_road⟩
def c_are_roads_0 : E := .comp false [3] (.nm 3) (.seq (.var 1)) .nil (.call i_is_road (.cons (.var 0) (.cons (.var 3) .nil)))
def c_are_roads_1 : E := .comp false [2] (.nm 2) (.rng2 (.int 1) (.bi .len (.cons (.var 1) .nil))) .nil (.cmp .lt (.slc (.idx (.var 1) (.bin .sub (.var 2) (.int 1))) .no (.yes (.gv (Str.ofString "LENGTH") 2))) (.slc (.idx (.var 1) (.var 2)) .no (.yes (.gv (Str.ofString "LENGTH") 2))))
/-- are_roads -/
def b_are_roads : Ss := (.cons (.iff (.or (.not (.bi .isi (.cons (.var 1) (.cons (.ty "tuple") .nil)))) (.or (.cmp .gt (.bi .len (.cons (.var 1) .nil)) (.gv (Str.ofString "MOST_ROADS") 20)) (.one (.not (.bi .all (.cons c_are_roads_0 .nil)))))) (.cons (.ret (.bl false)) .nil) .nil) (.cons (.ret (.bi .all (.cons c_are_roads_1 .nil))) .nil))
def f_are_roads : Df := ⟨2, 4, true, b_are_roads⟩
/-- is_web_by -/
def b_is_web_by : Ss := (.cons (.iff (.or (.not (.call i_is_tuple_of (.cons (.var 0) (.cons (.int 2) .nil)))) (.one (.not (.call i_is_between (.cons (.idx (.var 0) (.gv (Str.ofString "PLACES") 0)) (.cons (.int 1) (.cons (.gv (Str.ofString "MOST_PLACES") 9) .nil))))))) (.cons (.ret (.bl false)) .nil) .nil) (.cons (.ret (.call i_are_roads (.cons (.idx (.var 0) (.gv (Str.ofString "PLACES") 0)) (.cons (.idx (.var 0) (.gv (Str.ofString "ROADS") 1)) .nil)))) .nil))
def f_is_web_by : Df := ⟨1, 1, true, b_is_web_by⟩
/-- is_heap -/
def b_is_heap : Ss := (.cons (.ret (.call i_is_between (.cons (.var 0) (.cons (.int 0) (.cons (.gv (Str.ofString "MOST_HEAP") 99) .nil))))) .nil)
def f_is_heap : Df := ⟨1, 1, true, b_is_heap⟩
def c_are_heaps_by_0 : E := .comp false [2] (.nm 2) (.seq (.var 1)) .nil (.call i_is_heap (.cons (.var 2) .nil))
/-- are_heaps_by -/
def b_are_heaps_by : Ss := (.cons (.ret (.and (.call i_is_tuple_of (.cons (.var 1) (.cons (.idx (.var 0) (.gv (Str.ofString "PLACES") 0)) .nil))) (.one (.bi .all (.cons c_are_heaps_by_0 .nil))))) .nil)
def f_are_heaps_by : Df := ⟨2, 3, true, b_are_heaps_by⟩
def c_excess_by_0 : E := .comp false [2, 3] (.tup (.cons (.nm 2) (.cons (.nm 3) .nil))) (.zip (.var 0) (.var 1)) .nil (.bin .sub (.var 2) (.var 3))
/-- excess_by -/
def b_excess_by : Ss := (.cons (.ret (.bi .tuple (.cons c_excess_by_0 .nil))) .nil)
def f_excess_by : Df := ⟨2, 4, true, b_excess_by⟩
def c_are_loads_by_0 : E := .comp false [2] (.nm 2) (.seq (.var 1)) .nil (.call i_is_whole (.cons (.var 2) .nil))
/-- are_loads_by -/
def b_are_loads_by : Ss := (.cons (.ret (.and (.call i_is_tuple_of (.cons (.var 1) (.cons (.bi .len (.cons (.idx (.var 0) (.gv (Str.ofString "ROADS") 1)) .nil)) .nil))) (.one (.bi .all (.cons c_are_loads_by_0 .nil))))) .nil)
def f_are_loads_by : Df := ⟨2, 3, true, b_are_loads_by⟩
def c_are_numbers_0 : E := .comp false [2] (.nm 2) (.seq (.var 1)) .nil (.call i_is_whole (.cons (.var 2) .nil))
/-- are_numbers -/
def b_are_numbers : Ss := (.cons (.ret (.and (.call i_is_tuple_of (.cons (.var 1) (.cons (.idx (.var 0) (.gv (Str.ofString "PLACES") 0)) .nil))) (.one (.bi .all (.cons c_are_numbers_0 .nil))))) .nil)
def f_are_numbers : Df := ⟨2, 3, true, b_are_numbers⟩
def c_are_heights_by_0 : E := .comp false [2, 3, 4] (.tup (.cons (.nm 2) (.cons (.nm 3) (.cons (.nm 4) .nil)))) (.seq (.idx (.var 0) (.gv (Str.ofString "ROADS") 1))) .nil (.cmp .le (.bi .abs (.cons (.bin .sub (.idx (.var 1) (.var 2)) (.idx (.var 1) (.var 3))) .nil)) (.var 4))
/-- are_heights_by -/
def b_are_heights_by : Ss := (.cons (.iff (.not (.call i_are_numbers (.cons (.var 0) (.cons (.var 1) .nil)))) (.cons (.ret (.bl false)) .nil) .nil) (.cons (.ret (.bi .all (.cons c_are_heights_by_0 .nil))) .nil))
def f_are_heights_by : Df := ⟨2, 5, true, b_are_heights_by⟩
def l_comes_by_0 : S := .for (.tup (.cons (.tup (.cons (.nm 5) (.cons (.nm 6) (.cons (.nm 7) .nil)))) (.cons (.nm 4) .nil))) (.zip (.idx (.var 0) (.gv (Str.ofString "ROADS") 1)) (.var 2)) (.cons (.asg (.tup (.cons (.sub (.var 3) (.var 5)) (.cons (.sub (.var 3) (.var 6)) .nil))) (.tup (.cons (.bin .sub (.idx (.var 3) (.var 5)) (.var 4)) (.cons (.bin .add (.idx (.var 3) (.var 6)) (.var 4)) .nil)))) .nil)
/-- comes_by -/
def b_comes_by : Ss := (.cons (.asg (.nm 3) (.lstOf (.var 1))) (.cons l_comes_by_0 (.cons (.ret (.bi .tuple (.cons (.var 3) .nil))) .nil)))
def f_comes_by : Df := ⟨3, 8, true, b_comes_by⟩
/-- does_lead_by -/
def b_does_lead_by : Ss := (.cons (.ret (.cmp .eq (.call i_comes_by (.cons (.var 0) (.cons (.var 1) (.cons (.var 3) .nil)))) (.var 2))) .nil)
def f_does_lead_by : Df := ⟨4, 4, true, b_does_lead_by⟩
def c_load_cost_by_0 : E := .comp false [2, 3] (.tup (.cons (.nm 2) (.cons (.nm 3) .nil))) (.zip (.idx (.var 0) (.gv (Str.ofString "ROADS") 1)) (.var 1)) .nil (.bin .mul (.idx (.var 2) (.gv (Str.ofString "LENGTH") 2)) (.bi .abs (.cons (.var 3) .nil)))
/-- load_cost_by -/
def b_load_cost_by : Ss := (.cons (.ret (.bi .sum (.cons c_load_cost_by_0 .nil))) .nil)
def f_load_cost_by : Df := ⟨2, 4, true, b_load_cost_by⟩
def c_gain_by_0 : E := .comp false [3, 4] (.tup (.cons (.nm 3) (.cons (.nm 4) .nil))) (.zip (.var 2) (.call i_excess_by (.cons (.var 0) (.cons (.var 1) .nil)))) .nil (.bin .mul (.var 3) (.var 4))
/-- gain_by -/
def b_gain_by : Ss := (.cons (.ret (.bi .sum (.cons c_gain_by_0 .nil))) .nil)
def f_gain_by : Df := ⟨3, 5, true, b_gain_by⟩
/-- check_web -/
def b_check_web : Ss := (.cons (.iff (.not (.call i_is_web_by (.cons (.var 0) .nil))) (.cons .never .nil) .nil) .nil)
def f_check_web : Df := ⟨1, 1, true, b_check_web⟩
/-- check_heaps -/
def b_check_heaps : Ss := (.cons (.iff (.not (.call i_are_heaps_by (.cons (.var 0) (.cons (.var 1) .nil)))) (.cons .never .nil) .nil) .nil)
def f_check_heaps : Df := ⟨2, 2, true, b_check_heaps⟩
/-- check_both -/
def b_check_both : Ss := (.cons (.ex (.call i_check_web (.cons (.var 0) .nil))) (.cons (.ex (.call i_check_heaps (.cons (.var 0) (.cons (.var 1) .nil)))) (.cons (.ex (.call i_check_heaps (.cons (.var 0) (.cons (.var 2) .nil)))) .nil)))
def f_check_both : Df := ⟨3, 3, true, b_check_both⟩
/-- check_loads -/
def b_check_loads : Ss := (.cons (.iff (.not (.call i_are_loads_by (.cons (.var 0) (.cons (.var 1) .nil)))) (.cons .never .nil) .nil) .nil)
def f_check_loads : Df := ⟨2, 2, true, b_check_loads⟩
/-- check_heights -/
def b_check_heights : Ss := (.cons (.iff (.not (.call i_are_heights_by (.cons (.var 0) (.cons (.var 1) .nil)))) (.cons .never .nil) .nil) .nil)
def f_check_heights : Df := ⟨2, 2, true, b_check_heights⟩
/-- comes -/
def b_comes : Ss := (.cons (.ex (.call i_check_web (.cons (.var 0) .nil))) (.cons (.ex (.call i_check_heaps (.cons (.var 0) (.cons (.var 1) .nil)))) (.cons (.ex (.call i_check_loads (.cons (.var 0) (.cons (.var 2) .nil)))) (.cons (.ret (.call i_comes_by (.cons (.var 0) (.cons (.var 1) (.cons (.var 2) .nil))))) .nil))))
def f_comes : Df := ⟨3, 3, true, b_comes⟩
/-- does_lead -/
def b_does_lead : Ss := (.cons (.ex (.call i_check_both (.cons (.var 0) (.cons (.var 1) (.cons (.var 2) .nil))))) (.cons (.ex (.call i_check_loads (.cons (.var 0) (.cons (.var 3) .nil)))) (.cons (.ret (.call i_does_lead_by (.cons (.var 0) (.cons (.var 1) (.cons (.var 2) (.cons (.var 3) .nil)))))) .nil)))
def f_does_lead : Df := ⟨4, 4, true, b_does_lead⟩
/-- load_cost -/
def b_load_cost : Ss := (.cons (.ex (.call i_check_web (.cons (.var 0) .nil))) (.cons (.ex (.call i_check_loads (.cons (.var 0) (.cons (.var 1) .nil)))) (.cons (.ret (.call i_load_cost_by (.cons (.var 0) (.cons (.var 1) .nil)))) .nil)))
def f_load_cost : Df := ⟨2, 2, true, b_load_cost⟩
/-- gain -/
def b_gain : Ss := (.cons (.ex (.call i_check_both (.cons (.var 0) (.cons (.var 1) (.cons (.var 2) .nil))))) (.cons (.ex (.call i_check_heights (.cons (.var 0) (.cons (.var 3) .nil)))) (.cons (.ret (.call i_gain_by (.cons (.var 1) (.cons (.var 2) (.cons (.var 3) .nil))))) .nil)))
def f_gain : Df := ⟨4, 4, true, b_gain⟩
def l__law_pool_0 : S := .for (.nm 2) (.seq (.slc (.var 0) .no (.yes (.int 63)))) (.cons (.asg (.nm 4) (.bin .mod (.bi .int (.cons (.bin .add (.bin .add (.bin .mul (.var 4) (.int 48271)) (.bin .mod (.bi .int (.cons (.var 2) .nil)) (.int 2147483353))) (.int 2891)) .nil)) (.int 2147483353))) .nil)
/-- _law_pool -/
def b__law_pool : Ss := (.cons (.par [3, 4] (.cons (.ite (.cmp .lt (.var 1) (.bi .len (.cons (.var 0) .nil))) (.bi .int (.cons (.idx (.var 0) (.var 1)) .nil)) (.bin .add (.bin .mul (.int 70001) (.var 1)) (.int 18613))) (.cons (.bin .add (.int 2371437) (.bin .mul (.int 5087) (.var 1))) .nil))) (.cons l__law_pool_0 (.cons (.ret (.lstM (.cons (.bin .mod (.bi .int (.cons (.bin .add (.var 4) (.bin .mul (.var 3) (.int 1013))) .nil)) (.int 2147483353)) (.cons (.ite (.or (.cmp .lt (.var 3) (.int 0)) (.one (.cmp .ge (.var 3) (.bin .pow (.int 10) (.int 18))))) (.bi .abs (.cons (.var 3) .nil)) (.int 0)) (.cons (.int 0) .nil))))) .nil)))
def f__law_pool : Df := ⟨2, 5, false, b__law_pool⟩
/-- _law_draw -/
def b__law_draw : Ss := (.cons (.iff (.cmp .gt (.idx (.var 0) (.int 1)) (.int 0)) (.cons (.asg (.tup (.cons (.sub (.var 0) (.int 1)) (.cons (.nm 3) .nil))) (.bi .divmod (.cons (.idx (.var 0) (.int 1)) (.cons (.var 1) .nil)))) (.cons (.ret (.var 3)) .nil)) .nil) (.cons (.asg (.sub (.var 0) (.int 2)) (.bin .add (.idx (.var 0) (.int 2)) (.int 1))) (.cons (.asg (.nm 2) (.bi .int (.cons (.idx (.var 0) (.int 0)) .nil))) (.cons (.asg (.sub (.var 0) (.int 0)) (.bin .mod (.bi .int (.cons (.bin .add (.bin .add (.bin .mul (.var 2) (.bin .add (.bin .mod (.var 2) (.int 20011)) (.int 30011))) (.bin .mul (.int 70001) (.idx (.var 0) (.int 2)))) (.int 9)) .nil)) (.int 2147483353))) (.cons (.ret (.bin .mod (.bi .int (.cons (.bin .fdiv (.idx (.var 0) (.int 0)) (.int 128)) .nil)) (.var 1))) .nil)))))
def f__law_draw : Df := ⟨2, 4, true, b__law_draw⟩
/-- _law_pick -/
def b__law_pick : Ss := (.cons (.ret (.idx (.var 1) (.call i__law_draw (.cons (.var 0) (.cons (.bi .len (.cons (.var 1) .nil)) .nil))))) .nil)
def f__law_pick : Df := ⟨2, 2, true, b__law_pick⟩
def c__law_same_0 : E := .comp false [2] (.nm 2) (.rng1 (.bi .len (.cons (.var 0) .nil))) (.cons (.not (.call i__law_same (.cons (.idx (.var 0) (.var 2)) (.cons (.idx (.var 1) (.var 2)) .nil)))) .nil) (.var 2)
/-- _law_same -/
def b__law_same : Ss := (.cons (.iff (.bi .isi (.cons (.var 0) (.cons (.ty "tuple") .nil))) (.cons (.ret (.and (.bi .isi (.cons (.var 1) (.cons (.ty "tuple") .nil))) (.and (.cmp .eq (.bi .len (.cons (.var 0) .nil)) (.bi .len (.cons (.var 1) .nil))) (.one (.cmp .eq c__law_same_0 (.lst .nil)))))) .nil) .nil) (.cons (.iff (.or (.bi .isi (.cons (.var 0) (.cons (.ty "bool") .nil))) (.one (.bi .isi (.cons (.var 1) (.cons (.ty "bool") .nil))))) (.cons (.ret (.and (.bi .isi (.cons (.var 0) (.cons (.ty "bool") .nil))) (.and (.bi .isi (.cons (.var 1) (.cons (.ty "bool") .nil))) (.one (.cmp .eq (.var 0) (.var 1)))))) .nil) .nil) (.cons (.ret (.and (.cmp .eq (.bi .isi (.cons (.var 0) (.cons (.ty "int") .nil))) (.bi .isi (.cons (.var 1) (.cons (.ty "int") .nil)))) (.and (.cmp .eq (.bi .isi (.cons (.var 0) (.cons (.ty "str") .nil))) (.bi .isi (.cons (.var 1) (.cons (.ty "str") .nil)))) (.one (.cmp .eq (.var 0) (.var 1)))))) .nil)))
def f__law_same : Df := ⟨2, 3, true, b__law_same⟩
/-- _law_tells -/
def b__law_tells : Ss := (.cons (.ret (.ite (.var 1) (.isB (.var 0) true false) (.isB (.var 0) false false))) .nil)
def f__law_tells : Df := ⟨2, 2, true, b__law_tells⟩
def l__law_web_0 : S := .for (.nm 7) (.rng2 (.bin .add (.var 2) (.int 1)) (.var 1)) (.cons (.iff (.or (.cmp .eq (.var 5) (.int 0)) (.or (.and (.cmp .eq (.var 5) (.int 1)) (.one (.cmp .eq (.var 7) (.bin .add (.var 2) (.int 1))))) (.or (.and (.cmp .eq (.var 5) (.int 2)) (.one (.cmp .eq (.call i__law_draw (.cons (.var 0) (.cons (.int 3) .nil))) (.int 0)))) (.one (.and (.cmp .eq (.var 5) (.int 3)) (.one (.or (.cmp .eq (.var 7) (.bin .add (.var 2) (.int 1))) (.one (.cmp .eq (.call i__law_draw (.cons (.var 0) (.cons (.int 4) .nil))) (.int 0)))))))))) (.cons (.ex (.app (.var 6) (.tup (.cons (.var 2) (.cons (.var 7) (.cons (.bin .add (.int 1) (.call i__law_draw (.cons (.var 0) (.cons (.var 4) .nil)))) .nil)))))) .nil) .nil) .nil)
def l__law_web_1 : S := .for (.nm 2) (.rng1 (.var 1)) (.cons l__law_web_0 .nil)
def l__law_web_2 : S := .for (.nm 3) (.rng1 (.bi .max2 (.cons (.int 0) (.cons (.bin .sub (.bi .len (.cons (.var 6) .nil)) (.int 20)) .nil)))) (.cons (.asg (.nm 8) (.call i__law_draw (.cons (.var 0) (.cons (.bi .len (.cons (.var 6) .nil)) .nil)))) (.cons (.asg (.nm 6) (.bin .add (.slc (.var 6) .no (.yes (.var 8))) (.slc (.var 6) (.yes (.bin .add (.var 8) (.int 1))) .no))) .nil))
/-- _law_web -/
def b__law_web : Ss := (.cons (.par [4, 5, 6] (.cons (.call i__law_pick (.cons (.var 0) (.cons (.lst (.cons (.int 1) (.cons (.int 3) (.cons (.int 9) (.cons (.int 99) .nil))))) .nil))) (.cons (.call i__law_draw (.cons (.var 0) (.cons (.int 4) .nil))) (.cons (.lstM .nil) .nil)))) (.cons l__law_web_1 (.cons l__law_web_2 (.cons (.ret (.tup (.cons (.var 1) (.cons (.bi .tuple (.cons (.var 6) .nil)) .nil)))) .nil))))
def f__law_web : Df := ⟨2, 9, true, b__law_web⟩
def c__law_distances_0 : E := .comp true [5] (.nm 5) (.rng1 (.var 1)) .nil (.ite (.cmp .eq (.var 4) (.var 5)) (.int 0) .non)
def c__law_distances_1 : E := .comp false [4] (.nm 4) (.rng1 (.var 1)) .nil c__law_distances_0
def l__law_distances_0 : S := .for (.tup (.cons (.nm 4) (.cons (.nm 5) (.cons (.nm 6) .nil)))) (.seq (.idx (.var 0) (.int 1))) (.cons (.asg (.tup (.cons (.sub (.idx (.var 2) (.var 4)) (.var 5)) (.cons (.sub (.idx (.var 2) (.var 5)) (.var 4)) .nil))) (.tup (.cons (.var 6) (.cons (.var 6) .nil)))) .nil)
def l__law_distances_1 : S := .for (.nm 5) (.rng1 (.var 1)) (.cons (.iff (.and (.isN (.idx (.idx (.var 2) (.var 4)) (.var 3)) true) (.and (.isN (.idx (.idx (.var 2) (.var 3)) (.var 5)) true) (.one (.or (.isN (.idx (.idx (.var 2) (.var 4)) (.var 5)) false) (.one (.cmp .lt (.bin .add (.idx (.idx (.var 2) (.var 4)) (.var 3)) (.idx (.idx (.var 2) (.var 3)) (.var 5))) (.idx (.idx (.var 2) (.var 4)) (.var 5)))))))) (.cons (.asg (.sub (.idx (.var 2) (.var 4)) (.var 5)) (.bin .add (.idx (.idx (.var 2) (.var 4)) (.var 3)) (.idx (.idx (.var 2) (.var 3)) (.var 5)))) .nil) .nil) .nil)
def l__law_distances_2 : S := .for (.nm 4) (.rng1 (.var 1)) (.cons l__law_distances_1 .nil)
def l__law_distances_3 : S := .for (.nm 3) (.rng1 (.var 1)) (.cons l__law_distances_2 .nil)
/-- _law_distances -/
def b__law_distances : Ss := (.cons (.asg (.nm 1) (.idx (.var 0) (.int 0))) (.cons (.asg (.nm 2) c__law_distances_1) (.cons l__law_distances_0 (.cons l__law_distances_3 (.cons (.ret (.var 2)) .nil)))))
def f__law_distances : Df := ⟨1, 7, true, b__law_distances⟩
def c__law_heaps_0 : E := .comp false [3] (.nm 3) (.rng1 (.var 1)) .nil (.ite (.cmp .gt (.call i__law_draw (.cons (.var 0) (.cons (.int 3) .nil))) (.int 0)) (.call i__law_draw (.cons (.var 0) (.cons (.bin .add (.var 2) (.int 1)) .nil))) (.int 0))
/-- _law_heaps -/
def b__law_heaps : Ss := (.cons (.asg (.nm 2) (.call i__law_pick (.cons (.var 0) (.cons (.lst (.cons (.int 1) (.cons (.int 2) (.cons (.int 5) (.cons (.int 99) .nil))))) .nil)))) (.cons (.ret (.bi .tuple (.cons c__law_heaps_0 .nil))) .nil))
def f__law_heaps : Df := ⟨2, 4, true, b__law_heaps⟩
def l__law_comes_0 : S := .for (.tup (.cons (.tup (.cons (.nm 5) (.cons (.nm 6) (.cons (.nm 7) .nil)))) (.cons (.nm 4) .nil))) (.zip (.idx (.var 0) (.int 1)) (.var 2)) (.cons (.asg (.tup (.cons (.sub (.var 3) (.var 5)) (.cons (.sub (.var 3) (.var 6)) .nil))) (.tup (.cons (.bin .sub (.idx (.var 3) (.var 5)) (.var 4)) (.cons (.bin .add (.idx (.var 3) (.var 6)) (.var 4)) .nil)))) .nil)
/-- _law_comes -/
def b__law_comes : Ss := (.cons (.asg (.nm 3) (.lstOf (.var 1))) (.cons l__law_comes_0 (.cons (.ret (.bi .tuple (.cons (.var 3) .nil))) .nil)))
def f__law_comes : Df := ⟨3, 8, true, b__law_comes⟩
def c__law_cost_0 : E := .comp false [2, 3] (.tup (.cons (.nm 2) (.cons (.nm 3) .nil))) (.zip (.idx (.var 0) (.int 1)) (.var 1)) .nil (.bin .mul (.idx (.var 2) (.int 2)) (.bi .abs (.cons (.var 3) .nil)))
/-- _law_cost -/
def b__law_cost : Ss := (.cons (.ret (.bi .sum (.cons c__law_cost_0 .nil))) .nil)
def f__law_cost : Df := ⟨2, 4, true, b__law_cost⟩
def c__law_gain_0 : E := .comp false [3, 4, 5] (.tup (.cons (.nm 3) (.cons (.nm 4) (.cons (.nm 5) .nil)))) (.zip3 (.var 0) (.var 1) (.var 2)) .nil (.bin .mul (.var 5) (.bin .sub (.var 3) (.var 4)))
/-- _law_gain -/
def b__law_gain : Ss := (.cons (.ret (.bi .sum (.cons c__law_gain_0 .nil))) .nil)
def f__law_gain : Df := ⟨3, 6, true, b__law_gain⟩
def c__law_loads_0 : E := .comp false [3] (.nm 3) (.seq (.idx (.var 1) (.int 1))) .nil (.ite (.cmp .gt (.call i__law_draw (.cons (.var 0) (.cons (.int 3) .nil))) (.int 0)) (.bin .sub (.call i__law_draw (.cons (.var 0) (.cons (.bin .add (.bin .mul (.int 2) (.var 2)) (.int 1)) .nil))) (.var 2)) (.int 0))
/-- _law_loads -/
def b__law_loads : Ss := (.cons (.asg (.nm 2) (.call i__law_pick (.cons (.var 0) (.cons (.lst (.cons (.int 1) (.cons (.int 3) (.cons (.int 200) .nil)))) .nil)))) (.cons (.ret (.bi .tuple (.cons c__law_loads_0 .nil))) .nil))
def f__law_loads : Df := ⟨2, 4, true, b__law_loads⟩
def c__law_heights_0 : E := .comp false [7] (.nm 7) (.rng1 (.idx (.var 1) (.int 0))) .nil (.bin .sub (.call i__law_draw (.cons (.var 0) (.cons (.int 400) .nil))) (.int 200))
def c__law_heights_1 : E := .comp false [6] (.nm 6) (.seq (.var 5)) .nil (.ite (.cmp .eq (.var 2) (.int 2)) (.var 6) (.ite (.cmp .eq (.var 2) (.int 1)) (.bin .fdiv (.var 6) (.int 60)) (.int 0)))
def c__law_heights_2 : E := .comp false [9] (.nm 9) (.rng1 (.idx (.var 1) (.int 0))) (.cons (.isN (.idx (.idx (.var 4) (.var 8)) (.var 9)) true) .nil) (.bin .add (.idx (.var 3) (.var 9)) (.idx (.idx (.var 4) (.var 8)) (.var 9)))
def c__law_heights_3 : E := .comp false [8] (.nm 8) (.rng1 (.idx (.var 1) (.int 0))) .nil (.bi .min1 (.cons c__law_heights_2 .nil))
/-- _law_heights -/
def b__law_heights : Ss := (.cons (.asg (.tup (.cons (.nm 4) (.cons (.nm 5) .nil))) (.tup (.cons (.call i__law_distances (.cons (.var 1) .nil)) (.cons c__law_heights_0 .nil)))) (.cons (.asg (.nm 2) (.call i__law_pick (.cons (.var 0) (.cons (.lst (.cons (.int 0) (.cons (.int 1) (.cons (.int 2) .nil)))) .nil)))) (.cons (.asg (.nm 3) c__law_heights_1) (.cons (.ret (.bi .tuple (.cons c__law_heights_3 .nil))) .nil))))
def f__law_heights : Df := ⟨2, 10, true, b__law_heights⟩
def c__law_is_told_0 : E := .comp false [14] (.nm 14) (.seq (.var 8)) (.cons (.not (.chn .lt .lt (.neg (.int 1)) (.var 14) (.int 100))) .nil) (.var 14)
def c__law_is_told_1 : E := .comp false [15, 16, 17, 18] (.tup (.cons (.tup (.cons (.nm 16) (.cons (.nm 17) (.cons (.nm 18) .nil)))) (.cons (.nm 15) .nil))) (.zip (.idx (.var 1) (.int 1)) (.var 3)) .nil (.bin .mul (.var 15) (.bin .sub (.idx (.var 4) (.var 16)) (.idx (.var 4) (.var 17))))
def c__law_is_told_2 : E := .comp false [14] (.nm 14) (.seq (.var 4)) .nil (.bin .add (.var 14) (.bin .pow (.int 10) (.int 20)))
def l__law_is_told_0 : S := .for (.nm 7) (.seq (.bin .add (.ite (.var 6) (.lst (.cons (.var 8) .nil)) (.lst .nil)) (.lst (.cons (.var 2) (.cons (.call i__law_heaps (.cons (.var 0) (.cons (.idx (.var 1) (.int 0)) .nil))) .nil))))) (.cons (.asg (.nm 11) (.ite (.var 10) (.callK i_does_lead .nil (.cons (.var 3) (.cons (.var 7) (.cons (.var 2) (.cons (.var 1) .nil)))) [3, 2, 1, 0]) (.call i_does_lead (.cons (.var 1) (.cons (.var 2) (.cons (.var 7) (.cons (.var 3) .nil))))))) (.cons (.asg (.nm 12) (.ite (.var 10) (.callK i_gain .nil (.cons (.var 4) (.cons (.var 7) (.cons (.var 2) (.cons (.var 1) .nil)))) [3, 2, 1, 0]) (.call i_gain (.cons (.var 1) (.cons (.var 2) (.cons (.var 7) (.cons (.var 4) .nil))))))) (.cons (.iff (.or (.not (.call i__law_tells (.cons (.var 11) (.cons (.cmp .eq (.var 7) (.var 8)) .nil)))) (.one (.not (.call i__law_same (.cons (.var 12) (.cons (.call i__law_gain (.cons (.var 2) (.cons (.var 7) (.cons (.var 4) .nil)))) .nil)))))) (.cons (.ret (.bl false)) .nil) .nil) (.cons (.asg (.nm 13) (.bi .sum (.cons c__law_is_told_1 .nil))) (.cons (.iff (.and (.var 11) (.one (.or (.cmp .gt (.var 12) (.var 9)) (.one (.cmp .ne (.var 12) (.var 13)))))) (.cons (.ret (.bl false)) .nil) .nil) (.cons (.iff (.and (.cmp .eq (.bi .sum (.cons (.var 2) .nil)) (.bi .sum (.cons (.var 7) .nil))) (.one (.cmp .ne (.call i_gain (.cons (.var 1) (.cons (.var 2) (.cons (.var 7) (.cons (.bi .tuple (.cons c__law_is_told_2 .nil)) .nil))))) (.var 12)))) (.cons (.ret (.bl false)) .nil) .nil) .nil))))))
/-- _law_is_told -/
def b__law_is_told : Ss := (.cons (.par [8, 9, 10] (.cons (.call i__law_comes (.cons (.var 1) (.cons (.var 2) (.cons (.var 3) .nil)))) (.cons (.call i__law_cost (.cons (.var 1) (.cons (.var 3) .nil))) (.cons (.cmp .eq (.call i__law_draw (.cons (.var 0) (.cons (.int 2) .nil))) (.int 0)) .nil)))) (.cons (.asg (.nm 5) (.lst (.cons (.ite (.var 10) (.callK i_comes .nil (.cons (.var 3) (.cons (.var 2) (.cons (.var 1) .nil))) [2, 1, 0]) (.call i_comes (.cons (.var 1) (.cons (.var 2) (.cons (.var 3) .nil))))) (.cons (.ite (.var 10) (.callK i_load_cost .nil (.cons (.var 3) (.cons (.var 1) .nil)) [1, 0]) (.call i_load_cost (.cons (.var 1) (.cons (.var 3) .nil)))) .nil)))) (.cons (.iff (.not (.call i__law_same (.cons (.var 5) (.cons (.lst (.cons (.var 8) (.cons (.var 9) .nil))) .nil)))) (.cons (.ret (.bl false)) .nil) .nil) (.cons (.asg (.nm 6) (.cmp .eq c__law_is_told_0 (.lst .nil))) (.cons l__law_is_told_0 (.cons (.ret (.bl true)) .nil))))))
def f__law_is_told : Df := ⟨5, 19, true, b__law_is_told⟩
def c__law_right_0 : E := .comp false [10] (.nm 10) (.seq (.idx (.var 3) (.int 1))) .nil (.bin .sub (.call i__law_draw (.cons (.var 0) (.cons (.int 3) .nil))) (.int 1))
def c__law_right_1 : E := .comp false [11] (.nm 11) (.seq (.var 8)) .nil (.bi .min2 (.cons (.int 90) (.cons (.bin .add (.int 9) (.var 11)) .nil)))
def l__law_right_0 : S := .for (.nm 4) (.rng1 (.int 4)) (.cons (.par [8, 9] (.cons (.call i__law_heaps (.cons (.var 0) (.cons (.var 1) .nil))) (.cons (.call i__law_loads (.cons (.var 0) (.cons (.var 3) .nil))) .nil))) (.cons (.iff (.cmp .gt (.var 4) (.int 1)) (.cons (.asg (.nm 9) (.bi .tuple (.cons c__law_right_0 .nil))) (.cons (.asg (.nm 8) (.bi .tuple (.cons c__law_right_1 .nil))) .nil)) .nil) (.cons (.iff (.not (.call i__law_is_told (.cons (.var 0) (.cons (.var 3) (.cons (.var 8) (.cons (.var 9) (.cons (.call i__law_heights (.cons (.var 0) (.cons (.var 3) .nil))) .nil))))))) (.cons (.ret (.bl false)) .nil) .nil) .nil)))
def l__law_right_1 : S := .for (.nm 1) (.seq (.lst (.cons (.int 1) (.cons (.int 2) (.cons (.int 3) (.cons (.int 4) (.cons (.int 6) (.cons (.int 9) .nil)))))))) (.cons (.asg (.nm 3) (.call i__law_web (.cons (.var 0) (.cons (.var 1) .nil)))) (.cons l__law_right_0 .nil))
/-- _law_right -/
def b__law_right : Ss := (.cons l__law_right_1 (.cons (.asg (.tup (.cons (.nm 5) (.cons (.nm 6) (.cons (.nm 7) .nil)))) (.tup (.cons (.tup (.cons (.int 3) (.cons (.tup (.cons (.tup (.cons (.int 0) (.cons (.int 1) (.cons (.int 2) .nil)))) (.cons (.tup (.cons (.int 1) (.cons (.int 2) (.cons (.int 3) .nil)))) .nil))) .nil))) (.cons (.tup (.cons (.int 2) (.cons (.int 0) (.cons (.int 1) .nil)))) (.cons (.tup (.cons (.int 0) (.cons (.int 2) (.cons (.int 1) .nil)))) .nil))))) (.cons (.asg (.nm 2) (.lst (.cons (.call i_comes (.cons (.var 5) (.cons (.var 6) (.cons (.tup (.cons (.int 2) (.cons (.int 0) .nil))) .nil)))) (.cons (.call i_does_lead (.cons (.var 5) (.cons (.var 6) (.cons (.var 7) (.cons (.tup (.cons (.int 2) (.cons (.int 0) .nil))) .nil))))) (.cons (.call i_load_cost (.cons (.var 5) (.cons (.tup (.cons (.int 2) (.cons (.neg (.int 1)) .nil))) .nil))) (.cons (.call i_gain (.cons (.var 5) (.cons (.var 6) (.cons (.var 7) (.cons (.tup (.cons (.int 2) (.cons (.int 0) (.cons (.int 0) .nil)))) .nil))))) (.cons (.call i_comes (.cons (.var 5) (.cons (.var 6) (.cons (.tup (.cons (.int 5) (.cons (.int 0) .nil))) .nil)))) .nil))))))) (.cons (.ret (.call i__law_same (.cons (.var 2) (.cons (.lst (.cons (.tup (.cons (.int 0) (.cons (.int 2) (.cons (.int 1) .nil)))) (.cons (.bl true) (.cons (.int 7) (.cons (.int 4) (.cons (.tup (.cons (.neg (.int 3)) (.cons (.int 5) (.cons (.int 1) .nil)))) .nil)))))) .nil)))) .nil))))
def f__law_right : Df := ⟨1, 12, true, b__law_right⟩
def l_law_0 : S := .for (.nm 1) (.rng1 (.bi .max2 (.cons (.int 2) (.cons (.bi .min2 (.cons (.bi .len (.cons (.var 0) .nil)) (.cons (.int 3) .nil))) .nil)))) (.cons (.iff (.not (.call i__law_right (.cons (.call i__law_pool (.cons (.var 0) (.cons (.var 1) .nil))) .nil))) (.cons (.ret (.bl false)) .nil) .nil) .nil)
/-- law -/
def b_law : Ss := (.cons l_law_0 (.cons (.ret (.bl true)) .nil))
def f_law : Df := ⟨1, 2, true, b_law⟩
def d_is_whole : Dd := ⟨(Str.ofString "is_whole"), [(Str.ofString "value")], [(Str.ofString "value")], top 7, f_is_whole⟩
def d_is_between : Dd := ⟨(Str.ofString "is_between"), [(Str.ofString "value"), (Str.ofString "low"), (Str.ofString "high")], [(Str.ofString "value"), (Str.ofString "low"), (Str.ofString "high")], top 8, f_is_between⟩
def d_is_tuple_of : Dd := ⟨(Str.ofString "is_tuple_of"), [(Str.ofString "value"), (Str.ofString "many")], [(Str.ofString "value"), (Str.ofString "many")], top 9, f_is_tuple_of⟩
def d_is_length : Dd := ⟨(Str.ofString "is_length"), [(Str.ofString "value")], [(Str.ofString "value")], top 19, f_is_length⟩
def d_is_road : Dd := ⟨(Str.ofString "is_road"), [(Str.ofString "many"), (Str.ofString "value")], [(Str.ofString "many"), (Str.ofString "value")], top 20, f_is_road⟩
def d_are_roads : Dd := ⟨(Str.ofString "are_roads"), [(Str.ofString "many"), (Str.ofString "value")], [(Str.ofString "many"), (Str.ofString "value"), (Str.ofString "index"), (Str.ofString "road")], top 21, f_are_roads⟩
def d_is_web_by : Dd := ⟨(Str.ofString "is_web_by"), [(Str.ofString "value")], [(Str.ofString "value")], top 22, f_is_web_by⟩
def d_is_heap : Dd := ⟨(Str.ofString "is_heap"), [(Str.ofString "value")], [(Str.ofString "value")], top 25, f_is_heap⟩
def d_are_heaps_by : Dd := ⟨(Str.ofString "are_heaps_by"), [(Str.ofString "web"), (Str.ofString "value")], [(Str.ofString "web"), (Str.ofString "value"), (Str.ofString "each")], top 26, f_are_heaps_by⟩
def d_excess_by : Dd := ⟨(Str.ofString "excess_by"), [(Str.ofString "have"), (Str.ofString "want")], [(Str.ofString "have"), (Str.ofString "want"), (Str.ofString "one"), (Str.ofString "two")], top 27, f_excess_by⟩
def d_are_loads_by : Dd := ⟨(Str.ofString "are_loads_by"), [(Str.ofString "web"), (Str.ofString "value")], [(Str.ofString "web"), (Str.ofString "value"), (Str.ofString "each")], top 29, f_are_loads_by⟩
def d_are_numbers : Dd := ⟨(Str.ofString "are_numbers"), [(Str.ofString "web"), (Str.ofString "value")], [(Str.ofString "web"), (Str.ofString "value"), (Str.ofString "each")], top 30, f_are_numbers⟩
def d_are_heights_by : Dd := ⟨(Str.ofString "are_heights_by"), [(Str.ofString "web"), (Str.ofString "value")], [(Str.ofString "web"), (Str.ofString "value"), (Str.ofString "one"), (Str.ofString "two"), (Str.ofString "length")], top 31, f_are_heights_by⟩
def d_comes_by : Dd := ⟨(Str.ofString "comes_by"), [(Str.ofString "web"), (Str.ofString "have"), (Str.ofString "loads")], [(Str.ofString "web"), (Str.ofString "have"), (Str.ofString "loads"), (Str.ofString "found"), (Str.ofString "load"), (Str.ofString "one"), (Str.ofString "two"), (Str.ofString "length")], top 32, f_comes_by⟩
def d_does_lead_by : Dd := ⟨(Str.ofString "does_lead_by"), [(Str.ofString "web"), (Str.ofString "have"), (Str.ofString "want"), (Str.ofString "loads")], [(Str.ofString "web"), (Str.ofString "have"), (Str.ofString "want"), (Str.ofString "loads")], top 33, f_does_lead_by⟩
def d_load_cost_by : Dd := ⟨(Str.ofString "load_cost_by"), [(Str.ofString "web"), (Str.ofString "loads")], [(Str.ofString "web"), (Str.ofString "loads"), (Str.ofString "road"), (Str.ofString "load")], top 34, f_load_cost_by⟩
def d_gain_by : Dd := ⟨(Str.ofString "gain_by"), [(Str.ofString "have"), (Str.ofString "want"), (Str.ofString "heights")], [(Str.ofString "have"), (Str.ofString "want"), (Str.ofString "heights"), (Str.ofString "height"), (Str.ofString "number")], top 35, f_gain_by⟩
def d_check_web : Dd := ⟨(Str.ofString "check_web"), [(Str.ofString "value")], [(Str.ofString "value")], top 37, f_check_web⟩
def d_check_heaps : Dd := ⟨(Str.ofString "check_heaps"), [(Str.ofString "web"), (Str.ofString "value")], [(Str.ofString "web"), (Str.ofString "value")], top 38, f_check_heaps⟩
def d_check_both : Dd := ⟨(Str.ofString "check_both"), [(Str.ofString "web"), (Str.ofString "have"), (Str.ofString "want")], [(Str.ofString "web"), (Str.ofString "have"), (Str.ofString "want")], top 39, f_check_both⟩
def d_check_loads : Dd := ⟨(Str.ofString "check_loads"), [(Str.ofString "web"), (Str.ofString "value")], [(Str.ofString "web"), (Str.ofString "value")], top 40, f_check_loads⟩
def d_check_heights : Dd := ⟨(Str.ofString "check_heights"), [(Str.ofString "web"), (Str.ofString "value")], [(Str.ofString "web"), (Str.ofString "value")], top 41, f_check_heights⟩
def d_comes : Dd := ⟨(Str.ofString "comes"), [(Str.ofString "web"), (Str.ofString "have"), (Str.ofString "loads")], [(Str.ofString "web"), (Str.ofString "have"), (Str.ofString "loads")], top 43, f_comes⟩
def d_does_lead : Dd := ⟨(Str.ofString "does_lead"), [(Str.ofString "web"), (Str.ofString "have"), (Str.ofString "want"), (Str.ofString "loads")], [(Str.ofString "web"), (Str.ofString "have"), (Str.ofString "want"), (Str.ofString "loads")], top 44, f_does_lead⟩
def d_load_cost : Dd := ⟨(Str.ofString "load_cost"), [(Str.ofString "web"), (Str.ofString "loads")], [(Str.ofString "web"), (Str.ofString "loads")], top 45, f_load_cost⟩
def d_gain : Dd := ⟨(Str.ofString "gain"), [(Str.ofString "web"), (Str.ofString "have"), (Str.ofString "want"), (Str.ofString "heights")], [(Str.ofString "web"), (Str.ofString "have"), (Str.ofString "want"), (Str.ofString "heights")], top 46, f_gain⟩
def d__law_pool : Dd := ⟨(Str.ofString "_law_pool"), [(Str.ofString "script"), (Str.ofString "lap")], [(Str.ofString "script"), (Str.ofString "lap"), (Str.ofString "cell"), (Str.ofString "own"), (Str.ofString "stirred")], top 48, f__law_pool⟩
def d__law_draw : Dd := ⟨(Str.ofString "_law_draw"), [(Str.ofString "pool"), (Str.ofString "many")], [(Str.ofString "pool"), (Str.ofString "many"), (Str.ofString "held"), (Str.ofString "figure")], top 49, f__law_draw⟩
def d__law_pick : Dd := ⟨(Str.ofString "_law_pick"), [(Str.ofString "pool"), (Str.ofString "some")], [(Str.ofString "pool"), (Str.ofString "some")], top 50, f__law_pick⟩
def d__law_same : Dd := ⟨(Str.ofString "_law_same"), [(Str.ofString "one"), (Str.ofString "other")], [(Str.ofString "one"), (Str.ofString "other"), (Str.ofString "k")], top 51, f__law_same⟩
def d__law_tells : Dd := ⟨(Str.ofString "_law_tells"), [(Str.ofString "told"), (Str.ofString "due")], [(Str.ofString "told"), (Str.ofString "due")], top 52, f__law_tells⟩
def d__law_web : Dd := ⟨(Str.ofString "_law_web"), [(Str.ofString "pool"), (Str.ofString "many")], [(Str.ofString "pool"), (Str.ofString "many"), (Str.ofString "one"), (Str.ofString "lap"), (Str.ofString "high"), (Str.ofString "sort"), (Str.ofString "roads"), (Str.ofString "two"), (Str.ofString "k")], top 53, f__law_web⟩
def d__law_distances : Dd := ⟨(Str.ofString "_law_distances"), [(Str.ofString "web")], [(Str.ofString "web"), (Str.ofString "many"), (Str.ofString "far"), (Str.ofString "mid"), (Str.ofString "one"), (Str.ofString "two"), (Str.ofString "high")], top 54, f__law_distances⟩
def d__law_heaps : Dd := ⟨(Str.ofString "_law_heaps"), [(Str.ofString "pool"), (Str.ofString "many")], [(Str.ofString "pool"), (Str.ofString "many"), (Str.ofString "high"), (Str.ofString "place")], top 55, f__law_heaps⟩
def d__law_comes : Dd := ⟨(Str.ofString "_law_comes"), [(Str.ofString "web"), (Str.ofString "have"), (Str.ofString "loads")], [(Str.ofString "web"), (Str.ofString "have"), (Str.ofString "loads"), (Str.ofString "found"), (Str.ofString "load"), (Str.ofString "one"), (Str.ofString "two"), (Str.ofString "high")], top 56, f__law_comes⟩
def d__law_cost : Dd := ⟨(Str.ofString "_law_cost"), [(Str.ofString "web"), (Str.ofString "loads")], [(Str.ofString "web"), (Str.ofString "loads"), (Str.ofString "road"), (Str.ofString "load")], top 57, f__law_cost⟩
def d__law_gain : Dd := ⟨(Str.ofString "_law_gain"), [(Str.ofString "have"), (Str.ofString "want"), (Str.ofString "heights")], [(Str.ofString "have"), (Str.ofString "want"), (Str.ofString "heights"), (Str.ofString "one"), (Str.ofString "two"), (Str.ofString "height")], top 58, f__law_gain⟩
def d__law_loads : Dd := ⟨(Str.ofString "_law_loads"), [(Str.ofString "pool"), (Str.ofString "web")], [(Str.ofString "pool"), (Str.ofString "web"), (Str.ofString "high"), (Str.ofString "road")], top 59, f__law_loads⟩
def d__law_heights : Dd := ⟨(Str.ofString "_law_heights"), [(Str.ofString "pool"), (Str.ofString "web")], [(Str.ofString "pool"), (Str.ofString "web"), (Str.ofString "wide"), (Str.ofString "base"), (Str.ofString "far"), (Str.ofString "found"), (Str.ofString "each"), (Str.ofString "place"), (Str.ofString "one"), (Str.ofString "two")], top 60, f__law_heights⟩
def d__law_is_told : Dd := ⟨(Str.ofString "_law_is_told"), [(Str.ofString "pool"), (Str.ofString "web"), (Str.ofString "have"), (Str.ofString "loads"), (Str.ofString "heights")], [(Str.ofString "pool"), (Str.ofString "web"), (Str.ofString "have"), (Str.ofString "loads"), (Str.ofString "heights"), (Str.ofString "told"), (Str.ofString "fine"), (Str.ofString "want"), (Str.ofString "due"), (Str.ofString "cost"), (Str.ofString "named"), (Str.ofString "lead"), (Str.ofString "won"), (Str.ofString "steps"), (Str.ofString "each"), (Str.ofString "load"), (Str.ofString "one"), (Str.ofString "two"), (Str.ofString "high")], top 61, f__law_is_told⟩
def d__law_right : Dd := ⟨(Str.ofString "_law_right"), [(Str.ofString "pool")], [(Str.ofString "pool"), (Str.ofString "many"), (Str.ofString "told"), (Str.ofString "web"), (Str.ofString "lap"), (Str.ofString "row"), (Str.ofString "there"), (Str.ofString "here"), (Str.ofString "have"), (Str.ofString "loads"), (Str.ofString "road"), (Str.ofString "each")], top 62, f__law_right⟩
def d_law : Dd := ⟨(Str.ofString "law"), [(Str.ofString "script")], [(Str.ofString "script"), (Str.ofString "lap")], top 63, f_law⟩
def tF : List (Str × List Str) := [((Str.ofString "is_whole"), [(Str.ofString "value")]), ((Str.ofString "is_between"), [(Str.ofString "value"), (Str.ofString "low"), (Str.ofString "high")]), ((Str.ofString "is_tuple_of"), [(Str.ofString "value"), (Str.ofString "many")]), ((Str.ofString "is_length"), [(Str.ofString "value")]), ((Str.ofString "is_road"), [(Str.ofString "many"), (Str.ofString "value")]), ((Str.ofString "are_roads"), [(Str.ofString "many"), (Str.ofString "value")]), ((Str.ofString "is_web_by"), [(Str.ofString "value")]), ((Str.ofString "is_heap"), [(Str.ofString "value")]), ((Str.ofString "are_heaps_by"), [(Str.ofString "web"), (Str.ofString "value")]), ((Str.ofString "excess_by"), [(Str.ofString "have"), (Str.ofString "want")]), ((Str.ofString "are_loads_by"), [(Str.ofString "web"), (Str.ofString "value")]), ((Str.ofString "are_numbers"), [(Str.ofString "web"), (Str.ofString "value")]), ((Str.ofString "are_heights_by"), [(Str.ofString "web"), (Str.ofString "value")]), ((Str.ofString "comes_by"), [(Str.ofString "web"), (Str.ofString "have"), (Str.ofString "loads")]), ((Str.ofString "does_lead_by"), [(Str.ofString "web"), (Str.ofString "have"), (Str.ofString "want"), (Str.ofString "loads")]), ((Str.ofString "load_cost_by"), [(Str.ofString "web"), (Str.ofString "loads")]), ((Str.ofString "gain_by"), [(Str.ofString "have"), (Str.ofString "want"), (Str.ofString "heights")]), ((Str.ofString "check_web"), [(Str.ofString "value")]), ((Str.ofString "check_heaps"), [(Str.ofString "web"), (Str.ofString "value")]), ((Str.ofString "check_both"), [(Str.ofString "web"), (Str.ofString "have"), (Str.ofString "want")])] ++ [((Str.ofString "check_loads"), [(Str.ofString "web"), (Str.ofString "value")]), ((Str.ofString "check_heights"), [(Str.ofString "web"), (Str.ofString "value")]), ((Str.ofString "comes"), [(Str.ofString "web"), (Str.ofString "have"), (Str.ofString "loads")]), ((Str.ofString "does_lead"), [(Str.ofString "web"), (Str.ofString "have"), (Str.ofString "want"), (Str.ofString "loads")]), ((Str.ofString "load_cost"), [(Str.ofString "web"), (Str.ofString "loads")]), ((Str.ofString "gain"), [(Str.ofString "web"), (Str.ofString "have"), (Str.ofString "want"), (Str.ofString "heights")]), ((Str.ofString "_law_pool"), [(Str.ofString "script"), (Str.ofString "lap")]), ((Str.ofString "_law_draw"), [(Str.ofString "pool"), (Str.ofString "many")]), ((Str.ofString "_law_pick"), [(Str.ofString "pool"), (Str.ofString "some")]), ((Str.ofString "_law_same"), [(Str.ofString "one"), (Str.ofString "other")]), ((Str.ofString "_law_tells"), [(Str.ofString "told"), (Str.ofString "due")]), ((Str.ofString "_law_web"), [(Str.ofString "pool"), (Str.ofString "many")]), ((Str.ofString "_law_distances"), [(Str.ofString "web")]), ((Str.ofString "_law_heaps"), [(Str.ofString "pool"), (Str.ofString "many")]), ((Str.ofString "_law_comes"), [(Str.ofString "web"), (Str.ofString "have"), (Str.ofString "loads")]), ((Str.ofString "_law_cost"), [(Str.ofString "web"), (Str.ofString "loads")]), ((Str.ofString "_law_gain"), [(Str.ofString "have"), (Str.ofString "want"), (Str.ofString "heights")]), ((Str.ofString "_law_loads"), [(Str.ofString "pool"), (Str.ofString "web")]), ((Str.ofString "_law_heights"), [(Str.ofString "pool"), (Str.ofString "web")]), ((Str.ofString "_law_is_told"), [(Str.ofString "pool"), (Str.ofString "web"), (Str.ofString "have"), (Str.ofString "loads"), (Str.ofString "heights")])] ++ [((Str.ofString "_law_right"), [(Str.ofString "pool")]), ((Str.ofString "law"), [(Str.ofString "script")])]
def tG : List (Str × Int) := [((Str.ofString "FIRST"), 0), ((Str.ofString "LENGTH"), 2), ((Str.ofString "MOST_HEAP"), 99), ((Str.ofString "MOST_LENGTH"), 99), ((Str.ofString "MOST_PLACES"), 9), ((Str.ofString "MOST_ROADS"), 20), ((Str.ofString "PLACES"), 0), ((Str.ofString "ROADS"), 1), ((Str.ofString "SECOND"), 1)]
def tB : List Str := [(Str.ofString "abs"), (Str.ofString "all"), (Str.ofString "bool"), (Str.ofString "divmod"), (Str.ofString "int"), (Str.ofString "isinstance"), (Str.ofString "len"), (Str.ofString "list"), (Str.ofString "max"), (Str.ofString "min"), (Str.ofString "range"), (Str.ofString "str"), (Str.ofString "sum"), (Str.ofString "tuple"), (Str.ofString "zip")]
def tK : List (Nat × Nat × List Str × List Nat) := [(22, 0, [(Str.ofString "loads"), (Str.ofString "have"), (Str.ofString "web")], [2, 1, 0]), (23, 0, [(Str.ofString "loads"), (Str.ofString "want"), (Str.ofString "have"), (Str.ofString "web")], [3, 2, 1, 0]), (24, 0, [(Str.ofString "loads"), (Str.ofString "web")], [1, 0]), (25, 0, [(Str.ofString "heights"), (Str.ofString "want"), (Str.ofString "have"), (Str.ofString "web")], [3, 2, 1, 0])]
def T : Tb := ⟨tF, tG, tB, tK⟩
def Ds : List Dd := [d_is_whole, d_is_between, d_is_tuple_of, d_is_length, d_is_road, d_are_roads, d_is_web_by, d_is_heap, d_are_heaps_by, d_excess_by, d_are_loads_by, d_are_numbers, d_are_heights_by, d_comes_by, d_does_lead_by, d_load_cost_by, d_gain_by, d_check_web, d_check_heaps, d_check_both] ++ [d_check_loads, d_check_heights, d_comes, d_does_lead, d_load_cost, d_gain, d__law_pool, d__law_draw, d__law_pick, d__law_same, d__law_tells, d__law_web, d__law_distances, d__law_heaps, d__law_comes, d__law_cost, d__law_gain, d__law_loads, d__law_heights, d__law_is_told] ++ [d__law_right, d_law]
def Ps : List Df := [f_is_whole, f_is_between, f_is_tuple_of, f_is_length, f_is_road, f_are_roads, f_is_web_by, f_is_heap, f_are_heaps_by, f_excess_by, f_are_loads_by, f_are_numbers, f_are_heights_by, f_comes_by, f_does_lead_by, f_load_cost_by, f_gain_by, f_check_web, f_check_heaps, f_check_both] ++ [f_check_loads, f_check_heights, f_comes, f_does_lead, f_load_cost, f_gain, f__law_pool, f__law_draw, f__law_pick, f__law_same, f__law_tells, f__law_web, f__law_distances, f__law_heaps, f__law_comes, f__law_cost, f__law_gain, f__law_loads, f__law_heights, f__law_is_told] ++ [f__law_right, f_law]
theorem cf_is_whole (n : Nat) (ds : List D) (A : AH) : callF Ps (n + 1) i_is_whole ds A = runDf (callF Ps n) f_is_whole ds A := rfl
theorem cf_is_between (n : Nat) (ds : List D) (A : AH) : callF Ps (n + 1) i_is_between ds A = runDf (callF Ps n) f_is_between ds A := rfl
theorem cf_is_tuple_of (n : Nat) (ds : List D) (A : AH) : callF Ps (n + 1) i_is_tuple_of ds A = runDf (callF Ps n) f_is_tuple_of ds A := rfl
theorem cf_is_length (n : Nat) (ds : List D) (A : AH) : callF Ps (n + 1) i_is_length ds A = runDf (callF Ps n) f_is_length ds A := rfl
theorem cf_is_road (n : Nat) (ds : List D) (A : AH) : callF Ps (n + 1) i_is_road ds A = runDf (callF Ps n) f_is_road ds A := rfl
theorem cf_are_roads (n : Nat) (ds : List D) (A : AH) : callF Ps (n + 1) i_are_roads ds A = runDf (callF Ps n) f_are_roads ds A := rfl
theorem cf_is_web_by (n : Nat) (ds : List D) (A : AH) : callF Ps (n + 1) i_is_web_by ds A = runDf (callF Ps n) f_is_web_by ds A := rfl
theorem cf_is_heap (n : Nat) (ds : List D) (A : AH) : callF Ps (n + 1) i_is_heap ds A = runDf (callF Ps n) f_is_heap ds A := rfl
theorem cf_are_heaps_by (n : Nat) (ds : List D) (A : AH) : callF Ps (n + 1) i_are_heaps_by ds A = runDf (callF Ps n) f_are_heaps_by ds A := rfl
theorem cf_excess_by (n : Nat) (ds : List D) (A : AH) : callF Ps (n + 1) i_excess_by ds A = runDf (callF Ps n) f_excess_by ds A := rfl
theorem cf_are_loads_by (n : Nat) (ds : List D) (A : AH) : callF Ps (n + 1) i_are_loads_by ds A = runDf (callF Ps n) f_are_loads_by ds A := rfl
theorem cf_are_numbers (n : Nat) (ds : List D) (A : AH) : callF Ps (n + 1) i_are_numbers ds A = runDf (callF Ps n) f_are_numbers ds A := rfl
theorem cf_are_heights_by (n : Nat) (ds : List D) (A : AH) : callF Ps (n + 1) i_are_heights_by ds A = runDf (callF Ps n) f_are_heights_by ds A := rfl
theorem cf_comes_by (n : Nat) (ds : List D) (A : AH) : callF Ps (n + 1) i_comes_by ds A = runDf (callF Ps n) f_comes_by ds A := rfl
theorem cf_does_lead_by (n : Nat) (ds : List D) (A : AH) : callF Ps (n + 1) i_does_lead_by ds A = runDf (callF Ps n) f_does_lead_by ds A := rfl
theorem cf_load_cost_by (n : Nat) (ds : List D) (A : AH) : callF Ps (n + 1) i_load_cost_by ds A = runDf (callF Ps n) f_load_cost_by ds A := rfl
theorem cf_gain_by (n : Nat) (ds : List D) (A : AH) : callF Ps (n + 1) i_gain_by ds A = runDf (callF Ps n) f_gain_by ds A := rfl
theorem cf_check_web (n : Nat) (ds : List D) (A : AH) : callF Ps (n + 1) i_check_web ds A = runDf (callF Ps n) f_check_web ds A := rfl
theorem cf_check_heaps (n : Nat) (ds : List D) (A : AH) : callF Ps (n + 1) i_check_heaps ds A = runDf (callF Ps n) f_check_heaps ds A := rfl
theorem cf_check_both (n : Nat) (ds : List D) (A : AH) : callF Ps (n + 1) i_check_both ds A = runDf (callF Ps n) f_check_both ds A := rfl
theorem cf_check_loads (n : Nat) (ds : List D) (A : AH) : callF Ps (n + 1) i_check_loads ds A = runDf (callF Ps n) f_check_loads ds A := rfl
theorem cf_check_heights (n : Nat) (ds : List D) (A : AH) : callF Ps (n + 1) i_check_heights ds A = runDf (callF Ps n) f_check_heights ds A := rfl
theorem cf_comes (n : Nat) (ds : List D) (A : AH) : callF Ps (n + 1) i_comes ds A = runDf (callF Ps n) f_comes ds A := rfl
theorem cf_does_lead (n : Nat) (ds : List D) (A : AH) : callF Ps (n + 1) i_does_lead ds A = runDf (callF Ps n) f_does_lead ds A := rfl
theorem cf_load_cost (n : Nat) (ds : List D) (A : AH) : callF Ps (n + 1) i_load_cost ds A = runDf (callF Ps n) f_load_cost ds A := rfl
theorem cf_gain (n : Nat) (ds : List D) (A : AH) : callF Ps (n + 1) i_gain ds A = runDf (callF Ps n) f_gain ds A := rfl
theorem cf__law_pool (n : Nat) (ds : List D) (A : AH) : callF Ps (n + 1) i__law_pool ds A = runDf (callF Ps n) f__law_pool ds A := rfl
theorem cf__law_draw (n : Nat) (ds : List D) (A : AH) : callF Ps (n + 1) i__law_draw ds A = runDf (callF Ps n) f__law_draw ds A := rfl
theorem cf__law_pick (n : Nat) (ds : List D) (A : AH) : callF Ps (n + 1) i__law_pick ds A = runDf (callF Ps n) f__law_pick ds A := rfl
theorem cf__law_same (n : Nat) (ds : List D) (A : AH) : callF Ps (n + 1) i__law_same ds A = runDf (callF Ps n) f__law_same ds A := rfl
theorem cf__law_tells (n : Nat) (ds : List D) (A : AH) : callF Ps (n + 1) i__law_tells ds A = runDf (callF Ps n) f__law_tells ds A := rfl
theorem cf__law_web (n : Nat) (ds : List D) (A : AH) : callF Ps (n + 1) i__law_web ds A = runDf (callF Ps n) f__law_web ds A := rfl
theorem cf__law_distances (n : Nat) (ds : List D) (A : AH) : callF Ps (n + 1) i__law_distances ds A = runDf (callF Ps n) f__law_distances ds A := rfl
theorem cf__law_heaps (n : Nat) (ds : List D) (A : AH) : callF Ps (n + 1) i__law_heaps ds A = runDf (callF Ps n) f__law_heaps ds A := rfl
theorem cf__law_comes (n : Nat) (ds : List D) (A : AH) : callF Ps (n + 1) i__law_comes ds A = runDf (callF Ps n) f__law_comes ds A := rfl
theorem cf__law_cost (n : Nat) (ds : List D) (A : AH) : callF Ps (n + 1) i__law_cost ds A = runDf (callF Ps n) f__law_cost ds A := rfl
theorem cf__law_gain (n : Nat) (ds : List D) (A : AH) : callF Ps (n + 1) i__law_gain ds A = runDf (callF Ps n) f__law_gain ds A := rfl
theorem cf__law_loads (n : Nat) (ds : List D) (A : AH) : callF Ps (n + 1) i__law_loads ds A = runDf (callF Ps n) f__law_loads ds A := rfl
theorem cf__law_heights (n : Nat) (ds : List D) (A : AH) : callF Ps (n + 1) i__law_heights ds A = runDf (callF Ps n) f__law_heights ds A := rfl
theorem cf__law_is_told (n : Nat) (ds : List D) (A : AH) : callF Ps (n + 1) i__law_is_told ds A = runDf (callF Ps n) f__law_is_told ds A := rfl
theorem cf__law_right (n : Nat) (ds : List D) (A : AH) : callF Ps (n + 1) i__law_right ds A = runDf (callF Ps n) f__law_right ds A := rfl
theorem cf_law (n : Nat) (ds : List D) (A : AH) : callF Ps (n + 1) i_law ds A = runDf (callF Ps n) f_law ds A := rfl
theorem rn_is_whole (n : Nat) (x0 : D) (A : AH) : callF Ps (n + 1) i_is_whole [x0] A = Ev.fnEnd true A (evSs (callF Ps n) b_is_whole [some x0] A) := (cf_is_whole n _ A).trans (Ev.run_eq rfl)
theorem rn_is_between (n : Nat) (x0 x1 x2 : D) (A : AH) : callF Ps (n + 1) i_is_between [x0, x1, x2] A = Ev.fnEnd true A (evSs (callF Ps n) b_is_between [some x0, some x1, some x2] A) := (cf_is_between n _ A).trans (Ev.run_eq rfl)
theorem rn_is_tuple_of (n : Nat) (x0 x1 : D) (A : AH) : callF Ps (n + 1) i_is_tuple_of [x0, x1] A = Ev.fnEnd true A (evSs (callF Ps n) b_is_tuple_of [some x0, some x1] A) := (cf_is_tuple_of n _ A).trans (Ev.run_eq rfl)
theorem rn_is_length (n : Nat) (x0 : D) (A : AH) : callF Ps (n + 1) i_is_length [x0] A = Ev.fnEnd true A (evSs (callF Ps n) b_is_length [some x0] A) := (cf_is_length n _ A).trans (Ev.run_eq rfl)
theorem rn_is_road (n : Nat) (x0 x1 : D) (A : AH) : callF Ps (n + 1) i_is_road [x0, x1] A = Ev.fnEnd true A (evSs (callF Ps n) b_is_road [some x0, some x1] A) := (cf_is_road n _ A).trans (Ev.run_eq rfl)
theorem rn_are_roads (n : Nat) (x0 x1 : D) (A : AH) : callF Ps (n + 1) i_are_roads [x0, x1] A = Ev.fnEnd true A (evSs (callF Ps n) b_are_roads [some x0, some x1, none, none] A) := (cf_are_roads n _ A).trans (Ev.run_eq rfl)
theorem rn_is_web_by (n : Nat) (x0 : D) (A : AH) : callF Ps (n + 1) i_is_web_by [x0] A = Ev.fnEnd true A (evSs (callF Ps n) b_is_web_by [some x0] A) := (cf_is_web_by n _ A).trans (Ev.run_eq rfl)
theorem rn_is_heap (n : Nat) (x0 : D) (A : AH) : callF Ps (n + 1) i_is_heap [x0] A = Ev.fnEnd true A (evSs (callF Ps n) b_is_heap [some x0] A) := (cf_is_heap n _ A).trans (Ev.run_eq rfl)
theorem rn_are_heaps_by (n : Nat) (x0 x1 : D) (A : AH) : callF Ps (n + 1) i_are_heaps_by [x0, x1] A = Ev.fnEnd true A (evSs (callF Ps n) b_are_heaps_by [some x0, some x1, none] A) := (cf_are_heaps_by n _ A).trans (Ev.run_eq rfl)
theorem rn_excess_by (n : Nat) (x0 x1 : D) (A : AH) : callF Ps (n + 1) i_excess_by [x0, x1] A = Ev.fnEnd true A (evSs (callF Ps n) b_excess_by [some x0, some x1, none, none] A) := (cf_excess_by n _ A).trans (Ev.run_eq rfl)
theorem rn_are_loads_by (n : Nat) (x0 x1 : D) (A : AH) : callF Ps (n + 1) i_are_loads_by [x0, x1] A = Ev.fnEnd true A (evSs (callF Ps n) b_are_loads_by [some x0, some x1, none] A) := (cf_are_loads_by n _ A).trans (Ev.run_eq rfl)
theorem rn_are_numbers (n : Nat) (x0 x1 : D) (A : AH) : callF Ps (n + 1) i_are_numbers [x0, x1] A = Ev.fnEnd true A (evSs (callF Ps n) b_are_numbers [some x0, some x1, none] A) := (cf_are_numbers n _ A).trans (Ev.run_eq rfl)
theorem rn_are_heights_by (n : Nat) (x0 x1 : D) (A : AH) : callF Ps (n + 1) i_are_heights_by [x0, x1] A = Ev.fnEnd true A (evSs (callF Ps n) b_are_heights_by [some x0, some x1, none, none, none] A) := (cf_are_heights_by n _ A).trans (Ev.run_eq rfl)
theorem rn_comes_by (n : Nat) (x0 x1 x2 : D) (A : AH) : callF Ps (n + 1) i_comes_by [x0, x1, x2] A = Ev.fnEnd true A (evSs (callF Ps n) b_comes_by [some x0, some x1, some x2, none, none, none, none, none] A) := (cf_comes_by n _ A).trans (Ev.run_eq rfl)
theorem rn_does_lead_by (n : Nat) (x0 x1 x2 x3 : D) (A : AH) : callF Ps (n + 1) i_does_lead_by [x0, x1, x2, x3] A = Ev.fnEnd true A (evSs (callF Ps n) b_does_lead_by [some x0, some x1, some x2, some x3] A) := (cf_does_lead_by n _ A).trans (Ev.run_eq rfl)
theorem rn_load_cost_by (n : Nat) (x0 x1 : D) (A : AH) : callF Ps (n + 1) i_load_cost_by [x0, x1] A = Ev.fnEnd true A (evSs (callF Ps n) b_load_cost_by [some x0, some x1, none, none] A) := (cf_load_cost_by n _ A).trans (Ev.run_eq rfl)
theorem rn_gain_by (n : Nat) (x0 x1 x2 : D) (A : AH) : callF Ps (n + 1) i_gain_by [x0, x1, x2] A = Ev.fnEnd true A (evSs (callF Ps n) b_gain_by [some x0, some x1, some x2, none, none] A) := (cf_gain_by n _ A).trans (Ev.run_eq rfl)
theorem rn_check_web (n : Nat) (x0 : D) (A : AH) : callF Ps (n + 1) i_check_web [x0] A = Ev.fnEnd true A (evSs (callF Ps n) b_check_web [some x0] A) := (cf_check_web n _ A).trans (Ev.run_eq rfl)
theorem rn_check_heaps (n : Nat) (x0 x1 : D) (A : AH) : callF Ps (n + 1) i_check_heaps [x0, x1] A = Ev.fnEnd true A (evSs (callF Ps n) b_check_heaps [some x0, some x1] A) := (cf_check_heaps n _ A).trans (Ev.run_eq rfl)
theorem rn_check_both (n : Nat) (x0 x1 x2 : D) (A : AH) : callF Ps (n + 1) i_check_both [x0, x1, x2] A = Ev.fnEnd true A (evSs (callF Ps n) b_check_both [some x0, some x1, some x2] A) := (cf_check_both n _ A).trans (Ev.run_eq rfl)
theorem rn_check_loads (n : Nat) (x0 x1 : D) (A : AH) : callF Ps (n + 1) i_check_loads [x0, x1] A = Ev.fnEnd true A (evSs (callF Ps n) b_check_loads [some x0, some x1] A) := (cf_check_loads n _ A).trans (Ev.run_eq rfl)
theorem rn_check_heights (n : Nat) (x0 x1 : D) (A : AH) : callF Ps (n + 1) i_check_heights [x0, x1] A = Ev.fnEnd true A (evSs (callF Ps n) b_check_heights [some x0, some x1] A) := (cf_check_heights n _ A).trans (Ev.run_eq rfl)
theorem rn_comes (n : Nat) (x0 x1 x2 : D) (A : AH) : callF Ps (n + 1) i_comes [x0, x1, x2] A = Ev.fnEnd true A (evSs (callF Ps n) b_comes [some x0, some x1, some x2] A) := (cf_comes n _ A).trans (Ev.run_eq rfl)
theorem rn_does_lead (n : Nat) (x0 x1 x2 x3 : D) (A : AH) : callF Ps (n + 1) i_does_lead [x0, x1, x2, x3] A = Ev.fnEnd true A (evSs (callF Ps n) b_does_lead [some x0, some x1, some x2, some x3] A) := (cf_does_lead n _ A).trans (Ev.run_eq rfl)
theorem rn_load_cost (n : Nat) (x0 x1 : D) (A : AH) : callF Ps (n + 1) i_load_cost [x0, x1] A = Ev.fnEnd true A (evSs (callF Ps n) b_load_cost [some x0, some x1] A) := (cf_load_cost n _ A).trans (Ev.run_eq rfl)
theorem rn_gain (n : Nat) (x0 x1 x2 x3 : D) (A : AH) : callF Ps (n + 1) i_gain [x0, x1, x2, x3] A = Ev.fnEnd true A (evSs (callF Ps n) b_gain [some x0, some x1, some x2, some x3] A) := (cf_gain n _ A).trans (Ev.run_eq rfl)
theorem rn__law_pool (n : Nat) (x0 x1 : D) (A : AH) : callF Ps (n + 1) i__law_pool [x0, x1] A = Ev.fnEnd false A (evSs (callF Ps n) b__law_pool [some x0, some x1, none, none, none] A) := (cf__law_pool n _ A).trans (Ev.run_eq rfl)
theorem rn__law_draw (n : Nat) (x0 x1 : D) (A : AH) : callF Ps (n + 1) i__law_draw [x0, x1] A = Ev.fnEnd true A (evSs (callF Ps n) b__law_draw [some x0, some x1, none, none] A) := (cf__law_draw n _ A).trans (Ev.run_eq rfl)
theorem rn__law_pick (n : Nat) (x0 x1 : D) (A : AH) : callF Ps (n + 1) i__law_pick [x0, x1] A = Ev.fnEnd true A (evSs (callF Ps n) b__law_pick [some x0, some x1] A) := (cf__law_pick n _ A).trans (Ev.run_eq rfl)
theorem rn__law_same (n : Nat) (x0 x1 : D) (A : AH) : callF Ps (n + 1) i__law_same [x0, x1] A = Ev.fnEnd true A (evSs (callF Ps n) b__law_same [some x0, some x1, none] A) := (cf__law_same n _ A).trans (Ev.run_eq rfl)
theorem rn__law_tells (n : Nat) (x0 x1 : D) (A : AH) : callF Ps (n + 1) i__law_tells [x0, x1] A = Ev.fnEnd true A (evSs (callF Ps n) b__law_tells [some x0, some x1] A) := (cf__law_tells n _ A).trans (Ev.run_eq rfl)
theorem rn__law_web (n : Nat) (x0 x1 : D) (A : AH) : callF Ps (n + 1) i__law_web [x0, x1] A = Ev.fnEnd true A (evSs (callF Ps n) b__law_web [some x0, some x1, none, none, none, none, none, none, none] A) := (cf__law_web n _ A).trans (Ev.run_eq rfl)
theorem rn__law_distances (n : Nat) (x0 : D) (A : AH) : callF Ps (n + 1) i__law_distances [x0] A = Ev.fnEnd true A (evSs (callF Ps n) b__law_distances [some x0, none, none, none, none, none, none] A) := (cf__law_distances n _ A).trans (Ev.run_eq rfl)
theorem rn__law_heaps (n : Nat) (x0 x1 : D) (A : AH) : callF Ps (n + 1) i__law_heaps [x0, x1] A = Ev.fnEnd true A (evSs (callF Ps n) b__law_heaps [some x0, some x1, none, none] A) := (cf__law_heaps n _ A).trans (Ev.run_eq rfl)
theorem rn__law_comes (n : Nat) (x0 x1 x2 : D) (A : AH) : callF Ps (n + 1) i__law_comes [x0, x1, x2] A = Ev.fnEnd true A (evSs (callF Ps n) b__law_comes [some x0, some x1, some x2, none, none, none, none, none] A) := (cf__law_comes n _ A).trans (Ev.run_eq rfl)
theorem rn__law_cost (n : Nat) (x0 x1 : D) (A : AH) : callF Ps (n + 1) i__law_cost [x0, x1] A = Ev.fnEnd true A (evSs (callF Ps n) b__law_cost [some x0, some x1, none, none] A) := (cf__law_cost n _ A).trans (Ev.run_eq rfl)
theorem rn__law_gain (n : Nat) (x0 x1 x2 : D) (A : AH) : callF Ps (n + 1) i__law_gain [x0, x1, x2] A = Ev.fnEnd true A (evSs (callF Ps n) b__law_gain [some x0, some x1, some x2, none, none, none] A) := (cf__law_gain n _ A).trans (Ev.run_eq rfl)
theorem rn__law_loads (n : Nat) (x0 x1 : D) (A : AH) : callF Ps (n + 1) i__law_loads [x0, x1] A = Ev.fnEnd true A (evSs (callF Ps n) b__law_loads [some x0, some x1, none, none] A) := (cf__law_loads n _ A).trans (Ev.run_eq rfl)
theorem rn__law_heights (n : Nat) (x0 x1 : D) (A : AH) : callF Ps (n + 1) i__law_heights [x0, x1] A = Ev.fnEnd true A (evSs (callF Ps n) b__law_heights [some x0, some x1, none, none, none, none, none, none, none, none] A) := (cf__law_heights n _ A).trans (Ev.run_eq rfl)
theorem rn__law_is_told (n : Nat) (x0 x1 x2 x3 x4 : D) (A : AH) : callF Ps (n + 1) i__law_is_told [x0, x1, x2, x3, x4] A = Ev.fnEnd true A (evSs (callF Ps n) b__law_is_told [some x0, some x1, some x2, some x3, some x4, none, none, none, none, none, none, none, none, none, none, none, none, none, none] A) := (cf__law_is_told n _ A).trans (Ev.run_eq rfl)
theorem rn__law_right (n : Nat) (x0 : D) (A : AH) : callF Ps (n + 1) i__law_right [x0] A = Ev.fnEnd true A (evSs (callF Ps n) b__law_right [some x0, none, none, none, none, none, none, none, none, none, none, none] A) := (cf__law_right n _ A).trans (Ev.run_eq rfl)
theorem rn_law (n : Nat) (x0 : D) (A : AH) : callF Ps (n + 1) i_law [x0] A = Ev.fnEnd true A (evSs (callF Ps n) b_law [some x0, none] A) := (cf_law n _ A).trans (Ev.run_eq rfl)
theorem hP : Ds.map Dd.df = Ps := rfl
end K11
namespace K11
open PySem Ev
theorem hT : T.fns = Ds.map fun d => (d.nm, d.ps) := by rfl
theorem hc : Ds.all (fun d => chkD T d) = true := by decide +kernel
end K11

set_option maxRecDepth 100000
namespace K11
open PySem (Str)
open Ev
theorem is_whole_int (n : Nat) (A : AH) (i : Int) : callF Ps (n + 1) i_is_whole [.int i] A = .ok (.bl true) A := by
  rw [rn_is_whole, b_is_whole]
  simp
theorem is_between_int (n : Nat) (A : AH) (i lo hi : Int) : callF Ps (n + 2) i_is_between [.int i, .int lo, .int hi] A = .ok (.bl (decide (lo ≤ i) && decide (i ≤ hi))) A := by
  rw [rn_is_between, b_is_between]
  simp [is_whole_int]
  by_cases h : lo ≤ i <;> simp [h]
theorem is_tuple_of_tup (n : Nat) (A : AH) (xs : List D) (k : Int) : callF Ps (n + 1) i_is_tuple_of [.tup xs, .int k] A = .ok (.bl ((xs.length : Int) == k)) A := by
  rw [rn_is_tuple_of, b_is_tuple_of]
  simp
theorem is_length_int (n : Nat) (A : AH) (i : Int) : callF Ps (n + 3) i_is_length [.int i] A = .ok (.bl (decide (1 ≤ i) && decide (i ≤ 99))) A := by
  rw [rn_is_length, b_is_length]
  simp [is_between_int]
theorem is_road_ok (n : Nat) (A : AH) (m : Nat) (r : Road) (h : r.1 < r.2.1 ∧ r.2.1 < m ∧ 1 ≤ r.2.2 ∧ r.2.2 ≤ 99) : callF Ps (n + 4) i_is_road [.int m, rD r] A = .ok (.bl true) A := by
  rw [rn_is_road, b_is_road]
  simp only [rD]
  have e1 : decide ((r.1 : Int) ≤ m - 1) = true := decide_eq_true (by omega)
  have e2 : decide ((1 : Int) ≤ r.2.2) = true := decide_eq_true (by omega)
  have e3 : decide ((r.2.2 : Int) ≤ 99) = true := decide_eq_true (by omega)
  have e4 : decide ((r.1 : Int) + 1 ≤ r.2.1) = true := decide_eq_true (by omega)
  have e5 : decide ((r.2.1 : Int) ≤ m - 1) = true := decide_eq_true (by omega)
  simp [is_between_int, is_tuple_of_tup, is_length_int, -decide_eq_true_eq, e1, e2, e3, e4, e5]
theorem c_are_roads_0_ok (n : Nat) (A : AH) (m : Nat) (rs : List Road) (e2 e3 : Option D) (h : WebOk m rs) : ev (callF Ps (n + 4)) c_are_roads_0 [some (.int m), some (.tup (rs.map rD)), e2, e3] A = .ok (.lst ((rs.map fun _ => true).map D.bl)) A := by
  rw [c_are_roads_0, List.map_map]
  exact cmp_map (f := rD) (by simp) (by have := h.len; omega) fun r hr => ⟨_, rfl, rfl, by simp [is_road_ok n A m r (h.road r hr)]⟩
theorem c_are_roads_1_ok (n : Nat) (A : AH) (m : Nat) (rs : List Road) (e2 e3 : Option D) (h : WebOk m rs) : ev (callF Ps (n + 4)) c_are_roads_1 [some (.int m), some (.tup (rs.map rD)), e2, e3] A = .ok (.lst (((List.range (rs.length - 1)).map fun _ => true).map D.bl)) A := by
  rw [c_are_roads_1, List.map_map]
  have hl := h.len
  have h1 : ((rs.length : Int) - 1).toNat = rs.length - 1 := by omega
  refine cmp_map (f := fun j : Nat => .int (1 + (j : Int))) ?_ (by rw [List.length_range]; omega) fun j hj => ⟨_, rfl, rfl, ?_⟩
  · have q := evi_r2 (cl := callF Ps (n + 4)) (env := [some (.int m), some (.tup (rs.map rD)), e2, e3]) (A := A) (a := .int 1) (b := .bi .len (.cons (.var 1) .nil)) (i := 1) (j := rs.length) (A1 := A) (A2 := A) (by simp) (by simp) (by omega) (by omega)
    rw [h1] at q
    exact q
  · have hj' : j < rs.length - 1 := List.mem_range.mp hj
    have a1 : j < rs.length := by omega
    have a2 : j + 1 < rs.length := by omega
    have e1 : (1 + (j : Int) - 1) = (j : Int) := by omega
    have e2 : (1 + (j : Int)) = ((j + 1 : Nat) : Int) := by omega
    have hs := List.pairwise_iff_getElem.mp h.sorted j (j + 1) a1 a2 (by omega)
    have hlt : lexLt [(rs[j].1 : Int), rs[j].2.1] [(rs[j+1].1 : Int), rs[j+1].2.1] = true := by
      simp only [lexLt]
      rcases hs with hs | ⟨hs1, hs2⟩
      · rw [if_neg (by omega)]; exact decide_eq_true (by omega)
      · rw [if_pos (by omega), if_neg (by omega)]; exact decide_eq_true (by omega)
    simp only [ev_cmp, ev_slc, ev_idx, ev_bin, ev_var, ev_int, ev_gv, evo_no, evo_yes, wipe_cons, wipe_nil, List.set_cons_succ, List.set_cons_zero, List.getElem?_cons_succ, List.getElem?_cons_zero, bnd_ok, binO_sub, ofO_some, e1, intO_int, Option.map_some]
    rw [e2]
    simp only [idxO_tup, atI_map a1, atI_map a2, ofO_some, bnd_ok, rD, slc_2, cmp_ltT, hlt, Option.map_some]
    rfl
theorem are_roads_ok (n : Nat) (A : AH) (m : Nat) (rs : List Road) (h : WebOk m rs) : callF Ps (n + 5) i_are_roads [.int m, .tup (rs.map rD)] A = .ok (.bl true) A := by
  rw [rn_are_roads, b_are_roads]
  have hl : decide ((20 : Int) < (rs.length : Int)) = false := decide_eq_false (by have := h.len; omega)
  have a0 := all_map_true (xs := rs) (f := fun _ => true) fun _ _ => rfl
  have a1 := all_map_true (xs := List.range (rs.length - 1)) (f := fun _ => true) fun _ _ => rfl
  simp [c_are_roads_0_ok n A m rs _ _ h, c_are_roads_1_ok n A m rs _ _ h, -decide_eq_true_eq, hl, a0, a1, -List.map_map, -List.map_const', -List.all_map]
theorem is_web_by_ok (n : Nat) (A : AH) (m : Nat) (rs : List Road) (h : WebOk m rs) : callF Ps (n + 6) i_is_web_by [wD m rs] A = .ok (.bl true) A := by
  rw [rn_is_web_by, b_is_web_by]
  simp only [wD]
  have e1 : decide ((1 : Int) ≤ m) = true := decide_eq_true (by have := h.lo; omega)
  have e2 : decide ((m : Int) ≤ 9) = true := decide_eq_true (by have := h.hi; omega)
  simp [is_tuple_of_tup, is_between_int, are_roads_ok n A m rs h, -decide_eq_true_eq, e1, e2]
theorem check_web_ok (n : Nat) (A : AH) (m : Nat) (rs : List Road) (h : WebOk m rs) : callF Ps (n + 7) i_check_web [wD m rs] A = .ok .non A := by
  rw [rn_check_web, b_check_web]
  simp [is_web_by_ok n A m rs h]
theorem is_heap_int (n : Nat) (A : AH) (i : Int) (h : 0 ≤ i ∧ i ≤ 99) : callF Ps (n + 3) i_is_heap [.int i] A = .ok (.bl true) A := by
  rw [rn_is_heap, b_is_heap]
  simp [is_between_int, -decide_eq_true_eq, h.1, h.2]
/-- heaps of a web with m places -/
structure HeapsOk (m : Nat) (hs : List Int) : Prop where
  len : hs.length = m
  all : ∀ h ∈ hs, 0 ≤ h ∧ h ≤ 99
theorem c_are_heaps_by_0_ok (n : Nat) (A : AH) (m : Nat) (hs : List Int) (e0 e2 : Option D) (hm : m ≤ 9) (h : HeapsOk m hs) : ev (callF Ps (n + 3)) c_are_heaps_by_0 [e0, some (iD hs), e2] A = .ok (.lst ((hs.map fun _ => true).map D.bl)) A := by
  rw [c_are_heaps_by_0, List.map_map]
  exact cmp_map (f := D.int) (by simp [iD]) (by have := h.len; omega) fun r hr => ⟨_, rfl, rfl, by simp [is_heap_int n A r (h.all r hr)]⟩
theorem are_heaps_by_ok (n : Nat) (A : AH) (m : Nat) (rs : List Road) (hs : List Int) (hw : WebOk m rs) (h : HeapsOk m hs) : callF Ps (n + 4) i_are_heaps_by [wD m rs, iD hs] A = .ok (.bl true) A := by
  rw [rn_are_heaps_by, b_are_heaps_by]
  simp only [wD]
  have a0 := all_map_true (xs := hs) (f := fun _ => true) fun _ _ => rfl
  have hc := fun e0 e2 => c_are_heaps_by_0_ok n A m hs e0 e2 hw.hi h
  simp only [iD] at hc ⊢
  simp [is_tuple_of_tup, hc, -decide_eq_true_eq, h.len, a0, -List.map_map, -List.map_const', -List.all_map]
theorem check_heaps_ok (n : Nat) (A : AH) (m : Nat) (rs : List Road) (hs : List Int) (hw : WebOk m rs) (h : HeapsOk m hs) : callF Ps (n + 5) i_check_heaps [wD m rs, iD hs] A = .ok .non A := by
  rw [rn_check_heaps, b_check_heaps]
  simp [are_heaps_by_ok n A m rs hs hw h]
theorem check_both_ok (n : Nat) (A : AH) (m : Nat) (rs : List Road) (hs ws : List Int) (hw : WebOk m rs) (h : HeapsOk m hs) (h2 : HeapsOk m ws) : callF Ps (n + 8) i_check_both [wD m rs, iD hs, iD ws] A = .ok .non A := by
  rw [rn_check_both, b_check_both]
  simp [check_web_ok n A m rs hw, check_heaps_ok (n + 2) A m rs hs hw h, check_heaps_ok (n + 2) A m rs ws hw h2]
end K11

set_option maxRecDepth 100000
namespace K11
open PySem (Str)
open Ev
theorem c_excess_by_0_ok (cl : Cl) (A : AH) (hs ws : List Int) (e2 e3 : Option D) (h : hs.length ≤ 1000) : ev cl c_excess_by_0 [some (iD hs), some (iD ws), e2, e3] A = .ok (.lst (((hs.zip ws).map fun p => p.1 - p.2).map D.int)) A := by
  rw [c_excess_by_0, List.map_map]
  refine cmp_map (f := fun p : Int × Int => .tup [.int p.1, .int p.2]) ?_ (by rw [List.length_zip]; omega) fun p hp => ⟨_, rfl, rfl, ?_⟩
  · simp [iD, zipO, zip2_map]
  · simp
theorem excess_by_ok (n : Nat) (A : AH) (hs ws : List Int) (h : hs.length ≤ 1000) : callF Ps (n + 1) i_excess_by [iD hs, iD ws] A = .ok (iD ((hs.zip ws).map fun p => p.1 - p.2)) A := by
  rw [rn_excess_by, b_excess_by]
  simp only [evSs_cons, evS_ret, ev_bi, evs_cons, evs_nil, c_excess_by_0_ok _ A hs ws none none h, bnd_ok, bi_tuple, shal_lst, seqO_lst, Option.map_some, ofO_some, nextS_rt, fnEnd_rt]
  exact fin_tints _
theorem c_are_loads_by_0_ok (n : Nat) (A : AH) (hs : List Int) (e0 e2 : Option D) (h : hs.length ≤ 1000) : ev (callF Ps (n + 1)) c_are_loads_by_0 [e0, some (iD hs), e2] A = .ok (.lst ((hs.map fun _ => true).map D.bl)) A := by
  rw [c_are_loads_by_0, List.map_map]
  exact cmp_map (f := D.int) (by simp [iD]) (by omega) fun r hr => ⟨_, rfl, rfl, by simp [is_whole_int n A r]⟩
theorem c_are_numbers_0_ok (n : Nat) (A : AH) (hs : List Int) (e0 e2 : Option D) (h : hs.length ≤ 1000) : ev (callF Ps (n + 1)) c_are_numbers_0 [e0, some (iD hs), e2] A = .ok (.lst ((hs.map fun _ => true).map D.bl)) A := by
  rw [c_are_numbers_0, List.map_map]
  exact cmp_map (f := D.int) (by simp [iD]) (by omega) fun r hr => ⟨_, rfl, rfl, by simp [is_whole_int n A r]⟩
theorem are_loads_by_ok (n : Nat) (A : AH) (m : Nat) (rs : List Road) (xs : List Int) (hw : WebOk m rs) (h : xs.length = rs.length) : callF Ps (n + 2) i_are_loads_by [wD m rs, iD xs] A = .ok (.bl true) A := by
  rw [rn_are_loads_by, b_are_loads_by]
  have a0 := all_map_true (xs := xs) (f := fun _ => true) fun _ _ => rfl
  have hc := fun e0 e2 => c_are_loads_by_0_ok n A xs e0 e2 (by have := hw.len; omega)
  simp only [wD, iD] at hc ⊢
  simp [is_tuple_of_tup, hc, h, a0, -List.map_map, -List.all_map]
theorem check_loads_ok (n : Nat) (A : AH) (m : Nat) (rs : List Road) (xs : List Int) (hw : WebOk m rs) (h : xs.length = rs.length) : callF Ps (n + 3) i_check_loads [wD m rs, iD xs] A = .ok .non A := by
  rw [rn_check_loads, b_check_loads]
  simp [are_loads_by_ok n A m rs xs hw h]
theorem are_numbers_ok (n : Nat) (A : AH) (m : Nat) (rs : List Road) (xs : List Int) (hw : WebOk m rs) (h : xs.length = m) : callF Ps (n + 2) i_are_numbers [wD m rs, iD xs] A = .ok (.bl true) A := by
  rw [rn_are_numbers, b_are_numbers]
  have a0 := all_map_true (xs := xs) (f := fun _ => true) fun _ _ => rfl
  have hc := fun e0 e2 => c_are_numbers_0_ok n A xs e0 e2 (by have := hw.hi; omega)
  simp only [wD, iD] at hc ⊢
  simp [is_tuple_of_tup, hc, h, a0, -List.map_map, -List.all_map]
theorem c_are_heights_by_0_ok (cl : Cl) (A : AH) (m : Nat) (rs : List Road) (ts : List Int) (e2 e3 e4 : Option D) (hw : WebOk m rs) (h : HeightsOk m rs ts) : ev cl c_are_heights_by_0 [some (wD m rs), some (iD ts), e2, e3, e4] A = .ok (.lst ((rs.map fun _ => true).map D.bl)) A := by
  rw [c_are_heights_by_0, List.map_map]
  refine cmp_map (f := rD) (by simp [wD]) (by have := hw.len; omega) fun r hr => ⟨_, rfl, rfl, ?_⟩
  obtain ⟨r1, r2, r3, r4⟩ := hw.road r hr
  have e1 : decide (absI (ts.getD r.1 0 - ts.getD r.2.1 0) ≤ (r.2.2 : Int)) = true := decide_eq_true (h.road r hr)
  unfold absI at e1
  have a1 := at_int (ns := ts) (j := r.1) (by rw [h.len]; omega)
  have a2 := at_int (ns := ts) (j := r.2.1) (by rw [h.len]; omega)
  simp [iD, a1, a2, -decide_eq_true_eq, e1, -List.getD_eq_getElem?_getD]
theorem are_heights_by_ok (n : Nat) (A : AH) (m : Nat) (rs : List Road) (ts : List Int) (hw : WebOk m rs) (h : HeightsOk m rs ts) : callF Ps (n + 3) i_are_heights_by [wD m rs, iD ts] A = .ok (.bl true) A := by
  rw [rn_are_heights_by, b_are_heights_by]
  have a0 := all_map_true (xs := rs) (f := fun _ => true) fun _ _ => rfl
  simp [are_numbers_ok n A m rs ts hw h.len, c_are_heights_by_0_ok _ A m rs ts _ _ _ hw h, a0, -List.map_map, -List.all_map]
theorem check_heights_ok (n : Nat) (A : AH) (m : Nat) (rs : List Road) (ts : List Int) (hw : WebOk m rs) (h : HeightsOk m rs ts) : callF Ps (n + 4) i_check_heights [wD m rs, iD ts] A = .ok .non A := by
  rw [rn_check_heights, b_check_heights]
  simp [are_heights_by_ok n A m rs ts hw h]
theorem l_comes_by_0_ok (cl : Cl) (A : AH) (m : Nat) (rs : List Road) (hs xs : List Int) (hw : WebOk m rs) (hh : hs.length = m) : ∃ e4 e5 e6 e7, evS cl l_comes_by_0 [some (wD m rs), some (iD hs), some (iD xs), some (.ref A.length), none, none, none, none] (A ++ [.lst (hs.map D.int)]) =
    .ok (.nx, [some (wD m rs), some (iD hs), some (iD xs), some (.ref A.length), e4, e5, e6, e7]) (A ++ [.lst ((comesF hs (rs.zip xs)).map D.int)]) := by
  have key : ∃ env' A', evS cl l_comes_by_0 [some (wD m rs), some (iD hs), some (iD xs), some (.ref A.length), none, none, none, none] (A ++ [.lst (hs.map D.int)]) = .ok (.nx, env') A' ∧
      ∃ e4 e5 e6 e7, env' = [some (wD m rs), some (iD hs), some (iD xs), some (.ref A.length), e4, e5, e6, e7] ∧ A' = A ++ [.lst ((comesF hs (rs.zip xs)).map D.int)] := by
    rw [l_comes_by_0]
    refine for_inv (f := fun p : Road × Int => .tup [rD p.1, .int p.2]) (Pv := fun done env B => ∃ e4 e5 e6 e7, env = [some (wD m rs), some (iD hs), some (iD xs), some (.ref A.length), e4, e5, e6, e7] ∧ B = A ++ [.lst ((comesF hs done).map D.int)]) (A1 := A ++ [.lst (hs.map D.int)])
      ?_ ⟨none, none, none, none, rfl, rfl⟩ ?_
    · simp [wD, iD, zipO, zip2_map]
    rintro done ⟨r, x⟩ env B hp ⟨e4, e5, e6, e7, rfl, rfl⟩
    obtain ⟨r1, r2, r3, r4⟩ := hw.road r (List.of_mem_zip hp).1
    have hl : (comesF hs done).length = m := by rw [comesF_len, hh]
    have a1 := at_int (ns := comesF hs done) (j := r.1) (by omega)
    have a2 := at_int (ns := comesF hs done) (j := r.2.1) (by omega)
    have s1 := fun v => set_int (A := A) (ns := comesF hs done) (j := r.1) (by omega) v
    have s2 := fun v u => set_int (A := A) (ns := (comesF hs done).set r.1 u) (j := r.2.1) (by rw [List.length_set]; omega) v
    refine ⟨[some (wD m rs), some (iD hs), some (iD xs), some (.ref A.length), some (.int x), some (.int r.1), some (.int r.2.1), some (.int r.2.2)], A ++ [.lst ((comesF hs done).map D.int)], .nx, [some (wD m rs), some (iD hs), some (iD xs), some (.ref A.length), some (.int x), some (.int r.1), some (.int r.2.1), some (.int r.2.2)], A ++ [.lst ((comesF hs (done ++ [(r, x)])).map D.int)], by simp [rD], ?_, .inl rfl, ⟨_, _, _, _, rfl, rfl⟩⟩
    rw [comesF_snoc]
    simp [a1, a2, s1, s2, stepF, -List.getD_eq_getElem?_getD, -List.map_set]
  obtain ⟨env', A', h1, e4, e5, e6, e7, h2, h3⟩ := key
  exact ⟨e4, e5, e6, e7, by rw [h1, h2, h3]⟩
theorem comes_by_ok (n : Nat) (A : AH) (m : Nat) (rs : List Road) (hs xs : List Int) (hw : WebOk m rs) (hh : hs.length = m) : callF Ps (n + 1) i_comes_by [wD m rs, iD hs, iD xs] A = .ok (iD (comesF hs (rs.zip xs))) A := by
  rw [rn_comes_by, b_comes_by]
  obtain ⟨e4, e5, e6, e7, h⟩ := l_comes_by_0_ok (callF Ps n) A m rs hs xs hw hh
  simp only [iD] at h ⊢
  simp [h]
theorem does_lead_by_ok (n : Nat) (A : AH) (m : Nat) (rs : List Road) (hs ws xs : List Int) (hw : WebOk m rs) (hh : hs.length = m) : callF Ps (n + 2) i_does_lead_by [wD m rs, iD hs, iD ws, iD xs] A = .ok (.bl (decide (comesF hs (rs.zip xs) = ws))) A := by
  rw [rn_does_lead_by, b_does_lead_by]
  simp only [evSs_cons, evS_ret, ev_cmp, ev_call, evs_cons, evs_nil, ev_var, List.getElem?_cons_succ, List.getElem?_cons_zero, bnd_ok, comes_by_ok n A m rs hs xs hw hh, eq_iD, Option.map_some, ofO_some, nextS_rt, fnEnd_rt, fin_bl]
theorem absI_eq (i : Int) : (if i < 0 then -i else i) = absI i := rfl
theorem c_load_cost_by_0_ok (cl : Cl) (A : AH) (m : Nat) (rs : List Road) (xs : List Int) (e2 e3 : Option D) (hw : WebOk m rs) : ev cl c_load_cost_by_0 [some (wD m rs), some (iD xs), e2, e3] A = .ok (.lst (((rs.zip xs).map fun p => (p.1.2.2 : Int) * absI p.2).map D.int)) A := by
  rw [c_load_cost_by_0, List.map_map]
  refine cmp_map (f := fun p : Road × Int => .tup [rD p.1, .int p.2]) ?_ (by rw [List.length_zip]; have := hw.len; omega) fun p hp => ⟨_, rfl, rfl, ?_⟩
  · simp [wD, iD, zipO, zip2_map]
  · obtain ⟨r, x⟩ := p
    obtain ⟨r1, r2, r3, r4⟩ := hw.road r (List.of_mem_zip hp).1
    have e := fun j => binO_mulL (A := A) (i := (r.2.2 : Int)) (j := j) (by omega)
    simp [rD, absI_eq, e]
theorem load_cost_by_ok (n : Nat) (A : AH) (m : Nat) (rs : List Road) (xs : List Int) (hw : WebOk m rs) : callF Ps (n + 1) i_load_cost_by [wD m rs, iD xs] A = .ok (.int (costF (rs.zip xs))) A := by
  rw [rn_load_cost_by, b_load_cost_by]
  simp only [evSs_cons, evS_ret, ev_bi, evs_cons, evs_nil, c_load_cost_by_0_ok _ A m rs xs none none hw, bnd_ok, bi_sum, ints1_lst, intsO_map, Option.map_some, ofO_some, nextS_rt, fnEnd_rt, fin_int]
  rfl
/-- ints whose differences are small -/
def Near (hs ws : List Int) : Prop := ∀ p ∈ hs.zip ws, -1000 ≤ p.1 - p.2 ∧ p.1 - p.2 ≤ 1000
theorem near_of {m : Nat} {hs ws : List Int} (h : HeapsOk m hs) (k : HeapsOk m ws) : Near hs ws := fun p hp => by
  obtain ⟨h1, h2⟩ := List.of_mem_zip hp
  have := h.all _ h1
  have := k.all _ h2
  omega
theorem c_gain_by_0_ok (n : Nat) (A : AH) (hs ws ts : List Int) (e3 e4 : Option D) (h : hs.length ≤ 1000) (hn : Near hs ws) : ev (callF Ps (n + 1)) c_gain_by_0 [some (iD hs), some (iD ws), some (iD ts), e3, e4] A = .ok (.lst (((ts.zip ((hs.zip ws).map fun p => p.1 - p.2)).map fun p => p.1 * p.2).map D.int)) A := by
  rw [c_gain_by_0, List.map_map]
  refine cmp_map (f := fun p : Int × Int => .tup [.int p.1, .int p.2]) ?_ (by rw [List.length_zip, List.length_map, List.length_zip]; omega) fun p hp => ⟨_, rfl, rfl, ?_⟩
  · have q := excess_by_ok n A hs ws h
    simp only [iD] at q ⊢
    simp [q, zipO, zip2_map, -List.map_map]
  · obtain ⟨t, d⟩ := p
    obtain ⟨q, hq, e0⟩ := List.mem_map.mp (List.of_mem_zip hp).2
    have hb := hn q hq
    have e := fun i => binO_mulR (A := A) (i := i) (j := d) (by have : d = q.1 - q.2 := e0.symm; omega)
    simp [e]
theorem gain_by_ok (n : Nat) (A : AH) (hs ws ts : List Int) (h : hs.length ≤ 1000) (hn : Near hs ws) : callF Ps (n + 2) i_gain_by [iD hs, iD ws, iD ts] A = .ok (.int (gainF hs ws ts)) A := by
  rw [rn_gain_by, b_gain_by]
  simp only [evSs_cons, evS_ret, ev_bi, evs_cons, evs_nil, c_gain_by_0_ok _ A hs ws ts none none h hn, bnd_ok, bi_sum, ints1_lst, intsO_map, Option.map_some, ofO_some, nextS_rt, fnEnd_rt, fin_int]
  rfl
/-! ### what is called -/
theorem comes_ok (n : Nat) (A : AH) (m : Nat) (rs : List Road) (hs xs : List Int) (hw : WebOk m rs) (hh : HeapsOk m hs) (hx : xs.length = rs.length) : callF Ps (n + 8) i_comes [wD m rs, iD hs, iD xs] A = .ok (iD (comesF hs (rs.zip xs))) A := by
  rw [rn_comes, b_comes]
  have q := comes_by_ok (n + 6) A m rs hs xs hw hh.len
  have f := fin_tints (A := A) (comesF hs (rs.zip xs))
  simp only [evSs_cons, evS_ex, evS_ret, ev_call, evs_cons, evs_nil, ev_var, List.getElem?_cons_succ, List.getElem?_cons_zero, bnd_ok, check_web_ok n A m rs hw, check_heaps_ok (n + 2) A m rs hs hw hh, check_loads_ok (n + 4) A m rs xs hw hx, q, nextS_nx, nextS_rt, fnEnd_rt]
  exact f
theorem does_lead_ok (n : Nat) (A : AH) (m : Nat) (rs : List Road) (hs ws xs : List Int) (hw : WebOk m rs) (hh : HeapsOk m hs) (h2 : HeapsOk m ws) (hx : xs.length = rs.length) : callF Ps (n + 9) i_does_lead [wD m rs, iD hs, iD ws, iD xs] A = .ok (.bl (decide (comesF hs (rs.zip xs) = ws))) A := by
  rw [rn_does_lead, b_does_lead]
  have q := does_lead_by_ok (n + 6) A m rs hs ws xs hw hh.len
  simp only [evSs_cons, evS_ex, evS_ret, ev_call, evs_cons, evs_nil, ev_var, List.getElem?_cons_succ, List.getElem?_cons_zero, bnd_ok, check_both_ok n A m rs hs ws hw hh h2, check_loads_ok (n + 5) A m rs xs hw hx, q, nextS_nx, nextS_rt, fnEnd_rt, fin_bl]
theorem load_cost_ok (n : Nat) (A : AH) (m : Nat) (rs : List Road) (xs : List Int) (hw : WebOk m rs) (hx : xs.length = rs.length) : callF Ps (n + 8) i_load_cost [wD m rs, iD xs] A = .ok (.int (costF (rs.zip xs))) A := by
  rw [rn_load_cost, b_load_cost]
  have q := load_cost_by_ok (n + 6) A m rs xs hw
  simp only [evSs_cons, evS_ex, evS_ret, ev_call, evs_cons, evs_nil, ev_var, List.getElem?_cons_succ, List.getElem?_cons_zero, bnd_ok, check_web_ok n A m rs hw, check_loads_ok (n + 4) A m rs xs hw hx, q, nextS_nx, nextS_rt, fnEnd_rt, fin_int]
theorem gain_ok (n : Nat) (A : AH) (m : Nat) (rs : List Road) (hs ws ts : List Int) (hw : WebOk m rs) (hh : HeapsOk m hs) (h2 : HeapsOk m ws) (ht : HeightsOk m rs ts) : callF Ps (n + 9) i_gain [wD m rs, iD hs, iD ws, iD ts] A = .ok (.int (gainF hs ws ts)) A := by
  rw [rn_gain, b_gain]
  have q := gain_by_ok (n + 6) A hs ws ts (by have := hh.len; have := hw.hi; omega) (near_of hh h2)
  simp only [evSs_cons, evS_ex, evS_ret, ev_call, evs_cons, evs_nil, ev_var, List.getElem?_cons_succ, List.getElem?_cons_zero, bnd_ok, check_both_ok n A m rs hs ws hw hh h2, check_heights_ok (n + 4) A m rs ts hw ht, q, nextS_nx, nextS_rt, fnEnd_rt, fin_int]
end K11

set_option maxRecDepth 100000
namespace K11
open PySem (Str)
open Ev
theorem draw_ok (n : Nat) (pre E : AH) (p : Int × Int × Int) (k : Int) (h : 0 < k ∧ k < 1073741824) : ∃ r q, 0 ≤ r ∧ r < k ∧ callF Ps (n + 1) i__law_draw [.ref pre.length, .int k] (St1 pre p E) = .ok (.int r) (St1 pre q E) := by
  rw [rn__law_draw, b__law_draw]
  by_cases hp : 0 < p.2.1
  · refine ⟨p.2.1 % k, (p.1, p.2.1 / k, p.2.2), Int.emod_nonneg _ (by omega), Int.emod_lt_of_pos _ h.1, ?_⟩
    simp [hp, h.1, h.2]
  · have e1 := mulR (A := St1 pre (p.1, p.2.1, p.2.2 + 1) E) p.1 (j := p.1 % 20011 + 30011) (by omega)
    have e2 := mulL (A := St1 pre (p.1, p.2.1, p.2.2 + 1) E) (i := 70001) (p.2.2 + 1) (by omega)
    refine ⟨(p.1 * (p.1 % 20011 + 30011) + 70001 * (p.2.2 + 1) + 9) % 2147483353 / 128 % k, ((p.1 * (p.1 % 20011 + 30011) + 70001 * (p.2.2 + 1) + 9) % 2147483353, p.2.1, p.2.2 + 1), Int.emod_nonneg _ (by omega), Int.emod_lt_of_pos _ h.1, ?_⟩
    simp [hp, h.1, e1, e2]
/-- a draw of a value of a list -/
theorem pick_ok (n : Nat) (pre E : AH) (p : Int × Int × Int) (xs : List Int) (h : 0 < xs.length ∧ xs.length < 1000) : ∃ x q, x ∈ xs ∧ callF Ps (n + 2) i__law_pick [.ref pre.length, .lst (xs.map D.int)] (St1 pre p E) = .ok (.int x) (St1 pre q E) := by
  obtain ⟨r, q, h1, h2, h3⟩ := draw_ok n pre E p xs.length (by omega)
  have e : r = ((r.toNat : Nat) : Int) := by omega
  have hl : r.toNat < xs.length := by omega
  rw [rn__law_pick, b__law_pick]
  refine ⟨xs[r.toNat], q, List.getElem_mem _, ?_⟩
  have a1 : atI (xs.map D.int) r = some (.int xs[r.toNat]) := by
    have := atI_map (f := D.int) hl
    rwa [← e] at this
  simp [h3, a1]
theorem l__law_pool_0_ok (cl : Cl) (A : AH) (ns : List Int) (d1 d3 : Option D) (s : Int) (h : ns.length ≤ 63) : ∃ e2 t, evS cl l__law_pool_0 [some (.kl (ns.map D.int)), d1, none, d3, some (.int s)] A = .ok (.nx, [some (.kl (ns.map D.int)), d1, e2, d3, some (.int t)]) A := by
  have key : ∃ env' A', evS cl l__law_pool_0 [some (.kl (ns.map D.int)), d1, none, d3, some (.int s)] A = .ok (.nx, env') A' ∧ ∃ e2 t, env' = [some (.kl (ns.map D.int)), d1, e2, d3, some (.int t)] ∧ A' = A := by
    rw [l__law_pool_0]
    refine for_inv (f := D.int) (xs := cut ns none (some 63)) (Pv := fun done env B => ∃ e2 t, env = [some (.kl (ns.map D.int)), d1, e2, d3, some (.int t)] ∧ B = A) (A1 := A) ?_ ⟨none, s, rfl, rfl⟩ ?_
    · simp [slc_kl, cut_map]
    rintro done x env B hp ⟨e2, t, rfl, rfl⟩
    exact ⟨_, _, .nx, _, _, rfl, by simp [mulR]; exact ⟨rfl, rfl⟩, .inl rfl, ⟨_, _, rfl, rfl⟩⟩
  obtain ⟨env', A', h1, e2, t, h2, h3⟩ := key
  exact ⟨e2, t, by rw [h1, h2, h3]⟩
theorem pool_end (cl : Cl) (pre : AH) (ns : List Int) (lap : D) (e2 : Option D) (own t : Int) : ∃ p, fnEnd false pre (bnd (evS cl (.ret (.lstM (.cons (.bin .mod (.bi .int (.cons (.bin .add (.var 4) (.bin .mul (.var 3) (.int 1013))) .nil)) (.int 2147483353)) (.cons (.ite (.or (.cmp .lt (.var 3) (.int 0)) (.one (.cmp .ge (.var 3) (.bin .pow (.int 10) (.int 18))))) (.bi .abs (.cons (.var 3) .nil)) (.int 0)) (.cons (.int 0) .nil)))))
    [some (.kl (ns.map D.int)), some lap, e2, some (.int own), some (.int t)] pre) (nextS cl .nil)) = .ok (.ref pre.length) (St1 pre p []) := by
  by_cases h1 : own < 0
  · refine ⟨((t + own * 1013) % 2147483353, -own, 0), ?_⟩
    simp [h1, mulR, St1, pl]
  · by_cases h2 : 1000000000000000000 ≤ own
    · refine ⟨((t + own * 1013) % 2147483353, own, 0), ?_⟩
      simp [h1, h2, mulR, pow_18, St1, pl]
    · refine ⟨((t + own * 1013) % 2147483353, 0, 0), ?_⟩
      simp [h1, h2, mulR, pow_18, St1, pl]
theorem pool_ok (n : Nat) (pre : AH) (ns : List Int) (lap : Nat) (h : ns.length ≤ 63) : ∃ p, callF Ps (n + 1) i__law_pool [.kl (ns.map D.int), .int lap] pre = .ok (.ref pre.length) (St1 pre p []) := by
  rw [rn__law_pool, b__law_pool]
  have go : ∀ own : Int, evSs (callF Ps n) (.cons (.par [3, 4] (.cons (.ite (.cmp .lt (.var 1) (.bi .len (.cons (.var 0) .nil))) (.bi .int (.cons (.idx (.var 0) (.var 1)) .nil)) (.bin .add (.bin .mul (.int 70001) (.var 1)) (.int 18613))) (.cons (.bin .add (.int 2371437) (.bin .mul (.int 5087) (.var 1))) .nil))) .nil) [some (.kl (ns.map D.int)), some (.int lap), none, none, none] pre
      = .ok (.nx, [some (.kl (ns.map D.int)), some (.int lap), none, some (.int own), some (.int (2371437 + 5087 * lap))]) pre →
      ∃ p, fnEnd false pre (evSs (callF Ps n) b__law_pool [some (.kl (ns.map D.int)), some (.int lap), none, none, none] pre) = .ok (.ref pre.length) (St1 pre p []) := by
    intro own ho
    obtain ⟨e2, t, hl⟩ := l__law_pool_0_ok (callF Ps n) pre ns (some (.int lap)) (some (.int own)) (2371437 + 5087 * lap) h
    obtain ⟨p, hp⟩ := pool_end (callF Ps n) pre ns (.int lap) e2 own t
    refine ⟨p, ?_⟩
    rw [← hp]
    rw [evSs_cons] at ho
    rw [b__law_pool, evSs_cons]
    cases e : evS (callF Ps n) (.par [3, 4] (.cons (.ite (.cmp .lt (.var 1) (.bi .len (.cons (.var 0) .nil))) (.bi .int (.cons (.idx (.var 0) (.var 1)) .nil)) (.bin .add (.bin .mul (.int 70001) (.var 1)) (.int 18613))) (.cons (.bin .add (.int 2371437) (.bin .mul (.int 5087) (.var 1))) .nil))) [some (.kl (ns.map D.int)), some (.int lap), none, none, none] pre with
    | ok f B =>
      rw [e, bnd_ok] at ho
      obtain ⟨fl, env⟩ := f
      cases fl with
      | nx =>
        rw [nextS_nx, evSs_nil] at ho
        cases ho
        rw [bnd_ok, nextS_nx, evSs_cons, hl, bnd_ok, nextS_nx, evSs_cons]
      | rt d => rw [nextS_rt] at ho; cases ho
      | bk => rw [nextS_bk] at ho; cases ho
      | ct => rw [nextS_ct] at ho; cases ho
    | exc _ _ _ => rw [e, bnd_exc] at ho; cases ho
    | bad => rw [e, bnd_bad] at ho; cases ho
  rw [b__law_pool] at go
  by_cases hlt : lap < ns.length
  · have a1 := at_int hlt
    exact go (ns.getD lap 0) (by simp [hlt, a1, mulL, -List.getD_eq_getElem?_getD])
  · exact go (70001 * lap + 18613) (by simp [hlt, mulL])
/-- the two answers are one -/
theorem same_int (n : Nat) (A : AH) (i : Int) : callF Ps (n + 1) i__law_same [.int i, .int i] A = .ok (.bl true) A := by
  rw [rn__law_same, b__law_same]
  simp
theorem same_lst (n : Nat) (A : AH) (xs : List D) (h : cmpO A .eq (.lst xs) (.lst xs) = some true) : callF Ps (n + 1) i__law_same [.lst xs, .lst xs] A = .ok (.bl true) A := by
  rw [rn__law_same, b__law_same]
  simp [h]
theorem tells_ok (n : Nat) (A : AH) (b : Bool) : callF Ps (n + 1) i__law_tells [.bl b, .bl b] A = .ok (.bl true) A := by
  rw [rn__law_tells, b__law_tells]
  cases b <;> simp
end K11

set_option maxRecDepth 100000
namespace K11
open PySem (Str)
open Ev
theorem l__law_comes_0_ok (cl : Cl) (A : AH) (m : Nat) (rs : List Road) (hs xs : List Int) (hw : WebOk m rs) (hh : hs.length = m) : ∃ e4 e5 e6 e7, evS cl l__law_comes_0 [some (wD m rs), some (iD hs), some (iD xs), some (.ref A.length), none, none, none, none] (A ++ [.lst (hs.map D.int)]) =
    .ok (.nx, [some (wD m rs), some (iD hs), some (iD xs), some (.ref A.length), e4, e5, e6, e7]) (A ++ [.lst ((comesF hs (rs.zip xs)).map D.int)]) := by
  have key : ∃ env' A', evS cl l__law_comes_0 [some (wD m rs), some (iD hs), some (iD xs), some (.ref A.length), none, none, none, none] (A ++ [.lst (hs.map D.int)]) = .ok (.nx, env') A' ∧
      ∃ e4 e5 e6 e7, env' = [some (wD m rs), some (iD hs), some (iD xs), some (.ref A.length), e4, e5, e6, e7] ∧ A' = A ++ [.lst ((comesF hs (rs.zip xs)).map D.int)] := by
    rw [l__law_comes_0]
    refine for_inv (f := fun p : Road × Int => .tup [rD p.1, .int p.2]) (Pv := fun done env B => ∃ e4 e5 e6 e7, env = [some (wD m rs), some (iD hs), some (iD xs), some (.ref A.length), e4, e5, e6, e7] ∧ B = A ++ [.lst ((comesF hs done).map D.int)]) (A1 := A ++ [.lst (hs.map D.int)])
      ?_ ⟨none, none, none, none, rfl, rfl⟩ ?_
    · simp [wD, iD, zipO, zip2_map]
    rintro done ⟨r, x⟩ env B hp ⟨e4, e5, e6, e7, rfl, rfl⟩
    obtain ⟨r1, r2, r3, r4⟩ := hw.road r (List.of_mem_zip hp).1
    have hl : (comesF hs done).length = m := by rw [comesF_len, hh]
    have a1 := at_int (ns := comesF hs done) (j := r.1) (by omega)
    have a2 := at_int (ns := comesF hs done) (j := r.2.1) (by omega)
    have s1 := fun v => set_int (A := A) (ns := comesF hs done) (j := r.1) (by omega) v
    have s2 := fun v u => set_int (A := A) (ns := (comesF hs done).set r.1 u) (j := r.2.1) (by rw [List.length_set]; omega) v
    refine ⟨[some (wD m rs), some (iD hs), some (iD xs), some (.ref A.length), some (.int x), some (.int r.1), some (.int r.2.1), some (.int r.2.2)], A ++ [.lst ((comesF hs done).map D.int)], .nx, [some (wD m rs), some (iD hs), some (iD xs), some (.ref A.length), some (.int x), some (.int r.1), some (.int r.2.1), some (.int r.2.2)], A ++ [.lst ((comesF hs (done ++ [(r, x)])).map D.int)], by simp [rD], ?_, .inl rfl, ⟨_, _, _, _, rfl, rfl⟩⟩
    rw [comesF_snoc]
    simp [a1, a2, s1, s2, stepF, -List.getD_eq_getElem?_getD, -List.map_set]
  obtain ⟨env', A', h1, e4, e5, e6, e7, h2, h3⟩ := key
  exact ⟨e4, e5, e6, e7, by rw [h1, h2, h3]⟩
theorem law_comes_ok (n : Nat) (A : AH) (m : Nat) (rs : List Road) (hs xs : List Int) (hw : WebOk m rs) (hh : hs.length = m) : callF Ps (n + 1) i__law_comes [wD m rs, iD hs, iD xs] A = .ok (iD (comesF hs (rs.zip xs))) A := by
  rw [rn__law_comes, b__law_comes]
  obtain ⟨e4, e5, e6, e7, h⟩ := l__law_comes_0_ok (callF Ps n) A m rs hs xs hw hh
  simp only [iD] at h ⊢
  simp [h]
theorem c__law_cost_0_ok (cl : Cl) (A : AH) (m : Nat) (rs : List Road) (xs : List Int) (e2 e3 : Option D) (hw : WebOk m rs) : ev cl c__law_cost_0 [some (wD m rs), some (iD xs), e2, e3] A = .ok (.lst (((rs.zip xs).map fun p => (p.1.2.2 : Int) * absI p.2).map D.int)) A := by
  rw [c__law_cost_0, List.map_map]
  refine cmp_map (f := fun p : Road × Int => .tup [rD p.1, .int p.2]) ?_ (by rw [List.length_zip]; have := hw.len; omega) fun p hp => ⟨_, rfl, rfl, ?_⟩
  · simp [wD, iD, zipO, zip2_map]
  · obtain ⟨r, x⟩ := p
    obtain ⟨r1, r2, r3, r4⟩ := hw.road r (List.of_mem_zip hp).1
    have e := fun j => binO_mulL (A := A) (i := (r.2.2 : Int)) (j := j) (by omega)
    simp [rD, absI_eq, e]
theorem law_cost_ok (n : Nat) (A : AH) (m : Nat) (rs : List Road) (xs : List Int) (hw : WebOk m rs) : callF Ps (n + 1) i__law_cost [wD m rs, iD xs] A = .ok (.int (costF (rs.zip xs))) A := by
  rw [rn__law_cost, b__law_cost]
  simp only [evSs_cons, evS_ret, ev_bi, evs_cons, evs_nil, c__law_cost_0_ok _ A m rs xs none none hw, bnd_ok, bi_sum, ints1_lst, intsO_map, Option.map_some, ofO_some, nextS_rt, fnEnd_rt, fin_int]
  rfl
theorem mem_zip3 {α β γ : Type} : ∀ {xs : List α} {ys : List β} {zs : List γ} {a : α} {b : β} {c : γ}, (a, b, c) ∈ xs.zip (ys.zip zs) → (a, b) ∈ xs.zip ys
  | [], _, _, _, _, _, h => by simp at h
  | _ :: _, [], _, _, _, _, h => by simp at h
  | _ :: _, _ :: _, [], _, _, _, h => by simp at h
  | x :: xs, y :: ys, z :: zs, a, b, c, h => by
    simp only [List.zip_cons_cons, List.mem_cons, Prod.mk.injEq] at h ⊢
    rcases h with ⟨h1, h2, h3⟩ | h
    · exact .inl ⟨h1, h2⟩
    · exact .inr (mem_zip3 h)
theorem gain_zip3 : ∀ hs ws ts : List Int, ((hs.zip (ws.zip ts)).map fun p => p.2.2 * (p.1 - p.2.1)).sum = gainF hs ws ts
  | [], ws, ts => by simp [gainF]
  | _ :: _, [], ts => by simp [gainF]
  | _ :: _, _ :: _, [] => by simp [gainF]
  | h :: hs, w :: ws, t :: ts => by
    have ih := gain_zip3 hs ws ts
    simp only [gainF, List.zip_cons_cons, List.map_cons, List.sum_cons] at ih ⊢
    rw [ih]
theorem c__law_gain_0_ok (cl : Cl) (A : AH) (hs ws ts : List Int) (e3 e4 e5 : Option D) (h : hs.length ≤ 1000) (hn : Near hs ws) : ev cl c__law_gain_0 [some (iD hs), some (iD ws), some (iD ts), e3, e4, e5] A = .ok (.lst (((hs.zip (ws.zip ts)).map fun p => p.2.2 * (p.1 - p.2.1)).map D.int)) A := by
  rw [c__law_gain_0, List.map_map]
  refine cmp_map (f := fun p : Int × Int × Int => .tup [.int p.1, .int p.2.1, .int p.2.2]) ?_ (by rw [List.length_zip]; omega) fun p hp => ⟨_, rfl, rfl, ?_⟩
  · simp [iD, zip3_map]
  · obtain ⟨a, b, c⟩ := p
    have hb := hn _ (mem_zip3 hp)
    have e := mulR (A := A) c (j := a - b) (by simp only at hb; omega)
    simp [e]
theorem law_gain_ok (n : Nat) (A : AH) (hs ws ts : List Int) (h : hs.length ≤ 1000) (hn : Near hs ws) : callF Ps (n + 1) i__law_gain [iD hs, iD ws, iD ts] A = .ok (.int (gainF hs ws ts)) A := by
  rw [rn__law_gain, b__law_gain]
  simp only [evSs_cons, evS_ret, ev_bi, evs_cons, evs_nil, c__law_gain_0_ok _ A hs ws ts none none none h hn, bnd_ok, bi_sum, ints1_lst, intsO_map, Option.map_some, ofO_some, nextS_rt, fnEnd_rt, fin_int, gain_zip3]
theorem rangeD (m : Nat) : (List.range m).map (fun k : Nat => D.int k) = (List.range m).map fun k : Nat => D.int k := rfl
theorem heaps_ok (n : Nat) (pre E : AH) (p : Int × Int × Int) (m : Nat) (hm : m ≤ 9) : ∃ hs q, HeapsOk m hs ∧ callF Ps (n + 3) i__law_heaps [.ref pre.length, .int m] (St1 pre p E) = .ok (iD hs) (St1 pre q E) := by
  obtain ⟨x, q, hx, hp⟩ := pick_ok n pre E p [1, 2, 5, 99] (by decide)
  have hx' : 1 ≤ x ∧ x ≤ 99 := by
    simp only [List.mem_cons, List.not_mem_nil, or_false] at hx; omega
  obtain ⟨hs, A', h1, ⟨q', h2⟩, h3, h4⟩ := cmp_st (cl := callF Ps (n + 2)) (env := [some (.ref pre.length), some (.int m), some (.int x), none]) (A := St1 pre q E) (own := [3]) (tg := .nm 3) (it := .rng1 (.var 1)) (cs := .nil)
    (e := .ite (.cmp .gt (.call i__law_draw (.cons (.var 0) (.cons (.int 3) .nil))) (.int 0)) (.call i__law_draw (.cons (.var 0) (.cons (.bin .add (.var 2) (.int 1)) .nil))) (.int 0))
    (f := fun k : Nat => D.int k) (g := D.int) (Inv := fun A => ∃ q, A = St1 pre q E) (Q := fun _ y => 0 ≤ y ∧ y ≤ 99) (xs := List.range m) (evi_r1 (by simp) (by omega)) (by rw [List.length_range]; omega) ⟨q, rfl⟩ (by
      rintro k hk A ⟨q1, rfl⟩
      obtain ⟨r, q2, r1, r2, r3⟩ := draw_ok (n + 1) pre E q1 3 (by omega)
      by_cases hr : 0 < r
      · obtain ⟨r', q3, s1, s2, s3⟩ := draw_ok (n + 1) pre E q2 (x + 1) (by omega)
        exact ⟨_, _, _, St1 pre q3 E, r', rfl, rfl, by simp [r3, hr, s3], ⟨q3, rfl⟩, by omega⟩
      · exact ⟨_, _, _, St1 pre q2 E, 0, rfl, rfl, by simp [r3, hr], ⟨q2, rfl⟩, by omega⟩)
  subst h2
  refine ⟨hs, q', ⟨by rw [h3, List.length_range], fun h hh => ?_⟩, ?_⟩
  · obtain ⟨i, hi⟩ := List.mem_iff_getElem?.mp hh
    have hl : i < hs.length := (List.getElem?_eq_some_iff.mp hi).1
    rw [h3, List.length_range] at hl
    exact h4 i i h (List.getElem?_range hl) hi
  · rw [rn__law_heaps, b__law_heaps]
    have hp' : callF Ps (n + 2) i__law_pick [.ref pre.length, .lst [.int 1, .int 2, .int 5, .int 99]] (St1 pre p E) = .ok (.int x) (St1 pre q E) := hp
    have h1' : ev (callF Ps (n + 2)) c__law_heaps_0 [some (.ref pre.length), some (.int m), some (.int x), none] (St1 pre q E) = .ok (.lst (hs.map D.int)) (St1 pre q' E) := h1
    simp [hp', h1', iD]
theorem loads_ok (n : Nat) (pre E : AH) (p : Int × Int × Int) (m : Nat) (rs : List Road) (hw : WebOk m rs) : ∃ xs q, (xs.length = rs.length ∧ ∀ x ∈ xs, -200 ≤ x ∧ x ≤ 200) ∧ callF Ps (n + 3) i__law_loads [.ref pre.length, wD m rs] (St1 pre p E) = .ok (iD xs) (St1 pre q E) := by
  obtain ⟨x, q, hx, hp⟩ := pick_ok n pre E p [1, 3, 200] (by decide)
  have hx' : 1 ≤ x ∧ x ≤ 200 := by
    simp only [List.mem_cons, List.not_mem_nil, or_false] at hx; omega
  obtain ⟨hs, A', h1, ⟨q', h2⟩, h3, h4⟩ := cmp_st (cl := callF Ps (n + 2)) (env := [some (.ref pre.length), some (wD m rs), some (.int x), none]) (A := St1 pre q E) (own := [3]) (tg := .nm 3) (it := .seq (.idx (.var 1) (.int 1))) (cs := .nil)
    (e := .ite (.cmp .gt (.call i__law_draw (.cons (.var 0) (.cons (.int 3) .nil))) (.int 0)) (.bin .sub (.call i__law_draw (.cons (.var 0) (.cons (.bin .add (.bin .mul (.int 2) (.var 2)) (.int 1)) .nil))) (.var 2)) (.int 0))
    (f := rD) (g := D.int) (Inv := fun A => ∃ q, A = St1 pre q E) (Q := fun _ y => -200 ≤ y ∧ y ≤ 200) (xs := rs) (A1 := St1 pre q E) (by simp [wD]) (by have := hw.len; omega) ⟨q, rfl⟩ (by
      rintro k hk A ⟨q1, rfl⟩
      obtain ⟨r, q2, r1, r2, r3⟩ := draw_ok (n + 1) pre E q1 3 (by omega)
      by_cases hr : 0 < r
      · obtain ⟨r', q3, s1, s2, s3⟩ := draw_ok (n + 1) pre E q2 (2 * x + 1) (by omega)
        exact ⟨_, _, _, St1 pre q3 E, r' - x, rfl, rfl, by simp [r3, hr, s3, mulL], ⟨q3, rfl⟩, by omega⟩
      · exact ⟨_, _, _, St1 pre q2 E, 0, rfl, rfl, by simp [r3, hr], ⟨q2, rfl⟩, by omega⟩)
  subst h2
  refine ⟨hs, q', ⟨h3, fun h hh => ?_⟩, ?_⟩
  · obtain ⟨i, hi⟩ := List.mem_iff_getElem?.mp hh
    have hl : i < hs.length := (List.getElem?_eq_some_iff.mp hi).1
    rw [h3] at hl
    exact h4 i rs[i] h (List.getElem?_eq_getElem hl) hi
  · rw [rn__law_loads, b__law_loads]
    have hp' : callF Ps (n + 2) i__law_pick [.ref pre.length, .lst [.int 1, .int 3, .int 200]] (St1 pre p E) = .ok (.int x) (St1 pre q E) := hp
    have h1' : ev (callF Ps (n + 2)) c__law_loads_0 [some (.ref pre.length), some (wD m rs), some (.int x), none] (St1 pre q E) = .ok (.lst (hs.map D.int)) (St1 pre q' E) := h1
    simp [hp', h1', iD]
end K11

set_option maxRecDepth 100000
namespace K11
open PySem (Str)
open Ev
/-- roads so far: all before (a, b) -/
structure RdsOk (m a b k : Nat) (rs : List Road) : Prop where
  len : rs.length ≤ k
  road : ∀ r ∈ rs, r.1 < r.2.1 ∧ r.2.1 < m ∧ 1 ≤ r.2.2 ∧ r.2.2 ≤ 99
  sorted : rs.Pairwise fun a b => a.1 < b.1 ∨ (a.1 = b.1 ∧ a.2.1 < b.2.1)
  bef : ∀ r ∈ rs, r.1 < a ∨ (r.1 = a ∧ r.2.1 < b)
theorem RdsOk.mono {m a b k a' b' k' : Nat} {rs : List Road} (h : RdsOk m a b k rs) (hk : k ≤ k') (hb : ∀ x y : Nat, x < a ∨ (x = a ∧ y < b) → x < a' ∨ (x = a' ∧ y < b')) : RdsOk m a' b' k' rs :=
  ⟨Nat.le_trans h.len hk, h.road, h.sorted, fun r hr => hb _ _ (h.bef r hr)⟩
theorem RdsOk.snoc {m a b k l : Nat} {rs : List Road} (h : RdsOk m a b k rs) (h1 : a < b) (h2 : b < m) (h3 : 1 ≤ l ∧ l ≤ 99) : RdsOk m a (b + 1) (k + 1) (rs ++ [(a, b, l)]) := by
  refine ⟨by simp [h.len], fun r hr => ?_, ?_, fun r hr => ?_⟩
  · rcases List.mem_append.mp hr with hr | hr
    · exact h.road r hr
    · simp at hr; subst hr; exact ⟨h1, h2, h3.1, h3.2⟩
  · refine List.pairwise_append.mpr ⟨h.sorted, by simp, fun x hx y hy => ?_⟩
    simp at hy; subst hy
    exact h.bef x hx
  · rcases List.mem_append.mp hr with hr | hr
    · have := h.bef r hr; omega
    · simp at hr; subst hr; exact .inr ⟨rfl, Nat.lt_succ_self _⟩
abbrev wCond : E := .or (.cmp .eq (.var 5) (.int 0)) (.or (.and (.cmp .eq (.var 5) (.int 1)) (.one (.cmp .eq (.var 7) (.bin .add (.var 2) (.int 1))))) (.or (.and (.cmp .eq (.var 5) (.int 2)) (.one (.cmp .eq (.call i__law_draw (.cons (.var 0) (.cons (.int 3) .nil))) (.int 0)))) (.one (.and (.cmp .eq (.var 5) (.int 3)) (.one (.or (.cmp .eq (.var 7) (.bin .add (.var 2) (.int 1))) (.one (.cmp .eq (.call i__law_draw (.cons (.var 0) (.cons (.int 4) .nil))) (.int 0)))))))))
theorem wCond_ok (n : Nat) (pre E : AH) (q : Int × Int × Int) (e1 e3 e4 e6 e8 : Option D) (one two s : Int) (hs : 0 ≤ s ∧ s < 4) : ∃ b q', ev (callF Ps (n + 1)) wCond [some (.ref pre.length), e1, some (.int one), e3, e4, some (.int s), e6, some (.int two), e8] (St1 pre q E) = .ok (.bl b) (St1 pre q' E) := by
  rcases (show s = 0 ∨ s = 1 ∨ s = 2 ∨ s = 3 by omega) with rfl | rfl | rfl | rfl
  · exact ⟨true, q, by simp⟩
  · refine ⟨two == one + 1, q, ?_⟩
    by_cases h : two = one + 1 <;> simp [h]
  · obtain ⟨r, q2, r1, r2, r3⟩ := draw_ok n pre E q 3 (by omega)
    refine ⟨r == 0, q2, ?_⟩
    by_cases h : r = 0 <;> simp [h, r3]
  · by_cases h : two = one + 1
    · exact ⟨true, q, by simp [h]⟩
    · obtain ⟨r, q2, r1, r2, r3⟩ := draw_ok n pre E q 4 (by omega)
      refine ⟨r == 0, q2, ?_⟩
      by_cases h2 : r = 0 <;> simp [h, h2, r3]
abbrev wK (pre E : AH) : Nat := pre.length + (1 + E.length)
theorem l__law_web_0_ok (n : Nat) (pre E : AH) (q : Int × Int × Int) (m one k : Nat) (rs : List Road) (high s : Int) (e7 e8 : Option D) (hm : m ≤ 9) (h1 : one < m) (hh : 1 ≤ high ∧ high ≤ 99) (hs : 0 ≤ s ∧ s < 4) (hk : k ≤ 500) (h : RdsOk m one (one + 1) k rs) :
    ∃ e7' q' rs', evS (callF Ps (n + 1)) l__law_web_0 [some (.ref pre.length), some (.int m), some (.int one), none, some (.int high), some (.int s), some (.ref (wK pre E)), e7, e8] (St1 pre q (E ++ [.lst (rs.map rD)])) =
      .ok (.nx, [some (.ref pre.length), some (.int m), some (.int one), none, some (.int high), some (.int s), some (.ref (wK pre E)), e7', e8]) (St1 pre q' (E ++ [.lst (rs'.map rD)])) ∧ RdsOk m one m (k + (m - (one + 1))) rs' := by
  have key : ∃ env' A', evS (callF Ps (n + 1)) l__law_web_0 [some (.ref pre.length), some (.int m), some (.int one), none, some (.int high), some (.int s), some (.ref (wK pre E)), e7, e8] (St1 pre q (E ++ [.lst (rs.map rD)])) = .ok (.nx, env') A' ∧
      ∃ e7' q' rs', env' = [some (.ref pre.length), some (.int m), some (.int one), none, some (.int high), some (.int s), some (.ref (wK pre E)), e7', e8] ∧ A' = St1 pre q' (E ++ [.lst (rs'.map rD)]) ∧ RdsOk m one (one + 1 + (m - (one + 1))) (k + (m - (one + 1))) rs' := by
    rw [l__law_web_0]
    refine for_rng (n := m - (one + 1)) (f := fun j : Nat => .int (((one : Int) + 1) + j)) (Pv := fun j env B => ∃ e7' q' rs', env = [some (.ref pre.length), some (.int m), some (.int one), none, some (.int high), some (.int s), some (.ref (wK pre E)), e7', e8] ∧ B = St1 pre q' (E ++ [.lst (rs'.map rD)]) ∧ RdsOk m one (one + 1 + j) (k + j) rs')
      (A1 := St1 pre q (E ++ [.lst (rs.map rD)])) ?_ ⟨e7, q, rs, rfl, rfl, h⟩ ?_
    · have e : ((m : Int) - ((one : Int) + 1)).toNat = m - (one + 1) := by omega
      rw [← e]
      exact evi_r2 (A1 := St1 pre q (E ++ [.lst (rs.map rD)])) (by simp) (by simp) (by omega) (by omega)
    rintro j env B hj ⟨e7', q', rs', rfl, rfl, hr⟩
    obtain ⟨b, q2, hb⟩ := wCond_ok n pre (E ++ [.lst (rs'.map rD)]) q' (some (.int m)) none (some (.int high)) (some (.ref (wK pre E))) e8 one ((one : Int) + 1 + j) s hs
    cases b with
    | false =>
      refine ⟨_, _, .nx, _, _, rfl, ?_, .inl rfl, ⟨some (.int (one + 1 + j)), q2, rs', rfl, rfl, hr.mono (Nat.le_succ _) fun x y z => by omega⟩⟩
      simp only [evSs_cons, evS_iff, List.set_cons_succ, List.set_cons_zero]
      rw [hb]
      simp
    | true =>
      obtain ⟨r, q3, r1, r2, r3⟩ := draw_ok n pre (E ++ [.lst (rs'.map rD)]) q2 high (by omega)
      have hl : rs'.length < lim := Nat.lt_of_le_of_lt hr.len (Nat.lt_of_lt_of_le (show k + j < 1000 by omega) (by decide))
      have er : (1 : Int) + r = ((1 + r.toNat : Nat) : Int) := by omega
      have e2 : (one : Int) + 1 + j = ((one + 1 + j : Nat) : Int) := by omega
      refine ⟨_, _, .nx, _, _, rfl, ?_, .inl rfl, ⟨some (.int (one + 1 + j)), q3, rs' ++ [(one, one + 1 + j, 1 + r.toNat)], rfl, rfl, ?_⟩⟩
      · simp only [evSs_cons, evS_iff, List.set_cons_succ, List.set_cons_zero]
        rw [hb]
        have a1 := new_app (pre := pre) (p := q3) (E := E) (xs := rs'.map rD) (by simpa using hl) (.tup [.int one, .int (one + 1 + j), .int (1 + r)])
        rw [er, e2] at a1
        simp only [tst_ok, truO_bl, ofO_some, bnd_ok, if_true, evSs_cons, evS_ex, ev_app, ev_var, List.getElem?_cons_succ, List.getElem?_cons_zero, new_lstR, ev_tup, evs_cons, evs_nil, ev_bin, ev_int, ev_call, r3, binO_add, a1, nextS_nx, evSs_nil, List.map_append, List.map_cons, List.map_nil, rD, er, e2]
      · exact (hr.snoc (l := 1 + r.toNat) (by omega) (by omega) (by omega))
  obtain ⟨env', A', k1, e7', q', rs', k2, k3, k4⟩ := key
  exact ⟨e7', q', rs', by rw [k1, k2, k3], k4.mono (Nat.le_refl _) fun x y z => by omega⟩
theorem l__law_web_1_ok (n : Nat) (pre E : AH) (q : Int × Int × Int) (m : Nat) (high s : Int) (hm : m ≤ 9) (hh : 1 ≤ high ∧ high ≤ 99) (hs : 0 ≤ s ∧ s < 4) :
    ∃ e2 e7 q' rs, evS (callF Ps (n + 1)) l__law_web_1 [some (.ref pre.length), some (.int m), none, none, some (.int high), some (.int s), some (.ref (wK pre E)), none, none] (St1 pre q (E ++ [.lst []])) =
      .ok (.nx, [some (.ref pre.length), some (.int m), e2, none, some (.int high), some (.int s), some (.ref (wK pre E)), e7, none]) (St1 pre q' (E ++ [.lst (rs.map rD)])) ∧ RdsOk m m 0 90 rs := by
  have key : ∃ env' A', evS (callF Ps (n + 1)) l__law_web_1 [some (.ref pre.length), some (.int m), none, none, some (.int high), some (.int s), some (.ref (wK pre E)), none, none] (St1 pre q (E ++ [.lst []])) = .ok (.nx, env') A' ∧
      ∃ e2 e7 q' rs, env' = [some (.ref pre.length), some (.int m), e2, none, some (.int high), some (.int s), some (.ref (wK pre E)), e7, none] ∧ A' = St1 pre q' (E ++ [.lst (rs.map rD)]) ∧ RdsOk m m 0 (10 * m) rs := by
    rw [l__law_web_1]
    refine for_rng (n := m) (f := fun j : Nat => .int j) (Pv := fun i env B => ∃ e2 e7 q' rs, env = [some (.ref pre.length), some (.int m), e2, none, some (.int high), some (.int s), some (.ref (wK pre E)), e7, none] ∧ B = St1 pre q' (E ++ [.lst (rs.map rD)]) ∧ RdsOk m i 0 (10 * i) rs)
      (A1 := St1 pre q (E ++ [.lst []])) ?_ ⟨none, none, q, [], rfl, rfl, ⟨by simp, by simp, .nil, by simp⟩⟩ ?_
    · refine evi_r1 (n := m) (A1 := St1 pre q (E ++ [.lst []])) ?_ (by omega)
      simp
    rintro i env B hi ⟨e2, e7, q', rs, rfl, rfl, hr⟩
    obtain ⟨e7', q2, rs', h1, h2⟩ := l__law_web_0_ok n pre E q' m i (10 * i) rs high s e7 none hm hi hh hs (by omega) (hr.mono (Nat.le_refl _) fun x y z => by omega)
    refine ⟨_, _, .nx, _, _, rfl, ?_, .inl rfl, ⟨some (.int i), e7', q2, rs', rfl, rfl, h2.mono (by omega) fun x y z => ?_⟩⟩
    · simp [h1]
    · have : y < m ∨ ¬ y < m := by omega
      omega
  obtain ⟨env', A', k1, e2, e7, q', rs, k2, k3, k4⟩ := key
  exact ⟨e2, e7, q', rs, by rw [k1, k2, k3], k4.mono (by omega) fun x y z => z⟩
theorem RdsOk.sub {m a b k k' : Nat} {rs rs' : List Road} (h : RdsOk m a b k rs) (hs : rs'.Sublist rs) (hk : rs'.length ≤ k') : RdsOk m a b k' rs' :=
  ⟨hk, fun r hr => h.road r (hs.subset hr), h.sorted.sublist hs, fun r hr => h.bef r (hs.subset hr)⟩
theorem shal_St {pre E : AH} {q : Int × Int × Int} {xs ys : List D} {d : D} (h : d = .lst xs ∨ (d = .ref (wK pre E) ∧ xs = ys)) : shal (St1 pre q (E ++ [.lst ys])) d = .lst xs := by
  rcases h with rfl | ⟨rfl, rfl⟩
  · rfl
  · exact new_shal
theorem l__law_web_2_ok (n : Nat) (pre E : AH) (q : Int × Int × Int) (m : Nat) (rs : List Road) (e2 e4 e5 e7 : Option D) (h : RdsOk m m 0 90 rs) :
    ∃ e3 e8 d q' rs', evS (callF Ps (n + 1)) l__law_web_2 [some (.ref pre.length), some (.int m), e2, none, e4, e5, some (.ref (wK pre E)), e7, none] (St1 pre q (E ++ [.lst (rs.map rD)])) =
      .ok (.nx, [some (.ref pre.length), some (.int m), e2, e3, e4, e5, some d, e7, e8]) (St1 pre q' (E ++ [.lst (rs.map rD)])) ∧ (d = .lst (rs'.map rD) ∨ (d = .ref (wK pre E) ∧ rs' = rs)) ∧ RdsOk m m 0 20 rs' := by
  have key : ∃ env' A', evS (callF Ps (n + 1)) l__law_web_2 [some (.ref pre.length), some (.int m), e2, none, e4, e5, some (.ref (wK pre E)), e7, none] (St1 pre q (E ++ [.lst (rs.map rD)])) = .ok (.nx, env') A' ∧
      ∃ e3 e8 d q' rs', env' = [some (.ref pre.length), some (.int m), e2, e3, e4, e5, some d, e7, e8] ∧ A' = St1 pre q' (E ++ [.lst (rs.map rD)]) ∧ (d = .lst (rs'.map rD) ∨ (d = .ref (wK pre E) ∧ rs' = rs)) ∧ RdsOk m m 0 90 rs' ∧ rs'.length + (rs.length - 20) = rs.length := by
    rw [l__law_web_2]
    have hl := h.len
    refine for_rng (n := rs.length - 20) (f := fun j : Nat => .int j) (Pv := fun i env B => ∃ e3 e8 d q' rs', env = [some (.ref pre.length), some (.int m), e2, e3, e4, e5, some d, e7, e8] ∧ B = St1 pre q' (E ++ [.lst (rs.map rD)]) ∧ (d = .lst (rs'.map rD) ∨ (d = .ref (wK pre E) ∧ rs' = rs)) ∧ RdsOk m m 0 90 rs' ∧ rs'.length + i = rs.length)
      (A1 := St1 pre q (E ++ [.lst (rs.map rD)])) ?_ ⟨none, none, .ref (wK pre E), q, rs, rfl, rfl, .inr ⟨rfl, rfl⟩, h, rfl⟩ ?_
    · refine evi_r1 (n := rs.length - 20) (A1 := St1 pre q (E ++ [.lst (rs.map rD)])) ?_ (by omega)
      have a1 := len_of (shal_St (pre := pre) (E := E) (q := q) (xs := rs.map rD) (ys := rs.map rD) (d := .ref (wK pre E)) (.inr ⟨rfl, rfl⟩))
      simp only [ev_bi, evs_cons, evs_nil, ev_int, ev_bin, ev_var, List.getElem?_cons_succ, List.getElem?_cons_zero, bnd_ok, bi_len, a1, List.length_map, Option.map_some, ofO_some, binO_sub, bi_max2]
      congr 2
      split <;> omega
    rintro i env B hi ⟨e3, e8, d, q', rs', rfl, rfl, hd, hr, hn⟩
    have sh := fun q => shal_St (pre := pre) (E := E) (q := q) (xs := rs'.map rD) (ys := rs.map rD) (d := d) (hd.imp id fun z => ⟨z.1, by rw [z.2]⟩)
    obtain ⟨r, q2, r1, r2, r3⟩ := draw_ok n pre (E ++ [.lst (rs.map rD)]) q' rs'.length (by have := hr.len; omega)
    have er : r = ((r.toNat : Nat) : Int) := by omega
    have er1 : r + 1 = ((r.toNat + 1 : Nat) : Int) := by omega
    have hk : r.toNat < rs'.length := by omega
    have c1 : cut (rs'.map rD) none (some r) = (rs'.take r.toNat).map rD := by
      have z := cut_to (xs := rs'.map rD) (k := r.toNat) (by simp; omega)
      rw [← er] at z
      rw [z, List.map_take]
    have c2 : cut (rs'.map rD) (some (r + 1)) none = (rs'.drop (r.toNat + 1)).map rD := by rw [er1, cut_from (by simp; omega), List.map_drop]
    have hsub : (rs'.take r.toNat ++ rs'.drop (r.toNat + 1)).Sublist rs' := by rw [← List.eraseIdx_eq_take_drop_succ]; exact List.eraseIdx_sublist _ _
    have hlen : (rs'.take r.toNat ++ rs'.drop (r.toNat + 1)).length + 1 = rs'.length := by simp; omega
    have ad := add_lst (A := St1 pre q2 (E ++ [.lst (rs.map rD)])) (xs := (rs'.take r.toNat).map rD) ((rs'.drop (r.toNat + 1)).map rD) (by have := hr.len; simp; omega)
    refine ⟨_, _, .nx, _, _, rfl, ?_, .inl rfl, ⟨some (.int i), some (.int r), .lst ((rs'.take r.toNat ++ rs'.drop (r.toNat + 1)).map rD), q2, rs'.take r.toNat ++ rs'.drop (r.toNat + 1), rfl, rfl, .inl rfl, hr.sub hsub (by have := hr.len; omega), by omega⟩⟩
    simp only [evSs_cons, evSs_nil, evS_asg, ev_call, ev_bi, ev_bin, ev_slc, ev_var, ev_int, evo_no, evo_yes, evs_cons, evs_nil, List.set_cons_succ, List.set_cons_zero, List.getElem?_cons_succ, List.getElem?_cons_zero, bnd_ok, bi_len, len_of (sh _), List.length_map, Option.map_some, ofO_some, r3, asg_nm, nextS_nx, intO_int, slc_of (sh _), binO_add, c1, c2, ad, List.map_append]
  obtain ⟨env', A', k1, e3, e8, d, q', rs', k2, k3, k4, k5, k6⟩ := key
  exact ⟨e3, e8, d, q', rs', by rw [k1, k2, k3], k4, k5.sub (List.Sublist.refl _) (by omega)⟩
theorem web_ok (n : Nat) (pre E : AH) (p : Int × Int × Int) (m : Nat) (hm : 1 ≤ m ∧ m ≤ 9) : ∃ rs q, WebOk m rs ∧ callF Ps (n + 3) i__law_web [.ref pre.length, .int m] (St1 pre p E) = .ok (wD m rs) (St1 pre q E) := by
  obtain ⟨x, q1, hx, hp⟩ := pick_ok n pre E p [1, 3, 9, 99] (by decide)
  have hx' : 1 ≤ x ∧ x ≤ 99 := by
    simp only [List.mem_cons, List.not_mem_nil, or_false] at hx; omega
  have hp' : callF Ps (n + 2) i__law_pick [.ref pre.length, .lst [.int 1, .int 3, .int 9, .int 99]] (St1 pre p E) = .ok (.int x) (St1 pre q1 E) := hp
  obtain ⟨s, q2, s1, s2, s3⟩ := draw_ok (n + 1) pre E q1 4 (by omega)
  obtain ⟨e2, e7, q3, rs, w1, w2⟩ := l__law_web_1_ok (n + 1) pre E q2 m x s hm.2 hx' ⟨s1, s2⟩
  obtain ⟨e3, e8, d, q4, rs', v1, v2, v3⟩ := l__law_web_2_ok (n + 1) pre E q3 m rs e2 (some (.int x)) (some (.int s)) e7 w2
  refine ⟨rs', q4, ⟨hm.1, hm.2, v3.len, v3.road, v3.sorted⟩, ?_⟩
  rw [rn__law_web, b__law_web]
  have sh := shal_St (pre := pre) (E := E) (q := q4) (xs := rs'.map rD) (ys := rs.map rD) (d := d) (v2.imp id fun z => ⟨z.1, by rw [z.2]⟩)
  have fe := fin_pool_pu (pre := pre) (p := p) (q := q4) (E := E) (E' := [.lst (rs.map rD)]) (d := wD m rs') (pu_wD 4 m rs')
  have sl : (St1 pre q2 E).length = wK pre E := St1_len
  simp only [evSs_cons, evS_par, evs_cons, evs_nil, ev_call, ev_var, ev_lst, ev_int, List.getElem?_cons_succ, List.getElem?_cons_zero, bnd_ok, hp', s3, ev_lstM, sl, St1_app, List.length_cons, List.length_nil, if_true, setPar_cons, setPar_nil, List.set_cons_succ, List.set_cons_zero, nextS_nx, w1, v1, evS_ret, ev_tup, ev_bi, bi_tuple, sh, seqO_lst, Option.map_some, ofO_some, nextS_rt, fnEnd_rt]
  exact fe
end K11

set_option maxRecDepth 100000
namespace K11
open PySem (Str)
open Ev
def F0 : Mx := fun i j => if i = j then some 0 else none
theorem c__law_distances_0_ok (cl : Cl) (A : AH) (m i : Nat) (e0 e2 e3 e5 e6 : Option D) (hm : m ≤ 9) : ev cl c__law_distances_0 [e0, some (.int m), e2, e3, some (.int i), e5, e6] A = .ok (.ref A.length) (A ++ [rowO m F0 i]) := by
  rw [c__law_distances_0]
  refine cmp_mapM (f := fun j : Nat => .int j) (g := fun j => oD (F0 i j)) (xs := List.range m) ?_ (by rw [List.length_range]; omega) fun j hj => ⟨_, rfl, rfl, ?_⟩
  · refine evi_r1 (n := m) (A1 := A) ?_ (by omega)
    simp
  · by_cases h : i = j
    · subst h; simp [F0, oD]
    · have h' : ¬ ((i : Int) = (j : Int)) := by omega
      simp [F0, oD, h, h']
theorem c__law_distances_1_ok (cl : Cl) (A : AH) (m : Nat) (e0 e2 e3 e4 e5 e6 : Option D) (hm : m ≤ 9) : ev cl c__law_distances_1 [e0, some (.int m), e2, e3, e4, e5, e6] A = .ok (farD A.length m) (A ++ matN m m F0) := by
  rw [c__law_distances_1]
  obtain ⟨A', h1, h2⟩ := cmp_rng (cl := cl) (env := [e0, some (.int m), e2, e3, e4, e5, e6]) (A := A) (A1 := A) (own := [4]) (tg := .nm 4) (it := .rng1 (.var 1)) (cs := .nil) (e := c__law_distances_0) (n := m) (f := fun i : Nat => .int i) (g := fun i => .ref (A.length + i)) (Pv := fun i B => B = A ++ matN m i F0)
    (evi_r1 (by simp) (by omega)) (by omega) (by simp [matN]) (by
      rintro i B hi rfl
      refine ⟨_, _, _, A ++ matN m (i + 1) F0, rfl, rfl, ?_, rfl⟩
      have q := c__law_distances_0_ok cl (A ++ matN m i F0) m i e0 e2 e3 e5 e6 hm
      rw [List.length_append, matN_len, List.append_assoc, ← matN_succ] at q
      exact q)
  rw [h1, h2]
  rfl
/-- the roads are in the table -/
structure In0 (m k : Nat) (rs : List Road) (F : Mx) : Prop where
  diag : ∀ i, i < m → F i i = some 0
  nn : ∀ i j v, F i j = some v → 0 ≤ v
  road : ∀ i r, i < k → rs[i]? = some r → F r.1 r.2.1 = some (r.2.2 : Int) ∧ F r.2.1 r.1 = some (r.2.2 : Int)
theorem l__law_distances_0_ok (cl : Cl) (A : AH) (m : Nat) (rs : List Road) (hw : WebOk m rs) : ∃ F e4 e5 e6, evS cl l__law_distances_0 [some (wD m rs), some (.int m), some (farD A.length m), none, none, none, none] (A ++ matN m m F0) =
    .ok (.nx, [some (wD m rs), some (.int m), some (farD A.length m), none, e4, e5, e6]) (A ++ matN m m F) ∧ Tri m 0 rs F := by
  have key : ∃ env' A', evS cl l__law_distances_0 [some (wD m rs), some (.int m), some (farD A.length m), none, none, none, none] (A ++ matN m m F0) = .ok (.nx, env') A' ∧
      ∃ F e4 e5 e6, env' = [some (wD m rs), some (.int m), some (farD A.length m), none, e4, e5, e6] ∧ A' = A ++ matN m m F ∧ In0 m rs.length rs F := by
    rw [l__law_distances_0]
    refine for_ix (f := rD) (xs := rs) (Pv := fun i env B => ∃ F e4 e5 e6, env = [some (wD m rs), some (.int m), some (farD A.length m), none, e4, e5, e6] ∧ B = A ++ matN m m F ∧ In0 m i rs F) (A1 := A ++ matN m m F0) ?_
      ⟨F0, none, none, none, rfl, rfl, ⟨fun i hi => by simp [F0], fun i j v h => ?_, fun i r hi => by omega⟩⟩ ?_
    · simp [wD]
    · unfold F0 at h
      split at h
      · cases h; exact Int.le_refl _
      · cases h
    rintro i r env B hr ⟨F, e4, e5, e6, rfl, rfl, hF⟩
    obtain ⟨r1, r2, r3, r4⟩ := hw.road r (List.mem_of_getElem? hr)
    have f1 := far_idx (A := A) (B := A ++ matN m m F) (m := m) (i := r.1) (by omega)
    have s1 := mat_set (A := A) (m := m) (F := F) (i := r.1) (j := r.2.1) (by omega) (by omega) (some (r.2.2 : Int))
    have f2 := far_idx (A := A) (B := A ++ matN m m (updF F r.1 r.2.1 (some (r.2.2 : Int)))) (m := m) (i := r.2.1) (by omega)
    have s2 := mat_set (A := A) (m := m) (F := updF F r.1 r.2.1 (some (r.2.2 : Int))) (i := r.2.1) (j := r.1) (by omega) (by omega) (some (r.2.2 : Int))
    simp only [oD] at s1 s2
    refine ⟨[some (wD m rs), some (.int m), some (farD A.length m), none, some (.int r.1), some (.int r.2.1), some (.int r.2.2)], _, .nx, [some (wD m rs), some (.int m), some (farD A.length m), none, some (.int r.1), some (.int r.2.1), some (.int r.2.2)], _, rfl, ?_, .inl rfl,
      ⟨updF (updF F r.1 r.2.1 (some (r.2.2 : Int))) r.2.1 r.1 (some (r.2.2 : Int)), _, _, _, rfl, rfl, ⟨fun j hj => ?_, fun a b v hv => ?_, fun j r' hj hr' => ?_⟩⟩⟩
    · simp [f1, s1, f2, s2]
    · unfold updF
      rw [if_neg (by omega), if_neg (by omega)]
      exact hF.diag j hj
    · unfold updF at hv
      split at hv
      · cases hv; omega
      · split at hv
        · cases hv; omega
        · exact hF.nn _ _ _ hv
    · by_cases hji : j = i
      · subst hji
        rw [hr] at hr'; cases hr'
        refine ⟨?_, ?_⟩
        · unfold updF
          by_cases z : r.1 = r.2.1 ∧ r.2.1 = r.1
          · omega
          · rw [if_neg z, if_pos ⟨rfl, rfl⟩]
        · unfold updF; rw [if_pos ⟨rfl, rfl⟩]
      · have hlt : j < i := by omega
        obtain ⟨q1, q2⟩ := hF.road j r' hlt hr'
        obtain ⟨t1, t2, _, _⟩ := hw.road r' (List.mem_of_getElem? hr')
        have hjl := (List.getElem?_eq_some_iff.mp hr').1
        have hil := (List.getElem?_eq_some_iff.mp hr).1
        have hs := List.pairwise_iff_getElem.mp hw.sorted j i hjl hil hlt
        rw [(List.getElem?_eq_some_iff.mp hr').2, (List.getElem?_eq_some_iff.mp hr).2] at hs
        unfold updF
        refine ⟨?_, ?_⟩
        · rw [if_neg (by omega), if_neg (by omega)]; exact q1
        · rw [if_neg (by omega), if_neg (by omega)]; exact q2
  obtain ⟨env', A', k1, F, e4, e5, e6, k2, k3, k4⟩ := key
  refine ⟨F, e4, e5, e6, by rw [k1, k2, k3], ⟨k4.diag, k4.nn, fun r hr => ?_, fun t ht => by omega⟩⟩
  obtain ⟨i, hi⟩ := List.mem_iff_getElem?.mp hr
  obtain ⟨q1, q2⟩ := k4.road i r (List.getElem?_eq_some_iff.mp hi).1 hi
  exact ⟨⟨_, q1, Int.le_refl _⟩, _, q2, Int.le_refl _⟩
end K11

set_option maxRecDepth 100000
namespace K11
open PySem (Str)
open Ev
theorem step_cell (cl : Cl) (A : AH) (m a b k : Nat) (F : Mx) (e0 e6 : Option D) (ha : a < m) (hb : b < m) (hk : k < m) (hkk : F k k = some 0) :
    evSs cl (.cons (.iff (.and (.isN (.idx (.idx (.var 2) (.var 4)) (.var 3)) true) (.and (.isN (.idx (.idx (.var 2) (.var 3)) (.var 5)) true) (.one (.or (.isN (.idx (.idx (.var 2) (.var 4)) (.var 5)) false) (.one (.cmp .lt (.bin .add (.idx (.idx (.var 2) (.var 4)) (.var 3)) (.idx (.idx (.var 2) (.var 3)) (.var 5))) (.idx (.idx (.var 2) (.var 4)) (.var 5)))))))) (.cons (.asg (.sub (.idx (.var 2) (.var 4)) (.var 5)) (.bin .add (.idx (.idx (.var 2) (.var 4)) (.var 3)) (.idx (.idx (.var 2) (.var 3)) (.var 5)))) .nil) .nil) .nil)
      [e0, some (.int m), some (farD A.length m), some (.int k), some (.int a), some (.int b), e6] (A ++ matN m m (curF F k a b)) =
    .ok (.nx, [e0, some (.int m), some (farD A.length m), some (.int k), some (.int a), some (.int b), e6]) (A ++ matN m m (curF F k a (b + 1))) := by
  have fa := fun G => far_idx (A := A) (B := A ++ matN m m G) (m := m) (i := a) ha
  have fk := fun G => far_idx (A := A) (B := A ++ matN m m G) (m := m) (i := k) hk
  have iak := mat_idx (A := A) (m := m) (F := curF F k a b) (i := a) (j := k) ha hk
  have ikb := mat_idx (A := A) (m := m) (F := curF F k a b) (i := k) (j := b) hk hb
  have iab := mat_idx (A := A) (m := m) (F := curF F k a b) (i := a) (j := b) ha hb
  rw [cur_ik hkk] at iak
  rw [cur_kj hkk] at ikb
  rw [cur_at] at iab
  have st := fun v => mat_set (A := A) (m := m) (F := curF F k a b) (i := a) (j := b) ha hb (some v)
  simp only [oD] at st
  cases e1 : F a k with
  | none =>
    have hs : relax F k a b = F a b := by unfold relax; rw [e1]
    rw [e1] at iak
    rw [← cur_same hs]
    simp [fa, fk, iak, oD]
  | some x =>
    rw [e1] at iak
    cases e2 : F k b with
    | none =>
      have hs : relax F k a b = F a b := by unfold relax; rw [e1, e2]
      rw [e2] at ikb
      rw [← cur_same hs]
      simp [fa, fk, iak, ikb, oD]
    | some y =>
      rw [e2] at ikb
      cases e3 : F a b with
      | none =>
        have hs : relax F k a b = some (x + y) := by unfold relax; rw [e1, e2, e3]
        rw [e3] at iab
        rw [← cur_set, hs]
        simp [fa, fk, iak, ikb, iab, oD, st]
      | some c =>
        rw [e3] at iab
        by_cases h : x + y < c
        · have hs : relax F k a b = some (x + y) := by unfold relax; rw [e1, e2, e3]; simp [h]
          rw [← cur_set, hs]
          simp [fa, fk, iak, ikb, iab, oD, st, h]
        · have hs : relax F k a b = F a b := by unfold relax; rw [e1, e2, e3]; simp [h]
          rw [← cur_same hs]
          simp [fa, fk, iak, ikb, iab, oD, h]
theorem l__law_distances_1_ok (cl : Cl) (A : AH) (m a k : Nat) (F : Mx) (e0 e5 e6 : Option D) (hm : m ≤ 9) (ha : a < m) (hk : k < m) (hkk : F k k = some 0) : ∃ e5', evS cl l__law_distances_1 [e0, some (.int m), some (farD A.length m), some (.int k), some (.int a), e5, e6] (A ++ matN m m (curF F k a 0)) =
    .ok (.nx, [e0, some (.int m), some (farD A.length m), some (.int k), some (.int a), e5', e6]) (A ++ matN m m (curF F k (a + 1) 0)) := by
  have key : ∃ env' A', evS cl l__law_distances_1 [e0, some (.int m), some (farD A.length m), some (.int k), some (.int a), e5, e6] (A ++ matN m m (curF F k a 0)) = .ok (.nx, env') A' ∧
      ∃ e5', env' = [e0, some (.int m), some (farD A.length m), some (.int k), some (.int a), e5', e6] ∧ A' = A ++ matN m m (curF F k a m) := by
    rw [l__law_distances_1]
    refine for_rng (n := m) (f := fun j : Nat => .int j) (Pv := fun b env B => ∃ e5', env = [e0, some (.int m), some (farD A.length m), some (.int k), some (.int a), e5', e6] ∧ B = A ++ matN m m (curF F k a b)) (A1 := A ++ matN m m (curF F k a 0)) ?_ ⟨e5, rfl, rfl⟩ ?_
    · refine evi_r1 (n := m) (A1 := A ++ matN m m (curF F k a 0)) ?_ (by omega)
      simp
    rintro b env B hb ⟨e5', rfl, rfl⟩
    exact ⟨_, _, .nx, _, _, rfl, step_cell cl A m a b k F e0 e6 ha hb hk hkk, .inl rfl, ⟨_, rfl, rfl⟩⟩
  obtain ⟨env', A', k1, e5', k2, k3⟩ := key
  exact ⟨e5', by rw [k1, k2, k3, cur_row]⟩
theorem l__law_distances_2_ok (cl : Cl) (A : AH) (m k : Nat) (F : Mx) (e0 e4 e5 e6 : Option D) (hm : m ≤ 9) (hk : k < m) (hkk : F k k = some 0) : ∃ e4' e5', evS cl l__law_distances_2 [e0, some (.int m), some (farD A.length m), some (.int k), e4, e5, e6] (A ++ matN m m F) =
    .ok (.nx, [e0, some (.int m), some (farD A.length m), some (.int k), e4', e5', e6]) (A ++ matN m m (relax F k)) := by
  have key : ∃ env' A', evS cl l__law_distances_2 [e0, some (.int m), some (farD A.length m), some (.int k), e4, e5, e6] (A ++ matN m m F) = .ok (.nx, env') A' ∧
      ∃ e4' e5', env' = [e0, some (.int m), some (farD A.length m), some (.int k), e4', e5', e6] ∧ A' = A ++ matN m m (curF F k m 0) := by
    rw [l__law_distances_2]
    refine for_rng (n := m) (f := fun j : Nat => .int j) (Pv := fun a env B => ∃ e4' e5', env = [e0, some (.int m), some (farD A.length m), some (.int k), e4', e5', e6] ∧ B = A ++ matN m m (curF F k a 0)) (A1 := A ++ matN m m F) ?_ ⟨e4, e5, rfl, by rw [cur_0]⟩ ?_
    · refine evi_r1 (n := m) (A1 := A ++ matN m m F) ?_ (by omega)
      simp
    rintro a env B ha ⟨e4', e5', rfl, rfl⟩
    obtain ⟨e5'', h⟩ := l__law_distances_1_ok cl A m a k F e0 e5' e6 hm ha hk hkk
    exact ⟨_, _, .nx, [e0, some (.int m), some (farD A.length m), some (.int k), some (.int a), e5'', e6], A ++ matN m m (curF F k (a + 1) 0), rfl, by simp [h], .inl rfl, ⟨_, _, rfl, rfl⟩⟩
  obtain ⟨env', A', k1, e4', e5', k2, k3⟩ := key
  exact ⟨e4', e5', by rw [k1, k2, k3, cur_all]⟩
theorem l__law_distances_3_ok (cl : Cl) (A : AH) (m : Nat) (rs : List Road) (F : Mx) (e0 e3 e4 e5 e6 : Option D) (hm : m ≤ 9) (hF : Tri m 0 rs F) : ∃ G e3' e4' e5', evS cl l__law_distances_3 [e0, some (.int m), some (farD A.length m), e3, e4, e5, e6] (A ++ matN m m F) =
    .ok (.nx, [e0, some (.int m), some (farD A.length m), e3', e4', e5', e6]) (A ++ matN m m G) ∧ Tri m m rs G := by
  have key : ∃ env' A', evS cl l__law_distances_3 [e0, some (.int m), some (farD A.length m), e3, e4, e5, e6] (A ++ matN m m F) = .ok (.nx, env') A' ∧
      ∃ G e3' e4' e5', env' = [e0, some (.int m), some (farD A.length m), e3', e4', e5', e6] ∧ A' = A ++ matN m m G ∧ Tri m m rs G := by
    rw [l__law_distances_3]
    refine for_rng (n := m) (f := fun j : Nat => .int j) (Pv := fun k env B => ∃ G e3' e4' e5', env = [e0, some (.int m), some (farD A.length m), e3', e4', e5', e6] ∧ B = A ++ matN m m G ∧ Tri m k rs G) (A1 := A ++ matN m m F) ?_ ⟨F, e3, e4, e5, rfl, rfl, hF⟩ ?_
    · refine evi_r1 (n := m) (A1 := A ++ matN m m F) ?_ (by omega)
      simp
    rintro k env B hk ⟨G, e3', e4', e5', rfl, rfl, hG⟩
    obtain ⟨e4'', e5'', h⟩ := l__law_distances_2_ok cl A m k G e0 e4' e5' e6 hm hk (hG.diag k hk)
    exact ⟨_, _, .nx, [e0, some (.int m), some (farD A.length m), some (.int k), e4'', e5'', e6], A ++ matN m m (relax G k), rfl, by simp [h], .inl rfl, ⟨relax G k, _, _, _, rfl, rfl, hG.next hk⟩⟩
  obtain ⟨env', A', k1, G, e3', e4', e5', k2, k3, k4⟩ := key
  exact ⟨G, e3', e4', e5', by rw [k1, k2, k3], k4⟩
theorem distances_ok (n : Nat) (A : AH) (m : Nat) (rs : List Road) (hw : WebOk m rs) : ∃ F, callF Ps (n + 1) i__law_distances [wD m rs] A = .ok (distD m F) A ∧ Tri m m rs F := by
  obtain ⟨F, e4, e5, e6, h1, h2⟩ := l__law_distances_0_ok (callF Ps n) A m rs hw
  obtain ⟨G, f3, f4, f5, h3, h4⟩ := l__law_distances_3_ok (callF Ps n) A m rs F (some (wD m rs)) none e4 e5 e6 hw.hi h2
  refine ⟨G, ?_, h4⟩
  rw [rn__law_distances, b__law_distances]
  have c1 := c__law_distances_1_ok (callF Ps n) A m (some (wD m rs)) none none none none none hw.hi
  obtain ⟨L, hf, hL⟩ := fz_far (A := A) (m := m) (F := G)
  have fe := fin_gen hf hL
  have w0 : idxO A (wD m rs) (.int 0) = some (.int m) := by simp [wD]
  simp only [evSs_cons, evS_asg, ev_idx, ev_var, ev_int, List.getElem?_cons_succ, List.getElem?_cons_zero, bnd_ok, w0, ofO_some, asg_nm, List.set_cons_succ, List.set_cons_zero, nextS_nx, c1, h1, h3, evS_ret, nextS_rt, fnEnd_rt]
  exact fe
end K11

set_option maxRecDepth 100000
namespace K11
open PySem (Str)
open Ev
theorem web_0 (A : AH) (m : Nat) (rs : List Road) : idxO A (wD m rs) (.int 0) = some (.int m) := by simp [wD]
theorem c__law_heights_2_ok (cl : Cl) (A : AH) (m i : Nat) (rs : List Road) (F : Mx) (bs : List Int) (e0 e2 e5 e6 e7 e9 : Option D) (hm : m ≤ 9) (hi : i < m) (hb : bs.length = m) :
    ev cl c__law_heights_2 [e0, some (wD m rs), e2, some (.lst (bs.map D.int)), some (distD m F), e5, e6, e7, some (.int i), e9] A = .ok (.lst ((valsF m F bs i).map D.int)) A := by
  have e : (valsF m F bs i).map D.int = (List.range m).filterMap fun j => (F i j).map fun v => D.int (bs.getD j 0 + v) := by
    unfold valsF
    rw [List.map_filterMap]
    congr 1
    funext j
    cases F i j <;> rfl
  rw [e, c__law_heights_2]
  refine cmp_fm (f := fun j : Nat => .int j) ?_ (by rw [List.length_range]; omega) fun j hj => ⟨_, rfl, ?_⟩
  · refine evi_r1 (n := m) (A1 := A) ?_ (by omega)
    simp [web_0]
  · have hj := List.mem_range.mp hj
    have d1 := dist_row (A := A) (F := F) hi
    have d2 := dist_at (A := A) (F := F) (i := i) hj
    have b1 := at_int (ns := bs) (j := j) (by omega)
    cases hv : F i j with
    | none =>
      rw [hv] at d2
      replace d2 : _ = some D.non := d2
      exact .inr ⟨by simp only [wipe_cons, wipe_nil, List.set_cons_succ, List.set_cons_zero, evt_cons, ev_isN, ev_idx, ev_var, List.getElem?_cons_succ, List.getElem?_cons_zero, bnd_ok, d1, d2, ofO_some, tst_ok, truO_bl]; simp, rfl⟩
    | some v =>
      rw [hv] at d2
      replace d2 : _ = some (D.int v) := d2
      have b2 : idxO A (.lst (bs.map D.int)) (.int j) = _ := (idxO_lst _ _).trans b1
      refine .inl ⟨by simp only [wipe_cons, wipe_nil, List.set_cons_succ, List.set_cons_zero, evt_cons, ev_isN, ev_idx, ev_var, List.getElem?_cons_succ, List.getElem?_cons_zero, bnd_ok, d1, d2, ofO_some, tst_ok, truO_bl]; simp, _, ?_, rfl⟩
      simp only [wipe_cons, wipe_nil, List.set_cons_succ, List.set_cons_zero, ev_bin, ev_idx, ev_var, List.getElem?_cons_succ, List.getElem?_cons_zero, bnd_ok, b2, ofO_some, d1, d2, binO_add]
theorem c__law_heights_3_ok (cl : Cl) (A : AH) (m : Nat) (rs : List Road) (F : Mx) (bs : List Int) (e0 e2 e5 e6 e7 e8 e9 : Option D) (hm : m ≤ 9) (hb : bs.length = m) (hF' : Tri m m rs F) :
    ev cl c__law_heights_3 [e0, some (wD m rs), e2, some (.lst (bs.map D.int)), some (distD m F), e5, e6, e7, e8, e9] A = .ok (.lst ((htsF m F bs).map D.int)) A := by
  rw [c__law_heights_3]
  unfold htsF
  rw [List.map_map]
  refine cmp_map (f := fun j : Nat => .int j) ?_ (by rw [List.length_range]; omega) fun i hi => ⟨_, rfl, rfl, ?_⟩
  · refine evi_r1 (n := m) (A1 := A) ?_ (by omega)
    simp [web_0]
  · have hi := List.mem_range.mp hi
    have q := c__law_heights_2_ok cl A m i rs F bs e0 e2 e5 e6 e7 e9 hm hi hb
    simp only [wipe_cons, wipe_nil, List.set_cons_succ, List.set_cons_zero, ev_bi, evs_cons, evs_nil, q, bnd_ok, bi_min1, ints1_lst, intsO_map, Option.bind_some, (hF_spec hF' bs hi).1, Option.map_some, ofO_some]
    rfl
theorem c__law_heights_1_ok (cl : Cl) (A : AH) (ns : List Int) (w : Int) (e0 e1 e3 e4 e6 e7 e8 e9 : Option D) (hw : w = 0 ∨ w = 1 ∨ w = 2) (hl : ns.length ≤ 1000) : ∃ bs : List Int, bs.length = ns.length ∧
    ev cl c__law_heights_1 [e0, e1, some (.int w), e3, e4, some (.lst (ns.map D.int)), e6, e7, e8, e9] A = .ok (.lst (bs.map D.int)) A := by
  refine ⟨ns.map fun x => if w = 2 then x else if w = 1 then x / 60 else 0, by simp, ?_⟩
  rw [c__law_heights_1, List.map_map]
  refine cmp_map (f := D.int) (by simp) (by omega) fun x hx => ⟨_, rfl, rfl, ?_⟩
  rcases hw with rfl | rfl | rfl <;> simp
theorem heights_ok (n : Nat) (pre E : AH) (p : Int × Int × Int) (m : Nat) (rs : List Road) (hw : WebOk m rs) : ∃ ts q, HeightsOk m rs ts ∧ callF Ps (n + 3) i__law_heights [.ref pre.length, wD m rs] (St1 pre p E) = .ok (iD ts) (St1 pre q E) := by
  obtain ⟨F, f1, f2⟩ := distances_ok (n + 1) (St1 pre p E) m rs hw
  obtain ⟨ys, A', h1, ⟨q', h2⟩, h3, h4⟩ := cmp_st (cl := callF Ps (n + 2)) (env := [some (.ref pre.length), some (wD m rs), none, none, none, none, none, none, none, none]) (A := St1 pre p E) (own := [7]) (tg := .nm 7) (it := .rng1 (.idx (.var 1) (.int 0))) (cs := .nil)
    (e := .bin .sub (.call i__law_draw (.cons (.var 0) (.cons (.int 400) .nil))) (.int 200))
    (f := fun k : Nat => D.int k) (g := D.int) (Inv := fun A => ∃ q, A = St1 pre q E) (Q := fun _ _ => True) (xs := List.range m) (evi_r1 (A1 := St1 pre p E) (by simp [web_0]) (by have := hw.hi; omega)) (by rw [List.length_range]; have := hw.hi; omega) ⟨p, rfl⟩ (by
      rintro k hk A ⟨q1, rfl⟩
      obtain ⟨r, q2, r1, r2, r3⟩ := draw_ok (n + 1) pre E q1 400 (by omega)
      exact ⟨_, _, _, St1 pre q2 E, r - 200, rfl, rfl, by simp [r3], ⟨q2, rfl⟩, trivial⟩)
  subst h2
  rw [List.length_range] at h3
  obtain ⟨w, q2, hx, hp⟩ := pick_ok n pre E q' [0, 1, 2] (by decide)
  have hw' : w = 0 ∨ w = 1 ∨ w = 2 := by simpa using hx
  have hp' : callF Ps (n + 2) i__law_pick [.ref pre.length, .lst [.int 0, .int 1, .int 2]] (St1 pre q' E) = .ok (.int w) (St1 pre q2 E) := hp
  obtain ⟨bs, b1, b2⟩ := c__law_heights_1_ok (callF Ps (n + 2)) (St1 pre q2 E) ys w (some (.ref pre.length)) (some (wD m rs)) none (some (distD m F)) none none none none hw' (by have := hw.hi; omega)
  have c3 := c__law_heights_3_ok (callF Ps (n + 2)) (St1 pre q2 E) m rs F bs (some (.ref pre.length)) (some (.int w)) (some (.lst (ys.map D.int))) none none none none hw.hi (by omega) f2
  refine ⟨htsF m F bs, q2, hts_ok hw f2 bs, ?_⟩
  rw [rn__law_heights, b__law_heights]
  have h1' : ev (callF Ps (n + 2)) c__law_heights_0 [some (.ref pre.length), some (wD m rs), none, none, none, none, none, none, none, none] (St1 pre p E) = .ok (.lst (ys.map D.int)) (St1 pre q' E) := h1
  simp only [evSs_cons, evS_asg, evS_ret, ev_tup, ev_call, ev_lst, ev_int, ev_bi, evs_cons, evs_nil, ev_var, List.getElem?_cons_succ, List.getElem?_cons_zero, bnd_ok, f1, h1', asg_tup, tupO_tup, ofO_some, asgs_cons, asgs_nil, asg_nm, List.set_cons_succ, List.set_cons_zero, nextS_nx, hp', b2, c3, bi_tuple, shal_lst, seqO_lst, Option.map_some, nextS_rt, fnEnd_rt]
  exact fin_tintsP _
end K11

set_option maxRecDepth 100000
namespace K11
open PySem (Str)
open Ev
theorem c__law_is_told_0_ok (cl : Cl) (A : AH) (d : List Int) (e0 e1 e2 e3 e4 e5 e6 e7 e9 e10 e11 e12 e13 e14 e15 e16 e17 e18 : Option D) (h : d.length ≤ 1000) :
    ev cl c__law_is_told_0 [e0, e1, e2, e3, e4, e5, e6, e7, some (iD d), e9, e10, e11, e12, e13, e14, e15, e16, e17, e18] A = .ok (.lst ((badL d).map D.int)) A := by
  have e : (badL d).map D.int = d.filterMap fun x => if (decide (-1 < x) && decide (x < 100)) = true then none else some (D.int x) := by
    unfold badL
    induction d with
    | nil => rfl
    | cons x d ih =>
      have ih := ih (by simp at h; omega)
      by_cases hx : (decide (-1 < x) && decide (x < 100)) = true
      · rw [List.filter_cons, List.filterMap_cons, if_neg (by rw [hx]; decide), if_pos hx]; exact ih
      · rw [List.filter_cons, List.filterMap_cons, if_pos (by simp only [Bool.not_eq_true] at hx; rw [hx]; rfl), if_neg hx, List.map_cons, ih]
  rw [e, c__law_is_told_0]
  refine cmp_fm (f := D.int) (by simp [iD]) (by omega) fun x hx => ⟨_, rfl, ?_⟩
  by_cases h1 : -1 < x
  · by_cases h2 : x < 100
    · exact .inr ⟨by simp [h1, h2], by simp [h1, h2]⟩
    · exact .inl ⟨by simp [h1, h2], _, by simp; rfl, by simp [h1, h2]⟩
  · exact .inl ⟨by simp [h1], _, by simp; rfl, by simp [h1]⟩
theorem c__law_is_told_1_ok (cl : Cl) (A : AH) (m : Nat) (rs : List Road) (xs ts : List Int) (e0 e2 e5 e6 e7 e8 e9 e10 e11 e12 e13 e14 e15 e16 e17 e18 : Option D) (hw : WebOk m rs) (hx : ∀ x ∈ xs, -200 ≤ x ∧ x ≤ 200) (ht : ts.length = m) :
    ev cl c__law_is_told_1 [e0, some (wD m rs), e2, some (iD xs), some (iD ts), e5, e6, e7, e8, e9, e10, e11, e12, e13, e14, e15, e16, e17, e18] A =
      .ok (.lst (((rs.zip xs).map fun p => p.2 * (ts.getD p.1.1 0 - ts.getD p.1.2.1 0)).map D.int)) A := by
  rw [c__law_is_told_1, List.map_map]
  refine cmp_map (f := fun p : Road × Int => .tup [rD p.1, .int p.2]) ?_ (by rw [List.length_zip]; have := hw.len; omega) fun p hp => ⟨_, rfl, rfl, ?_⟩
  · simp [wD, iD, zipO, zip2_map]
  · obtain ⟨r, x⟩ := p
    obtain ⟨r1, r2, r3, r4⟩ := hw.road r (List.of_mem_zip hp).1
    have hb := hx x (List.of_mem_zip hp).2
    have a1 := at_int (ns := ts) (j := r.1) (by omega)
    have a2 := at_int (ns := ts) (j := r.2.1) (by omega)
    have e := fun j => mulL (A := A) (i := x) j (by omega)
    simp [iD, a1, a2, e, -List.getD_eq_getElem?_getD]
theorem c__law_is_told_2_ok (cl : Cl) (A : AH) (ts : List Int) (e0 e1 e2 e3 e5 e6 e7 e8 e9 e10 e11 e12 e13 e14 e15 e16 e17 e18 : Option D) (ht : ts.length ≤ 1000) :
    ev cl c__law_is_told_2 [e0, e1, e2, e3, some (iD ts), e5, e6, e7, e8, e9, e10, e11, e12, e13, e14, e15, e16, e17, e18] A = .ok (.lst ((ts.map (· + 100000000000000000000)).map D.int)) A := by
  rw [c__law_is_told_2, List.map_map]
  exact cmp_map (f := D.int) (by simp [iD]) (by omega) fun x hx => ⟨_, rfl, rfl, by simp [pow_20]⟩
theorem shift_ok {m : Nat} {rs : List Road} {ts : List Int} (c : Int) (hw : WebOk m rs) (h : HeightsOk m rs ts) : HeightsOk m rs (ts.map (· + c)) := by
  refine ⟨by simp [h.len], fun r hr => ?_⟩
  obtain ⟨r1, r2, _, _⟩ := hw.road r hr
  have g : ∀ i, i < ts.length → (ts.map (· + c)).getD i 0 = ts.getD i 0 + c := fun i hi => by
    rw [List.getD_eq_getElem?_getD, List.getElem?_map, List.getD_eq_getElem?_getD, List.getElem?_eq_getElem hi]; rfl
  have hl := h.len
  rw [g _ (by omega), g _ (by omega)]
  have := h.road r hr
  rw [show ts.getD r.1 0 + c - (ts.getD r.2.1 0 + c) = ts.getD r.1 0 - ts.getD r.2.1 0 by omega]
  exact this
/-- what stands of the names while the wants are asked -/
structure Told (m : Nat) (rs : List Road) (hs xs ts : List Int) : Prop where
  web : WebOk m rs
  have_ : HeapsOk m hs
  len : xs.length = rs.length
  bnd : ∀ x ∈ xs, -200 ≤ x ∧ x ≤ 200
  hts : HeightsOk m rs ts
theorem Told.steps {m : Nat} {rs : List Road} {hs xs ts : List Int} (T : Told m rs hs xs ts) : gainF hs (comesF hs (rs.zip xs)) ts = stepsF ts (rs.zip xs) ∧ stepsF ts (rs.zip xs) ≤ costF (rs.zip xs) :=
  ⟨gain_comes T.hts.len T.have_.len fun p hp => by obtain ⟨a, b, _, _⟩ := T.web.road p.1 (List.of_mem_zip hp).1; exact ⟨a, b⟩, steps_le fun p hp => T.hts.road p.1 (List.of_mem_zip hp).1⟩
end K11

set_option maxRecDepth 100000
namespace K11
open PySem (Str)
open Ev
theorem sum_iD (A : AH) (ns : List Int) : biO A .sum [iD ns] = some (.int ns.sum) := by simp [iD]
/-- one want -/
theorem want_ok (n : Nat) (B : AH) (m : Nat) (rs : List Road) (hs xs ts w : List Int) (b : Bool) (e0 e5 e6 e11 e12 e13 e14 e15 e16 e17 e18 : Option D) (T : Told m rs hs xs ts) (hw : HeapsOk m w) :
    ∃ f11 f12 f13, evSs (callF Ps (n + 9)) (.cons (.asg (.nm 11) (.ite (.var 10) (.callK i_does_lead .nil (.cons (.var 3) (.cons (.var 7) (.cons (.var 2) (.cons (.var 1) .nil)))) [3, 2, 1, 0]) (.call i_does_lead (.cons (.var 1) (.cons (.var 2) (.cons (.var 7) (.cons (.var 3) .nil))))))) (.cons (.asg (.nm 12) (.ite (.var 10) (.callK i_gain .nil (.cons (.var 4) (.cons (.var 7) (.cons (.var 2) (.cons (.var 1) .nil)))) [3, 2, 1, 0]) (.call i_gain (.cons (.var 1) (.cons (.var 2) (.cons (.var 7) (.cons (.var 4) .nil))))))) (.cons (.iff (.or (.not (.call i__law_tells (.cons (.var 11) (.cons (.cmp .eq (.var 7) (.var 8)) .nil)))) (.one (.not (.call i__law_same (.cons (.var 12) (.cons (.call i__law_gain (.cons (.var 2) (.cons (.var 7) (.cons (.var 4) .nil)))) .nil)))))) (.cons (.ret (.bl false)) .nil) .nil) (.cons (.asg (.nm 13) (.bi .sum (.cons c__law_is_told_1 .nil))) (.cons (.iff (.and (.var 11) (.one (.or (.cmp .gt (.var 12) (.var 9)) (.one (.cmp .ne (.var 12) (.var 13)))))) (.cons (.ret (.bl false)) .nil) .nil) (.cons (.iff (.and (.cmp .eq (.bi .sum (.cons (.var 2) .nil)) (.bi .sum (.cons (.var 7) .nil))) (.one (.cmp .ne (.call i_gain (.cons (.var 1) (.cons (.var 2) (.cons (.var 7) (.cons (.bi .tuple (.cons c__law_is_told_2 .nil)) .nil))))) (.var 12)))) (.cons (.ret (.bl false)) .nil) .nil) .nil))))))
      [e0, some (wD m rs), some (iD hs), some (iD xs), some (iD ts), e5, e6, some (iD w), some (iD (comesF hs (rs.zip xs))), some (.int (costF (rs.zip xs))), some (.bl b), e11, e12, e13, e14, e15, e16, e17, e18] B =
    .ok (.nx, [e0, some (wD m rs), some (iD hs), some (iD xs), some (iD ts), e5, e6, some (iD w), some (iD (comesF hs (rs.zip xs))), some (.int (costF (rs.zip xs))), some (.bl b), f11, f12, f13, e14, e15, e16, e17, e18]) B := by
  refine ⟨some (.bl (decide (comesF hs (rs.zip xs) = w))), some (.int (gainF hs w ts)), some (.int (stepsF ts (rs.zip xs))), ?_⟩
  have h9 := T.web.hi
  have hl := T.have_.len
  have dl := does_lead_ok n B m rs hs w xs T.web T.have_ hw T.len
  have gn := gain_ok n B m rs hs w ts T.web T.have_ hw T.hts
  have gs := gain_ok n B m rs hs w (ts.map (· + 100000000000000000000)) T.web T.have_ hw (shift_ok _ T.web T.hts)
  have lg := law_gain_ok (n + 8) B hs w ts (by omega) (near_of T.have_ hw)
  have sm := same_int (n + 8) B (gainF hs w ts)
  have tl := tells_ok (n + 8) B (decide (comesF hs (rs.zip xs) = w))
  have eqd : decide (w = comesF hs (rs.zip xs)) = decide (comesF hs (rs.zip xs) = w) := by
    by_cases h : comesF hs (rs.zip xs) = w
    · simp [h]
    · rw [decide_eq_false h, decide_eq_false fun z => h z.symm]
  have c1 := fun e7 e8 e9 e10 e11 e12 e13 => c__law_is_told_1_ok (callF Ps (n + 9)) B m rs xs ts e0 (some (iD hs)) e5 e6 e7 e8 e9 e10 e11 e12 e13 e14 e15 e16 e17 e18 T.web T.bnd T.hts.len
  have c2 := fun e1 e2 e3 e7 e8 e9 e10 e11 e12 e13 => c__law_is_told_2_ok (callF Ps (n + 9)) B ts e0 e1 e2 e3 e5 e6 e7 e8 e9 e10 e11 e12 e13 e14 e15 e16 e17 e18 (by have := T.hts.len; omega)
  have tup : ∀ A : AH, biO A .tuple [.lst ((ts.map (· + 100000000000000000000)).map D.int)] = some (iD (ts.map (· + 100000000000000000000))) := fun A => by simp only [bi_tuple, shal_lst, seqO_lst, Option.map_some]; rfl
  -- the first two names
  have s1 : ev (callF Ps (n + 9)) (.ite (.var 10) (.callK i_does_lead .nil (.cons (.var 3) (.cons (.var 7) (.cons (.var 2) (.cons (.var 1) .nil)))) [3, 2, 1, 0]) (.call i_does_lead (.cons (.var 1) (.cons (.var 2) (.cons (.var 7) (.cons (.var 3) .nil))))))
      [e0, some (wD m rs), some (iD hs), some (iD xs), some (iD ts), e5, e6, some (iD w), some (iD (comesF hs (rs.zip xs))), some (.int (costF (rs.zip xs))), some (.bl b), e11, e12, e13, e14, e15, e16, e17, e18] B = .ok (.bl (decide (comesF hs (rs.zip xs) = w))) B := by
    cases b <;> simp [placed_4, dl, -decide_eq_true_eq]
  have s2 : ∀ e11, ev (callF Ps (n + 9)) (.ite (.var 10) (.callK i_gain .nil (.cons (.var 4) (.cons (.var 7) (.cons (.var 2) (.cons (.var 1) .nil)))) [3, 2, 1, 0]) (.call i_gain (.cons (.var 1) (.cons (.var 2) (.cons (.var 7) (.cons (.var 4) .nil))))))
      [e0, some (wD m rs), some (iD hs), some (iD xs), some (iD ts), e5, e6, some (iD w), some (iD (comesF hs (rs.zip xs))), some (.int (costF (rs.zip xs))), some (.bl b), e11, e12, e13, e14, e15, e16, e17, e18] B = .ok (.int (gainF hs w ts)) B := by
    intro e11
    cases b <;> simp [placed_4, gn]
  rw [evSs_cons, evS_asg, s1]
  simp only [bnd_ok, asg_nm, List.set_cons_succ, List.set_cons_zero, nextS_nx]
  rw [evSs_cons, evS_asg, s2]
  simp only [bnd_ok, asg_nm, List.set_cons_succ, List.set_cons_zero, nextS_nx, evSs_cons, evS_iff, ev_or, ev_not, ev_call, evs_cons, evs_nil, ev_var, ev_cmp, List.getElem?_cons_succ, List.getElem?_cons_zero, eq_iD, eqd, Option.map_some, ofO_some, tl, tst_ok, truO_bl, Bool.not_true, Bool.false_eq_true, if_false, ev_one, lg, sm, evSs_nil]
  simp only [evS_asg, ev_bi, evs_cons, evs_nil, c1, bnd_ok, bi_sum, ints1_lst, intsO_map, Option.map_some, ofO_some, asg_nm, List.set_cons_succ, List.set_cons_zero, nextS_nx]
  -- a want that is what comes
  have s3 : ∀ K : Res (Fl × Env) → Prop, K (.ok (.nx, [e0, some (wD m rs), some (iD hs), some (iD xs), some (iD ts), e5, e6, some (iD w), some (iD (comesF hs (rs.zip xs))), some (.int (costF (rs.zip xs))), some (.bl b), some (.bl (decide (comesF hs (rs.zip xs) = w))), some (.int (gainF hs w ts)), some (.int (stepsF ts (rs.zip xs))), e14, e15, e16, e17, e18]) B) →
      K (evS (callF Ps (n + 9)) (.iff (.and (.var 11) (.one (.or (.cmp .gt (.var 12) (.var 9)) (.one (.cmp .ne (.var 12) (.var 13)))))) (.cons (.ret (.bl false)) .nil) .nil) [e0, some (wD m rs), some (iD hs), some (iD xs), some (iD ts), e5, e6, some (iD w), some (iD (comesF hs (rs.zip xs))), some (.int (costF (rs.zip xs))), some (.bl b), some (.bl (decide (comesF hs (rs.zip xs) = w))), some (.int (gainF hs w ts)), some (.int (stepsF ts (rs.zip xs))), e14, e15, e16, e17, e18] B) := by
    intro K k
    by_cases h : comesF hs (rs.zip xs) = w
    · obtain ⟨t1, t2⟩ := T.steps
      rw [h] at t1
      have t3 : ¬ costF (rs.zip xs) < gainF hs w ts := by omega
      have t4 : (gainF hs w ts == stepsF ts (rs.zip xs)) = true := by rw [t1]; simp
      simpa [h, t3, t4] using (by simpa [h] using k)
    · simpa [h] using (by simpa [h] using k)
  have s4 : evS (callF Ps (n + 9)) (.iff (.and (.cmp .eq (.bi .sum (.cons (.var 2) .nil)) (.bi .sum (.cons (.var 7) .nil))) (.one (.cmp .ne (.call i_gain (.cons (.var 1) (.cons (.var 2) (.cons (.var 7) (.cons (.bi .tuple (.cons c__law_is_told_2 .nil)) .nil))))) (.var 12)))) (.cons (.ret (.bl false)) .nil) .nil) [e0, some (wD m rs), some (iD hs), some (iD xs), some (iD ts), e5, e6, some (iD w), some (iD (comesF hs (rs.zip xs))), some (.int (costF (rs.zip xs))), some (.bl b), some (.bl (decide (comesF hs (rs.zip xs) = w))), some (.int (gainF hs w ts)), some (.int (stepsF ts (rs.zip xs))), e14, e15, e16, e17, e18] B
      = .ok (.nx, [e0, some (wD m rs), some (iD hs), some (iD xs), some (iD ts), e5, e6, some (iD w), some (iD (comesF hs (rs.zip xs))), some (.int (costF (rs.zip xs))), some (.bl b), some (.bl (decide (comesF hs (rs.zip xs) = w))), some (.int (gainF hs w ts)), some (.int (stepsF ts (rs.zip xs))), e14, e15, e16, e17, e18]) B := by
    simp only [evS_iff, ev_and, ev_cmp, ev_bi, evs_cons, evs_nil, ev_var, List.getElem?_cons_succ, List.getElem?_cons_zero, bnd_ok, sum_iD, ofO_some, cmpO_eq, Option.map_some, truO_bl, ev_one, ev_call, c2, tup, gs]
    by_cases h : hs.sum = w.sum
    · have e1 : (hs.sum == w.sum) = true := by rw [h]; simp
      have e2 : gainF hs w (ts.map (· + 100000000000000000000)) = gainF hs w ts := by
        rw [gain_shift _ (by have := T.hts.len; omega) (by have := T.hts.len; have := hw.len; omega), h]; simp
      simp [e1, e2]
    · have e1 : (hs.sum == w.sum) = false := by simp [h]
      simp [e1]
  refine s3 (fun r => bnd r _ = _) ?_
  rw [bnd_ok]
  dsimp only
  rw [evSs_cons, s4]
  simp only [bnd_ok, nextS_nx, evSs_nil]
theorem told_heaps {m : Nat} {d : List Int} (hl : d.length = m) (h : badL d = []) : HeapsOk m d := let ⟨a, b⟩ := bad_none hl h; ⟨a, b⟩
theorem l__law_is_told_0_ok (n : Nat) (pre E : AH) (q : Int × Int × Int) (m : Nat) (rs : List Road) (hs xs ts : List Int) (b : Bool) (e5 : Option D) (T : Told m rs hs xs ts) : ∃ env' q', evS (callF Ps (n + 9)) l__law_is_told_0
      [some (.ref pre.length), some (wD m rs), some (iD hs), some (iD xs), some (iD ts), e5, some (.bl (decide (badL (comesF hs (rs.zip xs)) = []))), none, some (iD (comesF hs (rs.zip xs))), some (.int (costF (rs.zip xs))), some (.bl b), none, none, none, none, none, none, none, none] (St1 pre q E) = .ok (.nx, env') (St1 pre q' E) := by
  obtain ⟨zs, q', z1, z2⟩ := heaps_ok (n + 6) pre E q m T.web.hi
  have dl : (comesF hs (rs.zip xs)).length = m := by rw [comesF_len]; exact T.have_.len
  have key : ∃ env' A', evS (callF Ps (n + 9)) l__law_is_told_0
      [some (.ref pre.length), some (wD m rs), some (iD hs), some (iD xs), some (iD ts), e5, some (.bl (decide (badL (comesF hs (rs.zip xs)) = []))), none, some (iD (comesF hs (rs.zip xs))), some (.int (costF (rs.zip xs))), some (.bl b), none, none, none, none, none, none, none, none] (St1 pre q E) = .ok (.nx, env') A' ∧
      ∃ e7 e11 e12 e13, env' = [some (.ref pre.length), some (wD m rs), some (iD hs), some (iD xs), some (iD ts), e5, some (.bl (decide (badL (comesF hs (rs.zip xs)) = []))), e7, some (iD (comesF hs (rs.zip xs))), some (.int (costF (rs.zip xs))), some (.bl b), e11, e12, e13, none, none, none, none, none] ∧ A' = St1 pre q' E := by
    rw [l__law_is_told_0]
    refine for_inv (f := iD) (xs := (if badL (comesF hs (rs.zip xs)) = [] then [comesF hs (rs.zip xs)] else []) ++ [hs, zs])
      (Pv := fun _ env B => ∃ e7 e11 e12 e13, env = [some (.ref pre.length), some (wD m rs), some (iD hs), some (iD xs), some (iD ts), e5, some (.bl (decide (badL (comesF hs (rs.zip xs)) = []))), e7, some (iD (comesF hs (rs.zip xs))), some (.int (costF (rs.zip xs))), some (.bl b), e11, e12, e13, none, none, none, none, none] ∧ B = St1 pre q' E)
      (A1 := St1 pre q' E) ?_ ⟨none, none, none, none, rfl, rfl⟩ ?_
    · by_cases h : badL (comesF hs (rs.zip xs)) = []
      · have a := add_lst (A := St1 pre q' E) (xs := [iD (comesF hs (rs.zip xs))]) [iD hs, iD zs] (by simp)
        simp [h, web_0, z2, a]
      · have a := add_lst (A := St1 pre q' E) (xs := []) [iD hs, iD zs] (by simp)
        simp [h, web_0, z2, a]
    rintro done w env B hm ⟨e7, e11, e12, e13, rfl, rfl⟩
    have hw : HeapsOk m w := by
      rcases List.mem_append.mp hm with h | h
      · by_cases hb : badL (comesF hs (rs.zip xs)) = []
        · rw [if_pos hb] at h
          simp at h; subst h
          exact told_heaps dl hb
        · rw [if_neg hb] at h; cases h
      · simp at h
        rcases h with rfl | rfl
        · exact T.have_
        · exact z1
    obtain ⟨f11, f12, f13, h⟩ := want_ok n (St1 pre q' E) m rs hs xs ts w b (some (.ref pre.length)) e5 (some (.bl (decide (badL (comesF hs (rs.zip xs)) = [])))) e11 e12 e13 none none none none none T hw
    exact ⟨_, _, .nx, _, _, rfl, h, .inl rfl, ⟨_, _, _, _, rfl, rfl⟩⟩
  obtain ⟨env', A', k1, _, _, _, _, _, k3⟩ := key
  exact ⟨env', q', by rw [k1, k3]⟩
theorem is_told_ok (n : Nat) (pre E : AH) (p : Int × Int × Int) (m : Nat) (rs : List Road) (hs xs ts : List Int) (T : Told m rs hs xs ts) : ∃ q, callF Ps (n + 10) i__law_is_told [.ref pre.length, wD m rs, iD hs, iD xs, iD ts] (St1 pre p E) = .ok (.bl true) (St1 pre q E) := by
  obtain ⟨r, q1, r1, r2, r3⟩ := draw_ok (n + 8) pre E p 2 (by omega)
  have lc := law_comes_ok (n + 8) (St1 pre p E) m rs hs xs T.web T.have_.len
  have lk := law_cost_ok (n + 8) (St1 pre p E) m rs xs T.web
  have cm := comes_ok (n + 1) (St1 pre q1 E) m rs hs xs T.web T.have_ T.len
  have ck := load_cost_ok (n + 1) (St1 pre q1 E) m rs xs T.web T.len
  have sm := same_lst (n + 8) (St1 pre q1 E) [iD (comesF hs (rs.zip xs)), .int (costF (rs.zip xs))] (eq_self (by
    intro x hx
    simp at hx
    rcases hx with rfl | rfl
    · exact .inl ⟨_, rfl⟩
    · exact .inr (.inl ⟨_, rfl⟩)))
  have dl : (comesF hs (rs.zip xs)).length = m := by rw [comesF_len]; exact T.have_.len
  obtain ⟨env', q2, lp⟩ := l__law_is_told_0_ok n pre E q1 m rs hs xs ts (r == 0) (some (.lst [iD (comesF hs (rs.zip xs)), .int (costF (rs.zip xs))])) T
  have c0 := c__law_is_told_0_ok (callF Ps (n + 9)) (St1 pre q1 E) (comesF hs (rs.zip xs)) (some (.ref pre.length)) (some (wD m rs)) (some (iD hs)) (some (iD xs)) (some (iD ts)) (some (.lst [iD (comesF hs (rs.zip xs)), .int (costF (rs.zip xs))])) none none (some (.int (costF (rs.zip xs)))) (some (.bl (r == 0))) none none none none none none none none (by have := T.web.hi; omega)
  have ce := eq_lstI (St1 pre q1 E) (badL (comesF hs (rs.zip xs))) []
  refine ⟨q2, ?_⟩
  rw [rn__law_is_told, b__law_is_told]
  have s5 : ∀ e5 e6 e7, evs (callF Ps (n + 9)) (.cons (.ite (.var 10) (.callK i_comes .nil (.cons (.var 3) (.cons (.var 2) (.cons (.var 1) .nil))) [2, 1, 0]) (.call i_comes (.cons (.var 1) (.cons (.var 2) (.cons (.var 3) .nil))))) (.cons (.ite (.var 10) (.callK i_load_cost .nil (.cons (.var 3) (.cons (.var 1) .nil)) [1, 0]) (.call i_load_cost (.cons (.var 1) (.cons (.var 3) .nil)))) .nil))
      [some (.ref pre.length), some (wD m rs), some (iD hs), some (iD xs), some (iD ts), e5, e6, e7, some (iD (comesF hs (rs.zip xs))), some (.int (costF (rs.zip xs))), some (.bl (r == 0)), none, none, none, none, none, none, none, none] (St1 pre q1 E) = .ok [iD (comesF hs (rs.zip xs)), .int (costF (rs.zip xs))] (St1 pre q1 E) := by
    intro e5 e6 e7
    cases (r == 0) <;> simp [placed_3, placed_2, cm, ck]
  simp only [evSs_cons, evS_par, evs_cons, evs_nil, ev_call, ev_var, ev_int, ev_cmp, List.getElem?_cons_succ, List.getElem?_cons_zero, bnd_ok, lc, lk, r3, cmpO_eq, Option.map_some, ofO_some, List.length_cons, List.length_nil, if_true, setPar_cons, setPar_nil, List.set_cons_succ, List.set_cons_zero, nextS_nx]
  rw [evS_asg, ev_lst, s5]
  simp only [bnd_ok, asg_nm, List.set_cons_succ, List.set_cons_zero, nextS_nx, evSs_cons, evS_iff, ev_not, ev_call, ev_lst, evs_cons, evs_nil, ev_var, List.getElem?_cons_succ, List.getElem?_cons_zero, sm, tst_ok, truO_bl, ofO_some, Bool.not_true, Bool.false_eq_true, if_false, evSs_nil, evS_asg, ev_cmp, c0]
  simp only [List.map_nil] at ce
  simp only [ce, Option.map_some, ofO_some, bnd_ok, asg_nm, List.set_cons_succ, List.set_cons_zero, nextS_nx, evSs_cons, lp, evS_ret, ev_bl, nextS_rt, fnEnd_rt]
  exact fin_blP true
end K11

set_option maxRecDepth 100000
namespace K11
open PySem (Str)
open Ev
theorem c__law_right_0_ok (n : Nat) (pre E : AH) (q : Int × Int × Int) (m : Nat) (rs : List Road) (e1 e2 e4 e5 e6 e7 e8 e9 e10 e11 : Option D) (hw : WebOk m rs) : ∃ (xs : List Int) (q' : Int × Int × Int), (xs.length = rs.length ∧ ∀ x ∈ xs, -200 ≤ x ∧ x ≤ 200) ∧
    ev (callF Ps (n + 1)) c__law_right_0 [some (.ref pre.length), e1, e2, some (wD m rs), e4, e5, e6, e7, e8, e9, e10, e11] (St1 pre q E) = .ok (.lst (xs.map D.int)) (St1 pre q' E) := by
  obtain ⟨ys, A', h1, ⟨q', h2⟩, h3, h4⟩ := cmp_st (cl := callF Ps (n + 1)) (env := [some (.ref pre.length), e1, e2, some (wD m rs), e4, e5, e6, e7, e8, e9, e10, e11]) (A := St1 pre q E) (own := [10]) (tg := .nm 10) (it := .seq (.idx (.var 3) (.int 1))) (cs := .nil)
    (e := .bin .sub (.call i__law_draw (.cons (.var 0) (.cons (.int 3) .nil))) (.int 1))
    (f := rD) (g := D.int) (Inv := fun A => ∃ q, A = St1 pre q E) (Q := fun _ y => -200 ≤ y ∧ y ≤ 200) (xs := rs) (A1 := St1 pre q E) (by simp [wD]) (by have := hw.len; omega) ⟨q, rfl⟩ (by
      rintro k hk A ⟨q1, rfl⟩
      obtain ⟨r, q2, r1, r2, r3⟩ := draw_ok n pre E q1 3 (by omega)
      exact ⟨_, _, _, St1 pre q2 E, r - 1, rfl, rfl, by simp [r3], ⟨q2, rfl⟩, by omega⟩)
  subst h2
  refine ⟨ys, q', ⟨h3, fun h hh => ?_⟩, h1⟩
  obtain ⟨i, hi⟩ := List.mem_iff_getElem?.mp hh
  have hl : i < ys.length := (List.getElem?_eq_some_iff.mp hi).1
  rw [h3] at hl
  exact h4 i rs[i] h (List.getElem?_eq_getElem hl) hi
theorem c__law_right_1_ok (cl : Cl) (A : AH) (hs : List Int) (e0 e1 e2 e3 e4 e5 e6 e7 e9 e10 e11 : Option D) (h : hs.length ≤ 1000) :
    ev cl c__law_right_1 [e0, e1, e2, e3, e4, e5, e6, e7, some (iD hs), e9, e10, e11] A = .ok (.lst ((hs.map fun x => if 9 + x < 90 then 9 + x else 90).map D.int)) A := by
  rw [c__law_right_1, List.map_map]
  exact cmp_map (f := D.int) (by simp [iD]) (by omega) fun x hx => ⟨_, rfl, rfl, by simp⟩
theorem more_heaps {m : Nat} {hs : List Int} (h : HeapsOk m hs) : HeapsOk m (hs.map fun x => if 9 + x < 90 then 9 + x else 90) := by
  refine ⟨by simp [h.len], fun y hy => ?_⟩
  obtain ⟨x, hx, rfl⟩ := List.mem_map.mp hy
  have := h.all x hx
  split <;> omega
theorem tupI (A : AH) (ns : List Int) : biO A .tuple [.lst (ns.map D.int)] = some (iD ns) := by simp [iD]
theorem l__law_right_0_ok (n : Nat) (pre E : AH) (q : Int × Int × Int) (m : Nat) (rs : List Road) (e2 e4 e8 e9 : Option D) (hw : WebOk m rs) : ∃ e4' e8' e9' q', evS (callF Ps (n + 10)) l__law_right_0 [some (.ref pre.length), some (.int m), e2, some (wD m rs), e4, none, none, none, e8, e9, none, none] (St1 pre q E) =
    .ok (.nx, [some (.ref pre.length), some (.int m), e2, some (wD m rs), e4', none, none, none, e8', e9', none, none]) (St1 pre q' E) := by
  have key : ∃ env' A', evS (callF Ps (n + 10)) l__law_right_0 [some (.ref pre.length), some (.int m), e2, some (wD m rs), e4, none, none, none, e8, e9, none, none] (St1 pre q E) = .ok (.nx, env') A' ∧
      ∃ e4' e8' e9' q', env' = [some (.ref pre.length), some (.int m), e2, some (wD m rs), e4', none, none, none, e8', e9', none, none] ∧ A' = St1 pre q' E := by
    rw [l__law_right_0]
    refine for_rng (n := 4) (f := fun j : Nat => .int j) (Pv := fun _ env B => ∃ e4' e8' e9' q', env = [some (.ref pre.length), some (.int m), e2, some (wD m rs), e4', none, none, none, e8', e9', none, none] ∧ B = St1 pre q' E) (A1 := St1 pre q E) ?_ ⟨e4, e8, e9, q, rfl, rfl⟩ ?_
    · refine evi_r1 (n := 4) (A1 := St1 pre q E) ?_ (by omega)
      simp
    rintro i env B hi ⟨e4', e8', e9', q1, rfl, rfl⟩
    obtain ⟨hs, q2, a1, a2⟩ := heaps_ok (n + 7) pre E q1 m hw.hi
    obtain ⟨xs, q3, b1, b2⟩ := loads_ok (n + 7) pre E q2 m rs hw
    by_cases h1 : 1 < i
    · obtain ⟨ys, q4, c1, c2⟩ := c__law_right_0_ok (n + 9) pre E q3 m rs (some (.int m)) e2 (some (.int i)) none none none (some (iD hs)) (some (iD xs)) none none hw
      have d2 := fun e9 => c__law_right_1_ok (callF Ps (n + 10)) (St1 pre q4 E) hs (some (.ref pre.length)) (some (.int m)) e2 (some (wD m rs)) (some (.int i)) none none none e9 none none (by have := a1.len; have := hw.hi; omega)
      obtain ⟨ts, q5, t1, t2⟩ := heights_ok (n + 7) pre E q4 m rs hw
      obtain ⟨q6, f1⟩ := is_told_ok n pre E q5 m rs (hs.map fun x => if 9 + x < 90 then 9 + x else 90) ys ts ⟨hw, more_heaps a1, c1.1, c1.2, t1⟩
      have h1' : (1 : Int) < i := by omega
      have g : decide ((1 : Int) < i) = true := decide_eq_true h1'
      refine ⟨_, _, .nx, [some (.ref pre.length), some (.int m), e2, some (wD m rs), some (.int i), none, none, none, some (iD (hs.map fun x => if 9 + x < 90 then 9 + x else 90)), some (iD ys), none, none], St1 pre q6 E, rfl, ?_, .inl rfl, ⟨_, _, _, q6, rfl, rfl⟩⟩
      simp only [evSs_cons, evSs_nil, evS_par, evS_iff, evS_asg, ev_cmp, ev_not, ev_bi, ev_call, ev_var, ev_int, evs_cons, evs_nil, List.set_cons_succ, List.set_cons_zero, List.getElem?_cons_succ, List.getElem?_cons_zero, bnd_ok, a2, b2, List.length_cons, List.length_nil, if_true, setPar_cons, setPar_nil, nextS_nx, cmpO_gt, g, Option.map_some, ofO_some, tst_ok, truO_bl, c2, d2, tupI, asg_nm, t2, f1, Bool.not_true, Bool.false_eq_true, if_false]
    · obtain ⟨ts, q5, t1, t2⟩ := heights_ok (n + 7) pre E q3 m rs hw
      obtain ⟨q6, f1⟩ := is_told_ok n pre E q5 m rs hs xs ts ⟨hw, a1, b1.1, b1.2, t1⟩
      have g : decide ((1 : Int) < i) = false := decide_eq_false (by omega)
      refine ⟨_, _, .nx, [some (.ref pre.length), some (.int m), e2, some (wD m rs), some (.int i), none, none, none, some (iD hs), some (iD xs), none, none], St1 pre q6 E, rfl, ?_, .inl rfl, ⟨_, _, _, q6, rfl, rfl⟩⟩
      simp only [evSs_cons, evSs_nil, evS_par, evS_iff, evS_asg, ev_cmp, ev_not, ev_bi, ev_call, ev_var, ev_int, evs_cons, evs_nil, List.set_cons_succ, List.set_cons_zero, List.getElem?_cons_succ, List.getElem?_cons_zero, bnd_ok, a2, b2, List.length_cons, List.length_nil, if_true, setPar_cons, setPar_nil, nextS_nx, cmpO_gt, g, Option.map_some, ofO_some, tst_ok, truO_bl, t2, f1, Bool.not_true, Bool.false_eq_true, if_false]
  obtain ⟨env', A', k1, e4', e8', e9', q', k2, k3⟩ := key
  exact ⟨e4', e8', e9', q', by rw [k1, k2, k3]⟩
theorem l__law_right_1_ok (n : Nat) (pre E : AH) (q : Int × Int × Int) : ∃ e1 e3 e4 e8 e9 q', evS (callF Ps (n + 10)) l__law_right_1 [some (.ref pre.length), none, none, none, none, none, none, none, none, none, none, none] (St1 pre q E) =
    .ok (.nx, [some (.ref pre.length), e1, none, e3, e4, none, none, none, e8, e9, none, none]) (St1 pre q' E) := by
  have key : ∃ env' A', evS (callF Ps (n + 10)) l__law_right_1 [some (.ref pre.length), none, none, none, none, none, none, none, none, none, none, none] (St1 pre q E) = .ok (.nx, env') A' ∧
      ∃ e1 e3 e4 e8 e9 q', env' = [some (.ref pre.length), e1, none, e3, e4, none, none, none, e8, e9, none, none] ∧ A' = St1 pre q' E := by
    rw [l__law_right_1]
    refine for_inv (f := fun j : Nat => .int j) (xs := [1, 2, 3, 4, 6, 9]) (Pv := fun _ env B => ∃ e1 e3 e4 e8 e9 q', env = [some (.ref pre.length), e1, none, e3, e4, none, none, none, e8, e9, none, none] ∧ B = St1 pre q' E) (A1 := St1 pre q E) ?_ ⟨none, none, none, none, none, q, rfl, rfl⟩ ?_
    · simp
    rintro done m env B hm ⟨e1, e3, e4, e8, e9, q1, rfl, rfl⟩
    have hm' : 1 ≤ m ∧ m ≤ 9 := by simp at hm; omega
    obtain ⟨rs, q2, w1, w2⟩ := web_ok (n + 7) pre E q1 m hm'
    obtain ⟨e4', e8', e9', q3, h⟩ := l__law_right_0_ok n pre E q2 m rs none e4 e8 e9 w1
    refine ⟨_, _, .nx, [some (.ref pre.length), some (.int m), none, some (wD m rs), e4', none, none, none, e8', e9', none, none], St1 pre q3 E, rfl, ?_, .inl rfl, ⟨_, _, _, _, _, q3, rfl, rfl⟩⟩
    simp only [evSs_cons, evSs_nil, evS_asg, ev_call, ev_var, evs_cons, evs_nil, List.set_cons_succ, List.set_cons_zero, List.getElem?_cons_succ, List.getElem?_cons_zero, bnd_ok, w2, asg_nm, nextS_nx, h]
  obtain ⟨env', A', k1, e1, e3, e4, e8, e9, q', k2, k3⟩ := key
  exact ⟨e1, e3, e4, e8, e9, q', by rw [k1, k2, k3]⟩
theorem row_web : WebOk 3 [(0, 1, 2), (1, 2, 3)] := ⟨by decide, by decide, by decide, by decide, by simp⟩
theorem right_ok (n : Nat) (pre E : AH) (p : Int × Int × Int) : ∃ q, callF Ps (n + 11) i__law_right [.ref pre.length] (St1 pre p E) = .ok (.bl true) (St1 pre q E) := by
  obtain ⟨e1, e3, e4, e8, e9, q, hl⟩ := l__law_right_1_ok n pre E p
  refine ⟨q, ?_⟩
  rw [rn__law_right, b__law_right]
  have c1 := comes_ok (n + 2) (St1 pre q E) 3 [(0, 1, 2), (1, 2, 3)] [2, 0, 1] [2, 0] row_web ⟨rfl, by decide⟩ rfl
  have c2 := does_lead_ok (n + 1) (St1 pre q E) 3 [(0, 1, 2), (1, 2, 3)] [2, 0, 1] [0, 2, 1] [2, 0] row_web ⟨rfl, by decide⟩ ⟨rfl, by decide⟩ rfl
  have c3 := load_cost_ok (n + 2) (St1 pre q E) 3 [(0, 1, 2), (1, 2, 3)] [2, -1] row_web rfl
  have c4 := gain_ok (n + 1) (St1 pre q E) 3 [(0, 1, 2), (1, 2, 3)] [2, 0, 1] [0, 2, 1] [2, 0, 0] row_web ⟨rfl, by decide⟩ ⟨rfl, by decide⟩ ⟨rfl, by decide⟩
  have c5 := comes_ok (n + 2) (St1 pre q E) 3 [(0, 1, 2), (1, 2, 3)] [2, 0, 1] [5, 0] row_web ⟨rfl, by decide⟩ rfl
  have v1 : comesF [2, 0, 1] (List.zip [((0, 1, 2) : Road), (1, 2, 3)] [2, 0]) = [0, 2, 1] := by decide
  have v3 : costF (List.zip [((0, 1, 2) : Road), (1, 2, 3)] [2, -1]) = 7 := by decide
  have v4 : gainF [2, 0, 1] [0, 2, 1] [2, 0, 0] = 4 := by decide
  have v5 : comesF [2, 0, 1] (List.zip [((0, 1, 2) : Road), (1, 2, 3)] [5, 0]) = [-3, 5, 1] := by decide
  rw [v1] at c1 c2
  rw [v3] at c3
  rw [v4] at c4
  rw [v5] at c5
  have sm := same_lst (n + 9) (St1 pre q E) [iD [0, 2, 1], .bl true, .int 7, .int 4, iD [-3, 5, 1]] (eq_self (by
    intro x hx
    simp only [List.mem_cons, List.not_mem_nil, or_false] at hx
    rcases hx with rfl | rfl | rfl | rfl | rfl
    · exact .inl ⟨_, rfl⟩
    · exact .inr (.inr ⟨_, rfl⟩)
    · exact .inr (.inl ⟨_, rfl⟩)
    · exact .inr (.inl ⟨_, rfl⟩)
    · exact .inl ⟨_, rfl⟩))
  simp only [wD, iD, rD, List.map_cons, List.map_nil, decide_true] at c1 c2 c3 c4 c5 sm
  rw [evSs_cons, hl]
  simp only [evSs_cons, evS_asg, evS_ret, ev_tup, ev_lst, ev_call, ev_var, ev_int, ev_neg, ev_bl, evs_cons, evs_nil, List.set_cons_succ, List.set_cons_zero, List.getElem?_cons_succ, List.getElem?_cons_zero, bnd_ok, asg_tup, tupO_tup, ofO_some, asgs_cons, asgs_nil, asg_nm, nextS_nx]
  have k0 : ((0 : Nat) : Int) = 0 := rfl
  have k1 : ((1 : Nat) : Int) = 1 := rfl
  have k2 : ((2 : Nat) : Int) = 2 := rfl
  have k3 : ((3 : Nat) : Int) = 3 := rfl
  simp only [k0, k1, k2, k3] at c1 c2 c3 c4 c5
  simp only [c1, c2, c3, c4, c5, bnd_ok, nextS_nx, asg_nm, List.set_cons_succ, List.set_cons_zero, evSs_cons, evS_ret, ev_tup, ev_lst, ev_call, ev_var, ev_int, ev_neg, ev_bl, evs_cons, evs_nil, List.getElem?_cons_succ, List.getElem?_cons_zero, sm, nextS_rt, fnEnd_rt]
  exact fin_blP true
theorem l_law_0_ok (n : Nat) (A : AH) (ns : List Int) (h : ns.length ≤ 63) : ∃ env' A', evS (callF Ps (n + 11)) l_law_0 [some (.kl (ns.map D.int)), none] A = .ok (.nx, env') A' := by
  have key : ∃ env' A', evS (callF Ps (n + 11)) l_law_0 [some (.kl (ns.map D.int)), none] A = .ok (.nx, env') A' ∧ ∃ e1, env' = [some (.kl (ns.map D.int)), e1] := by
    rw [l_law_0]
    refine for_rng (n := max 2 (min ns.length 3)) (f := fun j : Nat => .int j) (Pv := fun _ env _ => ∃ e1, env = [some (.kl (ns.map D.int)), e1]) (A1 := A) ?_ ⟨none, rfl⟩ ?_
    · refine evi_r1 (n := max 2 (min ns.length 3)) (A1 := A) ?_ (by omega)
      simp only [ev_bi, evs_cons, evs_nil, ev_int, ev_var, List.getElem?_cons_zero, bnd_ok, bi_len, lenO_kl, List.length_map, Option.map_some, ofO_some, bi_min2, bi_max2]
      congr 2
      split <;> split <;> omega
    rintro i env B hi ⟨e1, rfl⟩
    obtain ⟨p, h1⟩ := pool_ok (n + 10) B ns i h
    obtain ⟨q, h2⟩ := right_ok n B [] p
    refine ⟨_, _, .nx, [some (.kl (ns.map D.int)), some (.int i)], St1 B q [], rfl, ?_, .inl rfl, ⟨_, rfl⟩⟩
    simp only [evSs_cons, evSs_nil, evS_iff, ev_not, ev_call, ev_var, evs_cons, evs_nil, List.set_cons_succ, List.set_cons_zero, List.getElem?_cons_succ, List.getElem?_cons_zero, bnd_ok, h1, h2, tst_ok, truO_bl, ofO_some, Bool.not_true, Bool.false_eq_true, if_false, nextS_nx]
  obtain ⟨env', A', k1, _⟩ := key
  exact ⟨env', A', k1⟩
theorem law_true : ∀ ns : List Int, ns.length ≤ 63 → callF Ps 40 41 [.kl (ns.map D.int)] [] = .ok (.bl true) [] := by
  intro ns h
  obtain ⟨env', A', hl⟩ := l_law_0_ok 28 [] ns h
  have e := rn_law 39 (.kl (ns.map D.int)) []
  rw [b_law] at e
  refine e.trans ?_
  simp only [evSs_cons, hl, bnd_ok, nextS_nx, evS_ret, ev_bl, nextS_rt, fnEnd_rt]
  exact fin_pu (A := []) (E := A') rfl
end K11

set_option maxRecDepth 100000
namespace K11
open PySem Ev
theorem bd_is_whole (j : Nat) : BindP j d_is_whole := fun _ _ _ _ _ _ us hl => match us, hl with | [_], _ => rfl
theorem bd_is_between (j : Nat) : BindP j d_is_between := fun _ _ _ _ _ _ us hl => match us, hl with | [_, _, _], _ => rfl
theorem bd_is_tuple_of (j : Nat) : BindP j d_is_tuple_of := fun _ _ _ _ _ _ us hl => match us, hl with | [_, _], _ => rfl
theorem bd_is_length (j : Nat) : BindP j d_is_length := fun _ _ _ _ _ _ us hl => match us, hl with | [_], _ => rfl
theorem bd_is_road (j : Nat) : BindP j d_is_road := fun _ _ _ _ _ _ us hl => match us, hl with | [_, _], _ => rfl
theorem bd_are_roads (j : Nat) : BindP j d_are_roads := fun _ _ _ _ _ _ us hl => match us, hl with | [_, _], _ => rfl
theorem bd_is_web_by (j : Nat) : BindP j d_is_web_by := fun _ _ _ _ _ _ us hl => match us, hl with | [_], _ => rfl
theorem bd_is_heap (j : Nat) : BindP j d_is_heap := fun _ _ _ _ _ _ us hl => match us, hl with | [_], _ => rfl
theorem bd_are_heaps_by (j : Nat) : BindP j d_are_heaps_by := fun _ _ _ _ _ _ us hl => match us, hl with | [_, _], _ => rfl
theorem bd_excess_by (j : Nat) : BindP j d_excess_by := fun _ _ _ _ _ _ us hl => match us, hl with | [_, _], _ => rfl
theorem bd_are_loads_by (j : Nat) : BindP j d_are_loads_by := fun _ _ _ _ _ _ us hl => match us, hl with | [_, _], _ => rfl
theorem bd_are_numbers (j : Nat) : BindP j d_are_numbers := fun _ _ _ _ _ _ us hl => match us, hl with | [_, _], _ => rfl
theorem bd_are_heights_by (j : Nat) : BindP j d_are_heights_by := fun _ _ _ _ _ _ us hl => match us, hl with | [_, _], _ => rfl
theorem bd_comes_by (j : Nat) : BindP j d_comes_by := fun _ _ _ _ _ _ us hl => match us, hl with | [_, _, _], _ => rfl
theorem bd_does_lead_by (j : Nat) : BindP j d_does_lead_by := fun _ _ _ _ _ _ us hl => match us, hl with | [_, _, _, _], _ => rfl
theorem bd_load_cost_by (j : Nat) : BindP j d_load_cost_by := fun _ _ _ _ _ _ us hl => match us, hl with | [_, _], _ => rfl
theorem bd_gain_by (j : Nat) : BindP j d_gain_by := fun _ _ _ _ _ _ us hl => match us, hl with | [_, _, _], _ => rfl
theorem bd_check_web (j : Nat) : BindP j d_check_web := fun _ _ _ _ _ _ us hl => match us, hl with | [_], _ => rfl
theorem bd_check_heaps (j : Nat) : BindP j d_check_heaps := fun _ _ _ _ _ _ us hl => match us, hl with | [_, _], _ => rfl
theorem bd_check_both (j : Nat) : BindP j d_check_both := fun _ _ _ _ _ _ us hl => match us, hl with | [_, _, _], _ => rfl
theorem bd_check_loads (j : Nat) : BindP j d_check_loads := fun _ _ _ _ _ _ us hl => match us, hl with | [_, _], _ => rfl
theorem bd_check_heights (j : Nat) : BindP j d_check_heights := fun _ _ _ _ _ _ us hl => match us, hl with | [_, _], _ => rfl
theorem bd_comes (j : Nat) : BindP j d_comes := fun _ _ _ _ _ _ us hl => match us, hl with | [_, _, _], _ => rfl
theorem bd_does_lead (j : Nat) : BindP j d_does_lead := fun _ _ _ _ _ _ us hl => match us, hl with | [_, _, _, _], _ => rfl
theorem bd_load_cost (j : Nat) : BindP j d_load_cost := fun _ _ _ _ _ _ us hl => match us, hl with | [_, _], _ => rfl
theorem bd_gain (j : Nat) : BindP j d_gain := fun _ _ _ _ _ _ us hl => match us, hl with | [_, _, _, _], _ => rfl
theorem bd__law_pool (j : Nat) : BindP j d__law_pool := fun _ _ _ _ _ _ us hl => match us, hl with | [_, _], _ => rfl
theorem bd__law_draw (j : Nat) : BindP j d__law_draw := fun _ _ _ _ _ _ us hl => match us, hl with | [_, _], _ => rfl
theorem bd__law_pick (j : Nat) : BindP j d__law_pick := fun _ _ _ _ _ _ us hl => match us, hl with | [_, _], _ => rfl
theorem bd__law_same (j : Nat) : BindP j d__law_same := fun _ _ _ _ _ _ us hl => match us, hl with | [_, _], _ => rfl
theorem bd__law_tells (j : Nat) : BindP j d__law_tells := fun _ _ _ _ _ _ us hl => match us, hl with | [_, _], _ => rfl
theorem bd__law_web (j : Nat) : BindP j d__law_web := fun _ _ _ _ _ _ us hl => match us, hl with | [_, _], _ => rfl
theorem bd__law_distances (j : Nat) : BindP j d__law_distances := fun _ _ _ _ _ _ us hl => match us, hl with | [_], _ => rfl
theorem bd__law_heaps (j : Nat) : BindP j d__law_heaps := fun _ _ _ _ _ _ us hl => match us, hl with | [_, _], _ => rfl
theorem bd__law_comes (j : Nat) : BindP j d__law_comes := fun _ _ _ _ _ _ us hl => match us, hl with | [_, _, _], _ => rfl
theorem bd__law_cost (j : Nat) : BindP j d__law_cost := fun _ _ _ _ _ _ us hl => match us, hl with | [_, _], _ => rfl
theorem bd__law_gain (j : Nat) : BindP j d__law_gain := fun _ _ _ _ _ _ us hl => match us, hl with | [_, _, _], _ => rfl
theorem bd__law_loads (j : Nat) : BindP j d__law_loads := fun _ _ _ _ _ _ us hl => match us, hl with | [_, _], _ => rfl
theorem bd__law_heights (j : Nat) : BindP j d__law_heights := fun _ _ _ _ _ _ us hl => match us, hl with | [_, _], _ => rfl
theorem bd__law_is_told (j : Nat) : BindP j d__law_is_told := fun _ _ _ _ _ _ us hl => match us, hl with | [_, _, _, _, _], _ => rfl
theorem bd__law_right (j : Nat) : BindP j d__law_right := fun _ _ _ _ _ _ us hl => match us, hl with | [_], _ => rfl
theorem bd_law (j : Nat) : BindP j d_law := fun _ _ _ _ _ _ us hl => match us, hl with | [_], _ => rfl
theorem hB : AllI BindP 0 Ds := ⟨bd_is_whole _, bd_is_between _, bd_is_tuple_of _, bd_is_length _, bd_is_road _, bd_are_roads _, bd_is_web_by _, bd_is_heap _, bd_are_heaps_by _, bd_excess_by _, bd_are_loads_by _, bd_are_numbers _, bd_are_heights_by _, bd_comes_by _, bd_does_lead_by _, bd_load_cost_by _, bd_gain_by _, bd_check_web _, bd_check_heaps _, bd_check_both _, bd_check_loads _, bd_check_heights _, bd_comes _, bd_does_lead _, bd_load_cost _, bd_gain _, bd__law_pool _, bd__law_draw _, bd__law_pick _, bd__law_same _, bd__law_tells _, bd__law_web _, bd__law_distances _, bd__law_heaps _, bd__law_comes _, bd__law_cost _, bd__law_gain _, bd__law_loads _, bd__law_heights _, bd__law_is_told _, bd__law_right _, bd_law _, trivial⟩
theorem kw_0 : KwP Ds (tK.getD 0 (0, 0, [], [])) := fun d e => by cases e; exact fun _ _ _ _ _ _ us ws h1 h2 => match us, ws, h1, h2 with | [], [_, _, _], _, _ => rfl
theorem kw_1 : KwP Ds (tK.getD 1 (0, 0, [], [])) := fun d e => by cases e; exact fun _ _ _ _ _ _ us ws h1 h2 => match us, ws, h1, h2 with | [], [_, _, _, _], _, _ => rfl
theorem kw_2 : KwP Ds (tK.getD 2 (0, 0, [], [])) := fun d e => by cases e; exact fun _ _ _ _ _ _ us ws h1 h2 => match us, ws, h1, h2 with | [], [_, _], _, _ => rfl
theorem kw_3 : KwP Ds (tK.getD 3 (0, 0, [], [])) := fun d e => by cases e; exact fun _ _ _ _ _ _ us ws h1 h2 => match us, ws, h1, h2 with | [], [_, _, _, _], _, _ => rfl
theorem hK : AllQ (KwP Ds) T.kws := ⟨kw_0, kw_1, kw_2, kw_3, trivial⟩
end K11
open PySem PySem.W PyProof.Rows
set_option maxHeartbeats 0 in
theorem PySem.Challenge.cw_heapcarries_k11_whole_loads_that_lead_an_holds : PySem.Challenge.rw_heapcarries_k11_whole_loads_that_lead_an.Holds := by
  w_on; o_law; k_head; (case hw => w_witness2)
  k_fill
  refine L2.walk_of (l := PySem.Challenge.rw_heapcarries_k11_whole_loads_that_lead_an) (n := 63) (k := 40) (x := "script") (CX := fun _ => L2.CX0) (sp := fun w => Ev.spEnd _) rfl (by decide) rfl ⟨rfl, by decide, by decide⟩ (fun w h Y => PySem.W.kIn_of Y) ?F (fun _ _ a ns hl _ hS => ⟨a, ns, rfl, hS, hl, fun _ => rfl⟩) (fun _ _ _ _ _ h => h)
  case F =>
    intro w mg fa h KX G hmg
    refine' Ev.da_then KX (d := K11.d_is_whole) (n := (Str.ofString "is_whole")) rfl ?eva0 ?evl0 ?evc0 ?evk0 ?_
    (case eva0 => k_is); (case evl0 => k_is); (case evc0 => k_is); (case evk0 => k_is)
    intro a0
    refine' Ev.da_then KX (d := K11.d_is_between) (n := (Str.ofString "is_between")) rfl ?eva1 ?evl1 ?evc1 ?evk1 ?_
    (case eva1 => k_is); (case evl1 => k_is); (case evc1 => k_is); (case evk1 => k_is)
    intro a1
    refine' Ev.da_then KX (d := K11.d_is_tuple_of) (n := (Str.ofString "is_tuple_of")) rfl ?eva2 ?evl2 ?evc2 ?evk2 ?_
    (case eva2 => k_is); (case evl2 => k_is); (case evc2 => k_is); (case evk2 => k_is)
    intro a2
    refine' Ev.da_then KX (d := K11.d_is_length) (n := (Str.ofString "is_length")) rfl ?eva3 ?evl3 ?evc3 ?evk3 ?_
    (case eva3 => k_is); (case evl3 => k_is); (case evc3 => k_is); (case evk3 => k_is)
    intro a3
    refine' Ev.da_then KX (d := K11.d_is_road) (n := (Str.ofString "is_road")) rfl ?eva4 ?evl4 ?evc4 ?evk4 ?_
    (case eva4 => k_is); (case evl4 => k_is); (case evc4 => k_is); (case evk4 => k_is)
    intro a4
    refine' Ev.da_then KX (d := K11.d_are_roads) (n := (Str.ofString "are_roads")) rfl ?eva5 ?evl5 ?evc5 ?evk5 ?_
    (case eva5 => k_is); (case evl5 => k_is); (case evc5 => k_is); (case evk5 => k_is)
    intro a5
    refine' Ev.da_then KX (d := K11.d_is_web_by) (n := (Str.ofString "is_web_by")) rfl ?eva6 ?evl6 ?evc6 ?evk6 ?_
    (case eva6 => k_is); (case evl6 => k_is); (case evc6 => k_is); (case evk6 => k_is)
    intro a6
    refine' Ev.da_then KX (d := K11.d_is_heap) (n := (Str.ofString "is_heap")) rfl ?eva7 ?evl7 ?evc7 ?evk7 ?_
    (case eva7 => k_is); (case evl7 => k_is); (case evc7 => k_is); (case evk7 => k_is)
    intro a7
    refine' Ev.da_then KX (d := K11.d_are_heaps_by) (n := (Str.ofString "are_heaps_by")) rfl ?eva8 ?evl8 ?evc8 ?evk8 ?_
    (case eva8 => k_is); (case evl8 => k_is); (case evc8 => k_is); (case evk8 => k_is)
    intro a8
    refine' Ev.da_then KX (d := K11.d_excess_by) (n := (Str.ofString "excess_by")) rfl ?eva9 ?evl9 ?evc9 ?evk9 ?_
    (case eva9 => k_is); (case evl9 => k_is); (case evc9 => k_is); (case evk9 => k_is)
    intro a9
    refine' Ev.da_then KX (d := K11.d_are_loads_by) (n := (Str.ofString "are_loads_by")) rfl ?eva10 ?evl10 ?evc10 ?evk10 ?_
    (case eva10 => k_is); (case evl10 => k_is); (case evc10 => k_is); (case evk10 => k_is)
    intro a10
    refine' Ev.da_then KX (d := K11.d_are_numbers) (n := (Str.ofString "are_numbers")) rfl ?eva11 ?evl11 ?evc11 ?evk11 ?_
    (case eva11 => k_is); (case evl11 => k_is); (case evc11 => k_is); (case evk11 => k_is)
    intro a11
    refine' Ev.da_then KX (d := K11.d_are_heights_by) (n := (Str.ofString "are_heights_by")) rfl ?eva12 ?evl12 ?evc12 ?evk12 ?_
    (case eva12 => k_is); (case evl12 => k_is); (case evc12 => k_is); (case evk12 => k_is)
    intro a12
    refine' Ev.da_then KX (d := K11.d_comes_by) (n := (Str.ofString "comes_by")) rfl ?eva13 ?evl13 ?evc13 ?evk13 ?_
    (case eva13 => k_is); (case evl13 => k_is); (case evc13 => k_is); (case evk13 => k_is)
    intro a13
    refine' Ev.da_then KX (d := K11.d_does_lead_by) (n := (Str.ofString "does_lead_by")) rfl ?eva14 ?evl14 ?evc14 ?evk14 ?_
    (case eva14 => k_is); (case evl14 => k_is); (case evc14 => k_is); (case evk14 => k_is)
    intro a14
    refine' Ev.da_then KX (d := K11.d_load_cost_by) (n := (Str.ofString "load_cost_by")) rfl ?eva15 ?evl15 ?evc15 ?evk15 ?_
    (case eva15 => k_is); (case evl15 => k_is); (case evc15 => k_is); (case evk15 => k_is)
    intro a15
    refine' Ev.da_then KX (d := K11.d_gain_by) (n := (Str.ofString "gain_by")) rfl ?eva16 ?evl16 ?evc16 ?evk16 ?_
    (case eva16 => k_is); (case evl16 => k_is); (case evc16 => k_is); (case evk16 => k_is)
    intro a16
    refine' Ev.da_then KX (d := K11.d_check_web) (n := (Str.ofString "check_web")) rfl ?eva17 ?evl17 ?evc17 ?evk17 ?_
    (case eva17 => k_is); (case evl17 => k_is); (case evc17 => k_is); (case evk17 => k_is)
    intro a17
    refine' Ev.da_then KX (d := K11.d_check_heaps) (n := (Str.ofString "check_heaps")) rfl ?eva18 ?evl18 ?evc18 ?evk18 ?_
    (case eva18 => k_is); (case evl18 => k_is); (case evc18 => k_is); (case evk18 => k_is)
    intro a18
    refine' Ev.da_then KX (d := K11.d_check_both) (n := (Str.ofString "check_both")) rfl ?eva19 ?evl19 ?evc19 ?evk19 ?_
    (case eva19 => k_is); (case evl19 => k_is); (case evc19 => k_is); (case evk19 => k_is)
    intro a19
    refine' Ev.da_then KX (d := K11.d_check_loads) (n := (Str.ofString "check_loads")) rfl ?eva20 ?evl20 ?evc20 ?evk20 ?_
    (case eva20 => k_is); (case evl20 => k_is); (case evc20 => k_is); (case evk20 => k_is)
    intro a20
    refine' Ev.da_then KX (d := K11.d_check_heights) (n := (Str.ofString "check_heights")) rfl ?eva21 ?evl21 ?evc21 ?evk21 ?_
    (case eva21 => k_is); (case evl21 => k_is); (case evc21 => k_is); (case evk21 => k_is)
    intro a21
    refine' Ev.da_then KX (d := K11.d_comes) (n := (Str.ofString "comes")) rfl ?eva22 ?evl22 ?evc22 ?evk22 ?_
    (case eva22 => k_is); (case evl22 => k_is); (case evc22 => k_is); (case evk22 => k_is)
    intro a22
    refine' Ev.da_then KX (d := K11.d_does_lead) (n := (Str.ofString "does_lead")) rfl ?eva23 ?evl23 ?evc23 ?evk23 ?_
    (case eva23 => k_is); (case evl23 => k_is); (case evc23 => k_is); (case evk23 => k_is)
    intro a23
    refine' Ev.da_then KX (d := K11.d_load_cost) (n := (Str.ofString "load_cost")) rfl ?eva24 ?evl24 ?evc24 ?evk24 ?_
    (case eva24 => k_is); (case evl24 => k_is); (case evc24 => k_is); (case evk24 => k_is)
    intro a24
    refine' Ev.da_then KX (d := K11.d_gain) (n := (Str.ofString "gain")) rfl ?eva25 ?evl25 ?evc25 ?evk25 ?_
    (case eva25 => k_is); (case evl25 => k_is); (case evc25 => k_is); (case evk25 => k_is)
    intro a25
    refine' Ev.da_then KX (d := K11.d__law_pool) (n := (Str.ofString "_law_pool")) rfl ?eva26 ?evl26 ?evc26 ?evk26 ?_
    (case eva26 => k_is); (case evl26 => k_is); (case evc26 => k_is); (case evk26 => k_is)
    intro a26
    refine' Ev.da_then KX (d := K11.d__law_draw) (n := (Str.ofString "_law_draw")) rfl ?eva27 ?evl27 ?evc27 ?evk27 ?_
    (case eva27 => k_is); (case evl27 => k_is); (case evc27 => k_is); (case evk27 => k_is)
    intro a27
    refine' Ev.da_then KX (d := K11.d__law_pick) (n := (Str.ofString "_law_pick")) rfl ?eva28 ?evl28 ?evc28 ?evk28 ?_
    (case eva28 => k_is); (case evl28 => k_is); (case evc28 => k_is); (case evk28 => k_is)
    intro a28
    refine' Ev.da_then KX (d := K11.d__law_same) (n := (Str.ofString "_law_same")) rfl ?eva29 ?evl29 ?evc29 ?evk29 ?_
    (case eva29 => k_is); (case evl29 => k_is); (case evc29 => k_is); (case evk29 => k_is)
    intro a29
    refine' Ev.da_then KX (d := K11.d__law_tells) (n := (Str.ofString "_law_tells")) rfl ?eva30 ?evl30 ?evc30 ?evk30 ?_
    (case eva30 => k_is); (case evl30 => k_is); (case evc30 => k_is); (case evk30 => k_is)
    intro a30
    refine' Ev.da_then KX (d := K11.d__law_web) (n := (Str.ofString "_law_web")) rfl ?eva31 ?evl31 ?evc31 ?evk31 ?_
    (case eva31 => k_is); (case evl31 => k_is); (case evc31 => k_is); (case evk31 => k_is)
    intro a31
    refine' Ev.da_then KX (d := K11.d__law_distances) (n := (Str.ofString "_law_distances")) rfl ?eva32 ?evl32 ?evc32 ?evk32 ?_
    (case eva32 => k_is); (case evl32 => k_is); (case evc32 => k_is); (case evk32 => k_is)
    intro a32
    refine' Ev.da_then KX (d := K11.d__law_heaps) (n := (Str.ofString "_law_heaps")) rfl ?eva33 ?evl33 ?evc33 ?evk33 ?_
    (case eva33 => k_is); (case evl33 => k_is); (case evc33 => k_is); (case evk33 => k_is)
    intro a33
    refine' Ev.da_then KX (d := K11.d__law_comes) (n := (Str.ofString "_law_comes")) rfl ?eva34 ?evl34 ?evc34 ?evk34 ?_
    (case eva34 => k_is); (case evl34 => k_is); (case evc34 => k_is); (case evk34 => k_is)
    intro a34
    refine' Ev.da_then KX (d := K11.d__law_cost) (n := (Str.ofString "_law_cost")) rfl ?eva35 ?evl35 ?evc35 ?evk35 ?_
    (case eva35 => k_is); (case evl35 => k_is); (case evc35 => k_is); (case evk35 => k_is)
    intro a35
    refine' Ev.da_then KX (d := K11.d__law_gain) (n := (Str.ofString "_law_gain")) rfl ?eva36 ?evl36 ?evc36 ?evk36 ?_
    (case eva36 => k_is); (case evl36 => k_is); (case evc36 => k_is); (case evk36 => k_is)
    intro a36
    refine' Ev.da_then KX (d := K11.d__law_loads) (n := (Str.ofString "_law_loads")) rfl ?eva37 ?evl37 ?evc37 ?evk37 ?_
    (case eva37 => k_is); (case evl37 => k_is); (case evc37 => k_is); (case evk37 => k_is)
    intro a37
    refine' Ev.da_then KX (d := K11.d__law_heights) (n := (Str.ofString "_law_heights")) rfl ?eva38 ?evl38 ?evc38 ?evk38 ?_
    (case eva38 => k_is); (case evl38 => k_is); (case evc38 => k_is); (case evk38 => k_is)
    intro a38
    refine' Ev.da_then KX (d := K11.d__law_is_told) (n := (Str.ofString "_law_is_told")) rfl ?eva39 ?evl39 ?evc39 ?evk39 ?_
    (case eva39 => k_is); (case evl39 => k_is); (case evc39 => k_is); (case evk39 => k_is)
    intro a39
    refine' Ev.da_then KX (d := K11.d__law_right) (n := (Str.ofString "_law_right")) rfl ?eva40 ?evl40 ?evc40 ?evk40 ?_
    (case eva40 => k_is); (case evl40 => k_is); (case evc40 => k_is); (case evk40 => k_is)
    intro a40
    refine' Ev.da_then KX (d := K11.d_law) (n := (Str.ofString "law")) rfl ?eva41 ?evl41 ?evc41 ?evk41 ?_
    (case eva41 => k_is); (case evl41 => k_is); (case evc41 => k_is); (case evk41 => k_is)
    intro a41
    refine' Ev.gi_then KX (n := (Str.ofString "FIRST")) (i := 0) ?evg0 ?_
    (case evg0 => k_is)
    intro g0
    refine' Ev.gi_then KX (n := (Str.ofString "LENGTH")) (i := 2) ?evg1 ?_
    (case evg1 => k_is)
    intro g1
    refine' Ev.gi_then KX (n := (Str.ofString "MOST_HEAP")) (i := 99) ?evg2 ?_
    (case evg2 => k_is)
    intro g2
    refine' Ev.gi_then KX (n := (Str.ofString "MOST_LENGTH")) (i := 99) ?evg3 ?_
    (case evg3 => k_is)
    intro g3
    refine' Ev.gi_then KX (n := (Str.ofString "MOST_PLACES")) (i := 9) ?evg4 ?_
    (case evg4 => k_is)
    intro g4
    refine' Ev.gi_then KX (n := (Str.ofString "MOST_ROADS")) (i := 20) ?evg5 ?_
    (case evg5 => k_is)
    intro g5
    refine' Ev.gi_then KX (n := (Str.ofString "PLACES")) (i := 0) ?evg6 ?_
    (case evg6 => k_is)
    intro g6
    refine' Ev.gi_then KX (n := (Str.ofString "ROADS")) (i := 1) ?evg7 ?_
    (case evg7 => k_is)
    intro g7
    refine' Ev.gi_then KX (n := (Str.ofString "SECOND")) (i := 1) ?evg8 ?_
    (case evg8 => k_is)
    intro g8
    refine' Ev.bl_then KX (n := (Str.ofString "abs")) ?evz0 ?_
    (case evz0 => k_is)
    intro z0
    refine' Ev.bl_then KX (n := (Str.ofString "all")) ?evz1 ?_
    (case evz1 => k_is)
    intro z1
    refine' Ev.bl_then KX (n := (Str.ofString "bool")) ?evz2 ?_
    (case evz2 => k_is)
    intro z2
    refine' Ev.bl_then KX (n := (Str.ofString "divmod")) ?evz3 ?_
    (case evz3 => k_is)
    intro z3
    refine' Ev.bl_then KX (n := (Str.ofString "int")) ?evz4 ?_
    (case evz4 => k_is)
    intro z4
    refine' Ev.bl_then KX (n := (Str.ofString "isinstance")) ?evz5 ?_
    (case evz5 => k_is)
    intro z5
    refine' Ev.bl_then KX (n := (Str.ofString "len")) ?evz6 ?_
    (case evz6 => k_is)
    intro z6
    refine' Ev.bl_then KX (n := (Str.ofString "list")) ?evz7 ?_
    (case evz7 => k_is)
    intro z7
    refine' Ev.bl_then KX (n := (Str.ofString "max")) ?evz8 ?_
    (case evz8 => k_is)
    intro z8
    refine' Ev.bl_then KX (n := (Str.ofString "min")) ?evz9 ?_
    (case evz9 => k_is)
    intro z9
    refine' Ev.bl_then KX (n := (Str.ofString "range")) ?evz10 ?_
    (case evz10 => k_is)
    intro z10
    refine' Ev.bl_then KX (n := (Str.ofString "str")) ?evz11 ?_
    (case evz11 => k_is)
    intro z11
    refine' Ev.bl_then KX (n := (Str.ofString "sum")) ?evz12 ?_
    (case evz12 => k_is)
    intro z12
    refine' Ev.bl_then KX (n := (Str.ofString "tuple")) ?evz13 ?_
    (case evz13 => k_is)
    intro z13
    refine' Ev.bl_then KX (n := (Str.ofString "zip")) ?evz14 ?_
    (case evz14 => k_is)
    intro z14
    exact Ev.law_mk (i := 41) (d := K11.d_law) KX G hmg K11.hT K11.hc K11.hB K11.hK ⟨a0, a1, a2, a3, a4, a5, a6, a7, a8, a9, a10, a11, a12, a13, a14, a15, a16, a17, a18, a19, a20, a21, a22, a23, a24, a25, a26, a27, a28, a29, a30, a31, a32, a33, a34, a35, a36, a37, a38, a39, a40, a41, trivial⟩ ⟨g0, g1, g2, g3, g4, g5, g6, g7, g8, trivial⟩ ⟨z0, z1, z2, z3, z4, z5, z6, z7, z8, z9, z10, z11, z12, z13, z14, trivial⟩ rfl rfl (by rw [K11.hP]; exact K11.law_true)


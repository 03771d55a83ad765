import PyProof.Rows.All
import Wide.All
import OpenK.AllK
import Wide.FinOn
import PySem.Challenge.RW_heapcarries_k64_needless_refused_and_dis
import HandS.ForMost
import HandS.IsInst
import HandS.SortOrd
import HandS.TupMul
import HandS.Style
import HandS.TupAny
import HandS.Deep
import HandS.Walk
import HandS.Zip
import HandS.Conv
import HandS.Flow
import HandS.TupLen
import PyProof.ReprRoads
import PyProof.ReprLen
import HandS.CallLocal
import HandS.WordsExc
import HandS.EndBits
import HandS.TryOnly
import HandS.Exc
import HandS.ExcInit
import HandS.ExcField
import HandS.ExcIs
import HandS.Words
import KE.KExcIs
set_option Elab.async false
set_option linter.all false
set_option maxRecDepth 100000
/-! Ev0: a small evaluator of plain data -/
namespace Ev
open PySem (Str)
abbrev Key := Sum Int Str

/-- data; kl: a list that stands from the beginning; ref n: the n-th changing object; fn i: the i-th def -/
inductive D where
  | non | bl (b : Bool) | int (i : Int) | str (s : Str)
  | tup (xs : List D) | lst (xs : List D) | kl (xs : List D)
  | dk (ks : List Key) (vs : List D) | dt (ks : List (List Key)) (vs : List D)
  | ref (n : Nat) | fn (i : Nat) | ty (t : String)
  | exn (c : Nat) (d : D)
  deriving Inhabited

mutual
def D.beq : D → D → Bool
  | .non, .non => true
  | .bl a, .bl b => a == b
  | .int a, .int b => decide (a = b)
  | .str a, .str b => decide (a = b)
  | .tup a, .tup b => D.beqs a b
  | .lst a, .lst b => D.beqs a b
  | .kl a, .kl b => D.beqs a b
  | .dk k a, .dk l b => decide (k = l) && D.beqs a b
  | .dt k a, .dt l b => decide (k = l) && D.beqs a b
  | .ref a, .ref b => decide (a = b)
  | .fn a, .fn b => decide (a = b)
  | .ty a, .ty b => decide (a = b)
  | .exn c a, .exn d b => decide (c = d) && D.beq a b
  | _, _ => false
def D.beqs : List D → List D → Bool
  | [], [] => true
  | x :: xs, y :: ys => D.beq x y && D.beqs xs ys
  | _, _ => false
end
mutual
theorem D.beq_eq : ∀ {a b : D}, D.beq a b = true → a = b
  | .non, b, h => by cases b <;> simp [D.beq] at h ⊢
  | .bl a, b, h => by cases b <;> simp [D.beq] at h ⊢; exact h
  | .int a, b, h => by cases b <;> simp [D.beq] at h ⊢; exact h
  | .str a, b, h => by cases b <;> simp [D.beq] at h ⊢; exact h
  | .tup a, b, h => by cases b <;> simp [D.beq] at h ⊢; exact D.beqs_eq h
  | .lst a, b, h => by cases b <;> simp [D.beq] at h ⊢; exact D.beqs_eq h
  | .kl a, b, h => by cases b <;> simp [D.beq] at h ⊢; exact D.beqs_eq h
  | .dk k a, b, h => by cases b <;> simp [D.beq] at h ⊢; exact ⟨h.1, D.beqs_eq h.2⟩
  | .dt k a, b, h => by cases b <;> simp [D.beq] at h ⊢; exact ⟨h.1, D.beqs_eq h.2⟩
  | .ref a, b, h => by cases b <;> simp [D.beq] at h ⊢; exact h
  | .fn a, b, h => by cases b <;> simp [D.beq] at h ⊢; exact h
  | .ty a, b, h => by cases b <;> simp [D.beq] at h ⊢; exact h
  | .exn c a, b, h => by cases b <;> simp [D.beq] at h ⊢; exact ⟨h.1, D.beq_eq h.2⟩
theorem D.beqs_eq : ∀ {a b : List D}, D.beqs a b = true → a = b
  | [], b, h => by cases b <;> simp [D.beqs] at h ⊢
  | x :: xs, b, h => by cases b <;> simp [D.beqs] at h ⊢; exact ⟨D.beq_eq h.1, D.beqs_eq h.2⟩
end
mutual
theorem D.beq_refl : ∀ a : D, D.beq a a = true
  | .non => rfl
  | .bl a => by simp [D.beq]
  | .int a => by simp [D.beq]
  | .str a => by simp [D.beq]
  | .tup a => by simp [D.beq, D.beqs_refl a]
  | .lst a => by simp [D.beq, D.beqs_refl a]
  | .kl a => by simp [D.beq, D.beqs_refl a]
  | .dk k a => by simp [D.beq, D.beqs_refl a]
  | .dt k a => by simp [D.beq, D.beqs_refl a]
  | .ref a => by simp [D.beq]
  | .fn a => by simp [D.beq]
  | .ty a => by simp [D.beq]
  | .exn c a => by simp [D.beq, D.beq_refl a]
theorem D.beqs_refl : ∀ a : List D, D.beqs a a = true
  | [] => rfl
  | x :: xs => by simp [D.beqs, D.beq_refl x, D.beqs_refl xs]
end
instance : DecidableEq D := fun a b => if h : D.beq a b = true then .isTrue (D.beq_eq h) else .isFalse fun e => h (e ▸ D.beq_refl a)
/-- a changing object; dead: given up -/
inductive O where
  | lst (xs : List D)
  | dk (ks : List Key) (vs : List D) | dt (ks : List (List Key)) (vs : List D)
  | dead
  deriving DecidableEq

abbrev AH := List O
abbrev Env := List (Option D)
inductive Res (α : Type) where
  | ok (a : α) (A : AH)
  | exc (c : Nat) (d : D) (A : AH)
  | bad
def bnd {α β : Type} (r : Res α) (g : α → AH → Res β) : Res β :=
  match r with
  | .ok a A => g a A
  | .exc c d A => .exc c d A
  | .bad => .bad
@[simp] theorem bnd_ok {α β : Type} (a : α) (A : AH) (g : α → AH → Res β) : bnd (.ok a A) g = g a A := (Eq.refl _).trans rfl
@[simp] theorem bnd_exc {α β : Type} (c : Nat) (d : D) (A : AH) (g : α → AH → Res β) : bnd (.exc c d A : Res α) g = .exc c d A := (Eq.refl _).trans rfl
@[simp] theorem bnd_bad {α β : Type} (g : α → AH → Res β) : bnd (.bad : Res α) g = .bad := (Eq.refl _).trans rfl
def ofO {α : Type} (o : Option α) (A : AH) : Res α := match o with
  | some a => .ok a A
  | none => .bad
@[simp] theorem ofO_some {α : Type} (a : α) (A : AH) : ofO (some a) A = .ok a A := (Eq.refl _).trans rfl
@[simp] theorem ofO_none {α : Type} (A : AH) : ofO (none : Option α) A = .bad := (Eq.refl _).trans rfl
/-- no exception may leave -/
def calm {α : Type} (r : Res α) : Res α := match r with
  | .exc _ _ _ => .bad
  | r => r
@[simp] theorem calm_ok {α : Type} (a : α) (A : AH) : calm (.ok a A) = .ok a A := (Eq.refl _).trans rfl
@[simp] theorem calm_bad {α : Type} : calm (.bad : Res α) = .bad := (Eq.refl _).trans rfl

abbrev lim : Nat := 16777216

/-! ### looks at values -/
/-- a changing object's content, as a value -/
def shal (A : AH) : D → D
  | .ref n => match A[n]? with
    | some (.lst xs) => .lst xs
    | some (.dk ks vs) => .dk ks vs
    | some (.dt ks vs) => .dt ks vs
    | _ => .ref n
  | d => d
def seqO : D → Option (List D)
  | .lst xs => some xs
  | .tup xs => some xs
  | .kl xs => some xs
  | _ => none
/-- what is spread over several targets -/
def unpO : D → Option (List D)
  | .lst xs => some xs
  | .tup xs => some xs
  | _ => none
def lstO : D → Option (List D)
  | .lst xs => some xs
  | _ => none
def intO : D → Option Int
  | .int i => some i
  | _ => none
def intsO : List D → Option (List Int)
  | [] => some []
  | .int i :: r => (intsO r).map (i :: ·)
  | _ :: _ => none
def blsO : List D → Option (List Bool)
  | [] => some []
  | .bl i :: r => (blsO r).map (i :: ·)
  | _ :: _ => none
/-- a key: an int or a text -/
def keyO : D → Option Key
  | .int i => some (.inl i)
  | .str s => some (.inr s)
  | _ => none
def keyD : Key → D
  | .inl i => .int i
  | .inr s => .str s
/-- the keys of a dict that stands -/
def keyFit : Key → Bool
  | .inl _ => true
  | .inr s => decide (s.length ≤ lim)
def dkeysO : D → Option (List D)
  | .dk ks _ => if ks.all keyFit = true then some (ks.map keyD) else none
  | .dt ks _ => if (ks.all fun k => decide (k.length ≤ lim) && k.all keyFit) = true then some (ks.map fun k => .tup (k.map keyD)) else none
  | _ => none
def keysO : List D → Option (List Key)
  | [] => some []
  | d :: r => match keyO d, keysO r with
    | some k, some ks => some (k :: ks)
    | _, _ => none
/-- the value that a dict holds -/
def dget {κ : Type} [DecidableEq κ] (k : κ) : List κ → List D → Option D
  | j :: ks, v :: vs => if j = k then some v else dget k ks vs
  | _, _ => none
def dsub {κ : Type} [DecidableEq κ] (k : κ) (v : D) : List κ → List D → List D
  | j :: ks, w :: vs => (if j = k then v else w) :: dsub k v ks vs
  | _, _ => []
def dputV {κ : Type} [DecidableEq κ] (k : κ) (v : D) (ks : List κ) (vs : List D) : List D := if k ∈ ks then dsub k v ks vs else vs ++ [v]
def dputK {κ : Type} [DecidableEq κ] (k : κ) (ks : List κ) : List κ := if k ∈ ks then ks else ks ++ [k]

mutual
/-- what may be compared: no objects, no dicts; n deep at most -/
def D.flatN : Nat → D → Bool
  | _, .non => true
  | _, .bl _ => true
  | _, .int _ => true
  | _, .str s => PySem.PyData.strOk s
  | n + 1, .tup xs => D.flatNs n xs
  | n + 1, .lst xs => D.flatNs n xs
  | _, _ => false
def D.flatNs : Nat → List D → Bool
  | _, [] => true
  | n, x :: xs => D.flatN n x && D.flatNs n xs
end
mutual
/-- == -/
def D.eqv : D → D → Bool
  | .non, .non => true
  | .bl a, .bl b => a == b
  | .bl a, .int j => (if a then 1 else 0) == j
  | .int i, .bl b => i == (if b then 1 else 0)
  | .int i, .int j => i == j
  | .str x, .str y => x == y
  | .lst xs, .lst ys => D.eqvs xs ys
  | .tup xs, .tup ys => D.eqvs xs ys
  | _, _ => false
def D.eqvs : List D → List D → Bool
  | [], [] => true
  | x :: xs, y :: ys => D.eqv x y && D.eqvs xs ys
  | _, _ => false
end
def eqO (A : AH) (x y : D) : Option Bool :=
  let x := shal A x
  let y := shal A y
  if (D.flatN 60 x && D.flatN 60 y) = true then some (D.eqv x y) else none
def truO (A : AH) (x : D) : Option Bool := match shal A x with
  | .non => some false
  | .bl b => some b
  | .int i => some (i != 0)
  | .str s => some (s.length != 0)
  | .tup xs => some (!xs.isEmpty)
  | .lst xs => some (!xs.isEmpty)
  | .dk ks _ => some (!ks.isEmpty)
  | _ => none
def lenO (A : AH) (x : D) : Option Int := match shal A x with
  | .str s => some s.length
  | .tup xs => some xs.length
  | .lst xs => some xs.length
  | .kl xs => some xs.length
  | .dk ks _ => some ks.length
  | .dt ks _ => some ks.length
  | _ => none
/-- the place in a row of n -/
def ixN (n : Nat) (i : Int) : Option Nat := if 0 ≤ i then (if i < n then some i.toNat else none) else if -(n : Int) ≤ i then some (i + n).toNat else none
def atI {α : Type} (xs : List α) (i : Int) : Option α := (ixN xs.length i).bind fun j => xs[j]?
def idxO (A : AH) (x i : D) : Option D := match shal A x, i with
  | .lst xs, .int i => atI xs i
  | .kl xs, .int i => atI xs i
  | .tup xs, .int i => atI xs i
  | .str s, .int i => (atI s.cps.toList i).map fun c => .str ⟨#[c]⟩
  | .dk ks vs, k => match keyO k with
    | some k => dget k ks vs
    | none => none
  | .dt ks vs, .tup k => match keysO k with
    | some k => dget k ks vs
    | none => none
  | _, _ => none
def sIx (n d : Nat) : Option Int → Nat
  | none => d
  | some v => if v < 0 then (v + (n : Int)).toNat else min v.toNat n
def cut {α : Type} (xs : List α) (lo hi : Option Int) : List α := (xs.drop (sIx xs.length 0 lo)).take (sIx xs.length xs.length hi - sIx xs.length 0 lo)
def slcO (A : AH) (x : D) (lo hi : Option Int) : Option D := match shal A x with
  | .lst xs => some (.lst (cut xs lo hi))
  | .kl xs => some (.lst (cut xs lo hi))
  | .tup xs => some (.tup (cut xs lo hi))
  | .str s => some (.str ⟨(cut s.cps.toList lo hi).toArray⟩)
  | _ => none
def inO (A : AH) (x c : D) : Option Bool := match shal A c with
  | .lst xs => let x := shal A x; if (D.flatN 60 x && D.flatN 60 (.lst xs)) = true then some (xs.any fun y => D.eqv y x) else none
  | .tup xs => let x := shal A x; if (D.flatN 60 x && D.flatN 60 (.tup xs)) = true then some (xs.any fun y => D.eqv y x) else none
  | .dk ks vs => match keyO x with
    | some k => some (dget k ks vs).isSome
    | none => none
  | .dt ks vs => match x with
    | .tup k => match keysO k with
      | some k => some (dget k ks vs).isSome
      | none => none
    | _ => none
  | _ => none

/-! ### operators -/
inductive Bop where
  | add | sub | mul | mod | fdiv | pow
  deriving DecidableEq
def mulOk (i j : Int) : Prop := (-(2 ^ 64) < i ∧ i < 2 ^ 64) ∨ (-(2 ^ 64) < j ∧ j < 2 ^ 64)
instance (i j : Int) : Decidable (mulOk i j) := by unfold mulOk; exact inferInstance
def addO (x y : D) : Option D := match x, y with
  | .int i, .int j => some (.int (i + j))
  | .str a, .str b => if a.length + b.length ≤ lim then some (.str (a ++ b)) else none
  | .tup xs, .tup ys => if xs.length + ys.length ≤ lim then some (.tup (xs ++ ys)) else none
  | .lst xs, .lst ys => if xs.length + ys.length ≤ lim then some (.lst (xs ++ ys)) else none
  | _, _ => none
def binO (A : AH) : Bop → D → D → Option D
  | .add, x, y => addO (shal A x) (shal A y)
  | .sub, .int i, .int j => some (.int (i - j))
  | .mul, .int i, .int j => if mulOk i j then some (.int (i * j)) else none
  | .mul, .tup xs, .int k => if xs ≠ [] ∧ 2 ≤ k ∧ k ≤ 1000 ∧ xs.length ≤ 1000 then some (.tup (List.replicate k.toNat xs).flatten) else none
  | .mod, .int i, .int j => if 0 < j then some (.int (i % j)) else none
  | .fdiv, .int i, .int j => if 0 < j ∧ j < 1073741824 then some (.int (i / j)) else none
  | .pow, .int i, .int j => if 0 ≤ j ∧ j ≤ 1000000 ∧ i.natAbs < 2 ^ 64 then some (.int (i ^ j.toNat)) else none
  | _, _, _ => none
inductive Cop where
  | eq | ne | lt | le | gt | ge | isin | notin
  deriving DecidableEq
def lexLt : List Int → List Int → Bool
  | [], [] => false
  | [], _ :: _ => true
  | _ :: _, [] => false
  | x :: xs, y :: ys => if x = y then lexLt xs ys else decide (x < y)
def ltO : D → D → Option Bool
  | .int i, .int j => some (decide (i < j))
  | .tup xs, .tup ys => match intsO xs, intsO ys with
    | some a, some b => some (lexLt a b)
    | _, _ => none
  | _, _ => none
def int2 (f : Int → Int → Bool) : D → D → Option Bool
  | .int i, .int j => some (f i j)
  | _, _ => none
def eqS (A : AH) : D → D → Option Bool
  | .str a, .str b => some (a == b)
  | x, y => eqO A x y
def cmpO (A : AH) : Cop → D → D → Option Bool
  | .eq, x, y => eqS A x y
  | .ne, x, y => (eqS A x y).map (!·)
  | .lt, x, y => ltO x y
  | .le, x, y => int2 (fun i j => decide (i ≤ j)) x y
  | .gt, x, y => int2 (fun i j => decide (j < i)) x y
  | .ge, x, y => int2 (fun i j => decide (j ≤ i)) x y
  | .isin, x, y => inO A x y
  | .notin, x, y => (inO A x y).map (!·)

/-! ### built-ins by their values -/
inductive Bi where
  | len | int | abs | max2 | min2 | max1 | min1 | sum | all | any | list | tuple | isi | divmod | sorted | repr
  deriving DecidableEq
def tyName : D → Option String
  | .non => some "NoneType"
  | .bl _ => some "bool"
  | .int _ => some "int"
  | .str _ => some "str"
  | .tup _ => some "tuple"
  | .lst _ => some "list"
  | .kl _ => some "list"
  | .dk _ _ => some "dict"
  | _ => none
def isiT (d : D) (t : String) : Option Bool := (tyName d).bind fun n => L2.kitB n t
@[simp] theorem kit_NoneType_bool : L2.kitB "NoneType" "bool" = some false := by decide +kernel
@[simp] theorem kit_NoneType_int : L2.kitB "NoneType" "int" = some false := by decide +kernel
@[simp] theorem kit_NoneType_str : L2.kitB "NoneType" "str" = some false := by decide +kernel
@[simp] theorem kit_NoneType_tuple : L2.kitB "NoneType" "tuple" = some false := by decide +kernel
@[simp] theorem kit_NoneType_list : L2.kitB "NoneType" "list" = some false := by decide +kernel
@[simp] theorem kit_NoneType_dict : L2.kitB "NoneType" "dict" = some false := by decide +kernel
@[simp] theorem kit_bool_bool : L2.kitB "bool" "bool" = some true := by decide +kernel
@[simp] theorem kit_bool_int : L2.kitB "bool" "int" = some true := by decide +kernel
@[simp] theorem kit_bool_str : L2.kitB "bool" "str" = some false := by decide +kernel
@[simp] theorem kit_bool_tuple : L2.kitB "bool" "tuple" = some false := by decide +kernel
@[simp] theorem kit_bool_list : L2.kitB "bool" "list" = some false := by decide +kernel
@[simp] theorem kit_bool_dict : L2.kitB "bool" "dict" = some false := by decide +kernel
@[simp] theorem kit_int_bool : L2.kitB "int" "bool" = some false := by decide +kernel
@[simp] theorem kit_int_int : L2.kitB "int" "int" = some true := by decide +kernel
@[simp] theorem kit_int_str : L2.kitB "int" "str" = some false := by decide +kernel
@[simp] theorem kit_int_tuple : L2.kitB "int" "tuple" = some false := by decide +kernel
@[simp] theorem kit_int_list : L2.kitB "int" "list" = some false := by decide +kernel
@[simp] theorem kit_int_dict : L2.kitB "int" "dict" = some false := by decide +kernel
@[simp] theorem kit_str_bool : L2.kitB "str" "bool" = some false := by decide +kernel
@[simp] theorem kit_str_int : L2.kitB "str" "int" = some false := by decide +kernel
@[simp] theorem kit_str_str : L2.kitB "str" "str" = some true := by decide +kernel
@[simp] theorem kit_str_tuple : L2.kitB "str" "tuple" = some false := by decide +kernel
@[simp] theorem kit_str_list : L2.kitB "str" "list" = some false := by decide +kernel
@[simp] theorem kit_str_dict : L2.kitB "str" "dict" = some false := by decide +kernel
@[simp] theorem kit_tuple_bool : L2.kitB "tuple" "bool" = some false := by decide +kernel
@[simp] theorem kit_tuple_int : L2.kitB "tuple" "int" = some false := by decide +kernel
@[simp] theorem kit_tuple_str : L2.kitB "tuple" "str" = some false := by decide +kernel
@[simp] theorem kit_tuple_tuple : L2.kitB "tuple" "tuple" = some true := by decide +kernel
@[simp] theorem kit_tuple_list : L2.kitB "tuple" "list" = some false := by decide +kernel
@[simp] theorem kit_tuple_dict : L2.kitB "tuple" "dict" = some false := by decide +kernel
@[simp] theorem kit_list_bool : L2.kitB "list" "bool" = some false := by decide +kernel
@[simp] theorem kit_list_int : L2.kitB "list" "int" = some false := by decide +kernel
@[simp] theorem kit_list_str : L2.kitB "list" "str" = some false := by decide +kernel
@[simp] theorem kit_list_tuple : L2.kitB "list" "tuple" = some false := by decide +kernel
@[simp] theorem kit_list_list : L2.kitB "list" "list" = some true := by decide +kernel
@[simp] theorem kit_list_dict : L2.kitB "list" "dict" = some false := by decide +kernel
@[simp] theorem kit_dict_bool : L2.kitB "dict" "bool" = some false := by decide +kernel
@[simp] theorem kit_dict_int : L2.kitB "dict" "int" = some false := by decide +kernel
@[simp] theorem kit_dict_str : L2.kitB "dict" "str" = some false := by decide +kernel
@[simp] theorem kit_dict_tuple : L2.kitB "dict" "tuple" = some false := by decide +kernel
@[simp] theorem kit_dict_list : L2.kitB "dict" "list" = some false := by decide +kernel
@[simp] theorem kit_dict_dict : L2.kitB "dict" "dict" = some true := by decide +kernel
def maxL : List Int → Option Int
  | [] => none
  | x :: r => some (r.foldl (fun a b => if a < b then b else a) x)
def minL : List Int → Option Int
  | [] => none
  | x :: r => some (r.foldl (fun a b => if b < a then b else a) x)
def ints1 (A : AH) (x : D) : Option (List Int) := (seqO (shal A x)).bind intsO
def insK (x : List Int) : List (List Int) → List (List Int)
  | [] => [x]
  | y :: ys => if lexLt x y = true then x :: y :: ys else y :: insK x ys
def sortK : List (List Int) → List (List Int)
  | [] => []
  | x :: xs => insK x (sortK xs)
def tupD (k : List Int) : D := .tup (k.map D.int)
/-- the items of a sort: tuples of ints, none empty -/
def keysT : List D → Option (List (List Int))
  | [] => some []
  | .tup (d :: ds) :: r => match intsO (d :: ds), keysT r with
    | some k, some ks => some (k :: ks)
    | _, _ => none
  | _ :: _ => none
mutual
def D.py : D → PySem.PyData
  | .bl b => .bool b
  | .int i => .int i
  | .str s => .str s
  | .tup xs => .tuple (D.pys xs)
  | .lst xs => .list (D.pys xs)
  | _ => .none
def D.pys : List D → List PySem.PyData
  | [] => []
  | x :: xs => D.py x :: D.pys xs
end
/-! ### repr: of what is small -/
mutual
def D.sml : D → Bool
  | .int i => decide (i.natAbs < 10 ^ 40)
  | .tup xs => D.smls xs
  | .lst xs => D.smls xs
  | _ => true
def D.smls : List D → Bool
  | [] => true
  | x :: xs => D.sml x && D.smls xs
end
mutual
def D.wt : D → Nat
  | .int _ => 134
  | .str s => s.length
  | .tup xs => D.wts xs
  | .lst xs => D.wts xs
  | _ => 0
def D.wts : List D → Nat
  | [] => 0
  | x :: xs => D.wt x + 1 + D.wts xs
end
def D.shw (d : D) : Bool := D.flatN 60 d && D.sml d && decide (D.wt d ≤ 100000)
def reprO (A : AH) (x : D) : Option Str := match shal A x with
  | .dk [] [] => some (PySem.PyData.shown (.dict []))
  | d => if d.shw = true then some (PySem.PyData.shown (D.py d)) else none
def biO (A : AH) : Bi → List D → Option D
  | .len, [x] => (lenO A x).map .int
  | .int, [.int i] => some (.int i)
  | .int, [.bl b] => some (.int (if b then 1 else 0))
  | .abs, [.int i] => some (.int (if i < 0 then -i else i))
  | .max2, [.int i, .int j] => some (.int (if j > i then j else i))
  | .min2, [.int i, .int j] => some (.int (if j < i then j else i))
  | .max1, [x] => (ints1 A x).bind fun l => (maxL l).map .int
  | .min1, [x] => (ints1 A x).bind fun l => (minL l).map .int
  | .sum, [x] => (ints1 A x).map fun l => .int l.sum
  | .all, [x] => ((lstO (shal A x)).bind blsO).map fun l => .bl (l.all id)
  | .any, [x] => ((lstO (shal A x)).bind blsO).map fun l => .bl (l.any id)
  | .list, [x] => (seqO (shal A x)).map .lst
  | .tuple, [x] => (seqO (shal A x)).map .tup
  | .isi, [x, .ty t] => (isiT (shal A x) t).map .bl
  | .divmod, [.int i, .int j] => if 0 < j ∧ j < 1073741824 then some (.tup [.int (i / j), .int (i % j)]) else none
  | .sorted, [x] => ((seqO (shal A x)).bind keysT).map fun ks => .lst ((sortK ks).map tupD)
  | .repr, [x] => (reprO A x).map .str
  | _, _ => none
end Ev

set_option maxRecDepth 100000
/-! EvK: sorted lists of keys -/
namespace Ev
theorem lexLt_asym : ∀ {a b : List Int}, lexLt a b = true → lexLt b a = false
  | [], [], h => by simp [lexLt] at h
  | [], _ :: _, _ => by simp [lexLt]
  | _ :: _, [], h => by simp [lexLt] at h
  | x :: xs, y :: ys, h => by
    simp only [lexLt] at h ⊢
    by_cases e : x = y
    · rw [if_pos e] at h
      rw [if_pos e.symm]
      exact lexLt_asym h
    · rw [if_neg e, decide_eq_true_eq] at h
      rw [if_neg fun z => e z.symm]
      exact decide_eq_false (by omega)
theorem lexLt_tr : ∀ {a b c : List Int}, lexLt a b = false → lexLt b c = false → lexLt a c = false
  | [], [], c, _, h => h
  | [], _ :: _, _, h, _ => by simp [lexLt] at h
  | _ :: _, [], [], _, _ => by simp [lexLt]
  | _ :: _, [], _ :: _, _, h => by simp [lexLt] at h
  | _ :: _, _ :: _, [], _, _ => by simp [lexLt]
  | x :: xs, y :: ys, z :: zs, h1, h2 => by
    simp only [lexLt] at h1 h2 ⊢
    by_cases e1 : x = y
    · subst e1
      rw [if_pos rfl] at h1
      by_cases e2 : x = z
      · subst e2
        rw [if_pos rfl] at h2 ⊢
        exact lexLt_tr h1 h2
      · rw [if_neg e2] at h2 ⊢; exact h2
    · rw [if_neg e1, decide_eq_false_iff_not] at h1
      by_cases e2 : y = z
      · subst e2
        rw [if_neg e1]; exact decide_eq_false (by omega)
      · rw [if_neg e2, decide_eq_false_iff_not] at h2
        rw [if_neg (by omega)]; exact decide_eq_false (by omega)
theorem insK_perm (x : List Int) : ∀ ys : List (List Int), (insK x ys).Perm (x :: ys)
  | [] => .refl _
  | y :: ys => by
    simp only [insK]
    split
    · exact .refl _
    · exact ((insK_perm x ys).cons y).trans (.swap x y ys)
theorem sortK_perm : ∀ xs : List (List Int), (sortK xs).Perm xs
  | [] => .refl _
  | x :: xs => (insK_perm x _).trans ((sortK_perm xs).cons x)
theorem lexLt_tri : ∀ {a b : List Int}, lexLt a b = false → lexLt b a = false → a = b
  | [], [], _, _ => rfl
  | [], _ :: _, h, _ => by simp [lexLt] at h
  | _ :: _, [], _, h => by simp [lexLt] at h
  | x :: xs, y :: ys, h1, h2 => by
    simp only [lexLt] at h1 h2
    by_cases e : x = y
    · subst e
      rw [if_pos rfl] at h1 h2
      rw [lexLt_tri h1 h2]
    · rw [if_neg e, decide_eq_false_iff_not] at h1
      rw [if_neg fun z => e z.symm, decide_eq_false_iff_not] at h2
      omega
abbrev SrtK (l : List (List Int)) : Prop := l.Pairwise fun x y => lexLt y x = false
/-- two sorted lists of the same keys are one -/
theorem srtK_uniq : ∀ {a b : List (List Int)}, a.Perm b → SrtK a → SrtK b → a = b
  | [], b, p, _, _ => (List.nil_perm.mp p).symm
  | x :: a, [], p, _, _ => absurd p.length_eq (by simp)
  | x :: a, y :: b, p, ha, hb => by
    have ha' := List.pairwise_cons.mp ha
    have hb' := List.pairwise_cons.mp hb
    have e : x = y := by
      have h1 : x ∈ y :: b := p.subset List.mem_cons_self
      have h2 : y ∈ x :: a := p.symm.subset List.mem_cons_self
      rcases List.mem_cons.mp h1 with e | h1
      · exact e
      · rcases List.mem_cons.mp h2 with e | h2
        · exact e.symm
        · exact lexLt_tri (hb'.1 x h1) (ha'.1 y h2)
    subst e
    rw [srtK_uniq (List.Perm.cons_inv p) ha'.2 hb'.2]
theorem insK_srt {x : List Int} : ∀ {ys : List (List Int)}, SrtK ys → SrtK (insK x ys)
  | [], _ => List.pairwise_singleton _ _
  | y :: ys, h => by
    have h' := List.pairwise_cons.mp h
    simp only [insK]
    split
    · rename_i hlt
      refine List.pairwise_cons.mpr ⟨fun z hz => ?_, h⟩
      rcases List.mem_cons.mp hz with e | hz
      · rw [e]; exact lexLt_asym hlt
      · exact lexLt_tr (h'.1 z hz) (lexLt_asym hlt)
    · rename_i hlt
      refine List.pairwise_cons.mpr ⟨fun z hz => ?_, insK_srt h'.2⟩
      rcases List.mem_cons.mp ((insK_perm x ys).subset hz) with e | hz
      · rw [e]; exact Bool.not_eq_true _ ▸ hlt
      · exact h'.1 z hz
theorem sortK_srt : ∀ xs : List (List Int), SrtK (sortK xs)
  | [] => .nil
  | x :: xs => insK_srt (sortK_srt xs)
theorem sortK_eq {xs ys : List (List Int)} (p : ys.Perm xs) (h : SrtK ys) : ys = sortK xs := srtK_uniq (p.trans (sortK_perm xs).symm) h (sortK_srt xs)
end Ev

set_option maxRecDepth 100000
set_option maxHeartbeats 1000000
/-! EvS: sorted of tuples of ints -/
namespace Ev
open PySem PySem.Spec PyProof.Rows L2
inductive AreInts : List Value → List Int → Prop
  | nil : AreInts [] []
  | cons {t : Tok} {i : Int} {us : List Value} {ns : List Int} (r : AreInts us ns) : AreInts (.int i t :: us) (i :: ns)
def IsTupI (h : Heap) (v : Value) (ns : List Int) : Prop := ∃ a o us n, v = .ref a ∧ h.get? a = some o ∧ o.cls = .type "tuple" ∧ o.data = .seq us.toArray n ∧ AreInts us ns
def lexFin (fin : Bool) : List Int → List Int → Bool
  | x :: xs, y :: ys => if x = y then lexFin fin xs ys else decide (x < y)
  | _, _ => fin
theorem lexFin_lt : ∀ (a b : List Int), lexFin (decide (a.length < b.length)) a b = lexLt a b
  | [], [] => rfl
  | [], _ :: _ => by simp [lexFin, lexLt]
  | _ :: _, [] => by simp [lexFin, lexLt]
  | x :: xs, y :: ys => by
    have ih := lexFin_lt xs ys
    simp only [lexFin, lexLt, List.length_cons, Nat.add_lt_add_iff_right, ih]
open SrtO Srt in
theorem swo_tup (k : Value → List Int) : Swo fun v u => lexLt (k v) (k u) := ⟨fun _ _ h => lexLt_asym h, fun _ _ _ h1 h2 => lexLt_tr h2 h1⟩
section
variable {prog : Program} {w : World} {A : Around} {E : Value → Shared → Prop} {s : Shared}
open SrtO Srt L2
theorem kat_ints {b fin : Bool} : ∀ {us vs : List Value} {ns ms : List Int} (i : Nat), AreInts us ns → AreInts vs ms → PySem.W.KatLex prog w A b fin (fun r s' => s' = s ∧ r = lexFin fin ns ms) (us.zip vs) i s
  | _, _, _, _, i, .nil, _ => PySem.W.kat_nil ⟨rfl, by simp [lexFin]⟩
  | _, _, _, _, i, .cons _, .nil => PySem.W.kat_nil ⟨rfl, by simp [lexFin]⟩
  | _, _, _, _, i, .cons (t := t) (i := x) r1, .cons (t := t') (i := y) r2 => by
    refine PySem.W.kat_cons (SeqAt.EqAt.int_int x t y t' prog w _ _ ?_)
    refine PySem.W.kat_go (fun e1 => ?_) (fun e1 => ?_)
    · have ex : x = y := by simpa using e1
      refine PySem.W.kat_yes ?_
      have q := kat_ints (b := b) (fin := fin) (i + 1) r1 r2
      have e3 : ∀ ns ms, lexFin fin (x :: ns) (y :: ms) = lexFin fin ns ms := fun ns ms => if_pos ex
      rw [e3]
      exact q
    · have ex : ¬ x = y := by simpa using e1
      refine PySem.W.kat_no (TS.oneLt_ints _ (show s = s ∧ decide (x < y) = _ from ⟨rfl, ?_⟩))
      simp only [lexFin, if_neg ex]
theorem AreInts.len : ∀ {us : List Value} {ns : List Int}, AreInts us ns → us.length = ns.length
  | _, _, .nil => rfl
  | _, _, .cons r => by simp [AreInts.len r]
theorem tup_cmp {vs : List Value} {k : Value → List Int} (hp : ∀ v ∈ vs, IsTupI s.heap v (k v)) : Cmp prog w A s (tuples' true) (fun p => p.1 ∈ vs) (lt2 fun v u => lexLt (k v) (k u)) := by
  intro p q hm hm'
  obtain ⟨a, o, us, n, e, ho, hc, hd, r⟩ := hp _ hm
  obtain ⟨a', o', us', n', e', ho', hc', hd', r'⟩ := hp _ hm'
  show wpAny (model prog w) A (keyLt' (tuples' true) p.1 q.1) (fun r s' => s' = s ∧ r = lexLt (k p.1) (k q.1)) (fun _ _ => False) s
  generalize k p.1 = x at r ⊢
  generalize k q.1 = y at r' ⊢
  rw [e, e']
  refine PySem.W.kat_lt ho hd ho' hd' ?_
  have z := kat_ints (prog := prog) (w := w) (A := A) (b := true) (fin := decide (us.toArray.size < us'.toArray.size)) (s := s) 0 r r'
  have e3 : lexFin (decide (us.toArray.size < us'.toArray.size)) x y = lexLt x y := by
    rw [List.size_toArray, List.size_toArray, r.len, r'.len]; exact lexFin_lt x y
  rw [e3] at z
  exact z
theorem tup_firsts {h : Heap} {k : Value → List Int} : ∀ {vs : List Value}, (∀ v ∈ vs, IsTupI h v (k v) ∧ k v ≠ []) → ∃ fs : List Value, PySem.W.KatTups h vs fs ∧ fs.length = vs.length ∧ ∀ f ∈ fs, ∃ x t, f = Value.int x t
  | [], _ => ⟨[], PySem.W.KatTups.nil, rfl, fun _ hm => by cases hm⟩
  | v :: vs, hp => by
    obtain ⟨fs, h1, h2, h3⟩ := tup_firsts (vs := vs) fun v' hm => hp v' (List.mem_cons_of_mem _ hm)
    obtain ⟨⟨a, o, us, n, e, ho, hc, hd, r⟩, hne⟩ := hp v List.mem_cons_self
    revert r hne
    generalize k v = l
    intro hne r
    cases r with
    | nil => exact absurd rfl hne
    | cons r =>
      rename_i t i us ns
      subst e
      refine ⟨.int i t :: fs, PySem.W.KatTups.cons ho hc hd rfl h1, by rw [List.length_cons, List.length_cons, h2], fun f hm => ?_⟩
      rcases List.mem_cons.mp hm with rfl | hm
      · exact ⟨i, t, rfl⟩
      · exact h3 f hm
theorem tup_sortable {a : Addr} {vs : List Value} {k : Value → List Int} (h0 : 0 < vs.length) (hp : ∀ v ∈ vs, IsTupI s.heap v (k v) ∧ k v ≠ []) (ha : ∀ o, s.heap.get? a = some o → o.cls ≠ .type "tuple") : SortableO prog w A s a vs fun v u => lexLt (k v) (k u) := by
  intro h' keep
  have hp' : ∀ v ∈ vs, IsTupI h' v (k v) ∧ k v ≠ [] := fun v hm => by
    obtain ⟨⟨b, o, us, n, e, ho, hc, hd, r⟩, hne⟩ := hp v hm
    exact ⟨⟨b, o, us, n, e, keep b o (fun z => by subst z; exact ha o ho hc) ho, hc, hd, r⟩, hne⟩
  obtain ⟨fs, h1, h2, h3⟩ := tup_firsts hp'
  refine ⟨tuples' true, fun Q E hq => ?_, tup_cmp fun v hm => (hp' v hm).1⟩
  refine PySem.W.kat_kind (T := .type "int") h1 (by omega) (fun f hm => ?_) (by rfl) ?_
  · obtain ⟨x, t, rfl⟩ := h3 f hm
    exact PySem.W.Looks.now
  · have e : (Value.type "int" != Value.type "tuple") = true := by decide +kernel
    rw [e]
    exact hq
/-- sorted(l), l a list or a tuple -/
theorem sorted_seq {l : Addr} {o : Obj} {T : String} {vs : List Value} {n : Nat} {ltv : Value → Value → Bool} {Q : Value → Shared → Prop} (O : Swo ltv) (hT : T = "list" ∨ T = "tuple") (ho : s.heap.get? l = some o) (hc : o.cls = .type T) (hd : o.data = .seq vs.toArray n) (hz : vs.length ≤ sizeLine)
    (hS : 2 ≤ vs.length → ∀ (h₁ : Heap) (a : Addr), h₁.get? a = some (seqObj "list" vs.toArray 0) → (∀ b o, s.heap.get? b = some o → b ≠ a ∧ h₁.get? b = some o) → SortableO prog w A.in1.in1 { s with heap := h₁ } a vs ltv)
    (h : ∀ (h1 h' : Heap) (d : Addr) (out : List Value), Srtd ltv out → Stb ltv out vs → (∀ b o, s.heap.get? b = some o → h1.get? b = some o) → (∀ b o, h1.get? b = some o → h'.get? b = some o) → h1.objs.size ≤ d → (∃ n, h'.get? d = some (seqObj "list" out.toArray n)) → Q (.ref d) { s with heap := h' }) :
    wpAny (model prog w) A (call (.builtin "sorted") [.ref l]) Q E s := by
  refine Calls.call_function_entry kind_sorted plain_sorted entry_sorted (args_sorted1 _) ?_
  unfold Builtin.«sorted»
  refine wpAny_bind (m := checkCount "sorted" 1 1 _) (wpAny_pure ?_)
  refine wpAny_bind (wpAny_collect_seq l hT ho hc hd (fun h1 k1 => ?_) (by rw [List.size_toArray]; exact hz))
  refine wpAny_bind (wpAny_newList ?_ hz)
  have hlt1 : ∀ b o, s.heap.get? b = some o → b < h1.objs.size := fun b o e => Heap.lt_size (k1 b o e)
  have hoL : (h1.push (seqObj "list" vs.toArray 0)).get? h1.objs.size = some (seqObj "list" vs.toArray 0) := Heap.get?_push_size _ rfl
  have keep : ∀ b o, s.heap.get? b = some o → b ≠ h1.objs.size ∧ (h1.push (seqObj "list" vs.toArray 0)).get? b = some o := fun b o e => ⟨Nat.ne_of_lt (hlt1 b o e), Heap.get?_push_of_some _ (k1 b o e)⟩
  show wpAny _ _ _ _ _ { s with heap := h1.push (seqObj "list" vs.toArray 0) }
  refine wpAny_bind (wpAny_holding (wpAny_call_entry slot_list_sort ⟨_, hoL, rfl⟩ entry_list_sort (list_sort_ord O hoL hz (fun h2 => hS h2 _ _ hoL keep) fun out hs hb => ⟨_, rfl, ?_⟩) (args_list_sort _)))
  refine wpAny_pure ⟨_, rfl, h h1 _ _ out hs hb k1 (fun b o e => ?_) (Nat.le_refl _) (sortedHeap_at hoL)⟩
  have hb : (h1.push (seqObj "list" vs.toArray 0)).get? b = some o := Heap.get?_push_of_some _ e
  rw [sortedHeap_old (Nat.ne_of_lt (Heap.lt_size e)) (Heap.lt_size hb)]
  exact hb
end
end Ev

set_option maxRecDepth 100000
/-! Ev1: the evaluator's own syntax, and what it does -/
namespace Ev
open PySem (Str)
mutual
inductive E where
  | var (i : Nat)
  | int (i : Int) | bl (b : Bool) | non | str (s : Str)
  | gv (x : Str) (i : Int) | ty (x : String) | fn (x : Str) (i : Nat)
  | tup (es : Es) | lst (es : Es) | lstM (es : Es) | dkN | dtN
  | bin (op : Bop) (a b : E) | neg (a : E) | not (a : E)
  | and (a b : E) | or (a b : E) | one (a : E)
  | ite (c a b : E)
  | cmp (op : Cop) (a b : E) | chn (p q : Cop) (a b c : E)
  | isN (a : E) (neg : Bool) | isB (a : E) (b neg : Bool)
  | idx (a b : E) | slc (a : E) (lo hi : Eo)
  | call (f : Nat) (es : Es) | callK (f : Nat) (es kes : Es) (ix : List Nat)
  | bi (b : Bi) (es : Es)
  | lrng (a : E)
  | lstOf (a : E)
  | app (o a : E)
  | comp (m : Bool) (own : List Nat) (tg : T) (it : I) (cs : Es) (e : E)
  | callV (i : Nat) (es : Es)
  | comp2 (m : Bool) (own : List Nat) (tg : T) (it : I) (cs : Es) (tg1 : T) (it1 : I) (cs1 : Es) (e : E)
  | excG (i : Nat) (fld : Str) | excI (i : Nat) (x : Str) (cs : List Nat)
inductive Eo where
  | no | yes (e : E)
inductive Es where
  | nil | cons (e : E) (r : Es)
inductive T where
  | nm (i : Nat) | tup (ts : Ts) | sub (o i : E)
inductive Ts where
  | nil | cons (t : T) (r : Ts)
inductive I where
  | seq (e : E) | rng1 (a : E) | rng2 (a b : E) | zip (a b : E) | zip3 (a b c : E) | enum (a : E) | rng3 (a b c : E) | keys (a : E)
end
mutual
inductive S where
  | asg (t : T) (e : E)
  | par (is : List Nat) (es : Es)
  | ex (e : E)
  | iff (c : E) (a b : Ss)
  | whl (n : Nat) (c : E) (a : Ss)
  | for (t : T) (it : I) (a : Ss)
  | ret (e : E) | retN | pass | brk | cnt
  | never
  | frz (i : Nat)
  | raise (x : Str) (c : Nat) (e : E) | raise0 (x : Str) (c : Nat)
  | tryAs (body : Ss) (x : Str) (cs : List Nat) (i : Nat) (suite : Ss)
inductive Ss where
  | nil | cons (s : S) (r : Ss)
end

def E.tOk : E → Bool
  | .ite _ _ _ => false
  | .not a => a.tOk
  | .one a => a.tOk
  | .and a b => a.tOk && b.tOk
  | .or a b => a.tOk && b.tOk
  | _ => true

/-! ### small steps -/
def tst (r : Res D) : Res Bool := bnd r fun d A => ofO (truO A d) A
def wipe (env : Env) : List Nat → Env
  | [] => env
  | v :: vs => (wipe env vs).set v none
def upto (lo : Int) : Nat → List D
  | 0 => []
  | n + 1 => .int lo :: upto (lo + 1) n
def rngOk (i : Int) : Prop := -(2 ^ 62) ≤ i ∧ i < 2 ^ 62
instance (i : Int) : Decidable (rngOk i) := by unfold rngOk; exact inferInstance
def zip2 : List D → List D → List D
  | x :: xs, y :: ys => .tup [x, y] :: zip2 xs ys
  | _, _ => []
def zip3 : List D → List D → List D → List D
  | x :: xs, y :: ys, z :: zs => .tup [x, y, z] :: zip3 xs ys zs
  | _, _, _ => []
def enumF (i : Int) : List D → List D
  | [] => []
  | x :: xs => .tup [.int i, x] :: enumF (i + 1) xs
/-- a store o[i] = v -/
def setO (A : AH) (o i v : D) : Option AH := match o with
  | .ref n => match A[n]?, i with
    | some (.lst xs), .int i => (ixN xs.length i).map fun j => A.set n (.lst (xs.set j v))
    | some (.dk ks vs), k => (keyO k).bind fun k => if ks.length < lim then some (A.set n (.dk (dputK k ks) (dputV k v ks vs))) else none
    | some (.dt ks vs), .tup k => (keysO k).bind fun k => if ks.length < lim then some (A.set n (.dt (dputK k ks) (dputV k v ks vs))) else none
    | _, _ => none
  | _ => none
def appO (A : AH) (o v : D) : Option AH := match o with
  | .ref n => match A[n]? with
    | some (.lst xs) => if xs.length < lim then some (A.set n (.lst (xs ++ [v]))) else none
    | _ => none
  | _ => none

def tupO : D → Option (List D)
  | .tup xs => some xs
  | _ => none
def zipO (x y : D) : Option (List D × List D) := match x, y with
  | .lst xs, .lst ys => some (xs, ys)
  | .tup xs, .tup ys => some (xs, ys)
  | _, _ => none
def lstR (A : AH) (x : D) : Option Unit := match shal A x with
  | .lst _ => some ()
  | _ => none
/-- the turns of a comprehension -/
def compL (as : D → Env → AH → Res Env) (cs : Env → AH → Res Bool) (ef : Env → AH → Res D) (env : Env) : List D → AH → Res (List D)
  | [], A => .ok [] A
  | x :: xs, A => bnd (as x env A) fun env1 A => bnd (cs env1 A) fun b A =>
      if b = true then bnd (ef env1 A) fun d A => bnd (compL as cs ef env xs A) fun ds A => .ok (d :: ds) A
      else compL as cs ef env xs A
/-- of two clauses -/
def compL2 (as : D → Env → AH → Res Env) (cs : Env → AH → Res Bool) (fi : Env → AH → Res (List D)) (as1 : D → Env → AH → Res Env) (cs1 : Env → AH → Res Bool) (ef : Env → AH → Res D) (own1 : List Nat) (env : Env) : List D → AH → Res (List D)
  | [], A => .ok [] A
  | x :: xs, A => bnd (as x env A) fun env1 A => bnd (cs env1 A) fun b A =>
      if b = true then bnd (fi env1 A) fun ys A => bnd (compL as1 cs1 ef (wipe env1 own1) ys A) fun ds A => bnd (compL2 as cs fi as1 cs1 ef own1 env xs A) fun rest A => .ok (ds ++ rest) A
      else compL2 as cs fi as1 cs1 ef own1 env xs A
/-- a range downwards -/
def down (i : Int) : Nat → List D
  | 0 => []
  | n + 1 => .int i :: down (i - 1) n
inductive Fl where
  | nx | bk | ct | rt (d : D)
def forL (as : D → Env → AH → Res Env) (body : Env → AH → Res (Fl × Env)) : List D → Env → AH → Res (Fl × Env)
  | [], env, A => .ok (.nx, env) A
  | x :: xs, env, A => bnd (as x env A) fun env1 A => bnd (body env1 A) fun f A => match f.1 with
    | .nx => forL as body xs f.2 A
    | .ct => forL as body xs f.2 A
    | .bk => .ok (.nx, f.2) A
    | .rt d => .ok (.rt d, f.2) A
def whlL (c : Env → AH → Res Bool) (body : Env → AH → Res (Fl × Env)) : Nat → Env → AH → Res (Fl × Env)
  | 0, _, _ => .bad
  | n + 1, env, A => bnd (c env A) fun b A => if b = true then bnd (body env A) fun f A => match f.1 with
      | .nx => whlL c body n f.2 A
      | .ct => whlL c body n f.2 A
      | .bk => .ok (.nx, f.2) A
      | .rt d => .ok (.rt d, f.2) A
    else .ok (.nx, env) A

mutual
/-- no errors held -/
def D.noX : D → Bool
  | .exn _ _ => false
  | .tup xs => D.noXs xs
  | .lst xs => D.noXs xs
  | .kl xs => D.noXs xs
  | .dk _ vs => D.noXs vs
  | .dt _ vs => D.noXs vs
  | _ => true
def D.noXs : List D → Bool
  | [] => true
  | x :: xs => D.noX x && D.noXs xs
end
abbrev Cl := Nat → List D → AH → Res D
/-- the arguments in the parameters' order -/
def placed (ds ks : List D) (ix : List Nat) : List D := ds ++ (List.range ks.length).filterMap fun j => (ix.idxOf? (ds.length + j)).bind fun p => ks[p]?

/-- the field of a class of errors, by its number: even given, odd index; from 1000 on none -/
def excF (c : Nat) : Option Str := if c < 1000 then (if c % 2 = 0 then some (Str.ofString "given") else some (Str.ofString "index")) else none
mutual
def T.slots : T → List Nat
  | .nm i => [i]
  | .tup ts => ts.slots
  | .sub _ _ => []
def Ts.slots : Ts → List Nat
  | .nil => []
  | .cons t r => t.slots ++ r.slots
end
mutual
def ev (cl : Cl) : E → Env → AH → Res D
  | .var i, env, A => match env[i]? with
    | some (some d) => .ok d A
    | _ => .bad
  | .int i, _, A => .ok (.int i) A
  | .bl b, _, A => .ok (.bl b) A
  | .non, _, A => .ok .non A
  | .str s, _, A => .ok (.str s) A
  | .gv _ i, _, A => .ok (.int i) A
  | .ty t, _, A => .ok (.ty t) A
  | .fn _ i, _, A => .ok (.fn i) A
  | .tup es, env, A => bnd (evs cl es env A) fun ds A => .ok (.tup ds) A
  | .lst es, env, A => bnd (evs cl es env A) fun ds A => .ok (.lst ds) A
  | .lstM es, env, A => bnd (evs cl es env A) fun ds A => .ok (.ref A.length) (A ++ [.lst ds])
  | .dkN, _, A => .ok (.ref A.length) (A ++ [.dk [] []])
  | .dtN, _, A => .ok (.ref A.length) (A ++ [.dt [] []])
  | .bin op a b, env, A => bnd (ev cl a env A) fun x A => bnd (ev cl b env A) fun y A => ofO (binO A op x y) A
  | .neg a, env, A => bnd (ev cl a env A) fun x A => match x with
    | .int i => .ok (.int (-i)) A
    | _ => .bad
  | .not a, env, A => bnd (tst (ev cl a env A)) fun b A => .ok (.bl (!b)) A
  | .and a b, env, A => bnd (ev cl a env A) fun x A => bnd (ofO (truO A x) A) fun t A => if t = true then ev cl b env A else .ok x A
  | .or a b, env, A => bnd (ev cl a env A) fun x A => bnd (ofO (truO A x) A) fun t A => if t = true then .ok x A else ev cl b env A
  | .one a, env, A => ev cl a env A
  | .ite c a b, env, A => bnd (tst (ev cl c env A)) fun t A => if t = true then ev cl a env A else ev cl b env A
  | .cmp op a b, env, A => bnd (ev cl a env A) fun x A => bnd (ev cl b env A) fun y A => ofO ((cmpO A op x y).map .bl) A
  | .chn p q a b c, env, A => bnd (ev cl a env A) fun x A => bnd (ev cl b env A) fun y A => bnd (ofO (cmpO A p x y) A) fun t A =>
      if t = true then bnd (ev cl c env A) fun z A => ofO ((cmpO A q y z).map .bl) A else .ok (.bl false) A
  | .isN a neg, env, A => bnd (ev cl a env A) fun x A => .ok (.bl (decide (x = .non) != neg)) A
  | .isB a b neg, env, A => bnd (ev cl a env A) fun x A => .ok (.bl (decide (x = .bl b) != neg)) A
  | .idx a b, env, A => bnd (ev cl a env A) fun x A => bnd (ev cl b env A) fun y A => ofO (idxO A x y) A
  | .slc a lo hi, env, A => bnd (ev cl a env A) fun x A => bnd (evo cl lo env A) fun l A => bnd (evo cl hi env A) fun h A => ofO (slcO A x l h) A
  | .call f es, env, A => bnd (evs cl es env A) fun ds A => cl f ds A
  | .callK f es ks ix, env, A => bnd (evs cl es env A) fun ds A => bnd (evs cl ks env A) fun ws A => cl f (placed ds ws ix) A
  | .bi b es, env, A => bnd (evs cl es env A) fun ds A => ofO (biO A b ds) A
  | .lrng a, env, A => bnd (ev cl a env A) fun x A => match x with
    | .int j => if rngOk j ∧ j ≤ lim then .ok (.lst (upto 0 j.toNat)) A else .bad
    | _ => .bad
  | .lstOf a, env, A => bnd (ev cl a env A) fun x A => bnd (ofO (seqO (shal A x)) A) fun xs A => .ok (.ref A.length) (A ++ [.lst xs])
  | .app o a, env, A => bnd (ev cl o env A) fun x A => bnd (ofO (lstR A x) A) fun _ A => bnd (ev cl a env A) fun y A => bnd (ofO (appO A x y) A) fun A1 _ => .ok .non A1
  | .comp m own tg it cs e, env, A => bnd (evi cl it env A) fun xs A => bnd (calm (compL (fun d => asg cl tg d) (fun env A => evt cl cs env A) (fun env A => ev cl e env A) (wipe env own) xs A)) fun ds A =>
      if ds.length ≤ lim then (if m = true then .ok (.ref A.length) (A ++ [.lst ds]) else .ok (.lst ds) A) else .bad
  | .comp2 m own tg it cs tg1 it1 cs1 e, env, A => bnd (evi cl it env A) fun xs A => bnd (calm (compL2 (fun d => asg cl tg d) (fun env A => evt cl cs env A) (fun env A => evi cl it1 env A) (fun d => asg cl tg1 d) (fun env A => evt cl cs1 env A) (fun env A => ev cl e env A) tg1.slots (wipe env own) xs A)) fun ds A =>
      if ds.length ≤ lim then (if m = true then .ok (.ref A.length) (A ++ [.lst ds]) else .ok (.lst ds) A) else .bad
  | .callV i es, env, A => match env[i]? with
    | some (some (.fn f)) => bnd (evs cl es env A) fun ds A => cl f ds A
    | _ => .bad
  | .excG i fld, env, A => match env[i]? with
    | some (some (.exn c d)) => if excF c = some fld then .ok d A else .bad
    | _ => .bad
  | .excI i _ cs, env, A => match env[i]? with
    | some (some (.exn c _)) => .ok (.bl (cs.contains c)) A
    | _ => .bad
def evo (cl : Cl) : Eo → Env → AH → Res (Option Int)
  | .no, _, A => .ok none A
  | .yes e, env, A => bnd (ev cl e env A) fun x A => ofO ((intO x).map some) A
def evs (cl : Cl) : Es → Env → AH → Res (List D)
  | .nil, _, A => .ok [] A
  | .cons e r, env, A => bnd (ev cl e env A) fun d A => bnd (evs cl r env A) fun ds A => .ok (d :: ds) A
/-- all tests hold -/
def evt (cl : Cl) : Es → Env → AH → Res Bool
  | .nil, _, A => .ok true A
  | .cons e r, env, A => bnd (tst (ev cl e env A)) fun t A => if t = true then evt cl r env A else .ok false A
/-- a store of d -/
def asg (cl : Cl) : T → D → Env → AH → Res Env
  | .nm i, d, env, A => .ok (env.set i (some d)) A
  | .tup ts, d, env, A => bnd (ofO (unpO (shal A d)) A) fun xs A => asgs cl ts xs env A
  | .sub o i, d, env, A => bnd (ev cl o env A) fun x A => bnd (ev cl i env A) fun y A => bnd (ofO (setO A x y d) A) fun A1 _ => .ok env A1
def asgs (cl : Cl) : Ts → List D → Env → AH → Res Env
  | .nil, ds, env, A => match ds with
    | [] => .ok env A
    | _ :: _ => .bad
  | .cons t r, ds, env, A => match ds with
    | [] => .bad
    | d :: ds => bnd (asg cl t d env A) fun env A => asgs cl r ds env A
/-- what a for walks -/
def evi (cl : Cl) : I → Env → AH → Res (List D)
  | .seq e, env, A => bnd (ev cl e env A) fun x A => ofO (seqO x) A
  | .rng1 a, env, A => bnd (ev cl a env A) fun x A => match x with
    | .int j => if rngOk j then .ok (upto 0 j.toNat) A else .bad
    | _ => .bad
  | .rng2 a b, env, A => bnd (ev cl a env A) fun x A => bnd (ev cl b env A) fun y A => match x, y with
    | .int i, .int j => if rngOk i ∧ rngOk j then .ok (upto i (j - i).toNat) A else .bad
    | _, _ => .bad
  | .zip a b, env, A => bnd (ev cl a env A) fun x A => bnd (ev cl b env A) fun y A => bnd (ofO (zipO x y) A) fun q A => .ok (zip2 q.1 q.2) A
  | .zip3 a b c, env, A => bnd (ev cl a env A) fun x A => bnd (ev cl b env A) fun y A => bnd (ev cl c env A) fun z A =>
      bnd (ofO (seqO x) A) fun xs A => bnd (ofO (seqO y) A) fun ys A => bnd (ofO (seqO z) A) fun zs A => .ok (zip3 xs ys zs) A
  | .enum a, env, A => bnd (ev cl a env A) fun x A => bnd (ofO (lstO x) A) fun xs A => .ok (enumF 0 xs) A
  | .rng3 a b c, env, A => bnd (ev cl a env A) fun x A => bnd (ev cl b env A) fun y A => bnd (ev cl c env A) fun z A => match x, y, z with
    | .int i, .int j, .int k => if k = -1 ∧ rngOk i ∧ rngOk j then .ok (down i (i - j).toNat) A else .bad
    | _, _, _ => .bad
  | .keys a, env, A => bnd (ev cl a env A) fun x A => ofO (dkeysO x) A
end

/-! ### giving up an object: its content becomes a value -/
def killAll : List Nat → AH → AH
  | [], A => A
  | n :: r, A => killAll r (A.set n .dead)
def fzL (f : D → Option (D × List Nat)) : List D → Option (List D × List Nat)
  | [] => some ([], [])
  | x :: xs => match f x, fzL f xs with
    | some (d, l), some (ds, ls) => some (d :: ds, l ++ ls)
    | _, _ => none
/-- d with its objects' contents put in, and which objects those were -/
def fz (A : AH) : Nat → D → Option (D × List Nat)
  | 0, _ => none
  | k + 1, .ref n => match A[n]? with
    | some (.lst xs) => (fzL (fz A k) xs).map fun p => (.lst p.1, n :: p.2)
    | some (.dk ks vs) => (fzL (fz A k) vs).map fun p => (.dk ks p.1, n :: p.2)
    | some (.dt ks vs) => (fzL (fz A k) vs).map fun p => (.dt ks p.1, n :: p.2)
    | _ => none
  | k + 1, .tup xs => (fzL (fz A k) xs).map fun p => (.tup p.1, p.2)
  | k + 1, .lst xs => (fzL (fz A k) xs).map fun p => (.lst p.1, p.2)
  | k + 1, .kl xs => (fzL (fz A k) xs).map fun p => (.kl p.1, p.2)
  | k + 1, .dk ks vs => (fzL (fz A k) vs).map fun p => (.dk ks p.1, p.2)
  | k + 1, .dt ks vs => (fzL (fz A k) vs).map fun p => (.dt ks p.1, p.2)
  | _ + 1, .exn _ _ => none
  | _ + 1, d => some (d, [])
def D.atom : D → Bool
  | .non => true
  | .bl _ => true
  | .int _ => true
  | .str _ => true
  | _ => false
def O.flat : O → Bool
  | .lst xs => xs.all D.atom
  | .dk _ vs => vs.all D.atom
  | .dt _ vs => vs.all D.atom
  | .dead => true
/-- each elder object is as it was, or holds no objects -/
def oldOk : AH → AH → Bool
  | [], _ => true
  | _ :: _, [] => false
  | o :: r, o' :: r' => (decide (o' = o) || o'.flat) && oldOk r r'

def setPar : List Nat → List D → Env → Env
  | i :: is, d :: ds, env => setPar is ds (env.set i (some d))
  | _, _, env => env
mutual
def evS (cl : Cl) : S → Env → AH → Res (Fl × Env)
  | .asg t e, env, A => bnd (ev cl e env A) fun d A => bnd (asg cl t d env A) fun env A => .ok (.nx, env) A
  | .par is es, env, A => bnd (evs cl es env A) fun ds A => if ds.length = is.length then .ok (.nx, setPar is ds env) A else .bad
  | .ex e, env, A => bnd (ev cl e env A) fun _ A => .ok (.nx, env) A
  | .iff c a b, env, A => bnd (tst (ev cl c env A)) fun t A => if t = true then evSs cl a env A else evSs cl b env A
  | .whl n c a, env, A => whlL (fun env A => tst (ev cl c env A)) (fun env A => evSs cl a env A) n env A
  | .for t it a, env, A => bnd (evi cl it env A) fun xs A => forL (fun d => asg cl t d) (fun env A => evSs cl a env A) xs env A
  | .ret e, env, A => bnd (ev cl e env A) fun d A => .ok (.rt d, env) A
  | .retN, env, A => .ok (.rt .non, env) A
  | .pass, env, A => .ok (.nx, env) A
  | .brk, env, A => .ok (.bk, env) A
  | .cnt, env, A => .ok (.ct, env) A
  | .never, _, _ => .bad
  | .frz i, env, A => match env[i]? with
    | some (some d) => match fz A 8 d with
      | some (d', L) => .ok (.nx, env.set i (some d')) (killAll L A)
      | none => .bad
    | _ => .bad
  | .raise _ c e, env, A => bnd (ev cl e env A) fun d A => if c < 1000 then .exc c d A else .bad
  | .raise0 _ c, _, A => if 1000 ≤ c then .exc c .non A else .bad
  | .tryAs body _ cs i suite, env, A => match evSs cl body env A with
    | .ok f A => .ok f A
    | .exc c d A1 => if cs.contains c = true then bnd (calm (evSs cl suite ((List.replicate env.length none).set i (some (.exn c d))) A1)) fun f A2 =>
        if A2 = A1 then (match f.1 with
          | .rt d => if D.noX d = true then .ok (.rt d, List.replicate f.2.length none) A2 else .bad
          | fl => .ok (fl, List.replicate f.2.length none) A2) else .bad
      else .exc c d A1
    | .bad => .bad
def evSs (cl : Cl) : Ss → Env → AH → Res (Fl × Env)
  | .nil, env, A => .ok (.nx, env) A
  | .cons s r, env, A => bnd (evS cl s env A) fun f A => match f.1 with
    | .nx => evSs cl r f.2 A
    | _ => .ok f A
end

/-- a def: parameters, names, body; fz: what it hands back is made a value, its own objects are dropped -/
structure Df where
  np : Nat
  ns : Nat
  fz : Bool
  body : Ss
def startE (ds : List D) (ns : Nat) : Env := ds.map some ++ List.replicate (ns - ds.length) none
def finish (m : Bool) (A : AH) (d : D) (A' : AH) : Res D :=
  if m = true then match fz A' 8 d with
    | some (d', L) => if (L.all (fun n => decide (A.length ≤ n)) && oldOk A A') = true then .ok d' (A'.take A.length) else .bad
    | none => .bad
  else .ok d A'
/-- an error leaves -/
def finX (m : Bool) (A : AH) (c : Nat) (d : D) (A' : AH) : Res D :=
  if m = true then match fz A' 8 d with
    | some (d', L) => if (L.all (fun n => decide (A.length ≤ n)) && oldOk A A') = true then .exc c d' (A'.take A.length) else .bad
    | none => .bad
  else .exc c d A'
/-- a def's end, by what its body did -/
def fnEnd (m : Bool) (A : AH) (r : Res (Fl × Env)) : Res D := match r with
  | .ok f A' => (match f.1 with
    | .rt d => finish m A d A'
    | .nx => finish m A .non A'
    | _ => .bad)
  | .exc c d A' => finX m A c d A'
  | .bad => .bad
def runDf (cl : Cl) (df : Df) (ds : List D) (A : AH) : Res D :=
  if ds.length = df.np then fnEnd df.fz A (evSs cl df.body (startE ds df.ns) A) else .bad
def callF (Ps : List Df) : Nat → Cl
  | 0, _, _, _ => .bad
  | n + 1, f, ds, A => match Ps[f]? with
    | some df => runDf (callF Ps n) df ds A
    | none => .bad
end Ev

set_option maxRecDepth 100000
/-! Ev2: how the evaluator's data lie in the layer's heap -/
namespace Ev
open PySem PySem.Spec L2
abbrev St := L2.St

/-- where the changing objects lie; what may change or is being made; the heap -/
structure Wd where
  m : List Addr
  W : Addr → Prop
  H : Hp
/-- a list of the written part -/
def KL (K : PySem.W.Frag) (a : Addr) (xs : List V) : Prop :=
  ∃ (o : Obj) (its : Array Value) (n : Nat), K.lookup a = some o ∧ o.cls = .type "list" ∧ o.dict = none ∧ o.data = .seq its n ∧ its.size ≤ sizeLine ∧ Vals xs its.toList
/-- it stands and does not change -/
def Stl (ω : Wd) (a : Addr) (u : HO) : Prop := ¬ ω.W a ∧ Rd ω.H a u
def SLs (K : PySem.W.Frag) (ω : Wd) (a : Addr) (xs : List V) : Prop := Stl ω a (.lst xs) ∨ KL K a xs
def STs (K : PySem.W.Frag) (ω : Wd) (a : Addr) (xs : List V) : Prop := ω.H a = some (.tup xs)
theorem SLs.sq {K : PySem.W.Frag} {ω : Wd} {a : Addr} {xs : List V} (h : SLs K ω a xs) : SqL K ω.H a xs := h.elim (fun h => .inl h.2) .inr
theorem STs.sq {K : PySem.W.Frag} {ω : Wd} {a : Addr} {xs : List V} (h : STs K ω a xs) : SqT K ω.H a xs := .inl (.inl h)

mutual
inductive Rep (K : PySem.W.Frag) (F : Nat → Addr) (ω : Wd) : D → V → Prop where
  | non : Rep K F ω .non .non
  | bl (b : Bool) : Rep K F ω (.bl b) (.bl b)
  | int (i : Int) : Rep K F ω (.int i) (.int i)
  | str (s : Str) (h : s.length ≤ sizeLine) : Rep K F ω (.str s) (.str s)
  | tup {a : Addr} {xs : List D} {vs : List V} (h : STs K ω a vs) (l : vs.length ≤ sizeLine) (r : Reps K F ω xs vs) : Rep K F ω (.tup xs) (.ref a)
  | lst {a : Addr} {xs : List D} {vs : List V} (h : Stl ω a (.lst vs)) (l : vs.length ≤ sizeLine) (r : Reps K F ω xs vs) : Rep K F ω (.lst xs) (.ref a)
  | kl {a : Addr} {xs : List D} {vs : List V} (h : SLs K ω a vs) (l : vs.length ≤ sizeLine) (r : Reps K F ω xs vs) : Rep K F ω (.kl xs) (.ref a)
  | dk {a : Addr} {ks : List Key} {xs : List D} {vs : List V} (h : Stl ω a (.dK (ks.zip vs))) (l : ks.length = xs.length) (r : Reps K F ω xs vs) : Rep K F ω (.dk ks xs) (.ref a)
  | dt {a : Addr} {ks : List (List Key)} {xs : List D} {vs : List V} (h : Stl ω a (.dT (ks.zip vs))) (l : ks.length = xs.length) (r : Reps K F ω xs vs) : Rep K F ω (.dt ks xs) (.ref a)
  | ref {n : Nat} {a : Addr} (h : ω.m[n]? = some a) : Rep K F ω (.ref n) (.ref a)
  | fn (i : Nat) (h : i < 1000000) : Rep K F ω (.fn i) (.ref (F i))
  | ty (t : String) : Rep K F ω (.ty t) (.ty t)
  | exn {c : Nat} {d : D} {v : V} {fld : Str} (hF : F 2000000 = 1 ∧ F 2000004 = 1) (hc : F 2000003 = F (1000000 + c) ∧ F (3000000 + c) = 1) (hf : excF c = some fld) (h : ω.H (F 2000002) = some (.xd [(fld, v)])) (r : Rep K F ω d v) : Rep K F ω (.exn c d) (.ref (F 2000001))
  | exn0 {c : Nat} (hF : F 2000000 = 1 ∧ F 2000004 = 0) (hc : F 2000003 = F (1000000 + c) ∧ F (3000000 + c) = 1) (hf : excF c = none ∧ c < 1000000) : Rep K F ω (.exn c .non) (.ref (F 2000001))
inductive Reps (K : PySem.W.Frag) (F : Nat → Addr) (ω : Wd) : List D → List V → Prop where
  | nil : Reps K F ω [] []
  | cons {x : D} {v : V} {xs : List D} {vs : List V} (h : Rep K F ω x v) (r : Reps K F ω xs vs) : Reps K F ω (x :: xs) (v :: vs)
end

section
variable {K : PySem.W.Frag} {F : Nat → Addr} {ω ω' : Wd}
theorem Reps.len : ∀ {xs : List D} {vs : List V}, Reps K F ω xs vs → xs.length = vs.length
  | _, _, .nil => rfl
  | _, _, .cons _ r => by simp [Reps.len r]
theorem Reps.get : ∀ {xs : List D} {vs : List V} {i : Nat} {d : D}, Reps K F ω xs vs → xs[i]? = some d → ∃ v, vs[i]? = some v ∧ Rep K F ω d v
  | _, _, i, d, .nil, e => by simp at e
  | _, _, 0, d, .cons h _, e => by simp at e; subst e; exact ⟨_, rfl, h⟩
  | _, _, i + 1, d, .cons _ r, e => by
    obtain ⟨v, h1, h2⟩ := Reps.get r (by simpa using e)
    exact ⟨v, by simpa using h1, h2⟩
theorem Reps.get' : ∀ {xs : List D} {vs : List V} {i : Nat} {v : V}, Reps K F ω xs vs → vs[i]? = some v → ∃ d, xs[i]? = some d ∧ Rep K F ω d v
  | _, _, i, d, .nil, e => by simp at e
  | _, _, 0, d, .cons h _, e => by simp at e; subst e; exact ⟨_, rfl, h⟩
  | _, _, i + 1, d, .cons _ r, e => by
    obtain ⟨v, h1, h2⟩ := Reps.get' r (by simpa using e)
    exact ⟨v, by simpa using h1, h2⟩
theorem Reps.app : ∀ {xs ys : List D} {vs us : List V}, Reps K F ω xs vs → Reps K F ω ys us → Reps K F ω (xs ++ ys) (vs ++ us)
  | _, _, _, _, .nil, s => s
  | _, _, _, _, .cons h r, s => .cons h (Reps.app r s)
theorem Reps.take : ∀ {xs : List D} {vs : List V} (n : Nat), Reps K F ω xs vs → Reps K F ω (xs.take n) (vs.take n)
  | _, _, 0, _ => .nil
  | _, _, _ + 1, .nil => .nil
  | _, _, n + 1, .cons h r => .cons h (Reps.take n r)
theorem Reps.drop : ∀ {xs : List D} {vs : List V} (n : Nat), Reps K F ω xs vs → Reps K F ω (xs.drop n) (vs.drop n)
  | _, _, 0, r => r
  | _, _, _ + 1, .nil => .nil
  | _, _, n + 1, .cons _ r => Reps.drop n r
theorem Reps.set {d : D} {v : V} (h : Rep K F ω d v) : ∀ {xs : List D} {vs : List V} (n : Nat), Reps K F ω xs vs → Reps K F ω (xs.set n d) (vs.set n v)
  | _, _, _, .nil => .nil
  | _, _, 0, .cons _ r => .cons h r
  | _, _, n + 1, .cons q r => .cons q (Reps.set h n r)

/-- what never changes -/
def Fixd (u : HO) : Prop := (∃ xs, u = .tup xs) ∨ ∃ fs, u = .xd fs
/-- what stood still stands -/
structure Le (ω ω' : Wd) : Prop where
  m : ω.m <+: ω'.m
  keepW : ∀ a, (ω.H a).isSome = true → ¬ ω.W a → ¬ ω'.W a
  rd : ∀ a u, ¬ ω.W a → Rd ω.H a u → Rd ω'.H a u
  trk : ∀ a, (ω.H a).isSome = true → (ω'.H a).isSome = true
  tup : ∀ a u, Fixd u → ω.H a = some u → ω'.H a = some u
theorem Le.refl (ω : Wd) : Le ω ω := ⟨List.prefix_refl _, fun _ _ h => h, fun _ _ _ h => h, fun _ h => h, fun _ _ _ h => h⟩
theorem Le.trans {a b c : Wd} (h : Le a b) (k : Le b c) : Le a c :=
  ⟨h.m.trans k.m, fun x hx hw => k.keepW x (h.trk x hx) (h.keepW x hx hw), fun x u hw r => k.rd x u (h.keepW x (by rcases r with r | ⟨o, r⟩ <;> simp [r]) hw) (h.rd x u hw r), fun x hx => k.trk x (h.trk x hx), fun x u f e => k.tup x u f (h.tup x u f e)⟩
theorem Rd.isSome {H : Hp} {a : Addr} {u : HO} (r : Rd H a u) : (H a).isSome = true := by rcases r with r | ⟨o, r⟩ <;> simp [r]
theorem Stl.le {a : Addr} {u : HO} (h : Stl ω a u) (l : Le ω ω') : Stl ω' a u := ⟨l.keepW a (Rd.isSome h.2) h.1, l.rd a u h.1 h.2⟩
theorem SLs.le {a : Addr} {xs : List V} (h : SLs K ω a xs) (l : Le ω ω') : SLs K ω' a xs := h.imp (·.le l) id
theorem STs.le {a : Addr} {xs : List V} (h : STs K ω a xs) (l : Le ω ω') : STs K ω' a xs := l.tup a _ (.inl ⟨_, rfl⟩) h
mutual
theorem Rep.le (l : Le ω ω') : ∀ {d : D} {v : V}, Rep K F ω d v → Rep K F ω' d v
  | _, _, .non => .non
  | _, _, .bl b => .bl b
  | _, _, .int i => .int i
  | _, _, .str s h => .str s h
  | _, _, .tup h z r => .tup (h.le l) z (Reps.le l r)
  | _, _, .lst h z r => .lst (h.le l) z (Reps.le l r)
  | _, _, .kl h z r => .kl (h.le l) z (Reps.le l r)
  | _, _, .dk h z r => .dk (h.le l) z (Reps.le l r)
  | _, _, .dt h z r => .dt (h.le l) z (Reps.le l r)
  | _, _, .ref h => .ref (by obtain ⟨t, e⟩ := l.m; rw [← e, List.getElem?_append_left (List.getElem?_eq_some_iff.mp h).1]; exact h)
  | _, _, .fn i h => .fn i h
  | _, _, .ty t => .ty t
  | _, _, .exn hF hc hf h r => .exn hF hc hf (l.tup _ _ (.inr ⟨_, rfl⟩) h) (Rep.le l r)
  | _, _, .exn0 hF hc hf => .exn0 hF hc hf
theorem Reps.le (l : Le ω ω') : ∀ {xs : List D} {vs : List V}, Reps K F ω xs vs → Reps K F ω' xs vs
  | _, _, .nil => .nil
  | _, _, .cons h r => .cons (Rep.le l h) (Reps.le l r)
end

/-- the object at a -/
def RepO (K : PySem.W.Frag) (F : Nat → Addr) (ω : Wd) (o : O) (a : Addr) : Prop := match o with
  | .lst xs => ∃ vs, ω.H a = some (.lst vs) ∧ vs.length ≤ sizeLine ∧ Reps K F ω xs vs
  | .dk ks xs => ∃ vs, ω.H a = some (.dK (ks.zip vs)) ∧ ks.length = xs.length ∧ Reps K F ω xs vs
  | .dt ks xs => ∃ vs, ω.H a = some (.dT (ks.zip vs)) ∧ ks.length = xs.length ∧ Reps K F ω xs vs
  | .dead => True
/-- the changing objects; P: what is being made outside of the evaluator's sight -/
structure HR (K : PySem.W.Frag) (F : Nat → Addr) (P : Addr → Prop) (ω : Wd) (A : AH) : Prop where
  len : ω.m.length = A.length
  nd : ω.m.Nodup
  trk : ∀ a ∈ ω.m, (ω.H a).isSome = true
  sep : ∀ a, P a → a ∉ ω.m
  ptrk : ∀ a, P a → (ω.H a).isSome = true
  ex : ∀ a, ω.W a ↔ (P a ∨ ∃ (n : Nat) (o : O), ω.m[n]? = some a ∧ A[n]? = some o ∧ o ≠ O.dead)
  obj : ∀ (n : Nat) (o : O) (a : Addr), A[n]? = some o → ω.m[n]? = some a → RepO K F ω o a
/-- what is being made is untouched -/
def Pk (P : Addr → Prop) (ω ω' : Wd) : Prop := ∀ a, P a → ω'.H a = ω.H a
theorem Pk.refl (P : Addr → Prop) (ω : Wd) : Pk P ω ω := fun _ _ => rfl
theorem Pk.trans {P : Addr → Prop} {a b c : Wd} (h : Pk P a b) (k : Pk P b c) : Pk P a c := fun x hx => (k x hx).trans (h x hx)
theorem HR.fresh {P : Addr → Prop} {A : AH} (h : HR K F P ω A) {p : Addr} (hp : ω.H p = none) : ¬ ω.W p := fun w => by
  rcases (h.ex p).mp w with q | ⟨n, o, hm, _, _⟩
  · have := h.ptrk p q; rw [hp] at this; cases this
  · have := h.trk p (List.mem_of_getElem? hm); rw [hp] at this; cases this

/-- local names -/
structure EnvR (K : PySem.W.Frag) (F : Nat → Addr) (ω : Wd) (env : Env) (σ : St) : Prop where
  len : env.length = σ.length
  at' : ∀ (i : Nat) (d : D), env[i]? = some (some d) → ∃ v : V, σ[i]? = some (some v) ∧ Rep K F ω d v
theorem EnvR.le (l : Le ω ω') {env : Env} {σ : St} (h : EnvR K F ω env σ) : EnvR K F ω' env σ := ⟨h.len, fun i d e => let ⟨v, h1, h2⟩ := h.at' i d e; ⟨v, h1, h2.le l⟩⟩
theorem EnvR.set {env : Env} {σ : St} {d : D} {v : V} (h : EnvR K F ω env σ) (i : Nat) (r : Rep K F ω d v) : EnvR K F ω (env.set i (some d)) (σ.set i (some v)) := by
  refine ⟨by simp [h.len], fun j e hj => ?_⟩
  by_cases hi : i = j
  · subst hi
    by_cases hl : i < env.length
    · rw [List.getElem?_set_self hl] at hj
      cases hj
      exact ⟨v, List.getElem?_set_self (h.len ▸ hl), r⟩
    · rw [List.getElem?_eq_none (by simpa using hl)] at hj
      cases hj
  · rw [List.getElem?_set_ne hi] at hj
    obtain ⟨u, h1, h2⟩ := h.at' j e hj
    exact ⟨u, by rw [List.getElem?_set_ne hi]; exact h1, h2⟩
theorem EnvR.wipe {env : Env} {σ : St} (h : EnvR K F ω env σ) : ∀ vs : List Nat, EnvR K F ω (wipe env vs) (L2.wipe σ vs)
  | [] => h
  | i :: vs => by
    have ih := EnvR.wipe h vs
    refine ⟨by simp only [Ev.wipe, L2.wipe, List.length_set]; exact ih.len, fun j e hj => ?_⟩
    simp only [Ev.wipe] at hj
    simp only [L2.wipe]
    by_cases hi : i = j
    · subst hi
      by_cases hl : i < (Ev.wipe env vs).length
      · rw [List.getElem?_set_self hl] at hj; cases hj
      · rw [List.getElem?_eq_none (by simpa using hl)] at hj; cases hj
    · rw [List.getElem?_set_ne hi] at hj
      obtain ⟨u, h1, h2⟩ := ih.at' j e hj
      exact ⟨u, by rw [List.getElem?_set_ne hi]; exact h1, h2⟩

/-! ### outcomes -/
/-- what an error that leaves must find -/
abbrev Xh := Nat → D → Wd → Prop
/-- whatever the machine makes of it, Φ holds behind it -/
def Out {α : Type} (K : PySem.W.Frag) (F : Nat → Addr) (U : Xh) (P : Addr → Prop) (ω : Wd) (r : Res α) (Φ : α → Wd → AH → Prop) : Prop := match r with
  | .ok a A' => ∀ ω', Le ω ω' → Pk P ω ω' → HR K F P ω' A' → Φ a ω' A'
  | .exc c d A' => ∀ ω', Le ω ω' → Pk P ω ω' → HR K F P ω' A' → U c d ω'
  | .bad => False
variable {P : Addr → Prop} {U : Xh} {α β : Type}
theorem Out.le {r : Res α} {Φ : α → Wd → AH → Prop} (l : Le ω ω') (k : Pk P ω ω') (h : Out K F U P ω r Φ) : Out K F U P ω' r Φ := by
  cases r with
  | ok a A => exact fun ω'' l' k' hr => h ω'' (l.trans l') (k.trans k') hr
  | exc _ _ _ => exact fun ω'' l' k' hr => h ω'' (l.trans l') (k.trans k') hr
  | bad => exact h
theorem Out.mapU {U' : Xh} {r : Res α} {Φ : α → Wd → AH → Prop} (f : ∀ c d ω, U c d ω → U' c d ω) (h : Out K F U P ω r Φ) : Out K F U' P ω r Φ := by
  cases r with
  | ok a A => exact h
  | exc c d A => exact fun ω' l k hr => f c d ω' (h ω' l k hr)
  | bad => exact h
theorem Out.bnd {r : Res α} {g : α → AH → Res β} {Φ : β → Wd → AH → Prop} (h : Out K F U P ω (bnd r g) Φ) : Out K F U P ω r fun a ω' A' => Out K F U P ω' (g a A') Φ := by
  cases r with
  | ok a A => exact fun ω' l k hr => Out.le l k h
  | exc _ _ _ => exact h
  | bad => exact h
theorem Out.imp {r : Res α} {Φ Ψ : α → Wd → AH → Prop} (h : Out K F U P ω r Φ) (f : ∀ a ω' A', Le ω ω' → Pk P ω ω' → HR K F P ω' A' → Φ a ω' A' → Ψ a ω' A') : Out K F U P ω r Ψ := by
  cases r with
  | ok a A => exact fun ω' l k hr => f a ω' A l k hr (h ω' l k hr)
  | exc _ _ _ => exact h
  | bad => exact h
/-- the machine has made just this -/
theorem Out.here {a : α} {A' : AH} {Φ : α → Wd → AH → Prop} (h : Out K F U P ω (.ok a A') Φ) (hr : HR K F P ω A') : Φ a ω A' := h ω (Le.refl ω) (Pk.refl P ω) hr
theorem Out.ofO {o : Option α} {A : AH} {Φ : α → Wd → AH → Prop} (h : Out K F U P ω (ofO o A) Φ) : ∃ a, o = some a ∧ Out K F U P ω (.ok a A) Φ := by
  cases o with
  | none => exact h.elim
  | some a => exact ⟨a, rfl, h⟩
theorem Out.calm {r : Res α} {Φ : α → Wd → AH → Prop} (h : Out K F U P ω (calm r) Φ) : Out K F U P ω r Φ := by
  cases r with
  | ok a A => exact h
  | exc _ _ _ => exact h.elim
  | bad => exact h
end

/-! ### a heap with one thing more; an object changed -/
section
variable {K : PySem.W.Frag} {F : Nat → Addr} {ω : Wd} {P : Addr → Prop} {A : AH}
/-- a new thing at p -/
abbrev Wd.new (ω : Wd) (p : Addr) (u : HO) : Wd := { ω with H := upd ω.H p u }
theorem rd_new {H : Hp} {p a : Addr} {u o : HO} (hp : H p = none) (r : Rd H a o) : Rd (upd H p u) a o := by
  have hne : a ≠ p := fun e => by subst e; rcases r with r | ⟨_, r⟩ <;> (rw [hp] at r; cases r)
  rcases r with r | ⟨b, r⟩
  · exact .inl (by rw [upd_ne hne]; exact r)
  · exact .inr ⟨b, by rw [upd_ne hne]; exact r⟩
theorem some_new {H : Hp} {p a : Addr} {u : HO} (h : (H a).isSome = true) : (upd H p u a).isSome = true := by
  unfold upd; split <;> simp [h]
theorem Le.new (ω : Wd) {p : Addr} {u : HO} (hp : ω.H p = none) : Le ω (ω.new p u) :=
  ⟨List.prefix_refl _, fun _ _ h => h, fun a o _ r => rd_new hp r, fun a h => some_new h, fun a xs _ h => (upd_ne (fun e => by subst e; rw [hp] at h; cases h)).trans h⟩
theorem Pk.new {p : Addr} {u : HO} (hp : ω.H p = none) (hP : ∀ a, P a → (ω.H a).isSome = true) : Pk P ω (ω.new p u) := fun a ha => by
  have hne : a ≠ p := fun e => by subst e; have := hP a ha; rw [hp] at this; cases this
  exact upd_ne hne
theorem RepO.le {ω' : Wd} {o : O} {a : Addr} (l : Le ω ω') (h : RepO K F ω o a) (e : ω'.H a = ω.H a) : RepO K F ω' o a := by
  cases o with
  | lst xs => obtain ⟨vs, h1, h2, h3⟩ := h; exact ⟨vs, e.trans h1, h2, h3.le l⟩
  | dk ks xs => obtain ⟨vs, h1, h2, h3⟩ := h; exact ⟨vs, e.trans h1, h2, h3.le l⟩
  | dt ks xs => obtain ⟨vs, h1, h2, h3⟩ := h; exact ⟨vs, e.trans h1, h2, h3.le l⟩
  | dead => trivial
theorem HR.new (h : HR K F P ω A) {p : Addr} {u : HO} (hp : ω.H p = none) : HR K F P (ω.new p u) A := by
  have hne : ∀ {a}, (ω.H a).isSome = true → a ≠ p := fun {a} z e => by subst e; rw [hp] at z; cases z
  refine ⟨h.len, h.nd, fun a ha => some_new (h.trk a ha), h.sep, fun a ha => some_new (h.ptrk a ha), h.ex, fun n o a ho hm => ?_⟩
  exact (h.obj n o a ho hm).le (Le.new ω hp) (upd_ne (hne (h.trk a (List.mem_of_getElem? hm))))
/-- a new still thing -/
theorem HR.still (h : HR K F P ω A) {p : Addr} {u : HO} (hp : ω.H p = none) : Stl (ω.new p u) p u := ⟨h.fresh hp, .inl upd_same⟩

/-- a new changing object -/
abbrev Wd.obj (ω : Wd) (p : Addr) (u : HO) : Wd := { m := ω.m ++ [p], W := fun a => ω.W a ∨ a = p, H := upd ω.H p u }
theorem Le.obj (ω : Wd) {p : Addr} {u : HO} (hp : ω.H p = none) : Le ω (ω.obj p u) :=
  ⟨List.prefix_append _ _, fun a h w z => z.elim w (fun e => by subst e; rw [hp] at h; cases h), fun a o _ r => rd_new hp r, fun a h => some_new h, fun a xs _ h => (upd_ne (fun e => by subst e; rw [hp] at h; cases h)).trans h⟩
theorem get_snoc {α : Type} {l : List α} {x y : α} {n : Nat} (h : (l ++ [x])[n]? = some y) : l[n]? = some y ∨ (n = l.length ∧ y = x) := by
  by_cases hn : n < l.length
  · rw [List.getElem?_append_left hn] at h; exact .inl h
  · by_cases e : n = l.length
    · subst e; simp at h; exact .inr ⟨rfl, h.symm⟩
    · rw [List.getElem?_eq_none (by simp; omega)] at h; cases h
theorem HR.mko (h : HR K F P ω A) {p : Addr} {u : HO} {o : O} (hp : ω.H p = none) (hd : o ≠ O.dead) (ho : RepO K F (ω.obj p u) o p) : HR K F P (ω.obj p u) (A ++ [o]) := by
  have hne : ∀ {a}, (ω.H a).isSome = true → a ≠ p := fun {a} z e => by subst e; rw [hp] at z; cases z
  have hpm : p ∉ ω.m := fun z => hne (h.trk p z) rfl
  refine ⟨by simp [h.len], ?_, fun a ha => ?_, fun a ha z => ?_, fun a ha => some_new (h.ptrk a ha), fun a => ⟨?_, ?_⟩, fun n o' a ho' hm => ?_⟩
  · exact List.nodup_append.mpr ⟨h.nd, by simp, fun a ha b hb => by simp at hb; subst hb; exact fun e => hpm (e ▸ ha)⟩
  · rcases List.mem_append.mp ha with z | z
    · exact some_new (h.trk a z)
    · simp at z; subst z; simp [upd_same]
  · rcases List.mem_append.mp z with z | z
    · exact h.sep a ha z
    · simp at z; exact hne (h.ptrk a ha) z
  · rintro (z | z)
    · rcases (h.ex a).mp z with q | ⟨n, o', q1, q2, q3⟩
      · exact .inl q
      · exact .inr ⟨n, o', by rw [List.getElem?_append_left (List.getElem?_eq_some_iff.mp q1).1]; exact q1, by rw [List.getElem?_append_left (List.getElem?_eq_some_iff.mp q2).1]; exact q2, q3⟩
    · subst z
      exact .inr ⟨ω.m.length, o, by simp, by rw [h.len]; simp, hd⟩
  · rintro (z | ⟨n, o', q1, q2, q3⟩)
    · exact .inl ((h.ex a).mpr (.inl z))
    · rcases get_snoc q1 with e1 | ⟨e1, e2⟩
      · rcases get_snoc q2 with e3 | ⟨e3, _⟩
        · exact .inl ((h.ex a).mpr (.inr ⟨n, o', e1, e3, q3⟩))
        · have := (List.getElem?_eq_some_iff.mp e1).1; rw [h.len] at this; omega
      · exact .inr e2
  · rcases get_snoc hm with e1 | ⟨e1, e2⟩
    · rcases get_snoc ho' with e3 | ⟨e3, _⟩
      · exact (h.obj n o' a e3 e1).le (Le.obj ω hp) (upd_ne (hne (h.trk a (List.mem_of_getElem? e1))))
      · have := (List.getElem?_eq_some_iff.mp e1).1; rw [h.len] at this; omega
    · rcases get_snoc ho' with e3 | ⟨e3, e4⟩
      · have := (List.getElem?_eq_some_iff.mp e3).1; rw [h.len] at e1; omega
      · subst e4; subst e2; exact ho

theorem nodup_get {α : Type} : ∀ {l : List α} {i j : Nat} {x : α}, l.Nodup → l[i]? = some x → l[j]? = some x → i = j
  | [], _, _, _, _, h, _ => by simp at h
  | y :: l, 0, 0, _, _, _, _ => rfl
  | y :: l, 0, j + 1, x, n, h, k => by
    simp at h k; subst h
    exact absurd (List.mem_of_getElem? k) (List.nodup_cons.mp n).1
  | y :: l, i + 1, 0, x, n, h, k => by
    simp at h k; subst k
    exact absurd (List.mem_of_getElem? h) (List.nodup_cons.mp n).1
  | y :: l, i + 1, j + 1, x, n, h, k => by
    exact congrArg (· + 1) (nodup_get (List.nodup_cons.mp n).2 (by simpa using h) (by simpa using k))
/-- a changing object is changed -/
abbrev Wd.chg (ω : Wd) (p : Addr) (u : HO) : Wd := { ω with H := upd ω.H p u }
theorem Le.chg (h : HR K F P ω A) {n : Nat} {o : O} {p : Addr} {u : HO} (hm : ω.m[n]? = some p) (hA : A[n]? = some o) (hd : o ≠ O.dead) : Le ω (ω.chg p u) := by
  have hw : ω.W p := (h.ex p).mpr (.inr ⟨n, o, hm, hA, hd⟩)
  refine ⟨List.prefix_refl _, fun _ _ z => z, fun a v z r => ?_, fun a z => some_new z, fun a xs f e => (upd_ne fun z => ?_).trans e⟩
  rotate_left
  · subst z
    have q := h.obj n o a hA hm
    cases o with
    | lst xs => obtain ⟨vs, h1, _⟩ := q; rw [e] at h1; rcases f with ⟨_, rfl⟩ | ⟨_, rfl⟩ <;> cases h1
    | dk ks xs => obtain ⟨vs, h1, _⟩ := q; rw [e] at h1; rcases f with ⟨_, rfl⟩ | ⟨_, rfl⟩ <;> cases h1
    | dt ks xs => obtain ⟨vs, h1, _⟩ := q; rw [e] at h1; rcases f with ⟨_, rfl⟩ | ⟨_, rfl⟩ <;> cases h1
    | dead => exact hd rfl
  have hne : a ≠ p := fun e => z (e ▸ hw)
  rcases r with r | ⟨b, r⟩
  · exact .inl ((upd_ne hne).trans r)
  · exact .inr ⟨b, (upd_ne hne).trans r⟩
theorem Pk.chg (h : HR K F P ω A) {n : Nat} {p : Addr} {u : HO} (hm : ω.m[n]? = some p) : Pk P ω (ω.chg p u) := fun a ha =>
  upd_ne fun e => h.sep a ha (e ▸ List.mem_of_getElem? hm)
theorem HR.chg (h : HR K F P ω A) {n : Nat} {o o' : O} {p : Addr} {u : HO} (hm : ω.m[n]? = some p) (hA : A[n]? = some o) (hd : o ≠ O.dead) (hd' : o' ≠ O.dead)
    (ho : RepO K F (ω.chg p u) o' p) : HR K F P (ω.chg p u) (A.set n o') := by
  have hnA : n < A.length := (List.getElem?_eq_some_iff.mp hA).1
  refine ⟨by simp [h.len], h.nd, fun a ha => some_new (h.trk a ha), h.sep, fun a ha => some_new (h.ptrk a ha), fun a => ?_, fun k oo a ho' hm' => ?_⟩
  · refine (h.ex a).trans ⟨?_, ?_⟩
    · rintro (z | ⟨k, oo, q1, q2, q3⟩)
      · exact .inl z
      · by_cases e : n = k
        · subst e; exact .inr ⟨n, o', q1, List.getElem?_set_self hnA, hd'⟩
        · exact .inr ⟨k, oo, q1, by rw [List.getElem?_set_ne e]; exact q2, q3⟩
    · rintro (z | ⟨k, oo, q1, q2, q3⟩)
      · exact .inl z
      · by_cases e : n = k
        · subst e; exact .inr ⟨n, o, q1, hA, hd⟩
        · exact .inr ⟨k, oo, q1, by rw [List.getElem?_set_ne e] at q2; exact q2, q3⟩
  · by_cases e : n = k
    · subst e
      rw [List.getElem?_set_self hnA] at ho'
      cases ho'
      rw [hm] at hm'; cases hm'
      exact ho
    · rw [List.getElem?_set_ne e] at ho'
      refine (h.obj k oo a ho' hm').le (Le.chg h hm hA hd) (upd_ne fun z => e ?_)
      subst z
      exact nodup_get h.nd hm hm'
end

/-! ### an error in hand: other addresses -/
section
variable {K : PySem.W.Frag} {F F' : Nat → Addr} {ω : Wd}
mutual
theorem Rep.noX (hF : F 2000000 ≠ 1) : ∀ {d : D} {v : V}, Rep K F ω d v → D.noX d = true
  | _, _, .non => rfl
  | _, _, .bl b => rfl
  | _, _, .int i => rfl
  | _, _, .str s h => rfl
  | _, _, .tup _ _ r => by simp only [D.noX]; exact Reps.noX hF r
  | _, _, .lst _ _ r => by simp only [D.noX]; exact Reps.noX hF r
  | _, _, .kl _ _ r => by simp only [D.noX]; exact Reps.noX hF r
  | _, _, .dk _ _ r => by simp only [D.noX]; exact Reps.noX hF r
  | _, _, .dt _ _ r => by simp only [D.noX]; exact Reps.noX hF r
  | _, _, .ref h => rfl
  | _, _, .fn i h => rfl
  | _, _, .ty t => rfl
  | _, _, .exn z _ _ _ _ => absurd z.1 hF
  | _, _, .exn0 z _ _ => absurd z.1 hF
theorem Reps.noX (hF : F 2000000 ≠ 1) : ∀ {d : List D} {v : List V}, Reps K F ω d v → D.noXs d = true
  | _, _, .nil => rfl
  | _, _, .cons r rs => by simp only [D.noXs, Bool.and_eq_true]; exact ⟨Rep.noX hF r, Reps.noX hF rs⟩
end
mutual
theorem Rep.chF (hF : ∀ i, i < 1000000 → F' i = F i) : ∀ {d : D} {v : V}, D.noX d = true → Rep K F ω d v → Rep K F' ω d v
  | _, _, _, .non => .non
  | _, _, _, .bl b => .bl b
  | _, _, _, .int i => .int i
  | _, _, _, .str s h => .str s h
  | _, _, e, .tup h z r => .tup h z (Reps.chF hF (by simpa only [D.noX] using e) r)
  | _, _, e, .lst h z r => .lst h z (Reps.chF hF (by simpa only [D.noX] using e) r)
  | _, _, e, .kl h z r => .kl h z (Reps.chF hF (by simpa only [D.noX] using e) r)
  | _, _, e, .dk h z r => .dk h z (Reps.chF hF (by simpa only [D.noX] using e) r)
  | _, _, e, .dt h z r => .dt h z (Reps.chF hF (by simpa only [D.noX] using e) r)
  | _, _, _, .ref h => .ref h
  | _, _, _, .fn i h => by rw [← hF i h]; exact .fn i h
  | _, _, _, .ty t => .ty t
  | _, _, e, .exn _ _ _ _ _ => by simp [D.noX] at e
  | _, _, e, .exn0 _ _ _ => by simp [D.noX] at e
theorem Reps.chF (hF : ∀ i, i < 1000000 → F' i = F i) : ∀ {d : List D} {v : List V}, D.noXs d = true → Reps K F ω d v → Reps K F' ω d v
  | _, _, _, .nil => .nil
  | _, _, e, .cons r rs => by
    simp only [D.noXs, Bool.and_eq_true] at e
    exact .cons (Rep.chF hF e.1 r) (Reps.chF hF e.2 rs)
end
/-- the objects hold no errors -/
def O.noX : O → Bool
  | .lst xs => D.noXs xs
  | .dk _ vs => D.noXs vs
  | .dt _ vs => D.noXs vs
  | .dead => true
theorem RepO.noX (hF : F 2000000 ≠ 1) {o : O} {a : Addr} (h : RepO K F ω o a) : O.noX o = true := by
  cases o with
  | lst xs => obtain ⟨vs, _, _, r⟩ := h; exact r.noX hF
  | dk ks xs => obtain ⟨vs, _, _, r⟩ := h; exact r.noX hF
  | dt ks xs => obtain ⟨vs, _, _, r⟩ := h; exact r.noX hF
  | dead => rfl
theorem RepO.chF (hF : ∀ i, i < 1000000 → F' i = F i) {o : O} {a : Addr} (e : O.noX o = true) (h : RepO K F ω o a) : RepO K F' ω o a := by
  cases o with
  | lst xs => obtain ⟨vs, h1, h2, r⟩ := h; exact ⟨vs, h1, h2, r.chF hF e⟩
  | dk ks xs => obtain ⟨vs, h1, h2, r⟩ := h; exact ⟨vs, h1, h2, r.chF hF e⟩
  | dt ks xs => obtain ⟨vs, h1, h2, r⟩ := h; exact ⟨vs, h1, h2, r.chF hF e⟩
  | dead => trivial
theorem HR.noX {P : Addr → Prop} {A : AH} (hF : F 2000000 ≠ 1) (h : HR K F P ω A) : ∀ (n : Nat) (o : O), A[n]? = some o → O.noX o = true := fun n o e => by
  have hl : n < ω.m.length := by rw [h.len]; exact (List.getElem?_eq_some_iff.mp e).1
  exact (h.obj n o _ e (List.getElem?_eq_getElem hl)).noX hF
theorem HR.chF {P : Addr → Prop} {A : AH} (hF : ∀ i, i < 1000000 → F' i = F i) (hx : ∀ (n : Nat) (o : O), A[n]? = some o → O.noX o = true) (h : HR K F P ω A) : HR K F' P ω A :=
  ⟨h.len, h.nd, h.trk, h.sep, h.ptrk, h.ex, fun n o a e m => (h.obj n o a e m).chF hF (hx n o e)⟩
end
end Ev

set_option maxRecDepth 100000
/-! Ev3: the operators, by values -/
namespace Ev
open PySem PySem.Spec L2

section
variable {K : PySem.W.Frag} {F : Nat → Addr} {U : Xh} {ω : Wd} {P : Addr → Prop} {A : AH}
/-- the end of an expression -/
abbrev fin (K : PySem.W.Frag) (F : Nat → Addr) (Q : VK) : D → Wd → AH → Prop := fun d ω' _ => ∀ v, Rep K F ω' d v → Q v ω'.H
abbrev finB (Q : Bool → Hp → Prop) : Bool → Wd → AH → Prop := fun b ω' _ => Q b ω'.H

theorem Out.val {d : D} {Q : VK} {v : V} (h : Out K F U P ω (.ok d A) (fin K F Q)) (hr : HR K F P ω A) (r : Rep K F ω d v) : Q v ω.H := h.here hr v r
/-- a new list, a new tuple -/
theorem Out.newL {xs : List D} {vs : List V} {Q : VK} (h : Out K F U P ω (.ok (.lst xs) A) (fin K F Q)) (hr : HR K F P ω A) (r : Reps K F ω xs vs) (l : vs.length ≤ sizeLine) (p : Addr) (hp : ω.H p = none) :
    Q (.ref p) (upd ω.H p (.lst vs)) :=
  h (ω.new p (.lst vs)) (Le.new ω hp) (Pk.new hp hr.ptrk) (hr.new hp) _ (.lst (hr.still hp) l (r.le (Le.new ω hp)))
theorem Out.newT {xs : List D} {vs : List V} {Q : VK} (h : Out K F U P ω (.ok (.tup xs) A) (fin K F Q)) (hr : HR K F P ω A) (r : Reps K F ω xs vs) (l : vs.length ≤ sizeLine) (p : Addr) (hp : ω.H p = none) :
    Q (.ref p) (upd ω.H p (.tup vs)) :=
  h (ω.new p (.tup vs)) (Le.new ω hp) (Pk.new hp hr.ptrk) (hr.new hp) _ (.tup upd_same l (r.le (Le.new ω hp)))

/-! ### looks through a changing object -/
def View (K : PySem.W.Frag) (F : Nat → Addr) (ω : Wd) : D → V → Prop
  | .lst xs, v => ∃ a vs, v = .ref a ∧ Rd ω.H a (.lst vs) ∧ vs.length ≤ sizeLine ∧ Reps K F ω xs vs
  | .dk ks xs, v => ∃ a vs, v = .ref a ∧ Rd ω.H a (.dK (ks.zip vs)) ∧ ks.length = xs.length ∧ Reps K F ω xs vs
  | .dt ks xs, v => ∃ a vs, v = .ref a ∧ Rd ω.H a (.dT (ks.zip vs)) ∧ ks.length = xs.length ∧ Reps K F ω xs vs
  | d, v => Rep K F ω d v
theorem view (hr : HR K F P ω A) : ∀ {d : D} {v : V}, Rep K F ω d v → View K F ω (shal A d) v
  | _, _, .non => .non
  | _, _, .bl b => .bl b
  | _, _, .int i => .int i
  | _, _, .str s h => .str s h
  | _, _, .tup h z r => .tup h z r
  | _, _, .lst h z r => ⟨_, _, rfl, h.2, z, r⟩
  | _, _, .kl h z r => .kl h z r
  | _, _, .dk h z r => ⟨_, _, rfl, h.2, z, r⟩
  | _, _, .dt h z r => ⟨_, _, rfl, h.2, z, r⟩
  | _, _, .ref (n := n) (a := a) h => by
    have e0 : shal A (.ref n) = (match A[n]? with
      | some (.lst xs) => .lst xs
      | some (.dk ks vs) => .dk ks vs
      | some (.dt ks vs) => .dt ks vs
      | _ => .ref n) := rfl
    rw [e0]
    cases e : A[n]? with
    | none => exact Rep.ref h
    | some o =>
      have q := hr.obj n o a e h
      cases o with
      | lst xs => obtain ⟨vs, h1, h2, h3⟩ := q; exact ⟨_, _, rfl, .inl h1, h2, h3⟩
      | dk ks xs => obtain ⟨vs, h1, h2, h3⟩ := q; exact ⟨_, _, rfl, .inl h1, h2, h3⟩
      | dt ks xs => obtain ⟨vs, h1, h2, h3⟩ := q; exact ⟨_, _, rfl, .inl h1, h2, h3⟩
      | dead => exact Rep.ref h
  | _, _, .fn i h => .fn i h
  | _, _, .ty t => .ty t
  | _, _, .exn a b c d e => .exn a b c d e
  | _, _, .exn0 a b c => .exn0 a b c
theorem Rep.int_inv {i : Int} {v : V} (h : Rep K F ω (.int i) v) : v = .int i := by cases h; rfl
theorem Rep.bl_inv {i : Bool} {v : V} (h : Rep K F ω (.bl i) v) : v = .bl i := by cases h; rfl
theorem Rep.str_inv {i : Str} {v : V} (h : Rep K F ω (.str i) v) : v = .str i ∧ i.length ≤ sizeLine := by cases h with | str _ h => exact ⟨rfl, h⟩
theorem Rep.non_inv {v : V} (h : Rep K F ω .non v) : v = .non := by cases h; rfl
theorem Rep.tup_inv {xs : List D} {v : V} (h : Rep K F ω (.tup xs) v) : ∃ a vs, v = .ref a ∧ STs K ω a vs ∧ vs.length ≤ sizeLine ∧ Reps K F ω xs vs := by
  cases h with | tup h z r => exact ⟨_, _, rfl, h, z, r⟩
theorem Rep.kl_inv {xs : List D} {v : V} (h : Rep K F ω (.kl xs) v) : ∃ a vs, v = .ref a ∧ SLs K ω a vs ∧ vs.length ≤ sizeLine ∧ Reps K F ω xs vs := by
  cases h with | kl h z r => exact ⟨_, _, rfl, h, z, r⟩
theorem Rep.lst_inv {xs : List D} {v : V} (h : Rep K F ω (.lst xs) v) : ∃ a vs, v = .ref a ∧ Stl ω a (.lst vs) ∧ vs.length ≤ sizeLine ∧ Reps K F ω xs vs := by
  cases h with | lst h z r => exact ⟨_, _, rfl, h, z, r⟩
theorem Rep.ref_inv {n : Nat} {v : V} (h : Rep K F ω (.ref n) v) : ∃ a, v = .ref a ∧ ω.m[n]? = some a := by
  cases h with | ref h => exact ⟨_, rfl, h⟩
theorem Rep.ty_inv {t : String} {v : V} (h : Rep K F ω (.ty t) v) : v = .ty t := by cases h; rfl
/-- all are ints -/
theorem intsO_rep : ∀ {xs : List D} {ns : List Int} {vs : List V}, intsO xs = some ns → Reps K F ω xs vs → vs = ns.map V.int
  | [], ns, _, h, .nil => by simp [intsO] at h; subst h; rfl
  | x :: xs, ns, _, h, .cons hx r => by
    cases hx with
    | int i =>
      simp only [intsO, Option.map_eq_some_iff] at h
      obtain ⟨ms, h1, h2⟩ := h
      subst h2
      rw [intsO_rep h1 r]; rfl
    | _ => simp [intsO] at h
theorem blsO_rep : ∀ {xs : List D} {ns : List Bool} {vs : List V}, blsO xs = some ns → Reps K F ω xs vs → vs = ns.map V.bl
  | [], ns, _, h, .nil => by simp [blsO] at h; subst h; rfl
  | x :: xs, ns, _, h, .cons hx r => by
    cases hx with
    | bl i =>
      simp only [blsO, Option.map_eq_some_iff] at h
      obtain ⟨ms, h1, h2⟩ := h
      subst h2
      rw [blsO_rep h1 r]; rfl
    | _ => simp [blsO] at h
theorem keyO_rep {d : D} {k : Key} {v : V} (h : keyO d = some k) (r : Rep K F ω d v) : v = kV k := by
  cases r <;> simp [keyO] at h <;> (subst h; rfl)
theorem keysO_rep : ∀ {xs : List D} {ks : List Key} {vs : List V}, keysO xs = some ks → Reps K F ω xs vs → vs = ks.map kV
  | [], ns, _, h, .nil => by simp [keysO] at h; subst h; rfl
  | x :: xs, ns, _, h, .cons hx r => by
    simp only [keysO] at h
    cases e1 : keyO x with
    | none => simp [e1] at h
    | some k =>
      cases e2 : keysO xs with
      | none => simp [e1, e2] at h
      | some ks =>
        simp [e1, e2] at h
        subst h
        rw [keyO_rep e1 hx, keysO_rep e2 r]; rfl
end

theorem sizeLine_eq' : sizeLine = lim := sizeLine_eq
/-! ### two-place operators -/
/-- by values: the evaluator's g -/
def rM2 (K : PySem.W.Frag) (F : Nat → Addr) (U : Xh) (g : D → D → AH → Res D) : R2 := fun x y H Q =>
  ∃ P ω A d e, ω.H = H ∧ HR K F P ω A ∧ Rep K F ω d x ∧ Rep K F ω e y ∧ Out K F U P ω (g d e A) (fin K F Q)
section
variable {X : Cx} {F : Nat → Addr} {U : Xh}
theorem Rd.lst_at {P : Program} {w : World} {H : Hp} {h : Heap} {l : Addr} {xs : List V} (r : Rd H l (.lst xs)) (x : HOk P w H h) : xs.length ≤ sizeLine ∧ ∃ (its : List Value) (n : Nat), Vals xs its ∧ xs.length = its.length ∧ h.get? l = some { cls := .type "list", data := .seq its.toArray n } := by
  obtain ⟨z, its, n, rr, e⟩ := r.ok x
  exact ⟨z, its, n, rr, rr.length, e⟩
def rCatR : R2 := fun x y H Q => ∃ l b xs zs, x = .ref l ∧ y = .ref b ∧ Rd H l (.lst xs) ∧ Rd H b (.lst zs) ∧ xs.length + zs.length ≤ sizeLine ∧ ∀ p, H p = none → Q (.ref p) (upd H p (.lst (xs ++ zs)))
theorem op_catR : OpR X (binaryOp .Add) rCatR := by
  intro pins s σ H x y v u Q I rx ry h
  obtain ⟨l, b, xs, zs, rfl, rfl, hH, hB, hz, q⟩ := h
  cases rx
  cases ry
  obtain ⟨z, its, n, r, hl, e⟩ := Rd.lst_at hH I.hok
  obtain ⟨z2, its2, n2, r2, hl2, e2⟩ := Rd.lst_at hB I.hok
  refine PySem.P.add_list e e2 ?_ (by rw [List.size_toArray, List.size_toArray]; omega)
  have ea : its.toArray ++ its2.toArray = (its ++ its2).toArray := by simp
  rw [ea]
  exact ⟨.ref _, _, I.lnew (t' := s.toks) (r.append r2) (by rw [List.length_append]; omega), rfl, q _ I.fresh⟩

theorem op_addM : OpR X (binaryOp .Add) (rM2 X.K F U fun x y A => ofO (binO A .add x y) A) := by
  intro pins s σ H x y v u Q I rx ry h
  obtain ⟨P, ω, A, d, e, rfl, hr, rd, re, o⟩ := h
  obtain ⟨r, e1, o⟩ := o.ofO
  have vd := view hr rd
  have ve := view hr re
  have e1 : addO (shal A d) (shal A e) = some r := e1
  revert e1 vd ve
  generalize shal A d = d'
  generalize shal A e = e'
  intro vd ve e1
  unfold addO at e1
  split at e1
  · cases e1
    obtain rfl := Rep.int_inv vd
    obtain rfl := Rep.int_inv ve
    exact op_add pins s σ _ _ _ v u Q I rx ry ⟨_, _, rfl, rfl, o.val hr (.int _)⟩
  · split at e1
    · rename_i hl
      cases e1
      obtain ⟨rfl, z1⟩ := Rep.str_inv vd
      obtain ⟨rfl, z2⟩ := Rep.str_inv ve
      rw [← sizeLine_eq'] at hl
      exact op_add_str pins s σ _ _ _ v u Q I rx ry ⟨_, _, rfl, rfl, hl, o.val hr (.str _ (by rw [Str.length_append]; exact hl))⟩
    · cases e1
  · split at e1
    · rename_i hl
      cases e1
      have vo := ve
      have wo := vd
      obtain ⟨a, vs, rfl, s1, z1, r1⟩ := Rep.tup_inv vd
      obtain ⟨b, us, rfl, s2, z2, r2⟩ := Rep.tup_inv ve
      have hl' : vs.length + us.length ≤ sizeLine := by rw [sizeLine_eq, ← r1.len, ← r2.len]; exact hl
      refine op_catA pins s σ _ _ _ v u Q I rx ry ⟨a, b, vs, us, rfl, rfl, s1.sq, s2.sq, hl', fun e => ?_, fun e1 e2 => ?_, fun e1 e2 p hp => ?_⟩
      · subst e; cases r1; exact o.val hr vo
      · subst e2; cases r2; rw [List.append_nil] at o; exact o.val hr wo
      · exact o.newT hr (r1.app r2) (by rw [List.length_append]; exact hl') p hp
    · cases e1
  · split at e1
    · rename_i hl
      cases e1
      obtain ⟨a, vs, rfl, s1, z1, r1⟩ := vd
      obtain ⟨b, us, rfl, s2, z2, r2⟩ := ve
      have hl' : vs.length + us.length ≤ sizeLine := by rw [sizeLine_eq, ← r1.len, ← r2.len]; exact hl
      exact op_catR pins s σ _ _ _ v u Q I rx ry ⟨a, b, vs, us, rfl, rfl, s1, s2, hl', fun p hp => o.newL hr (r1.app r2) (by rw [List.length_append]; exact hl') p hp⟩
    · cases e1
  · cases e1
def Bop.op : Bop → Operator
  | .add => .Add
  | .sub => .Sub
  | .mul => .Mult
  | .mod => .Mod
  | .fdiv => .FloorDiv
  | .pow => .Pow
/-- two ints in -/
theorem int2_rep {K : PySem.W.Frag} {ω : Wd} {i j : Int} {x y : V} (h : Rep K F ω (.int i) x) (k : Rep K F ω (.int j) y) : x = .int i ∧ y = .int j := ⟨h.int_inv, k.int_inv⟩
theorem Reps.rep {K : PySem.W.Frag} {ω : Wd} {xs : List D} {vs : List V} (r : Reps K F ω xs vs) : ∀ n : Nat, Reps K F ω (List.replicate n xs).flatten (List.replicate n vs).flatten
  | 0 => .nil
  | n + 1 => by
    rw [List.replicate_succ, List.replicate_succ, List.flatten_cons, List.flatten_cons]
    exact r.app (Reps.rep r n)
theorem op_binM (op : Bop) : OpR X (binaryOp op.op) (rM2 X.K F U fun x y A => ofO (binO A op x y) A) := by
  intro pins s σ H x y v u Q I rx ry h
  have h0 := h
  obtain ⟨P, ω, A, d, e, rfl, hr, rd, re, o⟩ := h
  obtain ⟨r, e1, o⟩ := o.ofO
  unfold binO at e1
  split at e1
  · exact op_addM pins s σ _ x y v u Q I rx ry h0
  · cases e1
    obtain ⟨rfl, rfl⟩ := int2_rep rd re
    exact op_sub pins s σ _ _ _ v u Q I rx ry ⟨_, _, rfl, rfl, o.val hr (.int _)⟩
  · split at e1
    · rename_i hm
      cases e1
      obtain ⟨rfl, rfl⟩ := int2_rep rd re
      exact op_mul pins s σ _ _ _ v u Q I rx ry ⟨_, _, rfl, rfl, hm, o.val hr (.int _)⟩
    · cases e1
  · rename_i xs k
    split at e1
    · rename_i hm
      cases e1
      obtain rfl := Rep.int_inv re
      obtain ⟨a, vs, rfl, s1, l, r⟩ := Rep.tup_inv rd
      have hne : vs ≠ [] := fun z => by
        have h := r.len
        rw [z, List.length_nil, List.length_eq_zero_iff] at h
        exact hm.1 h
      have hl : vs.length ≤ 1000 := by rw [← r.len]; exact hm.2.2.2
      refine op_repT pins s σ _ _ _ v u Q I rx ry ⟨a, k, vs, rfl, rfl, s1.sq, hne, hm.2.1, hm.2.2.1, hl, fun p hp => o.newT hr (r.rep k.toNat) ?_ p hp⟩
      rw [List.length_flatten, List.map_replicate, List.sum_replicate_nat, sizeLine_eq]
      have h1 : k.toNat ≤ 1000 := by omega
      exact Nat.le_trans (Nat.mul_le_mul h1 hl) (by decide)
    · cases e1
  · split at e1
    · rename_i hm
      cases e1
      obtain ⟨rfl, rfl⟩ := int2_rep rd re
      exact op_mod pins s σ _ _ _ v u Q I rx ry ⟨_, _, rfl, rfl, hm, o.val hr (.int _)⟩
    · cases e1
  · split at e1
    · rename_i hm
      cases e1
      obtain ⟨rfl, rfl⟩ := int2_rep rd re
      exact op_fdiv pins s σ _ _ _ v u Q I rx ry ⟨_, _, rfl, rfl, hm, o.val hr (.int _)⟩
    · cases e1
  · split at e1
    · rename_i hm
      cases e1
      obtain ⟨rfl, rfl⟩ := int2_rep rd re
      exact op_pow pins s σ _ _ _ v u Q I rx ry ⟨_, _, rfl, rfl, hm, o.val hr (.int _)⟩
    · cases e1
  · cases e1

/-! ### comparisons -/
mutual
theorem D.py_eqv : ∀ {n m : Nat} {x y : D}, D.flatN n x = true → D.flatN m y = true → PyData.eqv (D.py x) (D.py y) = D.eqv x y
  | _, _, .non, y, h, k => by cases y <;> simp_all [D.py, D.eqv, PyData.eqv, D.flatN]
  | _, _, .bl b, y, h, k => by cases y <;> simp_all [D.py, D.eqv, PyData.eqv, D.flatN]
  | _, _, .int i, y, h, k => by cases y <;> simp_all [D.py, D.eqv, PyData.eqv, D.flatN]
  | _, _, .str s, y, h, k => by cases y <;> simp_all [D.py, D.eqv, PyData.eqv, D.flatN]
  | 0, _, .tup xs, y, h, k => by simp [D.flatN] at h
  | 0, _, .lst xs, y, h, k => by simp [D.flatN] at h
  | n + 1, m, .tup xs, y, h, k => by
    cases y with
    | tup ys =>
      cases m with
      | zero => simp [D.flatN] at k
      | succ m => simp only [D.flatN] at h k; simp only [D.py, D.eqv, PyData.eqv]; exact D.pys_eqv h k
    | _ => simp_all [D.py, D.eqv, PyData.eqv, D.flatN]
  | n + 1, m, .lst xs, y, h, k => by
    cases y with
    | lst ys =>
      cases m with
      | zero => simp [D.flatN] at k
      | succ m => simp only [D.flatN] at h k; simp only [D.py, D.eqv, PyData.eqv]; exact D.pys_eqv h k
    | _ => simp_all [D.py, D.eqv, PyData.eqv, D.flatN]
  | _, _, .kl _, _, h, _ => by simp [D.flatN] at h
  | _, _, .dk _ _, _, h, _ => by simp [D.flatN] at h
  | _, _, .dt _ _, _, h, _ => by simp [D.flatN] at h
  | _, _, .ref _, _, h, _ => by simp [D.flatN] at h
  | _, _, .fn _, _, h, _ => by simp [D.flatN] at h
  | _, _, .ty _, _, h, _ => by simp [D.flatN] at h
theorem D.pys_eqv : ∀ {n m : Nat} {x y : List D}, D.flatNs n x = true → D.flatNs m y = true → PyData.eqvAll (D.pys x) (D.pys y) = D.eqvs x y
  | _, _, [], [], _, _ => rfl
  | _, _, [], _ :: _, _, _ => rfl
  | _, _, _ :: _, [], _, _ => rfl
  | n, m, x :: xs, y :: ys, h, k => by
    simp only [D.flatNs, Bool.and_eq_true] at h k
    simp only [D.pys, PyData.eqvAll, D.eqvs]
    rw [D.py_eqv h.1 k.1, D.pys_eqv h.2 k.2]
end
mutual
theorem D.py_lay : ∀ {n : Nat} {x : D}, D.flatN n x = true → (D.py x).canLay0 = true ∧ (D.py x).depth ≤ n
  | _, .non, _ => by simp [D.py, PyData.canLay0, PyData.depth]
  | _, .bl _, _ => by simp [D.py, PyData.canLay0, PyData.depth]
  | _, .int _, _ => by simp [D.py, PyData.canLay0, PyData.depth]
  | _, .str s, h => by simp [D.flatN] at h; simp [D.py, PyData.canLay0, PyData.depth, h]
  | 0, .tup xs, h => by simp [D.flatN] at h
  | 0, .lst xs, h => by simp [D.flatN] at h
  | n + 1, .tup xs, h => by
    simp only [D.flatN] at h
    obtain ⟨h1, h2⟩ := D.pys_lay h
    simp only [D.py, PyData.canLay0, PyData.depth]
    exact ⟨h1, by omega⟩
  | n + 1, .lst xs, h => by
    simp only [D.flatN] at h
    obtain ⟨h1, h2⟩ := D.pys_lay h
    simp only [D.py, PyData.canLay0, PyData.depth]
    exact ⟨h1, by omega⟩
  | _, .kl _, h => by simp [D.flatN] at h
  | _, .dk _ _, h => by simp [D.flatN] at h
  | _, .dt _ _, h => by simp [D.flatN] at h
  | _, .ref _, h => by simp [D.flatN] at h
  | _, .fn _, h => by simp [D.flatN] at h
  | _, .ty _, h => by simp [D.flatN] at h
theorem D.pys_lay : ∀ {n : Nat} {x : List D}, D.flatNs n x = true → PyData.canLayAll0 (D.pys x) = true ∧ PyData.depthAll (D.pys x) ≤ n
  | _, [], _ => by simp [D.pys, PyData.canLayAll0, PyData.depthAll]
  | n, x :: xs, h => by
    simp only [D.flatNs, Bool.and_eq_true] at h
    obtain ⟨h1, h2⟩ := D.py_lay h.1
    obtain ⟨h3, h4⟩ := D.pys_lay h.2
    simp only [D.pys, PyData.canLayAll0, PyData.depthAll, h1, h3]
    exact ⟨rfl, by omega⟩
end
theorem D.py_shaped {x : D} (h : D.flatN 60 x = true) : SeqAt.shaped (D.py x) = true := by
  obtain ⟨h1, h2⟩ := D.py_lay h
  show ((D.py x).canLay0 && decide ((D.py x).depth ≤ 64)) = true
  rw [h1, decide_eq_true (by omega)]; rfl
section
variable {K : PySem.W.Frag} {ω : Wd}
mutual
theorem Rep.dp : ∀ {n : Nat} {d : D} {v : V}, D.flatN n d = true → Rep K F ω d v → Dp K ω.H v (D.py d)
  | _, _, _, _, .non => by simp only [D.py]; exact .non
  | _, _, _, _, .bl b => by simp only [D.py]; exact .bl b
  | _, _, _, _, .int i => by simp only [D.py]; exact .int i
  | _, _, _, _, .str s h => by simp only [D.py]; exact .str s
  | 0, _, _, h, .tup _ _ _ => by simp [D.flatN] at h
  | 0, _, _, h, .lst _ _ _ => by simp [D.flatN] at h
  | n + 1, _, _, h, .tup s _ r => by simp only [D.flatN] at h; simp only [D.py]; exact .tup s.sq (Reps.dp h r)
  | n + 1, _, _, h, .lst s _ r => by simp only [D.flatN] at h; simp only [D.py]; exact .lst (.inl s.2) (Reps.dp h r)
  | _, _, _, h, .kl _ _ _ => by simp [D.flatN] at h
  | _, _, _, h, .dk _ _ _ => by simp [D.flatN] at h
  | _, _, _, h, .dt _ _ _ => by simp [D.flatN] at h
  | _, _, _, h, .ref _ => by simp [D.flatN] at h
  | _, _, _, h, .fn _ _ => by simp [D.flatN] at h
  | _, _, _, h, .ty _ => by simp [D.flatN] at h
  | _, _, _, h, .exn _ _ _ _ _ => by simp [D.flatN] at h
  | _, _, _, h, .exn0 _ _ _ => by simp [D.flatN] at h
theorem Reps.dp : ∀ {n : Nat} {d : List D} {v : List V}, D.flatNs n d = true → Reps K F ω d v → DpAll K ω.H v (D.pys d)
  | _, _, _, _, .nil => by simp only [D.pys]; exact .nil
  | n, _, _, h, .cons r rs => by
    simp only [D.flatNs, Bool.and_eq_true] at h
    simp only [D.pys]
    exact .cons (Rep.dp h.1 r) (Reps.dp h.2 rs)
end
theorem View.dp {d : D} {v : V} (h : D.flatN 60 d = true) (r : View K F ω d v) : Dp K ω.H v (D.py d) := by
  cases d with
  | lst xs =>
    obtain ⟨a, vs, rfl, s, _, r⟩ := r
    simp only [D.flatN] at h; simp only [D.py]
    exact .lst (.inl s) (r.dp h)
  | dk _ _ => simp [D.flatN] at h
  | dt _ _ => simp [D.flatN] at h
  | _ => exact Rep.dp h r
end
end
end Ev

set_option maxRecDepth 100000
/-! Ev4: comparisons, truth, subscripts, by values -/
namespace Ev
open PySem PySem.Spec L2

theorem lexLt_eq : ∀ a b : List Int, lexLt a b = HT.lexLt a b
  | [], [] => rfl
  | [], _ :: _ => rfl
  | _ :: _, [] => rfl
  | x :: xs, y :: ys => by simp only [lexLt, HT.lexLt, lexLt_eq xs ys]
theorem any_py {d : D} (hd : D.flatN 60 d = true) : ∀ {n : Nat} {xs : List D}, D.flatNs n xs = true → (D.pys xs).any (fun z => PyData.eqv z (D.py d)) = xs.any fun y => D.eqv y d
  | _, [], _ => rfl
  | n, x :: xs, h => by
    simp only [D.flatNs, Bool.and_eq_true] at h
    simp only [D.pys, List.any_cons, D.py_eqv h.1 hd, any_py hd h.2]
section
variable {κ : Type} [DecidableEq κ] {K : PySem.W.Frag} {F : Nat → Addr} {U : Xh} {ω : Wd}
theorem dget_some {k : κ} : ∀ {ks : List κ} {xs : List D} {vs : List V} {d : D}, dget k ks xs = some d → Reps K F ω xs vs → ∃ v, valV (ks.zip vs) k = some v ∧ Rep K F ω d v
  | [], _, _, d, h, _ => by simp [dget] at h
  | _ :: _, [], _, d, h, _ => by simp [dget] at h
  | j :: ks, x :: xs, _, d, h, .cons hx r => by
    simp only [dget] at h
    by_cases e : j = k
    · rw [if_pos e] at h
      cases h
      exact ⟨_, by rw [List.zip_cons_cons]; exact valV_pos e, hx⟩
    · rw [if_neg e] at h
      obtain ⟨v, h1, h2⟩ := dget_some h r
      exact ⟨v, by rw [List.zip_cons_cons, valV_neg e]; exact h1, h2⟩
theorem dget_none {k : κ} : ∀ {ks : List κ} {xs : List D} {vs : List V}, dget k ks xs = none → Reps K F ω xs vs → valV (ks.zip vs) k = none
  | [], _, _, h, _ => rfl
  | _ :: _, [], _, h, .nil => rfl
  | j :: ks, x :: xs, _, h, .cons hx r => by
    simp only [dget] at h
    by_cases e : j = k
    · rw [if_pos e] at h; cases h
    · rw [if_neg e] at h
      rw [List.zip_cons_cons, valV_neg e]
      exact dget_none h r
theorem dget_isSome {k : κ} {ks : List κ} {xs : List D} {vs : List V} (r : Reps K F ω xs vs) : (dget k ks xs).isSome = (valV (ks.zip vs) k).isSome := by
  cases e : dget k ks xs with
  | none => rw [dget_none e r]; rfl
  | some d => obtain ⟨v, h, _⟩ := dget_some e r; rw [h]; rfl
end
def Cop.op : Cop → CmpOp
  | .eq => .Eq
  | .ne => .NotEq
  | .lt => .Lt
  | .le => .LtE
  | .gt => .Gt
  | .ge => .GtE
  | .isin => .In
  | .notin => .NotIn
section
variable {X : Cx} {F : Nat → Addr} {U : Xh}
/-- x in t, t a tuple of data -/
def rInT (K : PySem.W.Frag) (neg : Bool) : R2 := fun x y H Q => ∃ d ds, Dp K H x d ∧ Dp K H y (.tuple ds) ∧ SeqAt.shaped d = true ∧ SeqAt.shaped (.tuple ds) = true ∧ Q (.bl ((ds.any fun z => PyData.eqv z d) != neg)) H
theorem op_inT (hu : X.A.units + 65 < cLine) : OpR X (compareOp .In) (rInT X.K false) := by
  intro pins s σ H x y v u Q I rx ry h
  obtain ⟨d, ds, hd, he, sd, se, q⟩ := h
  obtain ⟨as, r1⟩ := Dp.reads I d x v hd rx
  obtain ⟨bs, r2⟩ := Dp.reads I (.tuple ds) y u he ry
  exact SeqAt.in_tuple_reads r2 r1 (SeqAt.canLay_of_shaped se) (SeqAt.canLay_of_shaped sd) (PyProof.Rows.room_in_shaped sd hu) ⟨.bl _, H, I, rfl, by simpa using q⟩
theorem op_notInT (hu : X.A.units + 65 < cLine) : OpR X (compareOp .NotIn) (rInT X.K true) := by
  intro pins s σ H x y v u Q I rx ry h
  obtain ⟨d, ds, hd, he, sd, se, q⟩ := h
  obtain ⟨as, r1⟩ := Dp.reads I d x v hd rx
  obtain ⟨bs, r2⟩ := Dp.reads I (.tuple ds) y u he ry
  exact SeqAt.notIn_tuple_reads r2 r1 (SeqAt.canLay_of_shaped se) (SeqAt.canLay_of_shaped sd) (PyProof.Rows.room_in_shaped sd hu) ⟨.bl _, H, I, rfl, by simpa using q⟩

theorem eqM (hu : X.A.units + 65 < cLine) {pins : List (Addr × Obj)} {s : Shared} {σ : L2.St} {x y : V} {v u : Value} {Q : VK} {P : Addr → Prop} {ω : Wd} {A : AH} {d e : D} {b : Bool}
    (I : Inv X pins σ ω.H s) (rx : RelV x v) (ry : RelV y u) (hr : HR X.K F P ω A) (rd : Rep X.K F ω d x) (re : Rep X.K F ω e y) (h : eqO A d e = some b) :
    (Q (.bl b) ω.H → wpAny (model X.prog X.w) X.A (compareOp .Eq v u) (EP X pins σ Q) X.xe s) ∧ (Q (.bl (!b)) ω.H → wpAny (model X.prog X.w) X.A (compareOp .NotEq v u) (EP X pins σ Q) X.xe s) := by
  unfold eqO at h
  simp only at h
  split at h
  · rename_i hf
    simp only [Bool.and_eq_true] at hf
    have e1 := D.py_eqv hf.1 hf.2
    cases h
    have d1 := (view hr rd).dp hf.1
    have d2 := (view hr re).dp hf.2
    exact ⟨fun q => op_eqD (by omega) pins s σ _ x y v u Q I rx ry ⟨_, _, d1, d2, D.py_shaped hf.1, D.py_shaped hf.2, by rw [e1]; exact q⟩,
      fun q => op_neD (by omega) pins s σ _ x y v u Q I rx ry ⟨_, _, d1, d2, D.py_shaped hf.1, D.py_shaped hf.2, by rw [e1]; exact q⟩⟩
  · cases h
theorem eqSM (hu : X.A.units + 65 < cLine) {pins : List (Addr × Obj)} {s : Shared} {σ : L2.St} {x y : V} {v u : Value} {Q : VK} {P : Addr → Prop} {ω : Wd} {A : AH} {d e : D} {b : Bool}
    (I : Inv X pins σ ω.H s) (rx : RelV x v) (ry : RelV y u) (hr : HR X.K F P ω A) (rd : Rep X.K F ω d x) (re : Rep X.K F ω e y) (h : eqS A d e = some b) :
    (Q (.bl b) ω.H → wpAny (model X.prog X.w) X.A (compareOp .Eq v u) (EP X pins σ Q) X.xe s) ∧ (Q (.bl (!b)) ω.H → wpAny (model X.prog X.w) X.A (compareOp .NotEq v u) (EP X pins σ Q) X.xe s) := by
  unfold eqS at h
  split at h
  · rename_i a c
    cases h
    obtain ⟨rfl, _⟩ := Rep.str_inv rd
    obtain ⟨rfl, _⟩ := Rep.str_inv re
    exact ⟨fun q => op_eq pins s σ _ _ _ v u Q I rx ry ⟨rfl, by rw [dec_str]; exact q⟩, fun q => op_ne pins s σ _ _ _ v u Q I rx ry ⟨rfl, by rw [dec_str]; exact q⟩⟩
  · exact eqM hu I rx ry hr rd re h
theorem inM (hu : X.A.units + 65 < cLine) {pins : List (Addr × Obj)} {s : Shared} {σ : L2.St} {x y : V} {v u : Value} {Q : VK} {P : Addr → Prop} {ω : Wd} {A : AH} {d e : D} {b : Bool}
    (I : Inv X pins σ ω.H s) (rx : RelV x v) (ry : RelV y u) (hr : HR X.K F P ω A) (rd : Rep X.K F ω d x) (re : Rep X.K F ω e y) (h : inO A d e = some b) :
    (Q (.bl b) ω.H → wpAny (model X.prog X.w) X.A (compareOp .In v u) (EP X pins σ Q) X.xe s) ∧ (Q (.bl (!b)) ω.H → wpAny (model X.prog X.w) X.A (compareOp .NotIn v u) (EP X pins σ Q) X.xe s) := by
  have ve := view hr re
  unfold inO at h
  revert ve h
  generalize shal A e = e'
  intro h ve
  split at h
  · rename_i xs
    simp only at h
    split at h
    · rename_i hf
      simp only [Bool.and_eq_true] at hf
      cases h
      have d1 := (view hr rd).dp hf.1
      have d2 := View.dp hf.2 ve
      have e2 : D.flatNs 59 xs = true := by simpa [D.flatN] using hf.2
      have e1 := any_py hf.1 e2
      simp only [D.py] at d2
      have s2 := D.py_shaped hf.2
      simp only [D.py] at s2
      exact ⟨fun q => op_inD hu pins s σ _ x y v u Q I rx ry ⟨_, _, d1, d2, D.py_shaped hf.1, s2, by rw [e1]; exact q⟩,
        fun q => op_notInD hu pins s σ _ x y v u Q I rx ry ⟨_, _, d1, d2, D.py_shaped hf.1, s2, by rw [e1]; exact q⟩⟩
    · cases h
  · rename_i xs
    simp only at h
    split at h
    · rename_i hf
      simp only [Bool.and_eq_true] at hf
      cases h
      have d1 := (view hr rd).dp hf.1
      have d2 := View.dp hf.2 ve
      have e2 : D.flatNs 59 xs = true := by simpa [D.flatN] using hf.2
      have e1 := any_py hf.1 e2
      simp only [D.py] at d2
      have s2 := D.py_shaped hf.2
      simp only [D.py] at s2
      exact ⟨fun q => op_inT hu pins s σ _ x y v u Q I rx ry ⟨_, _, d1, d2, D.py_shaped hf.1, s2, by rw [e1, Bool.bne_false]; exact q⟩,
        fun q => op_notInT hu pins s σ _ x y v u Q I rx ry ⟨_, _, d1, d2, D.py_shaped hf.1, s2, by rw [e1, Bool.bne_true]; exact q⟩⟩
    · cases h
  · rename_i ks xs
    split at h
    · rename_i k hk
      cases h
      obtain ⟨a, vs, rfl, s1, l, r⟩ := ve
      cases ry
      have g : DGet ω.H a x (valV (ks.zip vs) k) := .inl ⟨_, _, s1, keyO_rep hk rd, rfl⟩
      rw [dget_isSome r]
      exact ⟨fun q => d_in (by omega) I g rx fun s' I' => ⟨.bl _, _, I', rfl, q⟩, fun q => d_notIn (by omega) I g rx fun s' I' => ⟨.bl _, _, I', rfl, q⟩⟩
    · cases h
  · rename_i ks xs
    split at h
    · rename_i kd
      split at h
      · rename_i k hk
        cases h
        obtain ⟨a, vs, rfl, s1, l, r⟩ := ve
        cases ry
        obtain ⟨b, us, rfl, s2, _, r2⟩ := Rep.tup_inv rd
        have eu := keysO_rep hk r2
        subst eu
        have g : DGet ω.H a (.ref b) (valV (ks.zip vs) k) := .inr ⟨_, _, _, s1, rfl, s2, rfl⟩
        rw [dget_isSome r]
        exact ⟨fun q => d_in (by omega) I g rx fun s' I' => ⟨.bl _, _, I', rfl, q⟩, fun q => d_notIn (by omega) I g rx fun s' I' => ⟨.bl _, _, I', rfl, q⟩⟩
      · cases h
    · cases h
  · cases h
theorem ltM (hu : X.A.units + 65 < cLine) {pins : List (Addr × Obj)} {s : Shared} {σ : L2.St} {x y : V} {v u : Value} {Q : VK} {ω : Wd} {d e : D} {b : Bool}
    (I : Inv X pins σ ω.H s) (rx : RelV x v) (ry : RelV y u) (rd : Rep X.K F ω d x) (re : Rep X.K F ω e y) (h : ltO d e = some b) (q : Q (.bl b) ω.H) :
    wpAny (model X.prog X.w) X.A (compareOp .Lt v u) (EP X pins σ Q) X.xe s := by
  unfold ltO at h
  split at h
  · cases h
    obtain ⟨rfl, rfl⟩ := int2_rep rd re
    exact op_lt pins s σ _ _ _ v u Q I rx ry ⟨_, _, rfl, rfl, q⟩
  · split at h
    · rename_i a b e1 e2
      cases h
      obtain ⟨p, us, rfl, s1, _, r1⟩ := Rep.tup_inv rd
      obtain ⟨p', us', rfl, s2, _, r2⟩ := Rep.tup_inv re
      have q1 := intsO_rep e1 r1
      have q2 := intsO_rep e2 r2
      subst q1 q2
      exact op_ltT (by omega) pins s σ _ _ _ v u Q I rx ry ⟨_, _, _, _, rfl, rfl, s1.sq, s2.sq, by rw [← lexLt_eq]; exact q⟩
    · cases h
  · cases h
theorem int2M {f : Int → Int → Bool} {op : CmpOp} {ω : Wd} {d e : D} {b : Bool} {x y : V} (rd : Rep X.K F ω d x) (re : Rep X.K F ω e y) (h : int2 f d e = some b) : ∃ i j, x = .int i ∧ y = .int j ∧ f i j = b := by
  unfold int2 at h
  split at h
  · cases h; obtain ⟨rfl, rfl⟩ := int2_rep rd re; exact ⟨_, _, rfl, rfl, rfl⟩
  · cases h
theorem op_cmpM (hu : X.A.units + 65 < cLine) (op : Cop) : OpR X (compareOp op.op) (rM2 X.K F U fun x y A => ofO ((cmpO A op x y).map .bl) A) := by
  intro pins s σ H x y v u Q I rx ry h
  obtain ⟨P, ω, A, d, e, rfl, hr, rd, re, o⟩ := h
  obtain ⟨r, e1, o⟩ := o.ofO
  rw [Option.map_eq_some_iff] at e1
  obtain ⟨b, e1, rfl⟩ := e1
  have q : Q (.bl b) ω.H := o.val hr (.bl b)
  cases op with
  | eq => exact (eqSM hu I rx ry hr rd re e1).1 q
  | ne =>
    simp only [cmpO, Option.map_eq_some_iff] at e1
    obtain ⟨b', e1, rfl⟩ := e1
    exact (eqSM hu I rx ry hr rd re e1).2 q
  | lt => exact ltM hu I rx ry rd re e1 q
  | le =>
    obtain ⟨i, j, rfl, rfl, rfl⟩ := int2M (op := .LtE) rd re e1
    exact op_le pins s σ _ _ _ v u Q I rx ry ⟨_, _, rfl, rfl, q⟩
  | gt =>
    obtain ⟨i, j, rfl, rfl, rfl⟩ := int2M (op := .LtE) rd re e1
    exact op_gt pins s σ _ _ _ v u Q I rx ry ⟨_, _, rfl, rfl, q⟩
  | ge =>
    obtain ⟨i, j, rfl, rfl, rfl⟩ := int2M (op := .LtE) rd re e1
    exact op_ge pins s σ _ _ _ v u Q I rx ry ⟨_, _, rfl, rfl, q⟩
  | isin => exact (inM hu I rx ry hr rd re e1).1 q
  | notin =>
    simp only [cmpO, Option.map_eq_some_iff] at e1
    obtain ⟨b', e1, rfl⟩ := e1
    exact (inM hu I rx ry hr rd re e1).2 q

/-! ### is, is not of a truth -/
theorem rel_bool {x : V} {v : Value} {c : Bool} (rx : RelV x v) : (v == Value.bool c) = decide (x = V.bl c) := by
  cases x with
  | bl b => cases (show v = Value.bool b from rx); by_cases e : b = c <;> simp [e]
  | int i => obtain ⟨t, rfl⟩ := rx; simp
  | str i => obtain ⟨t, rfl⟩ := rx; simp
  | byt i => obtain ⟨t, rfl⟩ := rx; simp
  | flt i => obtain ⟨t, rfl⟩ := rx; simp
  | non => cases (show v = Value.none from rx); simp
  | ref a => cases (show v = Value.ref a from rx); simp
  | ty t => cases (show v = Value.type t from rx); simp
theorem op_isB {c : Bool} : OpR X (compareOp .Is) (fun x y H Q => y = .bl c ∧ Q (.bl (decide (x = .bl c))) H) := by
  intro pins s σ H x y v u Q I rx ry h
  obtain ⟨rfl, q⟩ := h
  cases (show u = Value.bool c from ry)
  have fin : EP X pins σ Q (.bool (v == .bool c)) s := ⟨.bl _, H, I, rfl, by rw [rel_bool rx]; exact q⟩
  cases x with
  | bl b => cases (show v = Value.bool b from rx); exact wpAny_pure fin
  | int i => obtain ⟨t, rfl⟩ := rx; exact wpAny_pure fin
  | str i => obtain ⟨t, rfl⟩ := rx; exact wpAny_pure fin
  | byt i => obtain ⟨t, rfl⟩ := rx; exact wpAny_pure fin
  | flt i => obtain ⟨t, rfl⟩ := rx; exact wpAny_pure fin
  | non => cases (show v = Value.none from rx); exact wpAny_pure fin
  | ref a => cases (show v = Value.ref a from rx); exact wpAny_pure fin
  | ty t => cases (show v = Value.type t from rx); exact wpAny_pure fin
theorem op_notB {c : Bool} : OpR X (compareOp .IsNot) (fun x y H Q => y = .bl c ∧ Q (.bl (!decide (x = .bl c))) H) := by
  intro pins s σ H x y v u Q I rx ry h
  obtain ⟨rfl, q⟩ := h
  cases (show u = Value.bool c from ry)
  have fin : EP X pins σ Q (.bool (!(v == .bool c))) s := ⟨.bl _, H, I, rfl, by rw [rel_bool rx]; exact q⟩
  cases x with
  | bl b => cases (show v = Value.bool b from rx); exact wpAny_pure fin
  | int i => obtain ⟨t, rfl⟩ := rx; exact wpAny_pure fin
  | str i => obtain ⟨t, rfl⟩ := rx; exact wpAny_pure fin
  | byt i => obtain ⟨t, rfl⟩ := rx; exact wpAny_pure fin
  | flt i => obtain ⟨t, rfl⟩ := rx; exact wpAny_pure fin
  | non => cases (show v = Value.none from rx); exact wpAny_pure fin
  | ref a => cases (show v = Value.ref a from rx); exact wpAny_pure fin
  | ty t => cases (show v = Value.type t from rx); exact wpAny_pure fin
theorem rep_isN {K : PySem.W.Frag} {ω : Wd} {d : D} {v : V} (r : Rep K F ω d v) : decide (v = .non) = decide (d = .non) := by cases r <;> simp
theorem rep_isB {K : PySem.W.Frag} {ω : Wd} {d : D} {v : V} {c : Bool} (r : Rep K F ω d v) : decide (v = .bl c) = decide (d = .bl c) := by cases r <;> simp

/-! ### truth -/
theorem zip_empty {κ : Type} {K : PySem.W.Frag} {ω : Wd} {ks : List κ} {xs : List D} {vs : List V} (l : ks.length = xs.length) (r : Reps K F ω xs vs) : (ks.zip vs).isEmpty = ks.isEmpty := by
  cases r with
  | nil => cases ks with
    | nil => rfl
    | cons _ _ => simp at l
  | cons _ _ => cases ks with
    | nil => simp at l
    | cons k ks => rfl
theorem zip_len {κ : Type} {K : PySem.W.Frag} {ω : Wd} {ks : List κ} {xs : List D} {vs : List V} (l : ks.length = xs.length) (r : Reps K F ω xs vs) : (ks.zip vs).length = ks.length := by
  rw [List.length_zip, ← r.len, l, Nat.min_self]
theorem tru_rd {pins : List (Addr × Obj)} {s : Shared} {σ : L2.St} {ω : Wd} {P : Addr → Prop} {A : AH} {x : V} {v : Value} {d : D} {b : Bool} {Q : Bool → Hp → Prop}
    (I : Inv X pins σ ω.H s) (rx : RelV x v) (hr : HR X.K F P ω A) (rd : Rep X.K F ω d x) (h : truO A d = some b) (q : Q b ω.H) : wpAny (model X.prog X.w) X.A (truthy v) (TP X pins σ Q) X.xe s := by
  have vd := view hr rd
  unfold truO at h
  revert vd h
  generalize shal A d = d'
  intro h vd
  have go : ∀ k, TruV X.K x ω.H k → k = b → wpAny (model X.prog X.w) X.A (truthy v) (TP X pins σ Q) X.xe s := fun k t e => tru_ok pins s σ _ x v Q I rx ⟨k, t, e ▸ q⟩
  split at h
  · cases h; obtain rfl := Rep.non_inv vd; exact go _ rfl rfl
  · cases h; obtain rfl := Rep.bl_inv vd; exact go _ rfl rfl
  · cases h; obtain rfl := Rep.int_inv vd; exact go _ rfl rfl
  · rename_i z
    cases h
    obtain ⟨rfl, hz⟩ := Rep.str_inv vd
    refine go _ ⟨hz, rfl⟩ ?_
    cases e : z.length with
    | zero => rfl
    | succ n => simp; omega
  · cases h
    obtain ⟨a, vs, rfl, s1, _, r⟩ := Rep.tup_inv vd
    exact go _ (.inr (.inl ⟨vs, s1.sq, rfl⟩)) (by cases r <;> rfl)
  · cases h
    obtain ⟨a, vs, rfl, s1, _, r⟩ := vd
    exact go _ (.inl ⟨vs, .inl s1, rfl⟩) (by cases r <;> rfl)
  · cases h
    obtain ⟨a, vs, rfl, s1, l, r⟩ := vd
    cases rx
    refine d_truth I s1 fun s' I' => ⟨_, I', ?_⟩
    rw [zip_empty l r]; exact q
  · cases h

/-! ### subscripts -/
def ixN_eq (n : Nat) (i : Int) : L2.ixN n i = Ev.ixN n i := rfl
theorem Reps.atI {K : PySem.W.Frag} {ω : Wd} {xs : List D} {vs : List V} {i : Int} {d : D} (r : Reps K F ω xs vs) (h : Ev.atI xs i = some d) : ∃ v, L2.atI vs i = some v ∧ Rep K F ω d v := by
  unfold Ev.atI at h
  unfold L2.atI
  rw [← r.len]
  cases e : Ev.ixN xs.length i with
  | none => rw [e] at h; cases h
  | some j =>
    rw [e] at h
    obtain ⟨v, h1, h2⟩ := r.get h
    exact ⟨v, by rw [show L2.ixN xs.length i = some j from e]; exact h1, h2⟩
/-- d[y] -/
theorem ix_dict (hu : X.A.units + 1 < cLine) : IxR X (fun x y H Q => ∃ a v, x = .ref a ∧ DGet H a y (some v) ∧ Q v H) := by
  intro value slice pins s σ H x y v u Q I rx ry h hs
  obtain ⟨a, w', rfl, g, q⟩ := h
  cases (show v = Value.ref a from rx)
  have hT := dict_typeIs I g
  unfold PyProof.Rows.subscriptTail
  refine wpAny_bind ?_
  rw [getitemInPython_of_ne hT.not_modules]
  refine wpAny_bind (wpAny_specialOf hT PySem.F.slot_dict_getitem.lookup ?_)
  have fin : wpAny (model X.prog X.w) X.A (subscripted slice false (.ref a) u) (fun r s₃ => wpAny (model X.prog X.w) X.A (letTemporaryGo value (.ref a) r >>= fun _ => pure r) (EP X pins σ Q) X.xe s₃) X.xe s := by
    rw [hs]
    exact wpAny_operating (d_getItem hu I g ry fun w2 s3 I3 rw' => wpAny_bind (wpAny_letTemporaryGo (wpAny_pure ⟨w', H, I3, rw', q⟩)))
  first
    | exact wpAny_pure (wpAny_bind fin)
    | exact wpAny_bind (wpAny_pure (wpAny_bind fin))
    | exact wpAny_bind fin
theorem op_idxM (hu : X.A.units + 65 < cLine) : IxR X (rM2 X.K F U fun x y A => ofO (idxO A x y) A) := by
  intro value slice pins s σ H x y v u Q I rx ry h hs
  obtain ⟨P, ω, A, d, e, rfl, hr, rd, re, o⟩ := h
  obtain ⟨r, e1, oo⟩ := o.ofO
  clear o
  have vd := view hr rd
  unfold idxO at e1
  revert vd e1
  generalize shal A d = d'
  intro e1 vd
  split at e1
  · obtain ⟨a, vs, rfl, s1, _, r1⟩ := vd
    obtain rfl := Rep.int_inv re
    obtain ⟨w', h1, h2⟩ := r1.atI e1
    exact ix_list value slice pins s σ _ _ _ v u Q I rx ry ⟨_, _, _, _, rfl, rfl, .inl s1, h1, oo.val hr h2⟩ hs
  · obtain ⟨a, vs, rfl, s1, _, r1⟩ := Rep.kl_inv vd
    obtain rfl := Rep.int_inv re
    obtain ⟨w', h1, h2⟩ := r1.atI e1
    exact ix_list value slice pins s σ _ _ _ v u Q I rx ry ⟨_, _, _, _, rfl, rfl, s1.sq, h1, oo.val hr h2⟩ hs
  · obtain ⟨a, vs, rfl, s1, _, r1⟩ := Rep.tup_inv vd
    obtain rfl := Rep.int_inv re
    obtain ⟨w', h1, h2⟩ := r1.atI e1
    exact ix_tup value slice pins s σ _ _ _ v u Q I rx ry ⟨_, _, _, _, rfl, rfl, s1.sq, h1, oo.val hr h2⟩ hs
  · obtain ⟨rfl, hz⟩ := Rep.str_inv vd
    obtain rfl := Rep.int_inv re
    rw [Option.map_eq_some_iff] at e1
    obtain ⟨c, h1, rfl⟩ := e1
    exact ix_str value slice pins s σ _ _ _ v u Q I rx ry ⟨_, _, _, rfl, rfl, hz, h1, oo.val hr (.str _ (by rw [sizeLine_eq]; show 1 ≤ 16777216; decide))⟩ hs
  · split at e1
    · rename_i k hk
      obtain ⟨a, vs, rfl, s1, _, r1⟩ := vd
      obtain ⟨w', h1, h2⟩ := dget_some e1 r1
      have g : DGet ω.H a y (some w') := .inl ⟨_, _, s1, keyO_rep hk re, h1.symm⟩
      exact ix_dict (by omega) value slice pins s σ _ _ _ v u Q I rx ry ⟨a, w', rfl, g, oo.val hr h2⟩ hs
    · cases e1
  · split at e1
    · rename_i k hk
      obtain ⟨a, vs, rfl, s1, _, r1⟩ := vd
      obtain ⟨b, us, rfl, s2, _, r2⟩ := Rep.tup_inv re
      have eu := keysO_rep hk r2
      subst eu
      obtain ⟨w', h1, h2⟩ := dget_some e1 r1
      have g : DGet ω.H a (.ref b) (some w') := .inr ⟨_, _, _, s1, rfl, s2, h1.symm⟩
      exact ix_dict (by omega) value slice pins s σ _ _ _ v u Q I rx ry ⟨a, w', rfl, g, oo.val hr h2⟩ hs
    · cases e1
  · cases e1
end
end Ev

set_option maxRecDepth 100000
set_option maxHeartbeats 1000000
/-! EvZ: zip of three, each a list or a tuple -/
namespace Ev
open PySem PySem.Spec PyProof.Rows L2
inductive Sk where
  | l | t
def SIt (k : Sk) (h : Heap) (it l : Addr) (i : Nat) : Prop := match k with
  | .l => h.IsListIter it l i
  | .t => h.IsTupleIter it l i
def SSq (k : Sk) (h : Heap) (l : Addr) (xs : Array Value) : Prop := match k with
  | .l => h.IsList l xs
  | .t => h.IsTuple l xs
def Sk.itc : Sk → String
  | .l => "list_iterator"
  | .t => "tuple_iterator"
theorem SIt.at {k : Sk} {h h' : Heap} {it l : Addr} {i : Nat} (x : SIt k h it l i) (e : ∀ o, h.get? it = some o → h'.get? it = some o) : SIt k h' it l i := by
  cases k with
  | l => exact Heap.IsListIter.at x e
  | t => exact Heap.IsTupleIter.at x e
theorem SSq.at {k : Sk} {h h' : Heap} {l : Addr} {xs : Array Value} (x : SSq k h l xs) (e : ∀ o, h.get? l = some o → h'.get? l = some o) : SSq k h' l xs := by
  cases k with
  | l => exact Heap.IsList.at x e
  | t => obtain ⟨o, ho, r⟩ := (show h.IsTuple l xs from x); exact ⟨o, e o ho, r⟩
theorem SIt.get {k : Sk} {h : Heap} {it l : Addr} {i : Nat} (x : SIt k h it l i) : ∃ o, h.get? it = some o ∧ ∀ v, o.data ≠ .cell v := by
  cases k with
  | l => obtain ⟨o, e, _, d⟩ := (show h.IsListIter it l i from x); exact ⟨o, e, fun v q => by rw [d] at q; cases q⟩
  | t => obtain ⟨o, e, _, d⟩ := (show h.IsTupleIter it l i from x); exact ⟨o, e, fun v q => by rw [d] at q; cases q⟩
theorem SSq.get {k : Sk} {h : Heap} {l : Addr} {xs : Array Value} (x : SSq k h l xs) : ∃ o, h.get? l = some o := by
  cases k with
  | l => obtain ⟨o, e, _⟩ := (show h.IsList l xs from x); exact ⟨o, e⟩
  | t => obtain ⟨o, e, _⟩ := (show h.IsTuple l xs from x); exact ⟨o, e⟩
section
variable {prog : Program} {w : World} {A : Around} {E : Value → Shared → Prop} {s : Shared}
theorem next_item {k : Sk} {it l : Addr} {i : Nat} {items : Array Value} {x : Value} {Q : Value → Shared → Prop} (hit : SIt k s.heap it l i) (hl : SSq k s.heap l items) (hx : items[i]? = some x)
    (hQ : ∀ h', SIt k h' it l (i + 1) → Heap.SameBut it s.heap h' → Q x { s with heap := h' }) : wpAny (model prog w) A (Builtin.SmallTypes.nextOf (.ref it)) Q E s := by
  cases k with
  | l => exact wpAny_nextOf_list_item hit hl hx hQ
  | t => exact RZ.nextOf_tuple_item hit hl hx hQ
theorem next_end {k : Sk} {it l : Addr} {i : Nat} {items : Array Value} {Q : Value → Shared → Prop} (hh : A.handled = none) (hit : SIt k s.heap it l i) (hl : SSq k s.heap l items) (hx : items[i]? = none)
    (hE : ∀ h' e, Heap.ExtBut it s.heap h' → (∃ o, h'.get? e = some o ∧ o.cls = .type "StopIteration") → E (.ref e) { s with heap := h' }) :
    wpAny (model prog w) A (Builtin.SmallTypes.nextOf (.ref it)) Q E s := by
  cases k with
  | l => exact wpAny_nextOf_list_end hh hit hl hx hE
  | t => exact RZ.nextOf_tuple_end hh hit hl hx hE
theorem iter_sq {k : Sk} {l : Addr} {items : Array Value} {Q : Value → Shared → Prop} (hl : SSq k s.heap l items)
    (h : Q (.ref s.heap.objs.size) { s with heap := s.heap.push { cls := .type k.itc, data := .fields #[.ref l, .int 0 0] } }) : wpAny (model prog w) A (pyIter (.ref l)) Q E s := by
  cases k with
  | l => exact wpAny_pyIter_list hl h
  | t => exact wpAny_pyIter_tuple hl h

abbrev IsTri (h : Heap) (T : Addr) (a b c : Value) : Prop := h.get? T = some { cls := .type "tuple", data := .seq #[a, b, c] }
theorem wpAny_updateSeq_tri {T : Addr} {a b c x : Value} {k : Nat} {Q : Unit → Shared → Prop} (hT : IsTri s.heap T a b c)
    (h : ∀ h', h'.get? T = some { cls := .type "tuple", data := .seq ((#[a, b, c] : Array Value).setIfInBounds k x) } → Heap.SameBut T s.heap h' → Q () { s with heap := h' }) :
    wpAny (model prog w) A (updateSeq T (·.setIfInBounds k x)) Q E s := by
  refine wpAny_updateSeq hT rfl (h _ ?_ (Heap.SameBut.update ..))
  rw [Heap.get?_update_self _ hT rfl]
  simp [Obj.mapSeq]
/-- the seven objects lie apart, the sources too -/
structure Ap3 (z TI TO i1 i2 i3 : Addr) (l1 l2 l3 : Addr) : Prop where
  TIz : TI ≠ z
  TOz : TO ≠ z
  i1z : i1 ≠ z
  i2z : i2 ≠ z
  i3z : i3 ≠ z
  TITO : TI ≠ TO
  TIi1 : TI ≠ i1
  TIi2 : TI ≠ i2
  TIi3 : TI ≠ i3
  TOi1 : TO ≠ i1
  TOi2 : TO ≠ i2
  TOi3 : TO ≠ i3
  i12 : i1 ≠ i2
  i13 : i1 ≠ i3
  i23 : i2 ≠ i3
  ls : ∀ l, l = l1 ∨ l = l2 ∨ l = l3 → l ≠ z ∧ l ≠ TO ∧ l ≠ i1 ∧ l ≠ i2 ∧ l ≠ i3

theorem z3_item {k1 k2 k3 : Sk} {z TI TO i1 i2 i3 l1 l2 l3 : Addr} {n : Nat} {xs ys zs : Array Value} {x y u a b c : Value} {Q : Value → Shared → Prop} (D : Ap3 z TI TO i1 i2 i3 l1 l2 l3)
    (hz : IsZip s.heap z TI TO .none) (hTI : IsTri s.heap TI (.ref i1) (.ref i2) (.ref i3)) (hTO : IsTri s.heap TO a b c)
    (h1 : SIt k1 s.heap i1 l1 n) (h2 : SIt k2 s.heap i2 l2 n) (h3 : SIt k3 s.heap i3 l3 n) (hl1 : SSq k1 s.heap l1 xs) (hl2 : SSq k2 s.heap l2 ys) (hl3 : SSq k3 s.heap l3 zs) (hx : xs[n]? = some x) (hy : ys[n]? = some y) (hu : zs[n]? = some u)
    (hQ : ∀ h', IsZip h' z TI TO (rawInt s.heap.objs.size) → IsTri h' TO x y u → SIt k1 h' i1 l1 (n + 1) → SIt k2 h' i2 l2 (n + 1) → SIt k3 h' i3 l3 (n + 1) → IsTri h' s.heap.objs.size x y u → h'.objs.size = s.heap.objs.size + 1 →
      (∀ c o, c ≠ z → c ≠ TO → c ≠ i1 → c ≠ i2 → c ≠ i3 → s.heap.get? c = some o → h'.get? c = some o) → Q (.ref s.heap.objs.size) { s with heap := h' }) :
    wpAny (model prog w) A (Builtin.«zip.__next__» ⟨[.ref z], []⟩) (fun fin s' => ∃ v, fin = .done (.ret v) ∧ Q v s') E s := by
  have a1 := D.ls l1 (.inl rfl)
  have a2 := D.ls l2 (.inr (.inl rfl))
  have a3 := D.ls l3 (.inr (.inr rfl))
  show wpAny _ _ (field (.ref z) 2 >>= _) _ _ _
  refine wpAny_bind (wpAny_field hz rfl (x := .bool false) rfl ?_)
  show wpAny _ _ (field (.ref z) 3 >>= _) _ _ _
  refine wpAny_bind (wpAny_field hz rfl (x := .ref TI) rfl ?_)
  refine wpAny_bind (wpAny_seqItems hTI rfl ?_)
  show wpAny _ _ (Builtin.SmallTypes.ownedTupleIsFree (.ref z) >>= _) _ _ _
  refine wpAny_bind ?_
  unfold Builtin.SmallTypes.ownedTupleIsFree
  refine wpAny_bind (wpAny_field hz rfl (x := .none) rfl (wpAny_pure ?_))
  simp only [if_true]
  refine wpAny_bind (wpAny_rule ?_)
  refine wpAny_bind (wpAny_field hz rfl (x := .ref TO) rfl ?_)
  refine wpAny_bind (wpAny_setField_rec hz (by simp) fun h₁ hz₁ hs₁ => ?_)
  replace hz₁ : IsZip h₁ z TI TO .ellipsis := hz₁
  refine wpAny_bind ?_
  simp only [List.zipIdx_cons, List.zipIdx_nil, List.forIn_cons, List.forIn_nil]
  have e1 := hs₁.extBut
  have hTO₁ : IsTri h₁ TO a b c := e1 _ _ D.TOz hTO
  -- the first
  refine wpAny_bind (wpAny_bind (wpAny_onRaise ?_))
  show wpAny _ _ (Builtin.SmallTypes.nextOf (.ref i1) >>= _) _ _ _
  refine wpAny_bind (next_item (h1.at fun o q => e1 _ o D.i1z q) (hl1.at fun o q => e1 _ o a1.1 q) hx fun h₂ h1₂ hs₂ => wpAny_pure ?_)
  have e2 := hs₂.extBut
  have hTO₂ : IsTri h₂ TO a b c := e2 _ _ D.TOi1 hTO₁
  refine wpAny_bind (wpAny_seqItems hTO₂ rfl ?_)
  refine wpAny_bind (wpAny_updateSeq_tri hTO₂ fun h₃ hTO₃ hs₃ => ?_)
  replace hTO₃ : IsTri h₃ TO x b c := hTO₃
  have e3 := hs₃.extBut
  refine wpAny_bind (wpAny_letGo (wpAny_pure ?_))
  have up3 : ∀ c o, c ≠ z → c ≠ TO → c ≠ i1 → s.heap.get? c = some o → h₃.get? c = some o := fun c o c1 c2 c3 e => e3 _ _ c2 (e2 _ _ c3 (e1 _ _ c1 e))
  -- the second
  refine wpAny_bind (wpAny_bind (wpAny_onRaise ?_))
  show wpAny _ _ (Builtin.SmallTypes.nextOf (.ref i2) >>= _) _ _ _
  refine wpAny_bind (next_item (h2.at fun o q => up3 _ o D.i2z D.TOi2.symm D.i12.symm q) (hl2.at fun o q => up3 _ o a2.1 a2.2.1 a2.2.2.1 q) hy fun h₄ h2₄ hs₄ => wpAny_pure ?_)
  have e4 := hs₄.extBut
  have hTO₄ : IsTri h₄ TO x b c := e4 _ _ D.TOi2 hTO₃
  refine wpAny_bind (wpAny_seqItems hTO₄ rfl ?_)
  refine wpAny_bind (wpAny_updateSeq_tri hTO₄ fun h₅ hTO₅ hs₅ => ?_)
  replace hTO₅ : IsTri h₅ TO x y c := hTO₅
  have e5 := hs₅.extBut
  refine wpAny_bind (wpAny_letGo (wpAny_pure ?_))
  have up5 : ∀ c o, c ≠ z → c ≠ TO → c ≠ i1 → c ≠ i2 → s.heap.get? c = some o → h₅.get? c = some o := fun c o c1 c2 c3 c4 e => e5 _ _ c2 (e4 _ _ c4 (up3 c o c1 c2 c3 e))
  -- the third
  refine wpAny_bind (wpAny_bind (wpAny_onRaise ?_))
  show wpAny _ _ (Builtin.SmallTypes.nextOf (.ref i3) >>= _) _ _ _
  refine wpAny_bind (next_item (h3.at fun o q => up5 _ o D.i3z D.TOi3.symm D.i13.symm D.i23.symm q) (hl3.at fun o q => up5 _ o a3.1 a3.2.1 a3.2.2.1 a3.2.2.2.1 q) hu fun h₆ h3₆ hs₆ => wpAny_pure ?_)
  have e6 := hs₆.extBut
  have hTO₆ : IsTri h₆ TO x y c := e6 _ _ D.TOi3 hTO₅
  refine wpAny_bind (wpAny_seqItems hTO₆ rfl ?_)
  refine wpAny_bind (wpAny_updateSeq_tri hTO₆ fun h₇ hTO₇ hs₇ => ?_)
  replace hTO₇ : IsTri h₇ TO x y u := hTO₇
  have e7 := hs₇.extBut
  refine wpAny_bind (wpAny_letGo (wpAny_pure (wpAny_pure ?_)))
  have up7 : ∀ c o, c ≠ z → c ≠ TO → c ≠ i1 → c ≠ i2 → c ≠ i3 → s.heap.get? c = some o → h₇.get? c = some o := fun c o c1 c2 c3 c4 c5 e => e7 _ _ c2 (e6 _ _ c5 (up5 c o c1 c2 c3 c4 e))
  refine wpAny_bind (wpAny_seqItems hTO₇ rfl ?_)
  refine wpAny_bind (wpAny_newTuple ?_)
  have hsz : h₇.objs.size = s.heap.objs.size := by rw [hs₇.1, hs₆.1, hs₅.1, hs₄.1, hs₃.1, hs₂.1, hs₁.1]
  have hz₇ : IsZip h₇ z TI TO .ellipsis := e7 _ _ D.TOz.symm (e6 _ _ D.i3z.symm (e5 _ _ D.TOz.symm (e4 _ _ D.i2z.symm (e3 _ _ D.TOz.symm (e2 _ _ D.i1z.symm hz₁)))))
  have h1₇ : SIt k1 h₇ i1 l1 (n + 1) := h1₂.at fun o q => e7 _ _ D.TOi1.symm (e6 _ _ D.i13 (e5 _ _ D.TOi1.symm (e4 _ _ D.i12 (e3 _ _ D.TOi1.symm q))))
  have h2₇ : SIt k2 h₇ i2 l2 (n + 1) := h2₄.at fun o q => e7 _ _ D.TOi2.symm (e6 _ _ D.i23 (e5 _ _ D.TOi2.symm q))
  have h3₇ : SIt k3 h₇ i3 l3 (n + 1) := h3₆.at fun o q => e7 _ _ D.TOi3.symm q
  have hzlt : z < h₇.objs.size := Heap.lt_size hz₇
  show wpAny _ _ (Builtin.SmallTypes.ownedTupleHandOut (.ref z) (.ref h₇.objs.size) >>= _) _ _ _
  refine wpAny_bind ?_
  unfold Builtin.SmallTypes.ownedTupleHandOut
  have hz₈ : IsZip (h₇.push { cls := .type "tuple", data := .seq #[x, y, u] }) z TI TO .ellipsis := Heap.get?_push_of_some _ hz₇
  refine wpAny_bind (wpAny_setField_rec hz₈ (by simp) fun h₉ hz₉ hs₉ => ?_)
  replace hz₉ : IsZip h₉ z TI TO (rawInt h₇.objs.size) := hz₉
  refine wpAny_setField_rec hz₉ (by simp) fun h₀ hz₀ hs₀ => ?_
  replace hz₀ : IsZip h₀ z TI TO (rawInt h₇.objs.size) := hz₀
  have up : ∀ c o, c ≠ z → h₇.get? c = some o → h₀.get? c = some o := fun c o c1 e => hs₀.extBut _ _ c1 (hs₉.extBut _ _ c1 (Heap.get?_push_of_some _ e))
  have hT₀ : IsTri h₀ h₇.objs.size x y u := hs₀.extBut _ _ (Nat.ne_of_gt hzlt) (hs₉.extBut _ _ (Nat.ne_of_gt hzlt) (Heap.get?_push_size _ rfl))
  have hz0 : h₀.objs.size = h₇.objs.size + 1 := by rw [hs₀.1, hs₉.1, Heap.size_push]
  rw [hsz] at hz₀ hT₀ hz0
  refine wpAny_pure ⟨_, rfl, ?_⟩
  show Q (.ref h₇.objs.size) _
  rw [hsz]
  exact hQ h₀ hz₀ (up _ _ D.TOz hTO₇) (h1₇.at fun o e => up _ o D.i1z e) (h2₇.at fun o e => up _ o D.i2z e) (h3₇.at fun o e => up _ o D.i3z e) hT₀ hz0 fun c o c1 c2 c3 c4 c5 e => up c o c1 (up7 c o c1 c2 c3 c4 c5 e)

theorem z3_end {k1 k2 k3 : Sk} {z TI TO i1 i2 i3 l1 l2 l3 : Addr} {n : Nat} {xs ys zs : Array Value} {a b c : Value} {Q : Fin → Shared → Prop} (hh : A.handled = none) (D : Ap3 z TI TO i1 i2 i3 l1 l2 l3)
    (hz : IsZip s.heap z TI TO .none) (hTI : IsTri s.heap TI (.ref i1) (.ref i2) (.ref i3)) (hTO : IsTri s.heap TO a b c)
    (h1 : SIt k1 s.heap i1 l1 n) (h2 : SIt k2 s.heap i2 l2 n) (h3 : SIt k3 s.heap i3 l3 n) (hl1 : SSq k1 s.heap l1 xs) (hl2 : SSq k2 s.heap l2 ys) (hl3 : SSq k3 s.heap l3 zs) (hend : xs[n]? = none ∨ ys[n]? = none ∨ zs[n]? = none)
    (hE : ∀ h' e, (∀ c o, c ≠ z → c ≠ TO → c ≠ i1 → c ≠ i2 → c ≠ i3 → s.heap.get? c = some o → h'.get? c = some o) → (∃ o, h'.get? e = some o ∧ o.cls = .type "StopIteration") → E (.ref e) { s with heap := h' }) :
    wpAny (model prog w) A (Builtin.«zip.__next__» ⟨[.ref z], []⟩) Q E s := by
  have a1 := D.ls l1 (.inl rfl)
  have a2 := D.ls l2 (.inr (.inl rfl))
  have a3 := D.ls l3 (.inr (.inr rfl))
  show wpAny _ _ (field (.ref z) 2 >>= _) _ _ _
  refine wpAny_bind (wpAny_field hz rfl (x := .bool false) rfl ?_)
  show wpAny _ _ (field (.ref z) 3 >>= _) _ _ _
  refine wpAny_bind (wpAny_field hz rfl (x := .ref TI) rfl ?_)
  refine wpAny_bind (wpAny_seqItems hTI rfl ?_)
  show wpAny _ _ (Builtin.SmallTypes.ownedTupleIsFree (.ref z) >>= _) _ _ _
  refine wpAny_bind ?_
  unfold Builtin.SmallTypes.ownedTupleIsFree
  refine wpAny_bind (wpAny_field hz rfl (x := .none) rfl (wpAny_pure ?_))
  simp only [if_true]
  refine wpAny_bind (wpAny_rule ?_)
  refine wpAny_bind (wpAny_field hz rfl (x := .ref TO) rfl ?_)
  refine wpAny_bind (wpAny_setField_rec hz (by simp) fun h₁ hz₁ hs₁ => ?_)
  replace hz₁ : IsZip h₁ z TI TO .ellipsis := hz₁
  refine wpAny_bind ?_
  simp only [List.zipIdx_cons, List.zipIdx_nil, List.forIn_cons, List.forIn_nil]
  have e1 := hs₁.extBut
  have hTO₁ : IsTri h₁ TO a b c := e1 _ _ D.TOz hTO
  refine wpAny_bind (wpAny_bind (wpAny_onRaise ?_))
  show wpAny _ _ (Builtin.SmallTypes.nextOf (.ref i1) >>= _) _ _ _
  cases hx : xs[n]? with
  | none =>
    refine wpAny_bind (next_end hh (h1.at fun o q => e1 _ o D.i1z q) (hl1.at fun o q => e1 _ o a1.1 q) hx fun h₂ e hs₂ he => ?_)
    obtain ⟨oe, hoe, hce⟩ := he
    have hz₂ : IsZip h₂ z TI TO .ellipsis := hs₂ _ _ D.i1z.symm hz₁
    have hez : e ≠ z := fun x => by subst x; rw [hz₂] at hoe; cases hoe; simp at hce
    refine wpAny_setField_rec hz₂ (by simp) fun h₃ _ hs₃ => hE h₃ e (fun c o c1 _ c3 _ _ x => hs₃.extBut _ _ c1 (hs₂ _ _ c3 (e1 _ _ c1 x))) ⟨oe, hs₃.extBut _ _ hez hoe, hce⟩
  | some x =>
    refine wpAny_bind (next_item (h1.at fun o q => e1 _ o D.i1z q) (hl1.at fun o q => e1 _ o a1.1 q) hx fun h₂ h1₂ hs₂ => wpAny_pure ?_)
    have e2 := hs₂.extBut
    have hTO₂ : IsTri h₂ TO a b c := e2 _ _ D.TOi1 hTO₁
    refine wpAny_bind (wpAny_seqItems hTO₂ rfl ?_)
    refine wpAny_bind (wpAny_updateSeq_tri hTO₂ fun h₃ hTO₃ hs₃ => ?_)
    replace hTO₃ : IsTri h₃ TO x b c := hTO₃
    have e3 := hs₃.extBut
    refine wpAny_bind (wpAny_letGo (wpAny_pure ?_))
    have up3 : ∀ c o, c ≠ z → c ≠ TO → c ≠ i1 → s.heap.get? c = some o → h₃.get? c = some o := fun c o c1 c2 c3 e => e3 _ _ c2 (e2 _ _ c3 (e1 _ _ c1 e))
    have hz₃ : IsZip h₃ z TI TO .ellipsis := e3 _ _ D.TOz.symm (e2 _ _ D.i1z.symm hz₁)
    refine wpAny_bind (wpAny_bind (wpAny_onRaise ?_))
    show wpAny _ _ (Builtin.SmallTypes.nextOf (.ref i2) >>= _) _ _ _
    cases hy : ys[n]? with
    | none =>
      refine wpAny_bind (next_end hh (h2.at fun o q => up3 _ o D.i2z D.TOi2.symm D.i12.symm q) (hl2.at fun o q => up3 _ o a2.1 a2.2.1 a2.2.2.1 q) hy fun h₄ e hs₄ he => ?_)
      obtain ⟨oe, hoe, hce⟩ := he
      have hz₄ : IsZip h₄ z TI TO .ellipsis := hs₄ _ _ D.i2z.symm hz₃
      have hez : e ≠ z := fun x => by subst x; rw [hz₄] at hoe; cases hoe; simp at hce
      refine wpAny_setField_rec hz₄ (by simp) fun h₅ _ hs₅ => hE h₅ e (fun c o c1 c2 c3 c4 _ x => hs₅.extBut _ _ c1 (hs₄ _ _ c4 (up3 c o c1 c2 c3 x))) ⟨oe, hs₅.extBut _ _ hez hoe, hce⟩
    | some y =>
      have hu : zs[n]? = none := by rcases hend with h | h | h; rw [hx] at h; cases h; rw [hy] at h; cases h; exact h
      refine wpAny_bind (next_item (h2.at fun o q => up3 _ o D.i2z D.TOi2.symm D.i12.symm q) (hl2.at fun o q => up3 _ o a2.1 a2.2.1 a2.2.2.1 q) hy fun h₄ h2₄ hs₄ => wpAny_pure ?_)
      have e4 := hs₄.extBut
      have hTO₄ : IsTri h₄ TO x b c := e4 _ _ D.TOi2 hTO₃
      refine wpAny_bind (wpAny_seqItems hTO₄ rfl ?_)
      refine wpAny_bind (wpAny_updateSeq_tri hTO₄ fun h₅ hTO₅ hs₅ => ?_)
      have e5 := hs₅.extBut
      refine wpAny_bind (wpAny_letGo (wpAny_pure ?_))
      have up5 : ∀ c o, c ≠ z → c ≠ TO → c ≠ i1 → c ≠ i2 → s.heap.get? c = some o → h₅.get? c = some o := fun c o c1 c2 c3 c4 e => e5 _ _ c2 (e4 _ _ c4 (up3 c o c1 c2 c3 e))
      have hz₅ : IsZip h₅ z TI TO .ellipsis := e5 _ _ D.TOz.symm (e4 _ _ D.i2z.symm hz₃)
      refine wpAny_bind (wpAny_bind (wpAny_onRaise ?_))
      show wpAny _ _ (Builtin.SmallTypes.nextOf (.ref i3) >>= _) _ _ _
      refine wpAny_bind (next_end hh (h3.at fun o q => up5 _ o D.i3z D.TOi3.symm D.i13.symm D.i23.symm q) (hl3.at fun o q => up5 _ o a3.1 a3.2.1 a3.2.2.1 a3.2.2.2.1 q) hu fun h₆ e hs₆ he => ?_)
      obtain ⟨oe, hoe, hce⟩ := he
      have hz₆ : IsZip h₆ z TI TO .ellipsis := hs₆ _ _ D.i3z.symm hz₅
      have hez : e ≠ z := fun x => by subst x; rw [hz₆] at hoe; cases hoe; simp at hce
      refine wpAny_setField_rec hz₆ (by simp) fun h₇ _ hs₇ => hE h₇ e (fun c o c1 c2 c3 c4 c5 x => hs₇.extBut _ _ c1 (hs₆ _ _ c5 (up5 c o c1 c2 c3 c4 x))) ⟨oe, hs₇.extBut _ _ hez hoe, hce⟩

theorem pyNext_z3_item {k1 k2 k3 : Sk} {z TI TO i1 i2 i3 l1 l2 l3 : Addr} {n : Nat} {xs ys zs : Array Value} {x y u a b c : Value} {Q : Option Value → Shared → Prop} (D : Ap3 z TI TO i1 i2 i3 l1 l2 l3)
    (hz : IsZip s.heap z TI TO .none) (hTI : IsTri s.heap TI (.ref i1) (.ref i2) (.ref i3)) (hTO : IsTri s.heap TO a b c)
    (h1 : SIt k1 s.heap i1 l1 n) (h2 : SIt k2 s.heap i2 l2 n) (h3 : SIt k3 s.heap i3 l3 n) (hl1 : SSq k1 s.heap l1 xs) (hl2 : SSq k2 s.heap l2 ys) (hl3 : SSq k3 s.heap l3 zs) (hx : xs[n]? = some x) (hy : ys[n]? = some y) (hu : zs[n]? = some u)
    (hQ : ∀ h', IsZip h' z TI TO (rawInt s.heap.objs.size) → IsTri h' TO x y u → SIt k1 h' i1 l1 (n + 1) → SIt k2 h' i2 l2 (n + 1) → SIt k3 h' i3 l3 (n + 1) → IsTri h' s.heap.objs.size x y u → h'.objs.size = s.heap.objs.size + 1 →
      (∀ c o, c ≠ z → c ≠ TO → c ≠ i1 → c ≠ i2 → c ≠ i3 → s.heap.get? c = some o → h'.get? c = some o) → Q (some (.ref s.heap.objs.size)) { s with heap := h' }) :
    wpAny (model prog w) A (pyNext (.ref z)) Q E s := by
  have hT : s.TypeIs (.ref z) "zip" := ⟨_, hz, rfl⟩
  unfold pyNext
  exact wpAny_bind (wpAny_attempt (wpAny_callSpecial?_slot (name := Str.ofString "__next__") hT F.slot_zip_next
    (wpAny_call_entry F.slot_zip_next hT F.entry_zip_next
      (z3_item D hz hTI hTO h1 h2 h3 hl1 hl2 hl3 hx hy hu fun h' q1 q2 q3 q4 q5 q6 q7 q8 => wpAny_pure (hQ h' q1 q2 q3 q4 q5 q6 q7 q8)) (F.args_zip_next_1 _))))
theorem pyNext_z3_end {k1 k2 k3 : Sk} {z TI TO i1 i2 i3 l1 l2 l3 : Addr} {n : Nat} {xs ys zs : Array Value} {a b c : Value} {Q : Option Value → Shared → Prop} (hh : A.handled = none) (D : Ap3 z TI TO i1 i2 i3 l1 l2 l3)
    (hz : IsZip s.heap z TI TO .none) (hTI : IsTri s.heap TI (.ref i1) (.ref i2) (.ref i3)) (hTO : IsTri s.heap TO a b c)
    (h1 : SIt k1 s.heap i1 l1 n) (h2 : SIt k2 s.heap i2 l2 n) (h3 : SIt k3 s.heap i3 l3 n) (hl1 : SSq k1 s.heap l1 xs) (hl2 : SSq k2 s.heap l2 ys) (hl3 : SSq k3 s.heap l3 zs) (hend : xs[n]? = none ∨ ys[n]? = none ∨ zs[n]? = none)
    (hQ : ∀ h', (∀ c o, c ≠ z → c ≠ TO → c ≠ i1 → c ≠ i2 → c ≠ i3 → s.heap.get? c = some o → h'.get? c = some o) → Q none { s with heap := h' }) : wpAny (model prog w) A (pyNext (.ref z)) Q E s := by
  have hT : s.TypeIs (.ref z) "zip" := ⟨_, hz, rfl⟩
  unfold pyNext
  refine wpAny_bind (wpAny_attempt (wpAny_callSpecial?_slot (name := Str.ofString "__next__") hT F.slot_zip_next
    (wpAny_call_entry F.slot_zip_next hT F.entry_zip_next (z3_end hh D hz hTI hTO h1 h2 h3 hl1 hl2 hl3 hend fun h' e hk he => ?_) (F.args_zip_next_1 _))))
  obtain ⟨o, ho, hc⟩ := he
  refine wpAny_bind (wpAny_isInstance (T := "StopIteration") (b := true) ⟨o, ho, hc⟩ isSubtype_stop ?_)
  exact wpAny_pure (hQ _ hk)
end

theorem tc_zip_3 (a b c : Value) : checkTypeCall "zip" ⟨[a, b, c], []⟩ = pure () := by kernel_rfl
theorem nc_zip_3 (a b c : Value) : checkBuiltinCall "zip.__new__" ⟨[.type "zip", a, b, c], []⟩ = pure () := by kernel_rfl
theorem args_object_init_4 (a b c d : Value) : argsOk "object.__init__" ⟨[a, b, c, d], []⟩ := by
  unfold argsOk; rw [signature?_of (id := "object.__init__") (n := ['_', '_', 't', 'i', 'n', 'i', '_', '_']) (o := ['t', 'c', 'e', 'j', 'b', 'o']) (by kernel_rfl) F.owner_object]; kernel_rfl
abbrev zI (k : Sk) (l : Addr) : Obj := { cls := .type k.itc, data := .fields #[.ref l, .int 0 0] }
abbrev zA (k1 : Sk) (h : Heap) (l1 : Addr) : Heap := h.push (zI k1 l1)
abbrev zB (k1 k2 : Sk) (h : Heap) (l1 l2 : Addr) : Heap := (zA k1 h l1).push (zI k2 l2)
abbrev zC (k1 k2 k3 : Sk) (h : Heap) (l1 l2 l3 : Addr) : Heap := (zB k1 k2 h l1 l2).push (zI k3 l3)
abbrev zD (k1 k2 k3 : Sk) (h : Heap) (l1 l2 l3 : Addr) : Heap := (zC k1 k2 k3 h l1 l2 l3).push { cls := .type "tuple", data := .seq #[.ref h.objs.size, .ref (zA k1 h l1).objs.size, .ref (zB k1 k2 h l1 l2).objs.size] }
abbrev zE (k1 k2 k3 : Sk) (h : Heap) (l1 l2 l3 : Addr) : Heap := (zD k1 k2 k3 h l1 l2 l3).push { cls := .type "tuple", data := .seq #[.none, .none, .none] }
abbrev zF (k1 k2 k3 : Sk) (h : Heap) (l1 l2 l3 : Addr) : Heap := (zE k1 k2 k3 h l1 l2 l3).push { cls := .type "zip", data := .fields #[.none, .bool false, .bool false, .ref (zC k1 k2 k3 h l1 l2 l3).objs.size, .ref (zD k1 k2 k3 h l1 l2 l3).objs.size] }
theorem meets_z3 (k1 k2 k3 : Sk) (l1 l2 l3 : Addr) (xs ys zs : Array Value) :
    Meets (Builtin.«zip.__new__» ⟨[.type "zip", .ref l1, .ref l2, .ref l3], []⟩) (fun _ R s => SSq k1 s.heap l1 xs ∧ SSq k2 s.heap l2 ys ∧ SSq k3 s.heap l3 zs ∧
      R (.ok (.ret (.ref (zE k1 k2 k3 s.heap l1 l2 l3).objs.size))) { s with heap := zF k1 k2 k3 s.heap l1 l2 l3 }) :=
  .of_wp fun prog w A R s h => by
    obtain ⟨hp, g, d, tk, os⟩ := s; obtain ⟨hl1, hl2, hl3, h⟩ := h
    have hsub := sub_zip
    have hL1 : SSq k1 (Shared.heap ⟨hp, g, d, tk, os⟩) l1 xs := hl1
    have hL2 : SSq k2 (Shared.heap ⟨hp.push (zI k1 l1), g, d, tk, os⟩) l2 ys := SSq.at hl2 fun o e => Heap.get?_push_of_some _ e
    have hL3 : SSq k3 (Shared.heap ⟨(hp.push (zI k1 l1)).push (zI k2 l2), g, d, tk, os⟩) l3 zs := SSq.at hl3 fun o e => Heap.get?_push_of_some _ (Heap.get?_push_of_some _ e)
    wp_walk using iter_sq hL1, iter_sq hL2, iter_sq hL3
    exact ⟨_, rfl, h⟩
def SqK (K : PySem.W.Frag) (k : Sk) (H : Hp) (a : Addr) (xs : List V) : Prop := match k with
  | .l => SqL K H a xs
  | .t => SqT K H a xs
theorem Inv_sq {X : Cx} {pins : List (Addr × Obj)} {σ : L2.St} {H : Hp} {s : Shared} {k : Sk} {a : Addr} {xs : List V} (I : Inv X pins σ H s) (h : SqK X.K k H a xs) : ∃ its : List Value, Vals xs its ∧ SSq k s.heap a its.toArray := by
  cases k with
  | l => obtain ⟨its, rv, p, _⟩ := I.list h; exact ⟨its, rv, p.isList⟩
  | t => obtain ⟨its, rv, p, _⟩ := I.tuple h; exact ⟨its, rv, p⟩
/-! ### the ints of a list or a tuple: their sum, the greatest, the least -/
section
variable {prog : Program} {w : World} {A : Around} {E : Value → Shared → Prop} {s : Shared} {k : Sk} {l : Addr}
theorem walks_sq (hh : A.handled = none) (I ax : Addr) (hne : ax ≠ I) (items : Array Value) : Walks prog w A I [I, ax] [I] items.size (fun i v => items[i]? = some v) (fun i h => SIt k h I ax i ∧ SSq k h ax items) := by
  cases k with
  | l => exact Walks.list hh I ax hne items
  | t => exact Walks.tuple hh I ax hne items
theorem iter_sqW {items : Array Value} {Q : Value → Shared → Prop} (hl : SSq k s.heap l items)
    (h : ∀ s₂ : Shared, s₂ = { s with heap := s.heap.push (zI k l) } → (SIt k s₂.heap s.heap.objs.size l 0 ∧ SSq k s₂.heap l items) → (∀ b ∈ [s.heap.objs.size, l], b < s₂.heap.objs.size) → l ≠ s.heap.objs.size → Q (.ref s.heap.objs.size) s₂) : wpAny (model prog w) A (pyIter (.ref l)) Q E s := by
  obtain ⟨o, e⟩ := hl.get
  have hlt : l < s.heap.objs.size := Heap.lt_size e
  refine iter_sq hl (h _ rfl ⟨?_, hl.at fun o e => Heap.get?_push_of_some _ e⟩ (fun b hb => ?_) (Nat.ne_of_lt hlt))
  · cases k with
    | l => exact ⟨_, Heap.get?_push_size _ rfl, rfl, rfl⟩
    | t => exact ⟨_, Heap.get?_push_size _ rfl, rfl, rfl⟩
  · show b < (s.heap.push (zI k l)).objs.size
    rw [Heap.size_push]
    simp only [List.mem_cons, List.not_mem_nil, or_false] at hb
    rcases hb with e | e
    · rw [e]; exact Nat.lt_succ_self _
    · rw [e]; exact Nat.lt_succ_of_lt hlt
theorem kept_sq {h h' : Heap} {o1 : Obj} (hk : ∀ b o, b ∉ [h.objs.size] → (h.push o1).get? b = some o → h'.get? b = some o) : ∀ b o, h.get? b = some o → h'.get? b = some o := fun b o e =>
  hk b o (fun z => by simp only [List.mem_cons, List.not_mem_nil, or_false] at z; exact absurd (z ▸ Heap.lt_size e) (Nat.lt_irrefl _)) (Heap.get?_push_of_some _ e)
variable {its : List Value} {ns : List Int} {Q : Value → Shared → Prop}
theorem sum_sq (hh : A.handled = none) (hl : SSq k s.heap l its.toArray) (hi : IntsAre its ns)
    (h : ∀ h' tk t', (∀ b o, s.heap.get? b = some o → h'.get? b = some o) → Q (.int ns.sum t') { s with heap := h', toks := tk }) : wpAny (model prog w) A (call (.builtin "sum") [.ref l]) Q E s := by
  obtain ⟨xs, e⟩ := hi.allInts.items
  have hn : numsOf (intItems xs).toList = ns := by rw [← e]; exact hi.numsOf
  rw [nums_intItems] at hn
  rw [e] at hl
  refine call_sum_walkG (iter_sqW hl fun s₂ e2 st hfp hne => ?_)
  subst e2
  refine ⟨_, _, _, _, _, _, numAt xs, rfl, walks_sq (A := A.in1) hh _ l hne (intItems xs), st, hfp, (fun _ _ => intItems_at), fun h' tk t' hk => ?_⟩
  have q := h h' tk t' (kept_sq hk)
  rw [← hn] at q
  have e3 : preSum (numAt xs) (intItems xs).size = (xs.toList.map (·.1)).sum := by
    rw [preSum_eq, List.take_of_length_le (by simp [intItems])]
  rw [e3]; exact q
theorem max_sq (hh : A.handled = none) (hl : SSq k s.heap l its.toArray) (hi : IntsAre its ns) (hne : 0 < ns.length)
    (h : ∀ h' tk M t', (∀ b o, s.heap.get? b = some o → h'.get? b = some o) → M ∈ ns → (∀ a, a ∈ ns → a ≤ M) → Q (.int M t') { s with heap := h', toks := tk }) : wpAny (model prog w) A (call (.builtin "max") [.ref l]) Q E s := by
  obtain ⟨xs, e⟩ := hi.allInts.items
  have hn : numsOf (intItems xs).toList = ns := by rw [← e]; exact hi.numsOf
  rw [nums_intItems] at hn
  subst hn
  rw [e] at hl
  have hsz : 0 < xs.size := by simpa using hne
  refine call_max_walk (iter_sqW hl fun s₂ e2 st hfp hne => ?_)
  subst e2
  refine ⟨_, _, _, _, _, _, _, rfl, walks_sq (A := A.in1) hh _ l hne (intItems xs), st, hfp, by simpa [intItems] using hsz, CmpOf.ints_gt (numAt xs) (fun _ _ => intItems_at), fun v h' tk hP hk => ?_⟩
  obtain ⟨t, rfl⟩ := intItems_at hP
  have e5 : (intItems xs).size = xs.size := by simp [intItems]
  rw [e5]
  obtain ⟨h1, h2⟩ := argBest_gt (numAt xs) (xs.size - 1)
  refine h h' tk _ t (kept_sq hk) ?_ fun a ha => ?_
  · rw [numAt_eq]; exact PySem.getD_mem (by rw [List.length_map, Array.length_toList]; omega)
  · obtain ⟨j, hj, rfl⟩ := mem_getD ha
    rw [List.length_map, Array.length_toList] at hj
    rw [← numAt_eq]; exact h2 j (by omega)
theorem min_sq (hh : A.handled = none) (hl : SSq k s.heap l its.toArray) (hi : IntsAre its ns) (hne : 0 < ns.length)
    (h : ∀ h' tk M t', (∀ b o, s.heap.get? b = some o → h'.get? b = some o) → M ∈ ns → (∀ a, a ∈ ns → M ≤ a) → Q (.int M t') { s with heap := h', toks := tk }) : wpAny (model prog w) A (call (.builtin "min") [.ref l]) Q E s := by
  obtain ⟨xs, e⟩ := hi.allInts.items
  have hn : numsOf (intItems xs).toList = ns := by rw [← e]; exact hi.numsOf
  rw [nums_intItems] at hn
  subst hn
  rw [e] at hl
  have hsz : 0 < xs.size := by simpa using hne
  refine call_min_walk (iter_sqW hl fun s₂ e2 st hfp hne => ?_)
  subst e2
  refine ⟨_, _, _, _, _, _, _, rfl, walks_sq (A := A.in1) hh _ l hne (intItems xs), st, hfp, by simpa [intItems] using hsz, CmpOf.ints_lt (numAt xs) (fun _ _ => intItems_at), fun v h' tk hP hk => ?_⟩
  obtain ⟨t, rfl⟩ := intItems_at hP
  have e5 : (intItems xs).size = xs.size := by simp [intItems]
  rw [e5]
  obtain ⟨h1, h2⟩ := argBest_lt (numAt xs) (xs.size - 1)
  refine h h' tk _ t (kept_sq hk) ?_ fun a ha => ?_
  · rw [numAt_eq]; exact PySem.getD_mem (by rw [List.length_map, Array.length_toList]; omega)
  · obtain ⟨j, hj, rfl⟩ := mem_getD ha
    rw [List.length_map, Array.length_toList] at hj
    rw [← numAt_eq]; exact h2 j (by omega)
end
section
variable {X : Cx}
def rSumK (K : PySem.W.Frag) : List V → Hp → VK → Prop := fun vs H Q => ∃ (k : Sk) (a : Addr) (ns : List Int), vs = [V.ref a] ∧ SqK K k H a (ns.map V.int) ∧ Q (.int ns.sum) H
def rMaxK (K : PySem.W.Frag) : List V → Hp → VK → Prop := fun vs H Q => ∃ (k : Sk) (a : Addr) (ns : List Int), vs = [V.ref a] ∧ SqK K k H a (ns.map V.int) ∧ 0 < ns.length ∧ ∀ m, m ∈ ns → (∀ y, y ∈ ns → y ≤ m) → Q (.int m) H
def rMinK (K : PySem.W.Frag) : List V → Hp → VK → Prop := fun vs H Q => ∃ (k : Sk) (a : Addr) (ns : List Int), vs = [V.ref a] ∧ SqK K k H a (ns.map V.int) ∧ 0 < ns.length ∧ ∀ m, m ∈ ns → (∀ y, y ∈ ns → m ≤ y) → Q (.int m) H
theorem cr_sumK (hc : X.calm = true) : CallR X (.builtin "sum") (rSumK X.K) := by
  intro pins s σ H vs us Q I r h
  obtain ⟨k, a, ns, rfl, hs, q⟩ := h
  obtain ⟨its, rv, hl⟩ := Inv_sq I hs
  rw [Vals.ref1 r]
  exact sum_sq (I.ok.hd hc) hl rv.ints fun h' tk t' hk => ⟨.int _, H, I.kept hk, ⟨_, rfl⟩, q⟩
theorem cr_maxK (hc : X.calm = true) : CallR X (.builtin "max") (rMaxK X.K) := by
  intro pins s σ H vs us Q I r h
  obtain ⟨k, a, ns, rfl, hs, hne, q⟩ := h
  obtain ⟨its, rv, hl⟩ := Inv_sq I hs
  rw [Vals.ref1 r]
  exact max_sq (I.ok.hd hc) hl rv.ints hne fun h' tk m t' hk h1 h2 => ⟨.int _, H, I.kept hk, ⟨_, rfl⟩, q m h1 h2⟩
theorem cr_minK (hc : X.calm = true) : CallR X (.builtin "min") (rMinK X.K) := by
  intro pins s σ H vs us Q I r h
  obtain ⟨k, a, ns, rfl, hs, hne, q⟩ := h
  obtain ⟨its, rv, hl⟩ := Inv_sq I hs
  rw [Vals.ref1 r]
  exact min_sq (I.ok.hd hc) hl rv.ints hne fun h' tk m t' hk h1 h2 => ⟨.int _, H, I.kept hk, ⟨_, rfl⟩, q m h1 h2⟩
end
end Ev

set_option maxRecDepth 100000
set_option maxHeartbeats 1000000
/-! EvS2: sorted, by values -/
namespace Ev
open PySem PySem.Spec PyProof.Rows L2
def intOf : Value → Option Int
  | .int i _ => some i
  | _ => none
def keyV (h : Heap) : Value → List Int
  | .ref a => match h.get? a with
    | some o => (match o.data with
      | .seq us _ => us.toList.filterMap intOf
      | _ => [])
    | none => []
  | _ => []
theorem AreInts.key : ∀ {us : List Value} {ns : List Int}, AreInts us ns → us.filterMap intOf = ns
  | _, _, .nil => rfl
  | _, _, .cons r => by simp [intOf, AreInts.key r]
theorem IsTupI.key {h : Heap} {v : Value} {ns : List Int} (x : IsTupI h v ns) : keyV h v = ns := by
  obtain ⟨a, o, us, n, rfl, ho, hc, hd, r⟩ := x
  unfold keyV
  simp only [ho, hd]
  exact r.key
theorem areInts_of : ∀ {ns : List Int} {us : List Value}, Vals (ns.map V.int) us → AreInts us ns
  | [], _, .nil => .nil
  | n :: ns, _, .cons r rr => by
    obtain ⟨t, rfl⟩ := r
    exact .cons (areInts_of rr)
theorem intsO_eq : ∀ {xs : List D} {ns : List Int}, intsO xs = some ns → xs = ns.map D.int
  | [], ns, h => by simp [intsO] at h; subst h; rfl
  | x :: xs, ns, h => by
    cases x with
    | int i =>
      simp only [intsO, Option.map_eq_some_iff] at h
      obtain ⟨ms, h1, rfl⟩ := h
      rw [intsO_eq h1]; rfl
    | _ => simp [intsO] at h
theorem keysT_eq : ∀ {xs : List D} {ks : List (List Int)}, keysT xs = some ks → xs = ks.map tupD ∧ ∀ k ∈ ks, k ≠ []
  | [], ks, h => by simp [keysT] at h; subst h; exact ⟨rfl, fun k hk => by cases hk⟩
  | x :: xs, ks, h => by
    unfold keysT at h
    split at h
    · rename_i he
      cases he
    · rename_i d ds r he
      cases he
      split at h
      · rename_i k ks' h1 h2
        cases h
        obtain ⟨e1, e2⟩ := keysT_eq h2
        have e3 := intsO_eq h1
        refine ⟨by rw [List.map_cons, ← e1, tupD, ← e3], fun k' hk => ?_⟩
        rcases List.mem_cons.mp hk with e | hk
        · subst e
          intro z; subst z; cases e3
        · exact e2 k' hk
      · cases h
    · cases h
theorem ints_vals {K : PySem.W.Frag} {F : Nat → Addr} {ω : Wd} : ∀ {ns : List Int} {vs : List V}, Reps K F ω (ns.map D.int) vs → vs = ns.map V.int
  | [], _, .nil => rfl
  | n :: ns, _, .cons h r => by rw [Rep.int_inv h, ints_vals r]; rfl
theorem sort_items {X : Cx} {F : Nat → Addr} {pins : List (Addr × Obj)} {σ : L2.St} {s : Shared} {ω : Wd} (I : Inv X pins σ ω.H s) : ∀ {ks : List (List Int)} {vs : List V} {us : List Value}, Reps X.K F ω (ks.map tupD) vs → Vals vs us → (∀ k ∈ ks, k ≠ []) →
    us.map (keyV s.heap) = ks ∧ ∀ u ∈ us, ∃ a, u = .ref a ∧ Rep X.K F ω (tupD (keyV s.heap u)) (.ref a) ∧ IsTupI s.heap u (keyV s.heap u) ∧ keyV s.heap u ≠ []
  | [], _, _, .nil, .nil, _ => ⟨rfl, fun u hu => by cases hu⟩
  | k :: ks, _, _, .cons h r, .cons q qs, hne => by
    obtain ⟨h1, h2⟩ := sort_items I r qs fun k hk => hne k (List.mem_cons_of_mem _ hk)
    have hh := h
    obtain ⟨a, ws, rfl, st, _, rw'⟩ := Rep.tup_inv h
    have e := ints_vals rw'
    subst e
    cases q
    obtain ⟨its, rv, ⟨o, ho, hc, n, hd⟩, _⟩ := I.tuple st.sq
    have it : IsTupI s.heap (.ref a) k := ⟨a, o, its, n, rfl, ho, hc, hd, areInts_of rv⟩
    have ek := it.key
    refine ⟨by rw [List.map_cons, ek, h1], fun u hu => ?_⟩
    rcases List.mem_cons.mp hu with e | hu
    · subst e
      rw [ek]
      exact ⟨a, rfl, hh, it, hne k List.mem_cons_self⟩
    · exact h2 u hu
theorem reps_of {K : PySem.W.Frag} {F : Nat → Addr} {ω : Wd} {f : Value → D} : ∀ {us : List Value}, (∀ u ∈ us, ∃ a, u = .ref a ∧ Rep K F ω (f u) (.ref a)) → ∃ vs : List V, Vals vs us ∧ Reps K F ω (us.map f) vs
  | [], _ => ⟨[], .nil, .nil⟩
  | u :: us, h => by
    obtain ⟨vs, h1, h2⟩ := reps_of fun u hu => h u (List.mem_cons_of_mem _ hu)
    obtain ⟨a, e, r⟩ := h u List.mem_cons_self
    exact ⟨.ref a :: vs, .cons (show RelV (.ref a) u from e) h1, .cons r h2⟩
open SrtO Srt in
theorem sort_M {X : Cx} {F : Nat → Addr} {pins : List (Addr × Obj)} {σ : L2.St} {s : Shared} {ω : Wd} {P : Addr → Prop} {A : AH} {k : Sk} {a : Addr} {ks : List (List Int)} {vs : List V} {Q : VK} (I : Inv X pins σ ω.H s) (hr : HR X.K F P ω A) (hs : SqK X.K k ω.H a vs) (hl : vs.length ≤ sizeLine)
    (r : Reps X.K F ω (ks.map tupD) vs) (hne : ∀ k ∈ ks, k ≠ []) (o : Out X.K F U P ω (.ok (.lst ((sortK ks).map tupD)) A) (fin X.K F Q)) : wpAny (model X.prog X.w) X.A (call (.builtin "sorted") [.ref a]) (EP X pins σ Q) X.xe s := by
  obtain ⟨its, rv, sq⟩ := Inv_sq I hs
  obtain ⟨h1, h2⟩ := sort_items I r rv hne
  have hz : its.length ≤ sizeLine := by rw [← rv.length]; exact hl
  have fin1 : ∀ (h1' h' : Heap) (d : Addr) (out : List Value), Srtd (fun v u => lexLt (keyV s.heap v) (keyV s.heap u)) out → Stb (fun v u => lexLt (keyV s.heap v) (keyV s.heap u)) out its → (∀ b o, s.heap.get? b = some o → h1'.get? b = some o) → (∀ b o, h1'.get? b = some o → h'.get? b = some o) → h1'.objs.size ≤ d →
      (∃ n, h'.get? d = some (seqObj "list" out.toArray n)) → EP X pins σ Q (.ref d) { s with heap := h' } := by
    intro h1' h' d out srt stb k1 k2 hd ⟨n, ed⟩
    have perm := stb.perm
    obtain ⟨ws, w1, w2⟩ := reps_of (K := X.K) (F := F) (ω := ω) (f := fun u => tupD (keyV s.heap u)) (us := out) fun u hu => by
      obtain ⟨b, e1, e2, _, _⟩ := h2 u (perm.subset hu)
      exact ⟨b, e1, e2⟩
    have ek : out.map (keyV s.heap) = sortK ks := by
      refine sortK_eq ?_ ?_
      · rw [← h1]; exact perm.map _
      · exact List.pairwise_map.mpr srt
    have ex : out.map (fun u => tupD (keyV s.heap u)) = (sortK ks).map tupD := by rw [← ek, List.map_map]; rfl
    rw [ex] at w2
    have hwl : ws.length ≤ sizeLine := by rw [w1.length, perm.length_eq]; exact hz
    have I1 : Inv X pins σ ω.H { s with heap := h1' } := I.kept (t' := s.toks) k1
    have fr := I1.hok.fresh hd
    have I2 : Inv X pins σ (upd ω.H d (.lst ws)) { s with heap := h' } := I1.laid (t' := s.toks) k2 hd (show ObjOk X.prog X.w _ _ _ (.lst ws) from ⟨hwl, out, n, w1, ed⟩)
    exact ⟨.ref d, _, I2, rfl, o.newL hr w2 hwl d fr⟩
  have sortable : 2 ≤ its.length → ∀ (h₁ : Heap) (b : Addr), h₁.get? b = some (seqObj "list" its.toArray 0) → (∀ c o, s.heap.get? c = some o → c ≠ b ∧ h₁.get? c = some o) → SortableO X.prog X.w X.A.in1.in1 { s with heap := h₁ } b its fun v u => lexLt (keyV s.heap v) (keyV s.heap u) := by
    intro h2' h₁ b hb kp
    refine tup_sortable (s := { s with heap := h₁ }) (by omega) (fun v hv => ?_) fun o e => ?_
    · obtain ⟨c, e1, _, ⟨c', o, us, n, e3, ho, hc, hd, q⟩, hne'⟩ := h2 v hv
      exact ⟨⟨c', o, us, n, e3, (kp c' o ho).2, hc, hd, q⟩, hne'⟩
    · have e' : some o = some (seqObj "list" its.toArray 0) := e.symm.trans hb
      cases e'
      intro z
      exact absurd (Value.type.inj z) (by decide)
  cases k with
  | l =>
    obtain ⟨ob, ho, hc, n, hd⟩ := (show s.heap.IsList a its.toArray from sq)
    exact sorted_seq (swo_tup _) (.inl rfl) ho hc hd hz sortable fin1
  | t =>
    obtain ⟨ob, ho, hc, n, hd⟩ := (show s.heap.IsTuple a its.toArray from sq)
    exact sorted_seq (swo_tup _) (.inr rfl) ho hc hd hz sortable fin1
end Ev

set_option maxRecDepth 100000
/-! EvR: repr, by values -/
namespace Ev
open PySem PySem.Spec L2
theorem strOk_lt {s : Str} (h : PyData.strOk s = true) : ∀ c ∈ s.cps.toList, c < 16 ^ 8 := fun c hc => by
  have h1 : (s.cps.all fun x => decide (x < 0x110000)) = true := h
  rw [← Array.all_toList, List.all_eq_true] at h1
  have := of_decide_eq_true (h1 c hc)
  omega
mutual
theorem D.py_short : ∀ {n : Nat} {d : D}, D.flatN n d = true → D.sml d = true → (D.py d).leavesShort 41 = true ∧ (D.py d).weight ≤ D.wt d ∧ (D.py d).showable = true ∧ (D.py d).hasDict = false
  | _, .non, _, _ => ⟨rfl, Nat.le_refl _, rfl, rfl⟩
  | _, .bl _, _, _ => ⟨rfl, Nat.zero_le _, rfl, rfl⟩
  | _, .int i, _, h => by
    simp only [D.sml, decide_eq_true_eq] at h
    have h2 : i.natAbs.log2 ≤ 133 := by
      by_cases z : i.natAbs = 0
      · rw [z]; decide
      · exact Nat.le_of_lt_succ ((Nat.log2_lt z).mpr (Nat.lt_of_lt_of_le h (by decide)))
    refine ⟨?_, ?_, ?_, rfl⟩
    · simp only [D.py, PyData.leavesShort, decide_eq_true_eq]
      have e := int_text_length_le10 (k := 40) (by decide) h
      show (Str.ofString (toString i)).length ≤ 41
      rw [ofString_length]; omega
    · simp only [D.py, PyData.weight, D.wt]
      split <;> omega
    · simp only [D.py, PyData.showable, decide_eq_true_eq]
      omega
  | _, .str s, h, _ => by
    simp only [D.flatN] at h
    refine ⟨?_, Nat.le_refl _, rfl, rfl⟩
    simp only [D.py, PyData.leavesShort, List.all_eq_true, decide_eq_true_eq]
    exact strOk_lt h
  | n + 1, .tup xs, h, k => by
    simp only [D.flatN] at h
    simp only [D.sml] at k
    obtain ⟨h1, h2, h3, h4⟩ := D.pys_short h k
    exact ⟨by simpa only [D.py, PyData.leavesShort] using h1, by simpa only [D.py, PyData.weight, D.wt] using h2, by simpa only [D.py, PyData.showable] using h3, by simpa only [D.py, PyData.hasDict] using h4⟩
  | n + 1, .lst xs, h, k => by
    simp only [D.flatN] at h
    simp only [D.sml] at k
    obtain ⟨h1, h2, h3, h4⟩ := D.pys_short h k
    exact ⟨by simpa only [D.py, PyData.leavesShort] using h1, by simpa only [D.py, PyData.weight, D.wt] using h2, by simpa only [D.py, PyData.showable] using h3, by simpa only [D.py, PyData.hasDict] using h4⟩
  | 0, .tup _, h, _ => by simp [D.flatN] at h
  | 0, .lst _, h, _ => by simp [D.flatN] at h
  | _, .kl _, h, _ => by simp [D.flatN] at h
  | _, .dk _ _, h, _ => by simp [D.flatN] at h
  | _, .dt _ _, h, _ => by simp [D.flatN] at h
  | _, .ref _, h, _ => by simp [D.flatN] at h
  | _, .fn _, h, _ => by simp [D.flatN] at h
  | _, .ty _, h, _ => by simp [D.flatN] at h
  | _, .exn _ _, h, _ => by simp [D.flatN] at h
theorem D.pys_short : ∀ {n : Nat} {d : List D}, D.flatNs n d = true → D.smls d = true → PyData.leavesShortAll 41 (D.pys d) = true ∧ PyData.weightAll (D.pys d) ≤ D.wts d ∧ PyData.showableAll (D.pys d) = true ∧ PyData.hasDictAll (D.pys d) = false
  | _, [], _, _ => ⟨rfl, Nat.le_refl _, rfl, rfl⟩
  | n, x :: xs, h, k => by
    simp only [D.flatNs, Bool.and_eq_true] at h
    simp only [D.smls, Bool.and_eq_true] at k
    obtain ⟨h1, h2, h3, h4⟩ := D.py_short h.1 k.1
    obtain ⟨g1, g2, g3, g4⟩ := D.pys_short h.2 k.2
    simp only [D.pys, PyData.leavesShortAll, PyData.weightAll, PyData.showableAll, PyData.hasDictAll, D.wts, h1, h3, h4, g1, g3, g4]
    exact ⟨rfl, by omega, rfl, rfl⟩
end
theorem D.shw_fits {d : D} (h : d.shw = true) : D.flatN 60 d = true ∧ (D.py d).shown.length ≤ sizeLine ∧ (D.py d).showable = true ∧ (D.py d).hasDict = false ∧ (D.py d).depth ≤ 60 := by
  unfold D.shw at h
  simp only [Bool.and_eq_true, decide_eq_true_eq] at h
  obtain ⟨⟨h1, h2⟩, h3⟩ := h
  obtain ⟨g1, g2, g3, g4⟩ := D.py_short h1 h2
  refine ⟨h1, ?_, g3, g4, (D.py_lay h1).2⟩
  have := PyData.shown_le 41 (by decide) (D.py d) g1
  rw [sizeLine_eq]
  omega
theorem reprM {X : Cx} {F : Nat → Addr} {pins : List (Addr × Obj)} {σ : St} {s : Shared} {P : Addr → Prop} {ω : Wd} {A : AH} {d : D} {v : V} {u : Value} {Q : VK} {t : Str} (I : Inv X pins σ ω.H s) (rx : RelV v u) (hr : HR X.K F P ω A) (r : Rep X.K F ω d v)
    (hu : X.A.units + 65 < cLine) (hgd : X.A.guards = some []) (e : reprO A d = some t) (o : t.length ≤ sizeLine → Q (.str t) ω.H) : wpAny (model X.prog X.w) X.A (call (.builtin "repr") [u]) (EP X pins σ Q) X.xe s := by
  unfold reprO at e
  have vd := view hr r
  revert e vd
  generalize shal A d = d'
  intro e vd
  split at e
  · cases e
    obtain ⟨a, vs, rfl, hH, hl, hR⟩ := vd
    cases hR
    obtain rfl : u = .ref a := rx
    obtain ⟨_, hsys, vs', rel, o', es, ep, ho, hx, hdt, hk, hp, _⟩ := dk_rd I.hok hH
    cases rel
    have hes : es.toList = [] := by
      cases h : es.toList with
      | nil => rfl
      | cons x l => rw [h] at hp; cases hp
    have R : Reads s.heap (.ref a) (.dict []) _ := .dict ho hx.1 hdt (by rw [hes]; exact .nil) (by rw [hes]; exact .nil)
    have hz : (PyData.shown (.dict [])).length ≤ sizeLine := by rw [sizeLine_eq]; decide
    refine repr_of_reads' R rfl (fun _ => by simpa using fun z => (beq_eq_false_iff_ne.mp hsys) z.symm) hgd (by show X.A.units + 2 < cLine; omega) (fun _ _ q => q) (fun h' w tk hk => ⟨.str _, ω.H, I.kept hk, ⟨_, rfl⟩, o hz⟩) hz
  · split at e
    · rename_i hs
      cases e
      obtain ⟨h1, h2, h3, h4, h5⟩ := D.shw_fits hs
      have dp := View.dp h1 vd
      obtain ⟨as, R⟩ := Dp.reads I _ v u dp rx
      revert R h2 h3 h4 h5 o
      generalize D.py d' = pd
      intro o h2 h3 h4 h5 R
      have big : ∀ a, u = .ref a → wpAny (model X.prog X.w) X.A (call (.builtin "repr") [u]) (EP X pins σ Q) X.xe s := fun a ea => by
        subst ea
        exact repr_of_reads' R h3 (fun z => by rw [h4] at z; cases z) hgd (by omega) (fun _ _ q => q) (fun h' w tk hk => ⟨.str _, ω.H, I.kept hk, ⟨_, rfl⟩, o h2⟩) h2
      cases R with
      | none => exact PySem.P.repr_of_none ⟨.str _, ω.H, I.tok _, ⟨_, rfl⟩, o h2⟩
      | bool b => exact PySem.P.repr_of_bool ⟨.str _, ω.H, I.tok _, ⟨_, rfl⟩, o h2⟩
      | int i t => exact PySem.P.repr_of_int (by simpa only [PyData.showable, decide_eq_true_eq] using h3) ⟨.str _, ω.H, I.tok _, ⟨_, rfl⟩, o h2⟩
      | str x t => exact PySem.P.repr_of_str ⟨.str _, ω.H, I.tok _, ⟨_, rfl⟩, o h2⟩ h2
      | list _ _ _ _ => exact big _ rfl
      | tuple _ _ _ _ => exact big _ rfl
      | dict _ _ _ _ _ => exact big _ rfl
    · cases e
end Ev

set_option maxRecDepth 100000
/-! EvG: promises of defs where nothing is being shown (no guards): for repr; calls by them; the law's own call -/
namespace Ev
open PySem PySem.Spec L2 PyProof.Rows
/-- as FnOk, where no repr is under way -/
structure FnOkG (P : Program) (w : World) (K : PySem.W.Frag) (mg : Str → Option Value) (base : Heap) (k : Nat) (f : Addr) (fd : FuncData) (ps : List Str) (sp : Sp) : Prop where
  len : ∀ vs H Q E, sp vs H Q E → vs.length = ps.length
  run : ∀ (A : Around), A.guards = some [] → ∀ (outer : List PySem.Env) (s : Shared) (H : Hp) (args : Args) (us : List Value) (vs : List V) (Q : VK) (E : XK), Room k A → Env0 P w K mg base A outer s H → BindsTo s fd args (ps.zip us) → Vals vs us → sp vs H Q E →
    codeAny (model P w) A (.call (.ref f) args) (CR (L2.CX P w) outer P w H s Q E) s
section
variable {P : Program} {w : World} {K : PySem.W.Frag} {mg : Str → Option Value} {base : Heap}
theorem FnOkG.of {k : Nat} {f : Addr} {fd : FuncData} {ps : List Str} {sp : Sp} (h : FnOk P w K mg base (L2.CX P w) k f fd ps sp) : FnOkG P w K mg base k f fd ps sp :=
  ⟨h.len, fun A _ o s H args us vs Q E => h.run A o s H args us vs Q E⟩
theorem FnOkG.imp {k : Nat} {f : Addr} {fd : FuncData} {ps : List Str} {sp sp' : Sp} (F : FnOkG P w K mg base k f fd ps sp) (h : ∀ vs H Q E, sp' vs H Q E → sp vs H Q E) : FnOkG P w K mg base k f fd ps sp' :=
  ⟨fun vs H Q E z => F.len vs H Q E (h vs H Q E z), fun A g o s H args us vs Q E r e b v z => F.run A g o s H args us vs Q E r e b v (h vs H Q E z)⟩
/-- the keys of a start are known names -/
theorem par_known {N ps : List Str} {sc : Scope} (S : FnScope N ps sc) {us : List Value} (n : Nat) : ∀ y ∈ ps.zip us, sc.names.lookup y.1 = some .local ∨ (sc.names.lookup y.1 = some .cell ∧ ((cellsFrom n sc.names []).lookup y.1).isSome = true) := by
  rintro ⟨x, v⟩ hx
  have h := S.par x (List.of_mem_zip hx).1
  exact h.imp id fun c => ⟨c, PySem.W.cellsFrom_some sc.names n [] (.inl c)⟩
/-- what a body's run leaves is a call's end -/
theorem ends_CE {X : Cx} {pins : List (Addr × Obj)} {Q : VK} {outer : List PySem.Env} {H : Hp} {s s' : Shared} (h1 : ∀ σ' H', Inv X pins σ' H' s' → s'.os = s.os ∧ AllBare s'.gens ∧ Un (frs outer) [] H H' s.heap s'.heap ∧ HOk X.prog X.w H' s'.heap) {σ' : L2.St} {H' : Hp} {v : V} {u : Value} (I : Inv X pins σ' H' s') (r : RelV v u) (q : Q v H') :
    CE outer X.prog X.w H s Q u s' := by
  obtain ⟨a, b, c, d⟩ := h1 σ' H' I
  exact ⟨v, H', a, b, c, d, r, q⟩
theorem fnG {x qual : Str} {st : Stmt} {f : Addr} {fd : FuncData} {N ps : List Str} {k : Nat} {sp : Sp} (Fu : Fun K x qual st f fd) (S : FnScope N ps (defScope st)) (len : ∀ vs H Q E, sp vs H Q E → vs.length = ps.length)
    (hbody : ∀ (cd : Value) (A : Around), A.guards = some [] → ∀ (outer : List PySem.Env) (s : Shared) (H : Hp) (vs : List V) (Q : VK) (E : XK), Room k (A.deeper (envOfC qual (defScope st) s.heap.objs.size f cd)) → sp vs H Q E →
      ∃ t, PSs (cxOf (L2.CX P w) P w K mg base N qual (defScope st) f cd A outer s H E) (defBody st) t ∧ t { nx := fun _ H' => Q .non H', rt := Q } (L2.start N vs) H) :
    FnOkG P w K mg base (k + 1) f fd ps sp := by
  obtain ⟨oc, od, kV, doc, pm, an, cdv, ct, osl, rfl, lk, hcd⟩ := Fu.ex
  constructor
  · exact len
  intro A g outer s H args us vs Q E hr e0 hb rv hs
  have keep := fun b o (e : base.get? b = some o) => (e0.bs b o e).1
  have Kin := e0.mod.kin.keeps keep
  have nl := e0.mod.nolimit.keeps keep
  refine codeAny_call_function hr.depth (Kin _ _ lk) rfl S.co S.gen rfl (PySem.W.codeRec_of Kin hcd) (hb _ _ _ _ (wpAny_newFunctionEnv_cells S.kind (par_known S _) ?_))
  rintro env rfl s1 hx
  obtain ⟨t, ht, hq⟩ := hbody cdv A g outer s H vs Q E (hr.deeper _) hs
  have I := inv_start (CX := L2.CX P w) (E := E) S hr.hd e0 (len vs H Q E hs) rv hx
  refine ⟨nl.keeps hx.toInCall.keep, codeAny_func (wpAny_mono (ht.run [] s1 _ H _ I hq) ?_ (fun _ _ z => z))⟩
  intro fl s' z
  have out : ∀ {σ' : L2.St} {H' : Hp} {v : V} {u : Value}, Inv (cxOf (L2.CX P w) P w K mg base N qual (defScope st) f cdv A outer s H E) [] σ' H' s' → RelV v u → Q v H' → CE outer P w H s Q u s' :=
    fun J r q => ⟨_, _, J.os, J.bare, J.base, J.hok, r, q⟩
  match fl, z with
  | .ret u, ⟨v, σ', H', J, r, q⟩ => exact out J r q
  | .next, ⟨σ', H', J, q⟩ => exact out (v := V.non) (u := Value.none) J rfl q
  | .brk, ⟨_, _, _, q⟩ => exact q.elim
  | .cont, ⟨_, _, _, q⟩ => exact q.elim
end
section
variable {X : Cx} {k : Nat} {f : Addr} {fd : FuncData} {ps : List Str} {sp : Sp} {E : XK} {x : Str} {p pos : Pos} {e : Expr} {es : List Expr} {t : TA}
/-- what a call leaves -/
theorem cr_end {pins : List (Addr × Obj)} {σ : L2.St} {H : Hp} {s s' : Shared} {Q : VK} {r : Result} (I : Inv X pins σ H s) (hx : Passes (L2.CX X.prog X.w) X E) (h : CR (L2.CX X.prog X.w) X.stack X.prog X.w H s Q E r s') : callEnd (EP X pins σ Q) X.xe r s' := by
  match r, h with
  | .ok (.ret u), h => exact I.after h
  | .error e, h => exact hx pins σ H s e s' I h
  | .ok .next, h => exact h.elim
  | .ok .brk, h => exact h.elim
  | .ok .cont, h => exact h.elim
theorem runG {pins : List (Addr × Obj)} {σ : L2.St} {H : Hp} {s : Shared} {Q : VK} {us : List Value} {vs : List V} (G : FnOkG X.prog X.w X.K X.mg X.base k f fd ps sp) (hg : X.A.guards = some []) (hr : Room k X.A) (hb : Binds X.K fd ps []) (hx : Passes (L2.CX X.prog X.w) X E)
    (I : Inv X pins σ H s) (r : Vals vs us) (h : sp vs H Q E) : wpAny (model X.prog X.w) X.A (call (.ref f) us) (EP X pins σ Q) X.xe s := by
  have hl := G.len vs H Q E h
  have b := hb s us I.kIn (by rw [List.append_nil, ← r.length]; exact hl)
  rw [List.append_nil] at b
  exact wpAny_call (codeAny_mono (G.run X.A hg X.stack s H ⟨us, []⟩ us vs Q E hr I.env0 b r h) fun _ _ z => cr_end I hx z)
theorem pe_callG (G : FnOkG X.prog X.w X.K X.mg X.base k f fd ps sp) (hgd : X.A.guards = some []) (hr : Room k X.A) (hg : Gl X x) (hm : X.mg x = some (.ref f)) (hk : PySem.W.keepIn X.K (.ref f) = true) (hb : Binds X.K fd ps []) (hx : Passes (L2.CX X.prog X.w) X E)
    (ha : PA X (e :: es) t) (hdb : (x == ("__debug__" : Str)) = false) (he : starEach (e :: es) X.env = (false, eval e X.env) :: starEach es X.env) (hpl : (backTo pos (starEach es X.env)).any (·.1) = false) :
    PE X (.Call (.Name x p) (e :: es) [] pos) (fun σ H Q => t σ H fun vs H1 => sp vs H1 Q E) :=
  ⟨fun pins s σ H Q I h => wpAny_Call_Name_kw (ld_glob I hg hm (PySem.W.callWith_K (h₀ := X.base) I.ok.mod.kin hk (thn (ha.run pos pins s σ H _ I h) fun us s1 ⟨vs, H1, J, r, q⟩ => ⟨J.kIn, runG G hgd hr hb hx J r q⟩) he hpl) hdb)⟩
theorem pe_call0G (G : FnOkG X.prog X.w X.K X.mg X.base k f fd ps sp) (hgd : X.A.guards = some []) (hr : Room k X.A) (hg : Gl X x) (hm : X.mg x = some (.ref f)) (hk : PySem.W.keepIn X.K (.ref f) = true) (hb : Binds X.K fd ps []) (hx : Passes (L2.CX X.prog X.w) X E) (hdb : (x == ("__debug__" : Str)) = false) :
    PE X (.Call (.Name x p) [] [] pos) (fun σ H Q => sp [] H Q E) :=
  ⟨fun pins s σ H Q I h => wpAny_Call_Name_kw (ld_glob I hg hm (PySem.W.callWith_K0 I.kIn hk (runG (us := []) G hgd hr hb hx I .nil h)) hdb)⟩
theorem pe_callLG {i : Nat} (G : FnOkG X.prog X.w X.K X.mg X.base k f fd ps sp) (hgd : X.A.guards = some []) (hr : Room k X.A) (hN : X.N[i]? = some x) (hv : Vis X.env.scope x) (hk : PySem.W.keepIn X.K (.ref f) = true) (hb : Binds X.K fd ps []) (hx : Passes (L2.CX X.prog X.w) X E)
    (ha : PA X (e :: es) t) (hdb : (x == ("__debug__" : Str)) = false) (hcd : (x == ("__classdict__" : Str)) = false) (he : starEach (e :: es) X.env = (false, eval e X.env) :: starEach es X.env) (hpl : (backTo pos (starEach es X.env)).any (·.1) = false) :
    PE X (.Call (.Name x p) (e :: es) [] pos) (fun σ H Q => σ[i]? = some (some (.ref f)) ∧ t σ H fun vs H1 => sp vs H1 Q E) := by
  refine ⟨fun pins s σ H Q I ⟨hs, h⟩ => wpAny_Call_Name_kw (thn ((pe_var (X := X) (pos := p) hN hv hdb hcd).run pins s σ H (fun v H1 => v = .ref f ∧ H1 = H) I ⟨_, hs, rfl, rfl⟩) ?_)⟩
  rintro u s1 ⟨_, _, J, rv, rfl, rfl⟩
  cases rv
  exact PySem.W.callWith_K (h₀ := X.base) J.ok.mod.kin hk (thn (ha.run pos pins s1 σ _ _ J h) fun us s2 ⟨vs, H2, J2, r, q⟩ => ⟨J2.kIn, runG G hgd hr hb hx J2 r q⟩) he hpl
end
/-! ### the law's own call -/
theorem one_addr {a b : Addr} {u : HO} {x : HO} (h : (if b = a then some u else none) = some x) : b = a ∧ u = x := by
  split at h
  · exact ⟨by assumption, Option.some.inj h⟩
  · cases h
section
variable {P : Program} {w : World} {K : PySem.W.Frag} {mg mb : Str → Option Value} {s₁ : Shared} {a : Addr} {vs : List Value}
theorem hid_some {H : Hp} (hA : ∀ b, H b ≠ none → b = a) (ha : s₁.heap.get? a = some { cls := .type "list", data := .seq vs.toArray }) {b : Addr} {o : Obj} (e : s₁.heap.get? b = some o) (h : (∃ es ep, o.data = .dict es ep) ∨ (K.lookup b = some o ∧ (H a ≠ none → K.lookup a = none))) : (hidT s₁.heap H).get? b = some o := by
  refine hidT_get e (Classical.byContradiction fun z => ?_)
  have hb := hA b z
  subst hb
  rcases h with ⟨es, ep, h⟩ | ⟨h, h'⟩
  · rw [ha] at e
    cases e
    cases h
  · rw [h' z] at h
    cases h
theorem callG {k : Nat} {fa : Addr} {fd : FuncData} {x : Str} {sp : Sp} {ns : List Int} {H : Hp} (KX : K.In s₁.heap) (hns : s₁.heap.Ns mainGlobals mg) (hb : s₁.heap.Ns builtinsNs mb) (hbb : ∀ x : Str, x ≠ "__name__" → mb x = bootBuiltins x) (hlim : s₁.heap.NoLimit) (hg : s₁.gens = #[])
    (ha : s₁.heap.get? a = some { cls := .type "list", data := .seq vs.toArray }) (hr : Room k callerA) (F : ∀ base : Heap, K.In base → base.Ns mainGlobals mg → FnOkG P w K mg base k fa fd [x] sp) (hbind : ∀ (s : Shared) (u : Value), BindsTo s fd ⟨[u], []⟩ [(x, u)])
    (hO : Only H) (hok : HOk P w H s₁.heap) (hA : ∀ b, H b ≠ none → b = a) (hK : H a ≠ none → K.lookup a = none) (hsp : sp [.ref a] H (fun v _ => v = .bl true) fun _ _ _ => False) :
    codeAny (model P w) callerA (.call (.ref fa) ⟨[.ref a], []⟩) (fun r s' => r = .ok (.ret (.bool true)) ∧ OldK s₁.heap s'.heap ∧ s'.os = s₁.os ∧ AllBare s'.gens) s₁ := by
  have ns : ∀ {b m}, s₁.heap.Ns b m → (hidT s₁.heap H).Ns b m := fun ⟨o, es, ep, e, d, r⟩ => ⟨o, es, ep, hid_some (K := K) hA ha e (.inl ⟨es, ep, d⟩), d, r⟩
  have kin : K.In (hidT s₁.heap H) := fun b o e => hid_some (K := K) hA ha (KX b o e) (.inr ⟨e, hK⟩)
  obtain ⟨mc, l1, l2⟩ := hlim
  have e0 : Env0 P w K mg (hidT s₁.heap H) callerA [] s₁ H :=
    { frames := rfl, mod := { kin := kin, glob := ns hns, blt := ⟨mb, ns hb, hbb⟩, nolimit := ⟨mc, ns l1, l2⟩ }, bs := fun _ _ => of_hidT, bsz := Nat.le_of_eq (hidT_size s₁.heap H), funs := trivial, frf := fun b (hb : b ∈ ([] : List Addr)) => (List.not_mem_nil hb).elim, hok := hok, bare := .of_eq hg }
  refine codeAny_mono ((F _ kin (ns hns)).run callerA rfl [] s₁ H ⟨[.ref a], []⟩ [.ref a] [.ref a] _ _ hr e0 (hbind s₁ (.ref a)) (.cons rfl .nil) hsp) ?_
  intro r s' z
  match r, z with
  | .error e, ⟨_, _, _, _, _, _, _, _, _, _, _, _, z⟩ => exact z.elim
  | .ok .next, z => exact z.elim
  | .ok .brk, z => exact z.elim
  | .ok .cont, z => exact z.elim
  | .ok (.ret u), ⟨v, H', os, bare, un, hok', r', q⟩ =>
    have q : v = .bl true := q
    subst q
    have r' : u = Value.bool true := r'
    subst r'
    refine ⟨rfl, OldK.of_keep ?_, os, bare⟩
    intro b o e
    rcases hO b with n | ⟨ob, xs, n⟩
    · exact un.keep b o e n (fun z => by cases z) fun z => by cases z
    · have f1 := (hok b _ n).1
      have f2 := (hok' b _ (un.frzs b ob _ n)).1
      rw [e] at f1
      rw [f2, ← f1]
theorem law_G {k : Nat} {fa : Addr} {fd : FuncData} {x : Str} {sp : Sp} {ns : List Int} (KX : K.In s₁.heap) (hns : s₁.heap.Ns mainGlobals mg) (hb : s₁.heap.Ns builtinsNs mb) (hbb : ∀ x : Str, x ≠ "__name__" → mb x = bootBuiltins x) (hlim : s₁.heap.NoLimit) (hg : s₁.gens = #[])
    (ha : s₁.heap.get? a = some { cls := .type "list", data := .seq vs.toArray }) (hi : IntsAre vs ns) (hl : ns.length ≤ sizeLine) (hr : Room k callerA) (F : ∀ base : Heap, K.In base → base.Ns mainGlobals mg → FnOkG P w K mg base k fa fd [x] sp) (hbind : ∀ (s : Shared) (u : Value), BindsTo s fd ⟨[u], []⟩ [(x, u)])
    (hsp : ∀ H : Hp, Only H → SqL K H a (ns.map V.int) → sp [.ref a] H (fun v _ => v = .bl true) fun _ _ _ => False) :
    codeAny (model P w) callerA (.call (.ref fa) ⟨[.ref a], []⟩) (fun r s' => r = .ok (.ret (.bool true)) ∧ OldK s₁.heap s'.heap ∧ s'.os = s₁.os ∧ AllBare s'.gens) s₁ := by
  have rv := vals_ints hi
  cases hk : K.lookup a with
  | some o =>
    have e := KX a o hk
    rw [ha, Option.some.injEq] at e
    subst e
    refine callG (ns := ns) (H := fun _ => none) KX hns hb hbb hlim hg ha hr F hbind (fun _ => .inl rfl) (fun b u z => by cases z) (fun b z => (z rfl).elim) (fun z => (z rfl).elim) (hsp _ (fun _ => .inl rfl) (.inr ?_))
    exact ⟨_, vs.toArray, _, hk, rfl, rfl, rfl, by rw [List.size_toArray, hi.length]; exact hl, by simpa using rv⟩
  | none =>
    have hO : Only (fun b => if b = a then some (.frz { cls := .type "list", data := .seq vs.toArray } (.lst (ns.map V.int))) else none) := fun b => by
      dsimp only
      split
      · exact .inr ⟨_, _, rfl⟩
      · exact .inl rfl
    refine callG (ns := ns) KX hns hb hbb hlim hg ha hr F hbind hO (fun b u z => ?_) (fun b z => ?_) (fun _ => hk) (hsp _ hO (.inl (.inr ⟨_, if_pos rfl⟩)))
    · obtain ⟨rfl, rfl⟩ := one_addr z
      exact ⟨ha, by rw [List.length_map]; exact hl, vs, _, rv, ha⟩
    · exact Classical.byContradiction fun y => z (if_neg y)
end
theorem walk_G {l : PySem.W.OpenLaw} {n k : Nat} {q : Program} {loose : List Str} {XP : (Str → Option Value) → Heap → Prop} {YP : World → Heap → Prop} {d : DefRec} {K : Params → PySem.W.Frag} {sp : World → Sp} {x : Str} (hn : l.most = some n) (hn2 : n ≤ sizeLine) (hdf : d.params.defaults = []) (hr : Room k callerA)
    (hY : ∀ (w : World) (h : Heap), YP w h → (K w.params).In h)
    (F : ∀ (w : World) (mg : Str → Option Value) (fa : Addr) (h : Heap), (K w.params).In h → h.Ns mainGlobals mg → mg d.name = some (.ref fa) → ∃ fd : FuncData, (∀ (s : Shared) (u : Value), BindsTo s fd ⟨[u], []⟩ [(x, u)]) ∧ ∀ base : Heap, (K w.params).In base → base.Ns mainGlobals mg → FnOkG l.prog w (K w.params) mg base k fa fd [x] (sp w))
    (hsp : ∀ (w : World) (H : Hp) (a : Addr) (ns : List Int), ns.length ≤ n → Only H → SqL (K w.params) H a (ns.map V.int) → sp w [.ref a] H (fun v _ => v = .bl true) fun _ _ _ => False) :
    PySem.W.WalkO q loose XP YP l.row.toRowW d [] (fun f vs => PySem.call f vs) := by
  apply Att.attach_callB hn hdf
  intro w s₀ s₁ mg mb fa o pm cd doc a vs ns G Y ho hd hcd hmg hobj hints hlen hbits hg
  obtain ⟨fd, hb, hF⟩ := F w mg fa s₁.heap (hY w s₁.heap Y) G.T.g hmg
  exact law_G (hY w s₁.heap Y) G.T.g G.T.b G.T.builtins G.T.nolimit hg hobj hints (Nat.le_trans hlen hn2) hr hF hb fun H h1 h2 => hsp w H a ns hlen h1 h2
end Ev

set_option maxRecDepth 100000
/-! Ev5: slices, built-ins, stores, by values -/
namespace Ev
open PySem PySem.Spec L2
section
variable {X : Cx} {F : Nat → Addr} {U : Xh}

/-! ### slices -/
theorem sIx_eq (n d : Nat) (o : Option Int) : Ev.sIx n d o = HT.sIx n d o := by cases o <;> rfl
theorem Reps.cut {K : PySem.W.Frag} {ω : Wd} {xs : List D} {vs : List V} (r : Reps K F ω xs vs) (lo hi : Option Int) : Reps K F ω (Ev.cut xs lo hi) (cutV vs lo hi) := by
  unfold Ev.cut cutV
  rw [r.len, sIx_eq, sIx_eq]
  exact (r.drop _).take _
def rSlM (K : PySem.W.Frag) (F : Nat → Addr) (U : Xh) : V → Option Int → Option Int → Hp → VK → Prop := fun x lo hi H Q =>
  ∃ P ω A d, ω.H = H ∧ HR K F P ω A ∧ Rep K F ω d x ∧ Out K F U P ω (ofO (slcO A d lo hi) A) (fin K F Q)
theorem sl_M : SlR X (rSlM X.K F U) := by
  intro pins s σ H x v vl vu lo hi sl Q I rx hs pl pu h
  obtain ⟨P, ω, A, d, rfl, hr, rd, o⟩ := h
  obtain ⟨r, e1, oo⟩ := o.ofO
  clear o
  have vd := view hr rd
  unfold slcO at e1
  revert vd e1
  generalize shal A d = d'
  intro e1 vd
  split at e1
  · cases e1
    obtain ⟨a, vs, rfl, s1, l, r1⟩ := vd
    exact sl_list pins s σ _ _ v vl vu lo hi sl Q I rx hs pl pu ⟨a, vs, rfl, .inl s1, fun p hp => oo.newL hr (r1.cut lo hi) (Nat.le_trans (cutV_length vs lo hi) l) p hp⟩
  · cases e1
    obtain ⟨a, vs, rfl, s1, l, r1⟩ := Rep.kl_inv vd
    exact sl_list pins s σ _ _ v vl vu lo hi sl Q I rx hs pl pu ⟨a, vs, rfl, s1.sq, fun p hp => oo.newL hr (r1.cut lo hi) (Nat.le_trans (cutV_length vs lo hi) l) p hp⟩
  · rename_i xs
    cases e1
    have vo := vd
    obtain ⟨a, vs, rfl, s1, l, r1⟩ := Rep.tup_inv vd
    refine sl_tupA pins s σ _ _ v vl vu lo hi sl Q I rx hs pl pu ⟨a, vs, rfl, s1.sq, fun hw => ?_, fun _ p hp => oo.newT hr (r1.cut lo hi) (Nat.le_trans (cutV_length vs lo hi) l) p hp⟩
    have e : Ev.cut xs lo hi = xs := by
      unfold Ev.cut
      rw [sIx_eq, sIx_eq, r1.len, hw.1, hw.2, List.drop_zero, ← r1.len, Nat.sub_zero, List.take_length]
    rw [e] at oo
    exact oo.val hr vo
  · cases e1
    obtain ⟨rfl, hz⟩ := Rep.str_inv vd
    refine sl_str pins s σ _ _ v vl vu lo hi sl Q I rx hs pl pu ⟨_, rfl, hz, ?_⟩
    rename_i z
    have e : (⟨(Ev.cut z.cps.toList lo hi).toArray⟩ : Str) = cutS z lo hi := by
      unfold Ev.cut cutS
      rw [sIx_eq, sIx_eq, Array.length_toList]; rfl
    rw [e] at oo
    exact oo.val hr (.str _ (Nat.le_trans (cutS_length z lo hi) hz))
  · cases e1

/-! ### built-ins by their values -/
def rCM (K : PySem.W.Frag) (F : Nat → Addr) (U : Xh) (g : List D → AH → Res D) : List V → Hp → VK → Prop := fun vs H Q =>
  ∃ P ω A ds, ω.H = H ∧ HR K F P ω A ∧ Reps K F ω ds vs ∧ Out K F U P ω (g ds A) (fin K F Q)
/-- the built-in function or type -/
def Bi.val : Bi → Value
  | .len => .builtin "len"
  | .int => .type "int"
  | .abs => .builtin "abs"
  | .max2 => .builtin "max"
  | .min2 => .builtin "min"
  | .max1 => .builtin "max"
  | .min1 => .builtin "min"
  | .sum => .builtin "sum"
  | .all => .builtin "all"
  | .any => .builtin "any"
  | .list => .type "list"
  | .tuple => .type "tuple"
  | .isi => .builtin "isinstance"
  | .divmod => .builtin "divmod"
  | .sorted => .builtin "sorted"
  | .repr => .builtin "repr"
theorem Reps.one {K : PySem.W.Frag} {ω : Wd} {d : D} {vs : List V} (r : Reps K F ω [d] vs) : ∃ v, vs = [v] ∧ Rep K F ω d v := by
  cases r with | cons h t => cases t; exact ⟨_, rfl, h⟩
theorem Reps.two {K : PySem.W.Frag} {ω : Wd} {d e : D} {vs : List V} (r : Reps K F ω [d, e] vs) : ∃ v u, vs = [v, u] ∧ Rep K F ω d v ∧ Rep K F ω e u := by
  cases r with | cons h t => cases t with | cons h2 t => cases t; exact ⟨_, _, rfl, h, h2⟩
theorem ints1_rep {K : PySem.W.Frag} {P : Addr → Prop} {ω : Wd} {A : AH} {d : D} {v : V} {ns : List Int} (hr : HR K F P ω A) (r : Rep K F ω d v) (h : ints1 A d = some ns) :
    ∃ k a, v = .ref a ∧ SqK K k ω.H a (ns.map V.int) := by
  have vd := view hr r
  unfold ints1 at h
  revert vd h
  generalize shal A d = d'
  intro h vd
  rw [Option.bind_eq_some_iff] at h
  obtain ⟨xs, h1, h2⟩ := h
  cases d' with
  | lst ys =>
    cases h1
    obtain ⟨a, vs, rfl, s1, _, r1⟩ := vd
    have := intsO_rep h2 r1
    subst this
    exact ⟨.l, a, rfl, .inl s1⟩
  | tup ys =>
    cases h1
    obtain ⟨a, vs, rfl, s1, _, r1⟩ := Rep.tup_inv vd
    have := intsO_rep h2 r1
    subst this
    exact ⟨.t, a, rfl, s1.sq⟩
  | kl ys =>
    cases h1
    obtain ⟨a, vs, rfl, s1, _, r1⟩ := Rep.kl_inv vd
    have := intsO_rep h2 r1
    subst this
    exact ⟨.l, a, rfl, s1.sq⟩
  | _ => cases h1
theorem bls1_rep {K : PySem.W.Frag} {P : Addr → Prop} {ω : Wd} {A : AH} {d : D} {v : V} {ns : List Bool} (hr : HR K F P ω A) (r : Rep K F ω d v) (h : (lstO (shal A d)).bind blsO = some ns) :
    ∃ a, v = .ref a ∧ SqL K ω.H a (ns.map V.bl) := by
  have vd := view hr r
  revert vd h
  generalize shal A d = d'
  intro h vd
  rw [Option.bind_eq_some_iff] at h
  obtain ⟨xs, h1, h2⟩ := h
  cases d' with
  | lst ys =>
    cases h1
    obtain ⟨a, vs, rfl, s1, _, r1⟩ := vd
    have := blsO_rep h2 r1
    subst this
    exact ⟨a, rfl, .inl s1⟩
  | _ => cases h1
theorem foldl_max : ∀ (r : List Int) (x : Int), (∀ y ∈ x :: r, y ≤ r.foldl (fun a b => if a < b then b else a) x) ∧ r.foldl (fun a b => if a < b then b else a) x ∈ x :: r
  | [], x => ⟨fun y h => by simp at h; subst h; exact Int.le_refl _, by simp⟩
  | z :: r, x => by
    have ih := foldl_max r (if x < z then z else x)
    simp only [List.foldl_cons]
    refine ⟨fun y h => ?_, ?_⟩
    · have h0 := ih.1 (if x < z then z else x) List.mem_cons_self
      rcases List.mem_cons.mp h with e | h
      · subst e; refine Int.le_trans ?_ h0; split <;> omega
      · rcases List.mem_cons.mp h with e | h
        · subst e; refine Int.le_trans ?_ h0; split <;> omega
        · exact ih.1 y (List.mem_cons_of_mem _ h)
    · have h1 := ih.2
      rcases List.mem_cons.mp h1 with e | h
      · rw [e]; split <;> simp
      · exact List.mem_cons_of_mem _ (List.mem_cons_of_mem _ h)
theorem foldl_min : ∀ (r : List Int) (x : Int), (∀ y ∈ x :: r, r.foldl (fun a b => if b < a then b else a) x ≤ y) ∧ r.foldl (fun a b => if b < a then b else a) x ∈ x :: r
  | [], x => ⟨fun y h => by simp at h; subst h; exact Int.le_refl _, by simp⟩
  | z :: r, x => by
    have ih := foldl_min r (if z < x then z else x)
    simp only [List.foldl_cons]
    refine ⟨fun y h => ?_, ?_⟩
    · have h0 := ih.1 (if z < x then z else x) List.mem_cons_self
      rcases List.mem_cons.mp h with e | h
      · subst e; refine Int.le_trans h0 ?_; split <;> omega
      · rcases List.mem_cons.mp h with e | h
        · subst e; refine Int.le_trans h0 ?_; split <;> omega
        · exact ih.1 y (List.mem_cons_of_mem _ h)
    · have h1 := ih.2
      rcases List.mem_cons.mp h1 with e | h
      · rw [e]; split <;> simp
      · exact List.mem_cons_of_mem _ (List.mem_cons_of_mem _ h)
theorem lenM {pins : List (Addr × Obj)} {s : Shared} {σ : L2.St} {ω : Wd} {P : Addr → Prop} {A : AH} {v : V} {u : Value} {d : D} {n : Int} {Q : VK}
    (I : Inv X pins σ ω.H s) (rx : RelV v u) (hr : HR X.K F P ω A) (rd : Rep X.K F ω d v) (h : lenO A d = some n) (q : Q (.int n) ω.H) : wpAny (model X.prog X.w) X.A (call (.builtin "len") [u]) (EP X pins σ Q) X.xe s := by
  have vd := view hr rd
  unfold lenO at h
  revert vd h
  generalize shal A d = d'
  intro h vd
  split at h
  · cases h
    obtain ⟨rfl, hz⟩ := Rep.str_inv vd
    exact call_len_str pins s σ _ _ _ Q I (.cons rx .nil) ⟨_, rfl, hz, q⟩
  · cases h
    obtain ⟨a, vs, rfl, s1, _, r⟩ := Rep.tup_inv vd
    exact call_len_seq pins s σ _ _ _ Q I (.cons rx .nil) ⟨_, _, rfl, .inr s1.sq, by rw [← r.len]; exact q⟩
  · cases h
    obtain ⟨a, vs, rfl, s1, _, r⟩ := vd
    exact call_len_seq pins s σ _ _ _ Q I (.cons rx .nil) ⟨_, _, rfl, .inl (.inl s1), by rw [← r.len]; exact q⟩
  · cases h
    obtain ⟨a, vs, rfl, s1, _, r⟩ := Rep.kl_inv vd
    exact call_len_seq pins s σ _ _ _ Q I (.cons rx .nil) ⟨_, _, rfl, .inl s1.sq, by rw [← r.len]; exact q⟩
  · cases h
    obtain ⟨a, vs, rfl, s1, l, r⟩ := vd
    cases rx
    refine d_len I s1 fun t s' I' => ⟨.int _, _, I', ⟨_, rfl⟩, ?_⟩
    rw [zip_len l r]; exact q
  · cases h
    obtain ⟨a, vs, rfl, s1, l, r⟩ := vd
    obtain rfl : u = .ref a := rx
    obtain ⟨hz, hs, ys, rel, dd⟩ := dt_rd I.hok s1
    have hl := Paired.length rel
    refine call_len_dictH hs dd (by rw [← hl]; rw [sizeLine_eq] at hz; omega) ⟨.int _, ω.H, I.tok _, ⟨_, rfl⟩, ?_⟩
    rw [← hl, zip_len l r]; exact q
  · cases h
theorem isiM {pins : List (Addr × Obj)} {s : Shared} {σ : L2.St} {ω : Wd} {P : Addr → Prop} {A : AH} {x : V} {u u2 : Value} {d : D} {t : String} {b : Bool} {Q : VK}
    (I : Inv X pins σ ω.H s) (rx : RelV x u) (r2 : RelV (.ty t) u2) (hr : HR X.K F P ω A) (rd : Rep X.K F ω d x) (h : isiT (shal A d) t = some b) (q : Q (.bl b) ω.H) :
    wpAny (model X.prog X.w) X.A (call (.builtin "isinstance") [u, u2]) (EP X pins σ Q) X.xe s := by
  have vd := view hr rd
  unfold isiT at h
  revert vd h
  generalize shal A d = d'
  intro h vd
  rw [Option.bind_eq_some_iff] at h
  obtain ⟨n, h1, h2⟩ := h
  have go : TyX X.K ω.H x (.type n) → wpAny (model X.prog X.w) X.A (call (.builtin "isinstance") [u, u2]) (EP X pins σ Q) X.xe s := fun ty =>
    call_isi pins s σ _ _ _ Q I (.cons rx (.cons r2 .nil)) ⟨x, .ty t, .type n, .type t, b, rfl, .ty t, ty, kit_ty h2, q⟩
  cases d' with
  | non => cases h1; obtain rfl := Rep.non_inv vd; exact go (.base .non)
  | bl c => cases h1; obtain rfl := Rep.bl_inv vd; exact go (.base (.bl c))
  | int c => cases h1; obtain rfl := Rep.int_inv vd; exact go (.base (.int c))
  | str c => cases h1; obtain ⟨rfl, _⟩ := Rep.str_inv vd; exact go (.base (.str c))
  | tup xs => cases h1; obtain ⟨a, vs, rfl, s1, _, _⟩ := Rep.tup_inv vd; exact go (.base (.tup s1))
  | lst xs =>
    cases h1; obtain ⟨a, vs, rfl, s1, _, _⟩ := vd
    rcases s1 with s1 | ⟨o, s1⟩
    · exact go (.base (.lst s1))
    · exact go (.base (.frz s1))
  | kl xs =>
    cases h1; obtain ⟨a, vs, rfl, s1, _, _⟩ := Rep.kl_inv vd
    rcases s1 with ⟨_, s1 | ⟨o, s1⟩⟩ | ⟨o, its, m, e, c, _⟩
    · exact go (.base (.lst s1))
    · exact go (.base (.frz s1))
    · exact go (.kList e c)
  | dk ks xs =>
    cases h1; obtain ⟨a, vs, rfl, s1, _, _⟩ := vd
    rcases s1 with s1 | ⟨o, s1⟩
    · exact go (.base (.dK s1))
    · exact go (.fDict s1)
  | dt _ _ => cases h1
  | ref _ => cases h1
  | fn _ => cases h1
  | ty _ => cases h1
  | exn _ _ => cases h1
theorem seq_list {K : PySem.W.Frag} {ω : Wd} {d : D} {v : V} {xs : List D} (vd : View K F ω d v) (h : seqO d = some xs) : ∃ a vs, v = .ref a ∧ (SqL K ω.H a vs ∨ STs K ω a vs) ∧ vs.length ≤ sizeLine ∧ Reps K F ω xs vs := by
  cases d with
  | tup ys => cases h; obtain ⟨a, vs, rfl, s1, l, r⟩ := Rep.tup_inv vd; exact ⟨a, vs, rfl, .inr s1, l, r⟩
  | lst ys => cases h; obtain ⟨a, vs, rfl, s1, l, r⟩ := vd; exact ⟨a, vs, rfl, .inl (.inl s1), l, r⟩
  | kl ys => cases h; obtain ⟨a, vs, rfl, s1, l, r⟩ := Rep.kl_inv vd; exact ⟨a, vs, rfl, .inl s1.sq, l, r⟩
  | _ => cases h
theorem call_biM (hc : X.calm = true) (hu : X.A.units + 65 < cLine) (hgd : X.A.guards = some []) (b : Bi) : CallR X b.val (rCM X.K F U fun ds A => ofO (biO A b ds) A) := by
  intro pins s σ H vs us Q I rs h
  obtain ⟨P, ω, A, ds, rfl, hr, rd, o⟩ := h
  obtain ⟨r, e1, oo⟩ := o.ofO
  clear o
  unfold biO at e1
  split at e1
  · rw [Option.map_eq_some_iff] at e1
    obtain ⟨n, e1, rfl⟩ := e1
    obtain ⟨v, rfl, r1⟩ := rd.one
    obtain ⟨u, rfl, rx⟩ := vals1 rs
    exact lenM I rx hr r1 e1 (oo.val hr (.int _))
  · cases e1
    obtain ⟨v, rfl, r1⟩ := rd.one
    obtain rfl := Rep.int_inv r1
    exact call_int1 pins s σ _ _ _ Q I rs (.inl ⟨_, rfl, oo.val hr (.int _)⟩)
  · cases e1
    obtain ⟨v, rfl, r1⟩ := rd.one
    obtain rfl := Rep.bl_inv r1
    exact call_int1 pins s σ _ _ _ Q I rs (.inr ⟨_, rfl, oo.val hr (.int _)⟩)
  · cases e1
    obtain ⟨v, rfl, r1⟩ := rd.one
    obtain rfl := Rep.int_inv r1
    exact call_abs pins s σ _ _ _ Q I rs ⟨_, rfl, oo.val hr (.int _)⟩
  · cases e1
    obtain ⟨v, u, rfl, r1, r2⟩ := rd.two
    obtain ⟨rfl, rfl⟩ := int2_rep r1 r2
    exact call_max2 hc pins s σ _ _ _ Q I rs ⟨_, _, rfl, oo.val hr (.int _)⟩
  · cases e1
    obtain ⟨v, u, rfl, r1, r2⟩ := rd.two
    obtain ⟨rfl, rfl⟩ := int2_rep r1 r2
    exact call_min2 hc pins s σ _ _ _ Q I rs ⟨_, _, rfl, oo.val hr (.int _)⟩
  · rw [Option.bind_eq_some_iff] at e1
    obtain ⟨ns, e1, e2⟩ := e1
    rw [Option.map_eq_some_iff] at e2
    obtain ⟨m, e2, rfl⟩ := e2
    obtain ⟨v, rfl, r1⟩ := rd.one
    obtain ⟨sk, a, rfl, s1⟩ := ints1_rep hr r1 e1
    cases ns with
    | nil => cases e2
    | cons n ns =>
      cases e2
      obtain ⟨f1, f2⟩ := foldl_max ns n
      exact cr_maxK hc pins s σ _ _ _ Q I rs ⟨sk, a, _, rfl, s1, by simp, fun m' h1 h2 => by rw [show m' = _ from Int.le_antisymm (f1 m' h1) (h2 _ f2)]; exact oo.val hr (.int _)⟩
  · rw [Option.bind_eq_some_iff] at e1
    obtain ⟨ns, e1, e2⟩ := e1
    rw [Option.map_eq_some_iff] at e2
    obtain ⟨m, e2, rfl⟩ := e2
    obtain ⟨v, rfl, r1⟩ := rd.one
    obtain ⟨sk, a, rfl, s1⟩ := ints1_rep hr r1 e1
    cases ns with
    | nil => cases e2
    | cons n ns =>
      cases e2
      obtain ⟨f1, f2⟩ := foldl_min ns n
      exact cr_minK hc pins s σ _ _ _ Q I rs ⟨sk, a, _, rfl, s1, by simp, fun m' h1 h2 => by rw [show m' = _ from Int.le_antisymm (h2 _ f2) (f1 m' h1)]; exact oo.val hr (.int _)⟩
  · rw [Option.map_eq_some_iff] at e1
    obtain ⟨ns, e1, rfl⟩ := e1
    obtain ⟨v, rfl, r1⟩ := rd.one
    obtain ⟨sk, a, rfl, s1⟩ := ints1_rep hr r1 e1
    exact cr_sumK hc pins s σ _ _ _ Q I rs ⟨sk, a, _, rfl, s1, oo.val hr (.int _)⟩
  · rw [Option.map_eq_some_iff] at e1
    obtain ⟨ns, e1, rfl⟩ := e1
    obtain ⟨v, rfl, r1⟩ := rd.one
    obtain ⟨a, rfl, s1⟩ := bls1_rep hr r1 e1
    exact cr_all hc pins s σ _ _ _ Q I rs ⟨a, _, rfl, s1, oo.val hr (.bl _)⟩
  · rw [Option.map_eq_some_iff] at e1
    obtain ⟨ns, e1, rfl⟩ := e1
    obtain ⟨v, rfl, r1⟩ := rd.one
    obtain ⟨a, rfl, s1⟩ := bls1_rep hr r1 e1
    exact cr_any hc pins s σ _ _ _ Q I rs ⟨a, _, rfl, s1, oo.val hr (.bl _)⟩
  · rw [Option.map_eq_some_iff] at e1
    obtain ⟨xs, e1, rfl⟩ := e1
    obtain ⟨v, rfl, r1⟩ := rd.one
    obtain ⟨a, vs, rfl, s1, l, r2⟩ := seq_list (view hr r1) e1
    exact call_list_of pins s σ _ _ _ Q I rs ⟨a, vs, rfl, s1.imp id STs.sq, fun p hp => oo.newL hr r2 l p hp⟩
  · rw [Option.map_eq_some_iff] at e1
    obtain ⟨xs, e1, rfl⟩ := e1
    obtain ⟨v, rfl, r1⟩ := rd.one
    obtain ⟨a, vs, rfl, s1, l, r2⟩ := seq_list (view hr r1) e1
    rcases s1 with s1 | s1
    · exact call_tuple_of pins s σ _ _ _ Q I rs ⟨a, vs, rfl, .inl ⟨s1, fun p hp => oo.newT hr r2 l p hp⟩⟩
    · exact call_tuple_of pins s σ _ _ _ Q I rs ⟨a, vs, rfl, .inr ⟨s1.sq, oo.val hr (.tup s1 l r2)⟩⟩
  · rw [Option.map_eq_some_iff] at e1
    obtain ⟨b, e1, rfl⟩ := e1
    obtain ⟨v, u, rfl, r1, r2⟩ := rd.two
    obtain rfl := Rep.ty_inv r2
    obtain ⟨w1, w2, rfl, q1, q2⟩ := vals2 rs
    exact isiM I q1 q2 hr r1 e1 (oo.val hr (.bl _))
  · split at e1
    · rename_i hm
      cases e1
      obtain ⟨v, u, rfl, r1, r2⟩ := rd.two
      obtain ⟨rfl, rfl⟩ := int2_rep r1 r2
      exact call_divmod pins s σ _ _ _ Q I rs ⟨_, _, rfl, hm, fun p hp => oo.newT hr (.cons (.int _) (.cons (.int _) .nil)) (by rw [sizeLine_eq]; show 2 ≤ 16777216; decide) p hp⟩
    · cases e1
  · rw [Option.map_eq_some_iff] at e1
    obtain ⟨ks, e1, rfl⟩ := e1
    rw [Option.bind_eq_some_iff] at e1
    obtain ⟨xs, e1, e2⟩ := e1
    obtain ⟨rfl, hne⟩ := keysT_eq e2
    obtain ⟨v, rfl, r1⟩ := rd.one
    obtain ⟨a, vs, rfl, s1, l, r2⟩ := seq_list (view hr r1) e1
    obtain ⟨u, rfl, rx⟩ := vals1 rs
    obtain rfl : u = .ref a := rx
    rcases s1 with s1 | s1
    · exact sort_M (k := .l) I hr s1 l r2 hne oo
    · exact sort_M (k := .t) I hr s1.sq l r2 hne oo
  · rw [Option.map_eq_some_iff] at e1
    obtain ⟨t, e1, rfl⟩ := e1
    obtain ⟨v, rfl, r1⟩ := rd.one
    obtain ⟨u, rfl, rx⟩ := vals1 rs
    exact reprM I rx hr r1 hu hgd e1 fun hz => oo.val hr (.str _ hz)
  · cases e1

/-! ### stores -/
def rSetM (K : PySem.W.Frag) (F : Nat → Addr) : TSet := fun o i v H Q => ∃ P ω A od id' vd A1, ω.H = H ∧ HR K F P ω A ∧ Rep K F ω od o ∧ Rep K F ω id' i ∧ Rep K F ω vd v ∧ setO A od id' vd = some A1 ∧
  ∀ ω', Le ω ω' → Pk P ω ω' → HR K F P ω' A1 → Q ω'.H
theorem HR.obj' {K : PySem.W.Frag} {P : Addr → Prop} {ω : Wd} {A : AH} {n : Nat} {o : O} (hr : HR K F P ω A) (h : A[n]? = some o) : ∃ a, ω.m[n]? = some a := by
  have hl := (List.getElem?_eq_some_iff.mp h).1
  exact ⟨ω.m[n]'(hr.len ▸ hl), List.getElem?_eq_getElem _⟩
section
variable {κ : Type} [DecidableEq κ] {K : PySem.W.Frag} {ω : Wd}
theorem dsub_rep {k : κ} {d : D} {v : V} (hd : Rep K F ω d v) : ∀ {ks : List κ} {xs : List D} {vs : List V}, ks.length = xs.length → Reps K F ω xs vs →
    ∃ us, Reps K F ω (dsub k d ks xs) us ∧ (ks.zip vs).map (fun kv => if kv.1 = k then (kv.1, v) else kv) = ks.zip us ∧ (dsub k d ks xs).length = ks.length
  | [], [], _, _, .nil => ⟨[], .nil, rfl, rfl⟩
  | j :: ks, x :: xs, _, l, .cons (v := u) (vs := vs) hx r => by
    obtain ⟨us, h1, h2, h3⟩ := dsub_rep (k := k) hd (by simpa using l) r
    by_cases e : j = k
    · refine ⟨v :: us, ?_, ?_, ?_⟩
      · simp only [dsub, if_pos e]; exact .cons hd h1
      · simp only [List.zip_cons_cons, List.map_cons, if_pos e, h2]
      · simp only [dsub, List.length_cons, h3]
    · refine ⟨u :: us, ?_, ?_, ?_⟩
      · simp only [dsub, if_neg e]; exact .cons hx h1
      · simp only [List.zip_cons_cons, List.map_cons, if_neg e, h2]
      · simp only [dsub, List.length_cons, h3]
  | [], _ :: _, _, l, _ => by simp at l
  | _ :: _, [], _, l, _ => by simp at l
theorem zip_any {k : κ} : ∀ {ks : List κ} {vs : List V}, ks.length = vs.length → (ks.zip vs).any (fun kv => decide (kv.1 = k)) = decide (k ∈ ks)
  | [], _, _ => by simp
  | j :: ks, [], h => by simp at h
  | j :: ks, v :: vs, h => by
    rw [List.zip_cons_cons, List.any_cons, zip_any (by simpa using h)]
    by_cases e : j = k
    · simp [e]
    · have e' : ¬ k = j := fun z => e z.symm
      simp [e, e']
theorem zip_snoc {k : κ} {v : V} : ∀ {ks : List κ} {vs : List V}, ks.length = vs.length → ks.zip vs ++ [(k, v)] = (ks ++ [k]).zip (vs ++ [v])
  | [], [], _ => rfl
  | [], _ :: _, h => by simp at h
  | _ :: _, [], h => by simp at h
  | j :: ks, u :: vs, h => by
    simp only [List.zip_cons_cons, List.cons_append, zip_snoc (ks := ks) (vs := vs) (by simpa using h)]
theorem dput_rep {k : κ} {d : D} {v : V} (hd : Rep K F ω d v) {ks : List κ} {xs : List D} {vs : List V} (l : ks.length = xs.length) (r : Reps K F ω xs vs) :
    ∃ us, Reps K F ω (dputV k d ks xs) us ∧ putK (ks.zip vs) k v = (dputK k ks).zip us ∧ (dputK k ks).length = (dputV k d ks xs).length := by
  have lv : ks.length = vs.length := l.trans r.len
  by_cases e : k ∈ ks
  · obtain ⟨us, h1, h2, h3⟩ := dsub_rep (k := k) hd l r
    refine ⟨us, ?_, ?_, ?_⟩
    · unfold dputV; rw [if_pos e]; exact h1
    · unfold putK dputK; rw [zip_any lv, if_pos (decide_eq_true e), if_pos e]; exact h2
    · unfold dputK dputV; rw [if_pos e, if_pos e]; exact h3.symm
  · refine ⟨vs ++ [v], ?_, ?_, ?_⟩
    · unfold dputV; rw [if_neg e]; exact r.app (.cons hd .nil)
    · unfold putK dputK; rw [zip_any lv, if_neg (by simp [e]), if_neg e]; exact zip_snoc lv
    · unfold dputK dputV; rw [if_neg e, if_neg e]; simp [l]
end
theorem ltLim {n : Nat} (h : n < lim) : n < sizeLine := by rw [sizeLine_eq]; exact h
theorem set_M (hu : X.A.units + 65 < cLine) : PSet X (rSetM X.K F) := by
  intro pins s σ H o i v ov iv u Q I ro ri rv h
  obtain ⟨P, ω, A, od, id', vd, A1, rfl, hr, r1, r2, r3, e1, ot⟩ := h
  unfold setO at e1
  split at e1
  · rename_i n
    obtain ⟨a, rfl, hm⟩ := Rep.ref_inv r1
    split at e1
    · rename_i xs k hA
      obtain ⟨vs, h1, h2, h3⟩ := hr.obj n _ a hA hm
      rw [Option.map_eq_some_iff] at e1
      obtain ⟨j, e1, rfl⟩ := e1
      obtain rfl := Rep.int_inv r2
      have q : Q (upd ω.H a (.lst (vs.set j v))) := by
        have l := Le.chg (u := .lst (vs.set j v)) hr hm hA (by simp)
        exact ot _ l (Pk.chg hr hm) (hr.chg hm hA (by simp) (by simp) ⟨_, upd_same, by rw [List.length_set]; exact h2, (Reps.set r3 j h3).le l⟩)
      exact set_list pins s σ _ _ _ v ov iv u Q I ro ri rv ⟨a, vs, k, j, rfl, rfl, h1, by rw [← h3.len]; exact e1, q⟩
    · rename_i ks xs hA
      obtain ⟨vs, h1, h2, h3⟩ := hr.obj n _ a hA hm
      rw [Option.bind_eq_some_iff] at e1
      obtain ⟨k, hk, e1⟩ := e1
      split at e1
      · rename_i hl
        cases e1
        obtain ⟨us, g1, g2, g3⟩ := dput_rep (k := k) r3 h2 h3
        have q : Q (upd ω.H a (.dK (putK (ks.zip vs) k v))) := by
          rw [g2]
          have l := Le.chg (u := .dK ((dputK k ks).zip us)) hr hm hA (by simp)
          exact ot _ l (Pk.chg hr hm) (hr.chg hm hA (by simp) (by simp) ⟨_, upd_same, g3, g1.le l⟩)
        cases ro
        exact d_setItem (by omega) I (.inl ⟨_, k, h1, keyO_rep hk r2, by rw [zip_len h2 h3]; exact ltLim hl, rfl⟩) ri rv fun s' I' => ⟨_, I', q⟩
      · cases e1
    · rename_i ks xs kd hA
      obtain ⟨vs, h1, h2, h3⟩ := hr.obj n _ a hA hm
      rw [Option.bind_eq_some_iff] at e1
      obtain ⟨k, hk, e1⟩ := e1
      split at e1
      · rename_i hl
        cases e1
        obtain ⟨us, g1, g2, g3⟩ := dput_rep (k := k) r3 h2 h3
        have q : Q (upd ω.H a (.dT (putK (ks.zip vs) k v))) := by
          rw [g2]
          have l := Le.chg (u := .dT ((dputK k ks).zip us)) hr hm hA (by simp)
          exact ot _ l (Pk.chg hr hm) (hr.chg hm hA (by simp) (by simp) ⟨_, upd_same, g3, g1.le l⟩)
        obtain ⟨b, ts, rfl, s2, _, r4⟩ := Rep.tup_inv r2
        have et := keysO_rep hk r4
        subst et
        cases ro
        exact d_setItem (by omega) I (.inr ⟨_, k, b, h1, rfl, s2, by rw [zip_len h2 h3]; exact ltLim hl, rfl⟩) ri rv fun s' I' => ⟨_, I', q⟩
      · cases e1
    · cases e1
  · cases e1
/-- o.append(v) -/
def rAppM (K : PySem.W.Frag) (F : Nat → Addr) : V → List V → Hp → VK → Prop := fun x vs H Q => ∃ P ω A od vd A1 v, vs = [v] ∧ ω.H = H ∧ HR K F P ω A ∧ Rep K F ω od x ∧ Rep K F ω vd v ∧ appO A od vd = some A1 ∧
  ∀ ω', Le ω ω' → Pk P ω ω' → HR K F P ω' A1 → Q .non ω'.H
theorem mt_M : MtM X "list.append" (rAppM X.K F) := by
  intro pins s σ H x vs v us Q I rx rv h
  obtain ⟨P, ω, A, od, vd, A1, y, rfl, rfl, hr, r1, r3, e1, ot⟩ := h
  unfold appO at e1
  split at e1
  · rename_i n
    obtain ⟨a, rfl, hm⟩ := Rep.ref_inv r1
    split at e1
    · rename_i xs hA
      obtain ⟨ws, h1, h2, h3⟩ := hr.obj n _ a hA hm
      split at e1
      · rename_i hl
        cases e1
        have hl' : ws.length < sizeLine := by rw [← h3.len]; exact ltLim hl
        have q : Q .non (upd ω.H a (.lst (ws ++ [y]))) := by
          have l := Le.chg (u := .lst (ws ++ [y])) hr hm hA (by simp)
          exact ot _ l (Pk.chg hr hm) (hr.chg hm hA (by simp) (by simp) ⟨_, upd_same, by rw [List.length_append, List.length_singleton]; exact hl', (h3.app (.cons r3 .nil)).le l⟩)
        exact mt_append pins s σ _ _ _ v us Q I rx rv ⟨a, ws, y, rfl, rfl, h1, hl', q⟩
      · cases e1
    · cases e1
  · cases e1
end
end Ev

set_option maxRecDepth 100000
/-! Ev6: expressions -/
namespace Ev
open PySem PySem.Spec L2

theorem _root_.L2.PE.imp {X : Cx} {e : Expr} {t t' : TE} (h : PE X e t) (i : ∀ σ H Q, t' σ H Q → t σ H Q) : PE X e t' := ⟨fun pins s σ H Q I q => h.run pins s σ H Q I (i σ H Q q)⟩
theorem _root_.L2.PT.imp {X : Cx} {e : Expr} {t t' : TT} (h : PT X e t) (i : ∀ σ H Q, t' σ H Q → t σ H Q) : PT X e t' := ⟨fun pins s σ H Q I q => h.run pins s σ H Q I (i σ H Q q)⟩
theorem _root_.L2.PA.imp {X : Cx} {e : List Expr} {t t' : TA} (h : PA X e t) (i : ∀ σ H Q, t' σ H Q → t σ H Q) : PA X e t' := ⟨fun pos pins s σ H Q I q => h.run pos pins s σ H Q I (i σ H Q q)⟩
theorem _root_.L2.PO.imp {X : Cx} {e : Option Expr} {t t' : TO} (h : PO X e t) (i : ∀ σ H Q, t' σ H Q → t σ H Q) : PO X e t' := ⟨fun pins s σ H Q I q => h.run pins s σ H Q I (i σ H Q q)⟩

/-- the readings of the evaluator's expressions -/
def tM (K : PySem.W.Frag) (F : Nat → Addr) (U : Xh) (f : Env → AH → Res D) : TE := fun σ H Q =>
  ∃ P ω env A, ω.H = H ∧ HR K F P ω A ∧ EnvR K F ω env σ ∧ Out K F U P ω (f env A) (fin K F Q)
def tMb (K : PySem.W.Frag) (F : Nat → Addr) (U : Xh) (f : Env → AH → Res Bool) : TT := fun σ H Q =>
  ∃ P ω env A, ω.H = H ∧ HR K F P ω A ∧ EnvR K F ω env σ ∧ Out K F U P ω (f env A) (finB Q)
def tMs (K : PySem.W.Frag) (F : Nat → Addr) (U : Xh) (f : Env → AH → Res (List D)) : TA := fun σ H Q =>
  ∃ P ω env A, ω.H = H ∧ HR K F P ω A ∧ EnvR K F ω env σ ∧ Out K F U P ω (f env A) fun ds ω' _ => ∀ vs, Reps K F ω' ds vs → Q vs ω'.H
def tMo (K : PySem.W.Frag) (F : Nat → Addr) (U : Xh) (f : Env → AH → Res (Option Int)) : TO := fun σ H Q =>
  ∃ P ω env A, ω.H = H ∧ HR K F P ω A ∧ EnvR K F ω env σ ∧ Out K F U P ω (f env A) fun o ω' _ => Q o ω'.H

section
variable {K : PySem.W.Frag} {F : Nat → Addr} {U : Xh} {σ : St} {H : Hp}
/-- a value has come, g is left -/
abbrev Mid (K : PySem.W.Frag) (F : Nat → Addr) (U : Xh) (σ : St) {α : Type} (g : D → Env → AH → Res α) (Φ : α → Wd → AH → Prop) (x : V) (H1 : Hp) : Prop :=
  ∃ P ω env A d, ω.H = H1 ∧ HR K F P ω A ∧ EnvR K F ω env σ ∧ Rep K F ω d x ∧ Out K F U P ω (g d env A) Φ
theorem tM.step {α : Type} {fa : Env → AH → Res D} {g : D → Env → AH → Res α} {Φ : α → Wd → AH → Prop}
    (h : ∃ P ω env A, ω.H = H ∧ HR K F P ω A ∧ EnvR K F ω env σ ∧ Out K F U P ω (bnd (fa env A) fun x A => g x env A) Φ) : tM K F U fa σ H (Mid K F U σ g Φ) := by
  obtain ⟨P, ω, env, A, rfl, hr, er, o⟩ := h
  exact ⟨P, ω, env, A, rfl, hr, er, o.bnd.imp fun d ω' A' l k hr' o' v rv => ⟨P, ω', env, A', d, rfl, hr', er.le l, rv, o'⟩⟩
theorem tM.bin {fa fb : Env → AH → Res D} {g : D → D → AH → Res D} {Q : VK}
    (h : tM K F U (fun env A => bnd (fa env A) fun x A => bnd (fb env A) fun y A => g x y A) σ H Q) : tOp (rM2 K F U g) (tM K F U fa) (tM K F U fb) σ H Q := by
  obtain ⟨P, ω, env, A, rfl, hr, er, o⟩ := h
  exact ⟨P, ω, env, A, rfl, hr, er, o.bnd.imp fun d ω1 A1 l k hr1 o1 v rv =>
    ⟨P, ω1, env, A1, rfl, hr1, er.le l, o1.bnd.imp fun e ω2 A2 l2 k2 hr2 o2 u ru => ⟨P, ω2, A2, d, e, rfl, hr2, rv.le l2, ru, o2⟩⟩⟩
end
section
variable {X : Cx} {F : Nat → Addr} {U : Xh} {a b c : Expr} {fa fb fc : Env → AH → Res D} {pos p p2 : Pos}
theorem pe_varM {i : Nat} {x : Str} (hN : X.N[i]? = some x) (hv : Vis X.env.scope x) (hd : (x == ("__debug__" : Str)) = false) (hcd : (x == ("__classdict__" : Str)) = false) :
    PE X (.Name x pos) (tM X.K F U fun env A => match env[i]? with | some (some d) => .ok d A | _ => .bad) :=
  (pe_var hN hv hd hcd).imp fun σ H Q h => by
    obtain ⟨P, ω, env, A, rfl, hr, er, o⟩ := h
    dsimp only at o
    cases e : env[i]? with
    | none => rw [e] at o; exact o.elim
    | some q => cases q with
      | none => rw [e] at o; exact o.elim
      | some d =>
        rw [e] at o
        obtain ⟨v, h1, h2⟩ := er.at' i d e
        exact ⟨v, h1, o.val hr h2⟩
theorem pe_cM {e : Expr} {d : D} {v : V} (h : PE X e (tC v)) (r : ∀ ω, Rep X.K F ω d v) : PE X e (tM X.K F U fun _ A => .ok d A) :=
  h.imp fun σ H Q h => by
    obtain ⟨P, ω, env, A, rfl, hr, er, o⟩ := h
    exact o.val hr (r ω)
theorem pe_binM (op : Bop) (ha : PE X a (tM X.K F U fa)) (hb : PE X b (tM X.K F U fb)) : PE X (.BinOp a op.op b pos) (tM X.K F U fun env A => bnd (fa env A) fun x A => bnd (fb env A) fun y A => ofO (binO A op x y) A) :=
  (pe_op (op_binM op) ha hb).imp fun σ H Q h => tM.bin h
theorem pe_cmpM (hu : X.A.units + 65 < cLine) (op : Cop) (ha : PE X a (tM X.K F U fa)) (hb : PE X b (tM X.K F U fb)) (hm : behindInMarks op.op b = false) :
    PE X (.Compare a [op.op] [b] pos) (tM X.K F U fun env A => bnd (fa env A) fun x A => bnd (fb env A) fun y A => ofO ((cmpO A op x y).map .bl) A) :=
  (pe_cmpR (op_cmpM hu op) ha hb hm).imp fun σ H Q h => tM.bin h
theorem pe_idxM (hu : X.A.units + 65 < cLine) (ha : PE X a (tM X.K F U fa)) (hb : PE X b (tM X.K F U fb)) (hs : PlainIx b) :
    PE X (.Subscript a b pos) (tM X.K F U fun env A => bnd (fa env A) fun x A => bnd (fb env A) fun y A => ofO (idxO A x y) A) :=
  (pe_ix (op_idxM hu) ha hb hs).imp fun σ H Q h => tM.bin h
theorem pe_negM (ha : PE X a (tM X.K F U fa)) : PE X (.UnaryOp .USub a pos) (tM X.K F U fun env A => bnd (fa env A) fun x A => match x with
    | .int i => .ok (.int (-i)) A
    | _ => .bad) :=
  (pe_un un_neg ha).imp fun σ H Q h => by
    obtain ⟨P, ω, env, A, rfl, hr, er, o⟩ := h
    refine ⟨P, ω, env, A, rfl, hr, er, o.bnd.imp fun d ω1 A1 l k hr1 o1 v rv => ?_⟩
    cases d with
    | int i => obtain rfl := Rep.int_inv rv; exact ⟨i, rfl, o1.val hr1 (.int _)⟩
    | _ => exact o1.elim
theorem pe_isNM {neg : Bool} {j : Nat} {pos'} (ha : PE X a (tM X.K F U fa)) : PE X (.Compare a [if neg = true then .IsNot else .Is] [.Constant .none j pos'] pos) (tM X.K F U fun env A => bnd (fa env A) fun x A => .ok (.bl (decide (x = .non) != neg)) A) := by
  cases neg with
  | false =>
    refine (pe_cmpR op_isN ha pe_non (nomark _)).imp fun σ H Q h => ?_
    obtain ⟨P, ω, env, A, rfl, hr, er, o⟩ := h
    exact ⟨P, ω, env, A, rfl, hr, er, o.bnd.imp fun d ω1 A1 l k hr1 o1 v rv => ⟨rfl, by rw [rep_isN rv]; exact (by simpa using o1.val hr1 (.bl _))⟩⟩
  | true =>
    refine (pe_cmpR op_notN ha pe_non (nomark _)).imp fun σ H Q h => ?_
    obtain ⟨P, ω, env, A, rfl, hr, er, o⟩ := h
    exact ⟨P, ω, env, A, rfl, hr, er, o.bnd.imp fun d ω1 A1 l k hr1 o1 v rv => ⟨rfl, by rw [rep_isN rv]; exact (by simpa using o1.val hr1 (.bl _))⟩⟩
theorem pe_isBM {c neg : Bool} {j : Nat} {pos'} (ha : PE X a (tM X.K F U fa)) : PE X (.Compare a [if neg = true then .IsNot else .Is] [.Constant (.bool c) j pos'] pos) (tM X.K F U fun env A => bnd (fa env A) fun x A => .ok (.bl (decide (x = .bl c) != neg)) A) := by
  cases neg with
  | false =>
    refine (pe_cmpR (op_isB (c := c)) ha pe_bl (nomark _)).imp fun σ H Q h => ?_
    obtain ⟨P, ω, env, A, rfl, hr, er, o⟩ := h
    exact ⟨P, ω, env, A, rfl, hr, er, o.bnd.imp fun d ω1 A1 l k hr1 o1 v rv => ⟨rfl, by rw [rep_isB rv]; exact (by simpa using o1.val hr1 (.bl _))⟩⟩
  | true =>
    refine (pe_cmpR (op_notB (c := c)) ha pe_bl (nomark _)).imp fun σ H Q h => ?_
    obtain ⟨P, ω, env, A, rfl, hr, er, o⟩ := h
    exact ⟨P, ω, env, A, rfl, hr, er, o.bnd.imp fun d ω1 A1 l k hr1 o1 v rv => ⟨rfl, by rw [rep_isB rv]; exact (by simpa using o1.val hr1 (.bl _))⟩⟩

/-! ### argument lists, displays -/
theorem pa_nilM : PA X [] (tMs X.K F U fun _ A => .ok [] A) := pa_nil.imp fun σ H Q h => by
  obtain ⟨P, ω, env, A, rfl, hr, er, o⟩ := h
  exact o.here hr [] .nil
theorem pa_consM {es : List Expr} {fs : Env → AH → Res (List D)} (ha : PE X a (tM X.K F U fa)) (hr : PA X es (tMs X.K F U fs)) (hs : starEach (a :: es) X.env = (false, eval a X.env) :: starEach es X.env) :
    PA X (a :: es) (tMs X.K F U fun env A => bnd (fa env A) fun d A => bnd (fs env A) fun ds A => .ok (d :: ds) A) := (pa_cons ha hr hs).imp fun σ H Q h => by
  obtain ⟨P, ω, env, A, rfl, hr, er, o⟩ := h
  exact ⟨P, ω, env, A, rfl, hr, er, o.bnd.imp fun d ω1 A1 l k hr1 o1 v rv => ⟨P, ω1, env, A1, rfl, hr1, er.le l, o1.bnd.imp fun ds ω2 A2 l2 k2 hr2 o2 vs rvs => o2.here hr2 _ (.cons (rv.le l2) rvs)⟩⟩
theorem pe_tupM {es : List Expr} {fs : Env → AH → Res (List D)} {x1} (h : PA X es (tMs X.K F U fs)) (hf : ∀ env A ds A', fs env A = .ok ds A' → ds.length ≤ lim) :
    PE X (.Tuple es x1 pos) (tM X.K F U fun env A => bnd (fs env A) fun ds A => .ok (.tup ds) A) := (pe_tup h).imp fun σ H Q h => by
  obtain ⟨P, ω, env, A, rfl, hr, er, o⟩ := h
  refine ⟨P, ω, env, A, rfl, hr, er, ?_⟩
  cases e : fs env A with
  | ok ds A' =>
    have el := hf env A ds A' e
    dsimp only at o
    rw [e] at o
    intro ω1 l k hr1 vs rvs
    have hl : vs.length ≤ sizeLine := by rw [← rvs.len, sizeLine_eq]; exact el
    exact ⟨hl, fun p hp => (Out.le l k o).newT hr1 rvs hl p hp⟩
  | exc _ _ _ => dsimp only at o; rw [e] at o; exact o
  | bad => dsimp only at o; rw [e] at o; exact o.elim
theorem pe_lstM {es : List Expr} {fs : Env → AH → Res (List D)} (h : PA X es (tMs X.K F U fs)) (hf : ∀ env A ds A', fs env A = .ok ds A' → ds.length ≤ lim) :
    PE X (.List es pos) (tM X.K F U fun env A => bnd (fs env A) fun ds A => .ok (.lst ds) A) := (pe_lst h).imp fun σ H Q h => by
  obtain ⟨P, ω, env, A, rfl, hr, er, o⟩ := h
  refine ⟨P, ω, env, A, rfl, hr, er, ?_⟩
  cases e : fs env A with
  | ok ds A' =>
    have el := hf env A ds A' e
    dsimp only at o
    rw [e] at o
    intro ω1 l k hr1 vs rvs
    have hl : vs.length ≤ sizeLine := by rw [← rvs.len, sizeLine_eq]; exact el
    exact ⟨hl, fun p hp => (Out.le l k o).newL hr1 rvs hl p hp⟩
  | exc _ _ _ => dsimp only at o; rw [e] at o; exact o
  | bad => dsimp only at o; rw [e] at o; exact o.elim
/-- a new changing object -/
theorem Out.newO {K : PySem.W.Frag} {P : Addr → Prop} {ω : Wd} {A : AH} {o : O} {u : HO} {Q : VK} (h : Out K F U P ω (.ok (.ref A.length) (A ++ [o])) (fin K F Q)) (hr : HR K F P ω A) (p : Addr) (hp : ω.H p = none) (hd : o ≠ O.dead)
    (ho : RepO K F (ω.obj p u) o p) : Q (.ref p) (upd ω.H p u) := by
  refine h (ω.obj p u) (Le.obj ω hp) (fun a ha => upd_ne fun e => ?_) (hr.mko hp hd ho) _ (.ref ?_)
  · subst e; have := hr.ptrk a ha; rw [hp] at this; cases this
  · rw [← hr.len]; simp
theorem pe_lstMM {es : List Expr} {fs : Env → AH → Res (List D)} (h : PA X es (tMs X.K F U fs)) (hf : ∀ env A ds A', fs env A = .ok ds A' → ds.length ≤ lim) :
    PE X (.List es pos) (tM X.K F U fun env A => bnd (fs env A) fun ds A => .ok (.ref A.length) (A ++ [.lst ds])) := (pe_lst h).imp fun σ H Q h => by
  obtain ⟨P, ω, env, A, rfl, hr, er, o⟩ := h
  refine ⟨P, ω, env, A, rfl, hr, er, ?_⟩
  cases e : fs env A with
  | ok ds A' =>
    have el := hf env A ds A' e
    dsimp only at o
    rw [e] at o
    intro ω1 l k hr1 vs rvs
    have hl : vs.length ≤ sizeLine := by rw [← rvs.len, sizeLine_eq]; exact el
    exact ⟨hl, fun p hp => (Out.le l k o).newO hr1 p hp (by simp) ⟨vs, upd_same, hl, rvs.le (Le.obj ω1 hp)⟩⟩
  | exc _ _ _ => dsimp only at o; rw [e] at o; exact o
  | bad => dsimp only at o; rw [e] at o; exact o.elim
theorem pe_dkM : PE X (.Dict [] [] pos) (tM X.K F U fun _ A => .ok (.ref A.length) (A ++ [.dk [] []])) := pe_dnewK.imp fun σ H Q h => by
  obtain ⟨P, ω, env, A, rfl, hr, er, o⟩ := h
  exact fun p hp => o.newO hr p hp (by simp) ⟨[], upd_same, rfl, .nil⟩
theorem pe_dtM : PE X (.Dict [] [] pos) (tM X.K F U fun _ A => .ok (.ref A.length) (A ++ [.dt [] []])) := pe_dnewT.imp fun σ H Q h => by
  obtain ⟨P, ω, env, A, rfl, hr, er, o⟩ := h
  exact fun p hp => o.newO hr p hp (by simp) ⟨[], upd_same, rfl, .nil⟩

/-! ### truth, and, or, not, if -/
theorem tru_run {pins : List (Addr × Obj)} {s : Shared} {σ : L2.St} {ω : Wd} {P : Addr → Prop} {A : AH} {x : V} {v : Value} {d : D} {b : Bool} {Q : Bool → Shared → Prop}
    (I : Inv X pins σ ω.H s) (rx : RelV x v) (hr : HR X.K F P ω A) (rd : Rep X.K F ω d x) (h : truO A d = some b) (q : ∀ s', Inv X pins σ ω.H s' → Q b s') : wpAny (model X.prog X.w) X.A (truthy v) Q X.xe s := by
  refine thn (tru_rd (Q := fun c H' => c = b ∧ H' = ω.H) I rx hr rd h ⟨rfl, rfl⟩) fun c s' ⟨H', I', e1, e2⟩ => ?_
  subst e1 e2
  exact q s' I'
theorem pe_andM {rest : List Expr} (ha : PE X a (tM X.K F U fa)) (hb : PE X (.BoolOp .And (b :: rest) pos) (tM X.K F U fb)) :
    PE X (.BoolOp .And (a :: b :: rest) pos) (tM X.K F U fun env A => bnd (fa env A) fun x A => bnd (ofO (truO A x) A) fun t A => if t = true then fb env A else .ok x A) := by
  refine ⟨fun pins s σ H Q I h => ?_⟩
  refine PyProof.Rows.BoolOp_and (thn (ha.run pins s σ H _ I (tM.step h)) fun v s1 ⟨x, H1, I1, r1, q1⟩ => ?_)
  obtain ⟨P, ω, env, A, d, rfl, hr, er, rd, o⟩ := q1
  obtain ⟨t, e, o⟩ := o.bnd.ofO
  have o : Out X.K F U P ω _ _ := o.here hr
  refine tru_run I1 r1 hr rd e fun s2 I2 => ?_
  cases t with
  | true => exact hb.run pins s2 σ ω.H Q I2 ⟨P, ω, env, A, rfl, hr, er, o⟩
  | false => exact ⟨x, ω.H, I2, r1, o.val hr rd⟩
theorem pe_orM {rest : List Expr} (ha : PE X a (tM X.K F U fa)) (hb : PE X (.BoolOp .Or (b :: rest) pos) (tM X.K F U fb)) :
    PE X (.BoolOp .Or (a :: b :: rest) pos) (tM X.K F U fun env A => bnd (fa env A) fun x A => bnd (ofO (truO A x) A) fun t A => if t = true then .ok x A else fb env A) := by
  refine ⟨fun pins s σ H Q I h => ?_⟩
  refine PyProof.Rows.BoolOp_or (thn (ha.run pins s σ H _ I (tM.step h)) fun v s1 ⟨x, H1, I1, r1, q1⟩ => ?_)
  obtain ⟨P, ω, env, A, d, rfl, hr, er, rd, o⟩ := q1
  obtain ⟨t, e, o⟩ := o.bnd.ofO
  have o : Out X.K F U P ω _ _ := o.here hr
  refine tru_run I1 r1 hr rd e fun s2 I2 => ?_
  cases t with
  | false => exact hb.run pins s2 σ ω.H Q I2 ⟨P, ω, env, A, rfl, hr, er, o⟩
  | true => exact ⟨x, ω.H, I2, r1, o.val hr rd⟩
theorem pe_notM (ha : PE X a (tM X.K F U fa)) : PE X (.UnaryOp .Not a pos) (tM X.K F U fun env A => bnd (tst (fa env A)) fun b A => .ok (.bl (!b)) A) := by
  refine ⟨fun pins s σ H Q I h => ?_⟩
  have h : ∃ P ω env A, ω.H = H ∧ HR X.K F P ω A ∧ EnvR X.K F ω env σ ∧ Out X.K F U P ω (bnd (fa env A) fun d A => bnd (ofO (truO A d) A) fun b A => .ok (D.bl (!b)) A) (fin X.K F Q) := by
    obtain ⟨P, ω, env, A, rfl, hr, er, o⟩ := h
    refine ⟨P, ω, env, A, rfl, hr, er, ?_⟩
    have e : bnd (tst (fa env A)) (fun b A => Res.ok (D.bl (!b)) A) = (bnd (fa env A) fun d A => bnd (ofO (truO A d) A) fun b A => .ok (D.bl (!b)) A) := by
      unfold tst; cases fa env A <;> rfl
    rw [← e]; exact o
  refine PyProof.Rows.UnaryOp_ (thn (ha.run pins s σ H _ I (tM.step h)) fun v s1 ⟨x, H1, I1, r1, q1⟩ => ?_)
  obtain ⟨P, ω, env, A, d, rfl, hr, er, rd, o⟩ := q1
  obtain ⟨t, e, o⟩ := o.bnd.ofO
  have o : Out X.K F U P ω _ _ := o.here hr
  exact PyProof.Rows.not_of (tru_run I1 r1 hr rd e fun s2 I2 => ⟨.bl (!t), ω.H, I2, rfl, o.val hr (.bl _)⟩)
theorem pe_oneM {op} (ha : PE X a (tM X.K F U fa)) : PE X (.BoolOp op [a] pos) (tM X.K F U fa) := pe_one ha

/-! tests -/
abbrev fT (fa : Env → AH → Res D) : Env → AH → Res Bool := fun env A => tst (fa env A)
theorem pt_valM (ha : PE X a (tM X.K F U fa)) (he : ∀ whole, isTrue a X.env whole = (do let v ← whole; standAt a.pos; holding [v] (truthy v))) : PT X a (tMb X.K F U (fT fa)) := by
  refine ⟨fun pins s σ H Q I h => ?_⟩
  rw [he]
  refine wpAny_bind (thn (ha.run pins s σ H _ I (tM.step h)) fun v s1 ⟨x, H1, I1, r1, q1⟩ => ?_)
  obtain ⟨P, ω, env, A, d, rfl, hr, er, rd, o⟩ := q1
  obtain ⟨t, e, o⟩ := o.ofO
  exact wpAny_bind (wpAny_standAt (wpAny_holding (tru_run I1 r1 hr rd e fun s2 I2 => ⟨ω.H, I2, o.here hr⟩)))
/-- a test that always is a truth -/
theorem pt_ofB {e : Expr} {t : TE} {f : Env → AH → Res D} (h : PT X e (tTest t)) (i : ∀ σ H Q, tM X.K F U f σ H Q → t σ H Q) (hb : ∀ env A d A', f env A = .ok d A' → ∃ b, d = .bl b) : PT X e (tMb X.K F U (fT f)) :=
  h.imp fun σ H Q q => by
    refine i σ H _ ?_
    obtain ⟨P, ω, env, A, rfl, hr, er, o⟩ := q
    refine ⟨P, ω, env, A, rfl, hr, er, ?_⟩
    unfold fT tst at o
    cases e : f env A with
    | ok d A' =>
      rw [e] at o
      obtain ⟨b, rfl⟩ := hb env A d A' e
      intro ω1 l k hr1 v rv
      obtain rfl := Rep.bl_inv rv
      exact ⟨b, rfl, o ω1 l k hr1⟩
    | exc _ _ _ => rw [e] at o; exact o
    | bad => rw [e] at o; exact o.elim
theorem tst_bnd {f : Res D} {g : D → AH → Res D} : tst (bnd f g) = bnd f fun d A => tst (g d A) := by cases f <;> rfl
theorem ofO_bl {o : Option Bool} {A : AH} {d : D} {A' : AH} (h : ofO (o.map D.bl) A = .ok d A') : ∃ b, d = .bl b := by
  cases o with
  | none => cases h
  | some b => cases h; exact ⟨b, rfl⟩
theorem bnd_out {α β : Type} {f : Res α} {g : α → AH → Res β} {d : β} {A' : AH} (h : bnd f g = .ok d A') : ∃ a A1, f = .ok a A1 ∧ g a A1 = .ok d A' := by
  cases f with
  | ok a A => exact ⟨a, A, rfl, h⟩
  | exc _ _ _ => cases h
  | bad => cases h
theorem pt_cmpM (hu : X.A.units + 65 < cLine) (op : Cop) (ha : PE X a (tM X.K F U fa)) (hb : PE X b (tM X.K F U fb)) (hm : behindInMarks op.op b = false) :
    PT X (.Compare a [op.op] [b] pos) (tMb X.K F U (fT fun env A => bnd (fa env A) fun x A => bnd (fb env A) fun y A => ofO ((cmpO A op x y).map .bl) A)) := by
  refine pt_ofB (pt_cmpR (op_cmpM hu op) ha hb hm) (fun σ H Q h => tM.bin h) fun env A d A' h => ?_
  obtain ⟨_, _, _, h⟩ := bnd_out h
  obtain ⟨_, _, _, h⟩ := bnd_out h
  exact ofO_bl h
theorem pt_isNM {neg : Bool} {j : Nat} {pos'} (ha : PE X a (tM X.K F U fa)) : PT X (.Compare a [if neg = true then .IsNot else .Is] [.Constant .none j pos'] pos) (tMb X.K F U (fT fun env A => bnd (fa env A) fun x A => .ok (.bl (decide (x = .non) != neg)) A)) := by
  have fin0 : ∀ env A d A', (bnd (fa env A) fun x A => Res.ok (D.bl (decide (x = .non) != neg)) A) = .ok d A' → ∃ b, d = .bl b := fun env A d A' h => by
    obtain ⟨_, _, _, h⟩ := bnd_out h; cases h; exact ⟨_, rfl⟩
  cases neg with
  | false =>
    refine pt_ofB (pt_cmpR op_isN ha pe_non (nomark _)) (fun σ H Q h => ?_) fin0
    obtain ⟨P, ω, env, A, rfl, hr, er, o⟩ := h
    exact ⟨P, ω, env, A, rfl, hr, er, o.bnd.imp fun d ω1 A1 l k hr1 o1 v rv => ⟨rfl, by rw [rep_isN rv]; exact (by simpa using o1.val hr1 (.bl _))⟩⟩
  | true =>
    refine pt_ofB (pt_cmpR op_notN ha pe_non (nomark _)) (fun σ H Q h => ?_) fin0
    obtain ⟨P, ω, env, A, rfl, hr, er, o⟩ := h
    exact ⟨P, ω, env, A, rfl, hr, er, o.bnd.imp fun d ω1 A1 l k hr1 o1 v rv => ⟨rfl, by rw [rep_isN rv]; exact (by simpa using o1.val hr1 (.bl _))⟩⟩
theorem pt_isBM {c neg : Bool} {j : Nat} {pos'} (ha : PE X a (tM X.K F U fa)) : PT X (.Compare a [if neg = true then .IsNot else .Is] [.Constant (.bool c) j pos'] pos) (tMb X.K F U (fT fun env A => bnd (fa env A) fun x A => .ok (.bl (decide (x = .bl c) != neg)) A)) := by
  have fin0 : ∀ env A d A', (bnd (fa env A) fun x A => Res.ok (D.bl (decide (x = .bl c) != neg)) A) = .ok d A' → ∃ b, d = .bl b := fun env A d A' h => by
    obtain ⟨_, _, _, h⟩ := bnd_out h; cases h; exact ⟨_, rfl⟩
  cases neg with
  | false =>
    refine pt_ofB (pt_cmpR (op_isB (c := c)) ha pe_bl (nomark _)) (fun σ H Q h => ?_) fin0
    obtain ⟨P, ω, env, A, rfl, hr, er, o⟩ := h
    exact ⟨P, ω, env, A, rfl, hr, er, o.bnd.imp fun d ω1 A1 l k hr1 o1 v rv => ⟨rfl, by rw [rep_isB rv]; exact (by simpa using o1.val hr1 (.bl _))⟩⟩
  | true =>
    refine pt_ofB (pt_cmpR (op_notB (c := c)) ha pe_bl (nomark _)) (fun σ H Q h => ?_) fin0
    obtain ⟨P, ω, env, A, rfl, hr, er, o⟩ := h
    exact ⟨P, ω, env, A, rfl, hr, er, o.bnd.imp fun d ω1 A1 l k hr1 o1 v rv => ⟨rfl, by rw [rep_isB rv]; exact (by simpa using o1.val hr1 (.bl _))⟩⟩
/-- a chain -/
abbrev fChn (p q : Cop) (fa fb fc : Env → AH → Res D) : Env → AH → Res D := fun env A => bnd (fa env A) fun x A => bnd (fb env A) fun y A => bnd (ofO (cmpO A p x y) A) fun t A =>
      if t = true then bnd (fc env A) fun z A => ofO ((cmpO A q y z).map .bl) A else .ok (.bl false) A
theorem tM.chain {K : PySem.W.Frag} {p q : Cop} {σ : St} {H : Hp} {Q : VK} (h : tM K F U (fChn p q fa fb fc) σ H Q) :
    tChain (rM2 K F U fun x y A => ofO ((cmpO A p x y).map .bl) A) (rM2 K F U fun x y A => ofO ((cmpO A q x y).map .bl) A) (tM K F U fa) (tM K F U fb) (tM K F U fc) σ H Q := by
  obtain ⟨P, ω, env, A, rfl, hr, er, o⟩ := h
  refine ⟨P, ω, env, A, rfl, hr, er, o.bnd.imp fun d ω1 A1 l k hr1 o1 v rv => ⟨P, ω1, env, A1, rfl, hr1, er.le l, o1.bnd.imp fun e ω2 A2 l2 k2 hr2 o2 u ru => ?_⟩⟩
  obtain ⟨t, e2, o2⟩ := o2.bnd.ofO
  refine ⟨P, ω2, A2, d, e, rfl, hr2, rv.le l2, ru, ?_⟩
  dsimp only
  rw [e2]
  intro ω3 l3 k3 hr3 w rw'
  obtain rfl := Rep.bl_inv rw'
  have o3 := o2 ω3 l3 k3 hr3
  refine ⟨t, rfl, ?_⟩
  cases t with
  | true => exact ⟨P, ω3, env, A2, rfl, hr3, ((er.le l).le l2).le l3, o3.bnd.imp fun z ω4 A4 l4 k4 hr4 o4 zv rz => ⟨P, ω4, A4, e, z, rfl, hr4, (ru.le l3).le l4, rz, o4⟩⟩
  | false => exact o3.val hr3 (.bl false)
theorem pe_chnM (hu : X.A.units + 65 < cLine) (p q : Cop) (ha : PE X a (tM X.K F U fa)) (hb : PE X b (tM X.K F U fb)) (hc : PE X c (tM X.K F U fc)) (hm : lastMarks [p.op, q.op] [b, c] = false) :
    PE X (.Compare a [p.op, q.op] [b, c] pos) (tM X.K F U (fChn p q fa fb fc)) :=
  (pe_chain (op_cmpM hu p) (op_cmpM hu q) ha hb hc hm).imp fun σ H Q h => tM.chain h
theorem pt_chnM (hu : X.A.units + 65 < cLine) (p q : Cop) (ha : PE X a (tM X.K F U fa)) (hb : PE X b (tM X.K F U fb)) (hc : PE X c (tM X.K F U fc)) (hm : lastMarks [p.op, q.op] [b, c] = false) :
    PT X (.Compare a [p.op, q.op] [b, c] pos) (tMb X.K F U (fT (fChn p q fa fb fc))) := by
  refine pt_ofB (pt_chain (op_cmpM hu p) (op_cmpM hu q) ha hb hc hm) (fun σ H Q h => tM.chain h) fun env A d A' h => ?_
  obtain ⟨_, _, _, h⟩ := bnd_out h
  obtain ⟨_, _, _, h⟩ := bnd_out h
  obtain ⟨t, _, _, h⟩ := bnd_out h
  cases t with
  | true =>
    obtain ⟨_, _, _, h⟩ := bnd_out h
    exact ofO_bl h
  | false => cases h; exact ⟨_, rfl⟩
end
end Ev

set_option maxRecDepth 100000
/-! Ev7: more of expressions; targets; what is walked -/
namespace Ev
open PySem PySem.Spec L2
theorem _root_.L2.PW.imp {X : Cx} {e : Expr} {t t' : TT} (h : PW X e t) (i : ∀ σ H Q, t' σ H Q → t σ H Q) : PW X e t' := ⟨fun w pins s σ H Q I q => h.run w pins s σ H Q I (i σ H Q q)⟩
section
variable {X : Cx} {F : Nat → Addr} {U : Xh} {a b c : Expr} {fa fb fc : Env → AH → Res D} {pos p p2 : Pos}
abbrev fAnd (fa fb : Env → AH → Res D) : Env → AH → Res D := fun env A => bnd (fa env A) fun x A => bnd (ofO (truO A x) A) fun t A => if t = true then fb env A else .ok x A
abbrev fOr (fa fb : Env → AH → Res D) : Env → AH → Res D := fun env A => bnd (fa env A) fun x A => bnd (ofO (truO A x) A) fun t A => if t = true then .ok x A else fb env A
theorem tst_and (env : Env) (A : AH) : tst (fAnd fa fb env A) = bnd (tst (fa env A)) fun t A => if t = true then tst (fb env A) else .ok false A := by
  unfold fAnd tst
  cases fa env A with
  | ok x A =>
    simp only [bnd_ok]
    cases e : truO A x with
    | none => rfl
    | some t => cases t <;> simp [e]
  | exc _ _ _ => rfl
  | bad => rfl
theorem tst_or (env : Env) (A : AH) : tst (fOr fa fb env A) = bnd (tst (fa env A)) fun t A => if t = true then .ok true A else tst (fb env A) := by
  unfold fOr tst
  cases fa env A with
  | ok x A =>
    simp only [bnd_ok]
    cases e : truO A x with
    | none => rfl
    | some t => cases t <;> simp [e]
  | exc _ _ _ => rfl
  | bad => rfl
theorem tst_not (env : Env) (A : AH) : tst (bnd (tst (fa env A)) fun b A => .ok (D.bl (!b)) A) = bnd (tst (fa env A)) fun t A => .ok (!t) A := by
  cases tst (fa env A) <;> rfl
theorem pw_andM {rest : List Expr} (ha : PT X a (tMb X.K F U (fT fa))) (hb : PW X (.BoolOp .And (b :: rest) pos) (tMb X.K F U (fT fb))) : PW X (.BoolOp .And (a :: b :: rest) pos) (tMb X.K F U (fT (fAnd fa fb))) :=
  (pw_and ha hb).imp fun σ H Q h => by
    obtain ⟨P, ω, env, A, rfl, hr, er, o⟩ := h
    unfold fT at o
    rw [tst_and] at o
    refine ⟨P, ω, env, A, rfl, hr, er, o.bnd.imp fun t ω1 A1 l k hr1 o1 => ?_⟩
    cases t with
    | true => exact ⟨P, ω1, env, A1, rfl, hr1, er.le l, o1⟩
    | false => exact o1.here hr1
theorem pw_orM {rest : List Expr} (ha : PT X a (tMb X.K F U (fT fa))) (hb : PW X (.BoolOp .Or (b :: rest) pos) (tMb X.K F U (fT fb))) : PW X (.BoolOp .Or (a :: b :: rest) pos) (tMb X.K F U (fT (fOr fa fb))) :=
  (pw_or ha hb).imp fun σ H Q h => by
    obtain ⟨P, ω, env, A, rfl, hr, er, o⟩ := h
    unfold fT at o
    rw [tst_or] at o
    refine ⟨P, ω, env, A, rfl, hr, er, o.bnd.imp fun t ω1 A1 l k hr1 o1 => ?_⟩
    cases t with
    | true => exact o1.here hr1
    | false => exact ⟨P, ω1, env, A1, rfl, hr1, er.le l, o1⟩
theorem pw_oneM {op} (ha : PT X a (tMb X.K F U (fT fa))) : PW X (.BoolOp op [a] pos) (tMb X.K F U (fT fa)) := by
  cases op with
  | And => exact pw_and1 ha
  | Or => exact pw_or1 ha
theorem pt_notM (ha : PT X a (tMb X.K F U (fT fa))) : PT X (.UnaryOp .Not a pos) (tMb X.K F U (fT fun env A => bnd (tst (fa env A)) fun b A => .ok (D.bl (!b)) A)) :=
  (pt_not ha).imp fun σ H Q h => by
    obtain ⟨P, ω, env, A, rfl, hr, er, o⟩ := h
    unfold fT at o
    rw [tst_not] at o
    exact ⟨P, ω, env, A, rfl, hr, er, o.bnd.imp fun t ω1 A1 l k hr1 o1 => o1.here hr1⟩
theorem pe_iteM (hc : PT X c (tMb X.K F U (fT fc))) (ha : PE X a (tM X.K F U fa)) (hb : PE X b (tM X.K F U fb)) :
    PE X (.IfExp c a b pos) (tM X.K F U fun env A => bnd (tst (fc env A)) fun t A => if t = true then fa env A else fb env A) :=
  (pe_ifExp hc ha hb).imp fun σ H Q h => by
    obtain ⟨P, ω, env, A, rfl, hr, er, o⟩ := h
    refine ⟨P, ω, env, A, rfl, hr, er, o.bnd.imp fun t ω1 A1 l k hr1 o1 => ?_⟩
    cases t with
    | true => exact ⟨P, ω1, env, A1, rfl, hr1, er.le l, o1⟩
    | false => exact ⟨P, ω1, env, A1, rfl, hr1, er.le l, o1⟩

/-! ### slices -/
theorem po_noneM : PO X none (tMo X.K F U fun _ A => .ok none A) := po_none.imp fun σ H Q h => by
  obtain ⟨P, ω, env, A, rfl, hr, er, o⟩ := h
  exact o.here hr
theorem po_someM (ha : PE X a (tM X.K F U fa)) : PO X (some a) (tMo X.K F U fun env A => bnd (fa env A) fun x A => ofO ((intO x).map some) A) := (po_some ha).imp fun σ H Q h => by
  obtain ⟨P, ω, env, A, rfl, hr, er, o⟩ := h
  refine ⟨P, ω, env, A, rfl, hr, er, o.bnd.imp fun d ω1 A1 l k hr1 o1 v rv => ?_⟩
  cases d with
  | int i => obtain rfl := Rep.int_inv rv; exact ⟨i, rfl, o1.here hr1⟩
  | _ => exact o1.elim
theorem pe_slcM {lo hi : Option Expr} {fl fh : Env → AH → Res (Option Int)} (ha : PE X a (tM X.K F U fa)) (hl : PO X lo (tMo X.K F U fl)) (hh : PO X hi (tMo X.K F U fh)) :
    PE X (.Subscript a (.Slice lo hi none p2) pos) (tM X.K F U fun env A => bnd (fa env A) fun x A => bnd (fl env A) fun l A => bnd (fh env A) fun h A => ofO (slcO A x l h) A) :=
  (pe_slice sl_M ha hl hh).imp fun σ H Q h => by
    obtain ⟨P, ω, env, A, rfl, hr, er, o⟩ := h
    exact ⟨P, ω, env, A, rfl, hr, er, o.bnd.imp fun d ω1 A1 l k hr1 o1 v rv => ⟨P, ω1, env, A1, rfl, hr1, er.le l, o1.bnd.imp fun lo ω2 A2 l2 k2 hr2 o2 =>
      ⟨P, ω2, env, A2, rfl, hr2, (er.le l).le l2, o2.bnd.imp fun hi ω3 A3 l3 k3 hr3 o3 => ⟨P, ω3, A3, d, rfl, hr3, (rv.le l2).le l3, o3⟩⟩⟩⟩

/-! ### calls -/
/-- the error of the class numbered c with d, as the layer has it: its class, its dict -/
def ExR (K : PySem.W.Frag) (F : Nat → Addr) (ω : Wd) (c : Nat) (d : D) (cls : Value) (dd : Option Addr) : Prop :=
  (cls = .ref (F (1000000 + c)) ∧ F (3000000 + c) = 1) ∧ ((∃ fld a v, excF c = some fld ∧ dd = some a ∧ ω.H a = some (.xd [(fld, v)]) ∧ Rep K F ω d v) ∨ (excF c = none ∧ dd = none ∧ d = .non ∧ c < 1000000))
/-- a wish of the layer as one of the evaluator, and the other way about -/
def UE (K : PySem.W.Frag) (F : Nat → Addr) (E : XK) : Xh := fun c d ω => ∀ cls dd, ExR K F ω c d cls dd → E cls dd ω.H
def EU (K : PySem.W.Frag) (F : Nat → Addr) (U : Xh) : XK := fun cls dd H => ∃ c d ω, ω.H = H ∧ ExR K F ω c d cls dd ∧ U c d ω
theorem UE_EU {K : PySem.W.Frag} {F : Nat → Addr} {U : Xh} : ∀ c d ω, U c d ω → UE K F (EU K F U) c d ω := fun c d ω u cls dd e => ⟨c, d, ω, rfl, e, u⟩
/-- a def's promise: what the evaluator makes of it -/
def spM (K : PySem.W.Frag) (F : Nat → Addr) (n : Nat) (g : List D → AH → Res D) : Sp := fun vs H Q E =>
  vs.length = n ∧ ∃ P ω A ds, ω.H = H ∧ HR K F P ω A ∧ Reps K F ω ds vs ∧ Out K F (UE K F E) P ω (g ds A) (fin K F Q)
/-- what leaves X finds U -/
abbrev TkU (X : Cx) (F : Nat → Addr) (U : Xh) : Prop := Takes X fun cls dd _ H => EU X.K F U cls dd H
theorem TkU.pass (tk : TkU X F U) : Passes (L2.CX X.prog X.w) X (EU X.K F U) := passes_call tk fun _ _ _ _ h => h
theorem pe_callM {k : Nat} {f : Addr} {fd : FuncData} {ps : List Str} {x : Str} {es : List Expr} {fs : Env → AH → Res (List D)} {g : List D → AH → Res D}
    (G : FnOkG X.prog X.w X.K X.mg X.base k f fd ps (spM X.K F ps.length g)) (hgd : X.A.guards = some []) (hr : Room k X.A) (hg : Gl X x) (hm : X.mg x = some (.ref f)) (hk : PySem.W.keepIn X.K (.ref f) = true) (hb : Binds X.K fd ps [])
    (tk : TkU X F U) (ha : PA X (a :: es) (tMs X.K F U fs)) (hdb : (x == ("__debug__" : Str)) = false)
    (he : starEach (a :: es) X.env = (false, eval a X.env) :: starEach es X.env) (hpl : (backTo pos (starEach es X.env)).any (·.1) = false) (hn : ∀ env A ds A', fs env A = .ok ds A' → ds.length = ps.length) :
    PE X (.Call (.Name x p) (a :: es) [] pos) (tM X.K F U fun env A => bnd (fs env A) fun ds A => g ds A) :=
  (pe_callG (E := EU X.K F U) G hgd hr hg hm hk hb tk.pass ha hdb he hpl).imp fun σ H Q h => by
    obtain ⟨P, ω, env, A, rfl, hr, er, o⟩ := h
    refine ⟨P, ω, env, A, rfl, hr, er, ?_⟩
    cases e : fs env A with
    | ok ds A' =>
      have el := hn env A ds A' e
      dsimp only at o
      rw [e] at o
      intro ω1 l k hr1 vs rvs
      exact ⟨by rw [← rvs.len]; exact el, P, ω1, A', ds, rfl, hr1, rvs, Out.mapU UE_EU (Out.le l k o)⟩
    | exc _ _ _ => dsimp only at o; rw [e] at o; exact o
    | bad => dsimp only at o; rw [e] at o; exact o.elim
theorem pe_call0M {k : Nat} {f : Addr} {fd : FuncData} {x : Str} {g : List D → AH → Res D}
    (G : FnOkG X.prog X.w X.K X.mg X.base k f fd [] (spM X.K F 0 g)) (hgd : X.A.guards = some []) (hr : Room k X.A) (hg : Gl X x) (hm : X.mg x = some (.ref f)) (hk : PySem.W.keepIn X.K (.ref f) = true) (hb : Binds X.K fd [] [])
    (tk : TkU X F U) (hdb : (x == ("__debug__" : Str)) = false) :
    PE X (.Call (.Name x p) [] [] pos) (tM X.K F U fun env A => g [] A) :=
  (pe_call0G (E := EU X.K F U) G hgd hr hg hm hk hb tk.pass hdb).imp fun σ H Q h => by
    obtain ⟨P, ω, env, A, rfl, hr, er, o⟩ := h
    exact ⟨rfl, P, ω, A, [], rfl, hr, .nil, Out.mapU UE_EU o⟩
theorem tMs_cb {K : PySem.W.Frag} {fs : Env → AH → Res (List D)} {g : List D → AH → Res D} {σ : St} {H : Hp} {Q : VK} (h : tM K F U (fun env A => bnd (fs env A) fun ds A => g ds A) σ H Q) : tCB (rCM K F U g) (tMs K F U fs) σ H Q := by
  obtain ⟨P, ω, env, A, rfl, hr, er, o⟩ := h
  exact ⟨P, ω, env, A, rfl, hr, er, o.bnd.imp fun ds ω1 A1 l k hr1 o1 vs rvs => ⟨P, ω1, A1, ds, rfl, hr1, rvs, o1⟩⟩
def Bi.nm : Bi → String
  | .len => "len" | .int => "int" | .abs => "abs" | .max2 => "max" | .min2 => "min" | .max1 => "max" | .min1 => "min" | .sum => "sum" | .all => "all" | .any => "any" | .list => "list" | .tuple => "tuple" | .isi => "isinstance" | .divmod => "divmod" | .sorted => "sorted" | .repr => "repr"
theorem Bi.boot (b : Bi) : bootBuiltins (Str.ofString b.nm) = some b.val := by cases b <;> decide +kernel
theorem Bi.nmok (b : Bi) : Str.ofString b.nm ≠ Str.ofString "__name__" ∧ (Str.ofString b.nm == Str.ofString "__debug__") = false := by cases b <;> decide +kernel
theorem pe_biM (b : Bi) (hc : X.calm = true) (hu : X.A.units + 65 < cLine) (hgd : X.A.guards = some []) {es : List Expr} {fs : Env → AH → Res (List D)} (hg : Gl X (Str.ofString b.nm)) (hm : X.mg (Str.ofString b.nm) = none) (ha : PA X (a :: es) (tMs X.K F U fs))
    (he : starEach (a :: es) X.env = (false, eval a X.env) :: starEach es X.env) (hpl : (backTo pos (starEach es X.env)).any (·.1) = false) :
    PE X (.Call (.Name (Str.ofString b.nm) p) (a :: es) [] pos) (tM X.K F U fun env A => bnd (fs env A) fun ds A => ofO (biO A b ds) A) := by
  have h := call_biM (F := F) (U := U) hc hu hgd b
  have hv := b.boot
  obtain ⟨h1, h2⟩ := b.nmok
  have go : PE X (.Call (.Name (Str.ofString b.nm) p) (a :: es) [] pos) (tCB (rCM X.K F U fun ds A => ofO (biO A b ds) A) (tMs X.K F U fs)) := by
    cases hb : b.val with
    | builtin id => rw [hb] at h hv; exact pe_callB h hg hm hv ha h1 h2 he hpl
    | type T => rw [hb] at h hv; exact pe_callTy h hg hm hv ha h1 h2 he hpl
    | _ => cases b <;> cases hb
  exact go.imp fun σ H Q q => tMs_cb q
/-- o.append(e) -/
theorem pe_appM {o : Expr} {fo : Env → AH → Res D} {apos cpos : Pos} (ho : PE X o (tM X.K F U fo)) (ha : PE X a (tM X.K F U fa))
    (hbase : attributeBase o "append" X.env (eval o X.env) = eval o X.env)
    (hfew : ((backTo cpos (starEach [a] X.env)).all (fun x => !x.1) && (backToKw cpos (keywordEach [] X.env)).all (fun x => x.1.isSome)
      && decide ([a].length + ([] : List Keyword).length + (if ([] : List Keyword).isEmpty then 0 else 1) < 30)) = true)
    (hline : (apos.endLine == cpos.line) = true) (hs : starEach [a] X.env = (false, eval a X.env) :: starEach [] X.env) (hplain : (backTo cpos (starEach [] X.env)).any (·.1) = false) :
    PE X (.Call (.Attribute o "append" apos) [a] [] cpos) (tM X.K F U fun env A => bnd (fo env A) fun x A => bnd (ofO (lstR A x) A) fun _ A => bnd (fa env A) fun y A => bnd (ofO (appO A x y) A) fun A1 _ => .ok .non A1) :=
  (pe_bm PySem.F.plainAttrs_list PySem.F.slot_list_append PySem.F.type_list_append (mt_M (F := F)) ho (pa_cons ha pa_nil hs) hbase hfew hline hs hplain).imp fun σ H Q h => by
    obtain ⟨P, ω, env, A, rfl, hr, er, o⟩ := h
    refine ⟨P, ω, env, A, rfl, hr, er, o.bnd.imp fun d ω1 A1 l k hr1 o1 v rv => ?_⟩
    obtain ⟨_, e1, o1⟩ := o1.bnd.ofO
    have o1 := o1.here hr1
    refine ⟨?_, P, ω1, env, A1, rfl, hr1, er.le l, o1.bnd.imp fun e ω2 A2 l2 k2 hr2 o2 u ru => ?_⟩
    · have vd := view hr1 rv
      unfold lstR at e1
      revert e1 vd
      generalize shal A1 d = d'
      intro e1 vd
      cases d' with
      | lst xs => obtain ⟨a, vs, rfl, s1, _, _⟩ := vd; exact .inl ⟨rfl, vs, .inl s1⟩
      | _ => cases e1
    · obtain ⟨A3, e2, o2⟩ := o2.bnd.ofO
      have o2 : Out X.K F U P ω2 (.ok D.non A3) _ := o2.here hr2
      exact ⟨P, ω2, A2, d, e, A3, u, rfl, rfl, hr2, rv.le l2, ru, e2, fun ω' l' k' hr' => o2 ω' l' k' hr' _ .non⟩

/-! ### targets -/
/-- nothing but the slots L is changed -/
def But (L : List Nat) (σ σ' : St) : Prop := σ'.length = σ.length ∧ ∀ j, j ∉ L → σ'[j]? = σ[j]?
def gM (K : PySem.W.Frag) (F : Nat → Addr) (U : Xh) (L : List Nat) (f : D → Env → AH → Res Env) : TG := fun v σ H Q =>
  ∃ P ω env A d, ω.H = H ∧ HR K F P ω A ∧ EnvR K F ω env σ ∧ Rep K F ω d v ∧ Out K F U P ω (f d env A) fun env' ω' _ => ∀ σ', EnvR K F ω' env' σ' → But L σ σ' → Q σ' ω'.H
def gMs (K : PySem.W.Frag) (F : Nat → Addr) (U : Xh) (L : List Nat) (f : List D → Env → AH → Res Env) : TGs := fun vs σ H Q =>
  ∃ P ω env A ds, ω.H = H ∧ HR K F P ω A ∧ EnvR K F ω env σ ∧ Reps K F ω ds vs ∧ Out K F U P ω (f ds env A) fun env' ω' _ => ∀ σ', EnvR K F ω' env' σ' → But L σ σ' → Q σ' ω'.H
theorem _root_.L2.PG.imp {X : Cx} {e : Expr} {t t' : TG} (h : PG X e t) (i : ∀ v σ H Q, t' v σ H Q → t v σ H Q) : PG X e t' := ⟨fun pins s σ H v u Q I r q => h.run pins s σ H v u Q I r (i v σ H Q q)⟩
theorem _root_.L2.PGs.imp {X : Cx} {e : List Expr} {t t' : TGs} (h : PGs X e t) (i : ∀ v σ H Q, t' v σ H Q → t v σ H Q) : PGs X e t' := ⟨fun pins s σ H v u Q I r q => h.run pins s σ H v u Q I r (i v σ H Q q)⟩
theorem But.refl (L : List Nat) (σ : St) : But L σ σ := ⟨rfl, fun _ _ => rfl⟩
theorem But.trans {L : List Nat} {a b c : St} (h : But L a b) (k : But L b c) : But L a c := ⟨k.1.trans h.1, fun j hj => (k.2 j hj).trans (h.2 j hj)⟩
theorem But.mono {L L' : List Nat} {a b : St} (h : But L a b) (k : ∀ j, j ∈ L → j ∈ L') : But L' a b := ⟨h.1, fun j hj => h.2 j fun z => hj (k j z)⟩
theorem pg_nmM {i : Nat} {x : Str} (hN : X.N.Nodup) (hi : X.N[i]? = some x) (hx : Loc X.env.scope x) (hf : X.fn x = true ∨ X.env.scope.names.lookup x = some .local) :
    PG X (.Name x pos) (gM X.K F U [i] fun d env A => .ok (env.set i (some d)) A) := (pg_name hN hi hx hf).imp fun v σ H Q h => by
  obtain ⟨P, ω, env, A, d, rfl, hr, er, rv, o⟩ := h
  refine o.here hr _ (er.set i rv) ⟨by simp, fun j hj => ?_⟩
  have hne : i ≠ j := fun e => hj (by simp [e])
  rw [List.getElem?_set_ne hne]
theorem pgs_nilM {L : List Nat} : PGs X [] (gMs X.K F U L fun ds env A => match ds with
    | [] => .ok env A
    | _ :: _ => .bad) := pgs_nil.imp fun vs σ H Q h => by
  obtain ⟨P, ω, env, A, ds, rfl, hr, er, rv, o⟩ := h
  cases ds with
  | nil => cases rv; exact ⟨rfl, o.here hr _ er (But.refl _ _)⟩
  | cons _ _ => exact o.elim
theorem pgs_consM {L : List Nat} {es : List Expr} {g : D → Env → AH → Res Env} {gs : List D → Env → AH → Res Env} (h1 : PG X a (gM X.K F U L g)) (h2 : PGs X es (gMs X.K F U L gs))
    (hs : (assignEach (a :: es) X.env).map (·.2) = assign a X.env :: (assignEach es X.env).map (·.2)) :
    PGs X (a :: es) (gMs X.K F U L fun ds env A => match ds with
      | [] => .bad
      | d :: ds => bnd (g d env A) fun env A => gs ds env A) := (pgs_cons h1 h2 hs).imp fun vs σ H Q h => by
  obtain ⟨P, ω, env, A, ds, rfl, hr, er, rv, o⟩ := h
  cases ds with
  | nil => exact o.elim
  | cons d ds =>
    cases rv with
    | cons r rs =>
      exact ⟨_, _, rfl, P, ω, env, A, d, rfl, hr, er, r, o.bnd.imp fun env1 ω1 A1 l k hr1 o1 σ1 er1 b1 =>
        ⟨P, ω1, env1, A1, ds, rfl, hr1, er1, rs.le l, o1.imp fun env2 ω2 A2 l2 k2 hr2 q σ2 er2 b2 => q σ2 er2 (b1.trans b2)⟩⟩
theorem _root_.L2.PG.or {e : Expr} {t t' : TG} (h : PG X e t) (h' : PG X e t') : PG X e (fun v σ H Q => t v σ H Q ∨ t' v σ H Q) :=
  ⟨fun pins s σ H v u Q I r q => q.elim (h.run pins s σ H v u Q I r) (h'.run pins s σ H v u Q I r)⟩
theorem pg_tupM {L : List Nat} {es : List Expr} {k : Nat} {gs : List D → Env → AH → Res Env} {n : Nat} (hc : X.calm = true) (h : PGs X es (gMs X.K F U L gs))
    (hn : (assignEach es X.env).length = n) (hst : (assignEach es X.env).findIdx? (·.1) = none) (hl : ∀ ds env A env' A', gs ds env A = .ok env' A' → ds.length = n) (hx : ∀ ds env A c d A', gs ds env A ≠ .exc c d A') :
    PG X (.Tuple es k pos) (gM X.K F U L fun d env A => bnd (ofO (unpO (shal A d)) A) fun xs A => gs xs env A) := (PG.or (pg_tup hc h hn hst) (pg_lst hc h hn hst)).imp fun v σ H Q h => by
  obtain ⟨P, ω, env, A, d, rfl, hr, er, rv, o⟩ := h
  obtain ⟨xs, e1, o1⟩ := o.bnd.ofO
  have oo : Out X.K F U P ω (gs xs env A) _ := o1.here hr
  clear o o1
  have ln : ∀ vs : List V, Reps X.K F ω xs vs → vs.length = n := fun vs r => by
    rw [← r.len]
    cases e : gs xs env A with
    | ok env' A' => exact hl _ _ _ _ _ e
    | exc _ _ _ => exact absurd e (hx _ _ _ _ _ _)
    | bad => rw [e] at oo; exact oo.elim
  have vd := view hr rv
  revert e1 vd
  generalize shal A d = d'
  intro e1 vd
  cases d' with
  | tup ys =>
    cases e1
    obtain ⟨a, vs, rfl, s1, l, r⟩ := Rep.tup_inv vd
    exact .inl ⟨a, vs, rfl, s1.sq, ln vs r, P, ω, env, A, xs, rfl, hr, er, r, oo⟩
  | lst ys =>
    cases e1
    obtain ⟨a, vs, rfl, s1, l, r⟩ := vd
    exact .inr ⟨a, vs, rfl, .inl s1, ln vs r, P, ω, env, A, xs, rfl, hr, er, r, oo⟩
  | _ => cases e1
theorem pg_subM {L : List Nat} (hu : X.A.units + 65 < cLine) (ha : PE X a (tM X.K F U fa)) (hb : PE X b (tM X.K F U fb))
    (hs : ∀ v, assign (.Subscript a b pos) X.env v = (do
      let ov ← holding [v] (eval a X.env)
      let iv ← holding [v, ov] (eval b X.env)
      standAt pos
      holding [v, ov, iv] (setItem ov iv v)
      release [v, ov, iv] [])) :
    PG X (.Subscript a b pos) (gM X.K F U L fun d env A => bnd (fa env A) fun x A => bnd (fb env A) fun y A => bnd (ofO (setO A x y d) A) fun A1 _ => .ok env A1) :=
  (pg_sub ha hb (set_M (F := F) hu) hs).imp fun v σ H Q h => by
    obtain ⟨P, ω, env, A, d, rfl, hr, er, rv, o⟩ := h
    refine ⟨P, ω, env, A, rfl, hr, er, o.bnd.imp fun x ω1 A1 l k hr1 o1 v1 rv1 => ⟨P, ω1, env, A1, rfl, hr1, er.le l, o1.bnd.imp fun y ω2 A2 l2 k2 hr2 o2 v2 rv2 => ?_⟩⟩
    obtain ⟨A3, e3, o2⟩ := o2.bnd.ofO
    have o2 : Out X.K F U P ω2 (.ok env A3) _ := o2.here hr2
    exact ⟨P, ω2, A2, x, y, d, A3, rfl, hr2, rv1.le l2, rv2, (rv.le l).le l2, e3, fun ω' l' k' hr' => o2 ω' l' k' hr' σ (((er.le l).le l2).le l') (But.refl _ _)⟩
end
end Ev

set_option maxRecDepth 100000
/-! Ev8: what is walked; comprehensions; statements -/
namespace Ev
open PySem PySem.Spec L2
theorem _root_.L2.PI.imp {X : Cx} {tg e : Expr} {t t' : TI} (h : PI X tg e t) (i : ∀ σ H R, t' σ H R → t σ H R) : PI X tg e t' := ⟨fun pins s σ H R I q => h.run pins s σ H R I (i σ H R q)⟩
theorem _root_.L2.PI.or {X : Cx} {tg e : Expr} {t t' : TI} (h : PI X tg e t) (h' : PI X tg e t') : PI X tg e (fun σ H R => t σ H R ∨ t' σ H R) :=
  ⟨fun pins s σ H R I q => q.elim (h.run pins s σ H R I) (h'.run pins s σ H R I)⟩

/-- J gives xs, one after the other -/
structure Wk (K : PySem.W.Frag) (F : Nat → Addr) (J : It) (xs : List D) (ω : Wd) : Prop where
  goes : ∀ ω', Le ω ω' → ∀ i, i < xs.length → J.go i ω'.H
  stops : ∀ ω', Le ω ω' → J.stop xs.length ω'.H
  yields : ∀ P ω' A i x H', Le ω ω' → HR K F P ω' A → i < xs.length → J.yld i ω'.H x H' → ∃ d ω'', xs[i]? = some d ∧ ω''.H = H' ∧ Le ω' ω'' ∧ Pk P ω' ω'' ∧ HR K F P ω'' A ∧ Rep K F ω'' d x
def iM (K : PySem.W.Frag) (F : Nat → Addr) (U : Xh) (f : Env → AH → Res (List D)) : TI := fun σ H R =>
  ∃ P ω env A, ω.H = H ∧ HR K F P ω A ∧ EnvR K F ω env σ ∧ Out K F U P ω (f env A) fun xs ω' _ => ∀ J, Wk K F J xs ω' → R J ω'.H
section
variable {K : PySem.W.Frag} {F : Nat → Addr} {U : Xh} {ω : Wd}
theorem Wk.of {J : It} {xs : List D} {vs : List V} {G : Hp → Prop} (w : Walk J vs.length G (YAt vs)) (r : Reps K F ω xs vs) (hG : ∀ ω', Le ω ω' → G ω'.H) : Wk K F J xs ω := by
  refine ⟨fun ω' l i hi => w.goes i _ (by rw [← r.len]; exact hi) (hG ω' l), fun ω' l => by rw [r.len]; exact w.stops _ (hG ω' l), fun P ω' A i x H' l hr hi y => ?_⟩
  obtain ⟨e1, e2⟩ := w.yields i _ x H' (by rw [← r.len]; exact hi) (hG ω' l) y
  obtain ⟨d, h1, h2⟩ := r.get' e2
  exact ⟨d, ω', h1, e1.symm, Le.refl _, Pk.refl _ _, hr, h2.le l⟩
theorem upto_len : ∀ (n : Nat) (lo : Int), (upto lo n).length = n
  | 0, _ => rfl
  | n + 1, lo => by simp [upto, upto_len n]
theorem upto_get : ∀ (n : Nat) (lo : Int) (i : Nat), i < n → (upto lo n)[i]? = some (.int (lo + i))
  | 0, _, _, h => by omega
  | n + 1, lo, 0, _ => by simp [upto]
  | n + 1, lo, i + 1, h => by
    simp only [upto, List.getElem?_cons_succ]
    rw [upto_get n (lo + 1) i (by omega)]
    congr 2; omega
theorem Wk.rng {lo : Int} {n : Nat} : Wk K F (Itr lo n) (upto lo n) ω := by
  refine ⟨fun ω' l i hi => by rw [upto_len] at hi; exact hi, fun ω' l => by rw [upto_len]; exact Nat.le_refl n, fun P ω' A i x H' l hr hi y => ?_⟩
  obtain ⟨e1, e2⟩ := y
  rw [upto_len] at hi
  exact ⟨_, ω', upto_get n lo i hi, e1.symm, Le.refl _, Pk.refl _ _, hr, by rw [e2]; exact .int _⟩
theorem zip2_len : ∀ (xs ys : List D), (zip2 xs ys).length = min xs.length ys.length
  | [], _ => by simp [zip2]
  | _ :: _, [] => by simp [zip2]
  | x :: xs, y :: ys => by simp [zip2, zip2_len xs ys, Nat.succ_min_succ]
theorem zip2_get : ∀ (xs ys : List D) (i : Nat) (x y : D), xs[i]? = some x → ys[i]? = some y → (zip2 xs ys)[i]? = some (.tup [x, y])
  | [], _, _, _, _, h, _ => by simp at h
  | _ :: _, [], _, _, _, _, h => by simp at h
  | x :: xs, y :: ys, 0, _, _, h, k => by simp at h k; subst h k; rfl
  | x :: xs, y :: ys, i + 1, _, _, h, k => by simp only [zip2, List.getElem?_cons_succ] at *; exact zip2_get xs ys i _ _ h k
/-- pairs, each in a new tuple -/
theorem Wk.pairs {J : It} {xs ys : List D} {vs us : List V} {n : Nat} {G : Hp → Prop} (hn : n = min vs.length us.length) (w : Walk J n G (YPair (fun i => vs[i]?) (fun i => us[i]?))) (r : Reps K F ω xs vs) (q : Reps K F ω ys us) (hG : ∀ ω', Le ω ω' → G ω'.H) :
    Wk K F J (zip2 xs ys) ω := by
  have hl : (zip2 xs ys).length = n := by rw [zip2_len, r.len, q.len, hn]
  refine ⟨fun ω' l i hi => w.goes i _ (by rw [← hl]; exact hi) (hG ω' l), fun ω' l => by rw [hl]; exact w.stops _ (hG ω' l), fun P ω' A i x H' l hr hi y => ?_⟩
  obtain ⟨T, x1, y1, rfl, nT, rfl, h1, h2⟩ := w.yields i _ x H' (by rw [← hl]; exact hi) (hG ω' l) y
  obtain ⟨d, g1, g2⟩ := r.get' h1
  obtain ⟨e, g3, g4⟩ := q.get' h2
  have ln := Le.new (u := .tup [x1, y1]) ω' nT
  exact ⟨_, ω'.new T (.tup [x1, y1]), zip2_get xs ys i d e g1 g3, rfl, ln, Pk.new nT hr.ptrk, hr.new nT,
    .tup upd_same (by rw [sizeLine_eq]; show 2 ≤ 16777216; decide) (.cons ((g2.le l).le ln) (.cons ((g4.le l).le ln) .nil))⟩
theorem walk_zipT {a b : Addr} {xs ys : List V} {n : Nat} (hn : n = min xs.length ys.length) : Walk (RZ.ItzT K a b) n (fun H => SqT K H a xs ∧ SqT K H b ys) (YPair (fun i => xs[i]?) (fun i => ys[i]?)) := by
  subst hn
  refine ⟨fun i _ hi q => ?_, fun _ q => ⟨xs, ys, q.1, q.2, by omega⟩, fun i H v H' _ q y => ?_⟩
  · have h1 : i < xs.length := by omega
    have h2 : i < ys.length := by omega
    exact ⟨xs, ys, xs[i], ys[i], q.1, q.2, by simp [h1], by simp [h2]⟩
  · obtain ⟨T, x, y, h1, h2, h3, h4, h5⟩ := y
    exact ⟨T, x, y, h1, h2, h3, h4 xs q.1, h5 ys q.2⟩
end
section
variable {X : Cx} {F : Nat → Addr} {U : Xh} {a b c tg : Expr} {fa fb fc : Env → AH → Res D} {pos p p2 : Pos}
theorem pi_seqM (ha : PE X a (tM X.K F U fa)) : PI X tg a (iM X.K F U fun env A => bnd (fa env A) fun x A => ofO (seqO x) A) :=
  (PI.or (pi_list ha) (pi_tup ha)).imp fun σ H R h => by
    obtain ⟨P, ω, env, A, rfl, hr, er, o⟩ := h
    dsimp only at o
    cases e : fa env A with
    | ok d A' =>
      rw [e] at o
      obtain ⟨xs, e1, o1⟩ := Out.ofO o
      cases d with
      | tup ys =>
        cases e1
        refine .inr ⟨P, ω, env, A, rfl, hr, er, ?_⟩
        rw [e]
        intro ω1 l k hr1 v rv
        obtain ⟨p, vs, rfl, s1, _, r⟩ := Rep.tup_inv rv
        exact ⟨p, rfl, ⟨vs, s1.sq⟩, o1 ω1 l k hr1 _ (Wk.of walk_tup r fun ω' l' => (s1.le l').sq)⟩
      | lst ys =>
        cases e1
        refine .inl ⟨P, ω, env, A, rfl, hr, er, ?_⟩
        rw [e]
        intro ω1 l k hr1 v rv
        obtain ⟨p, vs, rfl, s1, _, r⟩ := Rep.lst_inv rv
        exact ⟨p, rfl, ⟨vs, .inl s1.2⟩, o1 ω1 l k hr1 _ (Wk.of walk_list r fun ω' l' => .inl (s1.le l').2)⟩
      | kl ys =>
        cases e1
        refine .inl ⟨P, ω, env, A, rfl, hr, er, ?_⟩
        rw [e]
        intro ω1 l k hr1 v rv
        obtain ⟨p, vs, rfl, s1, _, r⟩ := Rep.kl_inv rv
        exact ⟨p, rfl, ⟨vs, s1.sq⟩, o1 ω1 l k hr1 _ (Wk.of walk_list r fun ω' l' => (s1.le l').sq)⟩
      | _ => cases e1
    | exc _ _ _ =>
      rw [e] at o
      refine .inl ⟨P, ω, env, A, rfl, hr, er, ?_⟩
      rw [e]; exact o
    | bad => rw [e] at o; exact o.elim
theorem pi_rng1M (hg : Gl X "range") (hm : X.mg "range" = none) (ha : PE X a (tM X.K F U fa)) (hs : starEach [a] X.env = [(false, eval a X.env)]) (hs2 : starEach [a] X.env = (false, eval a X.env) :: starEach [] X.env) :
    PI X tg (.Call (.Name "range" p) [a] [] pos) (iM X.K F U fun env A => bnd (fa env A) fun x A => match x with
    | .int j => if rngOk j then .ok (upto 0 j.toNat) A else .bad
    | _ => .bad) :=
  (pi_range1 hg hm (pa_cons ha pa_nil hs2) hs).imp fun σ H R h => by
    obtain ⟨P, ω, env, A, rfl, hr, er, o⟩ := h
    refine ⟨P, ω, env, A, rfl, hr, er, o.bnd.imp fun d ω1 A1 l k hr1 o1 v rv => ?_⟩
    cases d with
    | int j =>
      obtain rfl := Rep.int_inv rv
      dsimp only at o1
      split at o1
      · rename_i hj
        exact ⟨j, rfl, hj.1, hj.2, o1.here hr1 _ Wk.rng⟩
      · exact o1.elim
    | _ => exact o1.elim
theorem pi_rng2M (hg : Gl X "range") (hm : X.mg "range" = none) (ha : PE X a (tM X.K F U fa)) (hb : PE X b (tM X.K F U fb)) (hs : starEach [a, b] X.env = [(false, eval a X.env), (false, eval b X.env)]) (hs2 : starEach [b] X.env = [(false, eval b X.env)])
    (hs3 : starEach [a, b] X.env = (false, eval a X.env) :: starEach [b] X.env) (hs4 : starEach [b] X.env = (false, eval b X.env) :: starEach [] X.env) :
    PI X tg (.Call (.Name "range" p) [a, b] [] pos) (iM X.K F U fun env A => bnd (fa env A) fun x A => bnd (fb env A) fun y A => match x, y with
    | .int i, .int j => if rngOk i ∧ rngOk j then .ok (upto i (j - i).toNat) A else .bad
    | _, _ => .bad) :=
  (pi_range2 hg hm (pa_cons ha (pa_cons hb pa_nil hs4) hs3) hs hs2).imp fun σ H R h => by
    obtain ⟨P, ω, env, A, rfl, hr, er, o⟩ := h
    refine ⟨P, ω, env, A, rfl, hr, er, o.bnd.imp fun d ω1 A1 l k hr1 o1 v rv => ⟨P, ω1, env, A1, rfl, hr1, er.le l, o1.bnd.imp fun e ω2 A2 l2 k2 hr2 o2 u ru => ?_⟩⟩
    split at o2
    · split at o2
      · rename_i hj
        obtain rfl := Rep.int_inv rv
        obtain rfl := Rep.int_inv ru
        exact ⟨_, _, rfl, ⟨hj.1.1, hj.1.2, hj.2.1, hj.2.2⟩, o2.here hr2 _ Wk.rng⟩
      · exact o2.elim
    · exact o2.elim
theorem pi_zipM {elts : List Expr} {kk : Nat} {tpos : Pos} (hg : Gl X "zip") (hm : X.mg "zip" = none) (ha : PE X a (tM X.K F U fa)) (hb : PE X b (tM X.K F U fb))
    (hs3 : starEach [a, b] X.env = (false, eval a X.env) :: starEach [b] X.env) (hs4 : starEach [b] X.env = (false, eval b X.env) :: starEach [] X.env) (hpl : (backTo pos (starEach [b] X.env)).any (·.1) = false) :
    PI X (.Tuple elts kk tpos) (.Call (.Name "zip" p) [a, b] [] pos) (iM X.K F U fun env A => bnd (fa env A) fun x A => bnd (fb env A) fun y A => bnd (ofO (zipO x y) A) fun q A => .ok (zip2 q.1 q.2) A) :=
  (RZ.pi_zipA hg hm (pa_cons ha (pa_cons hb pa_nil hs4) hs3) hs3 hpl).imp fun σ H R h => by
    obtain ⟨P, ω, env, A, rfl, hr, er, o⟩ := h
    refine ⟨P, ω, env, A, rfl, hr, er, o.bnd.imp fun d ω1 A1 l k hr1 o1 v rv => ⟨P, ω1, env, A1, rfl, hr1, er.le l, o1.bnd.imp fun e ω2 A2 l2 k2 hr2 o2 u ru => ?_⟩⟩
    obtain ⟨q, e1, o3⟩ := o2.bnd.ofO
    have o4 : Out X.K F U P ω2 (.ok (zip2 q.1 q.2) A2) _ := o3.here hr2
    clear o o1 o2 o3
    have rv := rv.le l2
    unfold zipO at e1
    split at e1
    · cases e1
      obtain ⟨p, vs, rfl, s1, _, r1⟩ := Rep.lst_inv rv
      obtain ⟨p', us, rfl, s2, _, r2⟩ := Rep.lst_inv ru
      exact ⟨p, p', vs, us, rfl, .inl ⟨.inl s1.2, .inl s2.2, o4.here hr2 _ (Wk.pairs rfl (walk_zip rfl) r1 r2 fun ω' l' => ⟨.inl (s1.le l').2, .inl (s2.le l').2⟩)⟩⟩
    · cases e1
      obtain ⟨p, vs, rfl, s1, _, r1⟩ := Rep.tup_inv rv
      obtain ⟨p', us, rfl, s2, _, r2⟩ := Rep.tup_inv ru
      exact ⟨p, p', vs, us, rfl, .inr ⟨s1.sq, s2.sq, o4.here hr2 _ (Wk.pairs rfl (walk_zipT rfl) r1 r2 fun ω' l' => ⟨(s1.le l').sq, (s2.le l').sq⟩)⟩⟩
    · cases e1
end
/-! ### ranges downwards; the keys of a dict that stands -/
theorem down_len : ∀ (n : Nat) (lo : Int), (down lo n).length = n
  | 0, _ => rfl
  | n + 1, lo => by simp [down, down_len n]
theorem down_get : ∀ (n : Nat) (lo : Int) (i : Nat), i < n → (down lo n)[i]? = some (.int (lo + (i : Int) * -1))
  | 0, _, _, h => by omega
  | n + 1, lo, 0, _ => by simp [down]
  | n + 1, lo, i + 1, h => by
    simp only [down, List.getElem?_cons_succ]
    rw [down_get n (lo - 1) i (by omega)]
    congr 2; omega
section
variable {K : PySem.W.Frag} {F : Nat → Addr} {U : Xh} {ω : Wd} {P : Addr → Prop} {A : AH}
theorem Wk.down {lo : Int} {n : Nat} : Wk K F (Itc lo (-1) n) (down lo n) ω := by
  refine ⟨fun ω' l i hi => by rw [down_len] at hi; exact hi, fun ω' l => by rw [down_len]; exact Nat.le_refl n, fun P ω' A i x H' l hr hi y => ?_⟩
  obtain ⟨e1, e2⟩ := y
  rw [down_len] at hi
  exact ⟨_, ω', down_get n lo i hi, e1.symm, Le.refl _, Pk.refl _ _, hr, by rw [e2]; exact .int _⟩
/-- a dict that stands is watched: it does not change while it is walked -/
abbrev Wd.lock (ω : Wd) (a : Addr) (o : Obj) (u : HO) : Wd := { ω with H := upd ω.H a (.frz o u) }
def Dct (u : HO) : Prop := (∃ kvs, u = .dK kvs) ∨ ∃ kvs, u = .dT kvs
theorem Dct.mut {u : HO} (h : Dct u) : Mut (some u) := by rcases h with ⟨_, rfl⟩ | ⟨_, rfl⟩ <;> trivial
theorem Le.lock {a : Addr} {o : Obj} {u : HO} (e : ω.H a = some u) (d : Dct u) : Le ω (ω.lock a o u) := by
  refine ⟨List.prefix_refl _, fun _ _ h => h, fun b v _ r => ?_, fun b h => some_new h, fun b v f h => (upd_ne fun z => ?_).trans h⟩
  · by_cases hb : b = a
    · subst hb
      have : u = v := by
        rcases r with r | ⟨o', r⟩
        · rw [e] at r; cases r; rfl
        · rw [e] at r; cases r
          rcases d with ⟨_, d⟩ | ⟨_, d⟩ <;> cases d
      subst this
      exact .inr ⟨o, upd_same⟩
    · rcases r with r | ⟨o', r⟩
      · exact .inl ((upd_ne hb).trans r)
      · exact .inr ⟨o', (upd_ne hb).trans r⟩
  · subst z
    rw [e] at h; cases h
    rcases d with ⟨_, rfl⟩ | ⟨_, rfl⟩ <;> rcases f with ⟨_, f⟩ | ⟨_, f⟩ <;> cases f
theorem HR.lock (h : HR K F P ω A) {a : Addr} {o : Obj} {u : HO} (e : ω.H a = some u) (d : Dct u) (hw : ¬ ω.W a) : HR K F P (ω.lock a o u) A :=
  ⟨h.len, h.nd, fun b hb => some_new (h.trk b hb), h.sep, fun b hb => some_new (h.ptrk b hb), h.ex, fun n q b hq hm => by
    by_cases hb : b = a
    · subst hb
      cases q with
      | dead => trivial
      | _ => exact (hw ((h.ex b).mpr (.inr ⟨n, _, hm, hq, by simp⟩))).elim
    · exact (h.obj n q b hq hm).le (Le.lock e d) (upd_ne hb)⟩
theorem Pk.lock (h : HR K F P ω A) {a : Addr} {o : Obj} {u : HO} (hw : ¬ ω.W a) : Pk P ω (ω.lock a o u) := fun b hb => upd_ne fun z => hw (z ▸ (h.ex b).mpr (.inl hb))
theorem still_frz {a : Addr} {o : Obj} {u : HO} {ω' : Wd} (d : Dct u) (hw : ¬ ω.W a) (e : ω.H a = some (.frz o u)) (l : Le ω ω') : ω'.H a = some (.frz o u) := by
  rcases l.rd a _ hw (.inl e) with r | ⟨o1, r⟩
  · exact r
  · rcases l.rd a u hw (.inr ⟨o, e⟩) with q | ⟨o2, q⟩
    · rw [r] at q; cases q
    · rw [r] at q; cases q
theorem key_rep {ω : Wd} : ∀ {k : Key}, keyFit k = true → Rep K F ω (keyD k) (kV k)
  | .inl i, _ => .int i
  | .inr s, h => .str s (by rw [sizeLine_eq]; exact of_decide_eq_true h)
theorem keys_rep {ω : Wd} : ∀ {k : List Key}, k.all keyFit = true → Reps K F ω (k.map keyD) (k.map kV)
  | [], _ => .nil
  | x :: k, h => by
    rw [List.all_cons, Bool.and_eq_true] at h
    exact .cons (key_rep h.1) (keys_rep h.2)
theorem Wk.keysK {a : Addr} {o : Obj} {ks : List Key} {vs : List V} (hl : ks.length = vs.length) (hw : ¬ ω.W a) (e : ω.H a = some (.frz o (.dK (ks.zip vs)))) (hk : ks.all keyFit = true) : Wk K F (Itk a o (ks.zip vs)) (ks.map keyD) ω := by
  have hz : (ks.zip vs).length = ks.length := by rw [List.length_zip, hl, Nat.min_self]
  have w := walk_keys (d := a) (o := o) (kvs := ks.zip vs)
  have G := fun ω' (l : Le ω ω') => still_frz (.inl ⟨_, rfl⟩) hw e l
  refine ⟨fun ω' l i hi => w.goes i _ (by rw [hz]; simpa using hi) (G ω' l), fun ω' l => by rw [List.length_map, ← hz]; exact w.stops _ (G ω' l), fun P ω' A i x H' l hr hi y => ?_⟩
  obtain ⟨e1, k, v, h1, rfl⟩ := w.yields i _ x H' (by rw [hz]; simpa using hi) (G ω' l) y
  have hk2 : ks[i]? = some k := by
    rw [List.getElem?_zip_eq_some] at h1; exact h1.1
  exact ⟨keyD k, ω', by rw [List.getElem?_map, hk2]; rfl, e1.symm, Le.refl _, Pk.refl _ _, hr, key_rep (List.all_eq_true.mp hk k (List.mem_of_getElem? hk2))⟩
theorem Wk.keysT {a : Addr} {o : Obj} {ks : List (List Key)} {vs : List V} (hl : ks.length = vs.length) (hw : ¬ ω.W a) (e : ω.H a = some (.frz o (.dT (ks.zip vs)))) (hk : (ks.all fun k => decide (k.length ≤ lim) && k.all keyFit) = true) : Wk K F (Itkt a o (ks.zip vs)) (ks.map fun k => .tup (k.map keyD)) ω := by
  have hz : (ks.zip vs).length = ks.length := by rw [List.length_zip, hl, Nat.min_self]
  have w := walk_keysT (d := a) (o := o) (kvs := ks.zip vs)
  have G := fun ω' (l : Le ω ω') => still_frz (.inr ⟨_, rfl⟩) hw e l
  refine ⟨fun ω' l i hi => w.goes i _ (by rw [hz]; simpa using hi) (G ω' l), fun ω' l => by rw [List.length_map, ← hz]; exact w.stops _ (G ω' l), fun P ω' A i x H' l hr hi y => ?_⟩
  obtain ⟨e1, k, v, q, h1, rfl, h3⟩ := w.yields i _ x H' (by rw [hz]; simpa using hi) (G ω' l) y
  have hk2 : ks[i]? = some k := by
    rw [List.getElem?_zip_eq_some] at h1; exact h1.1
  have h4 := List.all_eq_true.mp hk k (List.mem_of_getElem? hk2)
  rw [Bool.and_eq_true, decide_eq_true_eq] at h4
  exact ⟨.tup (k.map keyD), ω', by rw [List.getElem?_map, hk2]; rfl, e1.symm, Le.refl _, Pk.refl _ _, hr, .tup h3 (by rw [List.length_map, sizeLine_eq]; exact h4.1) (keys_rep h4.2)⟩
end
/-- what walks a dict -/
def iKy (td : TE) : TI := fun σ H R => td σ H fun x H1 => ∃ d, x = .ref d ∧
  ((∃ kvs, (H1 d = some (.dK kvs) ∧ ∀ o, R (Itk d o kvs) (upd H1 d (.frz o (.dK kvs)))) ∨ ∃ o, H1 d = some (.frz o (.dK kvs)) ∧ R (Itk d o kvs) H1) ∨
   (∃ kvs, (H1 d = some (.dT kvs) ∧ ∀ o, R (Itkt d o kvs) (upd H1 d (.frz o (.dT kvs)))) ∨ ∃ o, H1 d = some (.frz o (.dT kvs)) ∧ R (Itkt d o kvs) H1))
section
variable {X : Cx} {F : Nat → Addr} {U : Xh} {a b c tg : Expr} {fa fb fc : Env → AH → Res D} {pos p p2 : Pos}
theorem pi_ky {td : TE} (he : PE X a td) : PI X tg a (iKy td) := by
  refine ⟨fun pins s σ H R I h => thn (he.run pins s σ H _ I h) ?_⟩
  rintro u s1 ⟨x, H1, J, rx, d, rfl, q⟩
  obtain rfl : u = Value.ref d := rx
  have goK : ∀ (kvs : List (Key × V)) (o : Obj) (H2 : Hp), Inv X pins σ H2 s1 → H2 d = some (.frz o (.dK kvs)) → R (Itk d o kvs) H2 → wpAny (model X.prog X.w) X.A (pyIter (.ref d)) (PIE X pins σ tg R) X.xe s1 := fun kvs o H2 J2 hd r => by
    obtain ⟨z, hg, hx, es, ep, vs, hdt, hn, kv, hm⟩ := J2.frzK hd
    exact iter_keys z hg hx hdt (pi_one (tk := s1.toks) J2 _ (turn_keys _ hdt) ⟨_, Heap.get?_push_size _ rfl, rfl, by rw [hn] <;> rfl⟩ r)
  have goT : ∀ (kvs : List (List Key × V)) (o : Obj) (H2 : Hp), Inv X pins σ H2 s1 → H2 d = some (.frz o (.dT kvs)) → R (Itkt d o kvs) H2 → wpAny (model X.prog X.w) X.A (pyIter (.ref d)) (PIE X pins σ tg R) X.xe s1 := fun kvs o H2 J2 hd r => by
    obtain ⟨z, hg, hx, es, ep, hdt, hn, kv⟩ := J2.frzT hd
    exact iter_keys z hg hx hdt (pi_one (tk := s1.toks) J2 _ (turn_keysT _ hdt) ⟨_, Heap.get?_push_size _ rfl, rfl, by rw [hn] <;> rfl⟩ r)
  rcases q with ⟨kvs, ⟨hd, q⟩ | ⟨o, hd, q⟩⟩ | ⟨kvs, ⟨hd, q⟩ | ⟨o, hd, q⟩⟩
  · obtain ⟨o, J2⟩ := J.lock hd trivial
    exact goK kvs o _ J2 upd_same (q o)
  · exact goK kvs o _ J hd q
  · obtain ⟨o, J2⟩ := J.lock hd trivial
    exact goT kvs o _ J2 upd_same (q o)
  · exact goT kvs o _ J hd q
theorem pi_keysM (ha : PE X a (tM X.K F U fa)) : PI X tg a (iM X.K F U fun env A => bnd (fa env A) fun x A => ofO (dkeysO x) A) :=
  (pi_ky ha).imp fun σ H R h => by
    obtain ⟨P, ω, env, A, rfl, hr, er, o⟩ := h
    refine ⟨P, ω, env, A, rfl, hr, er, o.bnd.imp fun d ω1 A1 l k hr1 o1 v rv => ?_⟩
    obtain ⟨xs, e1, o2⟩ := o1.ofO
    unfold dkeysO at e1
    split at e1
    · split at e1
      · rename_i ks ds hk
        cases e1
        cases rv with
        | dk st hl rs =>
          rename_i a vs
          have hl : ks.length = vs.length := hl.trans rs.len
          refine ⟨a, rfl, .inl ⟨ks.zip vs, ?_⟩⟩
          rcases st.2 with e | ⟨ob, e⟩
          · refine .inl ⟨e, fun ob => ?_⟩
            have dc : Dct (.dK (ks.zip vs)) := .inl ⟨_, rfl⟩
            exact o2 (ω1.lock a ob (.dK (ks.zip vs))) (Le.lock e dc) (Pk.lock hr1 st.1) (hr1.lock e dc st.1) _ (Wk.keysK hl st.1 upd_same hk)
          · exact .inr ⟨ob, e, o2.here hr1 _ (Wk.keysK hl st.1 e hk)⟩
      · cases e1
    · split at e1
      · rename_i ks ds hk
        cases e1
        cases rv with
        | dt st hl rs =>
          rename_i a vs
          have hl : ks.length = vs.length := hl.trans rs.len
          refine ⟨a, rfl, .inr ⟨ks.zip vs, ?_⟩⟩
          rcases st.2 with e | ⟨ob, e⟩
          · refine .inl ⟨e, fun ob => ?_⟩
            have dc : Dct (.dT (ks.zip vs)) := .inr ⟨_, rfl⟩
            exact o2 (ω1.lock a ob (.dT (ks.zip vs))) (Le.lock e dc) (Pk.lock hr1 st.1) (hr1.lock e dc st.1) _ (Wk.keysT hl st.1 upd_same hk)
          · exact .inr ⟨ob, e, o2.here hr1 _ (Wk.keysT hl st.1 e hk)⟩
      · cases e1
    · cases e1
theorem pi_rng3M (hg : Gl X "range") (hm : X.mg "range" = none) (ha : PE X a (tM X.K F U fa)) (hb : PE X b (tM X.K F U fb)) (hc : PE X c (tM X.K F U fc))
    (hs1 : starEach [a, b, c] X.env = (false, eval a X.env) :: starEach [b, c] X.env) (hs2 : starEach [b, c] X.env = (false, eval b X.env) :: starEach [c] X.env) (hs3 : starEach [c] X.env = (false, eval c X.env) :: starEach [] X.env) (hpl : (backTo pos (starEach [b, c] X.env)).any (·.1) = false) :
    PI X tg (.Call (.Name "range" p) [a, b, c] [] pos) (iM X.K F U fun env A => bnd (fa env A) fun x A => bnd (fb env A) fun y A => bnd (fc env A) fun z A => match x, y, z with
    | .int i, .int j, .int k => if k = -1 ∧ rngOk i ∧ rngOk j then .ok (down i (i - j).toNat) A else .bad
    | _, _, _ => .bad) :=
  (pi_range3 hg hm (pa_cons ha (pa_cons hb (pa_cons hc pa_nil hs3) hs2) hs1) hs1 hpl).imp fun σ H R h => by
    obtain ⟨P, ω, env, A, rfl, hr, er, o⟩ := h
    refine ⟨P, ω, env, A, rfl, hr, er, o.bnd.imp fun d ω1 A1 l k hr1 o1 v rv => ⟨P, ω1, env, A1, rfl, hr1, er.le l, o1.bnd.imp fun e ω2 A2 l2 k2 hr2 o2 u ru => ⟨P, ω2, env, A2, rfl, hr2, (er.le l).le l2, o2.bnd.imp fun f ω3 A3 l3 k3 hr3 o3 w rw' => ?_⟩⟩⟩
    split at o3
    · split at o3
      · rename_i hj
        obtain ⟨rfl, h1, h2⟩ := hj
        obtain rfl := Rep.int_inv rv
        obtain rfl := Rep.int_inv ru
        obtain rfl := Rep.int_inv rw'
        exact ⟨_, _, _, _, rfl, RgC.neg h1.1 h1.2 h2.1 h2.2, o3.here hr3 _ Wk.down⟩
      · exact o3.elim
    · exact o3.elim
end
end Ev

set_option maxRecDepth 100000
/-! Ev9: comprehensions -/
namespace Ev
open PySem PySem.Spec L2

theorem wipe_get : ∀ (vs : List Nat) (σ : St) (j : Nat), (L2.wipe σ vs)[j]? = if j ∈ vs then σ[j]?.map (fun _ => none) else σ[j]?
  | [], σ, j => by simp [L2.wipe]
  | v :: vs, σ, j => by
    simp only [L2.wipe]
    by_cases e : v = j
    · subst e
      simp only [List.mem_cons, true_or, if_true]
      by_cases h : v < σ.length
      · rw [List.getElem?_set_self (by rw [L2.wipe_length]; exact h), List.getElem?_eq_getElem h]; rfl
      · rw [List.getElem?_eq_none (by rw [List.length_set, L2.wipe_length]; omega), List.getElem?_eq_none (by omega)]; rfl
    · rw [List.getElem?_set_ne e, wipe_get vs σ j]
      have e' : ¬ j = v := fun z => e z.symm
      simp [e']
theorem wipe_but {L own : List Nat} (hL : ∀ j, j ∈ L → j ∈ own) {σ σ' : St} (h : But L (L2.wipe σ own) σ') : L2.wipe σ' own = L2.wipe σ own := by
  refine List.ext_getElem? fun j => ?_
  rw [wipe_get, wipe_get]
  have hl : σ'.length = σ.length := h.1.trans (L2.wipe_length σ own)
  by_cases hj : j ∈ own
  · rw [if_pos hj, if_pos hj]
    by_cases hz : j < σ.length
    · rw [List.getElem?_eq_getElem hz, List.getElem?_eq_getElem (hl ▸ hz)]; rfl
    · rw [List.getElem?_eq_none (by omega), List.getElem?_eq_none (by omega)]
  · rw [if_neg hj, if_neg hj, h.2 j fun z => hj (hL j z), wipe_get, if_neg hj]

section
variable {K : PySem.W.Frag} {F : Nat → Addr} {U : Xh} {P : Addr → Prop} {ω : Wd} {A : AH}
/-- a list that is being made at p -/
abbrev Wd.mk' (ω : Wd) (p : Addr) (u : HO) : Wd := { m := ω.m, W := fun a => ω.W a ∨ a = p, H := upd ω.H p u }
abbrev PD (P : Addr → Prop) (p : Addr) : Addr → Prop := fun a => P a ∨ a = p
theorem Le.mk' (ω : Wd) {p : Addr} {u : HO} (hp : ω.H p = none) : Le ω (ω.mk' p u) :=
  ⟨List.prefix_refl _, fun a h w z => z.elim w (fun e => by subst e; rw [hp] at h; cases h), fun a o _ r => rd_new hp r, fun a h => some_new h, fun a xs _ h => (upd_ne (fun e => by subst e; rw [hp] at h; cases h)).trans h⟩
theorem HR.mk' (h : HR K F P ω A) {p : Addr} {u : HO} (hp : ω.H p = none) : HR K F (PD P p) (ω.mk' p u) A := by
  have hne : ∀ {a}, (ω.H a).isSome = true → a ≠ p := fun {a} z e => by subst e; rw [hp] at z; cases z
  refine ⟨h.len, h.nd, fun a ha => some_new (h.trk a ha), fun a ha z => ?_, fun a ha => ?_, fun a => ⟨?_, ?_⟩, fun n o a ho hm => ?_⟩
  · rcases ha with q | q
    · exact h.sep a q z
    · exact hne (h.trk a z) q
  · rcases ha with q | q
    · exact some_new (h.ptrk a q)
    · subst q; show (upd ω.H a u a).isSome = true; rw [upd_same]; rfl
  · rintro (z | z)
    · rcases (h.ex a).mp z with q | q
      · exact .inl (.inl q)
      · exact .inr q
    · exact .inl (.inr z)
  · rintro ((z | z) | z)
    · exact .inl ((h.ex a).mpr (.inl z))
    · exact .inr z
    · exact .inl ((h.ex a).mpr (.inr z))
  · exact (h.obj n o a ho hm).le (Le.mk' ω hp) (upd_ne (hne (h.trk a (List.mem_of_getElem? hm))))
/-- it grows -/
theorem Le.grow (h : HR K F P ω A) {p : Addr} {xs ys : List V} (hp : P p) (e : ω.H p = some (.lst xs)) : Le ω (ω.chg p (.lst ys)) := by
  have hw : ω.W p := (h.ex p).mpr (.inl hp)
  refine ⟨List.prefix_refl _, fun _ _ z => z, fun a v z r => ?_, fun a z => some_new z, fun a zs f q => (upd_ne fun z => ?_).trans q⟩
  · have hne : a ≠ p := fun e => z (e ▸ hw)
    rcases r with r | ⟨b, r⟩
    · exact .inl ((upd_ne hne).trans r)
    · exact .inr ⟨b, (upd_ne hne).trans r⟩
  · subst z; rw [e] at q; rcases f with ⟨_, rfl⟩ | ⟨_, rfl⟩ <;> cases q
theorem HR.grow (h : HR K F P ω A) {p : Addr} {xs ys : List V} (hp : P p) (e : ω.H p = some (.lst xs)) : HR K F P (ω.chg p (.lst ys)) A :=
  ⟨h.len, h.nd, fun a ha => some_new (h.trk a ha), h.sep, fun a ha => some_new (h.ptrk a ha), h.ex, fun n o a ho hm =>
    (h.obj n o a ho hm).le (Le.grow h hp e) (upd_ne fun z => h.sep p hp (z ▸ List.mem_of_getElem? hm))⟩
/-- it is done: a still list -/
abbrev Wd.done (ω : Wd) (P : Addr → Prop) (A : AH) : Wd := { ω with W := fun a => P a ∨ ∃ (n : Nat) (o : O), ω.m[n]? = some a ∧ A[n]? = some o ∧ o ≠ O.dead }
theorem Le.done {p : Addr} (h : HR K F (PD P p) ω A) : Le ω (ω.done P A) :=
  ⟨List.prefix_refl _, fun a _ z q => z ((h.ex a).mpr (q.imp .inl id)), fun _ _ _ r => r, fun _ z => z, fun _ _ _ e => e⟩
theorem HR.done {p : Addr} (h : HR K F (PD P p) ω A) : HR K F P (ω.done P A) A :=
  ⟨h.len, h.nd, h.trk, fun a ha => h.sep a (.inl ha), fun a ha => h.ptrk a (.inl ha), fun a => Iff.rfl, fun n o a ho hm => (h.obj n o a ho hm).le (Le.done h) rfl⟩
theorem Stl.done {p : Addr} (h : HR K F (PD P p) ω A) (hp : ¬ P p) {u : HO} (e : ω.H p = some u) : Stl (ω.done P A) p u :=
  ⟨fun z => z.elim hp fun ⟨n, o, q, _⟩ => h.sep p (.inr rfl) (List.mem_of_getElem? q), .inl e⟩
/-- it is done: a changing object -/
abbrev Wd.doneO (ω : Wd) (p : Addr) : Wd := { ω with m := ω.m ++ [p] }
theorem Le.doneO (ω : Wd) (p : Addr) : Le ω (ω.doneO p) := ⟨List.prefix_append _ _, fun _ _ z => z, fun _ _ _ r => r, fun _ z => z, fun _ _ _ e => e⟩
theorem HR.doneO {p : Addr} {o : O} (h : HR K F (PD P p) ω A) (hp : ¬ P p) (hd : o ≠ O.dead) (ho : RepO K F (ω.doneO p) o p) : HR K F P (ω.doneO p) (A ++ [o]) := by
  have hpm : p ∉ ω.m := h.sep p (.inr rfl)
  refine ⟨by simp [h.len], ?_, fun a ha => ?_, fun a ha z => ?_, fun a ha => h.ptrk a (.inl ha), fun a => ⟨fun z => ?_, ?_⟩, fun n o' a ho' hm => ?_⟩
  · exact List.nodup_append.mpr ⟨h.nd, by simp, fun a ha b hb => by simp at hb; subst hb; exact fun e => hpm (e ▸ ha)⟩
  · rcases List.mem_append.mp ha with z | z
    · exact h.trk a z
    · simp at z; subst z; exact h.ptrk a (.inr rfl)
  · rcases List.mem_append.mp z with z | z
    · exact h.sep a (.inl ha) z
    · simp at z; subst z; exact hp ha
  · rcases (h.ex a).mp z with (q | q) | ⟨n, o', q1, q2, q3⟩
    · exact .inl q
    · subst q
      exact .inr ⟨ω.m.length, o, by simp, by rw [h.len]; simp, hd⟩
    · exact .inr ⟨n, o', by rw [List.getElem?_append_left (List.getElem?_eq_some_iff.mp q1).1]; exact q1, by rw [List.getElem?_append_left (List.getElem?_eq_some_iff.mp q2).1]; exact q2, q3⟩
  · rintro (z | ⟨n, o', q1, q2, q3⟩)
    · exact (h.ex a).mpr (.inl (.inl z))
    · rcases get_snoc q1 with e1 | ⟨e1, e2⟩
      · rcases get_snoc q2 with e3 | ⟨e3, _⟩
        · exact (h.ex a).mpr (.inr ⟨n, o', e1, e3, q3⟩)
        · have := (List.getElem?_eq_some_iff.mp e1).1; rw [h.len] at this; omega
      · exact (h.ex a).mpr (.inl (.inr e2))
  · rcases get_snoc hm with e1 | ⟨e1, e2⟩
    · rcases get_snoc ho' with e3 | ⟨e3, _⟩
      · exact (h.obj n o' a e3 e1).le (Le.doneO ω p) rfl
      · have := (List.getElem?_eq_some_iff.mp e1).1; rw [h.len] at this; omega
    · rcases get_snoc ho' with e3 | ⟨e3, e4⟩
      · have := (List.getElem?_eq_some_iff.mp e3).1; rw [h.len] at e1; omega
      · subst e4; subst e2; exact ho
end

theorem compL_cons {as : D → Env → AH → Res Env} {cs : Env → AH → Res Bool} {ef : Env → AH → Res D} {env : Env} {x : D} {xs : List D} {A : AH} {rest : List D} {Ae : AH} (h : compL as cs ef env (x :: xs) A = .ok rest Ae) :
    ∃ env1 A1 b A2, as x env A = .ok env1 A1 ∧ cs env1 A1 = .ok b A2 ∧ (b = true → ∃ d A3 r, ef env1 A2 = .ok d A3 ∧ compL as cs ef env xs A3 = .ok r Ae ∧ rest = d :: r) ∧ (b = false → compL as cs ef env xs A2 = .ok rest Ae) := by
  simp only [compL] at h
  obtain ⟨env1, A1, h1, h⟩ := bnd_out h
  obtain ⟨b, A2, h2, h⟩ := bnd_out h
  refine ⟨env1, A1, b, A2, h1, h2, fun e => ?_, fun e => ?_⟩
  · rw [if_pos e] at h
    obtain ⟨d, A3, h3, h⟩ := bnd_out h
    obtain ⟨r, A4, h4, h⟩ := bnd_out h
    cases h
    exact ⟨d, A3, r, h3, h4, rfl⟩
  · rw [if_neg (by simp [e])] at h
    exact h
theorem tLc_M {K : PySem.W.Frag} {F : Nat → Addr} {fi : Env → AH → Res (List D)} {as : D → Env → AH → Res Env} {cs : Env → AH → Res Bool} {ef : Env → AH → Res D} {L own : List Nat} (hL : ∀ j, j ∈ L → j ∈ own) {m : Bool} {σ : St} {H : Hp} {Q : VK}
    (h : tM K F U (fun env A => bnd (fi env A) fun xs A => bnd (calm (compL as cs ef (wipe env own) xs A)) fun ds A =>
      if ds.length ≤ lim then (if m = true then .ok (.ref A.length) (A ++ [.lst ds]) else .ok (.lst ds) A) else .bad) σ H Q) :
    tLc (iM K F U fi) (gM K F U' L as) (tMb K F U' cs) (tM K F U' ef) own σ H Q := by
  obtain ⟨P, ω, env, A, rfl, hr, er, o⟩ := h
  refine ⟨P, ω, env, A, rfl, hr, er, o.bnd.imp fun xs ω1 A1 l k hr1 o1 J wk Dd nD => ?_⟩
  -- what comes of the turns
  obtain ⟨total, Ae, hT, o2⟩ : ∃ total Ae, compL as cs ef (wipe env own) xs A1 = .ok total Ae ∧ Out K F U P ω1 (if total.length ≤ lim then (if m = true then .ok (.ref Ae.length) (Ae ++ [.lst total]) else .ok (.lst total) Ae) else .bad) (fin K F Q) := by
    cases e : compL as cs ef (wipe env own) xs A1 with
    | ok total Ae => rw [e] at o1; exact ⟨total, Ae, rfl, o1⟩
    | exc _ _ _ => rw [e] at o1; exact o1.elim
    | bad => rw [e] at o1; exact o1.elim
  have hlim : total.length ≤ lim := by
    by_cases z : total.length ≤ lim
    · exact z
    · rw [if_neg z] at o2; exact o2.elim
  rw [if_pos hlim] at o2
  have nP : ¬ P Dd := fun z => by have := hr1.ptrk Dd z; rw [nD] at this; cases this
  have er1 := er.le l
  let Pv : Nat → Hp → Prop := fun i H => ∃ ω' A' acc vs rest, ω'.H = H ∧ Le ω1 ω' ∧ Pk P ω1 ω' ∧ HR K F (PD P Dd) ω' A' ∧ ω'.H Dd = some (.lst vs) ∧ Reps K F ω' acc vs ∧
    compL as cs ef (wipe env own) (xs.drop i) A' = .ok rest Ae ∧ acc ++ rest = total
  have start : Pv 0 (upd ω1.H Dd (.lst [])) :=
    ⟨ω1.mk' Dd (.lst []), A1, [], [], total, rfl, Le.mk' ω1 nD, fun a ha => upd_ne fun e => nP (e ▸ ha), hr1.mk' nD, upd_same, .nil, by simpa using hT, rfl⟩
  refine ⟨fun i n H => n = xs.length - i ∧ i ≤ xs.length ∧ Pv i H, ⟨xs.length, by simp, Nat.zero_le _, start⟩, ?_⟩
  rintro i n H ⟨rfl, hi, ω', A', acc, vs, rest, rfl, l', k', hr', hD, racc, hc, ht⟩
  by_cases hlt : i < xs.length
  · refine .inr ⟨wk.goes ω' l' i hlt, Pv (i + 1), fun H' p' => ⟨xs.length - (i + 1), by omega, rfl, hlt, p'⟩, fun x H' y => ?_⟩
    obtain ⟨d, ω3, hd, rfl, l3, k3, hr3, rd⟩ := wk.yields (PD P Dd) ω' A' i x H' l' hr' hlt y
    have hdrop : xs.drop i = d :: xs.drop (i + 1) := by
      have e1 := List.drop_eq_getElem_cons hlt
      rw [List.getElem?_eq_getElem hlt] at hd
      rw [e1, Option.some.inj hd]
    rw [hdrop] at hc
    obtain ⟨env1, A2, b, A3, h1, h2, h3, h4⟩ := compL_cons hc
    refine ⟨PD P Dd, ω3, wipe env own, A', d, rfl, hr3, (((er1.le l').le l3).wipe own), rd, ?_⟩
    rw [h1]
    intro ω4 l4 k4 hr4 σ4 er4 b4
    refine ⟨wipe_but hL b4, PD P Dd, ω4, env1, A2, rfl, hr4, er4, ?_⟩
    rw [h2]
    intro ω5 l5 k5 hr5
    have kk : ∀ {ωz : Wd}, Pk (PD P Dd) ω5 ωz → Pk P ω1 ωz := fun kz a ha => by
      rw [kz a (.inl ha), k5 a (.inl ha), k4 a (.inl ha), k3 a (.inl ha), k' a ha]
    have dd : ω5.H Dd = some (.lst vs) := by rw [k5 Dd (.inr rfl), k4 Dd (.inr rfl), k3 Dd (.inr rfl), hD]
    have l15 := ((l'.trans l3).trans l4).trans l5
    have racc5 := ((racc.le l3).le l4).le l5
    cases b with
    | true =>
      obtain ⟨dv, A4, r, g1, g2, g3⟩ := h3 rfl
      refine ⟨PD P Dd, ω5, env1, A3, rfl, hr5, er4.le l5, ?_⟩
      rw [g1]
      intro ω6 l6 k6 hr6 v rv
      have d6 : ω6.H Dd = some (.lst vs) := by rw [k6 Dd (.inr rfl), dd]
      have hsz : vs.length < sizeLine := by
        rw [← racc5.len, sizeLine_eq]
        have : (acc ++ rest).length ≤ lim := by rw [ht]; exact hlim
        rw [g3, List.length_append, List.length_cons] at this
        show acc.length < 16777216
        have e : lim = 16777216 := rfl
        omega
      have lg := Le.grow (ys := vs ++ [v]) hr6 (.inr rfl) d6
      refine ⟨vs, d6, hsz, ω6.chg Dd (.lst (vs ++ [v])), A4, acc ++ [dv], vs ++ [v], r, rfl, (l15.trans l6).trans lg, fun a ha => ?_, hr6.grow (.inr rfl) d6, upd_same, ((racc5.le l6).app (.cons rv .nil)).le lg, g2, ?_⟩
      · have hne : a ≠ Dd := fun e => nP (e ▸ ha)
        show upd ω6.H Dd (.lst (vs ++ [v])) a = _
        rw [upd_ne hne]
        exact kk k6 a ha
      · rw [List.append_assoc, List.singleton_append, ← g3]; exact ht
    | false =>
      show Pv (i + 1) ω5.H
      exact ⟨ω5, A3, acc, vs, rest, rfl, l15, kk (Pk.refl _ _), hr5, dd, racc5, h4 rfl, ht⟩
  · have e : i = xs.length := by omega
    subst e
    refine .inl ⟨wk.stops ω' l', ?_⟩
    rw [List.drop_length] at hc
    cases hc
    rw [List.append_nil] at ht
    subst ht
    have hv : vs.length ≤ sizeLine := by rw [← racc.len, sizeLine_eq]; exact hlim
    cases m with
    | false =>
      have ld := Le.done hr'
      exact o2 (ω'.done P Ae) (l'.trans ld) k' hr'.done _ (.lst (Stl.done hr' nP hD) hv (racc.le ld))
    | true =>
      have ld := Le.doneO ω' Dd
      refine o2 (ω'.doneO Dd) (l'.trans ld) k' (hr'.doneO nP (by simp) ⟨vs, hD, hv, racc.le ld⟩) _ (.ref ?_)
      rw [← hr'.len]; simp
theorem compL2_cons {as : D → Env → AH → Res Env} {cs : Env → AH → Res Bool} {fi : Env → AH → Res (List D)} {as1 : D → Env → AH → Res Env} {cs1 : Env → AH → Res Bool} {ef : Env → AH → Res D} {own1 : List Nat} {env : Env} {x : D} {xs : List D} {A : AH} {rest : List D} {Ae : AH}
    (h : compL2 as cs fi as1 cs1 ef own1 env (x :: xs) A = .ok rest Ae) :
    ∃ env1 A1 b A2, as x env A = .ok env1 A1 ∧ cs env1 A1 = .ok b A2 ∧ (b = true → ∃ ys A3 ds A4 r, fi env1 A2 = .ok ys A3 ∧ compL as1 cs1 ef (wipe env1 own1) ys A3 = .ok ds A4 ∧ compL2 as cs fi as1 cs1 ef own1 env xs A4 = .ok r Ae ∧ rest = ds ++ r) ∧
      (b = false → compL2 as cs fi as1 cs1 ef own1 env xs A2 = .ok rest Ae) := by
  simp only [compL2] at h
  obtain ⟨env1, A1, h1, h⟩ := bnd_out h
  obtain ⟨b, A2, h2, h⟩ := bnd_out h
  refine ⟨env1, A1, b, A2, h1, h2, fun e => ?_, fun e => ?_⟩
  · rw [if_pos e] at h
    obtain ⟨ys, A3, h3, h⟩ := bnd_out h
    obtain ⟨ds, A4, h4, h⟩ := bnd_out h
    obtain ⟨r, A5, h5, h⟩ := bnd_out h
    cases h
    exact ⟨ys, A3, ds, A4, r, h3, h4, h5, rfl⟩
  · rw [if_neg (by simp [e])] at h
    exact h
theorem tLc2_M {K : PySem.W.Frag} {F : Nat → Addr} {fi fi1 : Env → AH → Res (List D)} {as as1 : D → Env → AH → Res Env} {cs cs1 : Env → AH → Res Bool} {ef : Env → AH → Res D} {L own L1 own1 : List Nat} (hL : ∀ j, j ∈ L → j ∈ own) (hL1 : ∀ j, j ∈ L1 → j ∈ own1) {m : Bool} {σ : St} {H : Hp} {Q : VK}
    (h : tM K F U (fun env A => bnd (fi env A) fun xs A => bnd (calm (compL2 as cs fi1 as1 cs1 ef own1 (wipe env own) xs A)) fun ds A =>
      if ds.length ≤ lim then (if m = true then .ok (.ref A.length) (A ++ [.lst ds]) else .ok (.lst ds) A) else .bad) σ H Q) :
    tLc2 (iM K F U fi) (gM K F U' L as) (tMb K F U' cs) (iM K F U' fi1) (gM K F U' L1 as1) (tMb K F U' cs1) (tM K F U' ef) own own1 σ H Q := by
  obtain ⟨P, ω, env, A, rfl, hr, er, o⟩ := h
  refine ⟨P, ω, env, A, rfl, hr, er, o.bnd.imp fun xs ω1 A1 l k hr1 o1 J wk Dd nD => ?_⟩
  obtain ⟨total, Ae, hT, o2⟩ : ∃ total Ae, compL2 as cs fi1 as1 cs1 ef own1 (wipe env own) xs A1 = .ok total Ae ∧ Out K F U P ω1 (if total.length ≤ lim then (if m = true then .ok (.ref Ae.length) (Ae ++ [.lst total]) else .ok (.lst total) Ae) else .bad) (fin K F Q) := by
    cases e : compL2 as cs fi1 as1 cs1 ef own1 (wipe env own) xs A1 with
    | ok total Ae => rw [e] at o1; exact ⟨total, Ae, rfl, o1⟩
    | exc _ _ _ => rw [e] at o1; exact o1.elim
    | bad => rw [e] at o1; exact o1.elim
  have hlim : total.length ≤ lim := by
    by_cases z : total.length ≤ lim
    · exact z
    · rw [if_neg z] at o2; exact o2.elim
  rw [if_pos hlim] at o2
  have nP : ¬ P Dd := fun z => by have := hr1.ptrk Dd z; rw [nD] at this; cases this
  have er1 := er.le l
  let Pv : Nat → Hp → Prop := fun i H => ∃ ω' A' acc vs rest, ω'.H = H ∧ Le ω1 ω' ∧ Pk P ω1 ω' ∧ HR K F (PD P Dd) ω' A' ∧ ω'.H Dd = some (.lst vs) ∧ Reps K F ω' acc vs ∧
    compL2 as cs fi1 as1 cs1 ef own1 (wipe env own) (xs.drop i) A' = .ok rest Ae ∧ acc ++ rest = total
  have start : Pv 0 (upd ω1.H Dd (.lst [])) :=
    ⟨ω1.mk' Dd (.lst []), A1, [], [], total, rfl, Le.mk' ω1 nD, fun a ha => upd_ne fun e => nP (e ▸ ha), hr1.mk' nD, upd_same, .nil, by simpa using hT, rfl⟩
  refine ⟨fun i n H => n = xs.length - i ∧ i ≤ xs.length ∧ Pv i H, ⟨xs.length, by simp, Nat.zero_le _, start⟩, ?_⟩
  rintro i n H ⟨rfl, hi, ω', A', acc, vs, rest, rfl, l', k', hr', hD, racc, hc, ht⟩
  by_cases hlt : i < xs.length
  · refine .inr ⟨wk.goes ω' l' i hlt, Pv (i + 1), fun H' p' => ⟨xs.length - (i + 1), by omega, rfl, hlt, p'⟩, fun x H' y => ?_⟩
    obtain ⟨d, ω3, hd, rfl, l3, k3, hr3, rd⟩ := wk.yields (PD P Dd) ω' A' i x H' l' hr' hlt y
    have hdrop : xs.drop i = d :: xs.drop (i + 1) := by
      have e1 := List.drop_eq_getElem_cons hlt
      rw [List.getElem?_eq_getElem hlt] at hd
      rw [e1, Option.some.inj hd]
    rw [hdrop] at hc
    obtain ⟨env1, A2, b, A3, h1, h2, h3, h4⟩ := compL2_cons hc
    refine ⟨PD P Dd, ω3, wipe env own, A', d, rfl, hr3, (((er1.le l').le l3).wipe own), rd, ?_⟩
    rw [h1]
    intro ω4 l4 k4 hr4 σ4 er4 b4
    refine ⟨wipe_but hL b4, PD P Dd, ω4, env1, A2, rfl, hr4, er4, ?_⟩
    rw [h2]
    intro ω5 l5 k5 hr5
    have kk : ∀ {ωz : Wd}, Pk (PD P Dd) ω5 ωz → Pk P ω1 ωz := fun kz a ha => by
      rw [kz a (.inl ha), k5 a (.inl ha), k4 a (.inl ha), k3 a (.inl ha), k' a ha]
    have dd : ω5.H Dd = some (.lst vs) := by rw [k5 Dd (.inr rfl), k4 Dd (.inr rfl), k3 Dd (.inr rfl), hD]
    have l15 := ((l'.trans l3).trans l4).trans l5
    have racc5 := ((racc.le l3).le l4).le l5
    cases b with
    | false =>
      show Pv (i + 1) ω5.H
      exact ⟨ω5, A3, acc, vs, rest, rfl, l15, kk (Pk.refl _ _), hr5, dd, racc5, h4 rfl, ht⟩
    | true =>
      obtain ⟨ys, A4, ds, A5, r, g1, g2, g3, g4⟩ := h3 rfl
      refine ⟨PD P Dd, ω5, env1, A3, rfl, hr5, er4.le l5, ?_⟩
      rw [g1]
      intro ω6 l6 k6 hr6 J1 wk1
      let Pw : Nat → Hp → Prop := fun j H => ∃ ω' A' acc vs rest, ω'.H = H ∧ Le ω6 ω' ∧ Pk P ω1 ω' ∧ HR K F (PD P Dd) ω' A' ∧ ω'.H Dd = some (.lst vs) ∧ Reps K F ω' acc vs ∧
        compL as1 cs1 ef (wipe env1 own1) (ys.drop j) A' = .ok rest A5 ∧ acc ++ rest ++ r = total
      have start1 : Pw 0 ω6.H := ⟨ω6, A4, acc, vs, ds, rfl, Le.refl _, kk k6, hr6, by rw [k6 Dd (.inr rfl), dd], racc5.le l6, by simpa using g2, by rw [List.append_assoc, ← g4]; exact ht⟩
      refine ⟨fun j n H => n = ys.length - j ∧ j ≤ ys.length ∧ Pw j H, ⟨ys.length, by simp, Nat.zero_le _, start1⟩, ?_⟩
      rintro j n H ⟨rfl, hj, ωi, Ai, acci, vsi, resti, rfl, li, ki, hri, hDi, racci, hci, hti⟩
      by_cases hlj : j < ys.length
      · refine .inr ⟨wk1.goes ωi li j hlj, Pw (j + 1), fun H' p' => ⟨ys.length - (j + 1), by omega, rfl, hlj, p'⟩, fun x H' y => ?_⟩
        obtain ⟨d1, ω7, hd1, rfl, l7, k7, hr7, rd1⟩ := wk1.yields (PD P Dd) ωi Ai j x H' li hri hlj y
        have hdrop1 : ys.drop j = d1 :: ys.drop (j + 1) := by
          have e1 := List.drop_eq_getElem_cons hlj
          rw [List.getElem?_eq_getElem hlj] at hd1
          rw [e1, Option.some.inj hd1]
        rw [hdrop1] at hci
        obtain ⟨env2, A6, b1, A7, f1, f2, f3, f4⟩ := compL_cons hci
        refine ⟨PD P Dd, ω7, wipe env1 own1, Ai, d1, rfl, hr7, ((((er4.le l5).le l6).le li).le l7).wipe own1, rd1, ?_⟩
        rw [f1]
        intro ω8 l8 k8 hr8 σ8 er8 b8
        refine ⟨wipe_but hL1 b8, PD P Dd, ω8, env2, A6, rfl, hr8, er8, ?_⟩
        rw [f2]
        intro ω9 l9 k9 hr9
        have kk1 : ∀ {ωz : Wd}, Pk (PD P Dd) ω9 ωz → Pk P ω1 ωz := fun kz a ha => by
          rw [kz a (.inl ha), k9 a (.inl ha), k8 a (.inl ha), k7 a (.inl ha), ki a ha]
        have dd1 : ω9.H Dd = some (.lst vsi) := by rw [k9 Dd (.inr rfl), k8 Dd (.inr rfl), k7 Dd (.inr rfl), hDi]
        have l69 := ((li.trans l7).trans l8).trans l9
        have racc9 := ((racci.le l7).le l8).le l9
        cases b1 with
        | false =>
          show Pw (j + 1) ω9.H
          exact ⟨ω9, A7, acci, vsi, resti, rfl, l69, kk1 (Pk.refl _ _), hr9, dd1, racc9, f4 rfl, hti⟩
        | true =>
          obtain ⟨dv, A8, r1, e1, e2, e3⟩ := f3 rfl
          refine ⟨PD P Dd, ω9, env2, A7, rfl, hr9, er8.le l9, ?_⟩
          rw [e1]
          intro ω10 l10 k10 hr10 v rv
          have d10 : ω10.H Dd = some (.lst vsi) := by rw [k10 Dd (.inr rfl), dd1]
          have hsz : vsi.length < sizeLine := by
            rw [← racc9.len, sizeLine_eq]
            have : (acci ++ resti ++ r).length ≤ lim := by rw [hti]; exact hlim
            rw [e3, List.length_append, List.length_append, List.length_cons] at this
            show acci.length < 16777216
            have e : lim = 16777216 := rfl
            omega
          have lg := Le.grow (ys := vsi ++ [v]) hr10 (.inr rfl) d10
          refine ⟨vsi, d10, hsz, ω10.chg Dd (.lst (vsi ++ [v])), A8, acci ++ [dv], vsi ++ [v], r1, rfl, (l69.trans l10).trans lg, fun a ha => ?_, hr10.grow (.inr rfl) d10, upd_same, ((racc9.le l10).app (.cons rv .nil)).le lg, e2, ?_⟩
          · have hne : a ≠ Dd := fun e => nP (e ▸ ha)
            show upd ω10.H Dd (.lst (vsi ++ [v])) a = _
            rw [upd_ne hne]
            exact kk1 k10 a ha
          · rw [← hti, e3]; simp
      · have e : j = ys.length := by omega
        subst e
        refine .inl ⟨wk1.stops ωi li, ?_⟩
        rw [List.drop_length] at hci
        cases hci
        rw [List.append_nil] at hti
        show Pv (i + 1) ωi.H
        exact ⟨ωi, A5, acci, vsi, r, rfl, (l15.trans l6).trans li, ki, hri, hDi, racci, g3, hti⟩
  · have e : i = xs.length := by omega
    subst e
    refine .inl ⟨wk.stops ω' l', ?_⟩
    rw [List.drop_length] at hc
    cases hc
    rw [List.append_nil] at ht
    subst ht
    have hv : vs.length ≤ sizeLine := by rw [← racc.len, sizeLine_eq]; exact hlim
    cases m with
    | false =>
      have ld := Le.done hr'
      exact o2 (ω'.done P Ae) (l'.trans ld) k' hr'.done _ (.lst (Stl.done hr' nP hD) hv (racc.le ld))
    | true =>
      have ld := Le.doneO ω' Dd
      refine o2 (ω'.doneO Dd) (l'.trans ld) k' (hr'.doneO nP (by simp) ⟨vs, hD, hv, racc.le ld⟩) _ (.ref ?_)
      rw [← hr'.len]; simp
end Ev

set_option maxRecDepth 100000
/-! Ev10: statements -/
namespace Ev
open PySem PySem.Spec L2

def finS (K : PySem.W.Frag) (F : Nat → Addr) (D : Ends) : Fl × Env → Wd → AH → Prop := fun p ω' _ => match p.1 with
  | .nx => ∀ σ', EnvR K F ω' p.2 σ' → D.nx σ' ω'.H
  | .ct => ∀ σ', EnvR K F ω' p.2 σ' → D.ct σ' ω'.H
  | .bk => ∀ σ', EnvR K F ω' p.2 σ' → D.bk σ' ω'.H
  | .rt d => ∀ v, Rep K F ω' d v → D.rt v ω'.H
def sM (K : PySem.W.Frag) (F : Nat → Addr) (U : Xh) (f : Env → AH → Res (Fl × Env)) : TS := fun D σ H =>
  ∃ P ω env A, ω.H = H ∧ HR K F P ω A ∧ EnvR K F ω env σ ∧ Out K F U P ω (f env A) (finS K F D)
theorem _root_.L2.PS.imp {X : Cx} {e : Stmt} {t t' : TS} (h : PS X e t) (i : ∀ D σ H, t' D σ H → t D σ H) : PS X e t' := ⟨fun pins s σ H D I q => h.run pins s σ H D I (i D σ H q)⟩
theorem _root_.L2.PSs.imp {X : Cx} {e : List Stmt} {t t' : TS} (h : PSs X e t) (i : ∀ D σ H, t' D σ H → t D σ H) : PSs X e t' := ⟨fun pins s σ H D I q => h.run pins s σ H D I (i D σ H q)⟩
section
variable {X : Cx} {F : Nat → Addr} {U : Xh} {a b c tg e : Expr} {fa fb fc fe : Env → AH → Res D} {pos p p2 : Pos} {st : Stmt} {rest body orelse : List Stmt} {f g : Env → AH → Res (Fl × Env)}
theorem pss_nilM : PSs X [] (sM X.K F U fun env A => .ok (.nx, env) A) := pss_nil.imp fun D σ H h => by
  obtain ⟨P, ω, env, A, rfl, hr, er, o⟩ := h
  exact o.here hr σ er
theorem pss_consM (h1 : PS X st (sM X.K F U f)) (h2 : PSs X rest (sM X.K F U g)) : PSs X (st :: rest) (sM X.K F U fun env A => bnd (f env A) fun q A => match q.1 with
    | .nx => g q.2 A
    | _ => .ok q A) := (pss_cons h1 h2).imp fun D σ H h => by
  obtain ⟨P, ω, env, A, rfl, hr, er, o⟩ := h
  refine ⟨P, ω, env, A, rfl, hr, er, o.bnd.imp fun q ω1 A1 l k hr1 o1 => ?_⟩
  obtain ⟨fl, env1⟩ := q
  cases fl with
  | nx => exact fun σ' er' => ⟨P, ω1, env1, A1, rfl, hr1, er', o1⟩
  | ct => exact fun σ' er' => o1.here hr1 σ' er'
  | bk => exact fun σ' er' => o1.here hr1 σ' er'
  | rt d => exact fun v rv => o1.here hr1 v rv
theorem ps_asgM {L : List Nat} {ga : D → Env → AH → Res Env} (he : PE X e (tM X.K F U fe)) (hg : PG X tg (gM X.K F U L ga)) (hs : swapsWithSole [tg] e pos.line X.env = pure false) (hw : swappedStores [tg] e X.env = pure none)
    (h1 : (assignEach [tg] X.env).map (·.2) = [assign tg X.env]) :
    PS X (.Assign [tg] e pos) (sM X.K F U fun env A => bnd (fe env A) fun d A => bnd (ga d env A) fun env A => .ok (.nx, env) A) := (ps_asg he hg hs hw h1).imp fun D σ H h => by
  obtain ⟨P, ω, env, A, rfl, hr, er, o⟩ := h
  exact ⟨P, ω, env, A, rfl, hr, er, o.bnd.imp fun d ω1 A1 l k hr1 o1 v rv => ⟨P, ω1, env, A1, d, rfl, hr1, er.le l, rv, o1.bnd.imp fun env2 ω2 A2 l2 k2 hr2 o2 σ' er' _ => o2.here hr2 σ' er'⟩⟩
theorem ps_exM (he : PE X e (tM X.K F U fe)) (hs : swapsWith e none pos.line X.env = pure false) : PS X (.Expr e pos) (sM X.K F U fun env A => bnd (fe env A) fun _ A => .ok (.nx, env) A) := (ps_expr he hs).imp fun D σ H h => by
  obtain ⟨P, ω, env, A, rfl, hr, er, o⟩ := h
  exact ⟨P, ω, env, A, rfl, hr, er, o.bnd.imp fun d ω1 A1 l k hr1 o1 v rv => o1.here hr1 σ (er.le l)⟩
theorem ps_retM (he : PE X e (tM X.K F U fe)) : PS X (.Return (some e) pos) (sM X.K F U fun env A => bnd (fe env A) fun d A => .ok (.rt d, env) A) := (ps_ret he).imp fun D σ H h => by
  obtain ⟨P, ω, env, A, rfl, hr, er, o⟩ := h
  exact ⟨P, ω, env, A, rfl, hr, er, o.bnd.imp fun d ω1 A1 l k hr1 o1 v rv => o1.here hr1 v rv⟩
theorem ps_retNM : PS X (.Return none pos) (sM X.K F U fun env A => .ok (.rt .non, env) A) := ps_retN.imp fun D σ H h => by
  obtain ⟨P, ω, env, A, rfl, hr, er, o⟩ := h
  exact o.here hr _ .non
theorem ps_passM : PS X (.Pass pos) (sM X.K F U fun env A => .ok (.nx, env) A) := ps_pass.imp fun D σ H h => by
  obtain ⟨P, ω, env, A, rfl, hr, er, o⟩ := h
  exact o.here hr σ er
theorem ps_brkM : PS X (.Break pos) (sM X.K F U fun env A => .ok (.bk, env) A) := ps_break.imp fun D σ H h => by
  obtain ⟨P, ω, env, A, rfl, hr, er, o⟩ := h
  exact o.here hr σ er
theorem ps_cntM : PS X (.Continue pos) (sM X.K F U fun env A => .ok (.ct, env) A) := ps_continue.imp fun D σ H h => by
  obtain ⟨P, ω, env, A, rfl, hr, er, o⟩ := h
  exact o.here hr σ er
theorem ps_neverM : PS X st (sM X.K F U fun _ _ => .bad) := ps_never.imp fun D σ H h => by
  obtain ⟨P, ω, env, A, rfl, hr, er, o⟩ := h
  exact o
theorem ps_iffM (hc : PT X c (tMb X.K F U (fT fc))) (ha : PSs X body (sM X.K F U f)) (hb : PSs X orelse (sM X.K F U g)) : PS X (.If c body orelse pos) (sM X.K F U fun env A => bnd (tst (fc env A)) fun t A => if t = true then f env A else g env A) := (ps_if hc ha hb).imp fun D σ H h => by
  obtain ⟨P, ω, env, A, rfl, hr, er, o⟩ := h
  refine ⟨P, ω, env, A, rfl, hr, er, o.bnd.imp fun t ω1 A1 l k hr1 o1 => ?_⟩
  cases t with
  | true => exact ⟨P, ω1, env, A1, rfl, hr1, er.le l, o1⟩
  | false => exact ⟨P, ω1, env, A1, rfl, hr1, er.le l, o1⟩
theorem ps_whlM {n : Nat} (hp : PassesOwn (model X.prog X.w) X.A X.env X.xe) (hc : PT X c (tMb X.K F U (fT fc))) (hb : PSs X body (sM X.K F U f)) :
    PS X (.While c body [] pos) (sM X.K F U fun env A => whlL (fun env A => tst (fc env A)) f n env A) := (ps_while hp hc hb).imp fun D σ H h => by
  obtain ⟨P, ω, env, A, rfl, hr, er, o⟩ := h
  refine ⟨fun n σ H => ∃ ω env A, ω.H = H ∧ HR X.K F P ω A ∧ EnvR X.K F ω env σ ∧ Out X.K F U P ω (whlL (fun env A => tst (fc env A)) f n env A) (finS X.K F D), ⟨n, ω, env, A, rfl, hr, er, o⟩, ?_⟩
  rintro n σ H ⟨ω, env, A, rfl, hr, er, o⟩
  cases n with
  | zero => exact o.elim
  | succ n =>
    refine ⟨P, ω, env, A, rfl, hr, er, o.bnd.imp fun t ω1 A1 l k hr1 o1 => ?_⟩
    cases t with
    | false => exact o1.here hr1 σ (er.le l)
    | true =>
      refine ⟨fun σ' H' => ∃ ω env A, ω.H = H' ∧ HR X.K F P ω A ∧ EnvR X.K F ω env σ' ∧ Out X.K F U P ω (whlL (fun env A => tst (fc env A)) f n env A) (finS X.K F D), fun σ' H' q => ⟨n, Nat.lt_succ_self n, q⟩, P, ω1, env, A1, rfl, hr1, er.le l, o1.bnd.imp fun q ω2 A2 l2 k2 hr2 o2 => ?_⟩
      obtain ⟨fl, env2⟩ := q
      cases fl with
      | nx => exact fun σ' er' => ⟨ω2, env2, A2, rfl, hr2, er', o2⟩
      | ct => exact fun σ' er' => ⟨ω2, env2, A2, rfl, hr2, er', o2⟩
      | bk => exact fun σ' er' => o2.here hr2 σ' er'
      | rt d => exact fun v rv => o2.here hr2 v rv
theorem ps_forM {L : List Nat} {iter : Expr} {fi : Env → AH → Res (List D)} {ga : D → Env → AH → Res Env} (hp : PassesOwn (model X.prog X.w) X.A X.env X.xe) (hc : X.calm = true) (hi : PI X tg iter (iM X.K F U fi)) (hg : PG X tg (gM X.K F U L ga)) (hb : PSs X body (sM X.K F U f))
    (hs : ∀ x, foldedSetIterable iter X.env x = pure x) : PS X (.For tg iter body [] pos) (sM X.K F U fun env A => bnd (fi env A) fun xs A => forL ga f xs env A) := (ps_for hp hc hi hg hb hs).imp fun D σ H h => by
  obtain ⟨P, ω, env, A, rfl, hr, er, o⟩ := h
  refine ⟨P, ω, env, A, rfl, hr, er, o.bnd.imp fun xs ω1 A1 l k hr1 o1 J wk => ?_⟩
  let Pv : Nat → St → Hp → Prop := fun i σ H => ∃ ω' env' A', ω'.H = H ∧ Le ω1 ω' ∧ HR X.K F P ω' A' ∧ EnvR X.K F ω' env' σ ∧ Out X.K F U P ω' (forL ga f (xs.drop i) env' A') (finS X.K F D)
  refine ⟨fun i m σ H => m = xs.length - i ∧ i ≤ xs.length ∧ Pv i σ H, ⟨xs.length, by simp, Nat.zero_le _, ω1, env, A1, rfl, Le.refl _, hr1, er.le l, by simpa using o1⟩, ?_⟩
  rintro i n σ' H ⟨rfl, hi, ω', env', A', rfl, l', hr', er', o'⟩
  by_cases hlt : i < xs.length
  · refine .inr ⟨wk.goes ω' l' i hlt, Pv (i + 1), fun σ' H' p' => ⟨xs.length - (i + 1), by omega, rfl, hlt, p'⟩, fun x H' y => ?_⟩
    obtain ⟨d, ω3, hd, rfl, l3, k3, hr3, rd⟩ := wk.yields P ω' A' i x H' l' hr' hlt y
    have hdrop : xs.drop i = d :: xs.drop (i + 1) := by
      have e1 := List.drop_eq_getElem_cons hlt
      rw [List.getElem?_eq_getElem hlt] at hd
      rw [e1, Option.some.inj hd]
    rw [hdrop] at o'
    have o3 := Out.le l3 k3 o'
    refine ⟨P, ω3, env', A', d, rfl, hr3, er'.le l3, rd, o3.bnd.imp fun env1 ω4 A2 l4 k4 hr4 o4 σ4 er4 _ => ⟨P, ω4, env1, A2, rfl, hr4, er4, o4.bnd.imp fun q ω5 A3 l5 k5 hr5 o5 => ?_⟩⟩
    have l15 := ((l'.trans l3).trans l4).trans l5
    obtain ⟨fl, env5⟩ := q
    cases fl with
    | nx => exact fun σ5 er5 => ⟨ω5, env5, A3, rfl, l15, hr5, er5, o5⟩
    | ct => exact fun σ5 er5 => ⟨ω5, env5, A3, rfl, l15, hr5, er5, o5⟩
    | bk => exact fun σ5 er5 => o5.here hr5 σ5 er5
    | rt d => exact fun v rv => o5.here hr5 v rv
  · have e : i = xs.length := by omega
    subst e
    rw [List.drop_length] at o'
    exact .inl ⟨wk.stops ω' l', o'.here hr' σ' er'⟩

/-! ### two, three names at once -/
theorem ps_par2M {i j : Nat} {x y : Str} {px py pt : Pos} {kt k2 pt2} {fs : Env → AH → Res (List D)} (hc : X.calm = true) (hN : X.N.Nodup) (hi : X.N[i]? = some x) (hj : X.N[j]? = some y) (hij : i ≠ j)
    (hx : X.env.scope.names.lookup x = some .local) (hy : X.env.scope.names.lookup y = some .local) (ha : PA X [a, b] (tMs X.K F U fs))
    (hw : swappedStores [.Tuple [.Name x px, .Name y py] kt pt] (.Tuple [a, b] k2 pt2) X.env = pure (some [x, y]))
    (hs : swapsWithSole [.Tuple [.Name x px, .Name y py] kt pt] (.Tuple [a, b] k2 pt2) pos.line X.env = pure false) (hl : ∀ env A ds A', fs env A = .ok ds A' → ds.length = 2) :
    PS X (.Assign [.Tuple [.Name x px, .Name y py] kt pt] (.Tuple [a, b] k2 pt2) pos) (sM X.K F U fun env A => bnd (fs env A) fun ds A => if ds.length = [i, j].length then .ok (.nx, setPar [i, j] ds env) A else .bad) := by
  refine PS.imp (t := tPar i j (tMs X.K F U fs)) (by first | exact ps_par hc hN hi hj hij hx hy ha hw hs | exact ps_par hc hN hi hj hij hx hy ha hs hw | exact ps_par hc hN hi hj hij hx hy ha hw) fun D σ H h => ?_
  obtain ⟨P, ω, env, A, rfl, hr, er, o⟩ := h
  refine ⟨P, ω, env, A, rfl, hr, er, ?_⟩
  cases e : fs env A with
  | ok ds A' =>
    dsimp only at o
    rw [e] at o
    have el := hl _ _ _ _ e
    intro ω1 l k hr1 vs rvs
    match ds, vs, rvs, el with
    | [d1, d2], _, .cons (v := v1) r1 (.cons (v := v2) r2 .nil), _ =>
      exact ⟨v1, v2, rfl, (Out.le l k o).here hr1 _ (((er.le l).set i r1).set j r2)⟩
  | exc _ _ _ => dsimp only at o; rw [e] at o; exact o
  | bad => dsimp only at o; rw [e] at o; exact o.elim
theorem ps_par3M {i j n : Nat} {x y z : Str} {px py pz pt : Pos} {kt k2 pt2} {fs : Env → AH → Res (List D)} (hc : X.calm = true) (hN : X.N.Nodup) (hi : X.N[i]? = some x) (hj : X.N[j]? = some y) (hn : X.N[n]? = some z) (hij : i ≠ j) (hin : i ≠ n) (hjn : j ≠ n)
    (hx : X.env.scope.names.lookup x = some .local) (hy : X.env.scope.names.lookup y = some .local) (hz : X.env.scope.names.lookup z = some .local) (ha : PA X [a, b, c] (tMs X.K F U fs))
    (hw : swappedStores [.Tuple [.Name x px, .Name y py, .Name z pz] kt pt] (.Tuple [a, b, c] k2 pt2) X.env = pure (some [x, y, z]))
    (hs : swapsWithSole [.Tuple [.Name x px, .Name y py, .Name z pz] kt pt] (.Tuple [a, b, c] k2 pt2) pos.line X.env = pure false) (hl : ∀ env A ds A', fs env A = .ok ds A' → ds.length = 3) :
    PS X (.Assign [.Tuple [.Name x px, .Name y py, .Name z pz] kt pt] (.Tuple [a, b, c] k2 pt2) pos) (sM X.K F U fun env A => bnd (fs env A) fun ds A => if ds.length = [i, j, n].length then .ok (.nx, setPar [i, j, n] ds env) A else .bad) := by
  refine PS.imp (t := tPar3 i j n (tMs X.K F U fs)) (ps_par3 hc hN hi hj hn hij hin hjn hx hy hz ha hw hs) fun D σ H h => ?_
  obtain ⟨P, ω, env, A, rfl, hr, er, o⟩ := h
  refine ⟨P, ω, env, A, rfl, hr, er, ?_⟩
  cases e : fs env A with
  | ok ds A' =>
    dsimp only at o
    rw [e] at o
    have el := hl _ _ _ _ e
    intro ω1 l k hr1 vs rvs
    match ds, vs, rvs, el with
    | [d1, d2, d3], _, .cons (v := v1) r1 (.cons (v := v2) r2 (.cons (v := v3) r3 .nil)), _ =>
      exact ⟨v1, v2, v3, rfl, (Out.le l k o).here hr1 _ ((((er.le l).set i r1).set j r2).set n r3)⟩
  | exc _ _ _ => dsimp only at o; rw [e] at o; exact o
  | bad => dsimp only at o; rw [e] at o; exact o.elim
end

/-! ### an object is given up -/
section
variable {K : PySem.W.Frag} {F : Nat → Addr} {U : Xh} {P : Addr → Prop} {ω : Wd} {A : AH}
theorem kill_get : ∀ (L : List Nat) (A : AH) (n : Nat), (killAll L A)[n]? = if n ∈ L then A[n]?.map (fun _ => O.dead) else A[n]?
  | [], A, n => by simp [killAll]
  | m :: L, A, n => by
    simp only [killAll]
    rw [kill_get L (A.set m .dead) n]
    by_cases e : m = n
    · subst e
      simp only [List.mem_cons, true_or, if_true]
      by_cases h : m < A.length
      · rw [List.getElem?_set_self h, List.getElem?_eq_getElem h]; split <;> rfl
      · rw [List.getElem?_eq_none (by simp; omega), List.getElem?_eq_none (by omega)]; split <;> rfl
    · rw [List.getElem?_set_ne e]
      have e' : ¬ n = m := fun z => e z.symm
      simp [e']
theorem kill_len : ∀ (L : List Nat) (A : AH), (killAll L A).length = A.length
  | [], _ => rfl
  | m :: L, A => by simp only [killAll]; rw [kill_len L]; simp
mutual
theorem Rep.atom {ω' : Wd} : ∀ {d : D} {v : V}, d.atom = true → Rep K F ω d v → Rep K F ω' d v
  | _, _, _, .non => .non
  | _, _, _, .bl b => .bl b
  | _, _, _, .int i => .int i
  | _, _, _, .str s h => .str s h
  | _, _, h, .tup _ _ _ => by simp [D.atom] at h
  | _, _, h, .lst _ _ _ => by simp [D.atom] at h
  | _, _, h, .kl _ _ _ => by simp [D.atom] at h
  | _, _, h, .dk _ _ _ => by simp [D.atom] at h
  | _, _, h, .dt _ _ _ => by simp [D.atom] at h
  | _, _, h, .ref _ => by simp [D.atom] at h
  | _, _, h, .fn _ _ => by simp [D.atom] at h
  | _, _, h, .ty _ => by simp [D.atom] at h
  | _, _, h, .exn _ _ _ _ _ => by simp [D.atom] at h
  | _, _, h, .exn0 _ _ _ => by simp [D.atom] at h
end
theorem Reps.atom {ω' : Wd} : ∀ {d : List D} {v : List V}, d.all D.atom = true → Reps K F ω d v → Reps K F ω' d v
  | _, _, _, .nil => .nil
  | _, _, h, .cons r rs => by
    simp only [List.all_cons, Bool.and_eq_true] at h
    exact .cons (r.atom h.1) (Reps.atom h.2 rs)
/-- what fz makes, in a world that knows less of what changes -/
theorem fzL_rep {f : D → Option (D × List Nat)} {m' : List Addr} {W' : Addr → Prop} (hf : ∀ d v d' L, f d = some (d', L) → (∀ n ∈ L, ∀ a, ω.m[n]? = some a → ¬ W' a) → Rep K F ω d v → Rep K F ⟨m', W', ω.H⟩ d' v) :
    ∀ {xs : List D} {vs : List V} {ys : List D} {L : List Nat}, fzL f xs = some (ys, L) → (∀ n ∈ L, ∀ a, ω.m[n]? = some a → ¬ W' a) → Reps K F ω xs vs → Reps K F ⟨m', W', ω.H⟩ ys vs
  | [], _, ys, L, h, hL, .nil => by simp [fzL] at h; obtain ⟨rfl, rfl⟩ := h; exact .nil
  | x :: xs, _, ys, L, h, hL, .cons r rs => by
    simp only [fzL] at h
    cases e1 : f x with
    | none => rw [e1] at h; cases h
    | some q =>
      cases e2 : fzL f xs with
      | none => rw [e1, e2] at h; cases h
      | some q2 =>
        obtain ⟨d, l⟩ := q
        obtain ⟨ds, ls⟩ := q2
        rw [e1, e2] at h
        cases h
        exact .cons (hf x _ d l e1 (fun n hn => hL n (List.mem_append_left _ hn)) r) (fzL_rep hf e2 (fun n hn => hL n (List.mem_append_right _ hn)) rs)
theorem fzL_len {f : D → Option (D × List Nat)} : ∀ {xs ys : List D} {L : List Nat}, fzL f xs = some (ys, L) → ys.length = xs.length
  | [], ys, L, h => by simp [fzL] at h; obtain ⟨rfl, rfl⟩ := h; rfl
  | x :: xs, ys, L, h => by
    simp only [fzL] at h
    cases e1 : f x with
    | none => rw [e1] at h; cases h
    | some q =>
      cases e2 : fzL f xs with
      | none => rw [e1, e2] at h; cases h
      | some q2 =>
        obtain ⟨d, l⟩ := q
        obtain ⟨ds, ls⟩ := q2
        rw [e1, e2] at h
        cases h
        simp [fzL_len e2]
theorem fz_rep (hr : HR K F P ω A) {m' : List Addr} {W' : Addr → Prop} (hW : ∀ a, W' a → ω.W a) : ∀ (k : Nat) (d : D) (v : V) (d' : D) (L : List Nat), fz A k d = some (d', L) → (∀ n ∈ L, ∀ a, ω.m[n]? = some a → ¬ W' a) → Rep K F ω d v → Rep K F ⟨m', W', ω.H⟩ d' v
  | 0, d, v, d', L, h, _, _ => by simp [fz] at h
  | k + 1, d, v, d', L, h, hL, r => by
    have ih := fun {xs vs ys L} => fzL_rep (xs := xs) (vs := vs) (ys := ys) (L := L) (fz_rep hr hW (m' := m') k)
    have st : ∀ {a u}, Stl ω a u → Stl ⟨m', W', ω.H⟩ a u := fun q => ⟨fun z => q.1 (hW _ z), q.2⟩
    cases r with
    | non => cases h; exact .non
    | bl b => cases h; exact .bl b
    | int i => cases h; exact .int i
    | str s hs => cases h; exact .str s hs
    | fn i hi => cases h; exact .fn i hi
    | exn _ _ _ _ _ => simp [fz] at h
    | exn0 _ _ _ => simp [fz] at h
    | ty t => cases h; exact .ty t
    | kl s l rs =>
      simp only [fz, Option.map_eq_some_iff] at h
      obtain ⟨⟨ys, L'⟩, h1, h2⟩ := h
      cases h2
      exact .kl (s.imp st id) l (ih h1 hL rs)
    | tup s l rs =>
      simp only [fz, Option.map_eq_some_iff] at h
      obtain ⟨⟨ys, L'⟩, h1, h2⟩ := h
      cases h2
      exact .tup s l (ih h1 hL rs)
    | lst s l rs =>
      simp only [fz, Option.map_eq_some_iff] at h
      obtain ⟨⟨ys, L'⟩, h1, h2⟩ := h
      cases h2
      exact .lst (st s) l (ih h1 hL rs)
    | dk s l rs =>
      simp only [fz, Option.map_eq_some_iff] at h
      obtain ⟨⟨ys, L'⟩, h1, h2⟩ := h
      cases h2
      exact .dk (st s) (l.trans (fzL_len h1).symm) (ih h1 hL rs)
    | dt s l rs =>
      simp only [fz, Option.map_eq_some_iff] at h
      obtain ⟨⟨ys, L'⟩, h1, h2⟩ := h
      cases h2
      exact .dt (st s) (l.trans (fzL_len h1).symm) (ih h1 hL rs)
    | ref hm =>
      rename_i n a
      simp only [fz] at h
      cases e : A[n]? with
      | none => rw [e] at h; cases h
      | some o =>
        rw [e] at h
        have q := hr.obj n o a e hm
        cases o with
        | lst xs =>
          obtain ⟨vs, h1, h2, h3⟩ := q
          simp only [Option.map_eq_some_iff] at h
          obtain ⟨⟨ys, L'⟩, g1, g2⟩ := h
          cases g2
          exact .lst ⟨hL n List.mem_cons_self a hm, .inl h1⟩ h2 (ih g1 (fun n' hn' => hL n' (List.mem_cons_of_mem _ hn')) h3)
        | dk ks xs =>
          obtain ⟨vs, h1, h2, h3⟩ := q
          simp only [Option.map_eq_some_iff] at h
          obtain ⟨⟨ys, L'⟩, g1, g2⟩ := h
          cases g2
          exact .dk ⟨hL n List.mem_cons_self a hm, .inl h1⟩ (h2.trans (fzL_len g1).symm) (ih g1 (fun n' hn' => hL n' (List.mem_cons_of_mem _ hn')) h3)
        | dt ks xs =>
          obtain ⟨vs, h1, h2, h3⟩ := q
          simp only [Option.map_eq_some_iff] at h
          obtain ⟨⟨ys, L'⟩, g1, g2⟩ := h
          cases g2
          exact .dt ⟨hL n List.mem_cons_self a hm, .inl h1⟩ (h2.trans (fzL_len g1).symm) (ih g1 (fun n' hn' => hL n' (List.mem_cons_of_mem _ hn')) h3)
        | dead => cases h
end
end Ev

set_option maxRecDepth 100000
/-! Ev11: objects given up: at a ghost step, at a def's end -/
namespace Ev
open PySem PySem.Spec L2
section
variable {K : PySem.W.Frag} {F : Nat → Addr} {U : Xh} {P : Addr → Prop} {ω ω2 : Wd} {A A2 : AH}
/-- what still may change, by A -/
abbrev Live (P : Addr → Prop) (m : List Addr) (A : AH) : Addr → Prop := fun a => P a ∨ ∃ (n : Nat) (o : O), m[n]? = some a ∧ A[n]? = some o ∧ o ≠ O.dead
abbrev Wd.kill (ω : Wd) (P : Addr → Prop) (A' : AH) : Wd := { ω with W := Live P ω.m A' }
theorem kill_live {L : List Nat} {n : Nat} {o : O} (h : (killAll L A)[n]? = some o) (hd : o ≠ O.dead) : n ∉ L ∧ A[n]? = some o := by
  rw [kill_get] at h
  by_cases hn : n ∈ L
  · rw [if_pos hn] at h
    cases e : A[n]? with
    | none => rw [e] at h; cases h
    | some q => rw [e] at h; cases h; exact absurd rfl hd
  · rw [if_neg hn] at h; exact ⟨hn, h⟩
theorem kill_W (h : HR K F P ω A) {L : List Nat} {a : Addr} (z : (ω.kill P (killAll L A)).W a) : ω.W a := by
  rcases z with z | ⟨n, o, q1, q2, q3⟩
  · exact (h.ex a).mpr (.inl z)
  · exact (h.ex a).mpr (.inr ⟨n, o, q1, (kill_live q2 q3).2, q3⟩)
theorem Le.kill (h : HR K F P ω A) (L : List Nat) : Le ω (ω.kill P (killAll L A)) :=
  ⟨List.prefix_refl _, fun a _ z q => z (kill_W h q), fun _ _ _ r => r, fun _ z => z, fun _ _ _ e => e⟩
theorem HR.kill (h : HR K F P ω A) (L : List Nat) : HR K F P (ω.kill P (killAll L A)) (killAll L A) :=
  ⟨by rw [kill_len]; exact h.len, h.nd, h.trk, h.sep, h.ptrk, fun _ => Iff.rfl, fun n o a ho hm => by
    by_cases e : o = O.dead
    · subst e; trivial
    · exact (h.obj n o a (kill_live ho e).2 hm).le (Le.kill h L) rfl⟩
theorem Rep.kill (h : HR K F P ω A) {k : Nat} {d d' : D} {L : List Nat} {v : V} (e : fz A k d = some (d', L)) (r : Rep K F ω d v) : Rep K F (ω.kill P (killAll L A)) d' v := by
  refine fz_rep h (W' := Live P ω.m (killAll L A)) (fun a z => kill_W h z) k d v d' L e (fun n hn a hm z => ?_) r
  rcases z with z | ⟨n', o, q1, q2, q3⟩
  · exact h.sep a z (List.mem_of_getElem? hm)
  · have e1 : n = n' := nodup_get h.nd hm q1
    subst e1
    exact (kill_live q2 q3).1 hn
/-- the ghost step -/
theorem frz_M {i : Nat} {g : Env → AH → Res (Fl × Env)} {D : Ends} {σ : St} {H : Hp} (h : sM K F U (fun env A => bnd (match env[i]? with
    | some (some d) => match fz A 8 d with
      | some (d', L) => (.ok (.nx, env.set i (some d')) (killAll L A) : Res (Fl × Env))
      | none => .bad
    | _ => .bad) fun q A => match q.1 with
    | .nx => g q.2 A
    | _ => .ok q A) D σ H) : sM K F U g D σ H := by
  obtain ⟨P, ω, env, A, rfl, hr, er, o⟩ := h
  dsimp only at o
  split at o
  · rename_i d e1
    split at o
    · rename_i d' L e2
      refine ⟨P, ω.kill P (killAll L A), env.set i (some d'), killAll L A, rfl, hr.kill L, ⟨?_, fun j e hj => ?_⟩, Out.le (Le.kill hr L) (fun _ _ => rfl) o⟩
      · rw [List.length_set]; exact er.len
      · by_cases hij : i = j
        · subst hij
          have hl : i < env.length := (List.getElem?_eq_some_iff.mp e1).1
          rw [List.getElem?_set_self hl] at hj
          cases hj
          obtain ⟨v, h1, h2⟩ := er.at' i d e1
          exact ⟨v, h1, h2.kill hr e2⟩
        · rw [List.getElem?_set_ne hij] at hj
          exact (er.le (Le.kill hr L)).at' j e hj
    · exact o.elim
  · exact o.elim

/-! ### the end of a def -/
mutual
/-- the objects that d names are among the first k -/
def D.rl (k : Nat) : D → Bool
  | .ref n => decide (n < k)
  | .tup xs => D.rls k xs
  | .lst xs => D.rls k xs
  | .kl xs => D.rls k xs
  | .dk _ xs => D.rls k xs
  | .dt _ xs => D.rls k xs
  | .exn _ x => D.rl k x
  | _ => true
def D.rls (k : Nat) : List D → Bool
  | [] => true
  | x :: xs => D.rl k x && D.rls k xs
end
mutual
theorem Rep.rl : ∀ {d : D} {v : V}, Rep K F ω d v → D.rl ω.m.length d = true
  | _, _, .non => rfl
  | _, _, .bl b => rfl
  | _, _, .int i => rfl
  | _, _, .str s h => rfl
  | _, _, .tup _ _ r => by simp only [D.rl]; exact Reps.rl r
  | _, _, .lst _ _ r => by simp only [D.rl]; exact Reps.rl r
  | _, _, .kl _ _ r => by simp only [D.rl]; exact Reps.rl r
  | _, _, .dk _ _ r => by simp only [D.rl]; exact Reps.rl r
  | _, _, .dt _ _ r => by simp only [D.rl]; exact Reps.rl r
  | _, _, .ref h => by simp only [D.rl]; exact decide_eq_true (List.getElem?_eq_some_iff.mp h).1
  | _, _, .fn i _ => rfl
  | _, _, .ty t => rfl
  | _, _, .exn _ _ _ _ r => by simp only [D.rl]; exact Rep.rl r
  | _, _, .exn0 _ _ _ => rfl
theorem Reps.rl : ∀ {d : List D} {v : List V}, Reps K F ω d v → D.rls ω.m.length d = true
  | _, _, .nil => rfl
  | _, _, .cons r rs => by simp only [D.rls, Bool.and_eq_true]; exact ⟨Rep.rl r, Reps.rl rs⟩
end
/-- fewer objects -/
abbrev Wd.less (ω : Wd) (k : Nat) (P : Addr → Prop) (A : AH) : Wd := { ω with m := ω.m.take k, W := Live P (ω.m.take k) (A.take k) }
theorem take_get {α : Type} {l : List α} {k n : Nat} {x : α} (h : (l.take k)[n]? = some x) : n < k ∧ l[n]? = some x := by
  rw [List.getElem?_take] at h
  split at h
  · exact ⟨by assumption, h⟩
  · cases h
theorem less_W (h : HR K F P ω A) {k : Nat} {a : Addr} (z : (ω.less k P A).W a) : ω.W a := by
  rcases z with z | ⟨n, o, q1, q2, q3⟩
  · exact (h.ex a).mpr (.inl z)
  · exact (h.ex a).mpr (.inr ⟨n, o, (take_get q1).2, (take_get q2).2, q3⟩)
mutual
theorem Rep.less {k : Nat} {m' : List Addr} {W' : Addr → Prop} (hm : m' = ω.m.take k) (hW : ∀ a, W' a → ω.W a) : ∀ {d : D} {v : V}, D.rl k d = true → Rep K F ω d v → Rep K F ⟨m', W', ω.H⟩ d v
  | _, _, _, .non => .non
  | _, _, _, .bl b => .bl b
  | _, _, _, .int i => .int i
  | _, _, _, .str s h => .str s h
  | _, _, e, .tup h z r => .tup h z (Reps.less hm hW (by simpa only [D.rl] using e) r)
  | _, _, e, .lst h z r => .lst ⟨fun q => h.1 (hW _ q), h.2⟩ z (Reps.less hm hW (by simpa only [D.rl] using e) r)
  | _, _, e, .kl h z r => .kl (h.imp (fun h => ⟨fun q => h.1 (hW _ q), h.2⟩) id) z (Reps.less hm hW (by simpa only [D.rl] using e) r)
  | _, _, e, .dk h z r => .dk ⟨fun q => h.1 (hW _ q), h.2⟩ z (Reps.less hm hW (by simpa only [D.rl] using e) r)
  | _, _, e, .dt h z r => .dt ⟨fun q => h.1 (hW _ q), h.2⟩ z (Reps.less hm hW (by simpa only [D.rl] using e) r)
  | .ref n, _, e, .ref h => .ref (by
      have e1 : n < k := by simpa only [D.rl, decide_eq_true_eq] using e
      show m'[n]? = _
      rw [hm, List.getElem?_take_of_lt e1]; exact h)
  | _, _, _, .fn i h => .fn i h
  | _, _, _, .ty t => .ty t
  | _, _, e, .exn hF hc hf h r => .exn hF hc hf h (Rep.less hm hW (by simpa only [D.rl] using e) r)
  | _, _, _, .exn0 hF hc hf => .exn0 hF hc hf
theorem Reps.less {k : Nat} {m' : List Addr} {W' : Addr → Prop} (hm : m' = ω.m.take k) (hW : ∀ a, W' a → ω.W a) : ∀ {d : List D} {v : List V}, D.rls k d = true → Reps K F ω d v → Reps K F ⟨m', W', ω.H⟩ d v
  | _, _, _, .nil => .nil
  | _, _, e, .cons r rs => by
    simp only [D.rls, Bool.and_eq_true] at e
    exact .cons (Rep.less hm hW e.1 r) (Reps.less hm hW e.2 rs)
end
theorem Le.less (hr : HR K F P ω A) (hr2 : HR K F P ω2 A2) (l : Le ω ω2) : Le ω (ω2.less A.length P A2) := by
  refine ⟨?_, fun a h z q => l.keepW a h z (less_W hr2 q), l.rd, l.trk, l.tup⟩
  obtain ⟨t, e⟩ := l.m
  show ω.m <+: ω2.m.take A.length
  rw [← e, ← hr.len, List.take_left]
  exact List.prefix_refl _
theorem oldOk_at : ∀ {A A2 : AH}, oldOk A A2 = true → ∀ (n : Nat) (o : O), n < A.length → A2[n]? = some o → A[n]? = some o ∨ o.flat = true
  | [], _, _, n, _, h, _ => by simp at h
  | _ :: _, [], h, _, _, _, _ => by simp [oldOk] at h
  | a :: A, b :: A2, h, 0, o, _, h2 => by
    simp only [oldOk, Bool.and_eq_true, Bool.or_eq_true, decide_eq_true_eq] at h
    simp only [List.getElem?_cons_zero, Option.some.injEq] at h2 ⊢
    subst h2
    exact h.1.imp (fun e => e.symm) id
  | a :: A, b :: A2, h, n + 1, o, hn, h2 => by
    simp only [oldOk, Bool.and_eq_true] at h
    simp only [List.getElem?_cons_succ] at h2 ⊢
    exact oldOk_at h.2 n o (by simpa using hn) h2
theorem flat_lst {o : List D} : (O.lst o).flat = true → o.all D.atom = true := id
theorem HR.less (hr : HR K F P ω A) (hr2 : HR K F P ω2 A2) (l : Le ω ω2) (ho : oldOk A A2 = true) : HR K F P (ω2.less A.length P A2) (A2.take A.length) := by
  have hl : ω.m.length ≤ ω2.m.length := l.m.length_le
  have hl2 : A.length ≤ A2.length := by rw [← hr.len, ← hr2.len]; exact hl
  refine ⟨?_, hr2.nd.sublist (List.take_sublist _ _), fun a ha => hr2.trk a (List.mem_of_mem_take ha), fun a ha z => hr2.sep a ha (List.mem_of_mem_take z), hr2.ptrk, fun _ => Iff.rfl, fun n o a ho' hm' => ?_⟩
  · show (ω2.m.take A.length).length = _
    rw [List.length_take, List.length_take, hr2.len]
  · obtain ⟨hn, hm⟩ := take_get hm'
    have ha2 := (take_get ho').2
    have q := hr2.obj n o a ha2 hm
    have sub : ∀ {xs : List D} {vs : List V}, (xs.all D.atom = true ∨ D.rls A.length xs = true) → Reps K F ω2 xs vs → Reps K F (ω2.less A.length P A2) xs vs := fun {xs vs} h r => by
      rcases h with h | h
      · exact Reps.atom h r
      · exact Reps.less rfl (fun a z => less_W hr2 z) h r
    have was := oldOk_at ho n o hn ha2
    have rlOf : A[n]? = some o → RepO K F ω o a := fun e => by
      have hmn : ω.m[n]? = some a := by
        obtain ⟨t, e2⟩ := l.m
        have hn' : n < ω.m.length := by rw [hr.len]; exact hn
        rw [← e2, List.getElem?_append_left hn'] at hm
        exact hm
      exact hr.obj n o a e hmn
    cases o with
    | lst xs =>
      obtain ⟨vs, h1, h2, h3⟩ := q
      refine ⟨vs, h1, h2, sub (was.elim (fun e => .inr ?_) .inl) h3⟩
      obtain ⟨us, _, _, r⟩ := rlOf e
      rw [← hr.len]; exact r.rl
    | dk ks xs =>
      obtain ⟨vs, h1, h2, h3⟩ := q
      refine ⟨vs, h1, h2, sub (was.elim (fun e => .inr ?_) .inl) h3⟩
      obtain ⟨us, _, _, r⟩ := rlOf e
      rw [← hr.len]; exact r.rl
    | dt ks xs =>
      obtain ⟨vs, h1, h2, h3⟩ := q
      refine ⟨vs, h1, h2, sub (was.elim (fun e => .inr ?_) .inl) h3⟩
      obtain ⟨us, _, _, r⟩ := rlOf e
      rw [← hr.len]; exact r.rl
    | dead => trivial
/-- a def's result -/
theorem finish_M {m : Bool} {d : D} {v : V} {Q : VK} (hr : HR K F P ω A) (l : Le ω ω2) (k : Pk P ω ω2) (hr2 : HR K F P ω2 A2) (rd : Rep K F ω2 d v) (o : Out K F U P ω (finish m A d A2) (fin K F Q)) : Q v ω2.H := by
  cases m with
  | false => exact o ω2 l k hr2 v rd
  | true =>
    unfold finish at o
    rw [if_pos rfl] at o
    split at o
    · rename_i d' L e
      split at o
      · rename_i c
        rw [Bool.and_eq_true] at c
        obtain ⟨c1, c2⟩ := c
        refine o (ω2.less A.length P A2) (Le.less hr hr2 l) k (hr.less hr2 l c2) v ?_
        refine fz_rep hr2 (fun a z => less_W hr2 z) 8 d v d' L e (fun n hn a hm z => ?_) rd
        have hn' : A.length ≤ n := of_decide_eq_true (List.all_eq_true.mp c1 n hn)
        rcases z with z | ⟨n', o', q1, q2, q3⟩
        · exact hr2.sep a z (List.mem_of_getElem? hm)
        · obtain ⟨h1, h2⟩ := take_get q1
          have e1 : n = n' := nodup_get hr2.nd hm h2
          omega
      · exact o.elim
    · exact o.elim
/-- an error leaves a def -/
theorem finX_M {m : Bool} {c : Nat} {d : D} {E : XK} {Φ : D → Wd → AH → Prop} (hr : HR K F P ω A) (l : Le ω ω2) (k : Pk P ω ω2) (hr2 : HR K F P ω2 A2) (o : Out K F (UE K F E) P ω (finX m A c d A2) Φ) : UE K F E c d ω2 := by
  intro cls dd ex
  cases m with
  | false => exact o ω2 l k hr2 cls dd ex
  | true =>
    unfold finX at o
    rw [if_pos rfl] at o
    split at o
    · rename_i d' L e
      split at o
      · rename_i q
        rw [Bool.and_eq_true] at q
        obtain ⟨c1, c2⟩ := q
        refine o (ω2.less A.length P A2) (Le.less hr hr2 l) k (hr.less hr2 l c2) cls dd ⟨ex.1, ?_⟩
        have go : ∀ v, Rep K F ω2 d v → Rep K F (ω2.less A.length P A2) d' v := fun v rd => by
          refine fz_rep hr2 (fun a z => less_W hr2 z) 8 d v d' L e (fun n hn a hm z => ?_) rd
          have hn' : A.length ≤ n := of_decide_eq_true (List.all_eq_true.mp c1 n hn)
          rcases z with z | ⟨n', o', q1, q2, q3⟩
          · exact hr2.sep a z (List.mem_of_getElem? hm)
          · obtain ⟨h1, h2⟩ := take_get q1
            have e1 : n = n' := nodup_get hr2.nd hm h2
            omega
        rcases ex.2 with ⟨fld, a, v, h1, h2, h3, h4⟩ | ⟨h1, h2, h3, h5⟩
        · exact .inl ⟨fld, a, v, h1, h2, h3, go v h4⟩
        · subst h3
          have e' : fz A2 8 .non = some (D.non, []) := rfl
          rw [e'] at e
          cases e
          exact .inr ⟨h1, h2, rfl, h5⟩
      · exact o.elim
    · exact o.elim
end
end Ev

set_option maxRecDepth 100000
/-! EvX: errors: an __init__ of one field, raise, try, a field of the error in hand, isinstance of it; calls of a name that holds a def -/
namespace Ev
open PySem PySem.Spec L2
section
variable {X : Cx} {F : Nat → Addr} {U : Xh}
/-- what __init__(self, fld): self.fld = fld promises -/
def spInit (K : PySem.W.Frag) (fld : Str) : Sp := fun vs H Q _ => ∃ (a C : Addr) (v : V), vs = [.ref a, v] ∧ OexC K C ∧ PySem.W.findIn K (.ref C) fld = some none ∧ H a = some (exo a C none) ∧
  ∀ dx, H dx = none → dx ≠ a → Q .non (upd (upd H dx (exd dx [(fld, v)])) a (exo a C (some dx)))
/-- what the class x numbered c has, for its errors to be made -/
structure ErrM (X : Cx) (k : Nat) (x : Str) (C : Addr) (fld : Str) : Prop where
  gC : X.mg x = some (.ref C)
  oex : OexC X.K C
  noF : PySem.W.findIn X.K (.ref C) fld = some none
  init : ∃ fI fd ps, PySem.W.findIn X.K (.ref C) "__init__" = some (some (.ref fI)) ∧ PySem.W.typeIn X.K (.ref fI) = some (.type "function") ∧
    FnOk X.prog X.w X.K X.mg X.base (L2.CX X.prog X.w) k fI fd ps (spInit X.K fld) ∧ Binds X.K fd ps []
theorem ps_raiseM {k c : Nat} {x fld : Str} {e : Expr} {fe : Env → AH → Res D} {p pos pos2 : Pos} (hc : X.calm = true) (T : ErrM X k x (F (1000000 + c)) fld) (hf : excF c = some fld) (hi : F (3000000 + c) = 1) (h1000 : c < 1000) (hr : Room (k + 1) X.A) (hg : Gl X x) (tk : TkU X F U)
    (he : PE X e (tM X.K F U fe)) (hdb : (x == ("__debug__" : Str)) = false) (hs : starEach [e] X.env = (false, eval e X.env) :: starEach [] X.env) (hpl : (backTo pos (starEach [] X.env)).any (·.1) = false) :
    PS X (.Raise (some (.Call (.Name x p) [e] [] pos)) none pos2) (sM X.K F U fun env A => bnd (fe env A) fun d A => if c < 1000 then .exc c d A else .bad) := by
  obtain ⟨fI, fd, ps, i1, i2, i3, i4⟩ := T.init
  refine (ps_raise hc tk (pmk_oex T.oex i1 i2 i3 hr i4 .nil passL hg T.gC (pa_cons he pa_nil hs) hdb hs hpl)).imp fun D σ H h => ?_
  obtain ⟨P, ω, env, A, rfl, hr', er, o⟩ := h
  refine ⟨P, ω, env, A, rfl, hr', er, o.bnd.imp fun d ω1 A1 l k hr1 o1 v rv => ⟨by simp, fun a ha => ?_⟩⟩
  rw [if_pos h1000] at o1
  refine ⟨a, F (1000000 + c), v, rfl, T.oex, T.noF, upd_same, fun dx hdx hne => ?_⟩
  rw [upd_ne hne] at hdx
  refine ⟨rfl, dx, [(fld, v)], upd_same, by rw [upd_ne hne, upd_same], hdx, c, d, ω1.new dx (.xd [(fld, v)]), ?_, ⟨⟨rfl, hi⟩, .inl ⟨fld, dx, v, hf, rfl, upd_same, rv.le (Le.new ω1 hdx)⟩⟩, o1 _ (Le.new ω1 hdx) (Pk.new hdx hr1.ptrk) (hr1.new hdx)⟩
  funext b
  show upd ω1.H dx (.xd [(fld, v)]) b = upd (del _ a) dx (.xd [(fld, v)]) b
  by_cases h1 : b = dx
  · subst h1; rw [upd_same, upd_same]
  · rw [upd_ne h1, upd_ne h1]
    by_cases h2 : b = a
    · subst h2; rw [del_same]; exact ha
    · rw [del_ne h2, upd_ne h2, upd_ne h1, upd_ne h2]
/-- no error may leave -/
abbrev U0 : Xh := fun _ _ _ => False
/-- the addresses while an error is in hand -/
def Fs (F : Nat → Addr) (a : Addr) (dd : Option Addr) (cls : Value) : Nat → Addr := fun i => if i = 2000000 then 1 else if i = 2000001 then a else if i = 2000002 then dd.getD 0 else if i = 2000003 then (match cls with
  | .ref C => C
  | _ => 0) else if i = 2000004 then (if dd.isSome = true then 1 else 0) else F i
theorem Fs_low {F : Nat → Addr} {a : Addr} {dd : Option Addr} {cls : Value} {i : Nat} (h : i < 2000000) : Fs F a dd cls i = F i := by
  unfold Fs; rw [if_neg (by omega), if_neg (by omega), if_neg (by omega), if_neg (by omega), if_neg (by omega)]
theorem Fs_high {F : Nat → Addr} {a : Addr} {dd : Option Addr} {cls : Value} {i : Nat} (h : 3000000 ≤ i) : Fs F a dd cls i = F i := by
  unfold Fs; rw [if_neg (by omega), if_neg (by omega), if_neg (by omega), if_neg (by omega), if_neg (by omega)]
def UW (X : Cx) (F : Nat → Addr) (W : WX) : Xh := fun c d ω => ∀ σ cls dd, σ.length = X.N.length → ExR X.K F ω c d cls dd → W cls dd σ ω.H
theorem tkW {pn : List (Addr × Obj)} {xe : Value → Shared → Prop} {W : WX} (t : Takes (X.tr pn xe) W) : TkU (X.tr pn xe) F (UW X F W) := fun u s' ⟨a, B, sI, pins, σ, H, cls, d, e, I, nb, up, sky, na, os, ag, w⟩ =>
  t u s' ⟨a, B, sI, pins, σ, H, cls, d, e, I, nb, up, sky, na, os, ag, by obtain ⟨c, dv, ω, rfl, ex, uu⟩ := w; exact uu σ cls d I.len ex⟩
def fTry (fb fs : Env → AH → Res (Fl × Env)) (cs : List Nat) (i : Nat) : Env → AH → Res (Fl × Env) := fun env A => match fb env A with
    | .ok f A => .ok f A
    | .exc c d A1 => if cs.contains c = true then bnd (calm (fs ((List.replicate env.length none).set i (some (.exn c d))) A1)) fun f A2 =>
        if A2 = A1 then (match f.1 with
          | .rt d => if D.noX d = true then .ok (.rt d, List.replicate f.2.length none) A2 else .bad
          | fl => .ok (fl, List.replicate f.2.length none) A2) else .bad
      else .exc c d A1
    | .bad => .bad
theorem env_none {K : PySem.W.Frag} {F : Nat → Addr} {ω : Wd} {n : Nat} {σ : St} (h : n = σ.length) : EnvR K F ω (List.replicate n none) σ :=
  ⟨by simp [h], fun i d e => by rw [List.getElem?_replicate] at e; split at e <;> cases e⟩
theorem ps_tryM {i : Nat} {n x : Str} {c0 : Value} {cs : List Nat} {body suite : List Stmt} {b₀ : Stmt} {np pos pos' : Pos} {fb fs : Env → AH → Res (Fl × Env)} (hs : X.stack = X.env :: X.outer) (hf : X.env.frame = some X.env.locals) (hN : X.N.Nodup) (hi : X.N[i]? = some n) (hln : X.env.kindOf n = some .local) (hc : Names X x c0) (tk : TkU X F U) (hF : F 2000000 ≠ 1)
    (hb : ∀ (pn : List (Addr × Obj)) (xe : Value → Shared → Prop) (U' : Xh), TkU (X.tr pn xe) F U' → PassesOwn (model X.prog X.w) X.A X.env xe → PSs (X.tr pn xe) body (sM X.K F U' fb))
    (hsu : ∀ (a : Addr) (oe : Obj) (C : Addr) (d : Option Addr) (pn : List (Addr × Obj)), Zc (.ref C) d oe → (∃ vs, oe.data = .fields vs) → PSs (X.suite a ((a, oe) :: pn)) (b₀ :: suite) (sM X.K (Fs F a d (.ref C)) U0 fs))
    (hm : ∀ c, F (3000000 + c) = 1 → PySem.W.exmOne X.K (.ref (F (1000000 + c))) c0 = some (cs.contains c)) :
    PS X (.Try body [.ExceptHandler (some (.Name x np)) (some n) (b₀ :: suite) pos'] [] [] pos) (sM X.K F U (fTry fb fs cs i)) := by
  refine ⟨fun pins s σ H Dn I h => (ps_try_as hs hf hN hi hln hc tk (tb := fun W => sM X.K F (UW X F W) fb) (ts := fun a cls d => match cls with
      | .ref C => sM X.K (Fs F a d (.ref C)) U0 fs
      | _ => fun _ _ _ => False) (fun W pn xe tk' po => hb pn xe (UW X F W) (tkW tk') po) (fun a oe cls d pn hz hf => by
      cases cls with
      | ref C => exact hsu a oe C d pn hz hf
      | _ => exact ⟨fun _ _ _ _ _ _ z => z.elim⟩)).run pins s σ H Dn I ?_⟩
  obtain ⟨P, ω, env, A, rfl, hr, er, o⟩ := h
  have hlen : env.length = X.N.length := er.len.trans I.len
  refine ⟨P, ω, env, A, rfl, hr, er, ?_⟩
  unfold fTry at o
  cases e : fb env A with
  | ok f A1 => rw [e] at o; exact o
  | bad => rw [e] at o; exact o.elim
  | exc c d A1 =>
    rw [e] at o
    dsimp only at o
    intro ω' l k hr' σ' cls dd hσ ex
    have flag := ex.1.2
    obtain ⟨⟨rfl, _⟩, ex2⟩ := ex
    refine ⟨cs.contains c, hm c flag, fun hyes a ha => ?_, fun hno => ?_⟩
    · simp only [hyes, if_true] at o
      have o' := Out.le l k o
      have clean := hr'.noX hF
      have hr2 : HR X.K (Fs F a dd (.ref (F (1000000 + c)))) P ω' A1 := hr'.chF (fun j hj => Fs_low (by omega)) clean
      refine ⟨P, ω', (List.replicate env.length none).set i (some (.exn c d)), A1, rfl, hr2, ⟨by simp [hlen, hσ], fun j dj hj => ?_⟩, ?_⟩
      · have hij : i = j := by
          by_cases z : i = j
          · exact z
          · rw [List.getElem?_set_ne z, List.getElem?_replicate] at hj
            split at hj <;> cases hj
        subst hij
        have hil : i < env.length := by
          by_cases z : i < env.length
          · exact z
          · rw [List.getElem?_eq_none (by simp; omega)] at hj; cases hj
        rw [List.getElem?_set_self (by simpa using hil)] at hj
        cases hj
        refine ⟨.ref a, List.getElem?_set_self (by omega), ?_⟩
        have f0 : Fs F a dd (.ref (F (1000000 + c))) 2000000 = 1 := rfl
        have f1 : Fs F a dd (.ref (F (1000000 + c))) 2000001 = a := rfl
        have f3 : Fs F a dd (.ref (F (1000000 + c))) 2000003 = F (1000000 + c) := rfl
        have hc1 : c < 1000 ∨ 1000 ≤ c := by omega
        rcases ex2 with ⟨fld, da, v, g1, g2, g3, g4⟩ | ⟨g1, g2, g3, hbig⟩
        · have hlt : c < 1000 := by
            rcases hc1 with z | z
            · exact z
            · unfold excF at g1; rw [if_neg (by omega)] at g1; cases g1
          subst g2
          have f2 : Fs F a (some da) (.ref (F (1000000 + c))) 2000002 = da := rfl
          have q := Rep.exn (K := X.K) (F := Fs F a (some da) (.ref (F (1000000 + c)))) (ω := ω') (c := c) (d := d) (v := v) (fld := fld) ⟨f0, rfl⟩ ⟨by rw [f3, Fs_low (by omega)], by rw [Fs_high (by omega)]; exact flag⟩ g1 (by rw [f2]; exact g3) (Rep.chF (fun j hj => Fs_low (by omega)) (g4.noX hF) g4)
          rw [f1] at q
          exact q
        · subst g3
          subst g2
          have q := Rep.exn0 (K := X.K) (F := Fs F a none (.ref (F (1000000 + c)))) (ω := ω') (c := c) ⟨f0, rfl⟩ ⟨by rw [f3, Fs_low (by omega)], by rw [Fs_high (by omega)]; exact flag⟩ ⟨g1, hbig⟩
          rw [f1] at q
          exact q
      · cases e2 : fs ((List.replicate env.length none).set i (some (.exn c d))) A1 with
        | exc c' d' A2 => rw [e2] at o'; exact (show False from o').elim
        | bad => rw [e2] at o'; exact (show False from o').elim
        | ok f A2 =>
          rw [e2] at o'
          simp only [calm_ok, bnd_ok] at o'
          by_cases hA : A2 = A1
          · subst hA
            rw [if_pos rfl] at o'
            intro ω2 l2 k2 hr3
            have hr4 : HR X.K F P ω2 A2 := hr3.chF (F' := F) (fun j hj => (Fs_low (by omega)).symm) clean
            obtain ⟨fl, env2⟩ := f
            cases fl with
            | rt dv =>
              simp only at o'
              by_cases hx : D.noX dv = true
              · rw [if_pos hx] at o'
                exact fun v rv => o' ω2 l2 k2 hr4 v (Rep.chF (F' := F) (fun j hj => (Fs_low (by omega)).symm) hx rv)
              · rw [if_neg hx] at o'; exact (show False from o').elim
            | nx => exact fun σ2 er2 => o' ω2 l2 k2 hr4 (σ2.set i none) (env_none (by have := er2.len; simpa using this))
            | bk => exact fun σ2 er2 => o' ω2 l2 k2 hr4 (σ2.set i none) (env_none (by have := er2.len; simpa using this))
            | ct => exact fun σ2 er2 => o' ω2 l2 k2 hr4 (σ2.set i none) (env_none (by have := er2.len; simpa using this))
          · rw [if_neg hA] at o'; exact (show False from o').elim
    · have hno' : ¬ cs.contains c = true := by rw [hno]; decide
      rw [if_neg hno'] at o
      exact ⟨c, d, ω', rfl, ⟨⟨rfl, flag⟩, ex2⟩, o ω' l k hr'⟩
/-! ### the error in hand: its field, its kind -/
/-- what a class has, for its errors to be asked -/
structure ErrC (K : PySem.W.Frag) (C : Addr) : Prop where
  xf : XfC K C
  cl : (PySem.W.clsIn K C).isSome = true
  ha : PySem.W.findIn K (.ref C) "__class__" = some (some (.builtin "object.__class__"))
  hm : PySem.W.mroIn K C (.type "object") = some true
structure ErrT (K : PySem.W.Frag) (F : Nat → Addr) : Prop where
  hn : PySem.W.specialIn K (.builtin "object.__class__") "__get__" = some (some (.builtin "getset_descriptor.__get__"))
  ht : PySem.W.takesIn K (.builtin "object.__class__") = some true
  cls : ∀ c, F (3000000 + c) = 1 → ErrC K (F (1000000 + c)) ∧ ∀ fld, excF c = some fld → PySem.W.findIn K (.ref (F (1000000 + c))) fld = some none
section
variable {a : Addr} {oe : Obj} {cls : Value} {d : Option Addr} {pn : List (Addr × Obj)} {pos p p2 p3 : Pos}
theorem excF_lt {c : Nat} {fld : Str} (h : excF c = some fld) : c < 1000 := by
  by_cases z : c < 1000
  · exact z
  · unfold excF at h; rw [if_neg z] at h; cases h
theorem pe_excGM {i : Nat} {x fld : Str} (T : ErrT X.K F) (hz : Zc cls d oe) (hf : ∃ vs, oe.data = .fields vs) (hcls : ∃ C, cls = .ref C) (hN : X.N[i]? = some x) (hv : Vis X.env.scope x) (hd : (x == ("__debug__" : Str)) = false) (hcd : (x == ("__classdict__" : Str)) = false) :
    PE (X.suite a ((a, oe) :: pn)) (.Attribute (.Name x p) fld pos) (tM X.K (Fs F a d cls) U fun env A => match env[i]? with
      | some (some (.exn c d)) => if excF c = some fld then .ok d A else .bad
      | _ => .bad) := by
  refine ⟨fun pins s σ H Q I h => ?_⟩
  obtain ⟨P, ω, env, A, rfl, hr, er, o⟩ := h
  dsimp only at o
  split at o
  · rename_i c dv e
    by_cases hfl : excF c = some fld
    · rw [if_pos hfl] at o
      obtain ⟨v, h1, h2⟩ := er.at' i _ e
      cases h2 with
      | exn hF hc hff hx r =>
        rename_i v0 fld0
        have : fld0 = fld := by rw [hff] at hfl; cases hfl; rfl
        subst this
        have hlt := excF_lt hff
        obtain ⟨C, rfl⟩ := hcls
        have f1 : Fs F a d (.ref C) 2000001 = a := rfl
        have f3 : Fs F a d (.ref C) 2000003 = C := rfl
        have hcC : C = F (1000000 + c) := by rw [← f3, hc.1]; exact Fs_low (by omega)
        have flag : F (3000000 + c) = 1 := by rw [← Fs_high (F := F) (a := a) (dd := d) (cls := .ref C) (by omega)]; exact hc.2
        subst hcC
        obtain ⟨T1, T2⟩ := T.cls c flag
        cases d with
        | none => exact absurd hF.2 (by show ¬ (0 : Nat) = 1; decide)
        | some da =>
          refine (pe_xf T1.xf (T2 _ hff) hz hf (pe_var (X := X.suite a ((a, oe) :: pn)) (pos := p) hN hv hd hcd)).run pins s σ ω.H Q I ⟨_, h1, ?_, rfl, da, [(fld0, v0)], v0, rfl, hx, ?_, o.val hr r⟩
          · rw [f1]
          · simp [List.lookup]
      | exn0 hF hc hff => rw [hff.1] at hfl; cases hfl
    · rw [if_neg hfl] at o; exact o.elim
  · exact o.elim
/-- the class that isinstance names -/
structure ClsV (X : Cx) (x : Str) (cV : V) (cv : Value) : Prop where
  gl : Gl X x
  nm : (X.mg x = some cv) ∨ (X.mg x = none ∧ bootBuiltins x = some cv ∧ x ≠ "__name__")
  db : (x == ("__debug__" : Str)) = false
  rel : RelV cV cv
  uq : ∀ u, RelV cV u → u = cv
theorem pe_clsV {x : Str} {cV : V} {cv : Value} (h : ClsV X x cV cv) : PE X (.Name x p) (tC cV) := by
  rcases h.nm with q | ⟨q1, q2, q3⟩
  · exact pe_glob h.gl q h.rel h.db
  · exact pe_bltn h.gl q1 q2 h.rel q3 h.db
def rIsX (K : PySem.W.Frag) (a C : Addr) (d : Option Addr) : List V → Hp → VK → Prop := fun xs H Q => ∃ (c : V) (cv : Value) (b : Bool), xs = [.ref a, c] ∧ (∀ u, RelV c u → u = cv) ∧ PySem.W.kitOne K (.ref C) cv = some b ∧ (d = none ∨ ∃ da fs, d = some da ∧ H da = some (.xd fs)) ∧ Q (.bl b) H
theorem call_isX {C : Addr} (T : ErrC X.K C) (hn : PySem.W.specialIn X.K (.builtin "object.__class__") "__get__" = some (some (.builtin "getset_descriptor.__get__"))) (ht : PySem.W.takesIn X.K (.builtin "object.__class__") = some true)
    (hz : Zc (.ref C) d oe) (hf : ∃ vs, oe.data = .fields vs) : CallR (X.suite a ((a, oe) :: pn)) (.builtin "isinstance") (rIsX X.K a C d) := by
  intro pins s σ H xs us Q I r h
  obtain ⟨c, cv, b, rfl, hcv, e, hd, q⟩ := h
  obtain ⟨u, w', rfl, rx, rt⟩ := vals2 r
  cases rx
  have ec := hcv _ rt
  subst ec
  obtain ⟨hget, _⟩ := I.pin (a, oe) (List.mem_append.mpr (.inl List.mem_cons_self))
  obtain ⟨vs, hv⟩ := hf
  have J : ∃ od, PySem.W.InstAt s.heap a oe C od := by
    rcases hd with rfl | ⟨da, fs, rfl, hda⟩
    · exact ⟨none, hget, hz.1, by unfold PySem.W.notCls; rw [hv] <;> rfl, by rw [hz.2]; trivial⟩
    · obtain ⟨mA, hns, _⟩ : ObjOk X.prog X.w H s.heap da (.xd fs) := I.hok da _ hda
      obtain ⟨od, ho, _⟩ := lookIn_ns hns
      exact ⟨some od, hget, hz.1, by unfold PySem.W.notCls; rw [hv] <;> rfl, by rw [hz.2]; exact ho⟩
  obtain ⟨od, J⟩ := J
  exact PySem.W.kia_one (PySem.W.kitx_exc T.cl T.xf.ga T.xf.gg T.xf.exC T.ha hn ht T.hm) I.kIn J e (fun z => nomatch z) fun tk => ⟨.bl b, H, I.kept (t' := tk) fun _ _ z => z, rfl, q⟩
theorem pe_excIM {i : Nat} {x y : Str} {cs : List Nat} {cV : V} {cv : Value} (T : ErrT X.K F) (hz : Zc cls d oe) (hf : ∃ vs, oe.data = .fields vs) (hcls : ∃ C, cls = .ref C) (hN : X.N[i]? = some x) (hv : Vis X.env.scope x) (hd : (x == ("__debug__" : Str)) = false) (hcd : (x == ("__classdict__" : Str)) = false)
    (hg : Gl X "isinstance") (hm : X.mg "isinstance" = none) (hy : ClsV X y cV cv) (hk : ∀ c, F (3000000 + c) = 1 → PySem.W.kitOne X.K (.ref (F (1000000 + c))) cv = some (cs.contains c)) :
    PE (X.suite a ((a, oe) :: pn)) (.Call (.Name "isinstance" p) [.Name x p2, .Name y p3] [] pos) (tM X.K (Fs F a d cls) U fun env A => match env[i]? with
      | some (some (.exn c _)) => .ok (.bl (cs.contains c)) A
      | _ => .bad) := by
  refine ⟨fun pins s σ H Q I h => ?_⟩
  obtain ⟨P, ω, env, A, rfl, hr, er, o⟩ := h
  dsimp only at o
  split at o
  · rename_i c dv e
    obtain ⟨v, h1, h2⟩ := er.at' i _ e
    obtain ⟨C, rfl⟩ := hcls
    have f1 : Fs F a d (.ref C) 2000001 = a := rfl
    have f3 : Fs F a d (.ref C) 2000003 = C := rfl
    have key : v = .ref a ∧ C = F (1000000 + c) ∧ F (3000000 + c) = 1 ∧ (d = none ∨ ∃ da fs, d = some da ∧ ω.H da = some (.xd fs)) := by
      cases h2 with
      | exn hF hc hff hx r =>
        have hlt := excF_lt hff
        refine ⟨by rw [f1], by rw [← f3, hc.1]; exact Fs_low (by omega), by rw [← Fs_high (F := F) (a := a) (dd := d) (cls := .ref C) (by omega)]; exact hc.2, ?_⟩
        cases d with
        | none => exact .inl rfl
        | some da => exact .inr ⟨da, _, rfl, hx⟩
      | exn0 hF hc hff =>
        refine ⟨by rw [f1], by rw [← f3, hc.1]; exact Fs_low (by omega), by rw [← Fs_high (F := F) (a := a) (dd := d) (cls := .ref C) (by omega)]; exact hc.2, ?_⟩
        cases d with
        | none => exact .inl rfl
        | some da => exact absurd hF.2 (by show ¬ (1 : Nat) = 0; decide)
    obtain ⟨rfl, rfl, flag, hdd⟩ := key
    obtain ⟨T1, _⟩ := T.cls c flag
    refine (pe_callB (X := X.suite a ((a, oe) :: pn)) (call_isX T1 T.hn T.ht hz hf) hg hm PyProof.Rows.boot_isinstance (pa_cons (pe_var (X := X.suite a ((a, oe) :: pn)) hN hv hd hcd) (pa_cons (pe_clsV (X := X.suite a ((a, oe) :: pn)) ⟨hy.gl, hy.nm, hy.db, hy.rel, hy.uq⟩) pa_nil))).run pins s σ ω.H Q I ⟨_, h1, ?_⟩
    exact ⟨cV, cv, cs.contains c, rfl, hy.uq, hk c flag, hdd, o.val hr (.bl _)⟩
  · exact o.elim
end
/-! ### a name that holds a def -/
theorem pe_fnM {i : Nat} {x : Str} {pos : Pos} (hg : Gl X x) (hm : X.mg x = some (.ref (F i))) (hi : i < 1000000) (hd : (x == ("__debug__" : Str)) = false) : PE X (.Name x pos) (tM X.K F U fun _ A => .ok (.fn i) A) :=
  pe_cM (pe_glob (v := .ref (F i)) hg hm rfl hd) fun ω => .fn i hi
end
end Ev

set_option maxRecDepth 100000
set_option maxHeartbeats 1000000
/-! EvZ2: zip of three, by the layer and by the evaluator; list(x) as an object -/
namespace Ev
open PySem PySem.Spec PyProof.Rows L2
section
variable {prog : Program} {w : World} {A : Around} {E : Value → Shared → Prop} {s : Shared}
theorem call_z3 {k1 k2 k3 : Sk} {l1 l2 l3 : Addr} {xs ys zs : Array Value} {Q : Value → Shared → Prop} (hl1 : SSq k1 s.heap l1 xs) (hl2 : SSq k2 s.heap l2 ys) (hl3 : SSq k3 s.heap l3 zs)
    (h : ∀ h', IsZip h' (s.heap.objs.size + 5) (s.heap.objs.size + 3) (s.heap.objs.size + 4) .none → IsTri h' (s.heap.objs.size + 3) (.ref s.heap.objs.size) (.ref (s.heap.objs.size + 1)) (.ref (s.heap.objs.size + 2)) →
      IsTri h' (s.heap.objs.size + 4) .none .none .none → SIt k1 h' s.heap.objs.size l1 0 → SIt k2 h' (s.heap.objs.size + 1) l2 0 → SIt k3 h' (s.heap.objs.size + 2) l3 0 →
      (∀ c o, s.heap.get? c = some o → h'.get? c = some o) → Q (.ref (s.heap.objs.size + 5)) { s with heap := h' }) :
    wpAny (model prog w) A (call (.type "zip") [.ref l1, .ref l2, .ref l3]) Q E s := by
  refine callType_new F.called_zip (by decide) (tc_zip_3 _ _ _) (nc_zip_3 _ _ _) (fun obj => args_object_init_4 obj _ _ _) F.entry_zip_new
    (meets_z3 k1 k2 k3 l1 l2 l3 xs ys zs) ⟨hl1, hl2, hl3, ?_⟩
  have z1 : (zA k1 s.heap l1).objs.size = s.heap.objs.size + 1 := Heap.size_push ..
  have z2 : (zB k1 k2 s.heap l1 l2).objs.size = s.heap.objs.size + 2 := by rw [Heap.size_push, z1]
  have z3 : (zC k1 k2 k3 s.heap l1 l2 l3).objs.size = s.heap.objs.size + 3 := by rw [Heap.size_push, z2]
  have z4 : (zD k1 k2 k3 s.heap l1 l2 l3).objs.size = s.heap.objs.size + 4 := by rw [Heap.size_push, z3]
  have z5 : (zE k1 k2 k3 s.heap l1 l2 l3).objs.size = s.heap.objs.size + 5 := by rw [Heap.size_push, z4]
  have up : ∀ {h : Heap} {o' : Obj} {c : Addr} {o : Obj}, h.get? c = some o → (h.push o').get? c = some o := fun e => Heap.get?_push_of_some _ e
  have g6 : (zF k1 k2 k3 s.heap l1 l2 l3).get? (zE k1 k2 k3 s.heap l1 l2 l3).objs.size = some _ := Heap.get?_push_size _ rfl
  have g5 : (zF k1 k2 k3 s.heap l1 l2 l3).get? (zD k1 k2 k3 s.heap l1 l2 l3).objs.size = some _ := up (Heap.get?_push_size _ rfl)
  have g4 : (zF k1 k2 k3 s.heap l1 l2 l3).get? (zC k1 k2 k3 s.heap l1 l2 l3).objs.size = some _ := up (up (Heap.get?_push_size _ rfl))
  have g3 : (zF k1 k2 k3 s.heap l1 l2 l3).get? (zB k1 k2 s.heap l1 l2).objs.size = some (zI k3 l3) := up (up (up (Heap.get?_push_size _ rfl)))
  have g2 : (zF k1 k2 k3 s.heap l1 l2 l3).get? (zA k1 s.heap l1).objs.size = some (zI k2 l2) := up (up (up (up (Heap.get?_push_size _ rfl))))
  have g1 : (zF k1 k2 k3 s.heap l1 l2 l3).get? s.heap.objs.size = some (zI k1 l1) := up (up (up (up (up (Heap.get?_push_size _ rfl)))))
  show _ ∧ _
  rw [z3, z4, z5] at g6
  rw [z4] at g5
  rw [z1, z2, z3] at g4
  rw [z2] at g3
  rw [z1] at g2
  rw [z5]
  have it : ∀ {k : Sk} {h : Heap} {c l : Addr}, h.get? c = some (zI k l) → SIt k h c l 0 := fun {k h c l} e => by
    cases k with
    | l => exact ⟨_, e, rfl, rfl⟩
    | t => exact ⟨_, e, rfl, rfl⟩
  exact ⟨⟨_, g6, rfl⟩, h _ g6 g4 g5 (it g1) (it g2) (it g3) fun c o x => up (up (up (up (up (up x)))))⟩
end
theorem Inv_inj {X : Cx} {pins : List (Addr × Obj)} {σ : St} {H : Hp} {s : Shared} {k : Sk} {a : Addr} {xs ys : List V} (I : Inv X pins σ H s) (h : SqK X.K k H a xs) (h' : SqK X.K k H a ys) : xs = ys := by
  cases k with
  | l => exact I.list_inj h h'
  | t => exact I.tuple_inj h h'
/-- three sources as they stand at each turn -/
def Itz3 (K : PySem.W.Frag) (k1 k2 k3 : Sk) (a b c : Addr) : It :=
  ⟨fun i H => ∃ (xs ys zs : List V) (x y z : V), SqK K k1 H a xs ∧ SqK K k2 H b ys ∧ SqK K k3 H c zs ∧ xs[i]? = some x ∧ ys[i]? = some y ∧ zs[i]? = some z,
    fun i H v H' => ∃ T x y z, v = .ref T ∧ H T = none ∧ H' = upd H T (.tup [x, y, z]) ∧ (∀ xs, SqK K k1 H a xs → xs[i]? = some x) ∧ (∀ ys, SqK K k2 H b ys → ys[i]? = some y) ∧ ∀ zs, SqK K k3 H c zs → zs[i]? = some z,
    fun i H => ∃ xs ys zs : List V, SqK K k1 H a xs ∧ SqK K k2 H b ys ∧ SqK K k3 H c zs ∧ (xs.length ≤ i ∨ ys.length ≤ i ∨ zs.length ≤ i)⟩
theorem turn_z3 {P : Program} {w : World} {K : PySem.W.Frag} {elts : List Expr} {kk : Nat} {tpos : Pos} {k1 k2 k3 : Sk} {a b c z TI TO i1 i2 i3 : Addr} (D : Ap3 z TI TO i1 i2 i3 a b c) :
    Turn P w K (.Tuple elts kk tpos) (Itz3 K k1 k2 k3 a b c) [z, TI, TO, i1, i2, i3] z (fun i h => IsZip h z TI TO .none ∧ IsTri h TI (.ref i1) (.ref i2) (.ref i3) ∧ (∃ x y u, IsTri h TO x y u) ∧ SIt k1 h i1 a i ∧ SIt k2 h i2 b i ∧ SIt k3 h i3 c i) where
  mem := by simp
  obj := fun i h st c hc => by
    obtain ⟨hz, hTI, ⟨x, y, u, hTO⟩, h1, h2, h3⟩ := st
    have e' : c = z ∨ c = TI ∨ c = TO ∨ c = i1 ∨ c = i2 ∨ c = i3 := by simpa using hc
    rcases e' with q | q | q | q | q | q
    · rw [q]; exact ⟨_, hz, fun v q => nomatch q⟩
    · rw [q]; exact ⟨_, hTI, fun v q => nomatch q⟩
    · rw [q]; exact ⟨_, hTO, fun v q => nomatch q⟩
    · rw [q]; exact h1.get
    · rw [q]; exact h2.get
    · rw [q]; exact h3.get
  keep := fun i h h' st k => by
    obtain ⟨hz, hTI, ⟨x, y, u, hTO⟩, h1, h2, h3⟩ := st
    exact ⟨k z (by simp) _ hz, k TI (by simp) _ hTI, ⟨x, y, u, k TO (by simp) _ hTO⟩, h1.at fun o q => k i1 (by simp) o q, h2.at fun o q => k i2 (by simp) o q, h3.at fun o q => k i3 (by simp) o q⟩
  item := by
    intro X hP hw hK hc i pins s σ H E I hf st hg
    subst hP hw hK
    obtain ⟨hz, hTI, ⟨x0, y0, u0, hTO⟩, h1, h2, h3⟩ := st
    obtain ⟨xs, ys, zs, x, y, u, hqx, hqy, hqu, hx, hy, hu⟩ := hg
    obtain ⟨its, rv, p⟩ := Inv_sq I hqx
    obtain ⟨its2, rv2, p2⟩ := Inv_sq I hqy
    obtain ⟨its3, rv3, p3⟩ := Inv_sq I hqu
    obtain ⟨v1, hv1, ru1⟩ := rv.get hx
    obtain ⟨v2, hv2, ru2⟩ := rv2.get hy
    obtain ⟨v3, hv3, ru3⟩ := rv3.get hu
    have hzl : z < s.heap.objs.size := Heap.lt_size hz
    refine pyNext_z3_item D hz hTI hTO h1 h2 h3 p p2 p3 (x := v1) (y := v2) (u := v3) (by simpa using hv1) (by simpa using hv2) (by simpa using hv3) fun h' z' TO' h1' h2' h3' hT hsz hk => ?_
    refine ⟨_, rfl, wpAny_letOwnedTupleGo_zip (s := { s with heap := h' }) z' fun h'' z'' sb => ?_⟩
    have hT2 : h''.get? s.heap.objs.size = some { cls := .type "tuple", data := .seq #[v1, v2, v3] } := (sb.2 _ (Nat.ne_of_gt hzl)).trans hT
    have new : ObjOk X.prog X.w (upd H s.heap.objs.size (.tup [x, y, u])) h'' s.heap.objs.size (.tup [x, y, u]) :=
      ⟨by show 3 ≤ sizeLine; decide, [v1, v2, v3], .cons ru1 (.cons ru2 (.cons ru3 .nil)), ⟨_, hT2, rfl, _, rfl⟩⟩
    have I1 : Inv X pins σ (upd H s.heap.objs.size (.tup [x, y, u])) { s with heap := h'' } :=
      I.turnedNew (t' := s.toks) (ch := [z, TI, TO, i1, i2, i3]) (fun c o hb q => (sb.2 c (fun q' => hb (by simp [q']))).trans (hk c o (fun q' => hb (by simp [q'])) (fun q' => hb (by simp [q'])) (fun q' => hb (by simp [q'])) (fun q' => hb (by simp [q'])) (fun q' => hb (by simp [q'])) q)) hf (Nat.le_refl _) new
    refine ⟨.ref s.heap.objs.size, _, I1, rfl, ⟨_, x, y, u, rfl, I.hok.fresh (Nat.le_refl _), rfl, fun l hl => by rw [Inv_inj I hl hqx]; exact hx, fun l hl => by rw [Inv_inj I hl hqy]; exact hy, fun l hl => by rw [Inv_inj I hl hqu]; exact hu⟩, ⟨z'', ?_, ⟨v1, v2, v3, ?_⟩, ?_, ?_, ?_⟩, fun c hcm => ?_⟩
    · exact (sb.2 _ D.TIz).trans (hk _ _ D.TIz D.TITO D.TIi1 D.TIi2 D.TIi3 hTI)
    · exact (sb.2 _ D.TOz).trans TO'
    · exact h1'.at fun o q => (sb.2 _ D.i1z).trans q
    · exact h2'.at fun o q => (sb.2 _ D.i2z).trans q
    · exact h3'.at fun o q => (sb.2 _ D.i3z).trans q
    · have hlt : c < s.heap.objs.size := by
        have e' : c = z ∨ c = TI ∨ c = TO ∨ c = i1 ∨ c = i2 ∨ c = i3 := by simpa using hcm
        rcases e' with q | q | q | q | q | q
        · rw [q]; exact hzl
        · rw [q]; exact Heap.lt_size hTI
        · rw [q]; exact Heap.lt_size hTO
        · rw [q]; obtain ⟨_, e1, _⟩ := h1.get; exact Heap.lt_size e1
        · rw [q]; obtain ⟨_, e2, _⟩ := h2.get; exact Heap.lt_size e2
        · rw [q]; obtain ⟨_, e3, _⟩ := h3.get; exact Heap.lt_size e3
      rw [upd_ne (Nat.ne_of_lt hlt)]
      exact (hf c hcm).1
  done := by
    intro X hP hw hK hc i pins s σ H E I hf st hg
    subst hP hw hK
    obtain ⟨hz, hTI, ⟨x0, y0, u0, hTO⟩, h1, h2, h3⟩ := st
    obtain ⟨xs, ys, zs, hqx, hqy, hqu, hend⟩ := hg
    obtain ⟨its, rv, p⟩ := Inv_sq I hqx
    obtain ⟨its2, rv2, p2⟩ := Inv_sq I hqy
    obtain ⟨its3, rv3, p3⟩ := Inv_sq I hqu
    have l1 := rv.length
    have l2 := rv2.length
    have l3 := rv3.length
    have he : its.toArray[i]? = none ∨ its2.toArray[i]? = none ∨ its3.toArray[i]? = none := by
      rcases hend with q | q | q
      · exact .inl (by simp; omega)
      · exact .inr (.inl (by simp; omega))
      · exact .inr (.inr (by simp; omega))
    exact pyNext_z3_end (I.ok.hd hc) D hz hTI hTO h1 h2 h3 p p2 p3 he fun h' hk => ⟨rfl, I.turnedL (t' := s.toks) (ch := [z, TI, TO, i1, i2, i3]) (fun c o hb q =>
      hk c o (fun q' => hb (by simp [q'])) (fun q' => hb (by simp [q'])) (fun q' => hb (by simp [q'])) (fun q' => hb (by simp [q'])) (fun q' => hb (by simp [q'])) q) hf⟩
  self := fun A i s Q E st h => wpAny_pyIter_zip st.1 h
theorem ap3_new {n a b c : Nat} (ha : a < n) (hb : b < n) (hc : c < n) : Ap3 (n + 5) (n + 3) (n + 4) n (n + 1) (n + 2) a b c := by
  refine ⟨?_, ?_, ?_, ?_, ?_, ?_, ?_, ?_, ?_, ?_, ?_, ?_, ?_, ?_, ?_, fun l hl => ?_⟩
  all_goals (try (show (_ : Nat) ≠ _; omega))
  have hl : l < n := by rcases hl with e | e | e <;> (rw [e]; assumption)
  refine ⟨?_, ?_, ?_, ?_, ?_⟩ <;> first | exact Nat.ne_of_lt hl | exact Nat.ne_of_lt (Nat.lt_of_lt_of_le hl (Nat.le_add_right _ _))
def iZip3 (K : PySem.W.Frag) (ta : TA) : TI := fun σ H R => ta σ H fun vs H1 => ∃ k1 k2 k3 a b c xs ys zs, vs = [.ref a, .ref b, .ref c] ∧ SqK K k1 H1 a xs ∧ SqK K k2 H1 b ys ∧ SqK K k3 H1 c zs ∧ R (Itz3 K k1 k2 k3 a b c) H1
theorem pi_zip3 {X : Cx} {e e2 e3 : Expr} {ta : TA} {p pos tpos : Pos} {elts : List Expr} {kk : Nat} (hg : Gl X "zip") (hm : X.mg "zip" = none) (ha : PA X [e, e2, e3] ta)
    (hs : starEach [e, e2, e3] X.env = (false, eval e X.env) :: starEach [e2, e3] X.env) (hpl : (backTo pos (starEach [e2, e3] X.env)).any (·.1) = false) :
    PI X (.Tuple elts kk tpos) (.Call (.Name "zip" p) [e, e2, e3] [] pos) (iZip3 X.K ta) := by
  refine ⟨fun pins s σ H R I h => ?_⟩
  refine Call_ (ld_blt I hg hm PyProof.Rows.boot_zip (PyProof.Rows.callWith_type1 (thn (ha.run pos pins s σ H _ I h) fun us s1 ⟨vs, H1, I1, r1, q1⟩ => ?_) hs hpl))
  obtain ⟨k1, k2, k3, a, b, c, xs, ys, zs, ex, hqx, hqy, hqu, q⟩ := q1
  subst ex
  cases r1 with
  | cons r rr =>
    cases rr with
    | cons r' rr =>
      cases rr with
      | cons r'' rr =>
        cases rr
        cases r
        cases r'
        cases r''
        have fresh6 : ∀ c, c ∈ [s1.heap.objs.size + 5, s1.heap.objs.size + 3, s1.heap.objs.size + 4, s1.heap.objs.size, s1.heap.objs.size + 1, s1.heap.objs.size + 2] → FpOk X pins H1 c := fun c hcm => by
          have hle : s1.heap.objs.size ≤ c := by
            have e' : c = s1.heap.objs.size + 5 ∨ c = s1.heap.objs.size + 3 ∨ c = s1.heap.objs.size + 4 ∨ c = s1.heap.objs.size ∨ c = s1.heap.objs.size + 1 ∨ c = s1.heap.objs.size + 2 := by simpa using hcm
            rcases e' with z | z | z | z | z | z <;> rw [z] <;> first | exact Nat.le_add_right _ _ | exact Nat.le_refl _
          exact I1.fpOk hle (I1.hok.fresh hle)
        obtain ⟨its, rv, p1⟩ := Inv_sq I1 hqx
        obtain ⟨its2, rv2, p2⟩ := Inv_sq I1 hqy
        obtain ⟨its3, rv3, p3⟩ := Inv_sq I1 hqu
        refine call_z3 p1 p2 p3 fun h' hz hTI hTO h1 h2 h3 hk => wpAny_pyIter_zip hz ?_
        have I2 : Inv X pins σ H1 { s1 with heap := h' } := I1.kept (t' := s1.toks) hk
        obtain ⟨_, q1⟩ := p1.get
        obtain ⟨_, q2⟩ := p2.get
        obtain ⟨_, q3⟩ := p3.get
        exact ⟨s1.heap.objs.size + 5, [s1.heap.objs.size + 5, s1.heap.objs.size + 3, s1.heap.objs.size + 4, s1.heap.objs.size, s1.heap.objs.size + 1, s1.heap.objs.size + 2], _, _, H1, rfl, I2,
          turn_z3 (ap3_new (Heap.lt_size q1) (Heap.lt_size q2) (Heap.lt_size q3)), ⟨hz, hTI, ⟨_, _, _, hTO⟩, h1, h2, h3⟩, fresh6, q⟩

/-! ### by the evaluator -/
theorem zip3_len : ∀ (xs ys zs : List D), (zip3 xs ys zs).length = min xs.length (min ys.length zs.length)
  | [], _, _ => by simp [zip3]
  | _ :: _, [], _ => by simp [zip3]
  | _ :: _, _ :: _, [] => by simp [zip3]
  | x :: xs, y :: ys, z :: zs => by simp only [zip3, List.length_cons, zip3_len xs ys zs]; omega
theorem zip3_get : ∀ (xs ys zs : List D) (i : Nat) (x y z : D), xs[i]? = some x → ys[i]? = some y → zs[i]? = some z → (zip3 xs ys zs)[i]? = some (.tup [x, y, z])
  | [], _, _, _, _, _, _, h, _, _ => by simp at h
  | _ :: _, [], _, _, _, _, _, _, h, _ => by simp at h
  | _ :: _, _ :: _, [], _, _, _, _, _, _, h => by simp at h
  | x :: xs, y :: ys, z :: zs, 0, _, _, _, h, k, j => by simp at h k j; subst h k j; rfl
  | x :: xs, y :: ys, z :: zs, i + 1, _, _, _, h, k, j => by simp only [zip3, List.getElem?_cons_succ] at *; exact zip3_get xs ys zs i _ _ _ h k j
theorem seq_src {K : PySem.W.Frag} {F : Nat → Addr} {ω : Wd} {d : D} {v : V} {xs : List D} (r : Rep K F ω d v) (h : seqO d = some xs) : ∃ k a vs, v = .ref a ∧ (∀ ω', Le ω ω' → SqK K k ω'.H a vs) ∧ Reps K F ω xs vs := by
  cases d with
  | tup ys => cases h; obtain ⟨a, vs, rfl, s1, _, r⟩ := Rep.tup_inv r; exact ⟨.t, a, vs, rfl, fun ω' l => (s1.le l).sq, r⟩
  | lst ys => cases h; obtain ⟨a, vs, rfl, s1, _, r⟩ := Rep.lst_inv r; exact ⟨.l, a, vs, rfl, fun ω' l => .inl (s1.le l).2, r⟩
  | kl ys => cases h; obtain ⟨a, vs, rfl, s1, _, r⟩ := Rep.kl_inv r; exact ⟨.l, a, vs, rfl, fun ω' l => (s1.le l).sq, r⟩
  | _ => cases h
theorem Wk.tris {K : PySem.W.Frag} {F : Nat → Addr} {ω : Wd} {k1 k2 k3 : Sk} {a b c : Addr} {xs ys zs : List D} {vs us ws : List V} (s1 : ∀ ω', Le ω ω' → SqK K k1 ω'.H a vs) (s2 : ∀ ω', Le ω ω' → SqK K k2 ω'.H b us) (s3 : ∀ ω', Le ω ω' → SqK K k3 ω'.H c ws)
    (r1 : Reps K F ω xs vs) (r2 : Reps K F ω ys us) (r3 : Reps K F ω zs ws) : Wk K F (Itz3 K k1 k2 k3 a b c) (zip3 xs ys zs) ω := by
  have hl : (zip3 xs ys zs).length = min vs.length (min us.length ws.length) := by rw [zip3_len, r1.len, r2.len, r3.len]
  refine ⟨fun ω' l i hi => ?_, fun ω' l => ⟨vs, us, ws, s1 ω' l, s2 ω' l, s3 ω' l, by rw [hl]; omega⟩, fun P ω' A i x H' l hr hi y => ?_⟩
  · rw [hl] at hi
    exact ⟨vs, us, ws, vs[i]'(by omega), us[i]'(by omega), ws[i]'(by omega), s1 ω' l, s2 ω' l, s3 ω' l, List.getElem?_eq_getElem _, List.getElem?_eq_getElem _, List.getElem?_eq_getElem _⟩
  · obtain ⟨T, x1, y1, z1, rfl, nT, rfl, h1, h2, h3⟩ := y
    obtain ⟨d1, g1, q1⟩ := r1.get' (h1 _ (s1 ω' l))
    obtain ⟨d2, g2, q2⟩ := r2.get' (h2 _ (s2 ω' l))
    obtain ⟨d3, g3, q3⟩ := r3.get' (h3 _ (s3 ω' l))
    have ln := Le.new (u := .tup [x1, y1, z1]) ω' nT
    exact ⟨_, ω'.new T (.tup [x1, y1, z1]), zip3_get xs ys zs i d1 d2 d3 g1 g2 g3, rfl, ln, Pk.new nT hr.ptrk, hr.new nT,
      .tup upd_same (by rw [sizeLine_eq]; show 3 ≤ 16777216; decide) (.cons ((q1.le l).le ln) (.cons ((q2.le l).le ln) (.cons ((q3.le l).le ln) .nil)))⟩
section
variable {X : Cx} {F : Nat → Addr} {U : Xh} {a b c : Expr} {fa fb fc : Env → AH → Res D} {pos p : Pos}
theorem pi_zip3M {elts : List Expr} {kk : Nat} {tpos : Pos} (hg : Gl X "zip") (hm : X.mg "zip" = none) (ha : PE X a (tM X.K F U fa)) (hb : PE X b (tM X.K F U fb)) (hc : PE X c (tM X.K F U fc))
    (hs3 : starEach [a, b, c] X.env = (false, eval a X.env) :: starEach [b, c] X.env) (hs4 : starEach [b, c] X.env = (false, eval b X.env) :: starEach [c] X.env) (hs5 : starEach [c] X.env = (false, eval c X.env) :: starEach [] X.env) (hpl : (backTo pos (starEach [b, c] X.env)).any (·.1) = false) :
    PI X (.Tuple elts kk tpos) (.Call (.Name "zip" p) [a, b, c] [] pos) (iM X.K F U fun env A => bnd (fa env A) fun x A => bnd (fb env A) fun y A => bnd (fc env A) fun z A =>
      bnd (ofO (seqO x) A) fun xs A => bnd (ofO (seqO y) A) fun ys A => bnd (ofO (seqO z) A) fun zs A => .ok (zip3 xs ys zs) A) :=
  (pi_zip3 hg hm (pa_cons ha (pa_cons hb (pa_cons hc pa_nil hs5) hs4) hs3) hs3 hpl).imp fun σ H R h => by
    obtain ⟨P, ω, env, A, rfl, hr, er, o⟩ := h
    refine ⟨P, ω, env, A, rfl, hr, er, o.bnd.imp fun d ω1 A1 l k hr1 o1 v rv => ⟨P, ω1, env, A1, rfl, hr1, er.le l, o1.bnd.imp fun e ω2 A2 l2 k2 hr2 o2 u ru => ⟨P, ω2, env, A2, rfl, hr2, (er.le l).le l2, o2.bnd.imp fun d3 ω3 A3 l3 k3 hr3 o3 v3 rv3 => ?_⟩⟩⟩
    obtain ⟨xs, e1, p3⟩ := o3.bnd.ofO
    have p4 := p3.here hr3
    obtain ⟨ys, e2, p5⟩ := p4.bnd.ofO
    have p6 := p5.here hr3
    obtain ⟨zs, e3, p7⟩ := p6.bnd.ofO
    have p8 : Out X.K F U P ω3 (.ok (zip3 xs ys zs) A3) _ := p7.here hr3
    obtain ⟨ka, aa, va, rfl, sa, ra⟩ := seq_src ((rv.le l2).le l3) e1
    obtain ⟨kb, ab, vb, rfl, sb, rb⟩ := seq_src (ru.le l3) e2
    obtain ⟨kc, ac, vc, rfl, sc, rc⟩ := seq_src rv3 e3
    exact ⟨ka, kb, kc, aa, ab, ac, va, vb, vc, rfl, sa ω3 (Le.refl _), sb ω3 (Le.refl _), sc ω3 (Le.refl _), p8.here hr3 _ (Wk.tris sa sb sc ra rb rc)⟩
/-- list(x), to be changed -/
theorem pe_lstOfM (hg : Gl X "list") (hm : X.mg "list" = none) (ha : PE X a (tM X.K F U fa)) (hs : starEach [a] X.env = (false, eval a X.env) :: starEach [] X.env) (hpl : (backTo pos (starEach [] X.env)).any (·.1) = false) :
    PE X (.Call (.Name "list" p) [a] [] pos) (tM X.K F U fun env A => bnd (fa env A) fun x A => bnd (ofO (seqO (shal A x)) A) fun xs A => .ok (.ref A.length) (A ++ [.lst xs])) :=
  (pe_callTy call_list_of hg hm boot_list (pa_cons ha pa_nil hs) (by decide +kernel) (by decide +kernel) hs hpl).imp fun σ H Q h => by
    obtain ⟨P, ω, env, A, rfl, hr, er, o⟩ := h
    refine ⟨P, ω, env, A, rfl, hr, er, o.bnd.imp fun d ω1 A1 l k hr1 o1 v rv => ?_⟩
    obtain ⟨xs, e1, p1⟩ := o1.bnd.ofO
    have p2 : Out X.K F U P ω1 (.ok (D.ref A1.length) (A1 ++ [O.lst xs])) _ := p1.here hr1
    obtain ⟨q, vs, rfl, s1, hl, r⟩ := seq_list (view hr1 rv) e1
    exact ⟨q, vs, rfl, s1.imp id (·.sq), fun l hl' => p2.newO hr1 l hl' (by simp) ⟨vs, upd_same, hl, r.le (Le.obj ω1 hl')⟩⟩
end
/-! ### list(range(n)) -/
theorem reps_map {K : PySem.W.Frag} {F : Nat → Addr} {ω : Wd} {α : Type} {f : α → D} {g : α → V} (h : ∀ x, Rep K F ω (f x) (g x)) : ∀ l : List α, Reps K F ω (l.map f) (l.map g)
  | [] => .nil
  | x :: l => .cons (h x) (reps_map h l)
theorem upto_mapE (lo : Int) (n : Nat) : upto lo n = (List.range n).map fun j => D.int (lo + (j : Nat)) := by
  refine List.ext_getElem? fun i => ?_
  by_cases h : i < n
  · rw [upto_get n lo i h, List.getElem?_map, List.getElem?_range h]; rfl
  · rw [List.getElem?_eq_none (by rw [upto_len]; omega), List.getElem?_eq_none (by simp; omega)]
section
variable {X : Cx} {F : Nat → Addr} {U : Xh} {a : Expr} {fa : Env → AH → Res D} {pos p p2 pos2 : Pos}
theorem pe_lrngM (hc : X.calm = true) (hg : Gl X "list") (hm : X.mg "list" = none) (hg2 : Gl X "range") (hm2 : X.mg "range" = none) (ha : PE X a (tM X.K F U fa)) (hs : starEach [a] X.env = (false, eval a X.env) :: starEach [] X.env) :
    PE X (.Call (.Name "list" p) [.Call (.Name "range" p2) [a] [] pos2] [] pos) (tM X.K F U fun env A => bnd (fa env A) fun x A => match x with
    | .int j => if rngOk j ∧ j ≤ lim then .ok (.lst (upto 0 j.toNat)) A else .bad
    | _ => .bad) :=
  (pe_listRg hc hg hm (prg_1 hg2 hm2 ha hs) rfl).imp fun σ H Q h => by
    obtain ⟨P, ω, env, A, rfl, hr, er, o⟩ := h
    refine ⟨P, ω, env, A, rfl, hr, er, o.bnd.imp fun d ω1 A1 l k hr1 o1 v rv => ?_⟩
    cases d with
    | int j =>
      obtain rfl := Rep.int_inv rv
      dsimp only at o1
      split at o1
      · rename_i hj
        obtain ⟨⟨h1, h2⟩, h3⟩ := hj
        have h3 : j ≤ 16777216 := h3
        refine ⟨j, rfl, ⟨by omega, by omega, h1, h2, by omega⟩, fun q hq => ?_⟩
        refine o1.newL hr1 ?_ ?_ q hq
        · rw [upto_mapE]
          unfold rgV
          rw [Int.sub_zero]
          exact reps_map (fun x => .int _) _
        · rw [rgV_length, sizeLine_eq]; omega
      · exact o1.elim
    | _ => exact o1.elim
end
end Ev

set_option maxRecDepth 100000
/-! Ev12: the check of the evaluator's syntax against the text: side conditions; calls with keywords; comprehensions -/
namespace Ev
open PySem PySem.Spec L2

def visC (sc : Scope) (x : Str) : Bool := match sc.names.lookup x with
  | some .local => true
  | some .cell => true
  | some .free => true
  | _ => false
def locC (sc : Scope) (x : Str) : Bool := match sc.names.lookup x with
  | some .local => true
  | some .cell => true
  | _ => false
def ownC (sc : Scope) (x : Str) : Bool := match sc.names.lookup x with
  | some .local => true
  | _ => false
def gloC (sc : Scope) (x : Str) : Bool := match sc.names.lookup x with
  | some .globalImplicit => true
  | _ => false
def dbg (x : Str) : Bool := x == Str.ofString "__debug__"
def cld (x : Str) : Bool := x == Str.ofString "__classdict__"
theorem visC_of {sc : Scope} {x : Str} (h : visC sc x = true) : Vis sc x := by
  unfold visC at h
  split at h
  · exact .inl (by assumption)
  · exact .inr (.inl (by assumption))
  · exact .inr (.inr (by assumption))
  · cases h
theorem locC_of {sc : Scope} {x : Str} (h : locC sc x = true) : Loc sc x := by
  unfold locC at h
  split at h
  · exact .inl (by assumption)
  · exact .inr (by assumption)
  · cases h
theorem ownC_of {sc : Scope} {x : Str} (h : ownC sc x = true) : sc.names.lookup x = some .local := by
  unfold ownC at h
  split at h
  · assumption
  · cases h
theorem gloC_of {X : Cx} {x : Str} (h : gloC X.env.scope x = true) : Gl X x := by
  unfold gloC at h
  split at h
  · assumption
  · cases h

/-! ### forms without marks -/
def noStar : Expr → Bool
  | .Starred _ _ => false
  | _ => true
def noSet : Expr → Bool
  | .Set _ _ _ => false
  | _ => true
def noSlc : Expr → Bool
  | .Slice _ _ _ _ => false
  | _ => true
def noCall : Expr → Bool
  | .Call _ _ _ _ => false
  | _ => true
def noComp : Expr → Bool
  | .ListComp _ _ _ _ => false
  | .SetComp _ _ _ _ => false
  | .DictComp _ _ _ _ _ => false
  | _ => true
def noTup : Expr → Bool
  | .Tuple _ _ _ => false
  | .List _ _ => false
  | _ => true
def noName : Expr → Bool
  | .Name _ _ => false
  | _ => true
/-- isTrue has no form of its own for it -/
def plainT : Expr → Bool
  | .UnaryOp _ _ _ => false
  | .BoolOp _ _ _ => false
  | .IfExp _ _ _ _ => false
  | .Compare _ _ _ _ => false
  | _ => true
theorem star_cons {a : Expr} {es : List Expr} {env : PySem.Env} (h : noStar a = true) : starEach (a :: es) env = (false, eval a env) :: starEach es env := by
  cases a <;> first | rfl | cases h
theorem star_any : ∀ {es : List Expr} {env : PySem.Env}, es.all noStar = true → ∀ x ∈ starEach es env, x.1 = false
  | [], env, _, x, hx => by rw [show starEach [] env = [] from rfl] at hx; cases hx
  | a :: es, env, h, x, hx => by
    simp only [List.all_cons, Bool.and_eq_true] at h
    rw [star_cons h.1] at hx
    rcases List.mem_cons.mp hx with e | hx
    · rw [e]
    · exact star_any h.2 x hx
theorem back_any {es : List Expr} {env : PySem.Env} {pos : Pos} (h : es.all noStar = true) : (backTo pos (starEach es env)).any (·.1) = false := by
  unfold backTo
  rw [List.any_map, List.any_eq_false]
  intro x hx
  have := star_any h x hx
  simp [this]
theorem ass_cons {a : Expr} {es : List Expr} {env : PySem.Env} (h : noStar a = true) : assignEach (a :: es) env = (false, assign a env) :: assignEach es env := by
  cases a <;> first | rfl | cases h
theorem ass_len : ∀ {es : List Expr} {env : PySem.Env}, es.all noStar = true → (assignEach es env).length = es.length
  | [], _, _ => rfl
  | a :: es, env, h => by
    simp only [List.all_cons, Bool.and_eq_true] at h
    rw [ass_cons h.1, List.length_cons, List.length_cons, ass_len h.2]
theorem ass_find : ∀ {es : List Expr} {env : PySem.Env}, es.all noStar = true → (assignEach es env).findIdx? (·.1) = none
  | [], _, _ => rfl
  | a :: es, env, h => by
    simp only [List.all_cons, Bool.and_eq_true] at h
    rw [ass_cons h.1, List.findIdx?_cons, ass_find h.2]; rfl
theorem fold_none {e : Expr} {env : PySem.Env} (h : noSet e = true) : ∀ x, foldedSetIterable e env x = pure x := by
  intro x; cases e <;> first | rfl | cases h
theorem behind_none {op : CmpOp} {e : Expr} (h : noSet e = true) : behindInMarks op e = false := by
  cases e <;> first | rfl | cases h
theorem plainIx_of {e : Expr} (h : noSlc e = true) : PlainIx e := by
  intro o i; cases e <;> first | rfl | cases h
theorem sub_plain {a b : Expr} {pos : Pos} {env : PySem.Env} (h : noSlc b = true) : ∀ v, assign (.Subscript a b pos) env v = (do
      let ov ← holding [v] (eval a env)
      let iv ← holding [v, ov] (eval b env)
      standAt pos
      holding [v, ov, iv] (setItem ov iv v)
      release [v, ov, iv] []) := by
  intro v; cases b <;> first | rfl | cases h
theorem attr_base {o : Expr} {s : Str} {env : PySem.Env} {m : Sem Value} (h : noCall o = true) : attributeBase o s env m = m := by
  cases o <;> first | rfl | cases h
theorem true_plain {e : Expr} {env : PySem.Env} (h : plainT e = true) : ∀ whole, isTrue e env whole = (do let v ← whole; standAt e.pos; holding [v] (truthy v)) := by
  intro whole; cases e <;> first | rfl | cases h
theorem swaps_none {e : Expr} {t : Option Expr} {l : Nat} {env : PySem.Env} (h : noComp e = true) : swapsWith e t l env = pure false := by
  cases e <;> first | rfl | cases h
theorem swaps_tgt {e t : Expr} {l : Nat} {env : PySem.Env} (h : noName t = true) : swapsWith e (some t) l env = pure false := by
  cases e <;> first | rfl | (cases t <;> first | rfl | cases h)
theorem swapped_none {t e : Expr} {env : PySem.Env} (h : noTup t = true ∨ noTup e = true) : swappedStores [t] e env = pure none := by
  rcases h with h | h
  · cases t <;> first | rfl | cases h
  · cases t <;> first | rfl | (cases e <;> first | rfl | cases h)

/-! ### the context -/
structure Tb where
  fns : List (Str × List Str)
  gis : List (Str × Int)
  blts : List Str
  kws : List (Nat × Nat × List Str × List Nat)
  errs : List (Str × Nat) := []
  trs : List (Str × List Nat) := []
structure Ct where
  T : Tb
  N : List Str
  sc : Scope
  fn : Str → Bool
  calm : Bool := true
  top : Bool := true
  sui : Bool := false
def Ct.blk (ct : Ct) (scope : Scope) : Ct := { ct with sc := relS scope ct.sc, fn := fun x => scope.names.lookup x == some .cell, top := false, sui := false }
/-- within a try; within an except suite -/
def Ct.body (ct : Ct) : Ct := { ct with top := false, sui := false }
def Ct.suite (ct : Ct) : Ct := { ct with calm := false, top := false, sui := true }
/-- the arguments by places -/
def placeV {α : Type} (ds ks : List α) (ix : List Nat) : List α := ds ++ (List.range ks.length).filterMap fun j => (ix.idxOf? (ds.length + j)).bind fun p => ks[p]?
def KwB (fd : FuncData) (ps : List Str) (m : Nat) (ks : List Str) (ix : List Nat) : Prop :=
  ∀ (s : Shared) (us ws : List Value), us.length = m → ws.length = ks.length → BindsTo s fd ⟨us, ks.zip ws⟩ (ps.zip (placeV us ws ix))
/-- a def, as its callers want it -/
structure FnG (ct : Ct) (F : Nat → Addr) (cl : Cl) (X : Cx) (k : Nat) (i : Nat) (x : Str) (ps : List Str) : Prop where
  ex : ∃ fd, FnOkG X.prog X.w X.K X.mg X.base k (F i) fd ps (spM X.K F ps.length (cl i)) ∧ Binds X.K fd ps [] ∧ ∀ q ∈ ct.T.kws, q.1 = i → KwB fd ps q.2.1 q.2.2.1 q.2.2.2
  mg : X.mg x = some (.ref (F i))
  kp : PySem.W.keepIn X.K (.ref (F i)) = true
/-- the value of a class's name -/
structure NmV (mg : Str → Option Value) (x : Str) (cV : V) (cv : Value) : Prop where
  nm : (mg x = some cv) ∨ (mg x = none ∧ bootBuiltins x = some cv ∧ x ≠ "__name__")
  db : (x == ("__debug__" : Str)) = false
  rel : RelV cV cv
  uq : ∀ u, RelV cV u → u = cv
/-- what the names in except clauses, in isinstance take -/
def TrOk (K : PySem.W.Frag) (mg : Str → Option Value) (F : Nat → Addr) (trs : List (Str × List Nat)) : Prop := ∀ q ∈ trs, ∃ cV cv, NmV mg q.1 cV cv ∧
  ∀ c, F (3000000 + c) = 1 → PySem.W.exmOne K (.ref (F (1000000 + c))) cv = some (q.2.contains c) ∧ PySem.W.kitOne K (.ref (F (1000000 + c))) cv = some (q.2.contains c)
structure Good (ct : Ct) (F : Nat → Addr) (U : Xh) (cl : Cl) (X : Cx) : Prop where
  sc : X.env.scope = ct.sc
  kind : X.env.scope.kind = .function
  N : X.N = ct.N
  nd : X.N.Nodup
  calm : ct.calm = true → X.calm = true
  fn : ∀ x, ct.fn x = true → X.fn x = true
  tk : TkU X F U
  own : PassesOwn (model X.prog X.w) X.A X.env X.xe
  hu : X.A.units + 65 < cLine
  gd : X.A.guards = some []
  k : ct.calm = true → ∃ k, Room k X.A ∧ ∀ (i : Nat) (x : Str) (ps : List Str), ct.T.fns[i]? = some (x, ps) → FnG ct F cl X k i x ps
  er : ct.calm = true → ∃ k, Room (k + 1) X.A ∧ ∀ q ∈ ct.T.errs, (q.2 < 1000 ∧ F (3000000 + q.2) = 1) ∧ ∃ fld, excF q.2 = some fld ∧ ErrM X k q.1 (F (1000000 + q.2)) fld
  big : ∀ (f : Nat) (ds : List D) (A : AH), (∀ x ps, ct.T.fns[f]? = some (x, ps) → ds.length ≠ ps.length) → cl f ds A = .bad
  gis : ∀ q ∈ ct.T.gis, ∃ t, X.mg q.1 = some (.int q.2 t)
  blts : ∀ x ∈ ct.T.blts, X.mg x = none
  top : ct.top = true → X.stack = X.env :: X.outer ∧ X.env.frame = some X.env.locals ∧ F 2000000 ≠ 1
  tr : ct.top = true → ErrT X.K F ∧ TrOk X.K X.mg F ct.T.trs
  sui : ct.sui = true → ∃ (X0 : Cx) (F0 : Nat → Addr) (a : Addr) (oe : Obj) (C : Addr) (d : Option Addr) (pn : List (Addr × Obj)), X = X0.suite a ((a, oe) :: pn) ∧ F = Fs F0 a d (.ref C) ∧ Zc (.ref C) d oe ∧ (∃ vs, oe.data = .fields vs) ∧ ErrT X0.K F0 ∧ TrOk X0.K X0.mg F0 ct.T.trs
theorem tk_none {X : Cx} {F : Nat → Addr} : TkU X F U0 := fun _ _ x => by
  obtain ⟨_, _, _, _, _, _, _, _, _, _, _, _, _, _, _, _, _, _, _, _, _, z⟩ := x
  exact z.elim
section
variable {ct : Ct} {F : Nat → Addr} {U : Xh} {cl : Cl} {X : Cx}
theorem Good.blk (g : Good ct F U cl X) (hc : ct.calm = true) {scope : Scope} (hk : scope.kind = .function) (s : Shared) (H : Hp) (C : Addr) (cs : List (Str × Addr)) (fp : List Addr) : Good (ct.blk scope) F U0 cl (X.blk s H scope (compEnvC scope cs C X.env) fp) :=
  ⟨by show relS scope X.env.scope = _; rw [g.sc]; rfl, hk, g.N, g.nd, g.calm, fun x h => h, tk_none, PassesOwn.never, g.hu, g.gd,
    fun hc => let ⟨k, hr, h⟩ := g.k hc; ⟨k, hr, fun i x ps e => ⟨(h i x ps e).ex, (h i x ps e).mg, (h i x ps e).kp⟩⟩,
    fun hc => let ⟨k, hr, h⟩ := g.er hc; ⟨k, hr, fun q hq => let ⟨h1, fld, h2, h3⟩ := h q hq; ⟨h1, fld, h2, ⟨h3.gC, h3.oex, h3.noF, h3.init⟩⟩⟩, g.big, g.gis, g.blts, (fun z => by cases z), (fun z => by cases z), (fun z => by cases z)⟩
theorem Good.body (g : Good ct F U cl X) {pn : List (Addr × Obj)} {xe : Value → Shared → Prop} {U' : Xh} (tk : TkU (X.tr pn xe) F U') (po : PassesOwn (model X.prog X.w) X.A X.env xe) : Good ct.body F U' cl (X.tr pn xe) :=
  ⟨g.sc, g.kind, g.N, g.nd, g.calm, g.fn, tk, po, g.hu, g.gd, fun hc => let ⟨k, hr, h⟩ := g.k hc; ⟨k, hr, fun i x ps e => ⟨(h i x ps e).ex, (h i x ps e).mg, (h i x ps e).kp⟩⟩,
    fun hc => let ⟨k, hr, h⟩ := g.er hc; ⟨k, hr, fun q hq => let ⟨h1, fld, h2, h3⟩ := h q hq; ⟨h1, fld, h2, ⟨h3.gC, h3.oex, h3.noF, h3.init⟩⟩⟩, g.big, g.gis, g.blts, (fun z => by cases z), (fun z => by cases z), fun z => by cases z⟩
theorem Good.gl (g : Good ct F U cl X) {x : Str} (h : gloC ct.sc x = true) : Gl X x := gloC_of (by rw [g.sc]; exact h)
end

/-! ### calls with keywords -/
theorem _root_.L2.PK.imp {X : Cx} {e : List Keyword} {t t' : TA} (h : PK X e t) (i : ∀ σ H Q, t' σ H Q → t σ H Q) : PK X e t' := ⟨fun pos pins s σ H Q I q => h.run pos pins s σ H Q I (i σ H Q q)⟩
theorem placeV_vals {us : List Value} {vs : List V} {ws : List Value} {zs : List V} {ix : List Nat} (r : Vals vs us) (rz : Vals zs ws) : Vals (placeV vs zs ix) (placeV us ws ix) := by
  unfold placeV
  rw [r.length, rz.length]
  refine r.append ?_
  generalize List.range ws.length = l
  induction l with
  | nil => exact .nil
  | cons j l ih =>
    simp only [List.filterMap_cons]
    cases e : ix.idxOf? (us.length + j) with
    | none => exact ih
    | some p =>
      simp only [Option.bind_some]
      cases e2 : zs[p]? with
      | none => rw [rz.none_of e2]; exact ih
      | some z =>
        obtain ⟨u, h1, h2⟩ := rz.get e2
        rw [h1]
        exact .cons h2 ih
theorem placeV_reps {K : PySem.W.Frag} {F : Nat → Addr} {ω : Wd} {ds ks : List D} {vs zs : List V} {ix : List Nat} (r : Reps K F ω ds vs) (rz : Reps K F ω ks zs) : Reps K F ω (placeV ds ks ix) (placeV vs zs ix) := by
  unfold placeV
  rw [r.len, rz.len]
  refine r.app ?_
  generalize List.range zs.length = l
  induction l with
  | nil => exact .nil
  | cons j l ih =>
    simp only [List.filterMap_cons]
    cases e : ix.idxOf? (vs.length + j) with
    | none => exact ih
    | some p =>
      simp only [Option.bind_some]
      cases e2 : ks[p]? with
      | none =>
        have e3 : zs[p]? = none := by
          rw [List.getElem?_eq_none_iff] at e2 ⊢; rw [← rz.len]; exact e2
        rw [e3]; exact ih
      | some z =>
        obtain ⟨u, h1, h2⟩ := rz.get e2
        rw [h1]
        exact .cons h2 ih
theorem placed_eq (ds ks : List D) (ix : List Nat) : placed ds ks ix = placeV ds ks ix := rfl
section
variable {X : Cx} {F : Nat → Addr} {U : Xh} {a : Expr} {fa : Env → AH → Res D} {pos p : Pos}
theorem pk_nilM : PK X [] (tMs X.K F U fun _ A => .ok [] A) := pk_nil.imp fun σ H Q h => by
  obtain ⟨P, ω, env, A, rfl, hr, er, o⟩ := h
  exact o.here hr [] .nil
theorem pk_consM {kws : List Keyword} {nm : Option Str} {kpos : Pos} {fs : Env → AH → Res (List D)} (ha : PE X a (tM X.K F U fa)) (hr : PK X kws (tMs X.K F U fs)) :
    PK X (⟨nm, a, kpos⟩ :: kws) (tMs X.K F U fun env A => bnd (fa env A) fun d A => bnd (fs env A) fun ds A => .ok (d :: ds) A) := (pk_cons ha hr).imp fun σ H Q h => by
  obtain ⟨P, ω, env, A, rfl, hr, er, o⟩ := h
  exact ⟨P, ω, env, A, rfl, hr, er, o.bnd.imp fun d ω1 A1 l k hr1 o1 v rv => ⟨P, ω1, env, A1, rfl, hr1, er.le l, o1.bnd.imp fun ds ω2 A2 l2 k2 hr2 o2 vs rvs => o2.here hr2 _ (.cons (rv.le l2) rvs)⟩⟩
def kwN (kws : List Keyword) : List (Option Str) := kws.map fun k => match k with | ⟨n, _, _⟩ => n
theorem kw_all {env : PySem.Env} {pos : Pos} : ∀ {kws : List Keyword} {ks : List Str}, kwN kws = ks.map some → (backToKw pos (keywordEach kws env)).all (·.1.isSome) = true ∧ (backToKw pos (keywordEach kws env)).filterMap (·.1) = ks ∧ (backToKw pos (keywordEach kws env)).any (·.1.isNone) = false
  | [], ks, h => by cases ks with
    | nil => exact ⟨rfl, rfl, rfl⟩
    | cons _ _ => cases h
  | ⟨n, e, kp⟩ :: kws, ks, h => by
    cases ks with
    | nil => cases h
    | cons k ks =>
      simp only [kwN, List.map_cons, List.cons.injEq] at h
      obtain ⟨h1, h2, h3⟩ := kw_all (env := env) (pos := pos) (kws := kws) (ks := ks) h.2
      obtain ⟨rfl, _⟩ := h
      have e : backToKw pos (keywordEach (⟨some k, e, kp⟩ :: kws) env) = (some k, do let v ← eval e env; standAt pos; pure v) :: backToKw pos (keywordEach kws env) := rfl
      rw [e]
      refine ⟨?_, ?_, ?_⟩
      · rw [List.all_cons, h1]; rfl
      · rw [List.filterMap_cons, h2]
      · rw [List.any_cons, h3]; rfl
theorem run_kw {E : XK} {k : Nat} {f : Addr} {fd : FuncData} {ps ks : List Str} {sp : Sp} {m : Nat} {ix : List Nat} {pins : List (Addr × Obj)} {σ : St} {H : Hp} {s : Shared} {Q : VK} {us ws : List Value} {vs zs : List V} (G : FnOkG X.prog X.w X.K X.mg X.base k f fd ps sp) (hgd : X.A.guards = some []) (hx : Passes (L2.CX X.prog X.w) X E) (hr : Room k X.A) (hb : KwB fd ps m ks ix)
    (I : Inv X pins σ H s) (r : Vals vs us) (rz : Vals zs ws) (l1 : us.length = m) (l2 : ws.length = ks.length) (h : sp (placeV vs zs ix) H Q E) : wpAny (model X.prog X.w) X.A (call (.ref f) us (ks.zip ws)) (EP X pins σ Q) X.xe s := by
  refine wpAny_call (codeAny_mono (G.run X.A hgd X.stack s H ⟨us, ks.zip ws⟩ (placeV us ws ix) (placeV vs zs ix) Q _ hr I.env0 (hb s us ws l1 l2) (placeV_vals r rz) h) fun r s' hq => ?_)
  cases r with
  | error e => exact hx _ _ _ _ _ _ I hq
  | ok fl =>
    cases fl with
    | ret u => exact I.after hq
    | next => exact False.elim hq
    | brk => exact False.elim hq
    | cont => exact False.elim hq
/-- the keywords' part of a call -/
theorem kw_part {k : Nat} {f : Addr} {fd : FuncData} {ps ks : List Str} {m : Nat} {ix : List Nat} {kws : List Keyword} {gs : Env → AH → Res (List D)} {g : List D → AH → Res D} {pins : List (Addr × Obj)} {σ : St} {Q : VK}
    (G : FnOkG X.prog X.w X.K X.mg X.base k f fd ps (spM X.K F ps.length g)) (hgd : X.A.guards = some []) (tk : TkU X F U) (hr : Room k X.A) (hb : KwB fd ps m ks ix)
    (hkw : PK X kws (tMs X.K F U gs)) (hks : kwN kws = ks.map some)
    (hn2 : ∀ env A ds A', gs env A = .ok ds A' → ds.length = ks.length) (hp : ∀ ds ws : List D, ds.length = m → ws.length = ks.length → (placeV ds ws ix).length = ps.length)
    {us : List Value} {s1 : Shared} {vs : List V} {H1 : Hp} (I1 : Inv X pins σ H1 s1) (r : Vals vs us)
    (q : ∃ P ω env A ds, ω.H = H1 ∧ HR X.K F P ω A ∧ EnvR X.K F ω env σ ∧ Reps X.K F ω ds vs ∧ ds.length = m ∧ Out X.K F U P ω (bnd (gs env A) fun ws A => g (placed ds ws ix) A) (fin X.K F Q)) :
    wpAny (model X.prog X.w) X.A (evalAll ((backToKw pos (keywordEach kws X.env)).map (·.2))) (fun ws s₂ => X.K.In s₂.heap ∧ wpAny (model X.prog X.w) X.A (call (.ref f) ([] ++ us) (((backToKw pos (keywordEach kws X.env)).filterMap (·.1)).zip ws)) (EP X pins σ Q) X.xe s₂) X.xe s1 := by
  obtain ⟨P, ω, env, A, ds, rfl, hr1, er, rds, ld, o⟩ := q
  obtain ⟨_, h2, _⟩ := kw_all (env := X.env) (pos := pos) hks
  refine thn (hkw.run pos pins s1 σ ω.H (fun zs H2 => zs.length = ks.length ∧ spM X.K F ps.length g (placeV vs zs ix) H2 Q (EU X.K F U)) I1 ⟨P, ω, env, A, rfl, hr1, er, ?_⟩) fun ws s2 ⟨zs, H2, I2, rz, lz, q2⟩ => ⟨I2.kIn, ?_⟩
  · cases e : gs env A with
    | ok ws A' =>
      have el := hn2 _ _ _ _ e
      rw [e] at o
      intro ω1 l k hr2 zs rzs
      refine ⟨by rw [← rzs.len]; exact el, ?_, P, ω1, A', placeV ds ws ix, rfl, hr2, placeV_reps (rds.le l) rzs, Out.mapU UE_EU (Out.le l k o)⟩
      rw [← (placeV_reps (rds.le l) rzs).len]
      exact hp _ _ ld el
    | exc _ _ _ => rw [e] at o; exact o
    | bad => rw [e] at o; exact o.elim
  · rw [h2, List.nil_append]
    exact run_kw G hgd tk.pass hr hb I2 r rz (by rw [← r.length, ← rds.len]; exact ld) (by rw [← rz.length]; exact lz) q2
theorem pe_callKM {k : Nat} {f : Addr} {fd : FuncData} {ps ks : List Str} {m : Nat} {ix : List Nat} {x : Str} {es : List Expr} {kws : List Keyword} {fs gs : Env → AH → Res (List D)} {g : List D → AH → Res D}
    (G : FnOkG X.prog X.w X.K X.mg X.base k f fd ps (spM X.K F ps.length g)) (hgd : X.A.guards = some []) (tk : TkU X F U) (hr : Room k X.A) (hg : Gl X x) (hm : X.mg x = some (.ref f)) (hk : PySem.W.keepIn X.K (.ref f) = true) (hb : KwB fd ps m ks ix)
    (ha : PA X (a :: es) (tMs X.K F U fs)) (hkw : PK X kws (tMs X.K F U gs)) (hks : kwN kws = ks.map some) (hdb : dbg x = false) (hst : (a :: es).all noStar = true)
    (hn : ∀ env A ds A', fs env A = .ok ds A' → ds.length = m) (hn2 : ∀ env A ds A', gs env A = .ok ds A' → ds.length = ks.length) (hp : ∀ ds ws : List D, ds.length = m → ws.length = ks.length → (placeV ds ws ix).length = ps.length) :
    PE X (.Call (.Name x p) (a :: es) kws pos) (tM X.K F U fun env A => bnd (fs env A) fun ds A => bnd (gs env A) fun ws A => g (placed ds ws ix) A) := by
  refine ⟨fun pins s σ H Q I h => ?_⟩
  obtain ⟨h1, _, h3⟩ := kw_all (env := X.env) (pos := pos) hks
  have hpl : ((backTo pos (starEach (a :: es) X.env)).any (·.1) || (backToKw pos (keywordEach kws X.env)).any (·.1.isNone)) = false := by rw [back_any hst, h3]; rfl
  refine wpAny_Call_Name_kw (ld_glob I hg hm ?_ hdb)
  obtain ⟨P, ω, env, A, rfl, hr1, er, o⟩ := h
  have o1 : Out X.K F U P ω (fs env A) fun ds ω' A' => ds.length = m ∧ Out X.K F U P ω' (bnd (gs env A') fun ws A => g (placed ds ws ix) A) (fin X.K F Q) := by
    cases e : fs env A with
    | ok ds A' =>
      have el := hn _ _ _ _ e
      dsimp only at o
      rw [e] at o
      exact fun ω1 l k hr2 => ⟨el, Out.le l k o⟩
    | exc _ _ _ => dsimp only at o; rw [e] at o; exact o
    | bad => dsimp only at o; rw [e] at o; exact o.elim
  simp only [List.all_cons, Bool.and_eq_true] at hst
  exact PySem.W.callWith_KW (h₀ := X.base) I.ok.mod.kin hk h1 (thn (ha.run pos pins s σ ω.H _ I ⟨P, ω, env, A, rfl, hr1, er, o1.imp fun ds ω1 A1 l k hr2 q vs rvs => ⟨P, ω1, env, A1, ds, rfl, hr2, er.le l, rvs, q.1, q.2⟩⟩) fun us s1 ⟨vs, H1, I1, r, q⟩ => kw_part G hgd tk hr hb hkw hks hn2 hp I1 r q) hpl (star_cons hst.1)
theorem pe_callK0M {k : Nat} {f : Addr} {fd : FuncData} {ps ks : List Str} {ix : List Nat} {x : Str} {kws : List Keyword} {gs : Env → AH → Res (List D)} {g : List D → AH → Res D}
    (G : FnOkG X.prog X.w X.K X.mg X.base k f fd ps (spM X.K F ps.length g)) (hgd : X.A.guards = some []) (tk : TkU X F U) (hr : Room k X.A) (hg : Gl X x) (hm : X.mg x = some (.ref f)) (hk : PySem.W.keepIn X.K (.ref f) = true) (hb : KwB fd ps 0 ks ix)
    (hkw : PK X kws (tMs X.K F U gs)) (hks : kwN kws = ks.map some) (hdb : dbg x = false)
    (hn2 : ∀ env A ds A', gs env A = .ok ds A' → ds.length = ks.length) (hp : ∀ ds ws : List D, ds.length = 0 → ws.length = ks.length → (placeV ds ws ix).length = ps.length) :
    PE X (.Call (.Name x p) [] kws pos) (tM X.K F U fun env A => bnd (gs env A) fun ws A => g (placed [] ws ix) A) := by
  refine ⟨fun pins s σ H Q I h => ?_⟩
  obtain ⟨h1, _, h3⟩ := kw_all (env := X.env) (pos := pos) hks
  have hpl : ((backTo pos (starEach [] X.env)).any (·.1) || (backToKw pos (keywordEach kws X.env)).any (·.1.isNone)) = false := by rw [h3]; rfl
  refine wpAny_Call_Name_kw (ld_glob I hg hm ?_ hdb)
  obtain ⟨P, ω, env, A, rfl, hr1, er, o⟩ := h
  exact PySem.W.callWith_KW0 (h₀ := X.base) I.ok.mod.kin hk h1 (kw_part G hgd tk hr hb hkw hks hn2 hp (us := []) (vs := []) I .nil ⟨P, ω, env, A, [], rfl, hr1, er, .nil, rfl, o⟩) hpl
end
end Ev

set_option maxRecDepth 100000
/-! Ev13: the check of expressions, and that it suffices -/
namespace Ev
open PySem PySem.Spec L2
def Es.len : Es → Nat
  | .nil => 0
  | .cons _ r => r.len + 1
def Ts.len : Ts → Nat
  | .nil => 0
  | .cons _ r => r.len + 1
theorem evs_len {cl : Cl} : ∀ {es : Es} {env : Env} {A : AH} {ds : List D} {A' : AH}, evs cl es env A = .ok ds A' → ds.length = es.len
  | .nil, env, A, ds, A', h => by simp only [evs] at h; cases h; rfl
  | .cons e r, env, A, ds, A', h => by
    simp only [evs] at h
    obtain ⟨d, A1, h1, h⟩ := bnd_out h
    obtain ⟨ds', A2, h2, h⟩ := bnd_out h
    cases h
    simp [Es.len, evs_len h2]
theorem asgs_len {cl : Cl} : ∀ {ts : Ts} {ds : List D} {env : Env} {A : AH} {env' : Env} {A' : AH}, asgs cl ts ds env A = .ok env' A' → ds.length = ts.len
  | .nil, [], env, A, env', A', h => rfl
  | .nil, _ :: _, env, A, env', A', h => by simp only [asgs] at h; cases h
  | .cons t r, [], env, A, env', A', h => by simp only [asgs] at h; cases h
  | .cons t r, d :: ds, env, A, env', A', h => by
    simp only [asgs] at h
    obtain ⟨d', A1, h1, h⟩ := bnd_out h
    simp [Ts.len, asgs_len h]
theorem place_len {α β : Type} {ds ks : List α} {us ws : List β} {ix : List Nat} (h : ds.length = us.length) (k : ks.length = ws.length) : (placeV ds ks ix).length = (placeV us ws ix).length := by
  unfold placeV
  rw [List.length_append, List.length_append, h, k]
  congr 1
  generalize List.range ws.length = l
  induction l with
  | nil => rfl
  | cons j l ih =>
    simp only [List.filterMap_cons]
    cases e : ix.idxOf? (us.length + j) with
    | none => exact ih
    | some p =>
      simp only [Option.bind_some]
      by_cases hp : p < ks.length
      · rw [List.getElem?_eq_getElem hp, List.getElem?_eq_getElem (k ▸ hp)]
        simp [ih]
      · rw [List.getElem?_eq_none (by omega), List.getElem?_eq_none (by omega)]
        exact ih

def Bop.is : Bop → Operator → Bool
  | .add, .Add => true
  | .sub, .Sub => true
  | .mul, .Mult => true
  | .mod, .Mod => true
  | .fdiv, .FloorDiv => true
  | .pow, .Pow => true
  | _, _ => false
theorem Bop.is_eq {b : Bop} {o : Operator} (h : b.is o = true) : o = b.op := by cases b <;> cases o <;> first | rfl | cases h
def Cop.is : Cop → CmpOp → Bool
  | .eq, .Eq => true
  | .ne, .NotEq => true
  | .lt, .Lt => true
  | .le, .LtE => true
  | .gt, .Gt => true
  | .ge, .GtE => true
  | .isin, .In => true
  | .notin, .NotIn => true
  | _, _ => false
theorem Cop.is_eq {b : Cop} {o : CmpOp} (h : b.is o = true) : o = b.op := by cases b <;> cases o <;> first | rfl | cases h
def isOp (neg : Bool) : CmpOp → Bool
  | .Is => !neg
  | .IsNot => neg
  | _ => false
theorem isOp_eq {neg : Bool} {o : CmpOp} (h : isOp neg o = true) : o = (if neg = true then .IsNot else .Is) := by
  cases neg <;> cases o <;> first | rfl | cases h
def ownP (N : List Str) (own : List Nat) : List (Str × Nat) := own.filterMap fun i => (N[i]?).map fun x => (x, i)
def tyIn : List String := ["int", "bool", "str", "tuple", "list", "dict"]
theorem tyIn_boot : ∀ t ∈ tyIn, bootBuiltins (Str.ofString t) = some (.type t) ∧ Str.ofString t ≠ Str.ofString "__name__" ∧ (Str.ofString t == Str.ofString "__debug__") = false := by
  intro t h
  simp only [tyIn, List.mem_cons, List.not_mem_nil, or_false] at h
  rcases h with rfl | rfl | rfl | rfl | rfl | rfl <;> decide +kernel
def isTuple : Expr → Bool
  | .Tuple _ _ _ => true
  | _ => false
mutual
/-- no calls -/
def E.simp : E → Bool
  | .var _ => true
  | .int _ => true
  | .bl _ => true
  | .non => true
  | .str _ => true
  | .gv _ _ => true
  | .fn _ _ => true
  | .idx a b => a.simp && b.simp
  | .bin _ a b => a.simp && b.simp
  | .tup es => es.simp
  | _ => false
def Es.simp : Es → Bool
  | .nil => true
  | .cons e r => e.simp && r.simp
end
mutual
def T.simp : T → Bool
  | .nm _ => true
  | .tup ts => ts.simp
  | .sub o i => o.simp && i.simp
def Ts.simp : Ts → Bool
  | .nil => true
  | .cons t r => t.simp && r.simp
end
theorem bnd_exc' {α β : Type} {r : Res α} {g : α → AH → Res β} {c : Nat} {d : D} {A : AH} (h : bnd r g = .exc c d A) (h1 : ∀ c d A, r ≠ .exc c d A) : ∃ a A', r = .ok a A' ∧ g a A' = .exc c d A := by
  cases r with
  | ok a A' => exact ⟨a, A', rfl, h⟩
  | exc c' d' A' => exact absurd rfl (h1 _ _ _)
  | bad => cases h
theorem ofO_exc {α : Type} {o : Option α} {A : AH} {c : Nat} {d : D} {A' : AH} : ofO o A ≠ .exc c d A' := by cases o <;> (intro z; cases z)
mutual
theorem ev_simp {cl : Cl} : ∀ {e : E} {env : Env} {A : AH} {c : Nat} {d : D} {A' : AH}, e.simp = true → ev cl e env A ≠ .exc c d A'
  | .var i, env, A, c, d, A', _, z => by simp only [ev] at z; split at z <;> cases z
  | .int _, _, _, _, _, _, _, z => by simp only [ev] at z; cases z
  | .str _, _, _, _, _, _, _, z => by simp only [ev] at z; cases z
  | .gv _ _, _, _, _, _, _, _, z => by simp only [ev] at z; cases z
  | .idx a b, env, A, c, d, A', h, z => by
    simp only [E.simp, Bool.and_eq_true] at h
    simp only [ev] at z
    obtain ⟨x, A1, _, z⟩ := bnd_exc' z fun _ _ _ => ev_simp h.1
    obtain ⟨y, A2, _, z⟩ := bnd_exc' z fun _ _ _ => ev_simp h.2
    exact ofO_exc z
  | .bin _ a b, env, A, c, d, A', h, z => by
    simp only [E.simp, Bool.and_eq_true] at h
    simp only [ev] at z
    obtain ⟨x, A1, _, z⟩ := bnd_exc' z fun _ _ _ => ev_simp h.1
    obtain ⟨y, A2, _, z⟩ := bnd_exc' z fun _ _ _ => ev_simp h.2
    exact ofO_exc z
  | .bl _, _, _, _, _, _, _, z => by simp only [ev] at z; cases z
  | .non, _, _, _, _, _, _, z => by simp only [ev] at z; cases z
  | .fn _ _, _, _, _, _, _, _, z => by simp only [ev] at z; cases z
  | .tup es, env, A, c, d, A', h, z => by
    simp only [E.simp] at h
    simp only [ev] at z
    obtain ⟨x, A1, _, z⟩ := bnd_exc' z fun _ _ _ => evs_simp h
    cases z
theorem evs_simp {cl : Cl} : ∀ {es : Es} {env : Env} {A : AH} {c : Nat} {d : D} {A' : AH}, es.simp = true → evs cl es env A ≠ .exc c d A'
  | .nil, _, _, _, _, _, _, z => by simp only [evs] at z; cases z
  | .cons e r, env, A, c, d, A', h, z => by
    simp only [Es.simp, Bool.and_eq_true] at h
    simp only [evs] at z
    obtain ⟨x, A1, _, z⟩ := bnd_exc' z fun _ _ _ => ev_simp h.1
    obtain ⟨y, A2, _, z⟩ := bnd_exc' z fun _ _ _ => evs_simp h.2
    cases z
end
mutual
theorem asg_simp {cl : Cl} : ∀ {t : T} {x : D} {env : Env} {A : AH} {c : Nat} {d : D} {A' : AH}, t.simp = true → asg cl t x env A ≠ .exc c d A'
  | .nm i, x, env, A, c, d, A', _, z => by simp only [asg] at z; cases z
  | .tup ts, x, env, A, c, d, A', h, z => by
    simp only [T.simp] at h
    simp only [asg] at z
    obtain ⟨xs, A1, _, z⟩ := bnd_exc' z fun _ _ _ => ofO_exc
    exact asgs_simp h z
  | .sub o i, x, env, A, c, d, A', h, z => by
    simp only [T.simp, Bool.and_eq_true] at h
    simp only [asg] at z
    obtain ⟨_, A1, _, z⟩ := bnd_exc' z fun _ _ _ => ev_simp h.1
    obtain ⟨_, A2, _, z⟩ := bnd_exc' z fun _ _ _ => ev_simp h.2
    obtain ⟨_, A3, _, z⟩ := bnd_exc' z fun _ _ _ => ofO_exc
    cases z
theorem asgs_simp {cl : Cl} : ∀ {ts : Ts} {xs : List D} {env : Env} {A : AH} {c : Nat} {d : D} {A' : AH}, ts.simp = true → asgs cl ts xs env A ≠ .exc c d A'
  | .nil, xs, env, A, c, d, A', _, z => by cases xs <;> simp only [asgs] at z <;> cases z
  | .cons t r, [], env, A, c, d, A', _, z => by simp only [asgs] at z; cases z
  | .cons t r, x :: xs, env, A, c, d, A', h, z => by
    simp only [Ts.simp, Bool.and_eq_true] at h
    simp only [asgs] at z
    obtain ⟨_, A1, _, z⟩ := bnd_exc' z fun _ _ _ => asg_simp h.1
    exact asgs_simp h.2 z
end
mutual
def chkE (ct : Ct) : E → Expr → Bool
  | .var i, a => match a with
    | .Name x _ => decide (ct.N[i]? = some x) && visC ct.sc x && !dbg x && !cld x
    | _ => false
  | .int i, a => match a with
    | .Constant (.int j) _ _ => decide (i = j)
    | _ => false
  | .bl b, a => match a with
    | .Constant (.bool c) _ _ => decide (b = c)
    | _ => false
  | .non, a => match a with
    | .Constant .none _ _ => true
    | _ => false
  | .str s, a => match a with
    | .Constant (.str t) _ _ => decide (s = t) && decide (s.length ≤ lim)
    | _ => false
  | .gv x i, a => match a with
    | .Name y _ => decide (x = y) && gloC ct.sc x && ct.T.gis.any (fun q => decide (q = (x, i))) && !dbg x
    | _ => false
  | .ty t, a => match a with
    | .Name y _ => decide (y = Str.ofString t) && tyIn.contains t && gloC ct.sc y && ct.T.blts.any (fun q => decide (q = y))
    | _ => false
  | .fn x i, a => match a with
    | .Name y _ => decide (x = y) && gloC ct.sc x && !dbg x && decide (i < 1000000) && ct.calm && (match ct.T.fns[i]? with
      | some (z, _) => decide (z = x)
      | none => false)
    | _ => false
  | .callV i es, a => match a with
    | .Call (.Name x _) (b :: as) [] _ => chkEs ct es (b :: as) && decide (ct.N[i]? = some x) && visC ct.sc x && !dbg x && !cld x && ct.calm && es.simp
    | _ => false
  | .excG i fld, a => match a with
    | .Attribute (.Name x _) f _ => ct.sui && decide (f = fld) && decide (ct.N[i]? = some x) && visC ct.sc x && !dbg x && !cld x
    | _ => false
  | .excI i z cs, a => match a with
    | .Call (.Name y _) [.Name x _, .Name z' _] [] _ => ct.sui && decide (y = Str.ofString "isinstance") && gloC ct.sc y && ct.T.blts.any (fun q => decide (q = y)) && decide (ct.N[i]? = some x) && visC ct.sc x && !dbg x && !cld x && decide (z = z') && gloC ct.sc z && ct.T.trs.any (fun q => decide (q = (z, cs)))
    | _ => false
  | .tup es, a => match a with
    | .Tuple as _ _ => chkEs ct es as && decide (es.len ≤ lim)
    | _ => false
  | .lst es, a => match a with
    | .List as _ => chkEs ct es as && decide (es.len ≤ lim)
    | _ => false
  | .lstM es, a => match a with
    | .List as _ => chkEs ct es as && decide (es.len ≤ lim)
    | _ => false
  | .dkN, a => match a with
    | .Dict [] [] _ => true
    | _ => false
  | .dtN, a => match a with
    | .Dict [] [] _ => true
    | _ => false
  | .bin op e f, a => match a with
    | .BinOp b o c _ => op.is o && chkE ct e b && chkE ct f c
    | _ => false
  | .neg e, a => match a with
    | .UnaryOp .USub b _ => chkE ct e b
    | _ => false
  | .not e, a => match a with
    | .UnaryOp .Not b _ => chkE ct e b && e.tOk
    | _ => false
  | .and e f, a => match a with
    | .BoolOp .And (b :: c :: r) p => chkE ct e b && chkE ct f (.BoolOp .And (c :: r) p)
    | _ => false
  | .or e f, a => match a with
    | .BoolOp .Or (b :: c :: r) p => chkE ct e b && chkE ct f (.BoolOp .Or (c :: r) p)
    | _ => false
  | .one e, a => match a with
    | .BoolOp _ [b] _ => chkE ct e b
    | _ => false
  | .ite e f g, a => match a with
    | .IfExp b c d _ => chkE ct e b && e.tOk && chkE ct f c && chkE ct g d
    | _ => false
  | .cmp op e f, a => match a with
    | .Compare b [o] [c] _ => op.is o && chkE ct e b && chkE ct f c && noSet c
    | _ => false
  | .chn p q e f g, a => match a with
    | .Compare b [o, u] [c, d] _ => p.is o && q.is u && chkE ct e b && chkE ct f c && chkE ct g d && noSet d
    | _ => false
  | .isN e neg, a => match a with
    | .Compare b [o] [.Constant .none _ _] _ => isOp neg o && chkE ct e b
    | _ => false
  | .isB e c neg, a => match a with
    | .Compare b [o] [.Constant (.bool c') _ _] _ => isOp neg o && chkE ct e b && decide (c = c')
    | _ => false
  | .idx e f, a => match a with
    | .Subscript b c _ => chkE ct e b && chkE ct f c && noSlc c
    | _ => false
  | .slc e lo hi, a => match a with
    | .Subscript b (.Slice l h none _) _ => chkE ct e b && chkEo ct lo l && chkEo ct hi h
    | _ => false
  | .call f es, a => match a with
    | .Call (.Name x _) as [] _ => chkEs ct es as && gloC ct.sc x && !dbg x && (match ct.T.fns[f]? with
      | some (y, ps) => decide (x = y) && decide (es.len = ps.length)
      | none => false) && ct.calm
    | _ => false
  | .callK f es ks ix, a => match a with
    | .Call (.Name x _) as kws _ => chkEs ct es as && chkKs ct ks kws && gloC ct.sc x && !dbg x && (match ct.T.fns[f]? with
      | some (y, ps) => decide (x = y) && decide (kwN kws = ((kwN kws).filterMap id).map some) && ct.T.kws.any (fun q => decide (q = (f, es.len, (kwN kws).filterMap id, ix))) &&
          decide (ks.len = ((kwN kws).filterMap id).length) && decide ((placeV (List.replicate es.len ()) (List.replicate ks.len ()) ix).length = ps.length)
      | none => false) && ct.calm
    | _ => false
  | .bi b es, a => match a with
    | .Call (.Name x _) as [] _ => chkEs ct es as && decide (0 < es.len) && decide (x = Str.ofString b.nm) && gloC ct.sc x && ct.T.blts.any (fun q => decide (q = x)) && (ct.calm || decide (b = .len))
    | _ => false
  | .lrng e, a => match a with
    | .Call (.Name x _) [.Call (.Name y _) [b] [] _] [] _ => decide (x = Str.ofString "list") && decide (y = Str.ofString "range") && gloC ct.sc x && gloC ct.sc y && ct.T.blts.any (fun q => decide (q = x)) && ct.T.blts.any (fun q => decide (q = y)) && chkE ct e b && noStar b && ct.calm
    | _ => false
  | .lstOf e, a => match a with
    | .Call (.Name x _) [b] [] _ => decide (x = Str.ofString "list") && gloC ct.sc x && ct.T.blts.any (fun q => decide (q = x)) && chkE ct e b && noStar b
    | _ => false
  | .app o e, a => match a with
    | .Call (.Attribute b m ap) [c] [] p => chkE ct o b && chkE ct e c && decide (m = Str.ofString "append") && noCall b && noStar c && (ap.endLine == p.line)
    | _ => false
  | .comp _ own tg it cs e, a => match a with
    | .ListComp elt [⟨t, iter, ifs, k⟩] scope _ => decide (k = 0) && blkC ct.N ct.sc scope (ownP ct.N own) && decide ((ownP ct.N own).map (·.2) = own) && noSet iter && chkI ct it t iter &&
        chkT (ct.blk scope) tg t && tg.slots.all (fun j => own.contains j) && chkC (ct.blk scope) cs ifs && chkE (ct.blk scope) e elt && ct.calm
    | _ => false
  | .comp2 _ own tg it cs tg1 it1 cs1 e, a => match a with
    | .ListComp elt [⟨t, iter, ifs, k⟩, ⟨t1, iter1, ifs1, k1⟩] scope _ => decide (k = 0) && decide (k1 = 0) && blkC ct.N ct.sc scope (ownP ct.N own) && decide ((ownP ct.N own).map (·.2) = own) && noSet iter && noSet iter1 && chkI ct it t iter &&
        chkT (ct.blk scope) tg t && tg.slots.all (fun j => own.contains j) && chkC (ct.blk scope) cs ifs && chkI (ct.blk scope) it1 t1 iter1 && chkT (ct.blk scope) tg1 t1 && tg1.slots.all (fun j => own.contains j) && chkC (ct.blk scope) cs1 ifs1 && chkE (ct.blk scope) e elt && ct.calm
    | _ => false
def chkEo (ct : Ct) : Eo → Option Expr → Bool
  | .no, a => a.isNone
  | .yes e, a => match a with
    | some b => chkE ct e b
    | none => false
def chkEs (ct : Ct) : Es → List Expr → Bool
  | .nil, as => as.isEmpty
  | .cons e r, as => match as with
    | a :: as => chkE ct e a && noStar a && chkEs ct r as
    | [] => false
def chkKs (ct : Ct) : Es → List Keyword → Bool
  | .nil, as => as.isEmpty
  | .cons e r, as => match as with
    | ⟨_, a, _⟩ :: as => chkE ct e a && chkKs ct r as
    | [] => false
def chkC (ct : Ct) : Es → List Expr → Bool
  | .nil, as => as.isEmpty
  | .cons e r, as => match as with
    | [a] => chkE ct e a && e.tOk && (match r with
      | .nil => true
      | _ => false)
    | _ => false
def chkT (ct : Ct) : T → Expr → Bool
  | .nm i, a => match a with
    | .Name x _ => decide (ct.N[i]? = some x) && locC ct.sc x && (ct.fn x || ownC ct.sc x)
    | _ => false
  | .tup ts, a => match a with
    | .Tuple as _ _ => chkTs ct ts as && ts.simp && ct.calm
    | _ => false
  | .sub o i, a => match a with
    | .Subscript b c _ => chkE ct o b && chkE ct i c && noSlc c
    | _ => false
def chkTs (ct : Ct) : Ts → List Expr → Bool
  | .nil, as => as.isEmpty
  | .cons t r, as => match as with
    | a :: as => chkT ct t a && noStar a && chkTs ct r as
    | [] => false
def chkI (ct : Ct) : I → Expr → Expr → Bool
  | .seq e, _, a => chkE ct e a
  | .rng1 e, _, a => match a with
    | .Call (.Name x _) [b] [] _ => decide (x = Str.ofString "range") && gloC ct.sc x && ct.T.blts.any (fun q => decide (q = x)) && chkE ct e b && noStar b
    | _ => false
  | .rng2 e f, _, a => match a with
    | .Call (.Name x _) [b, c] [] _ => decide (x = Str.ofString "range") && gloC ct.sc x && ct.T.blts.any (fun q => decide (q = x)) && chkE ct e b && noStar b && chkE ct f c && noStar c
    | _ => false
  | .zip e f, tg, a => match a with
    | .Call (.Name x _) [b, c] [] _ => isTuple tg && decide (x = Str.ofString "zip") && gloC ct.sc x && ct.T.blts.any (fun q => decide (q = x)) && chkE ct e b && noStar b && chkE ct f c && noStar c
    | _ => false
  | .zip3 e f d, tg, a => match a with
    | .Call (.Name x _) [b, c, u] [] _ => isTuple tg && decide (x = Str.ofString "zip") && gloC ct.sc x && ct.T.blts.any (fun q => decide (q = x)) && chkE ct e b && noStar b && chkE ct f c && noStar c && chkE ct d u && noStar u
    | _ => false
  | .enum _, _, _ => false
  | .keys e, _, a => chkE ct e a
  | .rng3 e f d, _, a => match a with
    | .Call (.Name x _) [b, c, u] [] _ => decide (x = Str.ofString "range") && gloC ct.sc x && ct.T.blts.any (fun q => decide (q = x)) && chkE ct e b && noStar b && chkE ct f c && noStar c && chkE ct d u && noStar u
    | _ => false
end

theorem chkEs_star {ct : Ct} : ∀ {es : Es} {as : List Expr}, chkEs ct es as = true → as.all noStar = true ∧ as.length = es.len
  | .nil, as, h => by
    cases as with
    | nil => exact ⟨rfl, rfl⟩
    | cons _ _ => simp [chkEs] at h
  | .cons e r, as, h => by
    cases as with
    | nil => simp [chkEs] at h
    | cons a as =>
      simp only [chkEs, Bool.and_eq_true] at h
      obtain ⟨h1, h2⟩ := chkEs_star h.2
      exact ⟨by rw [List.all_cons, h.1.2, h1]; rfl, by simp [Es.len, h2]⟩
theorem chkTs_star {ct : Ct} : ∀ {es : Ts} {as : List Expr}, chkTs ct es as = true → as.all noStar = true ∧ as.length = es.len
  | .nil, as, h => by
    cases as with
    | nil => exact ⟨rfl, rfl⟩
    | cons _ _ => simp [chkTs] at h
  | .cons e r, as, h => by
    cases as with
    | nil => simp [chkTs] at h
    | cons a as =>
      simp only [chkTs, Bool.and_eq_true] at h
      obtain ⟨h1, h2⟩ := chkTs_star h.2
      exact ⟨by rw [List.all_cons, h.1.2, h1]; rfl, by simp [Ts.len, h2]⟩
theorem any_dec {α : Type} [DecidableEq α] {l : List α} {x : α} (h : l.any (fun q => decide (q = x)) = true) : x ∈ l := by
  obtain ⟨y, hy, e⟩ := List.any_eq_true.mp h
  rw [← of_decide_eq_true e]; exact hy
theorem gM_mono {X : Cx} {F : Nat → Addr} {U : Xh} {tg : Expr} {L L' : List Nat} {f : D → Env → AH → Res Env} (h : PG X tg (gM X.K F U L f)) (k : ∀ j, j ∈ L → j ∈ L') : PG X tg (gM X.K F U L' f) :=
  h.imp fun v σ H Q ⟨P, ω, env, A, d, e1, hr, er, rv, o⟩ => ⟨P, ω, env, A, d, e1, hr, er, rv, o.imp fun env' ω' A' l k' hr' q σ' er' b => q σ' er' (b.mono k)⟩
theorem gMs_mono {X : Cx} {F : Nat → Addr} {U : Xh} {tg : List Expr} {L L' : List Nat} {f : List D → Env → AH → Res Env} (h : PGs X tg (gMs X.K F U L f)) (k : ∀ j, j ∈ L → j ∈ L') : PGs X tg (gMs X.K F U L' f) :=
  h.imp fun v σ H Q ⟨P, ω, env, A, d, e1, hr, er, rv, o⟩ => ⟨P, ω, env, A, d, e1, hr, er, rv, o.imp fun env' ω' A' l k' hr' q σ' er' b => q σ' er' (b.mono k)⟩
theorem _root_.L2.PTs.imp {X : Cx} {e : List Expr} {t t' : TT} (h : PTs X e t) (i : ∀ σ H Q, t' σ H Q → t σ H Q) : PTs X e t' := ⟨fun pins s σ H Q I q => h.run pins s σ H Q I (i σ H Q q)⟩
theorem tst_id (r : Res D) : (bnd (tst r) fun t A => if t = true then Res.ok true A else .ok false A) = tst r := by
  cases r with
  | ok d A =>
    unfold tst
    simp only [bnd_ok]
    cases truO A d with
    | none => rfl
    | some t => cases t <;> rfl
  | exc _ _ _ => rfl
  | bad => rfl

structure EOk (F : Nat → Addr) (U : Xh) (cl : Cl) (X : Cx) (e : E) (a : Expr) : Prop where
  pe : PE X a (tM X.K F U (ev cl e))
  pt : e.tOk = true → PT X a (tMb X.K F U (fT (ev cl e)))
  pw : e.tOk = true → ∀ op vs p, a = .BoolOp op vs p → PW X a (tMb X.K F U (fT (ev cl e)))
theorem EOk.plain {F : Nat → Addr} {U : Xh} {cl : Cl} {X : Cx} {e : E} {a : Expr} (h : PE X a (tM X.K F U (ev cl e))) (hp : plainT a = true) : EOk F U cl X e a :=
  ⟨h, fun _ => pt_valM h (true_plain hp), fun _ op vs p e => by subst e; cases hp⟩
theorem EOk.ofT {F : Nat → Addr} {U : Xh} {cl : Cl} {X : Cx} {e : E} {a : Expr} (h : PE X a (tM X.K F U (ev cl e))) (t : e.tOk = true → PT X a (tMb X.K F U (fT (ev cl e)))) (hp : ∀ op vs p, a ≠ .BoolOp op vs p) : EOk F U cl X e a :=
  ⟨h, t, fun _ op vs p e => absurd e (hp op vs p)⟩
theorem EOk.ofW {F : Nat → Addr} {U : Xh} {cl : Cl} {X : Cx} {e : E} {a : Expr} (h : PE X a (tM X.K F U (ev cl e))) (t : e.tOk = true → PW X a (tMb X.K F U (fT (ev cl e)))) : EOk F U cl X e a :=
  ⟨h, fun k => (t k).pt, fun k _ _ _ _ => t k⟩
/-- a call of what a local holds -/
theorem pe_callVM {ct : Ct} {F : Nat → Addr} {U : Xh} {cl : Cl} {X : Cx} {i n : Nat} {x : Str} {p pos : Pos} {b : Expr} {as : List Expr} {fs : Env → AH → Res (List D)} (g : Good ct F U cl X) (hc : ct.calm = true) (hN : X.N[i]? = some x) (hv : Vis X.env.scope x) (hd : dbg x = false) (hcd : cld x = false)
    (ha : PA X (b :: as) (tMs X.K F U fs)) (hst : (b :: as).all noStar = true) (hx : ∀ env A c d A', fs env A ≠ .exc c d A') (hn : ∀ env A ds A', fs env A = .ok ds A' → ds.length = n) :
    PE X (.Call (.Name x p) (b :: as) [] pos) (tM X.K F U fun env A => match env[i]? with
      | some (some (.fn f)) => bnd (fs env A) fun ds A => cl f ds A
      | _ => .bad) := by
  refine ⟨fun pins s σ H Q I h => ?_⟩
  obtain ⟨P, ω, env, A, rfl, hr, er, o⟩ := h
  dsimp only at o
  split at o
  · rename_i f e
    obtain ⟨v, h1, h2⟩ := er.at' i _ e
    obtain ⟨k, hk, hG⟩ := g.k hc
    cases h2
    simp only [List.all_cons, Bool.and_eq_true] at hst
    cases e1 : fs env A with
    | exc c d A1 => exact absurd e1 (hx _ _ _ _ _)
    | bad => rw [e1] at o; exact o.elim
    | ok ds A1 =>
      have el := hn _ _ _ _ e1
      rw [e1] at o
      simp only [bnd_ok] at o
      have key : ∃ y ps, ct.T.fns[f]? = some (y, ps) ∧ ds.length = ps.length := by
        apply Classical.byContradiction
        intro hno
        rw [g.big f ds A1 (fun y ps h h' => hno ⟨y, ps, h, h'⟩)] at o
        exact o.elim
      obtain ⟨y, ps, hf, hl⟩ := key
      obtain ⟨⟨fd, G, hb, _⟩, _, hkp⟩ := hG f y ps hf
      refine (pe_callLG (pos := pos) (p := p) (E := EU X.K F U) (i := i) G g.gd hk hN hv hkp hb g.tk.pass ha hd hcd (star_cons hst.1) (back_any hst.2)).run pins s σ ω.H Q I ⟨h1, P, ω, env, A, rfl, hr, er, ?_⟩
      rw [e1]
      intro ω1 l k1 hr1 vs rvs
      exact ⟨by rw [← rvs.len]; exact hl, P, ω1, A1, ds, rfl, hr1, rvs, Out.mapU UE_EU (Out.le l k1 o)⟩
  · exact o.elim
/-- len, in a suite too -/
theorem pe_lenM {F : Nat → Addr} {U : Xh} {X : Cx} {p pos : Pos} {a : Expr} {es : List Expr} {fs : Env → AH → Res (List D)} (hg : Gl X (Str.ofString Bi.len.nm)) (hm : X.mg (Str.ofString Bi.len.nm) = none) (ha : PA X (a :: es) (tMs X.K F U fs))
    (he : starEach (a :: es) X.env = (false, eval a X.env) :: starEach es X.env) (hpl : (backTo pos (starEach es X.env)).any (·.1) = false) :
    PE X (.Call (.Name (Str.ofString Bi.len.nm) p) (a :: es) [] pos) (tM X.K F U fun env A => bnd (fs env A) fun ds A => ofO (biO A .len ds) A) := by
  have h : CallR X Bi.len.val (rCM X.K F U fun ds A => ofO (biO A .len ds) A) := by
    intro pins s σ H vs us Q I rs h
    obtain ⟨P, ω, A, ds, rfl, hr, rd, o⟩ := h
    obtain ⟨r, e1, oo⟩ := o.ofO
    clear o
    unfold biO at e1
    split at e1
    · rw [Option.map_eq_some_iff] at e1
      obtain ⟨n, e1, rfl⟩ := e1
      obtain ⟨v, rfl, r1⟩ := rd.one
      obtain ⟨u, rfl, rx⟩ := vals1 rs
      exact lenM I rx hr r1 e1 (oo.val hr (.int _))
    all_goals first | contradiction | cases e1
  have hv := Bi.len.boot
  obtain ⟨h1, h2⟩ := Bi.len.nmok
  have go : PE X (.Call (.Name (Str.ofString Bi.len.nm) p) (a :: es) [] pos) (tCB (rCM X.K F U fun ds A => ofO (biO A .len ds) A) (tMs X.K F U fs)) := pe_callB h hg hm hv ha h1 h2 he hpl
  exact go.imp fun σ H Q q => tMs_cb q
/-- a comprehension's parts -/
structure LcOk (F : Nat → Addr) (U : Xh) (cl : Cl) (X : Cx) (own : List Nat) (tg : T) (it : I) (cs : Es) (e : E) (t iter elt : Expr) (ifs : List Expr) (scope : Scope) (ow : List (Str × Nat)) : Prop where
  hi : PI X t iter (iM X.K F U (evi cl it))
  ok : BlkOk X.N X.env.scope scope ow
  eq : ow.map (·.2) = own
  hg : ∀ (s : Shared) (H : Hp) (C : Addr) (cs' : List (Str × Addr)) (fp : List Addr), PG (X.blk s H scope (compEnvC scope cs' C X.env) fp) t (gM X.K F U0 tg.slots (asg cl tg))
  ht : ∀ (s : Shared) (H : Hp) (C : Addr) (cs' : List (Str × Addr)) (fp : List Addr), PTs (X.blk s H scope (compEnvC scope cs' C X.env) fp) ifs (tMb X.K F U0 (evt cl cs))
  he : ∀ (s : Shared) (H : Hp) (C : Addr) (cs' : List (Str × Addr)) (fp : List Addr), PE (X.blk s H scope (compEnvC scope cs' C X.env) fp) elt (tM X.K F U0 (ev cl e))
  hs : ∀ x, foldedSetIterable iter X.env x = pure x
  sl : ∀ j, j ∈ tg.slots → j ∈ own
mutual
theorem okE {ct : Ct} {F : Nat → Addr} {U : Xh} {cl : Cl} {X : Cx} (g : Good ct F U cl X) : ∀ (e : E) (a : Expr), chkE ct e a = true → EOk F U cl X e a
  | .var i, a, h => by
    simp only [chkE] at h
    split at h
    · simp only [Bool.and_eq_true, Bool.not_eq_true', decide_eq_true_eq] at h
      obtain ⟨⟨⟨h1, h2⟩, h3⟩, h4⟩ := h
      exact .plain (pe_varM (by rw [g.N]; exact h1) (by rw [g.sc]; exact visC_of h2) h3 h4) rfl
    · cases h
  | .int i, a, h => by
    simp only [chkE] at h
    split at h
    · simp only [decide_eq_true_eq] at h
      subst h
      exact .plain (pe_cM pe_int fun ω => .int _) rfl
    · cases h
  | .bl i, a, h => by
    simp only [chkE] at h
    split at h
    · simp only [decide_eq_true_eq] at h
      subst h
      exact .plain (pe_cM pe_bl fun ω => .bl _) rfl
    · cases h
  | .non, a, h => by
    simp only [chkE] at h
    split at h
    · exact .plain (pe_cM pe_non fun ω => .non) rfl
    · cases h
  | .str s, a, h => by
    simp only [chkE] at h
    split at h
    · simp only [Bool.and_eq_true, decide_eq_true_eq] at h
      obtain ⟨rfl, h2⟩ := h
      exact .plain (pe_cM pe_str fun ω => .str _ (by rw [sizeLine_eq]; exact h2)) rfl
    · cases h
  | .gv x i, a, h => by
    simp only [chkE] at h
    split at h
    · simp only [Bool.and_eq_true, Bool.not_eq_true', decide_eq_true_eq] at h
      obtain ⟨⟨⟨rfl, h2⟩, h3⟩, h4⟩ := h
      obtain ⟨t, hm⟩ := g.gis _ (any_dec h3)
      exact .plain (pe_cM (pe_glob (v := .int i) (g.gl h2) hm ⟨t, rfl⟩ h4) fun ω => .int _) rfl
    · cases h
  | .ty t, a, h => by
    simp only [chkE] at h
    split at h
    · simp only [Bool.and_eq_true, decide_eq_true_eq] at h
      obtain ⟨⟨⟨rfl, h2⟩, h3⟩, h4⟩ := h
      obtain ⟨b1, b2, b3⟩ := tyIn_boot t (by simpa using h2)
      exact .plain (pe_cM (pe_bltn (v := .ty t) (g.gl h3) (g.blts _ (any_dec h4)) b1 rfl b2 b3) fun ω => .ty _) rfl
    · cases h
  | .fn x i, a, h => by
    simp only [chkE] at h
    split at h
    · simp only [Bool.and_eq_true, Bool.not_eq_true', decide_eq_true_eq] at h
      obtain ⟨⟨⟨⟨⟨rfl, h2⟩, h3⟩, h4⟩, h5⟩, h6⟩ := h
      split at h6
      · rename_i z ps hf
        have := of_decide_eq_true h6
        subst this
        obtain ⟨k, hr, hk⟩ := g.k h5
        exact .plain (pe_fnM (g.gl h2) (hk i _ ps hf).mg h4 h3) rfl
      · cases h6
    · cases h
  | .callV i es, a, h => by
    simp only [chkE] at h
    split at h
    · rename_i x p b as pos
      simp only [Bool.and_eq_true, Bool.not_eq_true', decide_eq_true_eq] at h
      obtain ⟨⟨⟨⟨⟨⟨h1, h2⟩, h3⟩, h4⟩, h5⟩, h6⟩, h7⟩ := h
      exact .plain (pe_callVM g h6 (by rw [g.N]; exact h2) (by rw [g.sc]; exact visC_of h3) h4 h5 (okEs g es _ h1) (chkEs_star h1).1 (fun env A c d A' => evs_simp h7) fun env A ds A' e => evs_len e) rfl
    · cases h
  | .excG i fld, a, h => by
    simp only [chkE] at h
    split at h
    · rename_i x p f pos
      simp only [Bool.and_eq_true, Bool.not_eq_true', decide_eq_true_eq] at h
      obtain ⟨⟨⟨⟨⟨h1, rfl⟩, h3⟩, h4⟩, h5⟩, h6⟩ := h
      obtain ⟨X0, F0, a, oe, C, d, pn, rfl, rfl, hz, hf, hT, hTr⟩ := g.sui h1
      exact .plain (pe_excGM (X := X0) (F := F0) hT hz hf ⟨C, rfl⟩ (by rw [show X0.N = ct.N from g.N]; exact h3) (by rw [show X0.env.scope = ct.sc from g.sc]; exact visC_of h4) h5 h6) rfl
    · cases h
  | .excI i z cs, a, h => by
    simp only [chkE] at h
    split at h
    · rename_i y p1 x p2 z' p3 pos
      simp only [Bool.and_eq_true, Bool.not_eq_true', decide_eq_true_eq] at h
      obtain ⟨⟨⟨⟨⟨⟨⟨⟨⟨⟨h1, rfl⟩, h3⟩, h4⟩, h5⟩, h6⟩, h7⟩, h8⟩, rfl⟩, h10⟩, h11⟩ := h
      obtain ⟨X0, F0, a, oe, C, d, pn, rfl, rfl, hz, hf, hT, hTr⟩ := g.sui h1
      obtain ⟨cV, cv, hn, hk⟩ := hTr _ (any_dec h11)
      exact .plain (pe_excIM (X := X0) (F := F0) hT hz hf ⟨C, rfl⟩ (by rw [show X0.N = ct.N from g.N]; exact h5) (by rw [show X0.env.scope = ct.sc from g.sc]; exact visC_of h6) h7 h8 (g.gl h3) (g.blts _ (any_dec h4)) ⟨g.gl h10, hn.nm, hn.db, hn.rel, hn.uq⟩ fun c fl => (hk c fl).2) rfl
    · cases h
  | .tup es, a, h => by
    simp only [chkE] at h
    split at h
    · simp only [Bool.and_eq_true, decide_eq_true_eq] at h
      exact .plain (pe_tupM (okEs g es _ h.1) fun env A ds A' e => by rw [evs_len e]; exact h.2) rfl
    · cases h
  | .lst es, a, h => by
    simp only [chkE] at h
    split at h
    · simp only [Bool.and_eq_true, decide_eq_true_eq] at h
      exact .plain (pe_lstM (okEs g es _ h.1) fun env A ds A' e => by rw [evs_len e]; exact h.2) rfl
    · cases h
  | .lstM es, a, h => by
    simp only [chkE] at h
    split at h
    · simp only [Bool.and_eq_true, decide_eq_true_eq] at h
      exact .plain (pe_lstMM (okEs g es _ h.1) fun env A ds A' e => by rw [evs_len e]; exact h.2) rfl
    · cases h
  | .dkN, a, h => by
    simp only [chkE] at h
    split at h
    · exact .plain pe_dkM rfl
    · cases h
  | .dtN, a, h => by
    simp only [chkE] at h
    split at h
    · exact .plain pe_dtM rfl
    · cases h
  | .bin op e f, a, h => by
    simp only [chkE] at h
    split at h
    · simp only [Bool.and_eq_true] at h
      obtain ⟨⟨h1, h2⟩, h3⟩ := h
      obtain rfl := Bop.is_eq h1
      exact .plain (pe_binM op (okE g e _ h2).pe (okE g f _ h3).pe) rfl
    · cases h
  | .neg e, a, h => by
    simp only [chkE] at h
    split at h
    · have q := pe_negM (pos := ‹Pos›) (okE g e _ h).pe
      exact ⟨q, fun _ => pt_valM q (fun _ => rfl), fun _ op vs p e => by cases e⟩
    · cases h
  | .not e, a, h => by
    simp only [chkE] at h
    split at h
    · simp only [Bool.and_eq_true] at h
      exact .ofT (pe_notM (okE g e _ h.1).pe) (fun k => pt_notM ((okE g e _ h.1).pt h.2)) (fun _ _ _ e => by cases e)
    · cases h
  | .and e f, a, h => by
    simp only [chkE] at h
    split at h
    · simp only [Bool.and_eq_true] at h
      refine .ofW (pe_andM (okE g e _ h.1).pe (okE g f _ h.2).pe) fun k => ?_
      simp only [E.tOk, Bool.and_eq_true] at k
      exact pw_andM ((okE g e _ h.1).pt k.1) ((okE g f _ h.2).pw k.2 _ _ _ rfl)
    · cases h
  | .or e f, a, h => by
    simp only [chkE] at h
    split at h
    · simp only [Bool.and_eq_true] at h
      refine .ofW (pe_orM (okE g e _ h.1).pe (okE g f _ h.2).pe) fun k => ?_
      simp only [E.tOk, Bool.and_eq_true] at k
      exact pw_orM ((okE g e _ h.1).pt k.1) ((okE g f _ h.2).pw k.2 _ _ _ rfl)
    · cases h
  | .one e, a, h => by
    simp only [chkE] at h
    split at h
    · refine .ofW (pe_oneM (okE g e _ h).pe) fun k => pw_oneM ((okE g e _ h).pt (by simpa only [E.tOk] using k))
    · cases h
  | .ite e f d, a, h => by
    simp only [chkE] at h
    split at h
    · simp only [Bool.and_eq_true] at h
      obtain ⟨⟨⟨h1, h2⟩, h3⟩, h4⟩ := h
      exact .ofT (pe_iteM ((okE g e _ h1).pt h2) (okE g f _ h3).pe (okE g d _ h4).pe) (fun k => by simp only [E.tOk] at k; cases k) (fun _ _ _ e => by cases e)
    · cases h
  | .cmp op e f, a, h => by
    simp only [chkE] at h
    split at h
    · simp only [Bool.and_eq_true] at h
      obtain ⟨⟨⟨h1, h2⟩, h3⟩, h4⟩ := h
      obtain rfl := Cop.is_eq h1
      exact .ofT (pe_cmpM g.hu op (okE g e _ h2).pe (okE g f _ h3).pe (behind_none h4)) (fun _ => pt_cmpM g.hu op (okE g e _ h2).pe (okE g f _ h3).pe (behind_none h4)) (fun _ _ _ e => by cases e)
    · cases h
  | .chn p q e f d, a, h => by
    simp only [chkE] at h
    split at h
    · simp only [Bool.and_eq_true] at h
      obtain ⟨⟨⟨⟨⟨h1, h2⟩, h3⟩, h4⟩, h5⟩, h6⟩ := h
      obtain rfl := Cop.is_eq h1
      obtain rfl := Cop.is_eq h2
      exact .ofT (pe_chnM g.hu p q (okE g e _ h3).pe (okE g f _ h4).pe (okE g d _ h5).pe (behind_none h6)) (fun _ => pt_chnM g.hu p q (okE g e _ h3).pe (okE g f _ h4).pe (okE g d _ h5).pe (behind_none h6)) (fun _ _ _ e => by cases e)
    · cases h
  | .isN e neg, a, h => by
    simp only [chkE] at h
    split at h
    · simp only [Bool.and_eq_true] at h
      obtain rfl := isOp_eq h.1
      exact .ofT (pe_isNM (okE g e _ h.2).pe) (fun _ => pt_isNM (okE g e _ h.2).pe) (fun _ _ _ e => by cases e)
    · cases h
  | .isB e c neg, a, h => by
    simp only [chkE] at h
    split at h
    · simp only [Bool.and_eq_true, decide_eq_true_eq] at h
      obtain ⟨⟨h1, h2⟩, rfl⟩ := h
      obtain rfl := isOp_eq h1
      exact .ofT (pe_isBM (okE g e _ h2).pe) (fun _ => pt_isBM (okE g e _ h2).pe) (fun _ _ _ e => by cases e)
    · cases h
  | .idx e f, a, h => by
    simp only [chkE] at h
    split at h
    · simp only [Bool.and_eq_true] at h
      obtain ⟨⟨h1, h2⟩, h3⟩ := h
      exact .plain (pe_idxM g.hu (okE g e _ h1).pe (okE g f _ h2).pe (plainIx_of h3)) rfl
    · cases h
  | .slc e lo hi, a, h => by
    simp only [chkE] at h
    split at h
    · simp only [Bool.and_eq_true] at h
      obtain ⟨⟨h1, h2⟩, h3⟩ := h
      exact .plain (pe_slcM (okE g e _ h1).pe (okEo g lo _ h2) (okEo g hi _ h3)) rfl
    · cases h
  | .call f es, a, h => by
    simp only [chkE] at h
    split at h
    · rename_i x p as pos
      simp only [Bool.and_eq_true, Bool.not_eq_true'] at h
      obtain ⟨⟨⟨⟨h1, h2⟩, h3⟩, h4⟩, hcm⟩ := h
      split at h4
      · rename_i y ps hf
        simp only [Bool.and_eq_true, decide_eq_true_eq] at h4
        obtain ⟨rfl, hl⟩ := h4
        obtain ⟨k, hr, hk⟩ := g.k hcm
        obtain ⟨⟨fd, G, hb, _⟩, hm, hkp⟩ := hk f x ps hf
        obtain ⟨hst, hlen⟩ := chkEs_star h1
        cases as with
        | nil =>
          cases es with
          | cons _ _ => simp [Es.len] at hlen
          | nil =>
            cases ps with
            | nil => exact .plain (pe_call0M G g.gd hr (g.gl h2) hm hkp hb g.tk h3) rfl
            | cons _ _ => simp [Es.len] at hl
        | cons b as =>
          simp only [List.all_cons, Bool.and_eq_true] at hst
          exact .plain (pe_callM G g.gd hr (g.gl h2) hm hkp hb g.tk (okEs g es _ h1) h3 (star_cons hst.1) (back_any hst.2) fun env A ds A' e => by rw [evs_len e]; exact hl) rfl
      · cases h4
    · cases h
  | .callK f es ks ix, a, h => by
    simp only [chkE] at h
    split at h
    · rename_i x p as kws pos
      simp only [Bool.and_eq_true, Bool.not_eq_true'] at h
      obtain ⟨⟨⟨⟨⟨h1, h2⟩, h3⟩, h4⟩, h5⟩, hcm⟩ := h
      split at h5
      · rename_i y ps hf
        simp only [Bool.and_eq_true, decide_eq_true_eq] at h5
        obtain ⟨⟨⟨⟨rfl, hn⟩, hq⟩, hkl⟩, hpl⟩ := h5
        obtain ⟨k, hr, hk⟩ := g.k hcm
        obtain ⟨⟨fd, G, hb, hB⟩, hm, hkp⟩ := hk f x ps hf
        obtain ⟨hst, hlen⟩ := chkEs_star h1
        have hb := hB _ (any_dec hq) rfl
        have hpp : ∀ ds ws : List D, ds.length = es.len → ws.length = ((kwN kws).filterMap id).length → (placeV ds ws ix).length = ps.length := fun ds ws e1 e2 => by
          rw [← hpl]; exact place_len (by simp [e1]) (by simp [e2, hkl])
        cases as with
        | nil =>
          cases es with
          | cons _ _ => simp [Es.len] at hlen
          | nil => exact .plain (pe_callK0M G g.gd g.tk hr (g.gl h3) hm hkp hb (okKs g ks _ h2) hn h4 (fun env A ds A' e => by rw [evs_len e]; exact hkl) hpp) rfl
        | cons b as =>
          exact .plain (pe_callKM G g.gd g.tk hr (g.gl h3) hm hkp hb (okEs g es _ h1) (okKs g ks _ h2) hn h4 hst (fun env A ds A' e => evs_len e) (fun env A ds A' e => by rw [evs_len e]; exact hkl) hpp) rfl
      · cases h5
    · cases h
  | .bi b es, a, h => by
    simp only [chkE] at h
    split at h
    · rename_i x p as pos
      simp only [Bool.and_eq_true, decide_eq_true_eq] at h
      obtain ⟨⟨⟨⟨⟨h1, h2⟩, rfl⟩, h4⟩, h5⟩, hcm⟩ := h
      obtain ⟨hst, hlen⟩ := chkEs_star h1
      cases as with
      | nil => rw [← hlen] at h2; simp at h2
      | cons b' as =>
        simp only [List.all_cons, Bool.and_eq_true] at hst
        exact .plain (by
          rw [Bool.or_eq_true, decide_eq_true_eq] at hcm
          rcases hcm with hcm | rfl
          · exact pe_biM b (g.calm hcm) g.hu g.gd (g.gl h4) (g.blts _ (any_dec h5)) (okEs g es _ h1) (star_cons hst.1) (back_any hst.2)
          · exact pe_lenM (g.gl h4) (g.blts _ (any_dec h5)) (okEs g es _ h1) (star_cons hst.1) (back_any hst.2)) rfl
    · cases h
  | .lrng e, a, h => by
    simp only [chkE] at h
    split at h
    · simp only [Bool.and_eq_true, decide_eq_true_eq] at h
      obtain ⟨⟨⟨⟨⟨⟨⟨⟨rfl, rfl⟩, h3⟩, h4⟩, h5⟩, h6⟩, h7⟩, h8⟩, hcm⟩ := h
      exact .plain (pe_lrngM (g.calm hcm) (g.gl h3) (g.blts _ (any_dec h5)) (g.gl h4) (g.blts _ (any_dec h6)) (okE g e _ h7).pe (star_cons h8)) rfl
    · cases h
  | .lstOf e, a, h => by
    simp only [chkE] at h
    split at h
    · simp only [Bool.and_eq_true, decide_eq_true_eq] at h
      obtain ⟨⟨⟨⟨rfl, h2⟩, h3⟩, h4⟩, h5⟩ := h
      exact .plain (pe_lstOfM (g.gl h2) (g.blts _ (any_dec h3)) (okE g e _ h4).pe (star_cons h5) rfl) rfl
    · cases h
  | .app o e, a, h => by
    simp only [chkE] at h
    split at h
    · simp only [Bool.and_eq_true, decide_eq_true_eq] at h
      obtain ⟨⟨⟨⟨⟨h1, h2⟩, rfl⟩, h4⟩, h5⟩, h6⟩ := h
      exact .plain (pe_appM (okE g o _ h1).pe (okE g e _ h2).pe (attr_base h4) (by rw [show starEach _ X.env = _ from star_cons h5]; rfl) h6 (star_cons h5) rfl) rfl
    · cases h
  | .comp m own tg it cs e, a, h => by
    simp only [chkE] at h
    split at h
    · rename_i elt t iter ifs k scope pos
      have L : LcOk F U cl X own tg it cs e t iter elt ifs scope (ownP ct.N own) := by
        simp only [Bool.and_eq_true, decide_eq_true_eq] at h
        obtain ⟨⟨⟨⟨⟨⟨⟨⟨⟨hk, h1⟩, h2⟩, h3⟩, h4⟩, h5⟩, h6⟩, h7⟩, h8⟩, hcm⟩ := h
        have ok := blkOk_by h1
        exact ⟨okI g it _ _ h4, by rw [g.N, g.sc]; exact ok, h2, fun s H C cs' fp => okT (g.blk hcm ok.kind s H C cs' fp) tg _ h5, fun s H C cs' fp => okC (g.blk hcm ok.kind s H C cs' fp) cs _ h7, fun s H C cs' fp => (okE (g.blk hcm ok.kind s H C cs' fp) e _ h8).pe,
          fold_none h3, fun j hj => by simpa using List.all_eq_true.mp h6 j hj⟩
      have hk : k = 0 := by
        simp only [Bool.and_eq_true, decide_eq_true_eq] at h
        exact h.1.1.1.1.1.1.1.1.1
      have hcm : ct.calm = true := by simp only [Bool.and_eq_true, decide_eq_true_eq] at h; exact h.2
      subst hk
      refine .plain ((pe_lc (g.calm hcm) g.nd L.hi L.ok L.hg L.ht L.he L.hs).imp fun σ H Q q => ?_) rfl
      rw [L.eq]
      exact tLc_M L.sl (m := m) q
    · cases h
  | .comp2 m own tg it cs tg1 it1 cs1 e, a, h => by
    simp only [chkE] at h
    split at h
    · rename_i elt t iter ifs k t1 iter1 ifs1 k1 scope pos
      simp only [Bool.and_eq_true, decide_eq_true_eq] at h
      obtain ⟨⟨⟨⟨⟨⟨⟨⟨⟨⟨⟨⟨⟨⟨⟨rfl, rfl⟩, h1⟩, h2⟩, h3⟩, h3'⟩, h4⟩, h5⟩, h6⟩, h7⟩, h8⟩, h9⟩, h10⟩, h11⟩, h12⟩, hcm⟩ := h
      have ok := blkOk_by h1
      have gb := fun (s : Shared) (H : Hp) (C : Addr) (cs' : List (Str × Addr)) (fp : List Addr) => g.blk hcm ok.kind s H C cs' fp
      refine .plain ((pe_lc2 (vs1 := tg1.slots) (g := gM X.K F U0 tg.slots (asg cl tg)) (tt := tMb X.K F U0 (evt cl cs)) (wi1 := iM X.K F U0 (evi cl it1)) (g1 := gM X.K F U0 tg1.slots (asg cl tg1)) (tt1 := tMb X.K F U0 (evt cl cs1)) (te := tM X.K F U0 (ev cl e)) (g.calm hcm) g.nd (okI g it _ _ h4) (by rw [g.N, g.sc]; exact ok) (fun i hi => by rw [h2]; simpa using List.all_eq_true.mp h10 i hi) (fun s H C cs' fp => okT (gb s H C cs' fp) tg _ h5) (fun s H C cs' fp => okC (gb s H C cs' fp) cs _ h7)
        (fun s H C cs' fp => okI (gb s H C cs' fp) it1 _ _ h8) (fun s H C cs' fp => okT (gb s H C cs' fp) tg1 _ h9) (fun s H C cs' fp => okC (gb s H C cs' fp) cs1 _ h11) (fun s H C cs' fp => (okE (gb s H C cs' fp) e _ h12).pe) (fold_none h3) (fun env => fold_none h3')).imp fun σ H Q q => ?_) rfl
      rw [h2]
      exact tLc2_M (fun j hj => by simpa using List.all_eq_true.mp h6 j hj) (fun j hj => hj) (m := m) q
    · cases h
theorem okEo {ct : Ct} {F : Nat → Addr} {U : Xh} {cl : Cl} {X : Cx} (g : Good ct F U cl X) : ∀ (e : Eo) (a : Option Expr), chkEo ct e a = true → PO X a (tMo X.K F U (evo cl e))
  | .no, a, h => by
    cases a with
    | none => exact po_noneM
    | some _ => simp [chkEo] at h
  | .yes e, a, h => by
    cases a with
    | none => simp [chkEo] at h
    | some b => exact po_someM (okE g e b (by simpa only [chkEo] using h)).pe
theorem okEs {ct : Ct} {F : Nat → Addr} {U : Xh} {cl : Cl} {X : Cx} (g : Good ct F U cl X) : ∀ (e : Es) (a : List Expr), chkEs ct e a = true → PA X a (tMs X.K F U (evs cl e))
  | .nil, a, h => by
    cases a with
    | nil => exact pa_nilM
    | cons _ _ => simp [chkEs] at h
  | .cons e r, a, h => by
    cases a with
    | nil => simp [chkEs] at h
    | cons b as =>
      simp only [chkEs, Bool.and_eq_true] at h
      exact pa_consM (okE g e b h.1.1).pe (okEs g r as h.2) (star_cons h.1.2)
theorem okKs {ct : Ct} {F : Nat → Addr} {U : Xh} {cl : Cl} {X : Cx} (g : Good ct F U cl X) : ∀ (e : Es) (a : List Keyword), chkKs ct e a = true → PK X a (tMs X.K F U (evs cl e))
  | .nil, a, h => by
    cases a with
    | nil => exact pk_nilM
    | cons _ _ => simp [chkKs] at h
  | .cons e r, a, h => by
    cases a with
    | nil => simp [chkKs] at h
    | cons b as =>
      obtain ⟨n, b, p⟩ := b
      simp only [chkKs, Bool.and_eq_true] at h
      exact pk_consM (okE g e b h.1).pe (okKs g r as h.2)
theorem okC {ct : Ct} {F : Nat → Addr} {U : Xh} {cl : Cl} {X : Cx} (g : Good ct F U cl X) : ∀ (e : Es) (a : List Expr), chkC ct e a = true → PTs X a (tMb X.K F U (evt cl e))
  | .nil, a, h => by
    cases a with
    | nil =>
      refine pts_nil.imp fun σ H Q q => ?_
      obtain ⟨P, ω, env, A, rfl, hr, er, o⟩ := q
      exact o.here hr
    | cons _ _ => simp [chkC] at h
  | .cons e r, a, h => by
    simp only [chkC] at h
    split at h
    · simp only [Bool.and_eq_true] at h
      obtain ⟨⟨h1, h2⟩, h3⟩ := h
      cases r with
      | nil =>
        refine (pts_one ((okE g e _ h1).pt h2)).imp fun σ H Q q => ?_
        obtain ⟨P, ω, env, A, rfl, hr, er, o⟩ := q
        refine ⟨P, ω, env, A, rfl, hr, er, ?_⟩
        have e1 : evt cl (.cons e .nil) env A = tst (ev cl e env A) := by
          simp only [evt]
          exact tst_id _
        rw [e1] at o
        exact o
      | cons _ _ => cases h3
    · cases h
theorem okT {ct : Ct} {F : Nat → Addr} {U : Xh} {cl : Cl} {X : Cx} (g : Good ct F U cl X) : ∀ (e : T) (a : Expr), chkT ct e a = true → PG X a (gM X.K F U e.slots (asg cl e))
  | .nm i, a, h => by
    simp only [chkT] at h
    split at h
    · simp only [Bool.and_eq_true, Bool.or_eq_true, decide_eq_true_eq] at h
      obtain ⟨⟨h1, h2⟩, h3⟩ := h
      exact pg_nmM g.nd (by rw [g.N]; exact h1) (by rw [g.sc]; exact locC_of h2) (h3.imp (fun h => g.fn _ h) fun h => by rw [g.sc]; exact ownC_of h)
    · cases h
  | .tup ts, a, h => by
    simp only [chkT] at h
    split at h
    · simp only [Bool.and_eq_true] at h
      obtain ⟨h1, h2⟩ := chkTs_star h.1.1
      exact pg_tupM (L := ts.slots) (g.calm h.2) (okTs g ts _ h.1.1) (ass_len h1) (ass_find h1) (fun ds env A env' A' e => by rw [asgs_len e, h2]) fun ds env A c d A' => asgs_simp h.1.2
    · cases h
  | .sub o i, a, h => by
    simp only [chkT] at h
    split at h
    · simp only [Bool.and_eq_true] at h
      obtain ⟨⟨h1, h2⟩, h3⟩ := h
      exact pg_subM g.hu (okE g o _ h1).pe (okE g i _ h2).pe (sub_plain h3)
    · cases h
theorem okTs {ct : Ct} {F : Nat → Addr} {U : Xh} {cl : Cl} {X : Cx} (g : Good ct F U cl X) : ∀ (e : Ts) (a : List Expr), chkTs ct e a = true → PGs X a (gMs X.K F U e.slots (asgs cl e))
  | .nil, a, h => by
    cases a with
    | nil => exact pgs_nilM
    | cons _ _ => simp [chkTs] at h
  | .cons t r, a, h => by
    cases a with
    | nil => simp [chkTs] at h
    | cons b as =>
      simp only [chkTs, Bool.and_eq_true] at h
      exact pgs_consM (L := t.slots ++ r.slots) (gM_mono (okT g t b h.1.1) fun j hj => List.mem_append_left _ hj) (gMs_mono (okTs g r as h.2) fun j hj => List.mem_append_right _ hj) (by rw [ass_cons h.1.2]; rfl)
theorem okI {ct : Ct} {F : Nat → Addr} {U : Xh} {cl : Cl} {X : Cx} (g : Good ct F U cl X) : ∀ (e : I) (tg a : Expr), chkI ct e tg a = true → PI X tg a (iM X.K F U (evi cl e))
  | .seq e, tg, a, h => pi_seqM (okE g e a (by simpa only [chkI] using h)).pe
  | .rng1 e, tg, a, h => by
    simp only [chkI] at h
    split at h
    · simp only [Bool.and_eq_true, decide_eq_true_eq] at h
      obtain ⟨⟨⟨⟨rfl, h2⟩, h3⟩, h4⟩, h5⟩ := h
      exact pi_rng1M (g.gl h2) (g.blts _ (any_dec h3)) (okE g e _ h4).pe (star_cons h5) (star_cons h5)
    · cases h
  | .rng2 e f, tg, a, h => by
    simp only [chkI] at h
    split at h
    · simp only [Bool.and_eq_true, decide_eq_true_eq] at h
      obtain ⟨⟨⟨⟨⟨⟨rfl, h2⟩, h3⟩, h4⟩, h5⟩, h6⟩, h7⟩ := h
      have s1 := star_cons (es := []) (env := X.env) h7
      have s2 := fun es => star_cons (es := es) (env := X.env) h5
      exact pi_rng2M (g.gl h2) (g.blts _ (any_dec h3)) (okE g e _ h4).pe (okE g f _ h6).pe (by rw [s2, s1]; rfl) s1 (s2 _) s1
    · cases h
  | .zip e f, tg, a, h => by
    simp only [chkI] at h
    split at h
    · simp only [Bool.and_eq_true, decide_eq_true_eq] at h
      obtain ⟨⟨⟨⟨⟨⟨⟨h0, rfl⟩, h2⟩, h3⟩, h4⟩, h5⟩, h6⟩, h7⟩ := h
      cases tg with
      | Tuple elts kk tpos => exact pi_zipM (g.gl h2) (g.blts _ (any_dec h3)) (okE g e _ h4).pe (okE g f _ h6).pe (star_cons h5) (star_cons h7) (back_any (by simp [h7]))
      | _ => cases h0
    · cases h
  | .zip3 e f d, tg, a, h => by
    simp only [chkI] at h
    split at h
    · simp only [Bool.and_eq_true, decide_eq_true_eq] at h
      obtain ⟨⟨⟨⟨⟨⟨⟨⟨⟨h0, rfl⟩, h2⟩, h3⟩, h4⟩, h5⟩, h6⟩, h7⟩, h8⟩, h9⟩ := h
      cases tg with
      | Tuple elts kk tpos => exact pi_zip3M (g.gl h2) (g.blts _ (any_dec h3)) (okE g e _ h4).pe (okE g f _ h6).pe (okE g d _ h8).pe (star_cons h5) (star_cons h7) (star_cons h9) (back_any (by simp [h7, h9]))
      | _ => cases h0
    · cases h
  | .enum _, tg, a, h => by simp only [chkI] at h; cases h
  | .keys e, tg, a, h => pi_keysM (okE g e a (by simpa only [chkI] using h)).pe
  | .rng3 e f d, tg, a, h => by
    simp only [chkI] at h
    split at h
    · simp only [Bool.and_eq_true, decide_eq_true_eq] at h
      obtain ⟨⟨⟨⟨⟨⟨⟨⟨rfl, h2⟩, h3⟩, h4⟩, h5⟩, h6⟩, h7⟩, h8⟩, h9⟩ := h
      exact pi_rng3M (g.gl h2) (g.blts _ (any_dec h3)) (okE g e _ h4).pe (okE g f _ h6).pe (okE g d _ h8).pe (star_cons h5) (star_cons h7) (star_cons h9) (back_any (by simp [h7, h9]))
    · cases h
end
end Ev

set_option maxRecDepth 100000
/-! Ev14: the check of statements, and that it suffices -/
namespace Ev
open PySem PySem.Spec L2
theorem fm_lt {α β : Type} {f : α → Option β} : ∀ {l : List α}, (l.any fun x => (f x).isNone) = true → (l.filterMap f).length ≠ l.length
  | [], h => by simp at h
  | x :: l, h => by
    have hle := List.length_filterMap_le f l
    simp only [List.any_cons, Bool.or_eq_true] at h
    rw [List.filterMap_cons]
    cases e : f x with
    | none => simp only [List.length_cons]; omega
    | some y =>
      rw [e] at h
      have := fm_lt (l := l) (h.resolve_left (by simp))
      simp only [List.length_cons]; omega
def notOwn (sc : Scope) : Expr → Bool
  | .Name x _ => !ownC sc x
  | _ => true
theorem swapped_mixed {ts vs : List Expr} {k k2 : Nat} {p p2 : Pos} {env : PySem.Env} (h : ts.any (notOwn env.scope) = true) : swappedStores [.Tuple ts k p] (.Tuple vs k2 p2) env = pure none := by
  unfold swappedStores
  simp only
  split
  · rfl
  split
  · rfl
  split
  · rfl
  rename_i h1
  exfalso
  rw [Bool.or_eq_true, not_or] at h1
  refine h1.1 (bne_iff_ne.mpr (fm_lt ?_))
  obtain ⟨t, ht, e⟩ := List.any_eq_true.mp h
  refine List.any_eq_true.mpr ⟨t, ht, ?_⟩
  cases t with
  | Name x px =>
    have e : (!ownC env.scope x) = true := e
    have e2 : (env.kindOf x == some NameKind.local) = false := by
      rw [beq_eq_false_iff_ne]
      intro z
      have z : env.scope.names.lookup x = some .local := z
      unfold ownC at e
      rw [z] at e
      cases e
    simp [e2]
  | _ => rfl
theorem swapped_fold {ts vs : List Expr} {k k2 : Nat} {p p2 : Pos} {env : PySem.Env} (h : vs.all (foldedForSure 8) = true) : swappedStores [.Tuple ts k p] (.Tuple vs k2 p2) env = pure none := by
  unfold swappedStores
  simp only
  split
  · rfl
  split
  · rfl
  split
  · rfl
  first | rfl | (rw [if_pos h]; rfl)
theorem starred_none {vs : List Expr} (h : vs.all noStar = true) : (vs.any fun | .Starred .. => true | _ => false) = false := by
  rw [List.any_eq_false]
  intro x hx
  have := List.all_eq_true.mp h x hx
  cases x <;> first | exact absurd this Bool.false_ne_true | simp
theorem swapped_two {a b : Expr} {x y : Str} {px py p p2 : Pos} {k k2 : Nat} {env : PySem.Env} (hb : env.blockKind = .function) (hx : env.kindOf x = some .local) (hy : env.kindOf y = some .local) (hl : (px.line == py.line) = true) (hne : (x == y) = false)
    (hs : [a, b].all noStar = true) (hf : [a, b].all (foldedForSure 8) = false) (hc : [a, b].all (constantsAlone 8) = false) :
    swappedStores [.Tuple [.Name x px, .Name y py] k p] (.Tuple [a, b] k2 p2) env = pure (some [x, y]) := by
  have hl' : (py.line == px.line) = true := by rw [beq_iff_eq] at hl ⊢; exact hl.symm
  have hd : ([x, y] : List Str).eraseDups = [x, y] := by
    rw [List.eraseDups_cons]
    have : (y == x) = false := by rw [beq_eq_false_iff_ne] at hne ⊢; exact fun e => hne e.symm
    simp [this, List.eraseDups_cons]
  unfold swappedStores
  simp only [hf, hc, hb, hx, hy, Expr.pos, List.head?_cons, Option.map_some, Option.getD_some, List.filterMap_cons, List.filterMap_nil, hl', beq_self_eq_true, Bool.and_self, if_true, hd]
  rw [if_neg (by simp), if_neg (by rw [Bool.not_eq_true]; exact starred_none hs), if_neg (by simp), if_neg (by simp), if_neg (by simp)]
theorem swapped_three {a b c : Expr} {x y z : Str} {px py pz p p2 : Pos} {k k2 : Nat} {env : PySem.Env} (hb : env.blockKind = .function) (hx : env.kindOf x = some .local) (hy : env.kindOf y = some .local) (hz : env.kindOf z = some .local)
    (hl : (px.line == py.line) = true) (hl2 : (px.line == pz.line) = true) (hne : (x == y) = false) (hne2 : (x == z) = false) (hne3 : (y == z) = false)
    (hs : [a, b, c].all noStar = true) (hf : [a, b, c].all (foldedForSure 8) = false) (hc : [a, b, c].all (constantsAlone 8) = false) :
    swappedStores [.Tuple [.Name x px, .Name y py, .Name z pz] k p] (.Tuple [a, b, c] k2 p2) env = pure (some [x, y, z]) := by
  have hl' : (py.line == px.line) = true := by rw [beq_iff_eq] at hl ⊢; exact hl.symm
  have hl2' : (pz.line == px.line) = true := by rw [beq_iff_eq] at hl2 ⊢; exact hl2.symm
  have hd : ([x, y, z] : List Str).eraseDups = [x, y, z] := by
    have e1 : (y == x) = false := by rw [beq_eq_false_iff_ne] at hne ⊢; exact fun e => hne e.symm
    have e2 : (z == x) = false := by rw [beq_eq_false_iff_ne] at hne2 ⊢; exact fun e => hne2 e.symm
    have e3 : (z == y) = false := by rw [beq_eq_false_iff_ne] at hne3 ⊢; exact fun e => hne3 e.symm
    rw [List.eraseDups_cons]
    simp [e1, e2, List.eraseDups_cons, e3]
  unfold swappedStores
  simp only [hf, hc, hb, hx, hy, hz, Expr.pos, List.head?_cons, Option.map_some, Option.getD_some, List.filterMap_cons, List.filterMap_nil, hl', hl2', beq_self_eq_true, Bool.and_self, if_true, hd]
  rw [if_neg (by simp), if_neg (by rw [Bool.not_eq_true]; exact starred_none hs), if_neg (by simp), if_neg (by simp), if_neg (by simp)]

theorem swaps_cell {e t : Expr} {l : Nat} {env : PySem.Env} (h : notOwn env.scope t = true) : swapsWith e (some t) l env = pure false := by
  cases t with
  | Name x px =>
    have e1 : (!ownC env.scope x) = true := h
    have e2 : (env.kindOf x == some NameKind.local) = false := by
      rw [beq_eq_false_iff_ne]
      intro z
      have z : env.scope.names.lookup x = some .local := z
      unfold ownC at e1
      rw [z] at e1
      cases e1
    cases e <;> first | rfl | (unfold swapsWith; simp [e2])
  | _ => exact swaps_tgt rfl
/-- the stores of a tuple come in the written order -/
def swN (sc : Scope) (tg a : Expr) : Bool := noTup tg || noTup a || (match tg, a with
  | .Tuple ts _ _, .Tuple vs _ _ => ts.any (notOwn sc) || vs.all (foldedForSure 8)
  | _, _ => false)
theorem swN_of {tg a : Expr} {env : PySem.Env} (h : swN env.scope tg a = true) : swappedStores [tg] a env = pure none := by
  unfold swN at h
  rw [Bool.or_eq_true, Bool.or_eq_true] at h
  rcases h with (h | h) | h
  · exact swapped_none (.inl h)
  · exact swapped_none (.inr h)
  · split at h
    · rw [Bool.or_eq_true] at h
      exact h.elim swapped_mixed swapped_fold
    · cases h
/-- name = [..] on one line -/
def oneL (ct : Ct) (tg a : Expr) : Bool := match tg, a with
  | .Name y py, .ListComp _ _ scope cp => ownC ct.sc y && (py.line == cp.line) && !(scope.names.any fun (n, k) => n == y && (k == .local || k == .cell))
  | _, _ => false
def E.isComp : E → Bool
  | .comp _ _ _ _ _ _ => true
  | _ => false
def E.isComp2 : E → Bool
  | .comp2 _ _ _ _ _ _ _ _ _ => true
  | _ => false
def T.nmO : T → Option Nat
  | .nm i => some i
  | _ => none
def S.fzO : S → Option Nat
  | .frz i => some i
  | _ => none
mutual
def chkS (ct : Ct) : S → Stmt → Bool
  | .asg t e, st => match st with
    | .Assign [tg] a _ => chkE ct e a && chkT ct t tg && ((oneL ct tg a && (e.isComp || e.isComp2) && t.nmO.isSome && ct.calm) || ((noComp a || notOwn ct.sc tg) && swN ct.sc tg a && noStar tg))
    | _ => false
  | .par is es, st => match st with
    | .Assign [.Tuple [.Name x px, .Name y py] _ _] (.Tuple [a, b] _ _) _ => (match is with
      | [i, j] => chkEs ct es [a, b] && decide (ct.N[i]? = some x) && decide (ct.N[j]? = some y) && decide (i ≠ j) && ownC ct.sc x && ownC ct.sc y && (px.line == py.line) && !(x == y) && [a, b].all noStar && !([a, b].all (foldedForSure 8)) && !([a, b].all (constantsAlone 8)) && ct.calm
      | _ => false)
    | .Assign [.Tuple [.Name x px, .Name y py, .Name z pz] _ _] (.Tuple [a, b, c] _ _) _ => (match is with
      | [i, j, n] => chkEs ct es [a, b, c] && decide (ct.N[i]? = some x) && decide (ct.N[j]? = some y) && decide (ct.N[n]? = some z) && decide (i ≠ j) && decide (i ≠ n) && decide (j ≠ n) && ownC ct.sc x && ownC ct.sc y && ownC ct.sc z &&
          (px.line == py.line) && (px.line == pz.line) && !(x == y) && !(x == z) && !(y == z) && [a, b, c].all noStar && !([a, b, c].all (foldedForSure 8)) && !([a, b, c].all (constantsAlone 8)) && ct.calm
      | _ => false)
    | _ => false
  | .ex e, st => match st with
    | .Expr a _ => chkE ct e a && noComp a
    | _ => false
  | .iff c a b, st => match st with
    | .If d as bs _ => chkE ct c d && c.tOk && chkSs ct a as && chkSs ct b bs
    | _ => false
  | .whl _ c a, st => match st with
    | .While d as [] _ => chkE ct c d && c.tOk && chkSs ct a as
    | _ => false
  | .for t it a, st => match st with
    | .For tg iter as [] _ => chkI ct it tg iter && chkT ct t tg && chkSs ct a as && noSet iter && ct.calm
    | _ => false
  | .ret e, st => match st with
    | .Return (some a) _ => chkE ct e a
    | _ => false
  | .retN, st => match st with
    | .Return none _ => true
    | _ => false
  | .pass, st => match st with
    | .Pass _ => true
    | _ => false
  | .brk, st => match st with
    | .Break _ => true
    | _ => false
  | .cnt, st => match st with
    | .Continue _ => true
    | _ => false
  | .never, _ => true
  | .frz _, _ => false
  | .raise x c e, st => match st with
    | .Raise (some (.Call (.Name y _) [a] [] _)) none _ => decide (x = y) && chkE ct e a && noStar a && gloC ct.sc x && !dbg x && ct.calm && ct.T.errs.any (fun q => decide (q = (x, c)))
    | _ => false
  | .raise0 _ _, _ => false
  | .tryAs body x cs i suite, st => match st with
    | .Try b [.ExceptHandler (some (.Name y _)) (some n) (s0 :: ss) _] [] [] _ => ct.top && decide (x = y) && gloC ct.sc x && ct.T.trs.any (fun q => decide (q = (x, cs))) && decide (ct.N[i]? = some n) && ownC ct.sc n && chkSs ct.body body b && chkSs ct.suite suite (s0 :: ss)
    | _ => false
def chkSs (ct : Ct) : Ss → List Stmt → Bool
  | .nil, sts => sts.isEmpty
  | .cons s r, sts => match s.fzO with
    | some _ => chkSs ct r sts
    | none => match sts with
      | st :: sts => chkS ct s st && chkSs ct r sts
      | [] => false
end
theorem okAsg {ct : Ct} {F : Nat → Addr} {U : Xh} {cl : Cl} {X : Cx} (g : Good ct F U cl X) {t : T} {e : E} {tg a : Expr} {pos : Pos} (h1 : chkE ct e a = true) (h2 : chkT ct t tg = true) (h3 : ((oneL ct tg a && (e.isComp || e.isComp2) && t.nmO.isSome && ct.calm) || ((noComp a || notOwn ct.sc tg) && swN ct.sc tg a && noStar tg)) = true) :
    PS X (.Assign [tg] a pos) (sM X.K F U (evS cl (.asg t e))) := by
  rw [Bool.or_eq_true] at h3
  rcases h3 with h3 | h3
  · simp only [Bool.and_eq_true] at h3
    obtain ⟨⟨⟨h3, h4⟩, h5⟩, hcm⟩ := h3
    cases e with
    | comp m own tg' it cs e' =>
      cases t with
      | nm i =>
        unfold oneL at h3
        split at h3
        · rename_i y py elt gs scope cp
          simp only [Bool.and_eq_true, Bool.not_eq_true'] at h3
          obtain ⟨⟨q1, q2⟩, q3⟩ := h3
          simp only [chkT, Bool.and_eq_true, decide_eq_true_eq] at h2
          obtain ⟨⟨n1, n2⟩, n3⟩ := h2
          have hloc : X.env.scope.names.lookup y = some .local := by rw [g.sc]; exact ownC_of q1
          simp only [chkE] at h1
          split at h1
          · rename_i t1 iter ifs k _ _ heq
            cases heq
            simp only [Bool.and_eq_true, decide_eq_true_eq] at h1
            obtain ⟨⟨⟨⟨⟨⟨⟨⟨⟨hk, b1⟩, b2⟩, b3⟩, b4⟩, b5⟩, b6⟩, b7⟩, b8⟩, _⟩ := h1
            subst hk
            have ok := blkOk_by b1
            have h := ps_setLc (elt := elt) (ifs := ifs) (g := gM X.K F U0 tg'.slots (asg cl tg')) (tt := tMb X.K F U0 (evt cl cs)) (te := tM X.K F U0 (ev cl e')) (spos := pos) (py := py) (g.calm hcm) g.nd (by rw [g.N]; exact n1) hloc (sw_true g.kind hloc q2 q3) (okI g it _ _ b4) (by rw [g.N, g.sc]; exact ok) (fun s H C cs' fp => okT (g.blk hcm ok.kind s H C cs' fp) tg' _ b5) (fun s H C cs' fp => okC (g.blk hcm ok.kind s H C cs' fp) cs _ b7)
              (fun s H C cs' fp => (okE (g.blk hcm ok.kind s H C cs' fp) e' _ b8).pe) (fold_none b3)
            refine h.imp fun D σ H q => ?_
            obtain ⟨P, ω, env, A, rfl, hr, er, o⟩ := q
            rw [b2]
            refine tLc_M (m := m) (fun j hj => by simpa using List.all_eq_true.mp b6 j hj) ⟨P, ω, env, A, rfl, hr, er, ?_⟩
            have o2 : Out X.K F U P ω (bnd (ev cl (.comp m own tg' it cs e') env A) fun d A => (.ok (.nx, env.set i (some d)) A : Res (Fl × Env))) (finS X.K F D) := o
            exact o2.bnd.imp fun d ω1 A1 l k hr1 o1 v rv => o1.here hr1 _ ((er.le l).set i rv)
          · cases h1
        · cases h3
      | tup _ => cases h5
      | sub _ _ => cases h5
    | comp2 m own tg' it cs tg1 it1 cs1 e' =>
      cases t with
      | nm i =>
        unfold oneL at h3
        split at h3
        · rename_i y py elt gs scope cp
          simp only [Bool.and_eq_true, Bool.not_eq_true'] at h3
          obtain ⟨⟨q1, q2⟩, q3⟩ := h3
          simp only [chkT, Bool.and_eq_true, decide_eq_true_eq] at h2
          obtain ⟨⟨n1, n2⟩, n3⟩ := h2
          have hloc : X.env.scope.names.lookup y = some .local := by rw [g.sc]; exact ownC_of q1
          simp only [chkE] at h1
          split at h1
          · rename_i t1 iter ifs k t2 iter2 ifs2 k2 _ _ heq
            cases heq
            simp only [Bool.and_eq_true, decide_eq_true_eq] at h1
            obtain ⟨⟨⟨⟨⟨⟨⟨⟨⟨⟨⟨⟨⟨⟨⟨hk, hk2⟩, b1⟩, b2⟩, b3⟩, b3'⟩, b4⟩, b5⟩, b6⟩, b7⟩, b8⟩, b9⟩, b10⟩, b11⟩, b12⟩, _⟩ := h1
            subst hk hk2
            have ok := blkOk_by b1
            have gb := fun (s : Shared) (H : Hp) (C : Addr) (cs' : List (Str × Addr)) (fp : List Addr) => g.blk hcm ok.kind s H C cs' fp
            have h := ps_setLc2 (spos := pos) (py := py) (vs1 := tg1.slots) (elt := elt) (ifs := ifs) (ifs1 := ifs2) (g := gM X.K F U0 tg'.slots (asg cl tg')) (tt := tMb X.K F U0 (evt cl cs)) (wi1 := iM X.K F U0 (evi cl it1)) (g1 := gM X.K F U0 tg1.slots (asg cl tg1)) (tt1 := tMb X.K F U0 (evt cl cs1)) (te := tM X.K F U0 (ev cl e')) (g.calm hcm) g.nd (by rw [g.N]; exact n1) hloc (sw_true g.kind hloc q2 q3) (okI g it _ _ b4) (by rw [g.N, g.sc]; exact ok) (fun i hi => by rw [b2]; simpa using List.all_eq_true.mp b10 i hi) (fun s H C cs' fp => okT (gb s H C cs' fp) tg' _ b5) (fun s H C cs' fp => okC (gb s H C cs' fp) cs _ b7)
              (fun s H C cs' fp => okI (gb s H C cs' fp) it1 _ _ b8) (fun s H C cs' fp => okT (gb s H C cs' fp) tg1 _ b9) (fun s H C cs' fp => okC (gb s H C cs' fp) cs1 _ b11) (fun s H C cs' fp => (okE (gb s H C cs' fp) e' _ b12).pe) (fold_none b3) (fun env => fold_none b3')
            refine h.imp fun D σ H q => ?_
            obtain ⟨P, ω, env, A, rfl, hr, er, o⟩ := q
            rw [b2]
            refine tLc2_M (m := m) (fun j hj => by simpa using List.all_eq_true.mp b6 j hj) (fun j hj => hj) ⟨P, ω, env, A, rfl, hr, er, ?_⟩
            have o2 : Out X.K F U P ω (bnd (ev cl (.comp2 m own tg' it cs tg1 it1 cs1 e') env A) fun d A => (.ok (.nx, env.set i (some d)) A : Res (Fl × Env))) (finS X.K F D) := o
            exact o2.bnd.imp fun d ω1 A1 l k hr1 o1 v rv => o1.here hr1 _ ((er.le l).set i rv)
          · cases h1
        · cases h3
      | tup _ => cases h5
      | sub _ _ => cases h5
    | _ => cases h4
  · simp only [Bool.and_eq_true, Bool.or_eq_true] at h3
    obtain ⟨⟨h3, h4⟩, h5⟩ := h3
    have hs : swapsWithSole [tg] a pos.line X.env = pure false := h3.elim (fun h => swaps_none h) fun h => swaps_cell (by rw [g.sc]; exact h)
    exact ps_asgM (okE g e a h1).pe (okT g t tg h2) hs (swN_of (by rw [g.sc]; exact h4)) (by rw [ass_cons h5]; rfl)
theorem Good.local {ct : Ct} {F : Nat → Addr} {U : Xh} {cl : Cl} {X : Cx} (g : Good ct F U cl X) {x : Str} (h : ownC ct.sc x = true) : X.env.scope.names.lookup x = some .local := by rw [g.sc]; exact ownC_of h
theorem Good.block {ct : Ct} {F : Nat → Addr} {U : Xh} {cl : Cl} {X : Cx} (g : Good ct F U cl X) : X.env.blockKind = .function := by unfold PySem.Env.blockKind; rw [g.kind]; rfl
theorem Good.suite {ct : Ct} {F : Nat → Addr} {U : Xh} {cl : Cl} {X : Cx} (g : Good ct F U cl X) {a : Addr} {oe : Obj} {C : Addr} {d : Option Addr} {pn : List (Addr × Obj)} (h : ct.top = true) (hz : Zc (.ref C) d oe) (hf : ∃ vs, oe.data = .fields vs) : Good ct.suite (Fs F a d (.ref C)) U0 cl (X.suite a ((a, oe) :: pn)) :=
  ⟨g.sc, g.kind, g.N, g.nd, (fun z => by cases z), g.fn, tk_none, PassesOwn.never, g.hu, g.gd, (fun z => by cases z), (fun z => by cases z), g.big, g.gis, g.blts, (fun z => by cases z), (fun z => by cases z),
    fun _ => ⟨X, F, a, oe, C, d, pn, rfl, rfl, hz, hf, (g.tr h).1, (g.tr h).2⟩⟩
mutual
theorem okS {ct : Ct} {F : Nat → Addr} {U : Xh} {cl : Cl} {X : Cx} (g : Good ct F U cl X) : ∀ (s : S) (st : Stmt), chkS ct s st = true → PS X st (sM X.K F U (evS cl s))
  | .asg t e, st, h => by
    simp only [chkS] at h
    split at h
    · rw [Bool.and_eq_true, Bool.and_eq_true] at h
      exact okAsg g h.1.1 h.1.2 h.2
    · cases h
  | .par is es, st, h => by
    simp only [chkS] at h
    split at h
    · split at h
      · simp only [Bool.and_eq_true, Bool.not_eq_true', decide_eq_true_eq] at h
        obtain ⟨⟨⟨⟨⟨⟨⟨⟨⟨⟨⟨h1, h2⟩, h3⟩, h4⟩, h5⟩, h6⟩, h7⟩, h8⟩, h9⟩, h10⟩, h11⟩, hcm⟩ := h
        exact ps_par2M (g.calm hcm) g.nd (by rw [g.N]; exact h2) (by rw [g.N]; exact h3) h4 (g.local h5) (g.local h6) (okEs g es _ h1) (swapped_two g.block (g.local h5) (g.local h6) h7 h8 h9 h10 h11) rfl
          fun env A ds A' e => by rw [evs_len e, ← (chkEs_star h1).2]; rfl
      · cases h
    · split at h
      · simp only [Bool.and_eq_true, Bool.not_eq_true', decide_eq_true_eq] at h
        obtain ⟨⟨⟨⟨⟨⟨⟨⟨⟨⟨⟨⟨⟨⟨⟨⟨⟨⟨h1, h2⟩, h3⟩, h4⟩, h5⟩, h6⟩, h7⟩, h8⟩, h9⟩, h10⟩, h11⟩, h12⟩, h13⟩, h14⟩, h15⟩, h16⟩, h17⟩, h18⟩, hcm⟩ := h
        exact ps_par3M (g.calm hcm) g.nd (by rw [g.N]; exact h2) (by rw [g.N]; exact h3) (by rw [g.N]; exact h4) h5 h6 h7 (g.local h8) (g.local h9) (g.local h10) (okEs g es _ h1)
          (swapped_three g.block (g.local h8) (g.local h9) (g.local h10) h11 h12 h13 h14 h15 h16 h17 h18) rfl fun env A ds A' e => by rw [evs_len e, ← (chkEs_star h1).2]; rfl
      · cases h
    · cases h
  | .ex e, st, h => by
    simp only [chkS] at h
    split at h
    · rw [Bool.and_eq_true] at h
      exact ps_exM (okE g e _ h.1).pe (swaps_none h.2)
    · cases h
  | .iff c a b, st, h => by
    simp only [chkS] at h
    split at h
    · simp only [Bool.and_eq_true] at h
      exact ps_iffM ((okE g c _ h.1.1.1).pt h.1.1.2) (okSs g a _ h.1.2) (okSs g b _ h.2)
    · cases h
  | .whl n c a, st, h => by
    simp only [chkS] at h
    split at h
    · simp only [Bool.and_eq_true] at h
      exact ps_whlM g.own ((okE g c _ h.1.1).pt h.1.2) (okSs g a _ h.2)
    · cases h
  | .for t it a, st, h => by
    simp only [chkS] at h
    split at h
    · simp only [Bool.and_eq_true] at h
      exact ps_forM g.own (g.calm h.2) (okI g it _ _ h.1.1.1.1) (okT g t _ h.1.1.1.2) (okSs g a _ h.1.1.2) (fold_none h.1.2)
    · cases h
  | .ret e, st, h => by
    simp only [chkS] at h
    split at h
    · exact ps_retM (okE g e _ h).pe
    · cases h
  | .retN, st, h => by
    simp only [chkS] at h
    split at h
    · exact ps_retNM
    · cases h
  | .pass, st, h => by
    simp only [chkS] at h
    split at h
    · exact ps_passM
    · cases h
  | .brk, st, h => by
    simp only [chkS] at h
    split at h
    · exact ps_brkM
    · cases h
  | .cnt, st, h => by
    simp only [chkS] at h
    split at h
    · exact ps_cntM
    · cases h
  | .never, st, h => ps_neverM
  | .frz _, st, h => by simp only [chkS] at h; cases h
  | .raise0 _ _, st, h => by simp only [chkS] at h; cases h
  | .raise x c e, st, h => by
    simp only [chkS] at h
    split at h
    · simp only [Bool.and_eq_true, Bool.not_eq_true', decide_eq_true_eq] at h
      obtain ⟨⟨⟨⟨⟨⟨rfl, h2⟩, h3⟩, h4⟩, h5⟩, h6⟩, h7⟩ := h
      obtain ⟨k, hr, hq⟩ := g.er h6
      obtain ⟨⟨hlt, hflag⟩, fld, hf, hE⟩ := hq _ (any_dec h7)
      exact ps_raiseM (g.calm h6) hE hf hflag hlt hr (g.gl h4) g.tk (okE g e _ h2).pe h5 (star_cons h3) rfl
    · cases h
  | .tryAs body x cs i suite, st, h => by
    simp only [chkS] at h
    split at h
    · simp only [Bool.and_eq_true, decide_eq_true_eq] at h
      obtain ⟨⟨⟨⟨⟨⟨⟨h1, rfl⟩, h3⟩, h4⟩, h5⟩, h6⟩, h7⟩, h8⟩ := h
      obtain ⟨t1, t2, t3⟩ := g.top h1
      obtain ⟨T1, T2⟩ := g.tr h1
      obtain ⟨cV, cv, hn, hk⟩ := T2 _ (any_dec h4)
      exact ps_tryM t1 t2 g.nd (by rw [g.N]; exact h5) (by show X.env.scope.names.lookup _ = _; rw [g.sc]; exact ownC_of h6) ⟨g.gl h3, hn.db, hn.nm⟩ g.tk t3
        (fun pn xe U' tk po => okSs (g.body tk po) body _ h7)
        (fun a oe C d pn hz hf => okSs (g.suite (a := a) (oe := oe) (C := C) (d := d) (pn := pn) h1 hz hf) suite _ h8)
        fun c fl => (hk c fl).1
    · cases h
theorem okSs {ct : Ct} {F : Nat → Addr} {U : Xh} {cl : Cl} {X : Cx} (g : Good ct F U cl X) : ∀ (s : Ss) (st : List Stmt), chkSs ct s st = true → PSs X st (sM X.K F U (evSs cl s))
  | .nil, st, h => by
    cases st with
    | nil => exact pss_nilM
    | cons _ _ => simp [chkSs] at h
  | .cons s r, st, h => by
    simp only [chkSs] at h
    split at h
    · rename_i i e
      have hs : s = .frz i := by cases s <;> first | (cases e; rfl) | cases e
      subst hs
      exact (okSs g r st h).imp fun D σ H q => frz_M q
    · cases st with
      | nil => cases h
      | cons st sts =>
        simp only [Bool.and_eq_true] at h
        exact pss_consM (okS g s st h.1) (okSs g r sts h.2)
end
end Ev

set_option maxRecDepth 100000
/-! Ev15: a whole text of defs -/
namespace Ev
open PySem PySem.Spec L2
/-- a def of the text: its name, its parameters, its names, its statement; what the evaluator makes of it -/
structure Dd where
  nm : Str
  ps : List Str
  N : List Str
  st : Stmt
  df : Df
def scC (N ps : List Str) (sc : Scope) : Bool := (match sc.kind with
  | .function => true
  | _ => false) && !sc.isCoroutine && !sc.isGenerator && decide N.Nodup && decide (N.take ps.length = ps) && (ps.all fun x => locC sc x) && (sc.names.all fun y => match y.2 with
  | .free => false
  | _ => true)
theorem scC_of {N ps : List Str} {sc : Scope} (h : scC N ps sc = true) : FnScope N ps sc := by
  unfold scC at h
  simp only [Bool.and_eq_true, Bool.not_eq_true', decide_eq_true_eq] at h
  obtain ⟨⟨⟨⟨⟨⟨h1, h2⟩, h3⟩, h4⟩, h5⟩, h6⟩, h7⟩ := h
  refine ⟨?_, h2, h3, h4, h5, fun x hx => locC_of (List.all_eq_true.mp h6 x hx), fun y hy e => ?_⟩
  · split at h1
    · assumption
    · cases h1
  · have := List.all_eq_true.mp h7 y hy
    rw [e] at this; cases this
def chkD (T : Tb) (d : Dd) : Bool := decide (d.df.np = d.ps.length) && decide (d.df.ns = d.N.length) && scC d.N d.ps (defScope d.st) && chkSs { T := T, N := d.N, sc := defScope d.st, fn := fun _ => true } d.df.body (defBody d.st)
/-- the j-th statement of a class -/
def clsSt : Stmt → Nat → Stmt
  | .ClassDef _ _ _ b _ _ _ _ _ _ _, j => b.getD j (.Pass ⟨0, 0, 0, 0⟩)
  | s, _ => s
/-- an error's class of the text: its name, its number, its field, its __init__ -/
structure Ed where
  nm : Str
  c : Nat
  fld : Str
  st : Stmt
def chkN (e : Ed) : Bool := decide (excF e.c = some e.fld) && scC ["self", e.fld] ["self", e.fld] (defScope e.st) && !dbg e.fld && !cld e.fld && (match defBody e.st with
  | [.Assign [.Attribute (.Name x _) f _] (.Name y _) _] => decide (x = "self") && decide (f = e.fld) && decide (y = e.fld)
  | _ => false)
/-- what is known of an error's class -/
structure ErrD (K : PySem.W.Frag) (mg : Str → Option Value) (e : Ed) (C : Addr) : Prop where
  gC : mg e.nm = some (.ref C)
  oex : OexC K C
  noF : PySem.W.findIn K (.ref C) e.fld = some none
  init : ∃ fI fd qual, PySem.W.findIn K (.ref C) "__init__" = some (some (.ref fI)) ∧ PySem.W.typeIn K (.ref fI) = some (.type "function") ∧ Fun K "__init__" qual e.st fI fd ∧ Binds K fd ["self", e.fld] []
/-- what is known of the def's object -/
structure DefAt (K : PySem.W.Frag) (mg : Str → Option Value) (T : Tb) (F : Nat → Addr) (i : Nat) (d : Dd) : Prop where
  ex : ∃ fd, Fun K d.nm d.nm d.st (F i) fd ∧ Binds K fd d.ps [] ∧ ∀ q ∈ T.kws, q.1 = i → KwB fd d.ps q.2.1 q.2.2.1 q.2.2.2
  mg : mg d.nm = some (.ref (F i))
section
variable {P : Program} {w : World} {K : PySem.W.Frag} {mg : Str → Option Value} {base : Heap} {F : Nat → Addr}
theorem start_env {ω : Wd} {ds : List D} {vs : List V} {N : List Str} (r : Reps K F ω ds vs) : EnvR K F ω (startE ds N.length) (L2.start N vs) := by
  refine ⟨?_, fun i d e => ?_⟩
  · unfold startE L2.start
    simp [r.len]
  · unfold startE at e
    unfold L2.start
    by_cases hi : i < ds.length
    · rw [List.getElem?_append_left (by simpa using hi), List.getElem?_map] at e
      cases e2 : ds[i]? with
      | none => rw [e2] at e; cases e
      | some d' =>
        rw [e2] at e; cases e
        obtain ⟨v, h1, h2⟩ := r.get e2
        refine ⟨v, ?_, h2⟩
        rw [List.getElem?_append_left (by simp; rw [← r.len]; exact hi), List.getElem?_map, h1]; rfl
    · rw [List.getElem?_append_right (by simpa using hi), List.getElem?_replicate] at e
      split at e <;> cases e
theorem hu65 {A : Around} {k : Nat} (hr : Room (k + 2) A) : A.units + 65 < cLine := by
  have := hr.un
  omega
theorem init_ok {e : Ed} (hc : chkN e = true) {qual : Str} {fI : Addr} {fd : FuncData} (G : Fun K "__init__" qual e.st fI fd) (k : Nat) : FnOk P w K mg base (L2.CX P w) (k + 1) fI fd ["self", e.fld] (spInit K e.fld) := by
  unfold chkN at hc
  simp only [Bool.and_eq_true, Bool.not_eq_true', decide_eq_true_eq] at hc
  obtain ⟨⟨⟨⟨h1, h2⟩, h3⟩, h4⟩, h5⟩ := hc
  have S := scC_of h2
  refine G.okX S (fun vs H Q E h => by obtain ⟨a, C, v, rfl, _⟩ := h; rfl) fun cdv A outer s H vs Q E hr h => ?_
  obtain ⟨a, C, v, rfl, ox, nf, ha, q⟩ := h
  split at h5
  · rename_i x p1 f p2 y p3 p4 hb
    simp only [Bool.and_eq_true, decide_eq_true_eq] at h5
    obtain ⟨⟨rfl, rfl⟩, rfl⟩ := h5
    rw [hb]
    refine ⟨_, pss_cons (ps_ost (pe_var (i := 0) rfl ((S.par _ (List.mem_cons_self ..)).elim .inl fun h => .inr (.inl h))) (pe_var (i := 1) rfl ((S.par _ (List.mem_cons_of_mem _ (List.mem_cons_self ..))).elim .inl fun h => .inr (.inl h)) h3 h4)) pss_nil, ?_⟩
    exact ⟨v, rfl, .ref a, rfl, a, C, rfl, ox, nf, .inl ⟨ha, fun dx h1 h2 => q dx h1 h2⟩⟩
  · cases h5
theorem all_ok {T : Tb} {Ds : List Dd} (hT : T.fns = Ds.map fun d => (d.nm, d.ps)) (hc : ∀ d ∈ Ds, chkD T d = true) (hD : ∀ (i : Nat) (d : Dd), Ds[i]? = some d → DefAt K mg T F i d)
    (hi : ∀ q ∈ T.gis, ∃ t, mg q.1 = some (.int q.2 t)) (hb : ∀ x ∈ T.blts, mg x = none)
    (hE : ∀ q ∈ T.errs, ∃ e : Ed, e.nm = q.1 ∧ e.c = q.2 ∧ chkN e = true ∧ F (3000000 + q.2) = 1 ∧ ErrD K mg e (F (1000000 + q.2))) (hX : ErrT K F) (hTr : TrOk K mg F T.trs) (hF2 : F 2000000 ≠ 1) :
    ∀ (n i : Nat) (d : Dd), Ds[i]? = some d → ∀ fd, Fun K d.nm d.nm d.st (F i) fd → FnOkG P w K mg base (n + 2) (F i) fd d.ps (spM K F d.ps.length (callF (Ds.map Dd.df) n i))
  | 0, i, d, e, fd, G => ⟨fun vs H Q E h => h.1, fun A hgd outer s H args us vs Q E hr e0 hb r h => by
      obtain ⟨_, P', ω, A', ds, _, _, _, o⟩ := h
      exact (show False from o).elim⟩
  | n + 1, i, d, e, fd, G => by
    have hd : d ∈ Ds := List.mem_of_getElem? e
    have hck := hc d hd
    unfold chkD at hck
    simp only [Bool.and_eq_true, decide_eq_true_eq] at hck
    obtain ⟨⟨⟨h1, h2⟩, h3⟩, h4⟩ := hck
    have S := scC_of h3
    refine fnG G S (fun vs H Q E h => h.1) fun cdv A hgd outer s H vs Q E hr h => ?_
    obtain ⟨hl, P', ω, A', ds, rfl, hr1, rds, o⟩ := h
    let ct : Ct := { T := T, N := d.N, sc := defScope d.st, fn := fun _ => true }
    have g : Good ct F (UE K F E) (callF (Ds.map Dd.df) n) (cxOf (L2.CX P w) P w K mg base d.N d.nm (defScope d.st) (F i) cdv A outer s ω.H E) :=
      ⟨rfl, S.kind, rfl, S.nd, fun _ => rfl, fun _ _ => rfl, (takes_of rfl rfl rfl rfl).imp (fun cls dd σ H h => by obtain ⟨c, dv, ω, rfl, ex, u⟩ := h; exact u cls dd ex), passes_of rfl, ?hu, hgd, fun _ => ⟨n + 2, hr, fun j x ps e2 => by
        have e2 : T.fns[j]? = some (x, ps) := e2
        rw [hT, List.getElem?_map] at e2
        cases e3 : Ds[j]? with
        | none => rw [e3] at e2; cases e2
        | some d2 =>
          rw [e3] at e2; cases e2
          obtain ⟨⟨fd2, G2, b2, k2⟩, m2⟩ := hD j d2 e3
          exact ⟨⟨fd2, all_ok hT hc hD hi hb hE hX hTr hF2 n j d2 e3 fd2 G2, b2, k2⟩, m2, G2.kp⟩⟩,
        fun _ => ⟨n + 1, hr, fun q hq => by
          obtain ⟨ed, e1, e2, hN, fl, D⟩ := hE q hq
          have hN' := hN
          unfold chkN at hN'
          simp only [Bool.and_eq_true, Bool.not_eq_true', decide_eq_true_eq] at hN'
          obtain ⟨⟨⟨⟨q1, _⟩, _⟩, _⟩, _⟩ := hN'
          obtain ⟨fI, fd, qual, i1, i2, i3, i4⟩ := D.init
          exact ⟨⟨by rw [← e2]; exact excF_lt q1, fl⟩, ed.fld, by rw [← e2]; exact q1, ⟨by rw [← e1]; exact D.gC, D.oex, D.noF, fI, fd, _, i1, i2, init_ok hN i3 n, i4⟩⟩⟩,
        fun f ds A2 hno => ?hbig, hi, hb, fun _ => ⟨rfl, rfl, hF2⟩, fun _ => ⟨hX, hTr⟩, fun z => by cases z⟩
    case hu => exact hu65 hr
    case hbig =>
      cases n with
      | zero => rfl
      | succ m =>
        simp only [callF]
        cases e7 : (Ds.map Dd.df)[f]? with
        | none => rfl
        | some df =>
          rw [List.getElem?_map] at e7
          cases e8 : Ds[f]? with
          | none => rw [e8] at e7; cases e7
          | some d2 =>
            rw [e8] at e7; cases e7
            have hck2 := hc d2 (List.mem_of_getElem? e8)
            unfold chkD at hck2
            simp only [Bool.and_eq_true, decide_eq_true_eq] at hck2
            simp only [runDf]
            rw [if_neg]
            rw [hck2.1.1.1]
            exact hno d2.nm d2.ps (by show T.fns[f]? = _; rw [hT, List.getElem?_map, e8]; rfl)
    refine ⟨_, okSs g d.df.body (defBody d.st) h4, P', ω, startE ds d.df.ns, A', rfl, hr1, by rw [h2]; exact start_env rds, ?_⟩
    have e5 : callF (Ds.map Dd.df) (n + 1) i ds A' = runDf (callF (Ds.map Dd.df) n) d.df ds A' := by
      simp only [callF, List.getElem?_map, e, Option.map_some]
    rw [e5] at o
    unfold runDf at o
    rw [if_pos (by rw [h1, rds.len]; exact hl)] at o
    cases e6 : evSs (callF (Ds.map Dd.df) n) d.df.body (startE ds d.df.ns) A' with
    | ok q A1 =>
      intro ω1 l k hr2
      rw [e6] at o
      obtain ⟨fl, env1⟩ := q
      cases fl with
      | nx => exact fun σ' er' => finish_M hr1 l k hr2 .non o
      | rt dv => exact fun v rv => finish_M hr1 l k hr2 rv o
      | bk => exact (show False from o).elim
      | ct => exact (show False from o).elim
    | exc c dv A1 =>
      intro ω1 l k hr2
      rw [e6] at o
      exact finX_M hr1 l k hr2 o
    | bad => rw [e6] at o; exact (show False from o).elim
/-- the law's own end -/
def spEnd (K : PySem.W.Frag) : Sp := fun vs H Q _ => ∃ (a : Addr) (ns : List Int), vs = [.ref a] ∧ SqL K H a (ns.map V.int) ∧ ns.length ≤ 63 ∧ ∀ H', Q (.bl true) H'
theorem ints_rep {ω : Wd} : ∀ ns : List Int, Reps K F ω (ns.map D.int) (ns.map V.int)
  | [] => .nil
  | n :: ns => .cons (.int n) (ints_rep ns)
theorem hr_nil (H : Hp) : HR K F (fun _ => False) ⟨[], fun _ => False, H⟩ [] := by
  refine ⟨rfl, List.nodup_nil, ?_, ?_, ?_, ?_, ?_⟩
  · intro a ha; cases ha
  · intro a ha; exact ha.elim
  · intro a ha; exact ha.elim
  · intro a
    refine ⟨fun z => z.elim, fun z => ?_⟩
    rcases z with z | ⟨n, o, z, _⟩
    · exact z.elim
    · rw [List.getElem?_nil] at z; cases z
  · intro n o a z; rw [List.getElem?_nil] at z; cases z
theorem end_ok {f : List D → AH → Res D} (h : ∀ ns : List Int, ns.length ≤ 63 → f [.kl (ns.map D.int)] [] = .ok (.bl true) []) : ∀ vs H Q E, spEnd K vs H Q E → spM K F 1 f vs H Q E := by
  intro vs H Q E ⟨a, ns, e, hs, hl, q⟩
  subst e
  refine ⟨rfl, fun _ => False, ⟨[], fun _ => False, H⟩, [], [.kl (ns.map D.int)], rfl, hr_nil H, .cons (.kl ?_ ?_ (ints_rep ns)) .nil, ?_⟩
  · exact hs.imp (fun r => ⟨id, r⟩) id
  · rw [sizeLine_eq, List.length_map]; exact Nat.le_trans hl (by decide)
  · rw [h ns hl]
    intro ω' l k hr v rv
    rw [Rep.bl_inv rv]; exact q _
/-- the goal that all_mk of the worked proofs has -/
theorem law_ok {T : Tb} {Ds : List Dd} {i k : Nat} {d : Dd} {fa : Addr} (hT : T.fns = Ds.map fun d => (d.nm, d.ps)) (hc : ∀ d ∈ Ds, chkD T d = true) (hD : ∀ (i : Nat) (d : Dd), Ds[i]? = some d → DefAt K mg T F i d)
    (hi : ∀ q ∈ T.gis, ∃ t, mg q.1 = some (.int q.2 t)) (hb : ∀ x ∈ T.blts, mg x = none)
    (hE : ∀ q ∈ T.errs, ∃ e : Ed, e.nm = q.1 ∧ e.c = q.2 ∧ chkN e = true ∧ F (3000000 + q.2) = 1 ∧ ErrD K mg e (F (1000000 + q.2))) (hX : ErrT K F) (hTr : TrOk K mg F T.trs) (hF2 : F 2000000 ≠ 1) (e : Ds[i]? = some d) (hps : d.ps = [Str.ofString "script"]) (hfa : mg d.nm = some (.ref fa))
    (hbt : ∀ fd, Fun K d.nm d.nm d.st fa fd → ∀ (s : Shared) (u : Value), BindsTo s fd ⟨[u], []⟩ [(Str.ofString "script", u)])
    (h : ∀ ns : List Int, ns.length ≤ 63 → callF (Ds.map Dd.df) k i [.kl (ns.map D.int)] [] = .ok (.bl true) []) :
    ∃ fd : FuncData, (∀ (s : Shared) (u : Value), BindsTo s fd ⟨[u], []⟩ [(Str.ofString "script", u)]) ∧ ∀ base : Heap, FnOkG P w K mg base (k + 2) fa fd [Str.ofString "script"] (spEnd K) := by
  obtain ⟨⟨fd, G, _, _⟩, m⟩ := hD i d e
  have : fa = F i := by rw [hfa] at m; cases m; rfl
  subst this
  refine ⟨fd, hbt fd G, fun base => ?_⟩
  have h2 := all_ok (P := P) (w := w) (base := base) hT hc hD hi hb hE hX hTr hF2 k i d e fd G
  rw [hps] at h2
  exact h2.imp (end_ok h)
end
end Ev

set_option maxRecDepth 100000
/-! Ev16: what the top has written, def by def -/
namespace Ev
open PySem PySem.Spec L2
def AllI (P : Nat → Dd → Prop) : Nat → List Dd → Prop
  | _, [] => True
  | n, d :: ds => P n d ∧ AllI P (n + 1) ds
theorem AllI.get {P : Nat → Dd → Prop} : ∀ {ds : List Dd} {n i : Nat} {d : Dd}, AllI P n ds → ds[i]? = some d → P (n + i) d
  | [], n, i, d, _, e => by simp at e
  | x :: ds, n, 0, d, h, e => by simp at e; subst e; exact h.1
  | x :: ds, n, i + 1, d, h, e => by
    have := AllI.get (i := i) h.2 (by simpa using e)
    rw [show n + (i + 1) = n + 1 + i by omega]; exact this
/-- how a def's arguments are bound -/
def BindP (_ : Nat) (d : Dd) : Prop := ∀ (kV doc pm : Value) (an : Option Addr) (cdv ct : Value) (us : List Value), us.length = d.ps.length → bindArgs (PySem.W.fnOf d.nm d.nm (defArgs d.st) (defBody d.st) (defScope d.st) .none kV doc pm an cdv ct) ⟨us, []⟩ = pure (d.ps.zip us)
def KwP (Ds : List Dd) (q : Nat × Nat × List Str × List Nat) : Prop := ∀ d, Ds[q.1]? = some d → ∀ (kV doc pm : Value) (an : Option Addr) (cdv ct : Value) (us ws : List Value), us.length = q.2.1 → ws.length = q.2.2.1.length →
  bindArgs (PySem.W.fnOf d.nm d.nm (defArgs d.st) (defBody d.st) (defScope d.st) .none kV doc pm an cdv ct) ⟨us, q.2.2.1.zip ws⟩ = pure (d.ps.zip (placeV us ws q.2.2.2))
def AllQ {α : Type} (P : α → Prop) : List α → Prop
  | [] => True
  | q :: qs => P q ∧ AllQ P qs
theorem AllQ.get {α : Type} {P : α → Prop} : ∀ {qs : List α}, AllQ P qs → ∀ q ∈ qs, P q
  | [], _, q, h => by cases h
  | x :: qs, h, q, hq => (List.mem_cons.mp hq).elim (fun e => e ▸ h.1) fun hq => AllQ.get h.2 q hq
structure DA (K : PySem.W.Frag) (d : Dd) (f : Addr) : Prop where
  ns : PySem.W.nsIn K mainGlobals d.nm = some (some (.ref f))
  ex : ∃ (oc : Value) (od : Option Addr) (kV doc pm : Value) (an : Option Addr) (cdv ct : Value) (osl : Array (Option Value)), K.lookup f = some ⟨oc, od, .func (PySem.W.fnOf d.nm d.nm (defArgs d.st) (defBody d.st) (defScope d.st) .none kV doc pm an cdv ct), osl⟩ ∧ PySem.W.codeIn K cdv d.nm = true
  kp : PySem.W.keepIn K (.ref f) = true
theorem da_then {Q : Prop} {K : PySem.W.Frag} {h : Heap} (_ : K.In h) {d : Dd} {n : Str} (hn : d.nm = n) {f : Addr} {oc : Value} {od an : Option Addr} {osl : Array (Option Value)} {kV doc pm cdv ct : Value} (a : PySem.W.nsIn K mainGlobals n = some (some (.ref f)))
    (l : K.lookup f = some ⟨oc, od, .func (PySem.W.fnOf n n (defArgs d.st) (defBody d.st) (defScope d.st) .none kV doc pm an cdv ct), osl⟩) (c : PySem.W.codeIn K cdv n = true) (k : PySem.W.keepIn K (.ref f) = true) (z : (∃ f, DA K d f) → Q) : Q := by
  subst hn
  exact z ⟨f, a, ⟨_, _, _, _, _, _, _, _, _, l, c⟩, k⟩
theorem gi_then {Q : Prop} {K : PySem.W.Frag} {h : Heap} (_ : K.In h) {n : Str} {i : Int} {t : Tok} (a : PySem.W.nsIn K mainGlobals n = some (some (.int i t))) (z : (∃ t, PySem.W.nsIn K mainGlobals n = some (some (.int i t))) → Q) : Q := z ⟨t, a⟩
theorem bl_then {Q : Prop} {K : PySem.W.Frag} {h : Heap} (_ : K.In h) {n : Str} (a : PySem.W.nsIn K mainGlobals n = some none) (z : PySem.W.nsIn K mainGlobals n = some none → Q) : Q := z a
/-! ### errors' classes -/
/-- what the written part says of an error's class -/
structure EA (K : PySem.W.Frag) (e : Ed) (C : Addr) : Prop where
  ns : PySem.W.nsIn K mainGlobals e.nm = some (some (.ref C))
  oex : OexC K C
  noF : PySem.W.findIn K (.ref C) e.fld = some none
  init : ∃ (fI : Addr) (qual : Str) (oc : Value) (od : Option Addr) (kV doc pm : Value) (an : Option Addr) (cdv ct : Value) (osl : Array (Option Value)), PySem.W.findIn K (.ref C) "__init__" = some (some (.ref fI)) ∧ PySem.W.typeIn K (.ref fI) = some (.type "function") ∧
    K.lookup fI = some ⟨oc, od, .func (PySem.W.fnOf "__init__" qual (defArgs e.st) (defBody e.st) (defScope e.st) .none kV doc pm an cdv ct), osl⟩ ∧ PySem.W.codeIn K cdv qual = true ∧ PySem.W.keepIn K (.ref fI) = true
  er : ErrC K C
def BindE (e : Ed) : Prop := ∀ (qual : Str) (kV doc pm : Value) (an : Option Addr) (cdv ct : Value) (us : List Value), us.length = 2 → bindArgs (PySem.W.fnOf "__init__" qual (defArgs e.st) (defBody e.st) (defScope e.st) .none kV doc pm an cdv ct) ⟨us, []⟩ = pure (([Str.ofString "self", e.fld] : List Str).zip us)
theorem er_then {Q : Prop} {K : PySem.W.Frag} {h : Heap} (_ : K.In h) {e : Ed} {n f qn : Str} (hn : e.nm = n) (hf : e.fld = f) {C fI : Addr} {nm q : Str} {N : Addr} {bs bm : List Value} {sn : List Str} {sub : List Value} {ab : Bool} {col : Option Bool} {dd : Option Addr} {m0 m1 m2 m3 m5 : Option Value}
    {od1 an1 : Option Addr} {sl1 : Array (Option Value)} {oc1 kV1 dc1 pm1 cd1 ct1 : Value} (aC : PySem.W.nsIn K mainGlobals n = some (some (.ref C)))
    (xL : K.lookup C = some (excClassObj nm q C N bs bm true sn sub ab col dd m0 m1 m2 m3 m5 "ValueError.__new__")) (hbm : PySem.HandSPX.refsVE bm = true)
    (sa : PySem.W.findIn K (.ref C) "__setattr__" = some (some (.builtin "object.__setattr__"))) (ga : PySem.W.findIn K (.ref C) "__getattribute__" = some (some (.builtin "BaseException.__getattribute__"))) (gg : PySem.W.findIn K (.ref C) "__getattr__" = some none) (nb : PySem.W.findIn K (.ref C) f = some none)
    (a1 : PySem.W.findIn K (.ref C) "__init__" = some (some (.ref fI))) (t1 : PySem.W.typeIn K (.ref fI) = some (.type "function"))
    (l1 : K.lookup fI = some ⟨oc1, od1, .func (PySem.W.fnOf "__init__" qn (defArgs e.st) (defBody e.st) (defScope e.st) .none kV1 dc1 pm1 an1 cd1 ct1), sl1⟩) (c1 : PySem.W.codeIn K cd1 qn = true) (k1 : PySem.W.keepIn K (.ref fI) = true)
    (kC : PySem.W.keepIn K (.ref C) = true) (eC : PySem.W.subIn K (.ref C) (.type "BaseException") = some true) (tC : PySem.W.typeIn K (.ref C) = some (.type "type")) (hC : PySem.W.hasDictIn K C = true) (iC : PySem.W.isClsIn K C = true)
    (ha : PySem.W.findIn K (.ref C) "__class__" = some (some (.builtin "object.__class__"))) (hm : PySem.W.mroIn K C (.type "object") = some true) (z : (∃ C, EA K e C) → Q) : Q := by
  subst hn hf
  exact z ⟨C, aC, ⟨⟨nm, q, N, bs, bm, sn, sub, ab, col, dd, m0, m1, m2, m3, m5, xL, hbm⟩, sa, eC, tC, kC⟩, nb, ⟨fI, qn, oc1, od1, kV1, dc1, pm1, an1, cd1, ct1, sl1, a1, t1, l1, c1, k1⟩, ⟨⟨ga, gg, eC, hC⟩, iC, ha, hm⟩⟩
/-- what a name of a class is -/
def NmK (K : PySem.W.Frag) (x : Str) (cv : Value) : Prop := PySem.W.nsIn K mainGlobals x = some (some cv) ∨ (PySem.W.nsIn K mainGlobals x = some none ∧ bootBuiltins x = some cv)
theorem NmK.uq {K : PySem.W.Frag} {x : Str} {c d : Value} (h : NmK K x c) (k : NmK K x d) : c = d := by
  rcases h with h | ⟨h1, h2⟩ <;> rcases k with k | ⟨k1, k2⟩
  · rw [h] at k; cases k; rfl
  · rw [h] at k1; cases k1
  · rw [h1] at k; cases k
  · rw [h2] at k2; cases k2; rfl
/-- a name in an except clause or in isinstance -/
def TrN (K : PySem.W.Frag) (x : Str) : Prop := ∃ cV cv, NmK K x cv ∧ RelV cV cv ∧ (∀ u, RelV cV u → u = cv) ∧ PySem.W.subIn K cv (.type "BaseException") = some true ∧ ∀ t, PySem.W.kitCls K t cv = PySem.W.subIn K t cv
theorem tr_own {Q : Prop} {K : PySem.W.Frag} {h : Heap} (_ : K.In h) {x : Str} {S : Addr} (a : PySem.W.nsIn K mainGlobals x = some (some (.ref S))) (s1 : PySem.W.subIn K (.ref S) (.type "BaseException") = some true) (s2 : PySem.W.isClsIn K S = true) (s3 : PySem.W.typeIn K (.ref S) = some (.type "type")) (z : TrN K x → Q) : Q := by
  refine z ⟨.ref S, .ref S, .inl a, rfl, fun u h => h, s1, fun t => ?_⟩
  have e2 : ((PySem.W.clsIn K S).isSome && PySem.W.typeIn K (.ref S) == some (.type "type")) = true := by
    have h2' : (PySem.W.clsIn K S).isSome = true := s2
    rw [h2', s3] <;> rfl
  exact if_pos e2
theorem tr_boot {Q : Prop} {K : PySem.W.Frag} {h : Heap} (_ : K.In h) {x : Str} {t0 : String} (a : PySem.W.nsIn K mainGlobals x = some none) (b : bootBuiltins x = some (.type t0)) (s1 : PySem.W.subIn K (.type t0) (.type "BaseException") = some true) (s2 : PySem.W.kitMeta t0 = true) (z : TrN K x → Q) : Q :=
  z ⟨.ty t0, .type t0, .inr ⟨a, b⟩, rfl, fun u h => h, s1, fun t => if_pos s2⟩
/-- whether the class n is under x -/
def PrK (K : PySem.W.Frag) (n x : Str) (b : Bool) : Prop := ∃ (C : Addr) (cv : Value), PySem.W.nsIn K mainGlobals n = some (some (.ref C)) ∧ NmK K x cv ∧ PySem.W.subIn K (.ref C) cv = some b ∧ (b = true ∨ (Value.ref C == cv) = false)
theorem pr_own {Q : Prop} {K : PySem.W.Frag} {h : Heap} (_ : K.In h) {n x : Str} {C S : Addr} {b : Bool} (aC : PySem.W.nsIn K mainGlobals n = some (some (.ref C))) (a : PySem.W.nsIn K mainGlobals x = some (some (.ref S))) (s : PySem.W.subIn K (.ref C) (.ref S) = some b) (hb : b = true ∨ (Value.ref C == Value.ref S) = false) (z : PrK K n x b → Q) : Q :=
  z ⟨C, .ref S, aC, .inl a, s, hb⟩
theorem pr_boot {Q : Prop} {K : PySem.W.Frag} {h : Heap} (_ : K.In h) {n x : Str} {C : Addr} {t0 : String} {b : Bool} (aC : PySem.W.nsIn K mainGlobals n = some (some (.ref C))) (a : PySem.W.nsIn K mainGlobals x = some none) (ab : bootBuiltins x = some (.type t0)) (s : PySem.W.subIn K (.ref C) (.type t0) = some b) (z : PrK K n x b → Q) : Q :=
  z ⟨C, .type t0, aC, .inr ⟨a, ab⟩, s, .inr rfl⟩
theorem oc_then {Q : Prop} {K : PySem.W.Frag} {h : Heap} (_ : K.In h) (a : PySem.W.specialIn K (.builtin "object.__class__") "__get__" = some (some (.builtin "getset_descriptor.__get__"))) (b : PySem.W.takesIn K (.builtin "object.__class__") = some true)
    (z : PySem.W.specialIn K (.builtin "object.__class__") "__get__" = some (some (.builtin "getset_descriptor.__get__")) ∧ PySem.W.takesIn K (.builtin "object.__class__") = some true → Q) : Q := z ⟨a, b⟩
theorem cx_none {P : Program} {w : World} {H : Hp} {s s' : Shared} {e : Value} (h : L2.CX P w [] H s (fun _ _ _ => False) e s') : False := by
  obtain ⟨_, _, _, _, _, _, _, _, _, _, _, _, z⟩ := h
  exact z.elim
def FOf (K : PySem.W.Frag) (Ds : List Dd) (Es : List Ed) (i : Nat) : Addr :=
  if 3000000 ≤ i then (if (Es.find? fun e => e.c = i - 3000000).isSome = true then 1 else 0)
  else if 2000000 ≤ i then 0
  else if 1000000 ≤ i then (match Es.find? fun e => e.c = i - 1000000 with
    | some e => (match PySem.W.nsIn K mainGlobals e.nm with
      | some (some (.ref f)) => f
      | _ => 0)
    | none => 0)
  else match Ds[i]? with
  | some d => (match PySem.W.nsIn K mainGlobals d.nm with
    | some (some (.ref f)) => f
    | _ => 0)
  | none => 0
theorem find_c {Es : List Ed} (hd : (Es.map Ed.c).Nodup) {e : Ed} (h : e ∈ Es) : Es.find? (fun x => x.c = e.c) = some e := by
  induction Es with
  | nil => cases h
  | cons x l ih =>
    rw [List.map_cons, List.nodup_cons] at hd
    rw [List.find?_cons]
    rcases List.mem_cons.mp h with rfl | h
    · simp
    · have : x.c ≠ e.c := fun z => hd.1 (z ▸ List.mem_map_of_mem h)
      simp only [this, decide_false]
      exact ih hd.2 h
theorem law_mk {P : Program} {w : World} {K : PySem.W.Frag} {h : Heap} {mg : Str → Option Value} {fa : Addr} {T : Tb} {Ds : List Dd} {Es : List Ed} {i k : Nat} {d : Dd} (KX : K.In h) (G : h.Ns mainGlobals mg) (hfa : mg d.nm = some (.ref fa))
    (hT : T.fns = Ds.map fun d => (d.nm, d.ps)) (hlen : Ds.length ≤ 1000000) (hc : Ds.all (fun d => chkD T d) = true) (hB : AllI BindP 0 Ds) (hK : AllQ (KwP Ds) T.kws) (hA : AllI (fun _ d => ∃ f, DA K d f) 0 Ds)
    (gi : AllQ (fun q : Str × Int => ∃ t, PySem.W.nsIn K mainGlobals q.1 = some (some (.int q.2 t))) T.gis) (bl : AllQ (fun x => PySem.W.nsIn K mainGlobals x = some none) T.blts)
    (hTe : T.errs = Es.map fun e => (e.nm, e.c)) (hEn : (Es.map Ed.c).Nodup) (hEc : Es.all chkN = true) (hEb : AllQ BindE Es) (hEA : AllQ (fun e => ∃ C, EA K e C) Es)
    (hoc : PySem.W.specialIn K (.builtin "object.__class__") "__get__" = some (some (.builtin "getset_descriptor.__get__")) ∧ PySem.W.takesIn K (.builtin "object.__class__") = some true)
    (hTrn : T.trs.all (fun q => !dbg q.1 && !decide (q.1 = "__name__")) = true) (hTr : AllQ (fun q : Str × List Nat => TrN K q.1 ∧ AllQ (fun e : Ed => PrK K e.nm q.1 (q.2.contains e.c)) Es) T.trs)
    (e : Ds[i]? = some d) (hps : d.ps = [Str.ofString "script"])
    (hlaw : ∀ ns : List Int, ns.length ≤ 63 → callF (Ds.map Dd.df) k i [.kl (ns.map D.int)] [] = .ok (.bl true) []) :
    ∃ fd : FuncData, (∀ (s : Shared) (u : Value), BindsTo s fd ⟨[u], []⟩ [(Str.ofString "script", u)]) ∧ ∀ base : Heap, K.In base → base.Ns mainGlobals mg → FnOkG P w K mg base (k + 2) fa fd [Str.ofString "script"] (spEnd K) := by
  have hD : ∀ (i : Nat) (d : Dd), Ds[i]? = some d → DefAt K mg T (FOf K Ds Es) i d := fun i d e => by
    obtain ⟨f, a⟩ := hA.get e
    have hi : i < Ds.length := by
      by_cases z : i < Ds.length
      · exact z
      · rw [List.getElem?_eq_none (by omega)] at e; cases e
    have hF : FOf K Ds Es i = f := by unfold FOf; rw [if_neg (by omega), if_neg (by omega), if_neg (by omega), e]; simp only [a.ns]
    have b := hB.get e
    rw [Nat.zero_add] at b
    obtain ⟨oc, od, kV, doc, pm, an, cdv, ct, osl, l, c⟩ := a.ex
    refine ⟨⟨_, by rw [hF]; exact fun_mk l c a.kp, .all (b kV doc pm an cdv ct), fun q hq hi s us ws h1 h2 => .of_eq (hK.get q hq d (by rw [hi]; exact e) kV doc pm an cdv ct us ws h1 h2)⟩, by rw [hF]; exact PySem.W.mg_of KX G a.ns⟩
  have bt : ∀ fd, Fun K d.nm d.nm d.st fa fd → ∀ (s : Shared) (u : Value), BindsTo s fd ⟨[u], []⟩ [(Str.ofString "script", u)] := fun fd Gf s u => by
    obtain ⟨oc, od, kV, doc, pm, an, cdv, ct, osl, rfl, lk, hcd⟩ := Gf.ex
    have b := (hB.get e) kV doc pm an cdv ct
    have := b [u] (by rw [hps]; rfl)
    rw [hps] at this
    exact .of_eq this
  have low : ∀ ed ∈ Es, ed.c < 1000 := fun ed hed => by
    have hN := List.all_eq_true.mp hEc ed hed
    unfold chkN at hN
    simp only [Bool.and_eq_true, decide_eq_true_eq] at hN
    exact excF_lt hN.1.1.1.1
  have hF1 : ∀ ed ∈ Es, ∀ C, PySem.W.nsIn K mainGlobals ed.nm = some (some (.ref C)) → FOf K Ds Es (1000000 + ed.c) = C := fun ed hed C hC => by
    have := low ed hed
    unfold FOf
    rw [if_neg (by omega), if_neg (by omega), if_pos (by omega), show 1000000 + ed.c - 1000000 = ed.c by omega, find_c hEn hed]
    simp only [hC]
  have hF3 : ∀ ed ∈ Es, FOf K Ds Es (3000000 + ed.c) = 1 := fun ed hed => by
    unfold FOf
    rw [if_pos (by omega), show 3000000 + ed.c - 3000000 = ed.c by omega, find_c hEn hed]
    rfl
  have hF4 : ∀ c, FOf K Ds Es (3000000 + c) = 1 → ∃ ed ∈ Es, ed.c = c := fun c hc => by
    unfold FOf at hc
    rw [if_pos (by omega), show 3000000 + c - 3000000 = c by omega] at hc
    split at hc
    · rename_i hs
      obtain ⟨ed, hed⟩ := Option.isSome_iff_exists.mp hs
      exact ⟨ed, List.mem_of_find?_eq_some hed, by simpa using List.find?_some hed⟩
    · cases hc
  have hErr : ErrT K (FOf K Ds Es) := ⟨hoc.1, hoc.2, fun c hc => by
    obtain ⟨ed, hed, rfl⟩ := hF4 c hc
    obtain ⟨C, a⟩ := hEA.get ed hed
    have hN := List.all_eq_true.mp hEc ed hed
    unfold chkN at hN
    simp only [Bool.and_eq_true, decide_eq_true_eq] at hN
    rw [hF1 ed hed C a.ns]
    exact ⟨a.er, fun fld hf => by rw [hN.1.1.1.1] at hf; cases hf; exact a.noF⟩⟩
  have hTrO : TrOk K mg (FOf K Ds Es) T.trs := fun q hq => by
    obtain ⟨⟨cV, cv, n1, n2, n3, n4, n5⟩, hp⟩ := hTr.get q hq
    have hn := List.all_eq_true.mp hTrn q hq
    simp only [Bool.and_eq_true, Bool.not_eq_true', decide_eq_false_iff_not] at hn
    refine ⟨cV, cv, ⟨?_, hn.1, n2, n3⟩, fun c hc => ?_⟩
    · rcases n1 with n1 | ⟨n1, n1'⟩
      · exact .inl (PySem.W.mg_of KX G n1)
      · exact .inr ⟨PySem.W.mg_none_of KX G n1, n1', hn.2⟩
    · obtain ⟨ed, hed, rfl⟩ := hF4 c hc
      obtain ⟨C, cv', p1, p2, p3, p4⟩ := hp.get ed hed
      obtain rfl := p2.uq n1
      rw [hF1 ed hed C p1]
      have e1 : PySem.W.kitCls K (.ref C) cv' = some (q.2.contains ed.c) := by rw [n5]; exact p3
      refine ⟨?_, ?_⟩
      · unfold PySem.W.exmOne
        rw [n4, if_pos (by decide)]; exact e1
      · unfold PySem.W.kitOne
        rcases p4 with p4 | p4
        · split
          · rw [p4]
          · exact e1
        · rw [p4, if_neg (by decide)]; exact e1
  obtain ⟨fd, h1, h2⟩ := law_ok (P := P) (w := w) (k := k) hT (fun d hd => List.all_eq_true.mp hc d hd) hD (fun q hq => let ⟨t, z⟩ := gi.get q hq; ⟨t, PySem.W.mg_of KX G z⟩) (fun x hx => PySem.W.mg_none_of KX G (bl.get x hx))
    (fun q hq => by
      rw [hTe] at hq
      obtain ⟨ed, hed, rfl⟩ := List.mem_map.mp hq
      obtain ⟨C, a⟩ := hEA.get ed hed
      obtain ⟨fI, qual, oc, od, kV, doc, pm, an, cdv, ct, osl, i1, i2, i3, i4, i5⟩ := a.init
      refine ⟨ed, rfl, rfl, List.all_eq_true.mp hEc ed hed, hF3 ed hed, ?_⟩
      show ErrD K mg ed (FOf K Ds Es (1000000 + ed.c))
      rw [hF1 ed hed C a.ns]
      exact ⟨PySem.W.mg_of KX G a.ns, a.oex, a.noF, fI, _, qual, i1, i2, fun_mk i3 i4 i5, .all ((hEb.get ed hed : BindE ed) qual kV doc pm an cdv ct)⟩)
    hErr hTrO (by unfold FOf; rw [if_neg (by omega), if_pos (by omega)]; decide) e hps hfa bt hlaw
  exact ⟨fd, h1, fun base _ _ => h2 base⟩
end Ev

set_option maxRecDepth 100000
/-! Pl0: the evaluator's steps as rows for simp; states with one pool -/
namespace Ev
open PySem (Str)
section
variable {cl : Cl} {env : Env} {A : AH}
@[simp] theorem ev_var (i : Nat) : ev cl (.var i) env A = (match env[i]? with | some (some d) => .ok d A | _ => .bad) := (Eq.refl _).trans rfl
@[simp] theorem ev_int (i : Int) : ev cl (.int i) env A = .ok (.int i) A := (Eq.refl _).trans rfl
@[simp] theorem ev_bl (b : Bool) : ev cl (.bl b) env A = .ok (.bl b) A := (Eq.refl _).trans rfl
@[simp] theorem ev_non : ev cl .non env A = .ok .non A := (Eq.refl _).trans rfl
@[simp] theorem ev_str (s : Str) : ev cl (.str s) env A = .ok (.str s) A := (Eq.refl _).trans rfl
@[simp] theorem ev_gv (x : Str) (i : Int) : ev cl (.gv x i) env A = .ok (.int i) A := (Eq.refl _).trans rfl
@[simp] theorem ev_ty (t : String) : ev cl (.ty t) env A = .ok (.ty t) A := (Eq.refl _).trans rfl
@[simp] theorem ev_tup (es : Es) : ev cl (.tup es) env A = bnd (evs cl es env A) fun ds A => .ok (.tup ds) A := (Eq.refl _).trans rfl
@[simp] theorem ev_lst (es : Es) : ev cl (.lst es) env A = bnd (evs cl es env A) fun ds A => .ok (.lst ds) A := (Eq.refl _).trans rfl
@[simp] theorem ev_lstM (es : Es) : ev cl (.lstM es) env A = bnd (evs cl es env A) fun ds A => .ok (.ref A.length) (A ++ [.lst ds]) := (Eq.refl _).trans rfl
@[simp] theorem ev_dkN : ev cl .dkN env A = .ok (.ref A.length) (A ++ [.dk [] []]) := (Eq.refl _).trans rfl
@[simp] theorem ev_dtN : ev cl .dtN env A = .ok (.ref A.length) (A ++ [.dt [] []]) := (Eq.refl _).trans rfl
@[simp] theorem ev_bin (op : Bop) (a b : E) : ev cl (.bin op a b) env A = bnd (ev cl a env A) fun x A => bnd (ev cl b env A) fun y A => ofO (binO A op x y) A := (Eq.refl _).trans rfl
@[simp] theorem ev_neg (a : E) : ev cl (.neg a) env A = bnd (ev cl a env A) fun x A => match x with
    | .int i => .ok (.int (-i)) A
    | _ => .bad := (Eq.refl _).trans rfl
@[simp] theorem ev_not (a : E) : ev cl (.not a) env A = bnd (tst (ev cl a env A)) fun b A => .ok (.bl (!b)) A := (Eq.refl _).trans rfl
@[simp] theorem ev_and (a b : E) : ev cl (.and a b) env A = bnd (ev cl a env A) fun x A => bnd (ofO (truO A x) A) fun t A => if t = true then ev cl b env A else .ok x A := (Eq.refl _).trans rfl
@[simp] theorem ev_or (a b : E) : ev cl (.or a b) env A = bnd (ev cl a env A) fun x A => bnd (ofO (truO A x) A) fun t A => if t = true then .ok x A else ev cl b env A := (Eq.refl _).trans rfl
@[simp] theorem ev_one (a : E) : ev cl (.one a) env A = ev cl a env A := (Eq.refl _).trans rfl
@[simp] theorem ev_ite (c a b : E) : ev cl (.ite c a b) env A = bnd (tst (ev cl c env A)) fun t A => if t = true then ev cl a env A else ev cl b env A := (Eq.refl _).trans rfl
@[simp] theorem ev_cmp (op : Cop) (a b : E) : ev cl (.cmp op a b) env A = bnd (ev cl a env A) fun x A => bnd (ev cl b env A) fun y A => ofO ((cmpO A op x y).map .bl) A := (Eq.refl _).trans rfl
@[simp] theorem ev_chn (p q : Cop) (a b c : E) : ev cl (.chn p q a b c) env A = bnd (ev cl a env A) fun x A => bnd (ev cl b env A) fun y A => bnd (ofO (cmpO A p x y) A) fun t A =>
      if t = true then bnd (ev cl c env A) fun z A => ofO ((cmpO A q y z).map .bl) A else .ok (.bl false) A := (Eq.refl _).trans rfl
@[simp] theorem ev_isN (a : E) (neg : Bool) : ev cl (.isN a neg) env A = bnd (ev cl a env A) fun x A => .ok (.bl (decide (x = .non) != neg)) A := (Eq.refl _).trans rfl
@[simp] theorem ev_isB (a : E) (b neg : Bool) : ev cl (.isB a b neg) env A = bnd (ev cl a env A) fun x A => .ok (.bl (decide (x = .bl b) != neg)) A := (Eq.refl _).trans rfl
@[simp] theorem ev_idx (a b : E) : ev cl (.idx a b) env A = bnd (ev cl a env A) fun x A => bnd (ev cl b env A) fun y A => ofO (idxO A x y) A := (Eq.refl _).trans rfl
@[simp] theorem ev_slc (a : E) (lo hi : Eo) : ev cl (.slc a lo hi) env A = bnd (ev cl a env A) fun x A => bnd (evo cl lo env A) fun l A => bnd (evo cl hi env A) fun h A => ofO (slcO A x l h) A := (Eq.refl _).trans rfl
@[simp] theorem ev_call (f : Nat) (es : Es) : ev cl (.call f es) env A = bnd (evs cl es env A) fun ds A => cl f ds A := (Eq.refl _).trans rfl
@[simp] theorem ev_callK (f : Nat) (es ks : Es) (ix : List Nat) : ev cl (.callK f es ks ix) env A = bnd (evs cl es env A) fun ds A => bnd (evs cl ks env A) fun ws A => cl f (placed ds ws ix) A := (Eq.refl _).trans rfl
@[simp] theorem ev_fn (x : Str) (i : Nat) : ev cl (.fn x i) env A = .ok (.fn i) A := (Eq.refl _).trans rfl
@[simp] theorem ev_callV (i : Nat) (es : Es) : ev cl (.callV i es) env A = match env[i]? with
    | some (some (.fn f)) => bnd (evs cl es env A) fun ds A => cl f ds A
    | _ => .bad := (Eq.refl _).trans rfl
@[simp] theorem ev_excG (i : Nat) (fld : Str) : ev cl (.excG i fld) env A = match env[i]? with
    | some (some (.exn c d)) => if excF c = some fld then .ok d A else .bad
    | _ => .bad := (Eq.refl _).trans rfl
@[simp] theorem ev_excI (i : Nat) (x : Str) (cs : List Nat) : ev cl (.excI i x cs) env A = match env[i]? with
    | some (some (.exn c _)) => .ok (.bl (cs.contains c)) A
    | _ => .bad := (Eq.refl _).trans rfl
theorem ev_comp2 (m : Bool) (own : List Nat) (tg : T) (it : I) (cs : Es) (tg1 : T) (it1 : I) (cs1 : Es) (e : E) : ev cl (.comp2 m own tg it cs tg1 it1 cs1 e) env A = bnd (evi cl it env A) fun xs A =>
      bnd (calm (compL2 (fun d => asg cl tg d) (fun env A => evt cl cs env A) (fun env A => evi cl it1 env A) (fun d => asg cl tg1 d) (fun env A => evt cl cs1 env A) (fun env A => ev cl e env A) tg1.slots (wipe env own) xs A)) fun ds A =>
      if ds.length ≤ lim then (if m = true then .ok (.ref A.length) (A ++ [.lst ds]) else .ok (.lst ds) A) else .bad := (Eq.refl _).trans rfl
@[simp] theorem ev_bi (b : Bi) (es : Es) : ev cl (.bi b es) env A = bnd (evs cl es env A) fun ds A => ofO (biO A b ds) A := (Eq.refl _).trans rfl
@[simp] theorem ev_lstOf (a : E) : ev cl (.lstOf a) env A = bnd (ev cl a env A) fun x A => bnd (ofO (seqO (shal A x)) A) fun xs A => .ok (.ref A.length) (A ++ [.lst xs]) := (Eq.refl _).trans rfl
@[simp] theorem ev_app (o a : E) : ev cl (.app o a) env A = bnd (ev cl o env A) fun x A => bnd (ofO (lstR A x) A) fun _ A => bnd (ev cl a env A) fun y A => bnd (ofO (appO A x y) A) fun A1 _ => .ok .non A1 := (Eq.refl _).trans rfl
theorem ev_comp (m : Bool) (own : List Nat) (tg : T) (it : I) (cs : Es) (e : E) : ev cl (.comp m own tg it cs e) env A = bnd (evi cl it env A) fun xs A => bnd (calm (compL (fun d => asg cl tg d) (fun env A => evt cl cs env A) (fun env A => ev cl e env A) (wipe env own) xs A)) fun ds A =>
      if ds.length ≤ lim then (if m = true then .ok (.ref A.length) (A ++ [.lst ds]) else .ok (.lst ds) A) else .bad := (Eq.refl _).trans rfl
@[simp] theorem evo_no : evo cl .no env A = .ok none A := (Eq.refl _).trans rfl
@[simp] theorem evo_yes (e : E) : evo cl (.yes e) env A = bnd (ev cl e env A) fun x A => ofO ((intO x).map some) A := (Eq.refl _).trans rfl
@[simp] theorem evs_nil : evs cl .nil env A = .ok [] A := (Eq.refl _).trans rfl
@[simp] theorem evs_cons (e : E) (r : Es) : evs cl (.cons e r) env A = bnd (ev cl e env A) fun d A => bnd (evs cl r env A) fun ds A => .ok (d :: ds) A := (Eq.refl _).trans rfl
@[simp] theorem evt_nil : evt cl .nil env A = .ok true A := (Eq.refl _).trans rfl
@[simp] theorem evt_cons (e : E) (r : Es) : evt cl (.cons e r) env A = bnd (tst (ev cl e env A)) fun t A => if t = true then evt cl r env A else .ok false A := (Eq.refl _).trans rfl
@[simp] theorem asg_nm (i : Nat) (d : D) : asg cl (.nm i) d env A = .ok (env.set i (some d)) A := (Eq.refl _).trans rfl
@[simp] theorem asg_tup (ts : Ts) (d : D) : asg cl (.tup ts) d env A = bnd (ofO (unpO (shal A d)) A) fun xs A => asgs cl ts xs env A := (Eq.refl _).trans rfl
@[simp] theorem asg_sub (o i : E) (d : D) : asg cl (.sub o i) d env A = bnd (ev cl o env A) fun x A => bnd (ev cl i env A) fun y A => bnd (ofO (setO A x y d) A) fun A1 _ => .ok env A1 := (Eq.refl _).trans rfl
@[simp] theorem asgs_nil : asgs cl .nil [] env A = .ok env A := (Eq.refl _).trans rfl
@[simp] theorem asgs_cons (t : T) (r : Ts) (d : D) (ds : List D) : asgs cl (.cons t r) (d :: ds) env A = bnd (asg cl t d env A) fun env A => asgs cl r ds env A := (Eq.refl _).trans rfl
@[simp] theorem evi_seq (e : E) : evi cl (.seq e) env A = bnd (ev cl e env A) fun x A => ofO (seqO x) A := (Eq.refl _).trans rfl
@[simp] theorem evi_rng1 (a : E) : evi cl (.rng1 a) env A = bnd (ev cl a env A) fun x A => match x with
    | .int j => if rngOk j then .ok (upto 0 j.toNat) A else .bad
    | _ => .bad := (Eq.refl _).trans rfl
@[simp] theorem evi_rng2 (a b : E) : evi cl (.rng2 a b) env A = bnd (ev cl a env A) fun x A => bnd (ev cl b env A) fun y A => match x, y with
    | .int i, .int j => if rngOk i ∧ rngOk j then .ok (upto i (j - i).toNat) A else .bad
    | _, _ => .bad := (Eq.refl _).trans rfl
@[simp] theorem evi_zip (a b : E) : evi cl (.zip a b) env A = bnd (ev cl a env A) fun x A => bnd (ev cl b env A) fun y A => bnd (ofO (zipO x y) A) fun q A => .ok (zip2 q.1 q.2) A := (Eq.refl _).trans rfl
@[simp] theorem evi_zip3 (a b c : E) : evi cl (.zip3 a b c) env A = bnd (ev cl a env A) fun x A => bnd (ev cl b env A) fun y A => bnd (ev cl c env A) fun z A =>
      bnd (ofO (seqO x) A) fun xs A => bnd (ofO (seqO y) A) fun ys A => bnd (ofO (seqO z) A) fun zs A => .ok (zip3 xs ys zs) A := (Eq.refl _).trans rfl
@[simp] theorem evi_rng3 (a b c : E) : evi cl (.rng3 a b c) env A = bnd (ev cl a env A) fun x A => bnd (ev cl b env A) fun y A => bnd (ev cl c env A) fun z A => match x, y, z with
    | .int i, .int j, .int k => if k = -1 ∧ rngOk i ∧ rngOk j then .ok (down i (i - j).toNat) A else .bad
    | _, _, _ => .bad := (Eq.refl _).trans rfl
@[simp] theorem evi_keys (a : E) : evi cl (.keys a) env A = bnd (ev cl a env A) fun x A => ofO (dkeysO x) A := (Eq.refl _).trans rfl
@[simp] theorem evS_raise (x : Str) (c : Nat) (e : E) : evS cl (.raise x c e) env A = bnd (ev cl e env A) fun d A => if c < 1000 then .exc c d A else .bad := (Eq.refl _).trans rfl
/-- what an except clause makes of what its try ends with -/
def tryE (fs : Env → AH → Res (Fl × Env)) (n : Nat) (cs : List Nat) (i : Nat) : Res (Fl × Env) → Res (Fl × Env)
  | .ok f A => .ok f A
  | .exc c d A1 => if cs.contains c = true then bnd (calm (fs ((List.replicate n none).set i (some (.exn c d))) A1)) fun f A2 =>
        if A2 = A1 then (match f.1 with
          | .rt d => if D.noX d = true then .ok (.rt d, List.replicate f.2.length none) A2 else .bad
          | fl => .ok (fl, List.replicate f.2.length none) A2) else .bad
      else .exc c d A1
  | .bad => .bad
theorem evS_tryAs (body : Ss) (x : Str) (cs : List Nat) (i : Nat) (su : Ss) : evS cl (.tryAs body x cs i su) env A = tryE (fun env A => evSs cl su env A) env.length cs i (evSs cl body env A) := by
  simp only [evS]
  cases evSs cl body env A <;> rfl
@[simp] theorem tryE_ok (fs : Env → AH → Res (Fl × Env)) (n : Nat) (cs : List Nat) (i : Nat) (f : Fl × Env) : tryE fs n cs i (.ok f A) = .ok f A := (Eq.refl _).trans rfl
theorem tryE_exc (fs : Env → AH → Res (Fl × Env)) {n : Nat} {cs : List Nat} {i c : Nat} {d d2 : D} {env2 : Env} (h : cs.contains c = true) (hf : fs ((List.replicate n none).set i (some (.exn c d))) A = .ok (.rt d2, env2) A) (hx : D.noX d2 = true) : tryE fs n cs i (.exc c d A) = .ok (.rt d2, List.replicate env2.length none) A := by
  simp only [tryE, h, if_true, hf, calm_ok, bnd_ok, hx]
@[simp] theorem evS_asg (t : T) (e : E) : evS cl (.asg t e) env A = bnd (ev cl e env A) fun d A => bnd (asg cl t d env A) fun env A => .ok (.nx, env) A := (Eq.refl _).trans rfl
@[simp] theorem evS_par (is : List Nat) (es : Es) : evS cl (.par is es) env A = bnd (evs cl es env A) fun ds A => if ds.length = is.length then .ok (.nx, setPar is ds env) A else .bad := (Eq.refl _).trans rfl
@[simp] theorem evS_ex (e : E) : evS cl (.ex e) env A = bnd (ev cl e env A) fun _ A => .ok (.nx, env) A := (Eq.refl _).trans rfl
@[simp] theorem evS_iff (c : E) (a b : Ss) : evS cl (.iff c a b) env A = bnd (tst (ev cl c env A)) fun t A => if t = true then evSs cl a env A else evSs cl b env A := (Eq.refl _).trans rfl
theorem evS_whl (n : Nat) (c : E) (a : Ss) : evS cl (.whl n c a) env A = whlL (fun env A => tst (ev cl c env A)) (fun env A => evSs cl a env A) n env A := (Eq.refl _).trans rfl
theorem evS_for (t : T) (it : I) (a : Ss) : evS cl (.for t it a) env A = bnd (evi cl it env A) fun xs A => forL (fun d => asg cl t d) (fun env A => evSs cl a env A) xs env A := (Eq.refl _).trans rfl
@[simp] theorem evS_ret (e : E) : evS cl (.ret e) env A = bnd (ev cl e env A) fun d A => .ok (.rt d, env) A := (Eq.refl _).trans rfl
@[simp] theorem evS_retN : evS cl .retN env A = .ok (.rt .non, env) A := (Eq.refl _).trans rfl
@[simp] theorem evS_pass : evS cl .pass env A = .ok (.nx, env) A := (Eq.refl _).trans rfl
@[simp] theorem evS_brk : evS cl .brk env A = .ok (.bk, env) A := (Eq.refl _).trans rfl
@[simp] theorem evS_cnt : evS cl .cnt env A = .ok (.ct, env) A := (Eq.refl _).trans rfl
@[simp] theorem evSs_nil : evSs cl .nil env A = .ok (.nx, env) A := (Eq.refl _).trans rfl
/-- the rest of a suite -/
def nextS (cl : Cl) (r : Ss) (f : Fl × Env) (A : AH) : Res (Fl × Env) := match f.1 with
  | .nx => evSs cl r f.2 A
  | _ => .ok f A
@[simp] theorem nextS_nx (r : Ss) : nextS cl r (.nx, env) A = evSs cl r env A := (Eq.refl _).trans rfl
@[simp] theorem nextS_rt (r : Ss) (d : D) : nextS cl r (.rt d, env) A = .ok (.rt d, env) A := (Eq.refl _).trans rfl
@[simp] theorem nextS_bk (r : Ss) : nextS cl r (.bk, env) A = .ok (.bk, env) A := (Eq.refl _).trans rfl
@[simp] theorem nextS_ct (r : Ss) : nextS cl r (.ct, env) A = .ok (.ct, env) A := (Eq.refl _).trans rfl
@[simp] theorem evSs_cons (s : S) (r : Ss) : evSs cl (.cons s r) env A = bnd (evS cl s env A) (nextS cl r) := (Eq.refl _).trans rfl
@[simp] theorem tst_ok (d : D) : tst (.ok d A) = ofO (truO A d) A := (Eq.refl _).trans rfl
@[simp] theorem truO_bl (b : Bool) : truO A (.bl b) = some b := (Eq.refl _).trans rfl
@[simp] theorem truO_int (i : Int) : truO A (.int i) = some (i != 0) := (Eq.refl _).trans rfl
@[simp] theorem truO_tup (xs : List D) : truO A (.tup xs) = some (!xs.isEmpty) := (Eq.refl _).trans rfl
@[simp] theorem truO_lst (xs : List D) : truO A (.lst xs) = some (!xs.isEmpty) := (Eq.refl _).trans rfl
@[simp] theorem truO_non : truO A .non = some false := (Eq.refl _).trans rfl
@[simp] theorem shal_int (i : Int) : shal A (.int i) = .int i := (Eq.refl _).trans rfl
@[simp] theorem shal_bl (i : Bool) : shal A (.bl i) = .bl i := (Eq.refl _).trans rfl
@[simp] theorem shal_tup (xs : List D) : shal A (.tup xs) = .tup xs := (Eq.refl _).trans rfl
@[simp] theorem shal_lst (xs : List D) : shal A (.lst xs) = .lst xs := (Eq.refl _).trans rfl
@[simp] theorem shal_kl (xs : List D) : shal A (.kl xs) = .kl xs := (Eq.refl _).trans rfl
theorem shal_ref {n : Nat} {xs : List D} (h : A[n]? = some (.lst xs)) : shal A (.ref n) = .lst xs := by
  show (match A[n]? with | some (.lst xs) => D.lst xs | some (.dk ks vs) => .dk ks vs | some (.dt ks vs) => .dt ks vs | _ => .ref n) = _
  rw [h]
@[simp] theorem seqO_lst (xs : List D) : seqO (.lst xs) = some xs := (Eq.refl _).trans rfl
@[simp] theorem seqO_tup (xs : List D) : seqO (.tup xs) = some xs := (Eq.refl _).trans rfl
@[simp] theorem seqO_kl (xs : List D) : seqO (.kl xs) = some xs := (Eq.refl _).trans rfl
@[simp] theorem unpO_tup (xs : List D) : unpO (.tup xs) = some xs := (Eq.refl _).trans rfl
@[simp] theorem unpO_lst (xs : List D) : unpO (.lst xs) = some xs := (Eq.refl _).trans rfl
@[simp] theorem intO_int (i : Int) : intO (.int i) = some i := (Eq.refl _).trans rfl
@[simp] theorem binO_add (i j : Int) : binO A .add (.int i) (.int j) = some (.int (i + j)) := (Eq.refl _).trans rfl
@[simp] theorem binO_sub (i j : Int) : binO A .sub (.int i) (.int j) = some (.int (i - j)) := (Eq.refl _).trans rfl
@[simp] theorem binO_mod (i j : Int) : binO A .mod (.int i) (.int j) = if 0 < j then some (.int (i % j)) else none := (Eq.refl _).trans rfl
@[simp] theorem binO_fdiv (i j : Int) : binO A .fdiv (.int i) (.int j) = if 0 < j ∧ j < 1073741824 then some (.int (i / j)) else none := (Eq.refl _).trans rfl
theorem binO_mul (i j : Int) : binO A .mul (.int i) (.int j) = if mulOk i j then some (.int (i * j)) else none := (Eq.refl _).trans rfl
theorem binO_mulL {i j : Int} (h : -(2 ^ 64) < i ∧ i < 2 ^ 64) : binO A .mul (.int i) (.int j) = some (.int (i * j)) := if_pos (.inl h)
theorem binO_mulR {i j : Int} (h : -(2 ^ 64) < j ∧ j < 2 ^ 64) : binO A .mul (.int i) (.int j) = some (.int (i * j)) := if_pos (.inr h)
@[simp] theorem cmpO_lt (i j : Int) : cmpO A .lt (.int i) (.int j) = some (decide (i < j)) := (Eq.refl _).trans rfl
@[simp] theorem cmpO_le (i j : Int) : cmpO A .le (.int i) (.int j) = some (decide (i ≤ j)) := (Eq.refl _).trans rfl
@[simp] theorem cmpO_gt (i j : Int) : cmpO A .gt (.int i) (.int j) = some (decide (j < i)) := (Eq.refl _).trans rfl
@[simp] theorem cmpO_ge (i j : Int) : cmpO A .ge (.int i) (.int j) = some (decide (j ≤ i)) := (Eq.refl _).trans rfl
@[simp] theorem cmpO_eq (i j : Int) : cmpO A .eq (.int i) (.int j) = some (i == j) := (Eq.refl _).trans rfl
@[simp] theorem cmpO_ne (i j : Int) : cmpO A .ne (.int i) (.int j) = some (!(i == j)) := (Eq.refl _).trans rfl
@[simp] theorem cmpO_eqb (i j : Bool) : cmpO A .eq (.bl i) (.bl j) = some (i == j) := (Eq.refl _).trans rfl
@[simp] theorem lenO_tup (xs : List D) : lenO A (.tup xs) = some (xs.length : Int) := (Eq.refl _).trans rfl
@[simp] theorem lenO_lst (xs : List D) : lenO A (.lst xs) = some (xs.length : Int) := (Eq.refl _).trans rfl
@[simp] theorem lenO_kl (xs : List D) : lenO A (.kl xs) = some (xs.length : Int) := (Eq.refl _).trans rfl
@[simp] theorem idxO_tup (xs : List D) (i : Int) : idxO A (.tup xs) (.int i) = atI xs i := (Eq.refl _).trans rfl
@[simp] theorem idxO_lst (xs : List D) (i : Int) : idxO A (.lst xs) (.int i) = atI xs i := (Eq.refl _).trans rfl
@[simp] theorem idxO_kl (xs : List D) (i : Int) : idxO A (.kl xs) (.int i) = atI xs i := (Eq.refl _).trans rfl
theorem idxO_ref {n : Nat} {xs : List D} (h : A[n]? = some (.lst xs)) (i : Int) : idxO A (.ref n) (.int i) = atI xs i := by
  have e := shal_ref h
  unfold idxO
  rw [e]
theorem setO_ref {n : Nat} {xs : List D} (h : A[n]? = some (.lst xs)) (i : Int) (v : D) : setO A (.ref n) (.int i) v = (ixN xs.length i).map fun j => A.set n (.lst (xs.set j v)) := by
  show (match A[n]?, D.int i with
    | some (.lst xs), .int i => (ixN xs.length i).map fun j => A.set n (.lst (xs.set j v))
    | some (.dk ks vs), k => (keyO k).bind fun k => if ks.length < lim then some (A.set n (.dk (dputK k ks) (dputV k v ks vs))) else none
    | some (.dt ks vs), .tup k => (keysO k).bind fun k => if ks.length < lim then some (A.set n (.dt (dputK k ks) (dputV k v ks vs))) else none
    | _, _ => none) = _
  rw [h]
theorem appO_ref {n : Nat} {xs : List D} (h : A[n]? = some (.lst xs)) (hl : xs.length < lim) (v : D) : appO A (.ref n) v = some (A.set n (.lst (xs ++ [v]))) := by
  show (match A[n]? with
    | some (.lst xs) => if xs.length < lim then some (A.set n (.lst (xs ++ [v]))) else none
    | _ => none) = _
  rw [h]
  exact if_pos hl
theorem lstR_ref {n : Nat} {xs : List D} (h : A[n]? = some (.lst xs)) : lstR A (.ref n) = some () := by
  unfold lstR
  rw [shal_ref h]
@[simp] theorem bi_len (x : D) : biO A .len [x] = (lenO A x).map .int := (Eq.refl _).trans rfl
@[simp] theorem bi_int (i : Int) : biO A .int [.int i] = some (.int i) := (Eq.refl _).trans rfl
@[simp] theorem bi_abs (i : Int) : biO A .abs [.int i] = some (.int (if i < 0 then -i else i)) := (Eq.refl _).trans rfl
@[simp] theorem bi_max2 (i j : Int) : biO A .max2 [.int i, .int j] = some (.int (if j > i then j else i)) := (Eq.refl _).trans rfl
@[simp] theorem bi_min2 (i j : Int) : biO A .min2 [.int i, .int j] = some (.int (if j < i then j else i)) := (Eq.refl _).trans rfl
@[simp] theorem bi_max1 (x : D) : biO A .max1 [x] = (ints1 A x).bind fun l => (maxL l).map .int := (Eq.refl _).trans rfl
@[simp] theorem bi_min1 (x : D) : biO A .min1 [x] = (ints1 A x).bind fun l => (minL l).map .int := (Eq.refl _).trans rfl
@[simp] theorem bi_sum (x : D) : biO A .sum [x] = (ints1 A x).map fun l => .int l.sum := (Eq.refl _).trans rfl
@[simp] theorem bi_all (x : D) : biO A .all [x] = ((lstO (shal A x)).bind blsO).map fun l => .bl (l.all id) := (Eq.refl _).trans rfl
@[simp] theorem bi_any (x : D) : biO A .any [x] = ((lstO (shal A x)).bind blsO).map fun l => .bl (l.any id) := (Eq.refl _).trans rfl
@[simp] theorem bi_list (x : D) : biO A .list [x] = (seqO (shal A x)).map .lst := (Eq.refl _).trans rfl
@[simp] theorem bi_tuple (x : D) : biO A .tuple [x] = (seqO (shal A x)).map .tup := (Eq.refl _).trans rfl
@[simp] theorem bi_isi (x : D) (t : String) : biO A .isi [x, .ty t] = (isiT (shal A x) t).map .bl := (Eq.refl _).trans rfl
@[simp] theorem bi_divmod (i j : Int) : biO A .divmod [.int i, .int j] = if 0 < j ∧ j < 1073741824 then some (.tup [.int (i / j), .int (i % j)]) else none := (Eq.refl _).trans rfl
@[simp] theorem bi_repr (x : D) : biO A .repr [x] = (reprO A x).map .str := (Eq.refl _).trans rfl
@[simp] theorem bi_sorted (x : D) : biO A .sorted [x] = ((seqO (shal A x)).bind keysT).map fun ks => .lst ((sortK ks).map tupD) := (Eq.refl _).trans rfl
@[simp] theorem isi_int (i : Int) (t : String) : isiT (.int i) t = L2.kitB "int" t := (Eq.refl _).trans rfl
@[simp] theorem isi_bl (i : Bool) (t : String) : isiT (.bl i) t = L2.kitB "bool" t := (Eq.refl _).trans rfl
@[simp] theorem isi_tup (xs : List D) (t : String) : isiT (.tup xs) t = L2.kitB "tuple" t := (Eq.refl _).trans rfl
@[simp] theorem isi_lst (xs : List D) (t : String) : isiT (.lst xs) t = L2.kitB "list" t := (Eq.refl _).trans rfl
@[simp] theorem isi_non (t : String) : isiT .non t = L2.kitB "NoneType" t := (Eq.refl _).trans rfl
@[simp] theorem isi_str (s : Str) (t : String) : isiT (.str s) t = L2.kitB "str" t := (Eq.refl _).trans rfl
@[simp] theorem lstO_lst (xs : List D) : lstO (.lst xs) = some xs := (Eq.refl _).trans rfl
@[simp] theorem ints1_lst (xs : List D) : ints1 A (.lst xs) = intsO xs := (Eq.refl _).trans rfl
@[simp] theorem ints1_tup (xs : List D) : ints1 A (.tup xs) = intsO xs := (Eq.refl _).trans rfl
@[simp] theorem intsO_map (ns : List Int) : intsO (ns.map D.int) = some ns := by
  induction ns with
  | nil => rfl
  | cons n ns ih => simp [intsO, ih]
@[simp] theorem blsO_map (ns : List Bool) : blsO (ns.map D.bl) = some ns := by
  induction ns with
  | nil => rfl
  | cons n ns ih => simp [blsO, ih]
end
@[simp] theorem setPar_nil (ds : List D) (env : Env) : setPar [] ds env = env := (Eq.refl _).trans rfl
@[simp] theorem setPar_cons (i : Nat) (is : List Nat) (d : D) (ds : List D) (env : Env) : setPar (i :: is) (d :: ds) env = setPar is ds (env.set i (some d)) := (Eq.refl _).trans rfl
@[simp] theorem wipe_nil (env : Env) : wipe env [] = env := (Eq.refl _).trans rfl
@[simp] theorem wipe_cons (env : Env) (v : Nat) (vs : List Nat) : wipe env (v :: vs) = (wipe env vs).set v none := (Eq.refl _).trans rfl
theorem atI_nat {α : Type} {xs : List α} {n : Nat} {x : α} (h : xs[n]? = some x) : atI xs (n : Int) = some x := by
  have hl : n < xs.length := (List.getElem?_eq_some_iff.mp h).1
  unfold atI ixN
  rw [if_pos (by omega), if_pos (by omega)]
  simpa using h
theorem atI_get {α : Type} {xs : List α} {n : Nat} (h : n < xs.length) : atI xs (n : Int) = some xs[n] := atI_nat (List.getElem?_eq_getElem h)
@[simp] theorem atI_zero {α : Type} (x : α) (xs : List α) : atI (x :: xs) 0 = some x := atI_nat (n := 0) rfl
@[simp] theorem atI_one {α : Type} (x y : α) (xs : List α) : atI (x :: y :: xs) 1 = some y := atI_nat (n := 1) rfl
@[simp] theorem atI_two {α : Type} (x y z : α) (xs : List α) : atI (x :: y :: z :: xs) 2 = some z := atI_nat (n := 2) rfl
theorem ixN_nat {k n : Nat} (h : n < k) : ixN k (n : Int) = some n := by
  unfold ixN
  rw [if_pos (by omega), if_pos (by omega)]
  simp
/-- a range's numbers -/
theorem upto_map (lo : Int) (n : Nat) : upto lo n = (List.range n).map fun j => D.int (lo + (j : Nat)) := by
  refine List.ext_getElem? fun i => ?_
  by_cases h : i < n
  · rw [upto_get n lo i h, List.getElem?_map, List.getElem?_range h]; rfl
  · rw [List.getElem?_eq_none (by rw [upto_len]; omega), List.getElem?_eq_none (by simp; omega)]
theorem rng_ok {n : Nat} (h : n ≤ 1000000) : rngOk (n : Int) := by unfold rngOk; omega
@[simp] theorem fnEnd_rt (m : Bool) (A A' : AH) (d : D) (env : Env) : fnEnd m A (.ok (.rt d, env) A') = finish m A d A' := (Eq.refl _).trans rfl
@[simp] theorem fnEnd_nx (m : Bool) (A A' : AH) (env : Env) : fnEnd m A (.ok (.nx, env) A') = finish m A .non A' := (Eq.refl _).trans rfl
theorem run_eq {cl : Cl} {df : Df} {ds : List D} {A : AH} (h : ds.length = df.np) : runDf cl df ds A = fnEnd df.fz A (evSs cl df.body (startE ds df.ns) A) := if_pos h
/-- a def's call by its body -/
theorem run_ok {cl : Cl} {df : Df} {ds : List D} {A A' : AH} {d : D} {env : Env} (hl : ds.length = df.np) (h : evSs cl df.body (startE ds df.ns) A = .ok (.rt d, env) A') : runDf cl df ds A = finish df.fz A d A' := by
  unfold runDf
  rw [if_pos hl, h]; rfl
theorem run_nx {cl : Cl} {df : Df} {ds : List D} {A A' : AH} {env : Env} (hl : ds.length = df.np) (h : evSs cl df.body (startE ds df.ns) A = .ok (.nx, env) A') : runDf cl df ds A = finish df.fz A .non A' := by
  unfold runDf
  rw [if_pos hl, h]; rfl

/-! ### the end of a def -/
theorem oldOk_refl : ∀ (A E : AH), oldOk A (A ++ E) = true
  | [], _ => rfl
  | o :: A, E => by simp [oldOk, oldOk_refl A E]
/-- values without objects -/
def D.pure : D → Bool
  | d => D.rl 0 d
theorem fzL_pure {f : D → Option (D × List Nat)} : ∀ {xs : List D}, (∀ x ∈ xs, f x = some (x, [])) → fzL f xs = some (xs, [])
  | [], _ => rfl
  | x :: xs, h => by
    simp only [fzL]
    rw [h x List.mem_cons_self, fzL_pure fun y hy => h y (List.mem_cons_of_mem _ hy)]
    rfl
mutual
/-- no objects; at most k deep -/
def D.pu : Nat → D → Bool
  | 0, _ => false
  | _ + 1, .ref _ => false
  | _ + 1, .exn _ _ => false
  | k + 1, .tup xs => D.pus k xs
  | k + 1, .lst xs => D.pus k xs
  | k + 1, .kl xs => D.pus k xs
  | k + 1, .dk _ vs => D.pus k vs
  | k + 1, .dt _ vs => D.pus k vs
  | _ + 1, _ => true
def D.pus : Nat → List D → Bool
  | _, [] => true
  | k, x :: xs => D.pu k x && D.pus k xs
end
theorem pus_mem : ∀ {k : Nat} {xs : List D}, D.pus k xs = true → ∀ x ∈ xs, D.pu k x = true
  | _, [], _, x, h => by cases h
  | k, y :: ys, h, x, hx => by
    simp only [D.pus, Bool.and_eq_true] at h
    exact (List.mem_cons.mp hx).elim (fun e => e ▸ h.1) fun hx => pus_mem h.2 x hx
theorem pus_of : ∀ {k : Nat} {xs : List D}, (∀ x ∈ xs, D.pu k x = true) → D.pus k xs = true
  | _, [], _ => by simp [D.pus]
  | k, y :: ys, h => by
    simp only [D.pus, Bool.and_eq_true]
    exact ⟨h y List.mem_cons_self, pus_of fun x hx => h x (List.mem_cons_of_mem _ hx)⟩
theorem fz_pu {A : AH} : ∀ (k : Nat) (d : D), D.pu k d = true → fz A k d = some (d, [])
  | 0, d, h => by simp [D.pu] at h
  | k + 1, d, h => by
    have ih := fun xs (hx : D.pus k xs = true) => fzL_pure (f := fz A k) (xs := xs) fun x hm => fz_pu k x (pus_mem hx x hm)
    cases d with
    | ref _ => simp [D.pu] at h
    | exn _ _ => simp [D.pu] at h
    | tup xs => simp only [D.pu] at h; simp only [fz, ih xs h]; rfl
    | lst xs => simp only [D.pu] at h; simp only [fz, ih xs h]; rfl
    | kl xs => simp only [D.pu] at h; simp only [fz, ih xs h]; rfl
    | dk _ xs => simp only [D.pu] at h; simp only [fz, ih xs h]; rfl
    | dt _ xs => simp only [D.pu] at h; simp only [fz, ih xs h]; rfl
    | _ => rfl
@[simp] theorem pu_int (k : Nat) (i : Int) : D.pu (k + 1) (.int i) = true := rfl
@[simp] theorem pu_bl (k : Nat) (i : Bool) : D.pu (k + 1) (.bl i) = true := rfl
@[simp] theorem pu_non (k : Nat) : D.pu (k + 1) .non = true := rfl
theorem pu_ints (k : Nat) (ns : List Int) : D.pus (k + 1) (ns.map D.int) = true := pus_of fun x hx => by
  obtain ⟨n, _, rfl⟩ := List.mem_map.mp hx; rfl
/-- a pure def's end: its objects E go -/
theorem fin_pu {A E : AH} {d : D} (h : D.pu 8 d = true) : finish true A d (A ++ E) = .ok d A := by
  unfold finish
  rw [if_pos rfl, fz_pu 8 d h]
  simp [oldOk_refl]
theorem fin_pu0 {A : AH} {d : D} (h : D.pu 8 d = true) : finish true A d A = .ok d A := by
  have := fin_pu (A := A) (E := []) h
  rwa [List.append_nil] at this

/-! ### states with one pool -/
def pl (p : Int × Int × Int) : O := .lst [.int p.1, .int p.2.1, .int p.2.2]
def St1 (pre : AH) (p : Int × Int × Int) (E : AH) : AH := pre ++ pl p :: E
section
variable {pre E E' : AH} {p q : Int × Int × Int}
theorem St1_get : (St1 pre p E)[pre.length]? = some (.lst [.int p.1, .int p.2.1, .int p.2.2]) := by
  unfold St1 pl; rw [List.getElem?_append_right (Nat.le_refl _)]; simp
theorem St1_set (a b c : Int) : (St1 pre p E).set pre.length (.lst [.int a, .int b, .int c]) = St1 pre (a, b, c) E := by
  unfold St1 pl; rw [List.set_append_right _ _ (Nat.le_refl _)]; simp
theorem St1_app : St1 pre p E ++ E' = St1 pre p (E ++ E') := by unfold St1; simp
theorem St1_len : (St1 pre p E).length = pre.length + (1 + E.length) := by unfold St1; simp; omega
theorem St1_getE {j : Nat} : (St1 pre p E)[pre.length + (1 + j)]? = E[j]? := by
  unfold St1; rw [List.getElem?_append_right (by omega)]
  rw [show pre.length + (1 + j) - pre.length = j + 1 by omega]; rfl
theorem St1_setE {j : Nat} {o : O} : (St1 pre p E).set (pre.length + (1 + j)) o = St1 pre p (E.set j o) := by
  unfold St1; rw [List.set_append_right _ _ (by omega)]
  rw [show pre.length + (1 + j) - pre.length = j + 1 by omega]; rfl
theorem oldOk_pool : oldOk (St1 pre p E) (St1 pre q (E ++ E')) = true := by
  unfold St1
  induction pre with
  | nil => simp [oldOk, oldOk_refl, pl, O.flat, D.atom]
  | cons o pre ih => simp [oldOk]; simpa using ih
theorem take_pool : (St1 pre q (E ++ E')).take (St1 pre p E).length = St1 pre q E := by
  rw [← St1_app, show (St1 pre p E).length = (St1 pre q E).length by rw [St1_len, St1_len], List.take_left']
  rfl
theorem fin_pool {d d' : D} {L : List Nat} (h : fz (St1 pre q (E ++ E')) 8 d = some (d', L)) (hL : ∀ n ∈ L, pre.length + (1 + E.length) ≤ n) : finish true (St1 pre p E) d (St1 pre q (E ++ E')) = .ok d' (St1 pre q E) := by
  unfold finish
  rw [if_pos rfl, h]
  simp only [oldOk_pool, take_pool, Bool.and_true]
  rw [if_pos]
  rw [List.all_eq_true]
  intro n hn
  rw [St1_len]
  exact decide_eq_true (hL n hn)
theorem fin_pool_pu {d : D} (h : D.pu 8 d = true) : finish true (St1 pre p E) d (St1 pre q (E ++ E')) = .ok d (St1 pre q E) := fin_pool (fz_pu 8 d h) fun n hn => by cases hn
theorem fin_pool0 {d : D} (h : D.pu 8 d = true) : finish true (St1 pre p E) d (St1 pre q E) = .ok d (St1 pre q E) := by
  have := fin_pool_pu (pre := pre) (p := p) (q := q) (E := E) (E' := []) h
  rwa [List.append_nil] at this
end

/-! ### comprehensions -/
section
variable {as : D → Env → AH → Res Env} {cs : Env → AH → Res Bool} {ef : Env → AH → Res D} {env : Env}
/-- pure turns, all kept -/
theorem compL_map {α : Type} {f : α → D} {g : α → D} : ∀ {xs : List α} {A : AH}, (∀ x ∈ xs, ∃ env1, as (f x) env A = .ok env1 A ∧ cs env1 A = .ok true A ∧ ef env1 A = .ok (g x) A) → compL as cs ef env (xs.map f) A = .ok (xs.map g) A
  | [], A, _ => rfl
  | x :: xs, A, h => by
    obtain ⟨env1, h1, h2, h3⟩ := h x List.mem_cons_self
    simp only [List.map_cons, compL, h1, bnd_ok, h2, if_true, h3]
    rw [compL_map fun y hy => h y (List.mem_cons_of_mem _ hy)]
    rfl
/-- pure turns, some kept -/
theorem compL_fm {α : Type} {f : α → D} {g : α → Option D} : ∀ {xs : List α} {A : AH}, (∀ x ∈ xs, ∃ env1, as (f x) env A = .ok env1 A ∧ ((cs env1 A = .ok true A ∧ ∃ d, ef env1 A = .ok d A ∧ g x = some d) ∨ (cs env1 A = .ok false A ∧ g x = none))) → compL as cs ef env (xs.map f) A = .ok (xs.filterMap g) A
  | [], A, _ => rfl
  | x :: xs, A, h => by
    obtain ⟨env1, h1, h2⟩ := h x List.mem_cons_self
    have ih := compL_fm fun y hy => h y (List.mem_cons_of_mem _ hy)
    simp only [List.map_cons, compL, h1, bnd_ok]
    rcases h2 with ⟨h2, d, h3, h4⟩ | ⟨h2, h4⟩
    · simp only [h2, bnd_ok, if_true, h3, ih, List.filterMap_cons, h4]
    · simp only [h2, bnd_ok, ih, List.filterMap_cons, h4]
      rfl
/-- turns that change the state -/
theorem compL_st {α : Type} {f : α → D} {β : Type} {g : β → D} {Inv : AH → Prop} {Q : α → β → Prop} : ∀ {xs : List α} {A : AH}, Inv A → (∀ x ∈ xs, ∀ A, Inv A → ∃ env1 A1 A2 A3 y, as (f x) env A = .ok env1 A1 ∧ cs env1 A1 = .ok true A2 ∧ ef env1 A2 = .ok (g y) A3 ∧ Inv A3 ∧ Q x y) →
    ∃ (ys : List β) (A' : AH), compL as cs ef env (xs.map f) A = .ok (ys.map g) A' ∧ Inv A' ∧ ys.length = xs.length ∧ ∀ (i : Nat) x y, xs[i]? = some x → ys[i]? = some y → Q x y
  | [], A, hA, _ => ⟨[], A, rfl, hA, rfl, fun i x y h => by simp at h⟩
  | x :: xs, A, hA, h => by
    obtain ⟨env1, A1, A2, A3, y, h1, h2, h3, h4, h5⟩ := h x List.mem_cons_self A hA
    obtain ⟨ys, A', k1, k2, k3, k4⟩ := compL_st (xs := xs) h4 fun x hx => h x (List.mem_cons_of_mem _ hx)
    refine ⟨y :: ys, A', ?_, k2, by simp [k3], fun i x' y' e1 e2 => ?_⟩
    · simp only [List.map_cons, compL, h1, bnd_ok, h2, if_true, h3, k1]
    · cases i with
      | zero => simp at e1 e2; subst e1 e2; exact h5
      | succ i => exact k4 i x' y' (by simpa using e1) (by simpa using e2)
end
/-! ### loops -/
/-- a loop that goes through, by an invariant over what is done -/
theorem forL_inv {α : Type} {as : D → Env → AH → Res Env} {body : Env → AH → Res (Fl × Env)} {f : α → D} {Pv : List α → Env → AH → Prop} : ∀ (xs done : List α) (env : Env) (A : AH), Pv done env A →
    (∀ done x rest env A, done ++ x :: rest = done ++ (x :: rest) → Pv done env A → x ∈ xs → ∃ env1 A1 fl env2 A2, as (f x) env A = .ok env1 A1 ∧ body env1 A1 = .ok (fl, env2) A2 ∧ (fl = .nx ∨ fl = .ct) ∧ Pv (done ++ [x]) env2 A2) →
    ∃ env' A', forL as body (xs.map f) env A = .ok (.nx, env') A' ∧ Pv (done ++ xs) env' A'
  | [], done, env, A, h, _ => ⟨env, A, rfl, by simpa using h⟩
  | x :: xs, done, env, A, h, step => by
    obtain ⟨env1, A1, fl, env2, A2, h1, h2, h3, h4⟩ := step done x [] env A rfl h List.mem_cons_self
    obtain ⟨env', A', k1, k2⟩ := forL_inv xs (done ++ [x]) env2 A2 h4 fun done x rest env A e p hx => step done x rest env A e p (List.mem_cons_of_mem _ hx)
    refine ⟨env', A', ?_, by simpa using k2⟩
    simp only [List.map_cons, forL, h1, bnd_ok, h2]
    rcases h3 with rfl | rfl <;> exact k1
end Ev

set_option maxRecDepth 100000
/-! Pl1: more rows -/
namespace Ev
open PySem (Str)
section
variable {A E : AH}
@[simp] theorem fin_bl (b : Bool) : finish true A (.bl b) A = .ok (.bl b) A := fin_pu0 rfl
@[simp] theorem fin_int (b : Int) : finish true A (.int b) A = .ok (.int b) A := fin_pu0 rfl
@[simp] theorem fin_non : finish true A .non A = .ok .non A := fin_pu0 rfl
@[simp] theorem fin_blE (b : Bool) : finish true A (.bl b) (A ++ E) = .ok (.bl b) A := fin_pu rfl
@[simp] theorem fin_intE (b : Int) : finish true A (.int b) (A ++ E) = .ok (.int b) A := fin_pu rfl
theorem pu_tints (k : Nat) (ns : List Int) : D.pu (k + 2) (.tup (ns.map D.int)) = true := by simp only [D.pu]; exact pu_ints k ns
@[simp] theorem fin_tints (ns : List Int) : finish true A (.tup (ns.map D.int)) A = .ok (.tup (ns.map D.int)) A := fin_pu0 (pu_tints 6 ns)
@[simp] theorem fin_tintsE (ns : List Int) : finish true A (.tup (ns.map D.int)) (A ++ E) = .ok (.tup (ns.map D.int)) A := fin_pu (pu_tints 6 ns)
end
section
variable {pre E E' : AH} {p q : Int × Int × Int}
@[simp] theorem fin_blP (b : Bool) : finish true (St1 pre p E) (.bl b) (St1 pre q E) = .ok (.bl b) (St1 pre q E) := fin_pool0 rfl
@[simp] theorem fin_intP (b : Int) : finish true (St1 pre p E) (.int b) (St1 pre q E) = .ok (.int b) (St1 pre q E) := fin_pool0 rfl
@[simp] theorem fin_blPE (b : Bool) : finish true (St1 pre p E) (.bl b) (St1 pre q (E ++ E')) = .ok (.bl b) (St1 pre q E) := fin_pool_pu rfl
@[simp] theorem fin_intPE (b : Int) : finish true (St1 pre p E) (.int b) (St1 pre q (E ++ E')) = .ok (.int b) (St1 pre q E) := fin_pool_pu rfl
@[simp] theorem fin_tintsP (ns : List Int) : finish true (St1 pre p E) (.tup (ns.map D.int)) (St1 pre q E) = .ok (.tup (ns.map D.int)) (St1 pre q E) := fin_pool0 (pu_tints 6 ns)
end
/-- a comprehension of truths over numbers -/
theorem all_map_true {α : Type} {xs : List α} {f : α → Bool} (h : ∀ x ∈ xs, f x = true) : (xs.map f).all id = true := by
  rw [List.all_eq_true]
  intro b hb
  obtain ⟨x, hx, rfl⟩ := List.mem_map.mp hb
  exact h x hx
theorem len_le {n : Nat} (h : n ≤ 1000) : n ≤ lim := Nat.le_trans h (by decide)

section
variable {cl : Cl} {env : Env} {A A1 : AH} {own : List Nat} {tg : T} {it : I} {cs : Es} {e : E}
/-- a comprehension, turn by turn the same state, all kept -/
theorem cmp_map {α : Type} {f g : α → D} {xs : List α} (hi : evi cl it env A = .ok (xs.map f) A1) (hl : xs.length ≤ 100000)
    (h : ∀ x ∈ xs, ∃ env1, asg cl tg (f x) (wipe env own) A1 = .ok env1 A1 ∧ evt cl cs env1 A1 = .ok true A1 ∧ ev cl e env1 A1 = .ok (g x) A1) : ev cl (.comp false own tg it cs e) env A = .ok (.lst (xs.map g)) A1 := by
  rw [ev_comp, hi]
  simp only [bnd_ok]
  rw [compL_map (f := f) (g := g) h]
  simp only [calm_ok, bnd_ok, List.length_map]
  rw [if_pos (Nat.le_trans hl (by decide))]
  rfl
theorem cmp_fm {α : Type} {f : α → D} {g : α → Option D} {xs : List α} (hi : evi cl it env A = .ok (xs.map f) A1) (hl : xs.length ≤ 100000)
    (h : ∀ x ∈ xs, ∃ env1, asg cl tg (f x) (wipe env own) A1 = .ok env1 A1 ∧ ((evt cl cs env1 A1 = .ok true A1 ∧ ∃ d, ev cl e env1 A1 = .ok d A1 ∧ g x = some d) ∨ (evt cl cs env1 A1 = .ok false A1 ∧ g x = none))) :
    ev cl (.comp false own tg it cs e) env A = .ok (.lst (xs.filterMap g)) A1 := by
  rw [ev_comp, hi]
  simp only [bnd_ok]
  rw [compL_fm (f := f) (g := g) h]
  simp only [calm_ok, bnd_ok]
  rw [if_pos (Nat.le_trans (List.length_filterMap_le _ _) (Nat.le_trans hl (by decide)))]
  rfl
/-- a comprehension whose turns change the state -/
theorem cmp_st {α β : Type} {f : α → D} {g : β → D} {Inv : AH → Prop} {Q : α → β → Prop} {xs : List α} (hi : evi cl it env A = .ok (xs.map f) A1) (hl : xs.length ≤ 100000) (hA : Inv A1)
    (h : ∀ x ∈ xs, ∀ A, Inv A → ∃ env1 A1 A2 A3 y, asg cl tg (f x) (wipe env own) A = .ok env1 A1 ∧ evt cl cs env1 A1 = .ok true A2 ∧ ev cl e env1 A2 = .ok (g y) A3 ∧ Inv A3 ∧ Q x y) :
    ∃ (ys : List β) (A' : AH), ev cl (.comp false own tg it cs e) env A = .ok (.lst (ys.map g)) A' ∧ Inv A' ∧ ys.length = xs.length ∧ ∀ (i : Nat) x y, xs[i]? = some x → ys[i]? = some y → Q x y := by
  obtain ⟨ys, A', k1, k2, k3, k4⟩ := compL_st (as := fun d => asg cl tg d) (cs := fun env A => evt cl cs env A) (ef := fun env A => ev cl e env A) (env := wipe env own) (f := f) (g := g) (Inv := Inv) (Q := Q) hA h
  refine ⟨ys, A', ?_, k2, k3, k4⟩
  rw [ev_comp, hi]
  simp only [bnd_ok]
  rw [k1]
  simp only [calm_ok, bnd_ok, List.length_map]
  rw [if_pos (by rw [k3]; exact Nat.le_trans hl (by decide))]
  rfl
/-- a loop by an invariant over what is done -/
theorem for_inv {α : Type} {f : α → D} {body : Ss} {xs : List α} {Pv : List α → Env → AH → Prop} (hi : evi cl it env A = .ok (xs.map f) A1) (h0 : Pv [] env A1)
    (h : ∀ done x env A, x ∈ xs → Pv done env A → ∃ env1 A1 fl env2 A2, asg cl tg (f x) env A = .ok env1 A1 ∧ evSs cl body env1 A1 = .ok (fl, env2) A2 ∧ (fl = .nx ∨ fl = .ct) ∧ Pv (done ++ [x]) env2 A2) :
    ∃ env' A', evS cl (.for tg it body) env A = .ok (.nx, env') A' ∧ Pv xs env' A' := by
  obtain ⟨env', A', k1, k2⟩ := forL_inv (as := fun d => asg cl tg d) (body := fun env A => evSs cl body env A) (f := f) (Pv := Pv) xs [] env A1 h0 fun done x _ env A _ p hx => h done x env A hx p
  exact ⟨env', A', by rw [evS_for, hi]; exact k1, by simpa using k2⟩
end
theorem evi_r0 {cl : Cl} {env : Env} {A A1 : AH} {a : E} {i : Int} (ha : ev cl a env A = .ok (.int i) A1) (h : rngOk i) : evi cl (.rng1 a) env A = .ok (upto 0 i.toNat) A1 := by
  have h0 := evi_rng1 (cl := cl) (env := env) (A := A) a
  rw [ha] at h0
  rw [h0, bnd_ok]
  exact if_pos h
theorem upto_0 (n : Nat) : upto 0 n = (List.range n).map fun k : Nat => D.int k := by
  rw [upto_map]
  refine List.map_congr_left fun k _ => ?_
  rw [Int.zero_add]
theorem evi_r1 {cl : Cl} {env : Env} {A A1 : AH} {a : E} {n : Nat} (ha : ev cl a env A = .ok (.int n) A1) (h : n ≤ 1000) : evi cl (.rng1 a) env A = .ok ((List.range n).map fun k : Nat => D.int k) A1 := by
  have e := evi_r0 ha (rng_ok (n := n) (Nat.le_trans h (by decide)))
  rw [Int.toNat_natCast, upto_0] at e
  exact e
theorem evi_r2 {cl : Cl} {env : Env} {A A1 A2 : AH} {a b : E} {i j : Int} (ha : ev cl a env A = .ok (.int i) A1) (hb : ev cl b env A1 = .ok (.int j) A2) (hi : -1000 ≤ i ∧ i ≤ 1000) (hj : -1000 ≤ j ∧ j ≤ 1000) :
    evi cl (.rng2 a b) env A = .ok ((List.range (j - i).toNat).map fun k : Nat => D.int (i + k)) A2 := by
  have e : rngOk i ∧ rngOk j := by unfold rngOk; omega
  rw [evi_rng2, ha]
  simp only [bnd_ok, hb]
  rw [if_pos e, upto_map]
theorem zip2_map {α β : Type} {f : α → D} {g : β → D} : ∀ (xs : List α) (ys : List β), zip2 (xs.map f) (ys.map g) = (xs.zip ys).map fun p => .tup [f p.1, g p.2]
  | [], _ => rfl
  | _ :: _, [] => rfl
  | x :: xs, y :: ys => by simp only [List.map_cons, zip2, List.zip_cons_cons, zip2_map xs ys]
theorem zip3_map {α β γ : Type} {f : α → D} {g : β → D} {h : γ → D} : ∀ (xs : List α) (ys : List β) (zs : List γ), zip3 (xs.map f) (ys.map g) (zs.map h) = (xs.zip (ys.zip zs)).map fun p => .tup [f p.1, g p.2.1, h p.2.2]
  | [], _, _ => rfl
  | _ :: _, [], _ => rfl
  | _ :: _, _ :: _, [] => rfl
  | x :: xs, y :: ys, z :: zs => by simp only [List.map_cons, zip3, List.zip_cons_cons, zip3_map xs ys zs]
theorem atI_map {α : Type} {f : α → D} {xs : List α} {j : Nat} (h : j < xs.length) : atI (xs.map f) (j : Int) = some (f xs[j]) := atI_nat (by simp [h])
theorem atI_map' {α : Type} {f : α → D} {xs : List α} {j : Nat} {x : α} (h : xs[j]? = some x) : atI (xs.map f) (j : Int) = some (f x) := atI_nat (by simp [h])
@[simp] theorem cmp_ltT (A : AH) (a b c d : Int) : cmpO A .lt (.tup [.int a, .int b]) (.tup [.int c, .int d]) = some (lexLt [a, b] [c, d]) := (Eq.refl _).trans rfl
@[simp] theorem slc_2 (A : AH) (a b c : D) : slcO A (.tup [a, b, c]) none (some 2) = some (.tup [a, b]) := (Eq.refl _).trans rfl

/-! ### webs as data -/
abbrev Road := Nat × Nat × Nat
def rD (r : Road) : D := .tup [.int r.1, .int r.2.1, .int r.2.2]
def wD (m : Nat) (rs : List Road) : D := .tup [.int m, .tup (rs.map rD)]
def iD (ns : List Int) : D := .tup (ns.map D.int)
structure WebOk (m : Nat) (rs : List Road) : Prop where
  lo : 1 ≤ m
  hi : m ≤ 9
  len : rs.length ≤ 20
  road : ∀ r ∈ rs, r.1 < r.2.1 ∧ r.2.1 < m ∧ 1 ≤ r.2.2 ∧ r.2.2 ≤ 99
  sorted : rs.Pairwise fun a b => a.1 < b.1 ∨ (a.1 = b.1 ∧ a.2.1 < b.2.1)
end Ev

set_option maxRecDepth 100000
/-! Pl2: the newest object; rows of ints; loads on roads -/
namespace Ev
open PySem (Str)
section
variable {A : AH} {xs : List D}
theorem last_get : (A ++ [O.lst xs])[A.length]? = some (.lst xs) := by simp
@[simp] theorem idx_last (i : Int) : idxO (A ++ [.lst xs]) (.ref A.length) (.int i) = atI xs i := idxO_ref last_get i
@[simp] theorem shal_last : shal (A ++ [.lst xs]) (.ref A.length) = .lst xs := shal_ref last_get
@[simp] theorem lstR_last : lstR (A ++ [.lst xs]) (.ref A.length) = some () := lstR_ref last_get
theorem set_last (i : Int) (v : D) : setO (A ++ [.lst xs]) (.ref A.length) (.int i) v = (ixN xs.length i).map fun j => A ++ [.lst (xs.set j v)] := by
  rw [setO_ref last_get]
  congr 1
  funext j
  simp [List.set_append_right]
theorem app_last (h : xs.length < lim) (v : D) : appO (A ++ [.lst xs]) (.ref A.length) v = some (A ++ [.lst (xs ++ [v])]) := by
  rw [appO_ref last_get h]
  simp [List.set_append_right]
end
theorem at_int {ns : List Int} {j : Nat} (h : j < ns.length) : atI (ns.map D.int) (j : Int) = some (.int (ns.getD j 0)) := by
  rw [atI_map h, List.getD_eq_getElem?_getD, List.getElem?_eq_getElem h]; rfl
theorem set_int {A : AH} {ns : List Int} {j : Nat} (h : j < ns.length) (v : Int) : setO (A ++ [.lst (ns.map D.int)]) (.ref A.length) (.int j) (.int v) = some (A ++ [.lst ((ns.set j v).map D.int)]) := by
  rw [set_last, List.length_map, ixN_nat h, Option.map_some, List.map_set]
theorem flat_ints (k : Nat) : ∀ ns : List Int, D.flatNs k (ns.map D.int) = true
  | [] => by simp [D.flatNs]
  | n :: ns => by simp only [List.map_cons, D.flatNs, flat_ints k ns, Bool.and_true]; cases k <;> rfl
theorem eqvs_ints : ∀ a b : List Int, D.eqvs (a.map D.int) (b.map D.int) = decide (a = b)
  | [], [] => by simp [D.eqvs]
  | [], _ :: _ => by simp [D.eqvs]
  | _ :: _, [] => by simp [D.eqvs]
  | x :: a, y :: b => by
    simp only [List.map_cons, D.eqvs, eqvs_ints a b, D.eqv]
    by_cases h : x = y <;> simp [h]
theorem eq_iD (A : AH) (a b : List Int) : cmpO A .eq (iD a) (iD b) = some (decide (a = b)) := by
  show eqO A (iD a) (iD b) = _
  unfold eqO iD
  simp only [shal_tup, D.flatN, flat_ints, Bool.and_self, if_true, D.eqv, eqvs_ints]
/-- loads on roads: what each place has then -/
def stepF (h : List Int) (p : Road × Int) : List Int := (h.set p.1.1 (h.getD p.1.1 0 - p.2)).set p.1.2.1 (h.getD p.1.2.1 0 + p.2)
def comesF (h : List Int) (ps : List (Road × Int)) : List Int := ps.foldl stepF h
theorem stepF_len (h : List Int) (p : Road × Int) : (stepF h p).length = h.length := by simp [stepF]
theorem comesF_len : ∀ (ps : List (Road × Int)) (h : List Int), (comesF h ps).length = h.length
  | [], _ => rfl
  | p :: ps, h => by
    show (comesF (stepF h p) ps).length = _
    rw [comesF_len ps, stepF_len]
theorem comesF_snoc (h : List Int) (ps : List (Road × Int)) (p : Road × Int) : comesF h (ps ++ [p]) = stepF (comesF h ps) p := by
  unfold comesF; rw [List.foldl_append]; rfl
def absI (i : Int) : Int := if i < 0 then -i else i
def costF (ps : List (Road × Int)) : Int := (ps.map fun p => (p.1.2.2 : Int) * absI p.2).sum
def gainF (hs ws ts : List Int) : Int := ((ts.zip ((hs.zip ws).map fun p => p.1 - p.2)).map fun p => p.1 * p.2).sum
structure HeightsOk (m : Nat) (rs : List Road) (ts : List Int) : Prop where
  len : ts.length = m
  road : ∀ r ∈ rs, absI (ts.getD r.1 0 - ts.getD r.2.1 0) ≤ r.2.2
end Ev

set_option maxRecDepth 100000
/-! Pl3: the pool's rows -/
namespace Ev
open PySem (Str)
section
variable {pre E : AH} {p : Int × Int × Int}
@[simp] theorem pool_0 : idxO (St1 pre p E) (.ref pre.length) (.int 0) = some (.int p.1) := by rw [idxO_ref St1_get, atI_zero]
@[simp] theorem pool_1 : idxO (St1 pre p E) (.ref pre.length) (.int 1) = some (.int p.2.1) := by rw [idxO_ref St1_get, atI_one]
@[simp] theorem pool_2 : idxO (St1 pre p E) (.ref pre.length) (.int 2) = some (.int p.2.2) := by rw [idxO_ref St1_get, atI_two]
@[simp] theorem pool_s0 (v : Int) : setO (St1 pre p E) (.ref pre.length) (.int 0) (.int v) = some (St1 pre (v, p.2) E) := by
  rw [setO_ref St1_get]
  show (ixN 3 ((0 : Nat) : Int)).map _ = _
  rw [ixN_nat (by decide), Option.map_some]
  exact congrArg some (St1_set v p.2.1 p.2.2)
@[simp] theorem pool_s1 (v : Int) : setO (St1 pre p E) (.ref pre.length) (.int 1) (.int v) = some (St1 pre (p.1, v, p.2.2) E) := by
  rw [setO_ref St1_get]
  show (ixN 3 ((1 : Nat) : Int)).map _ = _
  rw [ixN_nat (by decide), Option.map_some]
  exact congrArg some (St1_set p.1 v p.2.2)
@[simp] theorem pool_s2 (v : Int) : setO (St1 pre p E) (.ref pre.length) (.int 2) (.int v) = some (St1 pre (p.1, p.2.1, v) E) := by
  rw [setO_ref St1_get]
  show (ixN 3 ((2 : Nat) : Int)).map _ = _
  rw [ixN_nat (by decide), Option.map_some]
  exact congrArg some (St1_set p.1 p.2.1 v)
theorem new_get {o : O} : (St1 pre p (E ++ [o]))[pre.length + (1 + E.length)]? = some o := by rw [St1_getE]; simp
theorem new_set {o o' : O} : (St1 pre p (E ++ [o])).set (pre.length + (1 + E.length)) o' = St1 pre p (E ++ [o']) := by rw [St1_setE]; simp [List.set_append_right]
theorem new_app {xs : List D} (h : xs.length < lim) (v : D) : appO (St1 pre p (E ++ [.lst xs])) (.ref (pre.length + (1 + E.length))) v = some (St1 pre p (E ++ [.lst (xs ++ [v])])) := by rw [appO_ref new_get h, new_set]
theorem new_shal {xs : List D} : shal (St1 pre p (E ++ [.lst xs])) (.ref (pre.length + (1 + E.length))) = .lst xs := shal_ref new_get
theorem new_lstR {xs : List D} : lstR (St1 pre p (E ++ [.lst xs])) (.ref (pre.length + (1 + E.length))) = some () := lstR_ref new_get
end
@[simp] theorem fin_false (A A' : AH) (d : D) : finish false A d A' = .ok d A' := (Eq.refl _).trans rfl
theorem cut_map {f : Int → D} (xs : List Int) (lo hi : Option Int) : cut (xs.map f) lo hi = (cut xs lo hi).map f := by simp [cut, List.map_take, List.map_drop]
theorem cut_len {α : Type} (xs : List α) (lo hi : Option Int) : (cut xs lo hi).length ≤ xs.length := by unfold cut; rw [List.length_take, List.length_drop]; omega
theorem slc_kl (A : AH) (xs : List D) (lo hi : Option Int) : slcO A (.kl xs) lo hi = some (.lst (cut xs lo hi)) := (Eq.refl _).trans rfl
theorem pow_18 (A : AH) : binO A .pow (.int 10) (.int 18) = some (.int 1000000000000000000) := by
  show (if 0 ≤ (18 : Int) ∧ (18 : Int) ≤ 1000000 ∧ (10 : Int).natAbs < 2 ^ 64 then some (D.int (10 ^ (18 : Int).toNat)) else none) = _
  rw [if_pos (by decide)]; rfl
theorem pow_20 (A : AH) : binO A .pow (.int 10) (.int 20) = some (.int 100000000000000000000) := by
  show (if 0 ≤ (20 : Int) ∧ (20 : Int) ≤ 1000000 ∧ (10 : Int).natAbs < 2 ^ 64 then some (D.int (10 ^ (20 : Int).toNat)) else none) = _
  rw [if_pos (by decide)]; rfl
theorem mulR {A : AH} (i : Int) {j : Int} (h : -1000000 < j ∧ j < 1000000) : binO A .mul (.int i) (.int j) = some (.int (i * j)) := binO_mulR (by omega)
theorem mulL {A : AH} {i : Int} (j : Int) (h : -1000000 < i ∧ i < 1000000) : binO A .mul (.int i) (.int j) = some (.int (i * j)) := binO_mulL (by omega)
end Ev

set_option maxRecDepth 100000
/-! Pl4: loops by their turns' numbers; slices of values and of objects -/
namespace Ev
open PySem (Str)
theorem forL_ix {α : Type} {as : D → Env → AH → Res Env} {body : Env → AH → Res (Fl × Env)} {f : α → D} {Pv : Nat → Env → AH → Prop} : ∀ (xs : List α) (k : Nat) (env : Env) (A : AH), Pv k env A →
    (∀ i x env A, xs[i]? = some x → Pv (k + i) env A → ∃ env1 A1 fl env2 A2, as (f x) env A = .ok env1 A1 ∧ body env1 A1 = .ok (fl, env2) A2 ∧ (fl = .nx ∨ fl = .ct) ∧ Pv (k + i + 1) env2 A2) →
    ∃ env' A', forL as body (xs.map f) env A = .ok (.nx, env') A' ∧ Pv (k + xs.length) env' A'
  | [], k, env, A, h, _ => ⟨env, A, rfl, h⟩
  | x :: xs, k, env, A, h, step => by
    obtain ⟨env1, A1, fl, env2, A2, h1, h2, h3, h4⟩ := step 0 x env A rfl h
    obtain ⟨env', A', k1, k2⟩ := forL_ix (Pv := Pv) xs (k + 1) env2 A2 h4 fun i y env A e p => by
      have := step (i + 1) y env A (by simpa using e) (by rw [show k + (i + 1) = k + 1 + i by omega]; exact p)
      rw [show k + (i + 1) + 1 = k + 1 + i + 1 by omega] at this
      exact this
    refine ⟨env', A', ?_, by rw [show k + (x :: xs).length = k + 1 + xs.length by simp; omega]; exact k2⟩
    simp only [List.map_cons, forL, h1, bnd_ok, h2]
    rcases h3 with rfl | rfl <;> exact k1
section
variable {cl : Cl} {env : Env} {A A1 : AH} {tg : T} {it : I}
theorem for_ix {α : Type} {f : α → D} {body : Ss} {xs : List α} {Pv : Nat → Env → AH → Prop} (hi : evi cl it env A = .ok (xs.map f) A1) (h0 : Pv 0 env A1)
    (h : ∀ i x env A, xs[i]? = some x → Pv i env A → ∃ env1 A1 fl env2 A2, asg cl tg (f x) env A = .ok env1 A1 ∧ evSs cl body env1 A1 = .ok (fl, env2) A2 ∧ (fl = .nx ∨ fl = .ct) ∧ Pv (i + 1) env2 A2) :
    ∃ env' A', evS cl (.for tg it body) env A = .ok (.nx, env') A' ∧ Pv xs.length env' A' := by
  obtain ⟨env', A', k1, k2⟩ := forL_ix (as := fun d => asg cl tg d) (body := fun env A => evSs cl body env A) (f := f) (Pv := Pv) xs 0 env A1 h0 fun i x env A e p => by
    rw [Nat.zero_add] at p ⊢; exact h i x env A e p
  exact ⟨env', A', by rw [evS_for, hi]; exact k1, by rwa [Nat.zero_add] at k2⟩
/-- over range(n) -/
theorem for_rng {f : Nat → D} {body : Ss} {n : Nat} {Pv : Nat → Env → AH → Prop} (hi : evi cl it env A = .ok ((List.range n).map f) A1) (h0 : Pv 0 env A1)
    (h : ∀ i env A, i < n → Pv i env A → ∃ env1 A1 fl env2 A2, asg cl tg (f i) env A = .ok env1 A1 ∧ evSs cl body env1 A1 = .ok (fl, env2) A2 ∧ (fl = .nx ∨ fl = .ct) ∧ Pv (i + 1) env2 A2) :
    ∃ env' A', evS cl (.for tg it body) env A = .ok (.nx, env') A' ∧ Pv n env' A' := by
  obtain ⟨env', A', k1, k2⟩ := for_ix (tg := tg) (body := body) (Pv := Pv) hi h0 fun i x env A e p => by
    have hl : i < n := by have := (List.getElem?_eq_some_iff.mp e).1; rwa [List.length_range] at this
    rw [List.getElem?_range hl] at e
    cases e
    exact h i env A hl p
  exact ⟨env', A', k1, by rwa [List.length_range] at k2⟩
end
section
variable {A : AH} {d : D} {xs : List D}
theorem slc_of (h : shal A d = .lst xs) (lo hi : Option Int) : slcO A d lo hi = some (.lst (cut xs lo hi)) := by unfold slcO; rw [h]
theorem len_of (h : shal A d = .lst xs) : lenO A d = some (xs.length : Int) := by unfold lenO; rw [h]
theorem add_lst (ys : List D) (h : xs.length + ys.length ≤ 1000) : binO A .add (.lst xs) (.lst ys) = some (.lst (xs ++ ys)) := by
  show (if xs.length + ys.length ≤ lim then some (D.lst (xs ++ ys)) else none) = _
  rw [if_pos (Nat.le_trans h (by decide))]
end
theorem sIx_nat {n d k : Nat} (h : k ≤ n) : sIx n d (some (k : Int)) = k := by
  show (if (k : Int) < 0 then ((k : Int) + (n : Int)).toNat else min (k : Int).toNat n) = k
  rw [if_neg (by omega), Int.toNat_natCast, Nat.min_eq_left h]
theorem cut_to {α : Type} {xs : List α} {k : Nat} (h : k ≤ xs.length) : cut xs none (some (k : Int)) = xs.take k := by
  unfold cut
  rw [sIx_nat h]
  rfl
theorem cut_from {α : Type} {xs : List α} {k : Nat} (h : k ≤ xs.length) : cut xs (some (k : Int)) none = xs.drop k := by
  unfold cut
  rw [sIx_nat h]
  show (xs.drop k).take (xs.length - k) = _
  rw [List.take_of_length_le (by simp)]
theorem pu_roads (k : Nat) (rs : List Road) : D.pus (k + 2) (rs.map rD) = true := pus_of fun x hx => by
  obtain ⟨r, _, rfl⟩ := List.mem_map.mp hx; rfl
theorem pu_wD (k m : Nat) (rs : List Road) : D.pu (k + 4) (wD m rs) = true := by
  simp [wD, D.pu, D.pus, pu_roads]
end Ev

set_option maxRecDepth 100000
/-! Pl5: tables of distances -/
namespace Ev
open PySem (Str)
abbrev Mx := Nat → Nat → Option Int
def oD : Option Int → D
  | none => .non
  | some i => .int i
def rowO (m : Nat) (F : Mx) (i : Nat) : O := .lst ((List.range m).map fun j => oD (F i j))
def matN (m k : Nat) (F : Mx) : AH := (List.range k).map fun i => rowO m F i
def updF (F : Mx) (i j : Nat) (v : Option Int) : Mx := fun a b => if a = i ∧ b = j then v else F a b
theorem matN_len (m k : Nat) (F : Mx) : (matN m k F).length = k := by simp [matN]
theorem matN_succ (m k : Nat) (F : Mx) : matN m (k + 1) F = matN m k F ++ [rowO m F k] := by simp [matN, List.range_succ]
section
variable {A : AH} {m : Nat} {F : Mx} {i j : Nat}
theorem mat_get (hi : i < m) : (A ++ matN m m F)[A.length + i]? = some (rowO m F i) := by
  rw [List.getElem?_append_right (Nat.le_add_right _ _), Nat.add_sub_cancel_left]
  simp [matN, hi]
theorem mat_idx (hi : i < m) (hj : j < m) : idxO (A ++ matN m m F) (.ref (A.length + i)) (.int j) = some (oD (F i j)) := by
  rw [idxO_ref (mat_get hi)]
  have h : j < (List.range m).length := by rw [List.length_range]; exact hj
  rw [atI_map h, List.getElem_range]
theorem mat_set (hi : i < m) (hj : j < m) (v : Option Int) : setO (A ++ matN m m F) (.ref (A.length + i)) (.int j) (oD v) = some (A ++ matN m m (updF F i j v)) := by
  rw [setO_ref (mat_get hi), List.length_map, List.length_range, ixN_nat hj, Option.map_some, List.set_append_right _ _ (Nat.le_add_right _ _), Nat.add_sub_cancel_left]
  congr 2
  refine List.ext_getElem? fun a => ?_
  by_cases ha : a < m
  · by_cases hai : i = a
    · subst hai
      rw [List.getElem?_set_self (by rw [matN_len]; exact ha)]
      simp only [matN, List.getElem?_map, List.getElem?_range ha, Option.map_some]
      congr 1
      unfold rowO
      congr 1
      refine List.ext_getElem? fun b => ?_
      by_cases hb : b < m
      · by_cases hbj : j = b
        · subst hbj
          rw [List.getElem?_set_self (by simpa using hb)]
          simp [List.getElem?_range hb, updF]
        · rw [List.getElem?_set_ne hbj]
          have : ¬ b = j := fun z => hbj z.symm
          simp [List.getElem?_range hb, updF, this]
      · rw [List.getElem?_eq_none (by simp; omega), List.getElem?_eq_none (by simp; omega)]
    · rw [List.getElem?_set_ne hai]
      have : ¬ a = i := fun z => hai z.symm
      simp [matN, List.getElem?_range ha, rowO, updF, this]
  · rw [List.getElem?_eq_none (by simp [matN]; omega), List.getElem?_eq_none (by simp [matN]; omega)]
end
/-- the table as an object of rows -/
def farD (k m : Nat) : D := .lst ((List.range m).map fun i => .ref (k + i))
theorem far_idx {A B : AH} {m i : Nat} (hi : i < m) : idxO B (farD A.length m) (.int i) = some (.ref (A.length + i)) := by
  unfold farD
  rw [idxO_lst]
  have h : i < (List.range m).length := by rw [List.length_range]; exact hi
  rw [atI_map h, List.getElem_range]
/-- the table as a value -/
def distD (m : Nat) (F : Mx) : D := .lst ((List.range m).map fun i => .lst ((List.range m).map fun j => oD (F i j)))
theorem dist_row {A : AH} {m i : Nat} {F : Mx} (hi : i < m) : idxO A (distD m F) (.int i) = some (.lst ((List.range m).map fun j => oD (F i j))) := by
  unfold distD
  rw [idxO_lst]
  have h : i < (List.range m).length := by rw [List.length_range]; exact hi
  rw [atI_map h, List.getElem_range]
theorem dist_at {A : AH} {m i j : Nat} {F : Mx} (hj : j < m) : idxO A (.lst ((List.range m).map fun j => oD (F i j))) (.int j) = some (oD (F i j)) := by
  rw [idxO_lst]
  have h : j < (List.range m).length := by rw [List.length_range]; exact hj
  rw [atI_map h, List.getElem_range]
theorem fzL_map {α : Type} {f : D → Option (D × List Nat)} {g h : α → D} {k : α → List Nat} : ∀ (l : List α), (∀ x ∈ l, f (g x) = some (h x, k x)) → fzL f (l.map g) = some (l.map h, l.flatMap k)
  | [], _ => rfl
  | x :: l, e => by
    simp only [List.map_cons, fzL]
    rw [e x List.mem_cons_self, fzL_map l fun y hy => e y (List.mem_cons_of_mem _ hy)]
    simp
theorem pu_oD (k : Nat) (o : Option Int) : D.pu (k + 1) (oD o) = true := by cases o <;> rfl
theorem fz_far {A : AH} {m : Nat} {F : Mx} : ∃ L, fz (A ++ matN m m F) 8 (farD A.length m) = some (distD m F, L) ∧ ∀ n ∈ L, A.length ≤ n := by
  refine ⟨(List.range m).flatMap fun i => [A.length + i], ?_, fun n hn => ?_⟩
  · have e := fzL_map (f := fz (A ++ matN m m F) 7) (g := fun i : Nat => D.ref (A.length + i)) (h := fun i => D.lst ((List.range m).map fun j => oD (F i j))) (k := fun i => [A.length + i]) (List.range m) fun i hi => by
      have hi := List.mem_range.mp hi
      have q : fz (A ++ matN m m F) 7 (.ref (A.length + i)) = (match (A ++ matN m m F)[A.length + i]? with
        | some (.lst xs) => (fzL (fz (A ++ matN m m F) 6) xs).map fun p => (D.lst p.1, (A.length + i) :: p.2)
        | some (.dk ks vs) => (fzL (fz (A ++ matN m m F) 6) vs).map fun p => (D.dk ks p.1, (A.length + i) :: p.2)
        | some (.dt ks vs) => (fzL (fz (A ++ matN m m F) 6) vs).map fun p => (D.dt ks p.1, (A.length + i) :: p.2)
        | _ => none) := rfl
      rw [q, mat_get hi]
      simp only [rowO]
      rw [fzL_pure fun x hx => ?_]
      · rfl
      · obtain ⟨j, _, rfl⟩ := List.mem_map.mp hx
        exact fz_pu 6 _ (pu_oD 5 _)
    show (fzL (fz (A ++ matN m m F) 7) ((List.range m).map fun i => .ref (A.length + i))).map _ = _
    rw [e]
    rfl
  · obtain ⟨i, _, hi⟩ := List.mem_flatMap.mp hn
    simp at hi; omega
theorem fin_gen {A E : AH} {d d' : D} {L : List Nat} (h : fz (A ++ E) 8 d = some (d', L)) (hL : ∀ n ∈ L, A.length ≤ n) : finish true A d (A ++ E) = .ok d' A := by
  unfold finish
  rw [if_pos rfl, h]
  simp only [oldOk_refl, Bool.and_true, List.take_left']
  rw [if_pos]
  rw [List.all_eq_true]
  exact fun n hn => decide_eq_true (hL n hn)

/-! ### one more place between -/
def relax (F : Mx) (k : Nat) : Mx := fun i j => match F i k, F k j with
  | some a, some b => (match F i j with
    | none => some (a + b)
    | some c => if a + b < c then some (a + b) else some c)
  | _, _ => F i j
theorem relax_le {F : Mx} {k i j : Nat} {c : Int} (h : F i j = some c) : ∃ d, relax F k i j = some d ∧ d ≤ c := by
  unfold relax
  rw [h]
  split
  · simp only
    split
    · exact ⟨_, rfl, by omega⟩
    · exact ⟨_, rfl, by omega⟩
  · exact ⟨_, rfl, Int.le_refl _⟩
theorem relax_via {F : Mx} {k i j : Nat} {a b : Int} (h1 : F i k = some a) (h2 : F k j = some b) : ∃ d, relax F k i j = some d ∧ d ≤ a + b := by
  unfold relax
  rw [h1, h2]
  simp only
  split
  · exact ⟨_, rfl, Int.le_refl _⟩
  · split
    · exact ⟨_, rfl, Int.le_refl _⟩
    · exact ⟨_, rfl, by omega⟩
theorem relax_is {F : Mx} {k i j : Nat} {d : Int} (h : relax F k i j = some d) : F i j = some d ∨ ∃ a b, F i k = some a ∧ F k j = some b ∧ d = a + b := by
  unfold relax at h
  split at h
  · rename_i a b h1 h2
    split at h
    · cases h; exact .inr ⟨a, b, h1, h2, rfl⟩
    · rename_i c h3
      split at h
      · cases h; exact .inr ⟨a, b, h1, h2, rfl⟩
      · cases h; exact .inl h3
  · exact .inl h
structure Tri (m k : Nat) (rs : List Road) (F : Mx) : Prop where
  diag : ∀ i, i < m → F i i = some 0
  nn : ∀ i j v, F i j = some v → 0 ≤ v
  road : ∀ r ∈ rs, (∃ v, F r.1 r.2.1 = some v ∧ v ≤ r.2.2) ∧ ∃ v, F r.2.1 r.1 = some v ∧ v ≤ r.2.2
  tri : ∀ t, t < k → ∀ i j v w, F i t = some v → F t j = some w → ∃ u, F i j = some u ∧ u ≤ v + w
theorem Tri.next {m k : Nat} {rs : List Road} {F : Mx} (h : Tri m k rs F) (hk : k < m) : Tri m (k + 1) rs (relax F k) := by
  have hkk := h.diag k hk
  have nn : ∀ i j v, relax F k i j = some v → 0 ≤ v := fun i j v e => by
    rcases relax_is e with e | ⟨a, b, e1, e2, rfl⟩
    · exact h.nn _ _ _ e
    · have := h.nn _ _ _ e1; have := h.nn _ _ _ e2; omega
  refine ⟨fun i hi => ?_, nn, fun r hr => ?_, fun t ht i j v w hv hw => ?_⟩
  · obtain ⟨d, e, hd⟩ := relax_le (k := k) (h.diag i hi)
    have := nn _ _ _ e
    rw [e]; congr 1; omega
  · obtain ⟨⟨v, e1, hv⟩, w, e2, hw⟩ := h.road r hr
    obtain ⟨d1, f1, g1⟩ := relax_le (k := k) e1
    obtain ⟨d2, f2, g2⟩ := relax_le (k := k) e2
    exact ⟨⟨d1, f1, by omega⟩, d2, f2, by omega⟩
  · by_cases htk : t = k
    · subst htk
      have ev : F i t = some v := by
        rcases relax_is hv with e | ⟨a, b, e1, e2, rfl⟩
        · exact e
        · rw [hkk] at e2; cases e2; rw [e1]; simp
      have ew : F t j = some w := by
        rcases relax_is hw with e | ⟨a, b, e1, e2, rfl⟩
        · exact e
        · rw [hkk] at e1; cases e1; rw [e2]; simp
      exact relax_via ev ew
    · have ht' : t < k := by omega
      rcases relax_is hv with ev | ⟨a, b, e1, e2, rfl⟩
      · rcases relax_is hw with ew | ⟨c, d, f1, f2, rfl⟩
        · obtain ⟨u, hu, hl⟩ := h.tri t ht' i j v w ev ew
          obtain ⟨u', hu', hl'⟩ := relax_le (k := k) hu
          exact ⟨u', hu', by omega⟩
        · obtain ⟨u, hu, hl⟩ := h.tri t ht' i k v c ev f1
          obtain ⟨u', hu', hl'⟩ := relax_via hu f2
          exact ⟨u', hu', by omega⟩
      · rcases relax_is hw with ew | ⟨c, d, f1, f2, rfl⟩
        · obtain ⟨u, hu, hl⟩ := h.tri t ht' k j b w e2 ew
          obtain ⟨u', hu', hl'⟩ := relax_via e1 hu
          exact ⟨u', hu', by omega⟩
        · obtain ⟨u', hu', hl'⟩ := relax_via e1 f2
          have := h.nn _ _ _ e2; have := h.nn _ _ _ f1
          exact ⟨u', hu', by omega⟩
/-- the table while the place k is put between: the cells before (a, b) are done -/
def curF (F : Mx) (k a b : Nat) : Mx := fun i j => if i < a ∨ (i = a ∧ j < b) then relax F k i j else F i j
theorem relax_k {F : Mx} {k : Nat} (hk : F k k = some 0) (i : Nat) : relax F k i k = F i k := by
  unfold relax
  rw [hk]
  cases e : F i k with
  | none => rfl
  | some a => simp
theorem relax_k' {F : Mx} {k : Nat} (hk : F k k = some 0) (j : Nat) : relax F k k j = F k j := by
  unfold relax
  rw [hk]
  cases e : F k j with
  | none => rfl
  | some a => simp
theorem cur_ik {F : Mx} {k a b : Nat} (hk : F k k = some 0) (i : Nat) : curF F k a b i k = F i k := by unfold curF; rw [relax_k hk]; split <;> rfl
theorem cur_kj {F : Mx} {k a b : Nat} (hk : F k k = some 0) (j : Nat) : curF F k a b k j = F k j := by unfold curF; rw [relax_k' hk]; split <;> rfl
theorem cur_at {F : Mx} {k a b : Nat} : curF F k a b a b = F a b := by unfold curF; rw [if_neg (by omega)]
theorem cur_set {F : Mx} {k a b : Nat} : updF (curF F k a b) a b (relax F k a b) = curF F k a (b + 1) := by
  funext i j
  unfold updF curF
  by_cases h : i = a ∧ j = b
  · obtain ⟨rfl, rfl⟩ := h
    rw [if_pos ⟨rfl, rfl⟩, if_pos (by omega)]
  · rw [if_neg h]
    by_cases h2 : i < a ∨ (i = a ∧ j < b)
    · rw [if_pos h2, if_pos (by omega)]
    · rw [if_neg h2, if_neg (by omega)]
theorem cur_same {F : Mx} {k a b : Nat} (h : relax F k a b = F a b) : curF F k a b = curF F k a (b + 1) := by
  rw [← cur_set, h]
  funext i j
  unfold updF
  by_cases e : i = a ∧ j = b
  · obtain ⟨rfl, rfl⟩ := e
    rw [if_pos ⟨rfl, rfl⟩, cur_at]
  · rw [if_neg e]
theorem cur_0 {F : Mx} {k : Nat} : curF F k 0 0 = F := by
  funext i j; unfold curF; rw [if_neg (by omega)]
theorem matN_congr {m k : Nat} {F G : Mx} (h : ∀ i j, i < k → j < m → F i j = G i j) : matN m k F = matN m k G := by
  unfold matN
  refine List.map_congr_left fun i hi => ?_
  unfold rowO
  congr 1
  refine List.map_congr_left fun j hj => ?_
  rw [h i j (List.mem_range.mp hi) (List.mem_range.mp hj)]
theorem cur_row {F : Mx} {k m a : Nat} : matN m m (curF F k a m) = matN m m (curF F k (a + 1) 0) := matN_congr fun i j hi hj => by
  unfold curF
  by_cases h : i < a ∨ (i = a ∧ j < m)
  · rw [if_pos h, if_pos (by omega)]
  · rw [if_neg h, if_neg (by omega)]
theorem cur_all {F : Mx} {k m : Nat} : matN m m (curF F k m 0) = matN m m (relax F k) := matN_congr fun i j hi hj => by
  unfold curF; rw [if_pos (.inl hi)]
end Ev

set_option maxRecDepth 100000
/-! Pl6: comprehensions by their turns' numbers -/
namespace Ev
open PySem (Str)
theorem compL_ix {as : D → Env → AH → Res Env} {cs : Env → AH → Res Bool} {ef : Env → AH → Res D} {env : Env} {α : Type} {f : α → D} {g : Nat → D} {Pv : Nat → AH → Prop} : ∀ (xs : List α) (k : Nat) (A : AH), Pv k A →
    (∀ i x A, xs[i]? = some x → Pv (k + i) A → ∃ env1 A1 A2 A3, as (f x) env A = .ok env1 A1 ∧ cs env1 A1 = .ok true A2 ∧ ef env1 A2 = .ok (g (k + i)) A3 ∧ Pv (k + i + 1) A3) →
    ∃ A', compL as cs ef env (xs.map f) A = .ok ((List.range' k xs.length).map g) A' ∧ Pv (k + xs.length) A'
  | [], k, A, h, _ => ⟨A, rfl, h⟩
  | x :: xs, k, A, h, step => by
    obtain ⟨env1, A1, A2, A3, h1, h2, h3, h4⟩ := step 0 x A rfl h
    obtain ⟨A', k1, k2⟩ := compL_ix (Pv := Pv) xs (k + 1) A3 h4 fun i y A e p => by
      have := step (i + 1) y A (by simpa using e) (by rw [show k + (i + 1) = k + 1 + i by omega]; exact p)
      rw [show k + (i + 1) = k + 1 + i by omega] at this
      exact this
    refine ⟨A', ?_, by rw [show k + (x :: xs).length = k + 1 + xs.length by simp; omega]; exact k2⟩
    simp only [List.map_cons, compL, h1, bnd_ok, h2, if_true, h3, k1, List.length_cons, List.range'_succ]
    rfl
section
variable {cl : Cl} {env : Env} {A A1 : AH} {own : List Nat} {tg : T} {it : I} {cs : Es} {e : E}
theorem cmp_rng {f g : Nat → D} {n : Nat} {Pv : Nat → AH → Prop} (hi : evi cl it env A = .ok ((List.range n).map f) A1) (hl : n ≤ 100000) (h0 : Pv 0 A1)
    (h : ∀ i A, i < n → Pv i A → ∃ env1 A1 A2 A3, asg cl tg (f i) (wipe env own) A = .ok env1 A1 ∧ evt cl cs env1 A1 = .ok true A2 ∧ ev cl e env1 A2 = .ok (g i) A3 ∧ Pv (i + 1) A3) :
    ∃ A', ev cl (.comp false own tg it cs e) env A = .ok (.lst ((List.range n).map g)) A' ∧ Pv n A' := by
  obtain ⟨A', k1, k2⟩ := compL_ix (as := fun d => asg cl tg d) (cs := fun env A => evt cl cs env A) (ef := fun env A => ev cl e env A) (env := wipe env own) (f := f) (g := g) (Pv := Pv) (List.range n) 0 A1 h0 fun i x A ex p => by
    have hl : i < n := by have := (List.getElem?_eq_some_iff.mp ex).1; rwa [List.length_range] at this
    rw [List.getElem?_range hl] at ex
    cases ex
    rw [Nat.zero_add] at p ⊢
    exact h i A hl p
  rw [Nat.zero_add, List.length_range] at k2
  refine ⟨A', ?_, k2⟩
  rw [ev_comp, hi]
  simp only [bnd_ok]
  rw [k1]
  simp only [calm_ok, bnd_ok, List.length_map, List.length_range', List.length_range]
  rw [if_pos (Nat.le_trans hl (by decide)), ← List.range_eq_range']
  rfl
theorem cmp_mapM {α : Type} {f g : α → D} {xs : List α} (hi : evi cl it env A = .ok (xs.map f) A1) (hl : xs.length ≤ 100000)
    (h : ∀ x ∈ xs, ∃ env1, asg cl tg (f x) (wipe env own) A1 = .ok env1 A1 ∧ evt cl cs env1 A1 = .ok true A1 ∧ ev cl e env1 A1 = .ok (g x) A1) : ev cl (.comp true own tg it cs e) env A = .ok (.ref A1.length) (A1 ++ [.lst (xs.map g)]) := by
  rw [ev_comp, hi]
  simp only [bnd_ok]
  rw [compL_map (f := f) (g := g) h]
  simp only [calm_ok, bnd_ok, List.length_map]
  rw [if_pos (Nat.le_trans hl (by decide))]
  rfl
end
end Ev

set_option maxRecDepth 100000
/-! Pl7: least values; heights of a table -/
namespace Ev
open PySem (Str)
theorem minL_spec {l : List Int} {x : Int} (h : minL l = some x) : (∀ y ∈ l, x ≤ y) ∧ x ∈ l := by
  cases l with
  | nil => cases h
  | cons a r =>
    have e := foldl_min r a
    have : x = r.foldl (fun a b => if b < a then b else a) a := (Option.some.inj h).symm
    rw [this]; exact e
theorem minL_ex {l : List Int} {y : Int} (h : y ∈ l) : ∃ x, minL l = some x := by
  cases l with
  | nil => cases h
  | cons a r => exact ⟨_, rfl⟩
/-- from the place i: the base and the way -/
def valsF (m : Nat) (F : Mx) (bs : List Int) (i : Nat) : List Int := (List.range m).filterMap fun j => (F i j).map fun v => bs.getD j 0 + v
def hF (m : Nat) (F : Mx) (bs : List Int) (i : Nat) : Int := (minL (valsF m F bs i)).getD 0
def htsF (m : Nat) (F : Mx) (bs : List Int) : List Int := (List.range m).map (hF m F bs)
theorem mem_vals {m : Nat} {F : Mx} {bs : List Int} {i : Nat} {y : Int} : y ∈ valsF m F bs i ↔ ∃ j v, j < m ∧ F i j = some v ∧ y = bs.getD j 0 + v := by
  unfold valsF
  rw [List.mem_filterMap]
  refine ⟨fun ⟨j, hj, e⟩ => ?_, fun ⟨j, v, hj, e, hy⟩ => ⟨j, List.mem_range.mpr hj, by rw [e, hy]; rfl⟩⟩
  obtain ⟨v, e1, e2⟩ := Option.map_eq_some_iff.mp e
  exact ⟨j, v, List.mem_range.mp hj, e1, e2.symm⟩
theorem hF_spec {m : Nat} {rs : List Road} {F : Mx} (h : Tri m m rs F) (bs : List Int) {i : Nat} (hi : i < m) : minL (valsF m F bs i) = some (hF m F bs i) ∧ (∀ j v, j < m → F i j = some v → hF m F bs i ≤ bs.getD j 0 + v) ∧ ∃ j v, j < m ∧ F i j = some v ∧ hF m F bs i = bs.getD j 0 + v := by
  obtain ⟨x, hx⟩ := minL_ex (mem_vals.mpr ⟨i, 0, hi, h.diag i hi, rfl⟩ : _ ∈ valsF m F bs i)
  have e : hF m F bs i = x := by unfold hF; rw [hx]; rfl
  obtain ⟨h1, h2⟩ := minL_spec hx
  rw [e]
  exact ⟨hx, fun j v hj hv => h1 _ (mem_vals.mpr ⟨j, v, hj, hv, rfl⟩), mem_vals.mp h2⟩
theorem hts_get {m : Nat} {F : Mx} {bs : List Int} {i : Nat} (hi : i < m) : (htsF m F bs).getD i 0 = hF m F bs i := by
  unfold htsF
  rw [List.getD_eq_getElem?_getD, List.getElem?_map, List.getElem?_range hi]; rfl
theorem hts_ok {m : Nat} {rs : List Road} {F : Mx} (hw : WebOk m rs) (h : Tri m m rs F) (bs : List Int) : HeightsOk m rs (htsF m F bs) := by
  refine ⟨by simp [htsF], fun r hr => ?_⟩
  obtain ⟨r1, r2, r3, r4⟩ := hw.road r hr
  have ha : r.1 < m := by omega
  rw [hts_get ha, hts_get r2]
  obtain ⟨⟨d, hd, hdl⟩, d', hd', hdl'⟩ := h.road r hr
  obtain ⟨_, a1, ja, va, a2, a3, a4⟩ := hF_spec h bs ha
  obtain ⟨_, b1, jb, vb, b2, b3, b4⟩ := hF_spec h bs r2
  obtain ⟨u, hu, hul⟩ := h.tri r.2.1 r2 _ _ _ _ hd b3
  obtain ⟨w, hw', hwl⟩ := h.tri r.1 ha _ _ _ _ hd' a3
  have := a1 jb u b2 hu
  have := b1 ja w a2 hw'
  unfold absI
  split <;> omega
end Ev

set_option maxRecDepth 100000
/-! Pl8: heights and loads -/
namespace Ev
open PySem (Str)
def dotF (ts hs : List Int) : Int := ((ts.zip hs).map fun p => p.1 * p.2).sum
theorem gain_dot : ∀ {hs ws ts : List Int}, hs.length = ts.length → ws.length = ts.length → gainF hs ws ts = dotF ts hs - dotF ts ws
  | [], [], [], _, _ => rfl
  | h :: hs, w :: ws, t :: ts, a, b => by
    have ih := gain_dot (hs := hs) (ws := ws) (ts := ts) (by simpa using a) (by simpa using b)
    simp only [gainF, dotF, List.zip_cons_cons, List.map_cons, List.sum_cons] at ih ⊢
    rw [ih, Int.mul_sub]; omega
  | [], _ :: _, [], _, b => by simp at b
  | [], [], _ :: _, a, _ => by simp at a
  | [], _ :: _, _ :: _, a, _ => by simp at a
  | _ :: _, _, [], a, _ => by simp at a
  | _ :: _, [], _ :: _, _, b => by simp at b
theorem dot_set : ∀ {ts hs : List Int} {i : Nat} {v : Int}, hs.length = ts.length → i < hs.length → dotF ts (hs.set i v) = dotF ts hs + ts.getD i 0 * (v - hs.getD i 0)
  | [], [], i, v, _, h => by simp at h
  | [], _ :: _, _, _, h, _ => by simp at h
  | _ :: _, [], _, _, h, _ => by simp at h
  | t :: ts, h :: hs, 0, v, _, _ => by
    simp only [dotF, List.set_cons_zero, List.zip_cons_cons, List.map_cons, List.sum_cons, List.getD_cons_zero]
    rw [Int.mul_sub]; omega
  | t :: ts, h :: hs, i + 1, v, hl, hi => by
    have ih := dot_set (ts := ts) (hs := hs) (i := i) (v := v) (by simpa using hl) (by simpa using hi)
    simp only [dotF, List.set_cons_succ, List.zip_cons_cons, List.map_cons, List.sum_cons, List.getD_cons_succ] at ih ⊢
    rw [ih]; omega
/-- what the loads give at the heights -/
def stepsF (ts : List Int) (ps : List (Road × Int)) : Int := (ps.map fun p => p.2 * (ts.getD p.1.1 0 - ts.getD p.1.2.1 0)).sum
theorem dot_step {m : Nat} {ts hs : List Int} {p : Road × Int} (ht : ts.length = m) (hh : hs.length = m) (h : p.1.1 < p.1.2.1 ∧ p.1.2.1 < m) : dotF ts (stepF hs p) = dotF ts hs - p.2 * (ts.getD p.1.1 0 - ts.getD p.1.2.1 0) := by
  unfold stepF
  have e : (hs.set p.1.1 (hs.getD p.1.1 0 - p.2)).getD p.1.2.1 0 = hs.getD p.1.2.1 0 := by
    rw [List.getD_eq_getElem?_getD, List.getElem?_set_ne (by omega), List.getD_eq_getElem?_getD]
  rw [dot_set (by simp; omega) (by simp; omega), e, dot_set (by omega) (by omega)]
  have e1 : hs.getD p.1.1 0 - p.2 - hs.getD p.1.1 0 = -p.2 := by omega
  have e2 : hs.getD p.1.2.1 0 + p.2 - hs.getD p.1.2.1 0 = p.2 := by omega
  rw [e1, e2, Int.mul_neg, Int.mul_sub, Int.mul_comm p.2, Int.mul_comm p.2]; omega
theorem dot_comes {m : Nat} {ts : List Int} (ht : ts.length = m) : ∀ {ps : List (Road × Int)} {hs : List Int}, hs.length = m → (∀ p ∈ ps, p.1.1 < p.1.2.1 ∧ p.1.2.1 < m) → dotF ts (comesF hs ps) = dotF ts hs - stepsF ts ps
  | [], hs, _, _ => by simp [comesF, stepsF]
  | p :: ps, hs, hh, h => by
    have ih := dot_comes (ps := ps) (hs := stepF hs p) ht (by rw [stepF_len, hh]) fun q hq => h q (List.mem_cons_of_mem _ hq)
    show dotF ts (comesF (stepF hs p) ps) = _
    rw [ih, dot_step ht hh (h p List.mem_cons_self)]
    simp only [stepsF, List.map_cons, List.sum_cons]; omega
theorem gain_comes {m : Nat} {ts hs : List Int} {ps : List (Road × Int)} (ht : ts.length = m) (hh : hs.length = m) (h : ∀ p ∈ ps, p.1.1 < p.1.2.1 ∧ p.1.2.1 < m) : gainF hs (comesF hs ps) ts = stepsF ts ps := by
  rw [gain_dot (by omega) (by rw [comesF_len]; omega), dot_comes ht hh h]; omega
theorem mul_le_abs {x d l : Int} (h : absI d ≤ l) : x * d ≤ l * absI x := by
  unfold absI at h ⊢
  by_cases hx : x < 0
  · rw [if_pos hx, Int.mul_comm l, ← Int.neg_mul_neg]
    exact Int.mul_le_mul_of_nonneg_left (by split at h <;> omega) (by omega)
  · rw [if_neg hx, Int.mul_comm l]
    exact Int.mul_le_mul_of_nonneg_left (by split at h <;> omega) (by omega)
theorem steps_le {ts : List Int} : ∀ {ps : List (Road × Int)}, (∀ p ∈ ps, absI (ts.getD p.1.1 0 - ts.getD p.1.2.1 0) ≤ p.1.2.2) → stepsF ts ps ≤ costF ps
  | [], _ => by simp [stepsF, costF]
  | p :: ps, h => by
    have ih := steps_le (ps := ps) fun q hq => h q (List.mem_cons_of_mem _ hq)
    have := mul_le_abs (x := p.2) (h p List.mem_cons_self)
    simp only [stepsF, costF, List.map_cons, List.sum_cons] at ih ⊢
    omega
theorem gain_shift (c : Int) : ∀ {hs ws ts : List Int}, hs.length = ts.length → ws.length = ts.length → gainF hs ws (ts.map (· + c)) = gainF hs ws ts + c * (hs.sum - ws.sum)
  | [], [], [], _, _ => by simp [gainF]
  | h :: hs, w :: ws, t :: ts, a, b => by
    have ih := gain_shift c (hs := hs) (ws := ws) (ts := ts) (by simpa using a) (by simpa using b)
    simp only [gainF, List.zip_cons_cons, List.map_cons, List.sum_cons] at ih ⊢
    rw [ih, Int.add_mul]
    have e : c * (h + hs.sum - (w + ws.sum)) = c * (h - w) + c * (hs.sum - ws.sum) := by rw [← Int.mul_add]; congr 1; omega
    rw [e]; omega
  | [], _ :: _, [], _, b => by simp at b
  | [], [], _ :: _, a, _ => by simp at a
  | [], _ :: _, _ :: _, a, _ => by simp at a
  | _ :: _, _, [], a, _ => by simp at a
  | _ :: _, [], _ :: _, _, b => by simp at b
end Ev

set_option maxRecDepth 100000
/-! Pl9: equal lists of answers; arguments by names -/
namespace Ev
open PySem (Str)
theorem placed_2 (a b : D) : placed [] [a, b] [1, 0] = [b, a] := rfl
theorem placed_3 (a b c : D) : placed [] [a, b, c] [2, 1, 0] = [c, b, a] := rfl
theorem placed_4 (a b c d : D) : placed [] [a, b, c, d] [3, 2, 1, 0] = [d, c, b, a] := rfl
theorem eq_lstI (A : AH) (a b : List Int) : cmpO A .eq (.lst (a.map D.int)) (.lst (b.map D.int)) = some (decide (a = b)) := by
  show eqO A (.lst (a.map D.int)) (.lst (b.map D.int)) = _
  unfold eqO
  simp only [shal_lst, D.flatN, flat_ints, Bool.and_self, if_true, D.eqv, eqvs_ints]
theorem eqvs_self : ∀ {xs : List D}, (∀ x ∈ xs, D.eqv x x = true) → D.eqvs xs xs = true
  | [], _ => by simp [D.eqvs]
  | x :: xs, h => by simp [D.eqvs, h x List.mem_cons_self, eqvs_self fun y hy => h y (List.mem_cons_of_mem _ hy)]
theorem flatNs_of {k : Nat} : ∀ {xs : List D}, (∀ x ∈ xs, D.flatN k x = true) → D.flatNs k xs = true
  | [], _ => by simp [D.flatNs]
  | x :: xs, h => by simp [D.flatNs, h x List.mem_cons_self, flatNs_of fun y hy => h y (List.mem_cons_of_mem _ hy)]
theorem flat_iD (k : Nat) (a : List Int) : D.flatN (k + 1) (iD a) = true := by simp only [iD, D.flatN]; exact flat_ints k a
theorem eqv_iD (a : List Int) : D.eqv (iD a) (iD a) = true := by simp only [iD, D.eqv]; rw [eqvs_ints]; simp
theorem eq_self {A : AH} {xs : List D} (h : ∀ x ∈ xs, (∃ a, x = iD a) ∨ (∃ i, x = .int i) ∨ ∃ b, x = .bl b) : cmpO A .eq (.lst xs) (.lst xs) = some true := by
  show eqO A (.lst xs) (.lst xs) = _
  unfold eqO
  have e1 : D.flatNs 59 xs = true := flatNs_of fun x hx => by
    rcases h x hx with ⟨a, rfl⟩ | ⟨i, rfl⟩ | ⟨b, rfl⟩
    · exact flat_iD 58 a
    · rfl
    · rfl
  have e2 : D.eqvs xs xs = true := eqvs_self fun x hx => by
    rcases h x hx with ⟨a, rfl⟩ | ⟨i, rfl⟩ | ⟨b, rfl⟩
    · exact eqv_iD a
    · simp [D.eqv]
    · simp [D.eqv]
  simp only [shal_lst, D.flatN, e1, Bool.and_self, if_true, D.eqv, e2]
/-- the places that hold less than none or more than 99 -/
def badL (ns : List Int) : List Int := ns.filter fun x => !(decide (-1 < x) && decide (x < 100))
theorem bad_none {m : Nat} {ns : List Int} (hl : ns.length = m) (h : badL ns = []) : ns.length = m ∧ ∀ x ∈ ns, 0 ≤ x ∧ x ≤ 99 := by
  refine ⟨hl, fun x hx => ?_⟩
  unfold badL at h
  rw [List.filter_eq_nil_iff] at h
  have := h x hx
  simp at this
  omega
end Ev

set_option maxRecDepth 100000
/-! Pl10: the distances of a web as a function; what they keep -/
namespace Ev
open PySem (Str)
def F00 : Mx := fun i j => if i = j then some 0 else none
def put2 (F : Mx) (r : Road) : Mx := updF (updF F r.1 r.2.1 (some (r.2.2 : Int))) r.2.1 r.1 (some (r.2.2 : Int))
def webF (rs : List Road) : Mx := rs.foldl put2 F00
def relN (F : Mx) : Nat → Mx
  | 0 => F
  | k + 1 => relax (relN F k) k
/-- the distances of the web -/
def DF (m : Nat) (rs : List Road) : Mx := relN (webF rs) m
/-- the road has these ends -/
def Ends (r : Road) (i j : Nat) : Prop := (r.1 = i ∧ r.2.1 = j) ∨ (r.1 = j ∧ r.2.1 = i)
theorem put2_is (F : Mx) (r : Road) (i j : Nat) : (Ends r i j ∧ put2 F r i j = some (r.2.2 : Int)) ∨ (¬ Ends r i j ∧ put2 F r i j = F i j) := by
  unfold put2 updF Ends
  by_cases h1 : i = r.2.1 ∧ j = r.1
  · rw [if_pos h1]; exact .inl ⟨.inr ⟨h1.2.symm, h1.1.symm⟩, rfl⟩
  · rw [if_neg h1]
    by_cases h2 : i = r.1 ∧ j = r.2.1
    · rw [if_pos h2]; exact .inl ⟨.inl ⟨h2.1.symm, h2.2.symm⟩, rfl⟩
    · rw [if_neg h2]; exact .inr ⟨by omega, rfl⟩
theorem fold_is : ∀ (rs : List Road) (F : Mx) (i j : Nat), (∃ r ∈ rs, Ends r i j ∧ rs.foldl put2 F i j = some (r.2.2 : Int)) ∨ ((∀ r ∈ rs, ¬ Ends r i j) ∧ rs.foldl put2 F i j = F i j)
  | [], F, i, j => .inr ⟨by simp, rfl⟩
  | r :: rs, F, i, j => by
    rw [List.foldl_cons]
    rcases fold_is rs (put2 F r) i j with ⟨q, hq, h1, h2⟩ | ⟨h1, h2⟩
    · exact .inl ⟨q, List.mem_cons_of_mem _ hq, h1, h2⟩
    · rcases put2_is F r i j with ⟨k1, k2⟩ | ⟨k1, k2⟩
      · exact .inl ⟨r, List.mem_cons_self, k1, by rw [h2, k2]⟩
      · refine .inr ⟨fun q hq => ?_, by rw [h2, k2]⟩
        rcases List.mem_cons.mp hq with rfl | hq
        · exact k1
        · exact h1 q hq
theorem Ends.symm {r : Road} {i j : Nat} (h : Ends r i j) : Ends r j i := by unfold Ends at h ⊢; omega
theorem put2_symm {F : Mx} (h : ∀ i j, F i j = F j i) (r : Road) (i j : Nat) : put2 F r i j = put2 F r j i := by
  rcases put2_is F r i j with ⟨k1, k2⟩ | ⟨k1, k2⟩ <;> rcases put2_is F r j i with ⟨l1, l2⟩ | ⟨l1, l2⟩
  · rw [k2, l2]
  · exact absurd k1.symm l1
  · exact absurd l1.symm k1
  · rw [k2, l2, h]
theorem fold_symm : ∀ (rs : List Road) {F : Mx}, (∀ i j, F i j = F j i) → ∀ i j, rs.foldl put2 F i j = rs.foldl put2 F j i
  | [], F, h, i, j => h i j
  | r :: rs, F, h, i, j => by rw [List.foldl_cons]; exact fold_symm rs (put2_symm h r) i j
theorem webF_symm (rs : List Road) (i j : Nat) : webF rs i j = webF rs j i := fold_symm rs (fun i j => by
  unfold F00
  by_cases h : i = j
  · rw [if_pos h, if_pos h.symm]
  · rw [if_neg h, if_neg fun z => h z.symm]) i j
theorem relax_symm {F : Mx} (h : ∀ i j, F i j = F j i) (k i j : Nat) : relax F k i j = relax F k j i := by
  unfold relax
  rw [h i k, h k j, h i j]
  cases e1 : F k i <;> cases e2 : F j k <;> cases e3 : F j i <;> simp [Int.add_comm]
theorem relN_symm {F : Mx} (h : ∀ i j, F i j = F j i) : ∀ k i j, relN F k i j = relN F k j i
  | 0, i, j => h i j
  | k + 1, i, j => relax_symm (relN_symm h k) k i j
theorem DF_symm (m : Nat) (rs : List Road) (i j : Nat) : DF m rs i j = DF m rs j i := relN_symm (webF_symm rs) m i j
/-- roads with unlike ends -/
def Uniq (rs : List Road) : Prop := rs.Pairwise fun a b => ¬ (a.1 = b.1 ∧ a.2.1 = b.2.1)
theorem WebOk.uniq {m : Nat} {rs : List Road} (h : WebOk m rs) : Uniq rs := h.sorted.imp fun {a b} h => by omega
theorem fold_road : ∀ {rs : List Road} {F : Mx} {r : Road}, Uniq rs → (∀ r ∈ rs, r.1 < r.2.1) → r ∈ rs → ∀ {i j : Nat}, Ends r i j → rs.foldl put2 F i j = some (r.2.2 : Int)
  | [], _, _, _, _, h, _, _, _ => by cases h
  | q :: rs, F, r, hu, hl, hr, i, j, he => by
    rw [List.foldl_cons]
    rcases List.pairwise_cons.mp hu with ⟨u1, u2⟩
    rcases List.mem_cons.mp hr with rfl | hr
    · rcases fold_is rs (put2 F r) i j with ⟨q, hq, h1, h2⟩ | ⟨h1, h2⟩
      · have := u1 q hq
        have := hl q (List.mem_cons_of_mem _ hq)
        have := hl r List.mem_cons_self
        unfold Ends at he h1
        omega
      · rcases put2_is F r i j with ⟨k1, k2⟩ | ⟨k1, k2⟩
        · rw [h2, k2]
        · exact absurd he k1
    · exact fold_road u2 (fun r hr => hl r (List.mem_cons_of_mem _ hr)) hr he
theorem webF_tri {m : Nat} {rs : List Road} (hu : Uniq rs) (hr : ∀ r ∈ rs, r.1 < r.2.1) : Tri m 0 rs (webF rs) := by
  refine ⟨fun i hi => ?_, fun i j v hv => ?_, fun r h => ?_, fun t ht => by omega⟩
  · rcases fold_is rs F00 i i with ⟨q, hq, h1, _⟩ | ⟨_, h2⟩
    · have := hr q hq
      unfold Ends at h1; omega
    · unfold webF; rw [h2]; simp [F00]
  · rcases fold_is rs F00 i j with ⟨q, hq, _, h2⟩ | ⟨_, h2⟩
    · unfold webF at hv; rw [h2] at hv; cases hv; omega
    · unfold webF at hv; rw [h2] at hv; unfold F00 at hv
      split at hv
      · cases hv; omega
      · cases hv
  · have a := fold_road (F := F00) hu hr h (i := r.1) (j := r.2.1) (.inl ⟨rfl, rfl⟩)
    have b := fold_road (F := F00) hu hr h (i := r.2.1) (j := r.1) (.inr ⟨rfl, rfl⟩)
    exact ⟨⟨_, a, Int.le_refl _⟩, _, b, Int.le_refl _⟩
theorem relN_tri {m : Nat} {rs : List Road} {F : Mx} (h : Tri m 0 rs F) : ∀ k, k ≤ m → Tri m k rs (relN F k)
  | 0, _ => h
  | k + 1, hk => (relN_tri h k (by omega)).next (by omega)
theorem DF_tri {m : Nat} {rs : List Road} (h : WebOk m rs) : Tri m m rs (DF m rs) := relN_tri (webF_tri h.uniq fun r hr => (h.road r hr).1) m (Nat.le_refl _)

/-! ### twice all lengths -/
def dblR (r : Road) : Road := (r.1, r.2.1, 2 * r.2.2)
def dblF (F : Mx) : Mx := fun i j => (F i j).map fun v => 2 * v
theorem put2_dbl (F : Mx) (r : Road) : put2 (dblF F) (dblR r) = dblF (put2 F r) := by
  funext i j
  unfold put2 dblF updF dblR
  by_cases h1 : i = r.2.1 ∧ j = r.1
  · simp only [if_pos h1, Option.map_some]; congr 1
  · simp only [if_neg h1]
    by_cases h2 : i = r.1 ∧ j = r.2.1
    · simp only [if_pos h2, Option.map_some]; congr 1
    · simp only [if_neg h2]
theorem fold_dbl : ∀ (rs : List Road) (F : Mx), (rs.map dblR).foldl put2 (dblF F) = dblF (rs.foldl put2 F)
  | [], _ => rfl
  | r :: rs, F => by rw [List.map_cons, List.foldl_cons, List.foldl_cons, put2_dbl, fold_dbl rs]
theorem webF_dbl (rs : List Road) : webF (rs.map dblR) = dblF (webF rs) := by
  unfold webF
  rw [← fold_dbl]
  congr 1
  funext i j
  unfold dblF F00
  by_cases h : i = j <;> simp [h]
theorem relax_dbl (F : Mx) (k : Nat) : relax (dblF F) k = dblF (relax F k) := by
  funext i j
  unfold relax dblF
  cases e1 : F i k with
  | none => simp [e1]
  | some a =>
    cases e2 : F k j with
    | none => simp [e1, e2]
    | some b =>
      cases e3 : F i j with
      | none => simp [e1, e2, e3, Int.mul_add]
      | some c =>
        simp only [e1, e2, e3, Option.map_some]
        by_cases h : a + b < c
        · rw [if_pos h, if_pos (by omega)]; simp [Int.mul_add]
        · rw [if_neg h, if_neg (by omega)]; simp
theorem relN_dbl (F : Mx) : ∀ k, relN (dblF F) k = dblF (relN F k)
  | 0 => rfl
  | k + 1 => by simp only [relN]; rw [relN_dbl F k, relax_dbl]
theorem DF_dbl (m : Nat) (rs : List Road) (i j : Nat) : DF m (rs.map dblR) i j = (DF m rs i j).map fun v => 2 * v := by
  unfold DF
  rw [webF_dbl, relN_dbl]; rfl

/-! ### which places have a way -/
def con (m : Nat) (rs : List Road) (i j : Nat) : Bool := (DF m rs i j).isSome
theorem relax_reach {R : Nat → Nat → Prop} (ht : ∀ a b c, R a b → R b c → R a c) {F : Mx} (h : ∀ i j v, F i j = some v → R i j) (k i j : Nat) (v : Int) (e : relax F k i j = some v) : R i j := by
  rcases relax_is e with e | ⟨a, b, e1, e2, _⟩
  · exact h _ _ _ e
  · exact ht _ _ _ (h _ _ _ e1) (h _ _ _ e2)
theorem relN_reach {R : Nat → Nat → Prop} (ht : ∀ a b c, R a b → R b c → R a c) {F : Mx} (h : ∀ i j v, F i j = some v → R i j) : ∀ (k i j : Nat) (v : Int), relN F k i j = some v → R i j
  | 0, i, j, v, e => h i j v e
  | k + 1, i, j, v, e => relax_reach ht (relN_reach ht h k) k i j v e
theorem con_least {m : Nat} {rs : List Road} {R : Nat → Nat → Prop} (h0 : ∀ a, R a a) (hs : ∀ a b, R a b → R b a) (ht : ∀ a b c, R a b → R b c → R a c) (hr : ∀ r ∈ rs, R r.1 r.2.1) {i j : Nat} (h : con m rs i j = true) : R i j := by
  unfold con at h
  obtain ⟨v, hv⟩ := Option.isSome_iff_exists.mp h
  refine relN_reach ht (fun i j v e => ?_) m i j v hv
  rcases fold_is rs F00 i j with ⟨q, hq, h1, _⟩ | ⟨_, h2⟩
  · rcases h1 with ⟨rfl, rfl⟩ | ⟨rfl, rfl⟩
    · exact hr q hq
    · exact hs _ _ (hr q hq)
  · unfold webF at e; rw [h2] at e; unfold F00 at e
    split at e
    · rename_i z; exact z ▸ h0 i
    · cases e
section
variable {m : Nat} {rs : List Road}
theorem con_refl (hw : WebOk m rs) {i : Nat} (hi : i < m) : con m rs i i = true := by unfold con; rw [(DF_tri hw).diag i hi]; rfl
theorem con_symm {i j : Nat} : con m rs i j = con m rs j i := by unfold con; rw [DF_symm]
theorem con_trans (hw : WebOk m rs) {i j k : Nat} (hj : j < m) (h1 : con m rs i j = true) (h2 : con m rs j k = true) : con m rs i k = true := by
  unfold con at *
  obtain ⟨v, hv⟩ := Option.isSome_iff_exists.mp h1
  obtain ⟨w, hw'⟩ := Option.isSome_iff_exists.mp h2
  obtain ⟨u, hu, _⟩ := (DF_tri hw).tri j hj i k v w hv hw'
  rw [hu]; rfl
theorem con_road (hw : WebOk m rs) {r : Road} (hr : r ∈ rs) : con m rs r.1 r.2.1 = true := by
  obtain ⟨⟨v, hv, _⟩, _⟩ := (DF_tri hw).road r hr
  unfold con; rw [hv]; rfl
end
end Ev

set_option maxRecDepth 100000
/-! Pl11: the parts of a web; one road more -/
namespace Ev
open PySem (Str)
/-- the places that a place has a way to -/
def cls (m : Nat) (rs : List Road) (p : Nat) : List Nat := (List.range m).filter fun q => con m rs p q
/-- the least place of its part -/
def rep (m : Nat) (rs : List Road) (p : Nat) : Bool := (List.range p).all fun q => !con m rs p q
def repsL (m : Nat) (rs : List Road) (k : Nat) : List Nat := (List.range k).filter fun p => rep m rs p
def partsL (m : Nat) (rs : List Road) : List (List Nat) := (repsL m rs m).map (cls m rs)
section
variable {m : Nat} {rs : List Road}
theorem rep_iff {p : Nat} : rep m rs p = true ↔ ∀ q, q < p → con m rs p q = false := by
  unfold rep
  rw [List.all_eq_true]
  refine ⟨fun h q hq => ?_, fun h q hq => ?_⟩
  · have := h q (List.mem_range.mpr hq)
    simpa using this
  · rw [h q (List.mem_range.mp hq)]; rfl
theorem mem_cls {p q : Nat} : q ∈ cls m rs p ↔ q < m ∧ con m rs p q = true := by unfold cls; rw [List.mem_filter, List.mem_range]
theorem mem_reps {p k : Nat} : p ∈ repsL m rs k ↔ p < k ∧ rep m rs p = true := by unfold repsL; rw [List.mem_filter, List.mem_range]
theorem cls_head (hw : WebOk m rs) {p : Nat} (hp : p < m) : ∃ q t, cls m rs p = q :: t ∧ decide (q = p) = rep m rs p := by
  have hm : p ∈ cls m rs p := mem_cls.mpr ⟨hp, con_refl hw hp⟩
  cases e : cls m rs p with
  | nil => rw [e] at hm; cases hm
  | cons q t =>
    refine ⟨q, t, rfl, ?_⟩
    have hh : (cls m rs p).head? = some q := by rw [e]; rfl
    unfold cls at hh
    rw [List.head?_filter, List.find?_range_eq_some] at hh
    obtain ⟨h1, h2, h3⟩ := hh
    have hqp : ¬ p < q := fun z => by have := h3 p z; rw [con_refl hw hp] at this; cases this
    by_cases hr : rep m rs p = true
    · rw [hr]
      refine decide_eq_true ?_
      by_cases z : q = p
      · exact z
      · have := rep_iff.mp hr q (by omega)
        rw [h1] at this; cases this
    · rw [Bool.not_eq_true] at hr
      rw [hr]
      refine decide_eq_false fun z => ?_
      subst z
      have : rep m rs q = true := rep_iff.mpr fun x hx => by have := h3 x hx; simpa using this
      rw [hr] at this; cases this
theorem con_congr (hw : WebOk m rs) {p q : Nat} (hp : p < m) (hq : q < m) (h : con m rs p q = true) (x : Nat) : con m rs p x = con m rs q x := by
  cases e1 : con m rs p x with
  | true => exact (con_trans hw hp (con_symm.trans h) e1).symm
  | false =>
    cases e2 : con m rs q x with
    | true => rw [con_trans hw hq h e2] at e1; cases e1
    | false => rfl
theorem cls_eq (hw : WebOk m rs) {p q : Nat} (hp : p < m) (hq : q < m) (h : con m rs p q = true) : cls m rs p = cls m rs q := by
  unfold cls
  congr 1
  funext x
  exact con_congr hw hp hq h x
theorem cls_con (hw : WebOk m rs) {p q : Nat} (hq : q < m) (h : cls m rs p = cls m rs q) : con m rs p q = true := by
  have : q ∈ cls m rs p := by rw [h]; exact mem_cls.mpr ⟨hq, con_refl hw hq⟩
  exact (mem_cls.mp this).2
theorem rep_ex (hw : WebOk m rs) : ∀ p, p < m → ∃ r, r ≤ p ∧ rep m rs r = true ∧ con m rs p r = true := by
  intro p
  induction p using Nat.strongRecOn with
  | _ p ih =>
    intro hp
    by_cases hr : rep m rs p = true
    · exact ⟨p, Nat.le_refl _, hr, con_refl hw hp⟩
    · have : ∃ q, q < p ∧ con m rs p q = true := by
        apply Classical.byContradiction
        intro z
        refine hr (rep_iff.mpr fun q hq => ?_)
        cases e : con m rs p q with
        | false => rfl
        | true => exact absurd ⟨q, hq, e⟩ z
      obtain ⟨q, hq, hc⟩ := this
      obtain ⟨r, h1, h2, h3⟩ := ih q hq (by omega)
      exact ⟨r, by omega, h2, con_trans hw (by omega) hc h3⟩
theorem rep_uniq {a b : Nat} (ha : rep m rs a = true) (hb : rep m rs b = true) (h : con m rs a b = true) : a = b := by
  rcases Nat.lt_trichotomy a b with z | z | z
  · have := rep_iff.mp hb a z; rw [con_symm, h] at this; cases this
  · exact z
  · have := rep_iff.mp ha b z; rw [h] at this; cases this
/-- a part is there already just if its place is not the least -/
theorem cls_old (hw : WebOk m rs) {k : Nat} (hk : k < m) : cls m rs k ∈ (repsL m rs k).map (cls m rs) ↔ rep m rs k = false := by
  rw [List.mem_map]
  refine ⟨fun ⟨p, hp, e⟩ => ?_, fun h => ?_⟩
  · obtain ⟨h1, h2⟩ := mem_reps.mp hp
    have hc := cls_con hw hk e
    cases hr : rep m rs k with
    | false => rfl
    | true => have := rep_iff.mp hr p h1; rw [con_symm, hc] at this; cases this
  · obtain ⟨r, h1, h2, h3⟩ := rep_ex hw k hk
    have hne : r ≠ k := fun z => by rw [z, h] at h2; cases h2
    exact ⟨r, mem_reps.mpr ⟨by omega, h2⟩, (cls_eq hw hk (by omega) h3).symm⟩
theorem reps_succ (k : Nat) : repsL m rs (k + 1) = repsL m rs k ++ if rep m rs k = true then [k] else [] := by
  unfold repsL
  rw [List.range_succ, List.filter_append]
  congr 1
  by_cases h : rep m rs k = true <;> simp [h]
end
theorem filt_none {l : List Nat} {r0 : Nat} (h0 : r0 ∉ l) {f : Nat → Bool} (h : ∀ r ∈ l, f r = decide (r = r0)) : l.filter f = [] := by
  rw [List.filter_eq_nil_iff]
  intro a ha
  rw [h a ha]
  simp only [decide_eq_true_eq]
  exact fun z => h0 (z ▸ ha)
theorem filt_one : ∀ {l : List Nat}, l.Nodup → ∀ {r0 : Nat}, r0 ∈ l → ∀ {f : Nat → Bool}, (∀ r ∈ l, f r = decide (r = r0)) → l.filter f = [r0]
  | [], _, _, h0, _, _ => by cases h0
  | a :: l, hn, r0, h0, f, h => by
    obtain ⟨n1, n2⟩ := List.nodup_cons.mp hn
    have ha := h a List.mem_cons_self
    have ht : ∀ r ∈ l, f r = decide (r = r0) := fun r hr => h r (List.mem_cons_of_mem _ hr)
    by_cases z : a = r0
    · subst z
      rw [List.filter_cons, if_pos (by rw [ha]; simp), filt_none n1 ht]
    · rw [List.filter_cons, if_neg (by rw [ha]; simpa using z)]
      exact filt_one n2 ((List.mem_cons.mp h0).resolve_left fun q => z q.symm) ht
theorem filt_less : ∀ {l : List Nat}, l.Nodup → ∀ {r0 : Nat}, r0 ∈ l → ∀ {f g : Nat → Bool}, f r0 = true → (∀ r ∈ l, g r = (f r && decide (r ≠ r0))) → (l.filter g).length + 1 = (l.filter f).length
  | [], _, _, h0, _, _, _, _ => by cases h0
  | a :: l, hn, r0, h0, f, g, hf, h => by
    obtain ⟨n1, n2⟩ := List.nodup_cons.mp hn
    have ha := h a List.mem_cons_self
    have ht : ∀ r ∈ l, g r = (f r && decide (r ≠ r0)) := fun r hr => h r (List.mem_cons_of_mem _ hr)
    by_cases z : a = r0
    · subst z
      have e : l.filter g = l.filter f := by
        refine List.filter_congr fun r hr => ?_
        rw [ht r hr]
        have : r ≠ a := fun q => n1 (q ▸ hr)
        simp [this]
      rw [List.filter_cons, if_neg (by rw [ha]; simp), List.filter_cons, if_pos hf, e]; rfl
    · have ih := filt_less n2 ((List.mem_cons.mp h0).resolve_left fun q => z q.symm) hf ht
      have e : g a = f a := by rw [ha]; simp [z]
      rw [List.filter_cons, List.filter_cons, e]
      split
      · simp only [List.length_cons]; omega
      · exact ih
section
variable {m : Nat} {rs : List Road}
theorem reps_nodup (k : Nat) : (repsL m rs k).Nodup := by unfold repsL; exact List.nodup_range.filter _
/-- each place is in just one part -/
theorem parts_one (hw : WebOk m rs) {p : Nat} (hp : p < m) : ((partsL m rs).filter fun c => decide (p ∈ c)).length = 1 := by
  obtain ⟨r, h1, h2, h3⟩ := rep_ex hw p hp
  unfold partsL
  rw [List.filter_map, List.length_map]
  rw [filt_one (reps_nodup m) (r0 := r) (mem_reps.mpr ⟨by omega, h2⟩) fun q hq => ?_]
  · rfl
  · obtain ⟨q1, q2⟩ := mem_reps.mp hq
    show decide (p ∈ cls m rs q) = _
    refine decide_eq_decide.mpr ⟨fun z => ?_, fun z => ?_⟩
    · have hc := (mem_cls.mp z).2
      exact rep_uniq q2 h2 (con_trans hw hp hc h3)
    · subst z
      exact mem_cls.mpr ⟨hp, con_symm.trans h3⟩
/-- two places have a way just if a part has both -/
theorem parts_both (hw : WebOk m rs) {a b : Nat} (ha : a < m) (hb : b < m) : ((partsL m rs).filter fun c => decide (a ∈ c) && decide (b ∈ c)) = [] ↔ con m rs a b = false := by
  rw [List.filter_eq_nil_iff]
  refine ⟨fun h => ?_, fun h c hc => ?_⟩
  · obtain ⟨r, h1, h2, h3⟩ := rep_ex hw a ha
    have := h (cls m rs r) (List.mem_map.mpr ⟨r, mem_reps.mpr ⟨by omega, h2⟩, rfl⟩)
    cases e : con m rs a b with
    | false => rfl
    | true =>
      refine absurd ?_ this
      have k1 : a ∈ cls m rs r := mem_cls.mpr ⟨ha, con_symm.trans h3⟩
      have k2 : b ∈ cls m rs r := mem_cls.mpr ⟨hb, con_trans hw ha (con_symm.trans h3) e⟩
      simp [k1, k2]
  · obtain ⟨r, hr, rfl⟩ := List.mem_map.mp hc
    intro z
    simp only [Bool.and_eq_true, decide_eq_true_eq] at z
    obtain ⟨z1, z2⟩ := z
    obtain ⟨q1, q2⟩ := mem_reps.mp hr
    have := con_trans hw q1 (con_symm.trans (mem_cls.mp z1).2) (mem_cls.mp z2).2
    rw [h] at this; cases this
end

/-! ### one road more -/
/-- a joined to b, of an equivalence -/
def joinR (m : Nat) (C : Nat → Nat → Prop) (o t a b : Nat) : Prop := a = b ∨ (a < m ∧ b < m ∧ (C a b ∨ (C a o ∧ C t b) ∨ (C a t ∧ C o b)))
section
variable {m : Nat} {C : Nat → Nat → Prop} {o t : Nat}
theorem joinR_symm (hs : ∀ a b, C a b → C b a) {a b : Nat} (h : joinR m C o t a b) : joinR m C o t b a := by
  rcases h with rfl | ⟨ha, hb, h | ⟨h1, h2⟩ | ⟨h1, h2⟩⟩
  · exact .inl rfl
  · exact .inr ⟨hb, ha, .inl (hs _ _ h)⟩
  · exact .inr ⟨hb, ha, .inr (.inr ⟨hs _ _ h2, hs _ _ h1⟩)⟩
  · exact .inr ⟨hb, ha, .inr (.inl ⟨hs _ _ h2, hs _ _ h1⟩)⟩
theorem joinR_trans (ho : o < m) (ht : t < m) (hs : ∀ a b, C a b → C b a) (hc : ∀ a b c, b < m → C a b → C b c → C a c) {a b c : Nat} (h : joinR m C o t a b) (k : joinR m C o t b c) : joinR m C o t a c := by
  rcases h with rfl | ⟨ha, hb, h⟩
  · exact k
  rcases k with rfl | ⟨_, hc', k⟩
  · exact .inr ⟨ha, hb, h⟩
  refine .inr ⟨ha, hc', ?_⟩
  rcases h with h | ⟨h1, h2⟩ | ⟨h1, h2⟩ <;> rcases k with k | ⟨k1, k2⟩ | ⟨k1, k2⟩
  · exact .inl (hc _ _ _ hb h k)
  · exact .inr (.inl ⟨hc _ _ _ hb h k1, k2⟩)
  · exact .inr (.inr ⟨hc _ _ _ hb h k1, k2⟩)
  · exact .inr (.inl ⟨h1, hc _ _ _ hb h2 k⟩)
  · exact .inr (.inl ⟨h1, k2⟩)
  · exact .inl (hc _ _ _ ho h1 k2)
  · exact .inr (.inr ⟨h1, hc _ _ _ hb h2 k⟩)
  · exact .inl (hc _ _ _ ht h1 k2)
  · exact .inr (.inr ⟨h1, k2⟩)
end
section
variable {m : Nat} {rs rs' : List Road} {q : Road} {o t : Nat}
theorem con_more (hw : WebOk m rs) (hw' : WebOk m rs') (hm : ∀ r, r ∈ rs' ↔ r ∈ rs ∨ r = q) (hq : Ends q o t) (ho : o < m) (ht : t < m) {a b : Nat} (ha : a < m) (hb : b < m) :
    con m rs' a b = true ↔ con m rs a b = true ∨ (con m rs a o = true ∧ con m rs t b = true) ∨ (con m rs a t = true ∧ con m rs o b = true) := by
  have up : ∀ a b, a < m → b < m → con m rs a b = true → con m rs' a b = true := fun a b ha hb h => by
    have := con_least (m := m) (rs := rs) (R := fun a b => a = b ∨ (a < m ∧ b < m ∧ con m rs' a b = true)) (fun a => .inl rfl) (fun a b h => h.elim (fun z => .inl z.symm) fun z => .inr ⟨z.2.1, z.1, con_symm.trans z.2.2⟩)
      (fun a b c h k => by
        rcases h with rfl | ⟨h1, h2, h3⟩
        · exact k
        rcases k with rfl | ⟨k1, k2, k3⟩
        · exact .inr ⟨h1, h2, h3⟩
        · exact .inr ⟨h1, k2, con_trans hw' h2 h3 k3⟩)
      (fun r hr => .inr ⟨by have := hw.road r hr; omega, (hw.road r hr).2.1, con_road hw' ((hm r).mpr (.inl hr))⟩) h
    rcases this with rfl | ⟨_, _, z⟩
    · exact con_refl hw' ha
    · exact z
  have hot : con m rs' o t = true := by
    have := con_road hw' ((hm q).mpr (.inr rfl))
    rcases hq with ⟨rfl, rfl⟩ | ⟨rfl, rfl⟩
    · exact this
    · exact con_symm.trans this
  refine ⟨fun h => ?_, fun h => ?_⟩
  · have := con_least (m := m) (rs := rs') (R := joinR m (fun a b => con m rs a b = true) o t) (fun a => .inl rfl) (fun a b h => joinR_symm (C := fun a b => con m rs a b = true) (fun a b h => con_symm.trans h) h)
      (fun a b c h k => joinR_trans (C := fun a b => con m rs a b = true) ho ht (fun a b h => con_symm.trans h) (fun a b c hb h k => con_trans hw hb h k) h k)
      (fun r hr => by
        rcases (hm r).mp hr with hr | rfl
        · exact .inr ⟨by have := hw.road r hr; omega, (hw.road r hr).2.1, .inl (con_road hw hr)⟩
        · rcases hq with ⟨rfl, rfl⟩ | ⟨rfl, rfl⟩
          · exact .inr ⟨ho, ht, .inr (.inl ⟨con_refl hw ho, con_refl hw ht⟩)⟩
          · exact .inr ⟨ht, ho, .inr (.inr ⟨con_refl hw ht, con_refl hw ho⟩)⟩) h
    rcases this with rfl | ⟨_, _, z⟩
    · exact .inl (con_refl hw ha)
    · exact z
  · rcases h with h | ⟨h1, h2⟩ | ⟨h1, h2⟩
    · exact up _ _ ha hb h
    · exact con_trans hw' ho (up _ _ ha ho h1) (con_trans hw' ht hot (up _ _ ht hb h2))
    · exact con_trans hw' ht (up _ _ ha ht h1) (con_trans hw' ho (con_symm.trans hot) (up _ _ ho hb h2))
theorem reps_join (hw : WebOk m rs) {lo hi : Nat} (hl : lo < hi) (hh : hi < m) (r1 : rep m rs lo = true) (r2 : rep m rs hi = true) (hc : ∀ a b, a < m → b < m → (con m rs' a b = true ↔ con m rs a b = true ∨ (con m rs a lo = true ∧ con m rs hi b = true) ∨ (con m rs a hi = true ∧ con m rs lo b = true))) :
    (repsL m rs' m).length + 1 = (repsL m rs m).length := by
  refine filt_less List.nodup_range (List.mem_range.mpr hh) r2 fun p hp => ?_
  have hp := List.mem_range.mp hp
  have key : rep m rs' p = true ↔ rep m rs p = true ∧ p ≠ hi := by
    refine ⟨fun h => ⟨rep_iff.mpr fun q hq => ?_, fun z => ?_⟩, fun ⟨h1, h2⟩ => rep_iff.mpr fun q hq => ?_⟩
    · cases e : con m rs p q with
      | false => rfl
      | true => have := rep_iff.mp h q hq; rw [(hc p q hp (by omega)).mpr (.inl e)] at this; cases this
    · subst z
      have := rep_iff.mp h lo hl
      rw [(hc p lo hp (by omega)).mpr (.inr (.inr ⟨con_refl hw hh, con_refl hw (by omega)⟩))] at this; cases this
    · cases e : con m rs' p q with
      | false => rfl
      | true =>
        rcases (hc p q hp (by omega)).mp e with h | ⟨k1, k2⟩ | ⟨k1, k2⟩
        · have := rep_iff.mp h1 q hq; rw [h] at this; cases this
        · have := rep_uniq h1 r1 k1
          subst this
          have := rep_iff.mp r2 q (by omega)
          rw [k2] at this; cases this
        · exact absurd (rep_uniq h1 r2 k1) h2
  cases e : rep m rs' p with
  | true => obtain ⟨k1, k2⟩ := key.mp e; rw [k1]; simp [k2]
  | false =>
    cases e2 : rep m rs p with
    | false => rfl
    | true =>
      by_cases z : p = hi
      · simp [z]
      · rw [key.mpr ⟨e2, z⟩] at e; cases e
theorem parts_more (hw : WebOk m rs) (hw' : WebOk m rs') (hm : ∀ r, r ∈ rs' ↔ r ∈ rs ∨ r = q) (hq : Ends q o t) (ho : o < m) (ht : t < m) :
    ((partsL m rs').length : Int) = (partsL m rs).length - if DF m rs o t = none then 1 else 0 := by
  have hcm := fun a b (ha : a < m) (hb : b < m) => con_more hw hw' hm hq ho ht ha hb
  unfold partsL
  rw [List.length_map, List.length_map]
  cases e : DF m rs o t with
  | some v =>
    have hot : con m rs o t = true := by unfold con; rw [e]; rfl
    rw [if_neg (by simp)]
    have : repsL m rs' m = repsL m rs m := by
      refine List.filter_congr fun p hp => ?_
      have hp := List.mem_range.mp hp
      have hcc : ∀ q, q < m → con m rs' p q = con m rs p q := fun q hq => by
        cases e1 : con m rs p q with
        | true => exact (hcm p q hp hq).mpr (.inl e1)
        | false =>
          cases e2 : con m rs' p q with
          | false => rfl
          | true =>
            rcases (hcm p q hp hq).mp e2 with h | ⟨k1, k2⟩ | ⟨k1, k2⟩
            · rw [e1] at h; cases h
            · rw [con_trans hw ho k1 (con_trans hw ht hot k2)] at e1; cases e1
            · rw [con_trans hw ht k1 (con_trans hw ho (con_symm.trans hot) k2)] at e1; cases e1
      unfold rep
      rw [Bool.eq_iff_iff, List.all_eq_true, List.all_eq_true]
      exact ⟨fun h x hx => by have := h x hx; rwa [hcc x (by have := List.mem_range.mp hx; omega)] at this, fun h x hx => by rw [hcc x (by have := List.mem_range.mp hx; omega)]; exact h x hx⟩
    rw [this]; omega
  | none =>
    have hot : con m rs o t = false := by unfold con; rw [e]; rfl
    rw [if_pos rfl]
    obtain ⟨ro, o1, o2, o3⟩ := rep_ex hw o ho
    obtain ⟨rt, t1, t2, t3⟩ := rep_ex hw t ht
    have hne : ro ≠ rt := fun z => by
      subst z
      rw [con_trans hw (by omega) o3 (con_symm.trans t3)] at hot; cases hot
    have eo : ∀ x, con m rs o x = con m rs ro x := con_congr hw ho (by omega) o3
    have et : ∀ x, con m rs t x = con m rs rt x := con_congr hw ht (by omega) t3
    have eo' : ∀ x, con m rs x o = con m rs x ro := fun x => by rw [con_symm, eo, con_symm]
    have et' : ∀ x, con m rs x t = con m rs x rt := fun x => by rw [con_symm, et, con_symm]
    have := (by
      rcases Nat.lt_or_ge ro rt with z | z
      · refine reps_join (rs' := rs') hw z (by omega) o2 t2 fun a b ha hb => ?_
        rw [hcm a b ha hb, eo, et, eo', et']
      · refine reps_join (rs' := rs') hw (lo := rt) (hi := ro) (by omega) (by omega) t2 o2 fun a b ha hb => ?_
        rw [hcm a b ha hb, eo, et, eo', et']
        exact or_congr Iff.rfl or_comm : (repsL m rs' m).length + 1 = (repsL m rs m).length)
    omega
end
end Ev

set_option maxRecDepth 100000
/-! Pl12: tuples of places; equal values; draws in a comprehension's test; sorted roads -/
namespace Ev
open PySem (Str)
theorem ev_lrng' {cl : Cl} {env : Env} {A : AH} (a : E) : ev cl (.lrng a) env A = bnd (ev cl a env A) fun x A => match x with
    | .int j => if rngOk j ∧ j ≤ lim then .ok (.lst (upto 0 j.toNat)) A else .bad
    | _ => .bad := (Eq.refl _).trans rfl
@[simp] theorem shal_non (A : AH) : shal A .non = .non := (Eq.refl _).trans rfl
theorem oD_some (i : Int) : oD (some i) = .int i := (Eq.refl _).trans rfl
theorem oD_none : oD none = .non := (Eq.refl _).trans rfl
def natD (ks : List Nat) : D := .tup (ks.map fun k : Nat => .int k)
theorem eqvs_nats : ∀ a b : List Nat, D.eqvs (a.map fun k : Nat => D.int k) (b.map fun k : Nat => D.int k) = decide (a = b)
  | [], [] => by simp [D.eqvs]
  | [], _ :: _ => by simp [D.eqvs]
  | _ :: _, [] => by simp [D.eqvs]
  | x :: a, y :: b => by
    simp only [List.map_cons, D.eqvs, eqvs_nats a b, D.eqv]
    by_cases h : x = y
    · simp [h]
    · have : ¬ ((x : Int) = (y : Int)) := by omega
      simp [h, this]
theorem flat_nats (k : Nat) (a : List Nat) : D.flatNs k (a.map fun k : Nat => D.int k) = true := flatNs_of fun x hx => by
  obtain ⟨n, _, rfl⟩ := List.mem_map.mp hx; cases k <;> rfl
theorem flat_natD (k : Nat) (a : List Nat) : D.flatN (k + 1) (natD a) = true := by simp only [natD, D.flatN]; exact flat_nats k a
theorem eqv_natD (a b : List Nat) : D.eqv (natD a) (natD b) = decide (a = b) := by simp only [natD, D.eqv]; exact eqvs_nats a b
theorem pu_nats (k : Nat) (a : List Nat) : D.pus (k + 1) (a.map fun k : Nat => D.int k) = true := pus_of fun x hx => by
  obtain ⟨n, _, rfl⟩ := List.mem_map.mp hx; rfl
theorem pu_natD (k : Nat) (a : List Nat) : D.pu (k + 2) (natD a) = true := by simp only [natD, D.pu]; exact pu_nats k a
/-- a place among places -/
theorem in_natD (A : AH) (p : Nat) (a : List Nat) : inO A (.int p) (natD a) = some (decide (p ∈ a)) := by
  have e : (a.map fun k : Nat => D.int k).any (fun y => D.eqv y (.int p)) = decide (p ∈ a) := by
    induction a with
    | nil => simp
    | cons x a ih =>
      simp only [List.map_cons, List.any_cons, ih, D.eqv]
      by_cases h : p = x
      · simp [h]
      · have : ¬ ((x : Int) = (p : Int)) := by omega
        simp [h, this]
  show (if (D.flatN 60 (.int p) && D.flatN 60 (natD a)) = true then some ((a.map fun k : Nat => D.int k).any fun y => D.eqv y (.int p)) else none) = _
  rw [flat_natD, e]; rfl
theorem any_natD (k : List Nat) (L : List (List Nat)) : (L.map natD).any (fun y => D.eqv y (natD k)) = decide (k ∈ L) := by
  induction L with
  | nil => simp
  | cons x L ih =>
    simp only [List.map_cons, List.any_cons, ih, eqv_natD]
    by_cases h : k = x
    · simp [h]
    · have : ¬ x = k := fun z => h z.symm
      simp [h, this]
theorem flat_natDs (k : Nat) (L : List (List Nat)) : D.flatNs (k + 1) (L.map natD) = true := flatNs_of fun x hx => by
  obtain ⟨n, _, rfl⟩ := List.mem_map.mp hx; exact flat_natD k n
theorem in_lstN (A : AH) (k : List Nat) (L : List (List Nat)) : inO A (natD k) (.lst (L.map natD)) = some (decide (k ∈ L)) := by
  show (if (D.flatN 60 (natD k) && D.flatN 60 (.lst (L.map natD))) = true then some ((L.map natD).any fun y => D.eqv y (natD k)) else none) = _
  have e : D.flatN 60 (.lst (L.map natD)) = true := by simp only [D.flatN]; exact flat_natDs 58 L
  rw [flat_natD, any_natD, e]; rfl
/-! ### a value is itself -/
mutual
theorem eqv_refl : ∀ (n : Nat) (d : D), D.flatN n d = true → D.eqv d d = true
  | n, d, h => by
    cases d with
    | non => simp [D.eqv]
    | bl b => simp [D.eqv]
    | int i => simp [D.eqv]
    | str s => simp [D.eqv]
    | tup xs =>
      cases n with
      | zero => simp [D.flatN] at h
      | succ n => simp only [D.flatN] at h; simp only [D.eqv]; exact eqvs_refl n xs h
    | lst xs =>
      cases n with
      | zero => simp [D.flatN] at h
      | succ n => simp only [D.flatN] at h; simp only [D.eqv]; exact eqvs_refl n xs h
    | _ => cases n <;> simp [D.flatN] at h
theorem eqvs_refl : ∀ (n : Nat) (xs : List D), D.flatNs n xs = true → D.eqvs xs xs = true
  | n, [], _ => by simp [D.eqvs]
  | n, x :: xs, h => by
    simp only [D.flatNs, Bool.and_eq_true] at h
    simp only [D.eqvs, eqv_refl n x h.1, eqvs_refl n xs h.2, Bool.and_self]
end
theorem shal_flat {A : AH} {n : Nat} {d : D} (h : D.flatN n d = true) : shal A d = d := by cases d <;> first | rfl | (cases n <;> simp [D.flatN] at h)
theorem eqS_refl {A : AH} {d : D} (h : D.flatN 60 d = true) : eqS A d d = some true := by
  have e : eqO A d d = some true := by
    unfold eqO
    simp only [shal_flat h, h, Bool.and_self, if_true, eqv_refl 60 d h]
  cases d with
  | str s => show some (s == s) = _; simp
  | _ => exact e
theorem eq_refl {A : AH} {d : D} (h : D.flatN 60 d = true) : cmpO A .eq d d = some true := eqS_refl h
theorem ne_refl {A : AH} {d : D} (h : D.flatN 60 d = true) : cmpO A .ne d d = some false := by
  show (eqS A d d).map _ = _
  rw [eqS_refl h]; rfl
@[simp] theorem eq_str (A : AH) (a b : Str) : cmpO A .eq (.str a) (.str b) = some (a == b) := (Eq.refl _).trans rfl
@[simp] theorem ne_str (A : AH) (a b : Str) : cmpO A .ne (.str a) (.str b) = some (!(a == b)) := (Eq.refl _).trans rfl
theorem eqvs_nil (xs : List D) : D.eqvs xs [] = xs.isEmpty := by cases xs <;> simp [D.eqvs]
theorem eq_nil {A : AH} {xs : List D} (h : D.flatNs 59 xs = true) : cmpO A .eq (.lst xs) (.lst []) = some xs.isEmpty := by
  show eqO A (.lst xs) (.lst []) = _
  unfold eqO
  simp only [shal_lst, D.flatN, h, D.flatNs, Bool.and_self, if_true, D.eqv, eqvs_nil]
theorem ne_nil {A : AH} {xs : List D} (h : D.flatNs 59 xs = true) : cmpO A .ne (.lst xs) (.lst []) = some (!xs.isEmpty) := by
  have e : eqO A (.lst xs) (.lst []) = some xs.isEmpty := eq_nil h
  show (eqO A _ _).map _ = _
  rw [e]; rfl
@[simp] theorem ne_nil0 {A : AH} : cmpO A .ne (.lst []) (.lst []) = some false := ne_nil (by simp [D.flatNs])
@[simp] theorem eq_nil0 {A : AH} : cmpO A .eq (.lst []) (.lst []) = some true := eq_nil (by simp [D.flatNs])
theorem flat_rD (k : Nat) (r : Road) : D.flatN (k + 1) (rD r) = true := by
  simp only [rD, D.flatN, D.flatNs, Bool.and_true]
theorem flat_rDs (k : Nat) (rs : List Road) : D.flatNs (k + 1) (rs.map rD) = true := flatNs_of fun x hx => by
  obtain ⟨n, _, rfl⟩ := List.mem_map.mp hx; exact flat_rD k n
theorem flat_oD (k : Nat) (o : Option Int) : D.flatN k (oD o) = true := by cases o <;> cases k <;> rfl
@[simp] theorem cmp_bool_ne (A : AH) (a b : Bool) : cmpO A .ne (.bl a) (.bl b) = some (a != b) := by
  show (eqO A (.bl a) (.bl b)).map _ = _
  cases a <;> cases b <;> rfl
/-! ### draws in a test -/
section
variable {cl : Cl} {env : Env} {A A1 : AH} {own : List Nat} {tg : T} {it : I} {cs : Es} {e : E}
theorem compL_sub {as : D → Env → AH → Res Env} {cs : Env → AH → Res Bool} {ef : Env → AH → Res D} {env : Env} {α : Type} {f : α → D} {Inv : AH → Prop} : ∀ {xs : List α} {A : AH}, Inv A → (∀ x ∈ xs, ∀ A, Inv A → ∃ env1 b A1, as (f x) env A = .ok env1 A ∧ cs env1 A = .ok b A1 ∧ Inv A1 ∧ ef env1 A1 = .ok (f x) A1) →
    ∃ (ys : List α) (A' : AH), compL as cs ef env (xs.map f) A = .ok (ys.map f) A' ∧ Inv A' ∧ ys.Sublist xs
  | [], A, hA, _ => ⟨[], A, rfl, hA, .slnil⟩
  | x :: xs, A, hA, h => by
    obtain ⟨env1, b, A1, h1, h2, h3, h4⟩ := h x List.mem_cons_self A hA
    obtain ⟨ys, A', k1, k2, k3⟩ := compL_sub (xs := xs) h3 fun x hx => h x (List.mem_cons_of_mem _ hx)
    cases b with
    | true => exact ⟨x :: ys, A', by simp only [List.map_cons, compL, h1, bnd_ok, h2, if_true, h4, k1], k2, k3.cons_cons _⟩
    | false => exact ⟨ys, A', by simp only [List.map_cons, compL, h1, bnd_ok, h2, Bool.false_eq_true, if_false, k1], k2, k3.cons _⟩
theorem cmp_sub {α : Type} {f : α → D} {Inv : AH → Prop} {xs : List α} (hi : evi cl it env A = .ok (xs.map f) A1) (hl : xs.length ≤ 100000) (hA : Inv A1)
    (h : ∀ x ∈ xs, ∀ A, Inv A → ∃ env1 b A1, asg cl tg (f x) (wipe env own) A = .ok env1 A ∧ evt cl cs env1 A = .ok b A1 ∧ Inv A1 ∧ ev cl e env1 A1 = .ok (f x) A1) :
    ∃ (ys : List α) (A' : AH), ev cl (.comp false own tg it cs e) env A = .ok (.lst (ys.map f)) A' ∧ Inv A' ∧ ys.Sublist xs := by
  obtain ⟨ys, A', k1, k2, k3⟩ := compL_sub (as := fun d => asg cl tg d) (cs := fun env A => evt cl cs env A) (ef := fun env A => ev cl e env A) (env := wipe env own) (f := f) (Inv := Inv) hA h
  refine ⟨ys, A', ?_, k2, k3⟩
  rw [ev_comp, hi]
  simp only [bnd_ok]
  rw [k1]
  simp only [calm_ok, bnd_ok, List.length_map]
  rw [if_pos (Nat.le_trans k3.length_le (Nat.le_trans hl (by decide)))]
  rfl
/-- a test that keeps some -/
theorem cmp_filt {α : Type} {f g : α → D} {p : α → Bool} {xs : List α} (hi : evi cl it env A = .ok (xs.map f) A1) (hl : xs.length ≤ 100000)
    (h : ∀ x ∈ xs, ∃ env1, asg cl tg (f x) (wipe env own) A1 = .ok env1 A1 ∧ evt cl cs env1 A1 = .ok (p x) A1 ∧ (p x = true → ev cl e env1 A1 = .ok (g x) A1)) :
    ev cl (.comp false own tg it cs e) env A = .ok (.lst ((xs.filter p).map g)) A1 := by
  have e0 : (xs.filter p).map g = xs.filterMap fun x => if p x = true then some (g x) else none := by
    clear hi hl h
    induction xs with
    | nil => rfl
    | cons x xs ih =>
      by_cases hx : p x = true
      · rw [List.filter_cons, if_pos hx, List.filterMap_cons, if_pos hx, List.map_cons, ih]
      · rw [List.filter_cons, if_neg hx, List.filterMap_cons, if_neg hx, ih]
  rw [e0]
  refine cmp_fm (f := f) hi hl fun x hx => ?_
  obtain ⟨env1, h1, h2, h3⟩ := h x hx
  refine ⟨env1, h1, ?_⟩
  cases hp : p x with
  | true => exact .inl ⟨by rw [h2, hp], _, h3 hp, by simp⟩
  | false => exact .inr ⟨by rw [h2, hp], by simp⟩
end
/-! ### roads, sorted -/
def keyR (r : Road) : List Int := [(r.1 : Int), r.2.1, r.2.2]
theorem tupD_keyR (r : Road) : tupD (keyR r) = rD r := rfl
theorem keysT_roads : ∀ rs : List Road, keysT (rs.map rD) = some (rs.map keyR)
  | [] => rfl
  | r :: rs => by
    simp only [List.map_cons, rD, keysT, intsO, Option.map_some, keysT_roads rs]
    rfl
def unkey : List Int → Road
  | [a, b, c] => (a.toNat, b.toNat, c.toNat)
  | _ => (0, 0, 0)
theorem unkey_key (r : Road) : unkey (keyR r) = r := by
  obtain ⟨a, b, c⟩ := r
  simp [unkey, keyR]
theorem sortR (rs : List Road) : ∃ rs' : List Road, sortK (rs.map keyR) = rs'.map keyR ∧ rs'.Perm rs := by
  have p := sortK_perm (rs.map keyR)
  refine ⟨(sortK (rs.map keyR)).map unkey, ?_, ?_⟩
  · rw [List.map_map]
    have : ∀ x ∈ sortK (rs.map keyR), x = (keyR ∘ unkey) x := fun x hx => by
      obtain ⟨r, _, rfl⟩ := List.mem_map.mp (p.mem_iff.mp hx)
      show _ = keyR (unkey (keyR r))
      rw [unkey_key]
    conv => lhs; rw [← List.map_id (sortK (rs.map keyR))]
    exact List.map_congr_left this
  · have := p.map unkey
    rw [List.map_map] at this
    have e : rs.map (unkey ∘ keyR) = rs := by
      conv => rhs; rw [← List.map_id rs]
      exact List.map_congr_left fun r _ => unkey_key r
    rwa [e] at this
theorem sortR_ok {m : Nat} {rs rs' : List Road} (h1 : 1 ≤ m) (h2 : m ≤ 9) (h3 : rs.length ≤ 20) (h4 : ∀ r ∈ rs, r.1 < r.2.1 ∧ r.2.1 < m ∧ 1 ≤ r.2.2 ∧ r.2.2 ≤ 99) (hu : Uniq rs) (hs : sortK (rs.map keyR) = rs'.map keyR) (hp : rs'.Perm rs) : WebOk m rs' := by
  refine ⟨h1, h2, by rw [hp.length_eq]; exact h3, fun r hr => h4 r (hp.mem_iff.mp hr), ?_⟩
  have k := sortK_srt (rs.map keyR)
  rw [hs] at k
  have k := List.pairwise_map.mp k
  have u : Uniq rs' := (hp.pairwise_iff (fun {a b} h => by omega)).mpr hu
  refine (k.and u).imp fun {a b} h => ?_
  obtain ⟨x, y⟩ := h
  simp only [keyR, lexLt] at x
  split at x
  · split at x
    · omega
    · rw [decide_eq_false_iff_not] at x; omega
  · rw [decide_eq_false_iff_not] at x; omega
theorem uniq_snoc {rs : List Road} {r : Road} (h : Uniq rs) (hr : ∀ q ∈ rs, ¬ (q.1 = r.1 ∧ q.2.1 = r.2.1)) : Uniq (rs ++ [r]) := by
  refine List.pairwise_append.mpr ⟨h, by simp, fun q hq x hx => ?_⟩
  simp at hx; subst hx
  exact hr q hq
end Ev

set_option maxRecDepth 100000
/-! Pl13: errors that leave; dicts of roads; reprs -/
namespace Ev
open PySem (Str)
@[simp] theorem fnEnd_exc (m : Bool) (A A' : AH) (c : Nat) (d : D) : fnEnd m A (.exc c d A') = finX m A c d A' := (Eq.refl _).trans rfl
theorem finX_pu {A E : AH} {c : Nat} {d : D} (h : D.pu 8 d = true) : finX true A c d (A ++ E) = .exc c d A := by
  unfold finX
  rw [if_pos rfl, fz_pu 8 d h]
  simp [oldOk_refl]
theorem finX_pu0 {A : AH} {c : Nat} {d : D} (h : D.pu 8 d = true) : finX true A c d A = .exc c d A := by
  have := finX_pu (A := A) (E := []) (c := c) h
  rwa [List.append_nil] at this
mutual
theorem pu_noX : ∀ {k : Nat} {d : D}, D.pu k d = true → D.noX d = true
  | 0, d, h => by simp [D.pu] at h
  | k + 1, d, h => by
    cases d with
    | tup xs => simp only [D.pu] at h; simp only [D.noX]; exact pus_noX h
    | lst xs => simp only [D.pu] at h; simp only [D.noX]; exact pus_noX h
    | kl xs => simp only [D.pu] at h; simp only [D.noX]; exact pus_noX h
    | dk _ xs => simp only [D.pu] at h; simp only [D.noX]; exact pus_noX h
    | dt _ xs => simp only [D.pu] at h; simp only [D.noX]; exact pus_noX h
    | exn _ _ => simp [D.pu] at h
    | _ => rfl
theorem pus_noX : ∀ {k : Nat} {xs : List D}, D.pus k xs = true → D.noXs xs = true
  | k, [], h => rfl
  | k, x :: xs, h => by
    simp only [D.pus, Bool.and_eq_true] at h
    simp only [D.noXs, Bool.and_eq_true]
    exact ⟨pu_noX h.1, pus_noX h.2⟩
end
mutual
theorem pu_mono : ∀ {k : Nat} {d : D}, D.pu k d = true → D.pu (k + 1) d = true
  | 0, d, h => by simp [D.pu] at h
  | k + 1, d, h => by
    cases d with
    | tup xs => simp only [D.pu] at h ⊢; exact pus_mono h
    | lst xs => simp only [D.pu] at h ⊢; exact pus_mono h
    | kl xs => simp only [D.pu] at h ⊢; exact pus_mono h
    | dk _ xs => simp only [D.pu] at h ⊢; exact pus_mono h
    | dt _ xs => simp only [D.pu] at h ⊢; exact pus_mono h
    | exn _ _ => simp [D.pu] at h
    | ref _ => simp [D.pu] at h
    | _ => rfl
theorem pus_mono : ∀ {k : Nat} {xs : List D}, D.pus k xs = true → D.pus (k + 1) xs = true
  | k, [], h => by simp [D.pus]
  | k, x :: xs, h => by
    simp only [D.pus, Bool.and_eq_true] at h ⊢
    exact ⟨pu_mono h.1, pus_mono h.2⟩
end
theorem pu_le {k l : Nat} {d : D} (h : k ≤ l) (p : D.pu k d = true) : D.pu l d = true := by
  induction l with
  | zero => rw [Nat.le_zero] at h; subst h; exact p
  | succ l ih =>
    by_cases e : k = l + 1
    · subst e; exact p
    · exact pu_mono (ih (by omega))
/-! ### a dict from pairs of places to lengths -/
def kR (r : Road) : List Key := [.inl (r.1 : Int), .inl (r.2.1 : Int)]
def vR (r : Road) : D := .int r.2.2
def dO (rs : List Road) : O := .dt (rs.map kR) (rs.map vR)
def dD (rs : List Road) : D := .dt (rs.map kR) (rs.map vR)
theorem kR_eq {q r : Road} : kR q = kR r ↔ q.1 = r.1 ∧ q.2.1 = r.2.1 := by
  simp only [kR, List.cons.injEq, Sum.inl.injEq, and_true]
  omega
def sameR (r q : Road) : Bool := decide (q.1 = r.1 ∧ q.2.1 = r.2.1)
def putR (rs : List Road) (r : Road) : List Road := if rs.any (sameR r) = true then rs.map (fun q => if sameR r q = true then r else q) else rs ++ [r]
theorem any_key (rs : List Road) (r : Road) : (kR r ∈ rs.map kR) ↔ rs.any (sameR r) = true := by
  rw [List.mem_map, List.any_eq_true]
  constructor
  · rintro ⟨q, hq, e⟩; exact ⟨q, hq, decide_eq_true (kR_eq.mp e)⟩
  · rintro ⟨q, hq, e⟩; exact ⟨q, hq, kR_eq.mpr (of_decide_eq_true e)⟩
theorem dsub_map (r : Road) : ∀ rs : List Road, dsub (kR r) (vR r) (rs.map kR) (rs.map vR) = (rs.map fun q => if sameR r q = true then r else q).map vR
  | [] => rfl
  | q :: rs => by
    simp only [List.map_cons, dsub, dsub_map r rs]
    congr 1
    by_cases h : kR q = kR r
    · have e : sameR r q = true := decide_eq_true (kR_eq.mp h)
      rw [if_pos h, if_pos e]
    · rw [if_neg h, if_neg (by unfold sameR; rw [decide_eq_true_eq]; exact fun z => h (kR_eq.mpr z))]
theorem putR_k (rs : List Road) (r : Road) : dputK (kR r) (rs.map kR) = (putR rs r).map kR := by
  unfold dputK putR
  by_cases h : rs.any (sameR r) = true
  · rw [if_pos ((any_key rs r).mpr h), if_pos h, List.map_map]
    refine List.map_congr_left fun q _ => ?_
    show kR q = kR (if sameR r q = true then r else q)
    split
    · rename_i e; exact kR_eq.mpr (of_decide_eq_true e)
    · rfl
  · rw [if_neg (fun z => h ((any_key rs r).mp z)), if_neg h, List.map_append]; rfl
theorem putR_v (rs : List Road) (r : Road) : dputV (kR r) (vR r) (rs.map kR) (rs.map vR) = (putR rs r).map vR := by
  unfold dputV putR
  by_cases h : rs.any (sameR r) = true
  · rw [if_pos ((any_key rs r).mpr h), if_pos h, dsub_map]
  · rw [if_neg (fun z => h ((any_key rs r).mp z)), if_neg h, List.map_append]; rfl
theorem putR_mem {rs : List Road} {r q : Road} (h : q ∈ putR rs r) : q = r ∨ q ∈ rs := by
  unfold putR at h
  split at h
  · obtain ⟨p, hp, e⟩ := List.mem_map.mp h
    split at e
    · exact .inl e.symm
    · exact .inr (e ▸ hp)
  · rcases List.mem_append.mp h with h | h
    · exact .inr h
    · exact .inl (by simpa using h)
theorem putR_len (rs : List Road) (r : Road) : (putR rs r).length ≤ rs.length + 1 := by
  unfold putR; split <;> simp
theorem putR_uniq {rs : List Road} {r : Road} (h : Uniq rs) : Uniq (putR rs r) := by
  unfold putR
  split
  · rename_i ha
    have key : ∀ q : Road, (if sameR r q = true then r else q).1 = q.1 ∧ (if sameR r q = true then r else q).2.1 = q.2.1 := fun q => by
      split
      · rename_i e
        have := of_decide_eq_true e
        exact ⟨this.1.symm, this.2.symm⟩
      · exact ⟨rfl, rfl⟩
    refine List.pairwise_map.mpr (h.imp fun {a b} hab => ?_)
    rw [(key a).1, (key a).2, (key b).1, (key b).2]
    exact hab
  · rename_i ha
    refine uniq_snoc h fun q hq e => ha (List.any_eq_true.mpr ⟨q, hq, decide_eq_true e⟩)
section
variable {A : AH} {n : Nat}
theorem dO_set {rs : List Road} (h : A[n]? = some (dO rs)) (hl : rs.length < 1000) (a b l : Nat) : setO A (.ref n) (.tup [.int a, .int b]) (.int l) = some (A.set n (dO (putR rs (a, b, l)))) := by
  have hk : keysO [.int (a : Int), .int (b : Int)] = some (kR (a, b, l)) := rfl
  have hz : (rs.map kR).length < lim := by rw [List.length_map]; exact Nat.lt_of_lt_of_le hl (by decide)
  have e : setO A (.ref n) (.tup [.int a, .int b]) (.int l) = (keysO [.int (a : Int), .int (b : Int)]).bind fun k => if (rs.map kR).length < lim then some (A.set n (.dt (dputK k (rs.map kR)) (dputV k (.int l) (rs.map kR) (rs.map vR)))) else none := by
    unfold setO
    simp only [h, dO]
  rw [e, hk, Option.bind_some, if_pos hz, putR_k]
  have ev := putR_v rs (a, b, l)
  rw [show vR (a, b, l) = .int l from rfl] at ev
  rw [ev]; rfl
theorem dO_len {rs : List Road} (h : A[n]? = some (dO rs)) : shal A (.ref n) = dD rs := by
  show (match A[n]? with | some (.lst xs) => D.lst xs | some (.dk ks vs) => .dk ks vs | some (.dt ks vs) => .dt ks vs | _ => .ref n) = _
  rw [h]; rfl
end
theorem dget_road {rs : List Road} (hu : Uniq rs) : ∀ {r : Road}, r ∈ rs → dget (kR r) (rs.map kR) (rs.map vR) = some (vR r) := by
  induction rs with
  | nil => intro r h; cases h
  | cons q rs ih =>
    intro r h
    obtain ⟨u1, u2⟩ := List.pairwise_cons.mp hu
    simp only [List.map_cons, dget]
    rcases List.mem_cons.mp h with rfl | h
    · rw [if_pos rfl]
    · rw [if_neg (fun z => u1 r h (kR_eq.mp z)), ih u2 h]
theorem dD_idx (A : AH) {rs : List Road} (hu : Uniq rs) {r : Road} (h : r ∈ rs) : idxO A (dD rs) (.tup [.int r.1, .int r.2.1]) = some (.int r.2.2) := by
  have e : idxO A (dD rs) (.tup [.int r.1, .int r.2.1]) = dget (kR r) (rs.map kR) (rs.map vR) := rfl
  rw [e, dget_road hu h]; rfl
theorem dD_keys (rs : List Road) : dkeysO (dD rs) = some (rs.map fun r => .tup [.int r.1, .int r.2.1]) := by
  have h : ((rs.map kR).all fun k => decide (k.length ≤ lim) && k.all keyFit) = true := by
    rw [List.all_map, List.all_eq_true]
    intro r _
    show (decide ((2 : Nat) ≤ lim) && _) = true
    rw [decide_eq_true (by decide)]; rfl
  show (if ((rs.map kR).all fun k => decide (k.length ≤ lim) && k.all keyFit) = true then some ((rs.map kR).map fun k => D.tup (k.map keyD)) else none) = _
  rw [if_pos h, List.map_map]; rfl
theorem pu_dD (k : Nat) (rs : List Road) : D.pu (k + 2) (dD rs) = true := by
  simp only [dD, D.pu]
  exact pus_of fun x hx => by obtain ⟨r, _, rfl⟩ := List.mem_map.mp hx; rfl
/-! ### reprs -/
theorem smls_of : ∀ {xs : List D}, (∀ x ∈ xs, D.sml x = true) → D.smls xs = true
  | [], _ => rfl
  | x :: xs, h => by simp [D.smls, h x List.mem_cons_self, smls_of fun y hy => h y (List.mem_cons_of_mem _ hy)]
theorem wts_of {w : Nat} : ∀ {xs : List D}, (∀ x ∈ xs, D.wt x ≤ w) → D.wts xs ≤ xs.length * (w + 1)
  | [], _ => by simp [D.wts]
  | x :: xs, h => by
    have h1 := h x List.mem_cons_self
    have h2 := wts_of (w := w) fun y hy => h y (List.mem_cons_of_mem _ hy)
    simp only [D.wts, List.length_cons, Nat.add_mul]
    omega
theorem shw_mk {d : D} (h1 : D.flatN 60 d = true) (h2 : D.sml d = true) (h3 : D.wt d ≤ 100000) : d.shw = true := by
  unfold D.shw; rw [h1, h2, decide_eq_true h3]; rfl
/-- what is shown, as a text; of an empty dict too -/
def D.canR (d : D) : Bool := (match d with
  | .dk [] [] => true
  | _ => false) || d.shw
def shownD : D → Str
  | .dk [] [] => PySem.PyData.shown (.dict [])
  | d => PySem.PyData.shown (D.py d)
theorem repr_of {A : AH} {d : D} (h : d.canR = true) : biO A .repr [d] = some (.str (shownD d)) := by
  rw [bi_repr]
  unfold reprO
  unfold D.canR at h
  cases d with
  | ref n => simp [D.shw, D.flatN] at h
  | dk ks vs =>
    cases ks with
    | nil => cases vs with
      | nil => rfl
      | cons _ _ => simp [D.shw, D.flatN] at h
    | cons _ _ => simp [D.shw, D.flatN] at h
  | _ =>
    simp only [Bool.false_or] at h
    simp only [shal, h, if_true, Option.map_some, shownD]
end Ev

set_option maxRecDepth 100000
/-! Pl14: objects given up; tables with a great number for none -/
namespace Ev
open PySem (Str)
theorem evS_frz {cl : Cl} {env : Env} {A : AH} {i : Nat} {d d' : D} {L : List Nat} (h : env[i]? = some (some d)) (e : fz A 8 d = some (d', L)) : evS cl (.frz i) env A = .ok (.nx, env.set i (some d')) (killAll L A) := by
  have e2 : evS cl (.frz i) env A = match env[i]? with
    | some (some d) => match fz A 8 d with
      | some (d', L) => .ok (.nx, env.set i (some d')) (killAll L A)
      | none => .bad
    | _ => .bad := by simp only [evS] <;> rfl
  rw [e2, h]
  simp only [e]
theorem kill_app {A : AH} : ∀ {L : List Nat} {E : AH}, (∀ n ∈ L, A.length ≤ n) → ∃ E', killAll L (A ++ E) = A ++ E'
  | [], E, _ => ⟨E, rfl⟩
  | n :: L, E, h => by
    have hn := h n List.mem_cons_self
    simp only [killAll]
    rw [List.set_append_right _ _ hn]
    exact kill_app fun k hk => h k (List.mem_cons_of_mem _ hk)
/-- a great number for none -/
def bigI (o : Option Int) : Int := o.getD 1000000000
def bigF (F : Mx) : Mx := fun i j => some (bigI (F i j))
def Bd (b : Int) (F : Mx) : Prop := ∀ i j v, F i j = some v → 0 ≤ v ∧ v ≤ b
theorem Bd.mono {b c : Int} {F : Mx} (h : Bd b F) (k : b ≤ c) : Bd c F := fun i j v e => ⟨(h i j v e).1, by have := (h i j v e).2; omega⟩
theorem Bd.relax {b : Int} {F : Mx} {k : Nat} (h : Bd b F) : Bd (2 * b) (relax F k) := fun i j v e => by
  rcases relax_is e with e | ⟨x, y, e1, e2, rfl⟩
  · have := h i j v e; omega
  · have := h i k x e1; have := h k j y e2; omega
theorem Bd.web {m : Nat} {rs : List Road} (hw : WebOk m rs) : Bd 99 (webF rs) := fun i j v e => by
  rcases fold_is rs F00 i j with ⟨q, hq, _, h2⟩ | ⟨_, h2⟩
  · unfold webF at e; rw [h2] at e; cases e
    have := hw.road q hq; omega
  · unfold webF at e; rw [h2] at e; unfold F00 at e
    split at e
    · cases e; omega
    · cases e
theorem Bd.rel {b : Int} {F : Mx} (h : Bd b F) : ∀ k : Nat, Bd (2 ^ k * b) (relN F k)
  | 0 => by
    show Bd (1 * b) F
    rw [Int.one_mul]; exact h
  | k + 1 => by
    have := (Bd.rel h k).relax (k := k)
    rw [← Int.mul_assoc] at this
    rw [Int.pow_succ, Int.mul_comm _ 2]
    exact this
theorem pow_le_512 {k : Nat} (h : k ≤ 9) : (2 : Int) ^ k * 99 ≤ 50688 := by
  have : k = 0 ∨ k = 1 ∨ k = 2 ∨ k = 3 ∨ k = 4 ∨ k = 5 ∨ k = 6 ∨ k = 7 ∨ k = 8 ∨ k = 9 := by omega
  rcases this with rfl | rfl | rfl | rfl | rfl | rfl | rfl | rfl | rfl | rfl <;> decide
theorem relN_bd {m k : Nat} {rs : List Road} (hw : WebOk m rs) (hk : k ≤ 9) : Bd 50688 (relN (webF rs) k) := (Bd.rel (Bd.web hw) k).mono (pow_le_512 hk)
theorem DF_bd {m : Nat} {rs : List Road} (hw : WebOk m rs) : Bd 50688 (DF m rs) := relN_bd hw hw.hi
/-- the least of both -/
theorem big_relax {F : Mx} (h : Bd 100000 F) (k i j : Nat) : (if bigI (F i k) + bigI (F k j) < bigI (F i j) then bigI (F i k) + bigI (F k j) else bigI (F i j)) = bigI (relax F k i j) := by
  unfold relax bigI
  cases e1 : F i k with
  | none =>
    simp only [Option.getD_none]
    cases e2 : F k j with
    | none => simp only [Option.getD_none]; cases e3 : F i j with
      | none => simp
      | some c => have := h i j c e3; simp only [Option.getD_some]; rw [if_neg (by omega)]
    | some b => have := h k j b e2; simp only [Option.getD_some]; cases e3 : F i j with
      | none => simp only [Option.getD_none]; rw [if_neg (by omega)]
      | some c => have := h i j c e3; simp only [Option.getD_some]; rw [if_neg (by omega)]
  | some a =>
    have := h i k a e1
    simp only [Option.getD_some]
    cases e2 : F k j with
    | none => simp only [Option.getD_none]; cases e3 : F i j with
      | none => simp only [Option.getD_none]; rw [if_neg (by omega)]
      | some c => have := h i j c e3; simp only [Option.getD_some]; rw [if_neg (by omega)]
    | some b => have := h k j b e2; simp only [Option.getD_some]; cases e3 : F i j with
      | none => simp only [Option.getD_none, Option.getD_some]; rw [if_pos (by omega)]
      | some c =>
        simp only [Option.getD_some]
        split
        · rfl
        · rfl
theorem oD_big (F : Mx) (i j : Nat) : oD (bigF F i j) = .int (bigI (F i j)) := rfl
theorem upd_big (F : Mx) (i j : Nat) (v : Option Int) : updF (bigF F) i j (some (bigI v)) = bigF (updF F i j v) := by
  funext a b
  by_cases h : a = i ∧ b = j
  · simp [updF, bigF, h]
  · simp [updF, bigF, h]
theorem big_none {F : Mx} {i j : Nat} (h : F i j = none) : bigI (F i j) = 1000000000 := by rw [h]; rfl
/-- the table as tuples -/
def tabT (m : Nat) (F : Mx) : D := .tup ((List.range m).map fun i => .tup ((List.range m).map fun j => oD (F i j)))
theorem tab_row {A : AH} {m i : Nat} {F : Mx} (hi : i < m) : idxO A (tabT m F) (.int i) = some (.tup ((List.range m).map fun j => oD (F i j))) := by
  unfold tabT
  rw [idxO_tup]
  have h : i < (List.range m).length := by rw [List.length_range]; exact hi
  rw [atI_map h, List.getElem_range]
theorem tab_at {A : AH} {m i j : Nat} {F : Mx} (hj : j < m) : idxO A (.tup ((List.range m).map fun j => oD (F i j))) (.int j) = some (oD (F i j)) := by
  rw [idxO_tup]
  have h : j < (List.range m).length := by rw [List.length_range]; exact hj
  rw [atI_map h, List.getElem_range]
theorem pu_tab (m : Nat) (F : Mx) (k : Nat) : D.pu (k + 3) (tabT m F) = true := by
  simp only [tabT, D.pu]
  refine pus_of fun x hx => ?_
  obtain ⟨i, _, rfl⟩ := List.mem_map.mp hx
  simp only [D.pu]
  refine pus_of fun y hy => ?_
  obtain ⟨j, _, rfl⟩ := List.mem_map.mp hy
  exact pu_oD k _
theorem flat_tab (m : Nat) (F : Mx) (k : Nat) : D.flatN (k + 3) (tabT m F) = true := by
  simp only [tabT, D.flatN]
  refine flatNs_of fun x hx => ?_
  obtain ⟨i, _, rfl⟩ := List.mem_map.mp hx
  simp only [D.flatN]
  refine flatNs_of fun y hy => ?_
  obtain ⟨j, _, rfl⟩ := List.mem_map.mp hy
  exact flat_oD _ _
theorem sml_tab {m : Nat} {F : Mx} (h : Bd 50688 F) : D.sml (tabT m F) = true := by
  simp only [tabT, D.sml]
  refine smls_of fun x hx => ?_
  obtain ⟨i, _, rfl⟩ := List.mem_map.mp hx
  simp only [D.sml]
  refine smls_of fun y hy => ?_
  obtain ⟨j, _, rfl⟩ := List.mem_map.mp hy
  cases e : F i j with
  | none => rfl
  | some v =>
    have := h i j v e
    simp only [oD, D.sml, decide_eq_true_eq]
    have : v.natAbs ≤ 50688 := by omega
    exact Nat.lt_of_le_of_lt this (by decide)
theorem wt_tab {m : Nat} {F : Mx} (h : m ≤ 9) : D.wt (tabT m F) ≤ 10944 := by
  simp only [tabT, D.wt]
  have h1 : ∀ x ∈ (List.range m).map (fun i => D.tup ((List.range m).map fun j => oD (F i j))), D.wt x ≤ 1215 := fun x hx => by
    obtain ⟨i, _, rfl⟩ := List.mem_map.mp hx
    simp only [D.wt]
    have h2 := wts_of (w := 134) (xs := (List.range m).map fun j => oD (F i j)) fun y hy => by
      obtain ⟨j, _, rfl⟩ := List.mem_map.mp hy
      cases F i j <;> simp [oD, D.wt]
    rw [List.length_map, List.length_range] at h2
    omega
  have h3 := wts_of h1
  rw [List.length_map, List.length_range] at h3
  omega
mutual
theorem flat_up : ∀ {k : Nat} {d : D}, D.flatN k d = true → D.flatN (k + 1) d = true
  | k, .non, _ => by cases k <;> rfl
  | k, .bl _, _ => by cases k <;> rfl
  | k, .int _, _ => by cases k <;> rfl
  | k, .str s, h => by simp only [D.flatN] at h ⊢; exact h
  | 0, .tup xs, h => by simp [D.flatN] at h
  | 0, .lst xs, h => by simp [D.flatN] at h
  | k + 1, .tup xs, h => by simp only [D.flatN] at h ⊢; exact flats_up h
  | k + 1, .lst xs, h => by simp only [D.flatN] at h ⊢; exact flats_up h
  | k, .kl _, h => by simp [D.flatN] at h
  | k, .dk _ _, h => by simp [D.flatN] at h
  | k, .dt _ _, h => by simp [D.flatN] at h
  | k, .ref _, h => by simp [D.flatN] at h
  | k, .fn _, h => by simp [D.flatN] at h
  | k, .ty _, h => by simp [D.flatN] at h
  | k, .exn _ _, h => by simp [D.flatN] at h
theorem flats_up : ∀ {k : Nat} {xs : List D}, D.flatNs k xs = true → D.flatNs (k + 1) xs = true
  | k, [], _ => by simp [D.flatNs]
  | k, x :: xs, h => by
    simp only [D.flatNs, Bool.and_eq_true] at h ⊢
    exact ⟨flat_up h.1, flats_up h.2⟩
end
theorem flat_le {k l : Nat} {d : D} (h : k ≤ l) (p : D.flatN k d = true) : D.flatN l d = true := by
  induction l with
  | zero => rw [Nat.le_zero] at h; subst h; exact p
  | succ l ih =>
    by_cases e : k = l + 1
    · subst e; exact p
    · exact flat_up (ih (by omega))
end Ev

set_option maxRecDepth 100000
namespace K64
open PySem Ev
abbrev top (i : Nat) : Stmt := PySem.Challenge.pw_heapcarries_k64_needless_refused_and_dis.main.body.getD i (.Pass ⟨0, 0, 0, 0⟩)
abbrev i_is_whole : Nat := 0
abbrev i_is_between : Nat := 1
abbrev i_is_tuple_of : Nat := 2
abbrev i_is_length : Nat := 3
abbrev i_is_road : Nat := 4
abbrev i_are_roads : Nat := 5
abbrev i_is_web_by : Nat := 6
abbrev i_places_of : Nat := 7
abbrev i_first_table : Nat := 8
abbrev i_shorter : Nat := 9
abbrev i_distance_table : Nat := 10
abbrev i_distance_by : Nat := 11
abbrev i_without_road_by : Nat := 12
abbrev i_check_web : Nat := 13
abbrev i_check_two_webs : Nat := 14
abbrev i_check_place : Nat := 15
abbrev i_check_number : Nat := 16
abbrev i_check_road : Nat := 17
abbrev i_is_needless_by : Nat := 18
abbrev i_needless_roads_by : Nat := 19
abbrev i_thinned_by : Nat := 20
abbrev i_pair_unlike_by : Nat := 21
abbrev i_distances_by : Nat := 22
abbrev i_is_needless : Nat := 23
abbrev i_needless_roads : Nat := 24
abbrev i_thinned : Nat := 25
abbrev i_are_alike : Nat := 26
abbrev i_pair_unlike : Nat := 27
abbrev i_distances : Nat := 28
abbrev i_check_two_places : Nat := 29
abbrev i_distance : Nat := 30
abbrev i__law_pool : Nat := 31
abbrev i__law_draw : Nat := 32
abbrev i__law_pick : Nat := 33
abbrev i__law_web : Nat := 34
abbrev i__law_apart : Nat := 35
abbrev i__law_heard : Nat := 36
abbrev i__law_refused_right : Nat := 37
abbrev i__law_named : Nat := 38
abbrev i__law_no_webs : Nat := 39
abbrev i__law_right : Nat := 40
abbrev i_law : Nat := 41
/-- is_whole -/
def b_is_whole : Ss := (.cons (.ret (.and (.bi .isi (.cons (.var 0) (.cons (.ty "int") .nil))) (.one (.not (.bi .isi (.cons (.var 0) (.cons (.ty "bool") .nil))))))) .nil)
def f_is_whole : Df := ⟨1, 1, true, b_is_whole⟩
/-- is_between -/
def b_is_between : Ss := (.cons (.ret (.and (.call i_is_whole (.cons (.var 0) .nil)) (.one (.chn .le .le (.var 1) (.var 0) (.var 2))))) .nil)
def f_is_between : Df := ⟨3, 3, true, b_is_between⟩
/-- is_tuple_of -/
def b_is_tuple_of : Ss := (.cons (.ret (.and (.bi .isi (.cons (.var 0) (.cons (.ty "tuple") .nil))) (.one (.cmp .eq (.bi .len (.cons (.var 0) .nil)) (.var 1))))) .nil)
def f_is_tuple_of : Df := ⟨2, 2, true, b_is_tuple_of⟩
/-- is_length -/
def b_is_length : Ss := (.cons (.ret (.call i_is_between (.cons (.var 0) (.cons (.int 1) (.cons (.gv (Str.ofString "MOST_LENGTH") 99) .nil))))) .nil)
def f_is_length : Df := ⟨1, 1, true, b_is_length⟩
/-- is_road -/
def b_is_road : Ss := (.cons (.iff (.or (.not (.call i_is_tuple_of (.cons (.var 1) (.cons (.int 3) .nil)))) (.or (.not (.call i_is_between (.cons (.idx (.var 1) (.gv (Str.ofString "FIRST") 0)) (.cons (.int 0) (.cons (.bin .sub (.var 0) (.int 1)) .nil))))) (.one (.not (.call i_is_length (.cons (.idx (.var 1) (.gv (Str.ofString "LENGTH") 2)) .nil)))))) (.cons (.ret (.bl false)) .nil) .nil) (.cons (.ret (.call i_is_between (.cons (.idx (.var 1) (.gv (Str.ofString "SECOND") 1)) (.cons (.bin .add (.idx (.var 1) (.gv (Str.ofString "FIRST") 0)) (.int 1)) (.cons (.bin .sub (.var 0) (.int 1)) .nil))))) .nil))
def f_is_road : Df := ⟨2, 2, true, b_is_road⟩
def c_are_roads_0 : E := .comp false [3] (.nm 3) (.seq (.var 1)) .nil (.call i_is_road (.cons (.var 0) (.cons (.var 3) .nil)))
def c_are_roads_1 : E := .comp false [2] (.nm 2) (.rng2 (.int 1) (.bi .len (.cons (.var 1) .nil))) .nil (.cmp .lt (.slc (.idx (.var 1) (.bin .sub (.var 2) (.int 1))) .no (.yes (.gv (Str.ofString "LENGTH") 2))) (.slc (.idx (.var 1) (.var 2)) .no (.yes (.gv (Str.ofString "LENGTH") 2))))
/-- are_roads -/
def b_are_roads : Ss := (.cons (.iff (.or (.not (.bi .isi (.cons (.var 1) (.cons (.ty "tuple") .nil)))) (.or (.cmp .gt (.bi .len (.cons (.var 1) .nil)) (.gv (Str.ofString "MOST_ROADS") 20)) (.one (.not (.bi .all (.cons c_are_roads_0 .nil)))))) (.cons (.ret (.bl false)) .nil) .nil) (.cons (.ret (.bi .all (.cons c_are_roads_1 .nil))) .nil))
def f_are_roads : Df := ⟨2, 4, true, b_are_roads⟩
/-- is_web_by -/
def b_is_web_by : Ss := (.cons (.iff (.or (.not (.call i_is_tuple_of (.cons (.var 0) (.cons (.int 2) .nil)))) (.one (.not (.call i_is_between (.cons (.idx (.var 0) (.gv (Str.ofString "PLACES") 0)) (.cons (.int 1) (.cons (.gv (Str.ofString "MOST_PLACES") 9) .nil))))))) (.cons (.ret (.bl false)) .nil) .nil) (.cons (.ret (.call i_are_roads (.cons (.idx (.var 0) (.gv (Str.ofString "PLACES") 0)) (.cons (.idx (.var 0) (.gv (Str.ofString "ROADS") 1)) .nil)))) .nil))
def f_is_web_by : Df := ⟨1, 1, true, b_is_web_by⟩
/-- places_of -/
def b_places_of : Ss := (.cons (.ret (.lrng (.idx (.var 0) (.gv (Str.ofString "PLACES") 0)))) .nil)
def f_places_of : Df := ⟨1, 1, true, b_places_of⟩
def c_first_table_0 : E := .comp true [3] (.nm 3) (.seq (.call i_places_of (.cons (.var 0) .nil))) .nil (.ite (.cmp .eq (.var 2) (.var 3)) (.int 0) .non)
def c_first_table_1 : E := .comp false [2] (.nm 2) (.seq (.call i_places_of (.cons (.var 0) .nil))) .nil c_first_table_0
def l_first_table_0 : S := .for (.tup (.cons (.nm 2) (.cons (.nm 3) (.cons (.nm 4) .nil)))) (.seq (.idx (.var 0) (.gv (Str.ofString "ROADS") 1))) (.cons (.asg (.tup (.cons (.sub (.idx (.var 1) (.var 2)) (.var 3)) (.cons (.sub (.idx (.var 1) (.var 3)) (.var 2)) .nil))) (.tup (.cons (.var 4) (.cons (.var 4) .nil)))) .nil)
/-- first_table -/
def b_first_table : Ss := (.cons (.asg (.nm 1) c_first_table_1) (.cons l_first_table_0 (.cons (.ret (.var 1)) .nil)))
def f_first_table : Df := ⟨1, 5, false, b_first_table⟩
/-- shorter -/
def b_shorter : Ss := (.cons (.iff (.or (.isN (.var 1) false) (.one (.isN (.var 2) false))) (.cons (.ret (.var 0)) .nil) .nil) (.cons (.ret (.ite (.or (.isN (.var 0) false) (.one (.cmp .lt (.bin .add (.var 1) (.var 2)) (.var 0)))) (.bin .add (.var 1) (.var 2)) (.var 0))) .nil))
def f_shorter : Df := ⟨3, 3, true, b_shorter⟩
def l_distance_table_0 : S := .for (.nm 4) (.seq (.call i_places_of (.cons (.var 0) .nil))) (.cons (.asg (.sub (.idx (.var 1) (.var 3)) (.var 4)) (.call i_shorter (.cons (.idx (.idx (.var 1) (.var 3)) (.var 4)) (.cons (.idx (.idx (.var 1) (.var 3)) (.var 2)) (.cons (.idx (.idx (.var 1) (.var 2)) (.var 4)) .nil))))) .nil)
def l_distance_table_1 : S := .for (.nm 3) (.seq (.call i_places_of (.cons (.var 0) .nil))) (.cons l_distance_table_0 .nil)
def l_distance_table_2 : S := .for (.nm 2) (.seq (.call i_places_of (.cons (.var 0) .nil))) (.cons l_distance_table_1 .nil)
/-- distance_table -/
def b_distance_table : Ss := (.cons (.asg (.nm 1) (.call i_first_table (.cons (.var 0) .nil))) (.cons l_distance_table_2 (.cons (.ret (.var 1)) .nil)))
def f_distance_table : Df := ⟨1, 5, true, b_distance_table⟩
/-- distance_by -/
def b_distance_by : Ss := (.cons (.ret (.idx (.idx (.call i_distance_table (.cons (.var 0) .nil)) (.var 1)) (.var 2))) .nil)
def f_distance_by : Df := ⟨3, 3, true, b_distance_by⟩
/-- without_road_by -/
def b_without_road_by : Ss := (.cons (.ret (.tup (.cons (.idx (.var 0) (.gv (Str.ofString "PLACES") 0)) (.cons (.bin .add (.slc (.idx (.var 0) (.gv (Str.ofString "ROADS") 1)) .no (.yes (.var 1))) (.slc (.idx (.var 0) (.gv (Str.ofString "ROADS") 1)) (.yes (.bin .add (.var 1) (.int 1))) .no)) .nil)))) .nil)
def f_without_road_by : Df := ⟨2, 2, true, b_without_road_by⟩
/-- check_web -/
def b_check_web : Ss := (.cons (.iff (.not (.call i_is_web_by (.cons (.var 0) .nil))) (.cons (.raise (Str.ofString "NotAWeb") 0 (.var 0)) .nil) .nil) .nil)
def f_check_web : Df := ⟨1, 1, true, b_check_web⟩
/-- check_two_webs -/
def b_check_two_webs : Ss := (.cons (.ex (.call i_check_web (.cons (.var 0) .nil))) (.cons (.ex (.call i_check_web (.cons (.var 1) .nil))) (.cons (.iff (.cmp .ne (.idx (.var 0) (.gv (Str.ofString "PLACES") 0)) (.idx (.var 1) (.gv (Str.ofString "PLACES") 0))) (.cons (.raise (Str.ofString "NotAWeb") 0 (.var 1)) .nil) .nil) .nil)))
def f_check_two_webs : Df := ⟨2, 2, true, b_check_two_webs⟩
/-- check_place -/
def b_check_place : Ss := (.cons (.iff (.not (.call i_is_between (.cons (.var 1) (.cons (.int 0) (.cons (.bin .sub (.idx (.var 0) (.gv (Str.ofString "PLACES") 0)) (.int 1)) .nil))))) (.cons (.raise (Str.ofString "InvalidPlace") 2 (.var 1)) .nil) .nil) .nil)
def f_check_place : Df := ⟨2, 2, true, b_check_place⟩
/-- check_number -/
def b_check_number : Ss := (.cons (.iff (.not (.call i_is_between (.cons (.var 0) (.cons (.var 1) (.cons (.var 2) .nil))))) (.cons (.raise (Str.ofString "InvalidNumber") 4 (.var 0)) .nil) .nil) .nil)
def f_check_number : Df := ⟨3, 3, true, b_check_number⟩
/-- check_road -/
def b_check_road : Ss := (.cons (.ex (.call i_check_number (.cons (.var 1) (.cons (.int 0) (.cons (.bin .sub (.bi .len (.cons (.idx (.var 0) (.gv (Str.ofString "ROADS") 1)) .nil)) (.int 1)) .nil))))) .nil)
def f_check_road : Df := ⟨2, 2, true, b_check_road⟩
/-- is_needless_by -/
def b_is_needless_by : Ss := (.cons (.asg (.tup (.cons (.nm 3) (.cons (.nm 4) (.cons (.nm 5) .nil)))) (.idx (.idx (.var 0) (.gv (Str.ofString "ROADS") 1)) (.var 1))) (.cons (.asg (.nm 2) (.call i_distance_by (.cons (.call i_without_road_by (.cons (.var 0) (.cons (.var 1) .nil))) (.cons (.var 3) (.cons (.var 4) .nil))))) (.cons (.ret (.and (.isN (.var 2) true) (.one (.cmp .le (.var 2) (.var 5))))) .nil)))
def f_is_needless_by : Df := ⟨2, 6, true, b_is_needless_by⟩
def c_needless_roads_by_0 : E := .comp false [1] (.nm 1) (.rng1 (.bi .len (.cons (.idx (.var 0) (.gv (Str.ofString "ROADS") 1)) .nil))) (.cons (.call i_is_needless_by (.cons (.var 0) (.cons (.var 1) .nil))) .nil) (.var 1)
/-- needless_roads_by -/
def b_needless_roads_by : Ss := (.cons (.ret (.bi .tuple (.cons c_needless_roads_by_0 .nil))) .nil)
def f_needless_roads_by : Df := ⟨1, 2, true, b_needless_roads_by⟩
def l_thinned_by_0 : S := .for (.nm 2) (.rng3 (.bin .sub (.bi .len (.cons (.idx (.var 0) (.gv (Str.ofString "ROADS") 1)) .nil)) (.int 1)) (.neg (.int 1)) (.neg (.int 1))) (.cons (.iff (.call i_is_needless_by (.cons (.var 1) (.cons (.var 2) .nil))) (.cons (.asg (.nm 1) (.call i_without_road_by (.cons (.var 1) (.cons (.var 2) .nil)))) .nil) .nil) .nil)
/-- thinned_by -/
def b_thinned_by : Ss := (.cons (.asg (.nm 1) (.var 0)) (.cons l_thinned_by_0 (.cons (.ret (.var 1)) .nil)))
def f_thinned_by : Df := ⟨1, 3, true, b_thinned_by⟩
def c_pair_unlike_by_0 : E := .comp2 false [6, 7] (.nm 6) (.seq (.var 2)) .nil (.nm 7) (.seq (.var 2)) (.cons (.and (.cmp .lt (.var 6) (.var 7)) (.one (.cmp .ne (.idx (.idx (.var 4) (.var 6)) (.var 7)) (.idx (.idx (.var 5) (.var 6)) (.var 7))))) .nil) (.tup (.cons (.var 6) (.cons (.var 7) .nil)))
/-- pair_unlike_by -/
def b_pair_unlike_by : Ss := (.cons (.asg (.tup (.cons (.nm 4) (.cons (.nm 5) .nil))) (.tup (.cons (.call i_distance_table (.cons (.var 0) .nil)) (.cons (.call i_distance_table (.cons (.var 1) .nil)) .nil)))) (.cons (.asg (.nm 2) (.call i_places_of (.cons (.var 0) .nil))) (.cons (.asg (.nm 3) c_pair_unlike_by_0) (.cons (.ret (.ite (.cmp .ne (.var 3) (.lst .nil)) (.idx (.var 3) (.int 0)) .non)) .nil))))
def f_pair_unlike_by : Df := ⟨2, 8, true, b_pair_unlike_by⟩
def c_distances_by_0 : E := .comp false [1] (.nm 1) (.seq (.call i_distance_table (.cons (.var 0) .nil))) .nil (.bi .tuple (.cons (.var 1) .nil))
/-- distances_by -/
def b_distances_by : Ss := (.cons (.ret (.bi .tuple (.cons c_distances_by_0 .nil))) .nil)
def f_distances_by : Df := ⟨1, 2, true, b_distances_by⟩
/-- is_needless -/
def b_is_needless : Ss := (.cons (.ex (.call i_check_web (.cons (.var 0) .nil))) (.cons (.ex (.call i_check_road (.cons (.var 0) (.cons (.var 1) .nil)))) (.cons (.ret (.call i_is_needless_by (.cons (.var 0) (.cons (.var 1) .nil)))) .nil)))
def f_is_needless : Df := ⟨2, 2, true, b_is_needless⟩
/-- needless_roads -/
def b_needless_roads : Ss := (.cons (.ex (.call i_check_web (.cons (.var 0) .nil))) (.cons (.ret (.call i_needless_roads_by (.cons (.var 0) .nil))) .nil))
def f_needless_roads : Df := ⟨1, 1, true, b_needless_roads⟩
/-- thinned -/
def b_thinned : Ss := (.cons (.ex (.call i_check_web (.cons (.var 0) .nil))) (.cons (.ret (.call i_thinned_by (.cons (.var 0) .nil))) .nil))
def f_thinned : Df := ⟨1, 1, true, b_thinned⟩
/-- are_alike -/
def b_are_alike : Ss := (.cons (.ex (.call i_check_two_webs (.cons (.var 0) (.cons (.var 1) .nil)))) (.cons (.ret (.isN (.call i_pair_unlike_by (.cons (.var 0) (.cons (.var 1) .nil))) false)) .nil))
def f_are_alike : Df := ⟨2, 2, true, b_are_alike⟩
/-- pair_unlike -/
def b_pair_unlike : Ss := (.cons (.ex (.call i_check_two_webs (.cons (.var 0) (.cons (.var 1) .nil)))) (.cons (.ret (.call i_pair_unlike_by (.cons (.var 0) (.cons (.var 1) .nil)))) .nil))
def f_pair_unlike : Df := ⟨2, 2, true, b_pair_unlike⟩
/-- distances -/
def b_distances : Ss := (.cons (.ex (.call i_check_web (.cons (.var 0) .nil))) (.cons (.ret (.call i_distances_by (.cons (.var 0) .nil))) .nil))
def f_distances : Df := ⟨1, 1, true, b_distances⟩
/-- check_two_places -/
def b_check_two_places : Ss := (.cons (.ex (.call i_check_web (.cons (.var 0) .nil))) (.cons (.ex (.call i_check_place (.cons (.var 0) (.cons (.var 1) .nil)))) (.cons (.ex (.call i_check_place (.cons (.var 0) (.cons (.var 2) .nil)))) .nil)))
def f_check_two_places : Df := ⟨3, 3, true, b_check_two_places⟩
/-- distance -/
def b_distance : Ss := (.cons (.ex (.call i_check_two_places (.cons (.var 0) (.cons (.var 1) (.cons (.var 2) .nil))))) (.cons (.ret (.call i_distance_by (.cons (.var 0) (.cons (.var 1) (.cons (.var 2) .nil))))) .nil))
def f_distance : Df := ⟨3, 3, true, b_distance⟩
def l__law_pool_0 : S := .for (.nm 2) (.seq (.slc (.var 0) .no (.yes (.int 63)))) (.cons (.asg (.nm 4) (.bin .mod (.bi .int (.cons (.bin .add (.bin .add (.bin .mul (.var 4) (.int 48271)) (.bin .mod (.bi .int (.cons (.var 2) .nil)) (.int 2147483647))) (.int 497)) .nil)) (.int 2147483647))) .nil)
/-- _law_pool -/
def b__law_pool : Ss := (.cons (.par [3, 4] (.cons (.ite (.cmp .lt (.var 1) (.bi .len (.cons (.var 0) .nil))) (.bi .int (.cons (.idx (.var 0) (.var 1)) .nil)) (.bin .add (.bin .mul (.int 70001) (.var 1)) (.int 3244))) (.cons (.bin .add (.int 873283) (.bin .mul (.int 5087) (.var 1))) .nil))) (.cons l__law_pool_0 (.cons (.ret (.lstM (.cons (.bin .mod (.bi .int (.cons (.bin .add (.var 4) (.bin .mul (.var 3) (.int 1013))) .nil)) (.int 2147483647)) (.cons (.ite (.or (.cmp .lt (.var 3) (.int 0)) (.one (.cmp .ge (.var 3) (.bin .pow (.int 10) (.int 18))))) (.bi .abs (.cons (.var 3) .nil)) (.int 0)) (.cons (.int 0) .nil))))) .nil)))
def f__law_pool : Df := ⟨2, 5, false, b__law_pool⟩
/-- _law_draw -/
def b__law_draw : Ss := (.cons (.iff (.cmp .gt (.idx (.var 0) (.int 1)) (.int 0)) (.cons (.asg (.tup (.cons (.sub (.var 0) (.int 1)) (.cons (.nm 3) .nil))) (.bi .divmod (.cons (.idx (.var 0) (.int 1)) (.cons (.var 1) .nil)))) (.cons (.ret (.var 3)) .nil)) .nil) (.cons (.asg (.sub (.var 0) (.int 2)) (.bin .add (.idx (.var 0) (.int 2)) (.int 1))) (.cons (.asg (.nm 2) (.bi .int (.cons (.idx (.var 0) (.int 0)) .nil))) (.cons (.asg (.sub (.var 0) (.int 0)) (.bin .mod (.bi .int (.cons (.bin .add (.bin .add (.bin .mul (.var 2) (.bin .add (.bin .mod (.var 2) (.int 20011)) (.int 30011))) (.bin .mul (.int 70001) (.idx (.var 0) (.int 2)))) (.int 9)) .nil)) (.int 2147483647))) (.cons (.ret (.bin .mod (.bi .int (.cons (.bin .fdiv (.idx (.var 0) (.int 0)) (.int 128)) .nil)) (.var 1))) .nil)))))
def f__law_draw : Df := ⟨2, 4, true, b__law_draw⟩
/-- _law_pick -/
def b__law_pick : Ss := (.cons (.ret (.idx (.var 1) (.call i__law_draw (.cons (.var 0) (.cons (.bi .len (.cons (.var 1) .nil)) .nil))))) .nil)
def f__law_pick : Df := ⟨2, 2, true, b__law_pick⟩
def l__law_web_0 : S := .for (.nm 4) (.rng2 (.int 1) (.var 6)) (.cons (.iff (.cmp .gt (.call i__law_draw (.cons (.var 0) (.cons (.int 6) .nil))) (.int 0)) (.cons (.asg (.sub (.var 7) (.tup (.cons (.call i__law_draw (.cons (.var 0) (.cons (.var 4) .nil))) (.cons (.var 4) .nil)))) (.bin .add (.int 1) (.call i__law_draw (.cons (.var 0) (.cons (.var 3) .nil))))) .nil) .nil) .nil)
def l__law_web_1 : S := .for (.nm 5) (.rng1 (.call i__law_draw (.cons (.var 0) (.cons (.bin .add (.var 6) (.int 1)) .nil)))) (.cons (.par [8, 9] (.cons (.call i__law_draw (.cons (.var 0) (.cons (.var 6) .nil))) (.cons (.call i__law_draw (.cons (.var 0) (.cons (.var 6) .nil))) .nil))) (.cons (.iff (.and (.cmp .lt (.var 8) (.var 9)) (.one (.cmp .lt (.bi .len (.cons (.var 7) .nil)) (.var 2)))) (.cons (.asg (.sub (.var 7) (.tup (.cons (.var 8) (.cons (.var 9) .nil)))) (.bin .add (.int 1) (.call i__law_draw (.cons (.var 0) (.cons (.var 3) .nil))))) .nil) .nil) .nil))
def c__law_web_0 : E := .comp false [10] (.nm 10) (.keys (.var 7)) .nil (.tup (.cons (.idx (.var 10) (.int 0)) (.cons (.idx (.var 10) (.int 1)) (.cons (.idx (.var 7) (.var 10)) .nil))))
/-- _law_web -/
def b__law_web : Ss := (.cons (.asg (.tup (.cons (.nm 6) (.cons (.nm 7) .nil))) (.tup (.cons (.bin .add (.int 1) (.call i__law_draw (.cons (.var 0) (.cons (.var 1) .nil)))) (.cons .dtN .nil)))) (.cons l__law_web_0 (.cons l__law_web_1 (.cons (.frz 7) (.cons (.ret (.tup (.cons (.var 6) (.cons (.bi .tuple (.cons (.slc (.bi .sorted (.cons c__law_web_0 .nil)) .no (.yes (.var 2))) .nil)) .nil)))) .nil)))))
def f__law_web : Df := ⟨4, 11, true, b__law_web⟩
def c__law_apart_0 : E := .comp true [6] (.nm 6) (.rng1 (.var 3)) .nil (.ite (.cmp .eq (.var 5) (.var 6)) (.int 0) (.var 4))
def c__law_apart_1 : E := .comp false [5] (.nm 5) (.rng1 (.var 3)) .nil c__law_apart_0
def l__law_apart_0 : S := .for (.tup (.cons (.nm 5) (.cons (.nm 6) (.cons (.nm 7) .nil)))) (.seq (.idx (.var 0) (.int 1))) (.cons (.asg (.tup (.cons (.sub (.idx (.var 1) (.var 5)) (.var 6)) (.cons (.sub (.idx (.var 1) (.var 6)) (.var 5)) .nil))) (.tup (.cons (.bi .min2 (.cons (.idx (.idx (.var 1) (.var 5)) (.var 6)) (.cons (.var 7) .nil))) (.cons (.bi .min2 (.cons (.idx (.idx (.var 1) (.var 6)) (.var 5)) (.cons (.var 7) .nil))) .nil)))) .nil)
def l__law_apart_1 : S := .for (.nm 6) (.rng1 (.var 3)) (.cons (.asg (.sub (.idx (.var 1) (.var 5)) (.var 6)) (.bi .min2 (.cons (.idx (.idx (.var 1) (.var 5)) (.var 6)) (.cons (.bin .add (.idx (.idx (.var 1) (.var 5)) (.var 2)) (.idx (.idx (.var 1) (.var 2)) (.var 6))) .nil)))) .nil)
def l__law_apart_2 : S := .for (.nm 5) (.rng1 (.var 3)) (.cons l__law_apart_1 .nil)
def l__law_apart_3 : S := .for (.nm 2) (.rng1 (.var 3)) (.cons l__law_apart_2 .nil)
def c__law_apart_2 : E := .comp false [9] (.nm 9) (.seq (.var 8)) .nil (.ite (.cmp .lt (.var 9) (.var 4)) (.var 9) .non)
def c__law_apart_3 : E := .comp false [8] (.nm 8) (.seq (.var 1)) .nil (.bi .tuple (.cons c__law_apart_2 .nil))
/-- _law_apart -/
def b__law_apart : Ss := (.cons (.asg (.tup (.cons (.nm 3) (.cons (.nm 4) .nil))) (.tup (.cons (.idx (.var 0) (.int 0)) (.cons (.bin .pow (.int 10) (.int 9)) .nil)))) (.cons (.asg (.nm 1) c__law_apart_1) (.cons l__law_apart_0 (.cons l__law_apart_3 (.cons (.frz 1) (.cons (.ret (.bi .tuple (.cons c__law_apart_3 .nil))) .nil))))))
def f__law_apart : Df := ⟨1, 10, true, b__law_apart⟩
/-- _law_heard -/
def b__law_heard : Ss := (.cons (.tryAs (.cons (.iff (.cmp .eq (.bi .len (.cons (.var 1) .nil)) (.int 1)) (.cons (.ex (.callV 0 (.cons (.idx (.var 1) (.int 0)) .nil))) .nil) (.cons (.iff (.cmp .eq (.bi .len (.cons (.var 1) .nil)) (.int 2)) (.cons (.ex (.callV 0 (.cons (.idx (.var 1) (.int 0)) (.cons (.idx (.var 1) (.int 1)) .nil)))) .nil) (.cons (.iff (.cmp .eq (.bi .len (.cons (.var 1) .nil)) (.int 3)) (.cons (.ex (.callV 0 (.cons (.idx (.var 1) (.int 0)) (.cons (.idx (.var 1) (.int 1)) (.cons (.idx (.var 1) (.int 2)) .nil))))) .nil) (.cons (.ex (.callV 0 (.cons (.idx (.var 1) (.int 0)) (.cons (.idx (.var 1) (.int 1)) (.cons (.idx (.var 1) (.int 2)) (.cons (.idx (.var 1) (.int 3)) .nil)))))) .nil)) .nil)) .nil)) .nil) (Str.ofString "HeapError") [0, 2, 4] 2 (.cons (.asg (.nm 3) (.lst .nil)) (.cons (.asg (.nm 3) (.bin .add (.var 3) (.ite (.excI 2 (Str.ofString "NotAWeb") [0]) (.lst (.cons (.lst (.cons (.str (Str.ofString "web")) (.cons (.excG 2 (Str.ofString "given")) .nil))) .nil)) (.lst .nil)))) (.cons (.asg (.nm 3) (.bin .add (.var 3) (.ite (.excI 2 (Str.ofString "InvalidNumber") [4]) (.lst (.cons (.lst (.cons (.str (Str.ofString "number")) (.cons (.excG 2 (Str.ofString "given")) .nil))) .nil)) (.lst .nil)))) (.cons (.ret (.ite (.and (.cmp .eq (.bi .len (.cons (.var 3) .nil)) (.int 1)) (.one (.excI 2 (Str.ofString "ValueError") [0, 2, 4]))) (.idx (.var 3) (.int 0)) (.lst (.cons (.str (Str.ofString "another")) (.cons (.var 3) .nil))))) .nil))))) (.cons (.ret (.lst (.cons (.str (Str.ofString "told")) (.cons .non .nil)))) .nil))
def f__law_heard : Df := ⟨2, 4, true, b__law_heard⟩
def c__law_refused_right_0 : E := .comp false [11] (.nm 11) (.seq (.idx (.var 3) (.var 4))) (.cons (.cmp .eq (.call i__law_draw (.cons (.var 0) (.cons (.int 2) .nil))) (.int 0)) .nil) (.var 11)
def l__law_refused_right_0 : S := .for (.tup (.cons (.nm 6) (.cons (.nm 7) (.cons (.nm 8) .nil)))) (.seq c__law_refused_right_0) (.cons (.asg (.nm 5) (.call i__law_heard (.cons (.var 1) (.cons (.bin .add (.bin .add (.slc (.var 2) .no (.yes (.var 4))) (.tup (.cons (.var 6) .nil))) (.slc (.var 2) (.yes (.bin .add (.var 4) (.int 1))) .no)) .nil)))) (.cons (.iff (.or (.cmp .ne (.idx (.var 5) (.int 0)) (.var 7)) (.one (.cmp .ne (.bi .repr (.cons (.idx (.var 5) (.int 1)) .nil)) (.bi .repr (.cons (.var 8) .nil))))) (.cons (.ret (.bl false)) .nil) .nil) .nil))
def l__law_refused_right_1 : S := .for (.nm 4) (.rng1 (.bi .len (.cons (.var 2) .nil))) (.cons l__law_refused_right_0 .nil)
def l__law_refused_right_2 : S := .for (.nm 4) (.rng1 (.bin .sub (.bi .len (.cons (.var 2) .nil)) (.int 1))) (.cons (.par [9, 10] (.cons (.call i__law_pick (.cons (.var 0) (.cons (.idx (.var 3) (.var 4)) .nil))) (.cons (.call i__law_pick (.cons (.var 0) (.cons (.idx (.var 3) (.bin .add (.var 4) (.int 1))) .nil))) .nil))) (.cons (.asg (.nm 5) (.call i__law_heard (.cons (.var 1) (.cons (.bin .add (.bin .add (.slc (.var 2) .no (.yes (.var 4))) (.tup (.cons (.idx (.var 9) (.int 0)) (.cons (.idx (.var 10) (.int 0)) .nil)))) (.slc (.var 2) (.yes (.bin .add (.var 4) (.int 2))) .no)) .nil)))) (.cons (.iff (.or (.cmp .ne (.idx (.var 5) (.int 0)) (.idx (.var 9) (.int 1))) (.one (.cmp .ne (.bi .repr (.cons (.idx (.var 5) (.int 1)) .nil)) (.bi .repr (.cons (.idx (.var 9) (.int 2)) .nil))))) (.cons (.ret (.bl false)) .nil) .nil) .nil)))
/-- _law_refused_right -/
def b__law_refused_right : Ss := (.cons l__law_refused_right_1 (.cons l__law_refused_right_2 (.cons (.ret (.cmp .eq (.idx (.call i__law_heard (.cons (.var 1) (.cons (.var 2) .nil))) (.int 0)) (.str (Str.ofString "told")))) .nil)))
def f__law_refused_right : Df := ⟨4, 12, true, b__law_refused_right⟩
def c__law_named_0 : E := .comp false [2] (.nm 2) (.seq (.var 0)) .nil (.lst (.cons (.var 2) (.cons (.var 1) (.cons (.var 2) .nil))))
/-- _law_named -/
def b__law_named : Ss := (.cons (.ret c__law_named_0) .nil)
def f__law_named : Df := ⟨2, 3, true, b__law_named⟩
def c__law_no_webs_0 : E := .comp false [5] (.nm 5) (.seq (.var 2)) .nil (.tup (.cons (.int 7) (.cons (.tup (.cons (.var 5) .nil)) .nil)))
/-- _law_no_webs -/
def b__law_no_webs : Ss := (.cons (.asg (.tup (.cons (.nm 3) (.cons (.nm 4) .nil))) (.var 0)) (.cons (.asg (.nm 1) (.lst (.cons .non (.cons (.tup .nil) (.cons (.int 0) (.cons (.str (Str.ofString "web")) (.cons (.bl true) (.cons (.bi .list (.cons (.var 0) .nil)) (.cons .dkN (.cons (.tup (.cons (.var 3) .nil)) (.cons (.bin .add (.var 0) (.tup (.cons (.int 0) .nil))) (.cons (.tup (.cons (.int 0) (.cons (.tup .nil) .nil))) (.cons (.tup (.cons (.int 10) (.cons (.tup .nil) .nil))) (.cons (.tup (.cons (.bl true) (.cons (.tup .nil) .nil))) (.cons (.tup (.cons .non (.cons (.tup .nil) .nil))) (.cons (.tup (.cons (.var 3) (.cons (.bi .list (.cons (.var 4) .nil)) .nil))) (.cons (.tup (.cons (.var 4) (.cons (.var 3) .nil))) (.cons (.tup (.cons (.int 7) (.cons (.bin .mul (.tup (.cons (.tup (.cons (.int 0) (.cons (.int 1) (.cons (.int 1) .nil)))) .nil)) (.int 2)) .nil))) .nil)))))))))))))))))) (.cons (.asg (.nm 2) (.lst (.cons .non (.cons (.tup (.cons (.int 0) (.cons (.int 1) .nil))) (.cons (.lst (.cons (.int 0) (.cons (.int 1) (.cons (.int 1) .nil)))) (.cons (.tup (.cons (.int 1) (.cons (.int 0) (.cons (.int 1) .nil)))) (.cons (.tup (.cons (.int 0) (.cons (.int 0) (.cons (.int 1) .nil)))) (.cons (.tup (.cons (.int 0) (.cons (.int 7) (.cons (.int 1) .nil)))) (.cons (.tup (.cons (.neg (.int 1)) (.cons (.int 0) (.cons (.int 1) .nil)))) (.cons (.tup (.cons (.int 0) (.cons (.int 1) (.cons (.int 0) .nil)))) (.cons (.tup (.cons (.int 0) (.cons (.int 1) (.cons (.int 100) .nil)))) (.cons (.tup (.cons (.int 0) (.cons (.int 1) (.cons (.bl true) .nil)))) (.cons (.tup (.cons (.bl false) (.cons (.int 1) (.cons (.int 1) .nil)))) (.cons (.tup (.cons (.int 0) (.cons (.int 1) (.cons .non .nil)))) (.cons (.tup (.cons (.str (Str.ofString "0")) (.cons (.int 1) (.cons (.int 1) .nil)))) .nil))))))))))))))) (.cons (.ret (.bin .add (.bin .add (.var 1) c__law_no_webs_0) (.lst (.cons (.tup (.cons (.int 7) (.cons (.tup (.cons (.tup (.cons (.int 0) (.cons (.int 2) (.cons (.int 1) .nil)))) (.cons (.tup (.cons (.int 0) (.cons (.int 1) (.cons (.int 1) .nil)))) .nil))) .nil))) .nil)))) .nil))))
def f__law_no_webs : Df := ⟨1, 6, true, b__law_no_webs⟩
def c__law_right_0 : E := .comp false [12] (.nm 12) (.seq (.idx (.var 2) (.int 1))) (.cons (.cmp .lt (.idx (.var 12) (.int 1)) (.idx (.var 9) (.int 0))) .nil) (.var 12)
def l__law_right_0 : S := .for (.nm 5) (.seq (.lst (.cons (.fn (Str.ofString "needless_roads") i_needless_roads) (.cons (.fn (Str.ofString "thinned") i_thinned) (.cons (.fn (Str.ofString "distances") i_distances) .nil))))) (.cons (.iff (.not (.call i__law_refused_right (.cons (.var 0) (.cons (.var 5) (.cons (.tup (.cons (.var 9) .nil)) (.cons (.lst (.cons (.var 3) .nil)) .nil)))))) (.cons (.ret (.bl false)) .nil) .nil) .nil)
def l__law_right_1 : S := .for (.nm 5) (.seq (.lst (.cons (.fn (Str.ofString "are_alike") i_are_alike) (.cons (.fn (Str.ofString "pair_unlike") i_pair_unlike) .nil)))) (.cons (.iff (.not (.call i__law_refused_right (.cons (.var 0) (.cons (.var 5) (.cons (.tup (.cons (.var 9) (.cons (.var 2) .nil))) (.cons (.lst (.cons (.var 3) (.cons (.var 4) .nil))) .nil)))))) (.cons (.ret (.bl false)) .nil) .nil) .nil)
def l__law_right_2 : S := .for (.nm 1) (.rng1 (.int 5)) (.cons (.asg (.tup (.cons (.nm 9) (.cons (.nm 2) .nil))) (.tup (.cons (.call i__law_web (.cons (.var 0) (.cons (.int 9) (.cons (.int 20) (.cons (.int 99) .nil))))) (.cons (.call i__law_web (.cons (.var 0) (.cons (.int 9) (.cons (.int 20) (.cons (.int 99) .nil))))) .nil)))) (.cons (.asg (.nm 2) (.tup (.cons (.idx (.var 9) (.int 0)) (.cons (.bi .tuple (.cons c__law_right_0 .nil)) .nil)))) (.cons (.asg (.nm 3) (.call i__law_named (.cons (.call i__law_no_webs (.cons (.var 9) .nil)) (.cons (.str (Str.ofString "web")) .nil)))) (.cons (.asg (.nm 4) (.bin .add (.var 3) (.call i__law_named (.cons (.lst (.cons (.tup (.cons (.bin .add (.bin .mod (.bi .int (.cons (.idx (.var 9) (.int 0)) .nil)) (.int 9)) (.int 1)) (.cons (.tup .nil) .nil))) .nil)) (.cons (.str (Str.ofString "web")) .nil))))) (.cons l__law_right_0 (.cons l__law_right_1 (.cons (.asg (.nm 6) (.bi .len (.cons (.idx (.var 9) (.int 1)) .nil))) (.cons (.asg (.nm 7) (.call i__law_named (.cons (.lst (.cons (.var 6) (.cons (.neg (.int 1)) (.cons .non (.cons (.bl true) (.cons (.bl false) (.cons (.str (Str.ofString "0")) (.cons (.tup (.cons (.int 0) .nil)) (.cons (.lst (.cons (.int 0) .nil)) (.cons (.bin .pow (.int 10) (.int 29)) .nil)))))))))) (.cons (.str (Str.ofString "number")) .nil)))) (.cons (.iff (.or (.and (.cmp .gt (.var 6) (.int 0)) (.one (.not (.call i__law_refused_right (.cons (.var 0) (.cons (.fn (Str.ofString "is_needless") i_is_needless) (.cons (.tup (.cons (.var 9) (.cons (.bin .sub (.var 6) (.int 1)) .nil))) (.cons (.lst (.cons (.var 3) (.cons (.var 7) .nil))) .nil)))))))) (.one (.and (.cmp .eq (.var 6) (.int 0)) (.one (.cmp .ne (.call i__law_heard (.cons (.fn (Str.ofString "is_needless") i_is_needless) (.cons (.tup (.cons (.var 9) (.cons (.int 0) .nil))) .nil))) (.lst (.cons (.str (Str.ofString "number")) (.cons (.int 0) .nil)))))))) (.cons (.ret (.bl false)) .nil) .nil) (.cons (.asg (.nm 8) (.call i__law_apart (.cons (.var 9) .nil))) (.cons (.iff (.cmp .ne (.bi .repr (.cons (.lst (.cons (.call i_distances (.cons (.var 9) .nil)) (.cons (.callK i_distances .nil (.cons (.var 9) .nil) [0]) .nil))) .nil)) (.bi .repr (.cons (.lst (.cons (.var 8) (.cons (.var 8) .nil))) .nil))) (.cons (.ret (.bl false)) .nil) .nil) (.cons (.par [10, 11] (.cons (.call i__law_draw (.cons (.var 0) (.cons (.idx (.var 9) (.int 0)) .nil))) (.cons (.call i__law_draw (.cons (.var 0) (.cons (.idx (.var 9) (.int 0)) .nil))) .nil))) (.cons (.iff (.or (.cmp .ne (.call i_distance (.cons (.var 9) (.cons (.var 10) (.cons (.var 11) .nil)))) (.idx (.idx (.var 8) (.var 10)) (.var 11))) (.or (.cmp .ne (.idx (.idx (.var 8) (.var 10)) (.var 11)) (.idx (.idx (.var 8) (.var 11)) (.var 10))) (.one (.cmp .ne (.idx (.idx (.var 8) (.var 10)) (.var 10)) (.int 0))))) (.cons (.ret (.bl false)) .nil) .nil) .nil)))))))))))))
/-- _law_right -/
def b__law_right : Ss := (.cons l__law_right_2 (.cons (.ret (.and (.cmp .eq (.call i_distances (.cons (.tup (.cons (.int 3) (.cons (.tup (.cons (.tup (.cons (.int 0) (.cons (.int 1) (.cons (.int 1) .nil)))) .nil)) .nil))) .nil)) (.tup (.cons (.tup (.cons (.int 0) (.cons (.int 1) (.cons .non .nil)))) (.cons (.tup (.cons (.int 1) (.cons (.int 0) (.cons .non .nil)))) (.cons (.tup (.cons .non (.cons .non (.cons (.int 0) .nil)))) .nil))))) (.one (.cmp .eq (.call i_distances (.cons (.tup (.cons (.int 1) (.cons (.tup .nil) .nil))) .nil)) (.tup (.cons (.tup (.cons (.int 0) .nil)) .nil)))))) .nil))
def f__law_right : Df := ⟨1, 13, true, b__law_right⟩
def l_law_0 : S := .for (.nm 1) (.rng1 (.bi .max2 (.cons (.int 2) (.cons (.bi .min2 (.cons (.bi .len (.cons (.var 0) .nil)) (.cons (.int 3) .nil))) .nil)))) (.cons (.iff (.not (.call i__law_right (.cons (.call i__law_pool (.cons (.var 0) (.cons (.var 1) .nil))) .nil))) (.cons (.ret (.bl false)) .nil) .nil) .nil)
/-- law -/
def b_law : Ss := (.cons l_law_0 (.cons (.ret (.bl true)) .nil))
def f_law : Df := ⟨1, 2, true, b_law⟩
def d_is_whole : Dd := ⟨(Str.ofString "is_whole"), [(Str.ofString "value")], [(Str.ofString "value")], top 6, f_is_whole⟩
def d_is_between : Dd := ⟨(Str.ofString "is_between"), [(Str.ofString "value"), (Str.ofString "low"), (Str.ofString "high")], [(Str.ofString "value"), (Str.ofString "low"), (Str.ofString "high")], top 7, f_is_between⟩
def d_is_tuple_of : Dd := ⟨(Str.ofString "is_tuple_of"), [(Str.ofString "value"), (Str.ofString "many")], [(Str.ofString "value"), (Str.ofString "many")], top 8, f_is_tuple_of⟩
def d_is_length : Dd := ⟨(Str.ofString "is_length"), [(Str.ofString "value")], [(Str.ofString "value")], top 18, f_is_length⟩
def d_is_road : Dd := ⟨(Str.ofString "is_road"), [(Str.ofString "many"), (Str.ofString "value")], [(Str.ofString "many"), (Str.ofString "value")], top 19, f_is_road⟩
def d_are_roads : Dd := ⟨(Str.ofString "are_roads"), [(Str.ofString "many"), (Str.ofString "value")], [(Str.ofString "many"), (Str.ofString "value"), (Str.ofString "index"), (Str.ofString "road")], top 20, f_are_roads⟩
def d_is_web_by : Dd := ⟨(Str.ofString "is_web_by"), [(Str.ofString "value")], [(Str.ofString "value")], top 21, f_is_web_by⟩
def d_places_of : Dd := ⟨(Str.ofString "places_of"), [(Str.ofString "web")], [(Str.ofString "web")], top 22, f_places_of⟩
def d_first_table : Dd := ⟨(Str.ofString "first_table"), [(Str.ofString "web")], [(Str.ofString "web"), (Str.ofString "table"), (Str.ofString "one"), (Str.ofString "two"), (Str.ofString "length")], top 23, f_first_table⟩
def d_shorter : Dd := ⟨(Str.ofString "shorter"), [(Str.ofString "length"), (Str.ofString "one"), (Str.ofString "two")], [(Str.ofString "length"), (Str.ofString "one"), (Str.ofString "two")], top 24, f_shorter⟩
def d_distance_table : Dd := ⟨(Str.ofString "distance_table"), [(Str.ofString "web")], [(Str.ofString "web"), (Str.ofString "table"), (Str.ofString "over"), (Str.ofString "one"), (Str.ofString "two")], top 25, f_distance_table⟩
def d_distance_by : Dd := ⟨(Str.ofString "distance_by"), [(Str.ofString "web"), (Str.ofString "one"), (Str.ofString "two")], [(Str.ofString "web"), (Str.ofString "one"), (Str.ofString "two")], top 26, f_distance_by⟩
def d_without_road_by : Dd := ⟨(Str.ofString "without_road_by"), [(Str.ofString "web"), (Str.ofString "index")], [(Str.ofString "web"), (Str.ofString "index")], top 27, f_without_road_by⟩
def d_check_web : Dd := ⟨(Str.ofString "check_web"), [(Str.ofString "value")], [(Str.ofString "value")], top 29, f_check_web⟩
def d_check_two_webs : Dd := ⟨(Str.ofString "check_two_webs"), [(Str.ofString "web"), (Str.ofString "other_web")], [(Str.ofString "web"), (Str.ofString "other_web")], top 30, f_check_two_webs⟩
def d_check_place : Dd := ⟨(Str.ofString "check_place"), [(Str.ofString "web"), (Str.ofString "value")], [(Str.ofString "web"), (Str.ofString "value")], top 31, f_check_place⟩
def d_check_number : Dd := ⟨(Str.ofString "check_number"), [(Str.ofString "value"), (Str.ofString "low"), (Str.ofString "high")], [(Str.ofString "value"), (Str.ofString "low"), (Str.ofString "high")], top 32, f_check_number⟩
def d_check_road : Dd := ⟨(Str.ofString "check_road"), [(Str.ofString "web"), (Str.ofString "value")], [(Str.ofString "web"), (Str.ofString "value")], top 33, f_check_road⟩
def d_is_needless_by : Dd := ⟨(Str.ofString "is_needless_by"), [(Str.ofString "web"), (Str.ofString "index")], [(Str.ofString "web"), (Str.ofString "index"), (Str.ofString "other"), (Str.ofString "one"), (Str.ofString "two"), (Str.ofString "length")], top 35, f_is_needless_by⟩
def d_needless_roads_by : Dd := ⟨(Str.ofString "needless_roads_by"), [(Str.ofString "web")], [(Str.ofString "web"), (Str.ofString "index")], top 36, f_needless_roads_by⟩
def d_thinned_by : Dd := ⟨(Str.ofString "thinned_by"), [(Str.ofString "web")], [(Str.ofString "web"), (Str.ofString "found"), (Str.ofString "index")], top 37, f_thinned_by⟩
def d_pair_unlike_by : Dd := ⟨(Str.ofString "pair_unlike_by"), [(Str.ofString "web"), (Str.ofString "other")], [(Str.ofString "web"), (Str.ofString "other"), (Str.ofString "places"), (Str.ofString "found"), (Str.ofString "table"), (Str.ofString "rows"), (Str.ofString "one"), (Str.ofString "two")], top 38, f_pair_unlike_by⟩
def d_distances_by : Dd := ⟨(Str.ofString "distances_by"), [(Str.ofString "web")], [(Str.ofString "web"), (Str.ofString "row")], top 39, f_distances_by⟩
def d_is_needless : Dd := ⟨(Str.ofString "is_needless"), [(Str.ofString "web"), (Str.ofString "road")], [(Str.ofString "web"), (Str.ofString "road")], top 41, f_is_needless⟩
def d_needless_roads : Dd := ⟨(Str.ofString "needless_roads"), [(Str.ofString "web")], [(Str.ofString "web")], top 42, f_needless_roads⟩
def d_thinned : Dd := ⟨(Str.ofString "thinned"), [(Str.ofString "web")], [(Str.ofString "web")], top 43, f_thinned⟩
def d_are_alike : Dd := ⟨(Str.ofString "are_alike"), [(Str.ofString "web"), (Str.ofString "other_web")], [(Str.ofString "web"), (Str.ofString "other_web")], top 44, f_are_alike⟩
def d_pair_unlike : Dd := ⟨(Str.ofString "pair_unlike"), [(Str.ofString "web"), (Str.ofString "other_web")], [(Str.ofString "web"), (Str.ofString "other_web")], top 45, f_pair_unlike⟩
def d_distances : Dd := ⟨(Str.ofString "distances"), [(Str.ofString "web")], [(Str.ofString "web")], top 46, f_distances⟩
def d_check_two_places : Dd := ⟨(Str.ofString "check_two_places"), [(Str.ofString "web"), (Str.ofString "place"), (Str.ofString "other")], [(Str.ofString "web"), (Str.ofString "place"), (Str.ofString "other")], top 48, f_check_two_places⟩
def d_distance : Dd := ⟨(Str.ofString "distance"), [(Str.ofString "web"), (Str.ofString "place"), (Str.ofString "other")], [(Str.ofString "web"), (Str.ofString "place"), (Str.ofString "other")], top 49, f_distance⟩
def d__law_pool : Dd := ⟨(Str.ofString "_law_pool"), [(Str.ofString "script"), (Str.ofString "turn")], [(Str.ofString "script"), (Str.ofString "turn"), (Str.ofString "cell"), (Str.ofString "own"), (Str.ofString "stirred")], top 51, f__law_pool⟩
def d__law_draw : Dd := ⟨(Str.ofString "_law_draw"), [(Str.ofString "pool"), (Str.ofString "many")], [(Str.ofString "pool"), (Str.ofString "many"), (Str.ofString "held"), (Str.ofString "figure")], top 52, f__law_draw⟩
def d__law_pick : Dd := ⟨(Str.ofString "_law_pick"), [(Str.ofString "pool"), (Str.ofString "some")], [(Str.ofString "pool"), (Str.ofString "some")], top 53, f__law_pick⟩
def d__law_web : Dd := ⟨(Str.ofString "_law_web"), [(Str.ofString "pool"), (Str.ofString "places"), (Str.ofString "roads"), (Str.ofString "high")], [(Str.ofString "pool"), (Str.ofString "places"), (Str.ofString "roads"), (Str.ofString "high"), (Str.ofString "place"), (Str.ofString "step"), (Str.ofString "many"), (Str.ofString "found"), (Str.ofString "one"), (Str.ofString "two"), (Str.ofString "pair")], top 54, f__law_web⟩
def d__law_apart : Dd := ⟨(Str.ofString "_law_apart"), [(Str.ofString "web")], [(Str.ofString "web"), (Str.ofString "rows"), (Str.ofString "mid"), (Str.ofString "many"), (Str.ofString "far"), (Str.ofString "one"), (Str.ofString "two"), (Str.ofString "length"), (Str.ofString "row"), (Str.ofString "each")], top 55, f__law_apart⟩
def d__law_heard : Dd := ⟨(Str.ofString "_law_heard"), [(Str.ofString "call"), (Str.ofString "args")], [(Str.ofString "call"), (Str.ofString "args"), (Str.ofString "e"), (Str.ofString "found")], top 56, f__law_heard⟩
def d__law_refused_right : Dd := ⟨(Str.ofString "_law_refused_right"), [(Str.ofString "pool"), (Str.ofString "call"), (Str.ofString "args"), (Str.ofString "some")], [(Str.ofString "pool"), (Str.ofString "call"), (Str.ofString "args"), (Str.ofString "some"), (Str.ofString "k"), (Str.ofString "heard"), (Str.ofString "thing"), (Str.ofString "word"), (Str.ofString "kept"), (Str.ofString "first"), (Str.ofString "second"), (Str.ofString "each")], top 57, f__law_refused_right⟩
def d__law_named : Dd := ⟨(Str.ofString "_law_named"), [(Str.ofString "things"), (Str.ofString "word")], [(Str.ofString "things"), (Str.ofString "word"), (Str.ofString "thing")], top 58, f__law_named⟩
def d__law_no_webs : Dd := ⟨(Str.ofString "_law_no_webs"), [(Str.ofString "web")], [(Str.ofString "web"), (Str.ofString "found"), (Str.ofString "some"), (Str.ofString "many"), (Str.ofString "roads"), (Str.ofString "each")], top 59, f__law_no_webs⟩
def d__law_right : Dd := ⟨(Str.ofString "_law_right"), [(Str.ofString "pool")], [(Str.ofString "pool"), (Str.ofString "turn"), (Str.ofString "other"), (Str.ofString "bad"), (Str.ofString "far"), (Str.ofString "call"), (Str.ofString "roads"), (Str.ofString "odd"), (Str.ofString "due"), (Str.ofString "web"), (Str.ofString "one"), (Str.ofString "two"), (Str.ofString "road")], top 60, f__law_right⟩
def d_law : Dd := ⟨(Str.ofString "law"), [(Str.ofString "script")], [(Str.ofString "script"), (Str.ofString "turn")], top 61, f_law⟩
def tF : List (Str × List Str) := [((Str.ofString "is_whole"), [(Str.ofString "value")]), ((Str.ofString "is_between"), [(Str.ofString "value"), (Str.ofString "low"), (Str.ofString "high")]), ((Str.ofString "is_tuple_of"), [(Str.ofString "value"), (Str.ofString "many")]), ((Str.ofString "is_length"), [(Str.ofString "value")]), ((Str.ofString "is_road"), [(Str.ofString "many"), (Str.ofString "value")]), ((Str.ofString "are_roads"), [(Str.ofString "many"), (Str.ofString "value")]), ((Str.ofString "is_web_by"), [(Str.ofString "value")]), ((Str.ofString "places_of"), [(Str.ofString "web")]), ((Str.ofString "first_table"), [(Str.ofString "web")]), ((Str.ofString "shorter"), [(Str.ofString "length"), (Str.ofString "one"), (Str.ofString "two")]), ((Str.ofString "distance_table"), [(Str.ofString "web")]), ((Str.ofString "distance_by"), [(Str.ofString "web"), (Str.ofString "one"), (Str.ofString "two")]), ((Str.ofString "without_road_by"), [(Str.ofString "web"), (Str.ofString "index")]), ((Str.ofString "check_web"), [(Str.ofString "value")]), ((Str.ofString "check_two_webs"), [(Str.ofString "web"), (Str.ofString "other_web")]), ((Str.ofString "check_place"), [(Str.ofString "web"), (Str.ofString "value")]), ((Str.ofString "check_number"), [(Str.ofString "value"), (Str.ofString "low"), (Str.ofString "high")]), ((Str.ofString "check_road"), [(Str.ofString "web"), (Str.ofString "value")]), ((Str.ofString "is_needless_by"), [(Str.ofString "web"), (Str.ofString "index")]), ((Str.ofString "needless_roads_by"), [(Str.ofString "web")])] ++ [((Str.ofString "thinned_by"), [(Str.ofString "web")]), ((Str.ofString "pair_unlike_by"), [(Str.ofString "web"), (Str.ofString "other")]), ((Str.ofString "distances_by"), [(Str.ofString "web")]), ((Str.ofString "is_needless"), [(Str.ofString "web"), (Str.ofString "road")]), ((Str.ofString "needless_roads"), [(Str.ofString "web")]), ((Str.ofString "thinned"), [(Str.ofString "web")]), ((Str.ofString "are_alike"), [(Str.ofString "web"), (Str.ofString "other_web")]), ((Str.ofString "pair_unlike"), [(Str.ofString "web"), (Str.ofString "other_web")]), ((Str.ofString "distances"), [(Str.ofString "web")]), ((Str.ofString "check_two_places"), [(Str.ofString "web"), (Str.ofString "place"), (Str.ofString "other")]), ((Str.ofString "distance"), [(Str.ofString "web"), (Str.ofString "place"), (Str.ofString "other")]), ((Str.ofString "_law_pool"), [(Str.ofString "script"), (Str.ofString "turn")]), ((Str.ofString "_law_draw"), [(Str.ofString "pool"), (Str.ofString "many")]), ((Str.ofString "_law_pick"), [(Str.ofString "pool"), (Str.ofString "some")]), ((Str.ofString "_law_web"), [(Str.ofString "pool"), (Str.ofString "places"), (Str.ofString "roads"), (Str.ofString "high")]), ((Str.ofString "_law_apart"), [(Str.ofString "web")]), ((Str.ofString "_law_heard"), [(Str.ofString "call"), (Str.ofString "args")]), ((Str.ofString "_law_refused_right"), [(Str.ofString "pool"), (Str.ofString "call"), (Str.ofString "args"), (Str.ofString "some")]), ((Str.ofString "_law_named"), [(Str.ofString "things"), (Str.ofString "word")]), ((Str.ofString "_law_no_webs"), [(Str.ofString "web")])] ++ [((Str.ofString "_law_right"), [(Str.ofString "pool")]), ((Str.ofString "law"), [(Str.ofString "script")])]
def tG : List (Str × Int) := [((Str.ofString "FIRST"), 0), ((Str.ofString "LENGTH"), 2), ((Str.ofString "MOST_LENGTH"), 99), ((Str.ofString "MOST_PLACES"), 9), ((Str.ofString "MOST_ROADS"), 20), ((Str.ofString "PLACES"), 0), ((Str.ofString "ROADS"), 1), ((Str.ofString "SECOND"), 1)]
def tB : List Str := [(Str.ofString "abs"), (Str.ofString "all"), (Str.ofString "bool"), (Str.ofString "divmod"), (Str.ofString "int"), (Str.ofString "isinstance"), (Str.ofString "len"), (Str.ofString "list"), (Str.ofString "max"), (Str.ofString "min"), (Str.ofString "range"), (Str.ofString "repr"), (Str.ofString "sorted"), (Str.ofString "tuple")]
def tK : List (Nat × Nat × List Str × List Nat) := [(28, 0, [(Str.ofString "web")], [0])]
def tE : List (Str × Nat) := [((Str.ofString "NotAWeb"), 0), ((Str.ofString "InvalidPlace"), 2), ((Str.ofString "InvalidNumber"), 4)]
def tR : List (Str × List Nat) := [((Str.ofString "HeapError"), [0, 2, 4]), ((Str.ofString "InvalidNumber"), [4]), ((Str.ofString "NotAWeb"), [0]), ((Str.ofString "ValueError"), [0, 2, 4])]
def T : Tb := ⟨tF, tG, tB, tK, tE, tR⟩
def e_NotAWeb : Ed := ⟨(Str.ofString "NotAWeb"), 0, (Str.ofString "given"), clsSt (top 2) 0⟩
def e_InvalidPlace : Ed := ⟨(Str.ofString "InvalidPlace"), 2, (Str.ofString "given"), clsSt (top 3) 0⟩
def e_InvalidNumber : Ed := ⟨(Str.ofString "InvalidNumber"), 4, (Str.ofString "given"), clsSt (top 4) 0⟩
def Es : List Ed := [e_NotAWeb, e_InvalidPlace, e_InvalidNumber]
def Ds : List Dd := [d_is_whole, d_is_between, d_is_tuple_of, d_is_length, d_is_road, d_are_roads, d_is_web_by, d_places_of, d_first_table, d_shorter, d_distance_table, d_distance_by, d_without_road_by, d_check_web, d_check_two_webs, d_check_place, d_check_number, d_check_road, d_is_needless_by, d_needless_roads_by] ++ [d_thinned_by, d_pair_unlike_by, d_distances_by, d_is_needless, d_needless_roads, d_thinned, d_are_alike, d_pair_unlike, d_distances, d_check_two_places, d_distance, d__law_pool, d__law_draw, d__law_pick, d__law_web, d__law_apart, d__law_heard, d__law_refused_right, d__law_named, d__law_no_webs] ++ [d__law_right, d_law]
def Ps : List Df := [f_is_whole, f_is_between, f_is_tuple_of, f_is_length, f_is_road, f_are_roads, f_is_web_by, f_places_of, f_first_table, f_shorter, f_distance_table, f_distance_by, f_without_road_by, f_check_web, f_check_two_webs, f_check_place, f_check_number, f_check_road, f_is_needless_by, f_needless_roads_by] ++ [f_thinned_by, f_pair_unlike_by, f_distances_by, f_is_needless, f_needless_roads, f_thinned, f_are_alike, f_pair_unlike, f_distances, f_check_two_places, f_distance, f__law_pool, f__law_draw, f__law_pick, f__law_web, f__law_apart, f__law_heard, f__law_refused_right, f__law_named, f__law_no_webs] ++ [f__law_right, f_law]
theorem cf_is_whole (n : Nat) (ds : List D) (A : AH) : callF Ps (n + 1) i_is_whole ds A = runDf (callF Ps n) f_is_whole ds A := rfl
theorem cf_is_between (n : Nat) (ds : List D) (A : AH) : callF Ps (n + 1) i_is_between ds A = runDf (callF Ps n) f_is_between ds A := rfl
theorem cf_is_tuple_of (n : Nat) (ds : List D) (A : AH) : callF Ps (n + 1) i_is_tuple_of ds A = runDf (callF Ps n) f_is_tuple_of ds A := rfl
theorem cf_is_length (n : Nat) (ds : List D) (A : AH) : callF Ps (n + 1) i_is_length ds A = runDf (callF Ps n) f_is_length ds A := rfl
theorem cf_is_road (n : Nat) (ds : List D) (A : AH) : callF Ps (n + 1) i_is_road ds A = runDf (callF Ps n) f_is_road ds A := rfl
theorem cf_are_roads (n : Nat) (ds : List D) (A : AH) : callF Ps (n + 1) i_are_roads ds A = runDf (callF Ps n) f_are_roads ds A := rfl
theorem cf_is_web_by (n : Nat) (ds : List D) (A : AH) : callF Ps (n + 1) i_is_web_by ds A = runDf (callF Ps n) f_is_web_by ds A := rfl
theorem cf_places_of (n : Nat) (ds : List D) (A : AH) : callF Ps (n + 1) i_places_of ds A = runDf (callF Ps n) f_places_of ds A := rfl
theorem cf_first_table (n : Nat) (ds : List D) (A : AH) : callF Ps (n + 1) i_first_table ds A = runDf (callF Ps n) f_first_table ds A := rfl
theorem cf_shorter (n : Nat) (ds : List D) (A : AH) : callF Ps (n + 1) i_shorter ds A = runDf (callF Ps n) f_shorter ds A := rfl
theorem cf_distance_table (n : Nat) (ds : List D) (A : AH) : callF Ps (n + 1) i_distance_table ds A = runDf (callF Ps n) f_distance_table ds A := rfl
theorem cf_distance_by (n : Nat) (ds : List D) (A : AH) : callF Ps (n + 1) i_distance_by ds A = runDf (callF Ps n) f_distance_by ds A := rfl
theorem cf_without_road_by (n : Nat) (ds : List D) (A : AH) : callF Ps (n + 1) i_without_road_by ds A = runDf (callF Ps n) f_without_road_by ds A := rfl
theorem cf_check_web (n : Nat) (ds : List D) (A : AH) : callF Ps (n + 1) i_check_web ds A = runDf (callF Ps n) f_check_web ds A := rfl
theorem cf_check_two_webs (n : Nat) (ds : List D) (A : AH) : callF Ps (n + 1) i_check_two_webs ds A = runDf (callF Ps n) f_check_two_webs ds A := rfl
theorem cf_check_place (n : Nat) (ds : List D) (A : AH) : callF Ps (n + 1) i_check_place ds A = runDf (callF Ps n) f_check_place ds A := rfl
theorem cf_check_number (n : Nat) (ds : List D) (A : AH) : callF Ps (n + 1) i_check_number ds A = runDf (callF Ps n) f_check_number ds A := rfl
theorem cf_check_road (n : Nat) (ds : List D) (A : AH) : callF Ps (n + 1) i_check_road ds A = runDf (callF Ps n) f_check_road ds A := rfl
theorem cf_is_needless_by (n : Nat) (ds : List D) (A : AH) : callF Ps (n + 1) i_is_needless_by ds A = runDf (callF Ps n) f_is_needless_by ds A := rfl
theorem cf_needless_roads_by (n : Nat) (ds : List D) (A : AH) : callF Ps (n + 1) i_needless_roads_by ds A = runDf (callF Ps n) f_needless_roads_by ds A := rfl
theorem cf_thinned_by (n : Nat) (ds : List D) (A : AH) : callF Ps (n + 1) i_thinned_by ds A = runDf (callF Ps n) f_thinned_by ds A := rfl
theorem cf_pair_unlike_by (n : Nat) (ds : List D) (A : AH) : callF Ps (n + 1) i_pair_unlike_by ds A = runDf (callF Ps n) f_pair_unlike_by ds A := rfl
theorem cf_distances_by (n : Nat) (ds : List D) (A : AH) : callF Ps (n + 1) i_distances_by ds A = runDf (callF Ps n) f_distances_by ds A := rfl
theorem cf_is_needless (n : Nat) (ds : List D) (A : AH) : callF Ps (n + 1) i_is_needless ds A = runDf (callF Ps n) f_is_needless ds A := rfl
theorem cf_needless_roads (n : Nat) (ds : List D) (A : AH) : callF Ps (n + 1) i_needless_roads ds A = runDf (callF Ps n) f_needless_roads ds A := rfl
theorem cf_thinned (n : Nat) (ds : List D) (A : AH) : callF Ps (n + 1) i_thinned ds A = runDf (callF Ps n) f_thinned ds A := rfl
theorem cf_are_alike (n : Nat) (ds : List D) (A : AH) : callF Ps (n + 1) i_are_alike ds A = runDf (callF Ps n) f_are_alike ds A := rfl
theorem cf_pair_unlike (n : Nat) (ds : List D) (A : AH) : callF Ps (n + 1) i_pair_unlike ds A = runDf (callF Ps n) f_pair_unlike ds A := rfl
theorem cf_distances (n : Nat) (ds : List D) (A : AH) : callF Ps (n + 1) i_distances ds A = runDf (callF Ps n) f_distances ds A := rfl
theorem cf_check_two_places (n : Nat) (ds : List D) (A : AH) : callF Ps (n + 1) i_check_two_places ds A = runDf (callF Ps n) f_check_two_places ds A := rfl
theorem cf_distance (n : Nat) (ds : List D) (A : AH) : callF Ps (n + 1) i_distance ds A = runDf (callF Ps n) f_distance ds A := rfl
theorem cf__law_pool (n : Nat) (ds : List D) (A : AH) : callF Ps (n + 1) i__law_pool ds A = runDf (callF Ps n) f__law_pool ds A := rfl
theorem cf__law_draw (n : Nat) (ds : List D) (A : AH) : callF Ps (n + 1) i__law_draw ds A = runDf (callF Ps n) f__law_draw ds A := rfl
theorem cf__law_pick (n : Nat) (ds : List D) (A : AH) : callF Ps (n + 1) i__law_pick ds A = runDf (callF Ps n) f__law_pick ds A := rfl
theorem cf__law_web (n : Nat) (ds : List D) (A : AH) : callF Ps (n + 1) i__law_web ds A = runDf (callF Ps n) f__law_web ds A := rfl
theorem cf__law_apart (n : Nat) (ds : List D) (A : AH) : callF Ps (n + 1) i__law_apart ds A = runDf (callF Ps n) f__law_apart ds A := rfl
theorem cf__law_heard (n : Nat) (ds : List D) (A : AH) : callF Ps (n + 1) i__law_heard ds A = runDf (callF Ps n) f__law_heard ds A := rfl
theorem cf__law_refused_right (n : Nat) (ds : List D) (A : AH) : callF Ps (n + 1) i__law_refused_right ds A = runDf (callF Ps n) f__law_refused_right ds A := rfl
theorem cf__law_named (n : Nat) (ds : List D) (A : AH) : callF Ps (n + 1) i__law_named ds A = runDf (callF Ps n) f__law_named ds A := rfl
theorem cf__law_no_webs (n : Nat) (ds : List D) (A : AH) : callF Ps (n + 1) i__law_no_webs ds A = runDf (callF Ps n) f__law_no_webs ds A := rfl
theorem cf__law_right (n : Nat) (ds : List D) (A : AH) : callF Ps (n + 1) i__law_right ds A = runDf (callF Ps n) f__law_right ds A := rfl
theorem cf_law (n : Nat) (ds : List D) (A : AH) : callF Ps (n + 1) i_law ds A = runDf (callF Ps n) f_law ds A := rfl
theorem rn_is_whole (n : Nat) (x0 : D) (A : AH) : callF Ps (n + 1) i_is_whole [x0] A = Ev.fnEnd true A (evSs (callF Ps n) b_is_whole [some x0] A) := (cf_is_whole n _ A).trans (Ev.run_eq rfl)
theorem rn_is_between (n : Nat) (x0 x1 x2 : D) (A : AH) : callF Ps (n + 1) i_is_between [x0, x1, x2] A = Ev.fnEnd true A (evSs (callF Ps n) b_is_between [some x0, some x1, some x2] A) := (cf_is_between n _ A).trans (Ev.run_eq rfl)
theorem rn_is_tuple_of (n : Nat) (x0 x1 : D) (A : AH) : callF Ps (n + 1) i_is_tuple_of [x0, x1] A = Ev.fnEnd true A (evSs (callF Ps n) b_is_tuple_of [some x0, some x1] A) := (cf_is_tuple_of n _ A).trans (Ev.run_eq rfl)
theorem rn_is_length (n : Nat) (x0 : D) (A : AH) : callF Ps (n + 1) i_is_length [x0] A = Ev.fnEnd true A (evSs (callF Ps n) b_is_length [some x0] A) := (cf_is_length n _ A).trans (Ev.run_eq rfl)
theorem rn_is_road (n : Nat) (x0 x1 : D) (A : AH) : callF Ps (n + 1) i_is_road [x0, x1] A = Ev.fnEnd true A (evSs (callF Ps n) b_is_road [some x0, some x1] A) := (cf_is_road n _ A).trans (Ev.run_eq rfl)
theorem rn_are_roads (n : Nat) (x0 x1 : D) (A : AH) : callF Ps (n + 1) i_are_roads [x0, x1] A = Ev.fnEnd true A (evSs (callF Ps n) b_are_roads [some x0, some x1, none, none] A) := (cf_are_roads n _ A).trans (Ev.run_eq rfl)
theorem rn_is_web_by (n : Nat) (x0 : D) (A : AH) : callF Ps (n + 1) i_is_web_by [x0] A = Ev.fnEnd true A (evSs (callF Ps n) b_is_web_by [some x0] A) := (cf_is_web_by n _ A).trans (Ev.run_eq rfl)
theorem rn_places_of (n : Nat) (x0 : D) (A : AH) : callF Ps (n + 1) i_places_of [x0] A = Ev.fnEnd true A (evSs (callF Ps n) b_places_of [some x0] A) := (cf_places_of n _ A).trans (Ev.run_eq rfl)
theorem rn_first_table (n : Nat) (x0 : D) (A : AH) : callF Ps (n + 1) i_first_table [x0] A = Ev.fnEnd false A (evSs (callF Ps n) b_first_table [some x0, none, none, none, none] A) := (cf_first_table n _ A).trans (Ev.run_eq rfl)
theorem rn_shorter (n : Nat) (x0 x1 x2 : D) (A : AH) : callF Ps (n + 1) i_shorter [x0, x1, x2] A = Ev.fnEnd true A (evSs (callF Ps n) b_shorter [some x0, some x1, some x2] A) := (cf_shorter n _ A).trans (Ev.run_eq rfl)
theorem rn_distance_table (n : Nat) (x0 : D) (A : AH) : callF Ps (n + 1) i_distance_table [x0] A = Ev.fnEnd true A (evSs (callF Ps n) b_distance_table [some x0, none, none, none, none] A) := (cf_distance_table n _ A).trans (Ev.run_eq rfl)
theorem rn_distance_by (n : Nat) (x0 x1 x2 : D) (A : AH) : callF Ps (n + 1) i_distance_by [x0, x1, x2] A = Ev.fnEnd true A (evSs (callF Ps n) b_distance_by [some x0, some x1, some x2] A) := (cf_distance_by n _ A).trans (Ev.run_eq rfl)
theorem rn_without_road_by (n : Nat) (x0 x1 : D) (A : AH) : callF Ps (n + 1) i_without_road_by [x0, x1] A = Ev.fnEnd true A (evSs (callF Ps n) b_without_road_by [some x0, some x1] A) := (cf_without_road_by n _ A).trans (Ev.run_eq rfl)
theorem rn_check_web (n : Nat) (x0 : D) (A : AH) : callF Ps (n + 1) i_check_web [x0] A = Ev.fnEnd true A (evSs (callF Ps n) b_check_web [some x0] A) := (cf_check_web n _ A).trans (Ev.run_eq rfl)
theorem rn_check_two_webs (n : Nat) (x0 x1 : D) (A : AH) : callF Ps (n + 1) i_check_two_webs [x0, x1] A = Ev.fnEnd true A (evSs (callF Ps n) b_check_two_webs [some x0, some x1] A) := (cf_check_two_webs n _ A).trans (Ev.run_eq rfl)
theorem rn_check_place (n : Nat) (x0 x1 : D) (A : AH) : callF Ps (n + 1) i_check_place [x0, x1] A = Ev.fnEnd true A (evSs (callF Ps n) b_check_place [some x0, some x1] A) := (cf_check_place n _ A).trans (Ev.run_eq rfl)
theorem rn_check_number (n : Nat) (x0 x1 x2 : D) (A : AH) : callF Ps (n + 1) i_check_number [x0, x1, x2] A = Ev.fnEnd true A (evSs (callF Ps n) b_check_number [some x0, some x1, some x2] A) := (cf_check_number n _ A).trans (Ev.run_eq rfl)
theorem rn_check_road (n : Nat) (x0 x1 : D) (A : AH) : callF Ps (n + 1) i_check_road [x0, x1] A = Ev.fnEnd true A (evSs (callF Ps n) b_check_road [some x0, some x1] A) := (cf_check_road n _ A).trans (Ev.run_eq rfl)
theorem rn_is_needless_by (n : Nat) (x0 x1 : D) (A : AH) : callF Ps (n + 1) i_is_needless_by [x0, x1] A = Ev.fnEnd true A (evSs (callF Ps n) b_is_needless_by [some x0, some x1, none, none, none, none] A) := (cf_is_needless_by n _ A).trans (Ev.run_eq rfl)
theorem rn_needless_roads_by (n : Nat) (x0 : D) (A : AH) : callF Ps (n + 1) i_needless_roads_by [x0] A = Ev.fnEnd true A (evSs (callF Ps n) b_needless_roads_by [some x0, none] A) := (cf_needless_roads_by n _ A).trans (Ev.run_eq rfl)
theorem rn_thinned_by (n : Nat) (x0 : D) (A : AH) : callF Ps (n + 1) i_thinned_by [x0] A = Ev.fnEnd true A (evSs (callF Ps n) b_thinned_by [some x0, none, none] A) := (cf_thinned_by n _ A).trans (Ev.run_eq rfl)
theorem rn_pair_unlike_by (n : Nat) (x0 x1 : D) (A : AH) : callF Ps (n + 1) i_pair_unlike_by [x0, x1] A = Ev.fnEnd true A (evSs (callF Ps n) b_pair_unlike_by [some x0, some x1, none, none, none, none, none, none] A) := (cf_pair_unlike_by n _ A).trans (Ev.run_eq rfl)
theorem rn_distances_by (n : Nat) (x0 : D) (A : AH) : callF Ps (n + 1) i_distances_by [x0] A = Ev.fnEnd true A (evSs (callF Ps n) b_distances_by [some x0, none] A) := (cf_distances_by n _ A).trans (Ev.run_eq rfl)
theorem rn_is_needless (n : Nat) (x0 x1 : D) (A : AH) : callF Ps (n + 1) i_is_needless [x0, x1] A = Ev.fnEnd true A (evSs (callF Ps n) b_is_needless [some x0, some x1] A) := (cf_is_needless n _ A).trans (Ev.run_eq rfl)
theorem rn_needless_roads (n : Nat) (x0 : D) (A : AH) : callF Ps (n + 1) i_needless_roads [x0] A = Ev.fnEnd true A (evSs (callF Ps n) b_needless_roads [some x0] A) := (cf_needless_roads n _ A).trans (Ev.run_eq rfl)
theorem rn_thinned (n : Nat) (x0 : D) (A : AH) : callF Ps (n + 1) i_thinned [x0] A = Ev.fnEnd true A (evSs (callF Ps n) b_thinned [some x0] A) := (cf_thinned n _ A).trans (Ev.run_eq rfl)
theorem rn_are_alike (n : Nat) (x0 x1 : D) (A : AH) : callF Ps (n + 1) i_are_alike [x0, x1] A = Ev.fnEnd true A (evSs (callF Ps n) b_are_alike [some x0, some x1] A) := (cf_are_alike n _ A).trans (Ev.run_eq rfl)
theorem rn_pair_unlike (n : Nat) (x0 x1 : D) (A : AH) : callF Ps (n + 1) i_pair_unlike [x0, x1] A = Ev.fnEnd true A (evSs (callF Ps n) b_pair_unlike [some x0, some x1] A) := (cf_pair_unlike n _ A).trans (Ev.run_eq rfl)
theorem rn_distances (n : Nat) (x0 : D) (A : AH) : callF Ps (n + 1) i_distances [x0] A = Ev.fnEnd true A (evSs (callF Ps n) b_distances [some x0] A) := (cf_distances n _ A).trans (Ev.run_eq rfl)
theorem rn_check_two_places (n : Nat) (x0 x1 x2 : D) (A : AH) : callF Ps (n + 1) i_check_two_places [x0, x1, x2] A = Ev.fnEnd true A (evSs (callF Ps n) b_check_two_places [some x0, some x1, some x2] A) := (cf_check_two_places n _ A).trans (Ev.run_eq rfl)
theorem rn_distance (n : Nat) (x0 x1 x2 : D) (A : AH) : callF Ps (n + 1) i_distance [x0, x1, x2] A = Ev.fnEnd true A (evSs (callF Ps n) b_distance [some x0, some x1, some x2] A) := (cf_distance n _ A).trans (Ev.run_eq rfl)
theorem rn__law_pool (n : Nat) (x0 x1 : D) (A : AH) : callF Ps (n + 1) i__law_pool [x0, x1] A = Ev.fnEnd false A (evSs (callF Ps n) b__law_pool [some x0, some x1, none, none, none] A) := (cf__law_pool n _ A).trans (Ev.run_eq rfl)
theorem rn__law_draw (n : Nat) (x0 x1 : D) (A : AH) : callF Ps (n + 1) i__law_draw [x0, x1] A = Ev.fnEnd true A (evSs (callF Ps n) b__law_draw [some x0, some x1, none, none] A) := (cf__law_draw n _ A).trans (Ev.run_eq rfl)
theorem rn__law_pick (n : Nat) (x0 x1 : D) (A : AH) : callF Ps (n + 1) i__law_pick [x0, x1] A = Ev.fnEnd true A (evSs (callF Ps n) b__law_pick [some x0, some x1] A) := (cf__law_pick n _ A).trans (Ev.run_eq rfl)
theorem rn__law_web (n : Nat) (x0 x1 x2 x3 : D) (A : AH) : callF Ps (n + 1) i__law_web [x0, x1, x2, x3] A = Ev.fnEnd true A (evSs (callF Ps n) b__law_web [some x0, some x1, some x2, some x3, none, none, none, none, none, none, none] A) := (cf__law_web n _ A).trans (Ev.run_eq rfl)
theorem rn__law_apart (n : Nat) (x0 : D) (A : AH) : callF Ps (n + 1) i__law_apart [x0] A = Ev.fnEnd true A (evSs (callF Ps n) b__law_apart [some x0, none, none, none, none, none, none, none, none, none] A) := (cf__law_apart n _ A).trans (Ev.run_eq rfl)
theorem rn__law_heard (n : Nat) (x0 x1 : D) (A : AH) : callF Ps (n + 1) i__law_heard [x0, x1] A = Ev.fnEnd true A (evSs (callF Ps n) b__law_heard [some x0, some x1, none, none] A) := (cf__law_heard n _ A).trans (Ev.run_eq rfl)
theorem rn__law_refused_right (n : Nat) (x0 x1 x2 x3 : D) (A : AH) : callF Ps (n + 1) i__law_refused_right [x0, x1, x2, x3] A = Ev.fnEnd true A (evSs (callF Ps n) b__law_refused_right [some x0, some x1, some x2, some x3, none, none, none, none, none, none, none, none] A) := (cf__law_refused_right n _ A).trans (Ev.run_eq rfl)
theorem rn__law_named (n : Nat) (x0 x1 : D) (A : AH) : callF Ps (n + 1) i__law_named [x0, x1] A = Ev.fnEnd true A (evSs (callF Ps n) b__law_named [some x0, some x1, none] A) := (cf__law_named n _ A).trans (Ev.run_eq rfl)
theorem rn__law_no_webs (n : Nat) (x0 : D) (A : AH) : callF Ps (n + 1) i__law_no_webs [x0] A = Ev.fnEnd true A (evSs (callF Ps n) b__law_no_webs [some x0, none, none, none, none, none] A) := (cf__law_no_webs n _ A).trans (Ev.run_eq rfl)
theorem rn__law_right (n : Nat) (x0 : D) (A : AH) : callF Ps (n + 1) i__law_right [x0] A = Ev.fnEnd true A (evSs (callF Ps n) b__law_right [some x0, none, none, none, none, none, none, none, none, none, none, none, none] A) := (cf__law_right n _ A).trans (Ev.run_eq rfl)
theorem rn_law (n : Nat) (x0 : D) (A : AH) : callF Ps (n + 1) i_law [x0] A = Ev.fnEnd true A (evSs (callF Ps n) b_law [some x0, none] A) := (cf_law n _ A).trans (Ev.run_eq rfl)
theorem hP : Ds.map Dd.df = Ps := rfl
end K64
namespace K64
open PySem Ev
theorem hT : T.fns = Ds.map fun d => (d.nm, d.ps) := by rfl
theorem hc : Ds.all (fun d => chkD T d) = true := by decide +kernel
theorem hTe : T.errs = Es.map fun e => (e.nm, e.c) := by rfl
theorem hEn : (Es.map Ed.c).Nodup := by decide +kernel
theorem hEc : Es.all chkN = true := by decide +kernel
theorem hTrn : T.trs.all (fun q => !dbg q.1 && !decide (q.1 = Str.ofString "__name__")) = true := by decide +kernel
end K64

set_option maxRecDepth 100000
namespace K64
open PySem (Str)
open Ev






theorem is_whole_int (n : Nat) (A : AH) (i : Int) : callF Ps (n + 1) i_is_whole [.int i] A = .ok (.bl true) A := by
  rw [rn_is_whole, b_is_whole]
  simp
theorem is_between_int (n : Nat) (A : AH) (i lo hi : Int) : callF Ps (n + 2) i_is_between [.int i, .int lo, .int hi] A = .ok (.bl (decide (lo ≤ i) && decide (i ≤ hi))) A := by
  rw [rn_is_between, b_is_between]
  simp [is_whole_int]
  by_cases h : lo ≤ i <;> simp [h]
theorem is_tuple_of_tup (n : Nat) (A : AH) (xs : List D) (k : Int) : callF Ps (n + 1) i_is_tuple_of [.tup xs, .int k] A = .ok (.bl ((xs.length : Int) == k)) A := by
  rw [rn_is_tuple_of, b_is_tuple_of]
  simp
theorem is_length_int (n : Nat) (A : AH) (i : Int) : callF Ps (n + 3) i_is_length [.int i] A = .ok (.bl (decide (1 ≤ i) && decide (i ≤ 99))) A := by
  rw [rn_is_length, b_is_length]
  simp [is_between_int]
theorem is_road_ok (n : Nat) (A : AH) (m : Nat) (r : Road) (h : r.1 < r.2.1 ∧ r.2.1 < m ∧ 1 ≤ r.2.2 ∧ r.2.2 ≤ 99) : callF Ps (n + 4) i_is_road [.int m, rD r] A = .ok (.bl true) A := by
  rw [rn_is_road, b_is_road]
  simp only [rD]
  have e1 : decide ((r.1 : Int) ≤ m - 1) = true := decide_eq_true (by omega)
  have e2 : decide ((1 : Int) ≤ r.2.2) = true := decide_eq_true (by omega)
  have e3 : decide ((r.2.2 : Int) ≤ 99) = true := decide_eq_true (by omega)
  have e4 : decide ((r.1 : Int) + 1 ≤ r.2.1) = true := decide_eq_true (by omega)
  have e5 : decide ((r.2.1 : Int) ≤ m - 1) = true := decide_eq_true (by omega)
  simp [is_between_int, is_tuple_of_tup, is_length_int, -decide_eq_true_eq, e1, e2, e3, e4, e5]
theorem c_are_roads_0_ok (n : Nat) (A : AH) (m : Nat) (rs : List Road) (e2 e3 : Option D) (h : WebOk m rs) : ev (callF Ps (n + 4)) c_are_roads_0 [some (.int m), some (.tup (rs.map rD)), e2, e3] A = .ok (.lst ((rs.map fun _ => true).map D.bl)) A := by
  rw [c_are_roads_0, List.map_map]
  exact cmp_map (f := rD) (by simp) (by have := h.len; omega) fun r hr => ⟨_, rfl, rfl, by simp [is_road_ok n A m r (h.road r hr)]⟩
theorem c_are_roads_1_ok (n : Nat) (A : AH) (m : Nat) (rs : List Road) (e2 e3 : Option D) (h : WebOk m rs) : ev (callF Ps (n + 4)) c_are_roads_1 [some (.int m), some (.tup (rs.map rD)), e2, e3] A = .ok (.lst (((List.range (rs.length - 1)).map fun _ => true).map D.bl)) A := by
  rw [c_are_roads_1, List.map_map]
  have hl := h.len
  have h1 : ((rs.length : Int) - 1).toNat = rs.length - 1 := by omega
  refine cmp_map (f := fun j : Nat => .int (1 + (j : Int))) ?_ (by rw [List.length_range]; omega) fun j hj => ⟨_, rfl, rfl, ?_⟩
  · have q := evi_r2 (cl := callF Ps (n + 4)) (env := [some (.int m), some (.tup (rs.map rD)), e2, e3]) (A := A) (a := .int 1) (b := .bi .len (.cons (.var 1) .nil)) (i := 1) (j := rs.length) (A1 := A) (A2 := A) (by simp) (by simp) (by omega) (by omega)
    rw [h1] at q
    exact q
  · have hj' : j < rs.length - 1 := List.mem_range.mp hj
    have a1 : j < rs.length := by omega
    have a2 : j + 1 < rs.length := by omega
    have e1 : (1 + (j : Int) - 1) = (j : Int) := by omega
    have e2 : (1 + (j : Int)) = ((j + 1 : Nat) : Int) := by omega
    have hs := List.pairwise_iff_getElem.mp h.sorted j (j + 1) a1 a2 (by omega)
    have hlt : lexLt [(rs[j].1 : Int), rs[j].2.1] [(rs[j+1].1 : Int), rs[j+1].2.1] = true := by
      simp only [lexLt]
      rcases hs with hs | ⟨hs1, hs2⟩
      · rw [if_neg (by omega)]; exact decide_eq_true (by omega)
      · rw [if_pos (by omega), if_neg (by omega)]; exact decide_eq_true (by omega)
    simp only [ev_cmp, ev_slc, ev_idx, ev_bin, ev_var, ev_int, ev_gv, evo_no, evo_yes, wipe_cons, wipe_nil, List.set_cons_succ, List.set_cons_zero, List.getElem?_cons_succ, List.getElem?_cons_zero, bnd_ok, binO_sub, ofO_some, e1, intO_int, Option.map_some]
    rw [e2]
    simp only [idxO_tup, atI_map a1, atI_map a2, ofO_some, bnd_ok, rD, slc_2, cmp_ltT, hlt, Option.map_some]
    rfl
theorem are_roads_ok (n : Nat) (A : AH) (m : Nat) (rs : List Road) (h : WebOk m rs) : callF Ps (n + 5) i_are_roads [.int m, .tup (rs.map rD)] A = .ok (.bl true) A := by
  rw [rn_are_roads, b_are_roads]
  have hl : decide ((20 : Int) < (rs.length : Int)) = false := decide_eq_false (by have := h.len; omega)
  have a0 := all_map_true (xs := rs) (f := fun _ => true) fun _ _ => rfl
  have a1 := all_map_true (xs := List.range (rs.length - 1)) (f := fun _ => true) fun _ _ => rfl
  simp [c_are_roads_0_ok n A m rs _ _ h, c_are_roads_1_ok n A m rs _ _ h, -decide_eq_true_eq, hl, a0, a1, -List.map_map, -List.map_const', -List.all_map]
theorem is_web_by_ok (n : Nat) (A : AH) (m : Nat) (rs : List Road) (h : WebOk m rs) : callF Ps (n + 6) i_is_web_by [wD m rs] A = .ok (.bl true) A := by
  rw [rn_is_web_by, b_is_web_by]
  simp only [wD]
  have e1 : decide ((1 : Int) ≤ m) = true := decide_eq_true (by have := h.lo; omega)
  have e2 : decide ((m : Int) ≤ 9) = true := decide_eq_true (by have := h.hi; omega)
  simp [is_tuple_of_tup, is_between_int, are_roads_ok n A m rs h, -decide_eq_true_eq, e1, e2]
/-- heaps of a web with m places -/
structure HeapsOk (m : Nat) (hs : List Int) : Prop where
  len : hs.length = m
  all : ∀ h ∈ hs, 0 ≤ h ∧ h ≤ 99



theorem draw_ok (n : Nat) (pre E : AH) (p : Int × Int × Int) (k : Int) (h : 0 < k ∧ k < 1073741824) : ∃ r q, 0 ≤ r ∧ r < k ∧ callF Ps (n + 1) i__law_draw [.ref pre.length, .int k] (St1 pre p E) = .ok (.int r) (St1 pre q E) := by
  rw [rn__law_draw, b__law_draw]
  by_cases hp : 0 < p.2.1
  · refine ⟨p.2.1 % k, (p.1, p.2.1 / k, p.2.2), Int.emod_nonneg _ (by omega), Int.emod_lt_of_pos _ h.1, ?_⟩
    simp [hp, h.1, h.2]
  · have e1 := mulR (A := St1 pre (p.1, p.2.1, p.2.2 + 1) E) p.1 (j := p.1 % 20011 + 30011) (by omega)
    have e2 := mulL (A := St1 pre (p.1, p.2.1, p.2.2 + 1) E) (i := 70001) (p.2.2 + 1) (by omega)
    refine ⟨(p.1 * (p.1 % 20011 + 30011) + 70001 * (p.2.2 + 1) + 9) % 2147483647 / 128 % k, ((p.1 * (p.1 % 20011 + 30011) + 70001 * (p.2.2 + 1) + 9) % 2147483647, p.2.1, p.2.2 + 1), Int.emod_nonneg _ (by omega), Int.emod_lt_of_pos _ h.1, ?_⟩
    simp [hp, h.1, e1, e2]
/-- a draw of a value of a list -/
theorem pick_ok (n : Nat) (pre E : AH) (p : Int × Int × Int) (xs : List Int) (h : 0 < xs.length ∧ xs.length < 1000) : ∃ x q, x ∈ xs ∧ callF Ps (n + 2) i__law_pick [.ref pre.length, .lst (xs.map D.int)] (St1 pre p E) = .ok (.int x) (St1 pre q E) := by
  obtain ⟨r, q, h1, h2, h3⟩ := draw_ok n pre E p xs.length (by omega)
  have e : r = ((r.toNat : Nat) : Int) := by omega
  have hl : r.toNat < xs.length := by omega
  rw [rn__law_pick, b__law_pick]
  refine ⟨xs[r.toNat], q, List.getElem_mem _, ?_⟩
  have a1 : atI (xs.map D.int) r = some (.int xs[r.toNat]) := by
    have := atI_map (f := D.int) hl
    rwa [← e] at this
  simp [h3, a1]
theorem l__law_pool_0_ok (cl : Cl) (A : AH) (ns : List Int) (d1 d3 : Option D) (s : Int) (h : ns.length ≤ 63) : ∃ e2 t, evS cl l__law_pool_0 [some (.kl (ns.map D.int)), d1, none, d3, some (.int s)] A = .ok (.nx, [some (.kl (ns.map D.int)), d1, e2, d3, some (.int t)]) A := by
  have key : ∃ env' A', evS cl l__law_pool_0 [some (.kl (ns.map D.int)), d1, none, d3, some (.int s)] A = .ok (.nx, env') A' ∧ ∃ e2 t, env' = [some (.kl (ns.map D.int)), d1, e2, d3, some (.int t)] ∧ A' = A := by
    rw [l__law_pool_0]
    refine for_inv (f := D.int) (xs := cut ns none (some 63)) (Pv := fun done env B => ∃ e2 t, env = [some (.kl (ns.map D.int)), d1, e2, d3, some (.int t)] ∧ B = A) (A1 := A) ?_ ⟨none, s, rfl, rfl⟩ ?_
    · simp [slc_kl, cut_map]
    rintro done x env B hp ⟨e2, t, rfl, rfl⟩
    exact ⟨_, _, .nx, _, _, rfl, by simp [mulR]; exact ⟨rfl, rfl⟩, .inl rfl, ⟨_, _, rfl, rfl⟩⟩
  obtain ⟨env', A', h1, e2, t, h2, h3⟩ := key
  exact ⟨e2, t, by rw [h1, h2, h3]⟩
theorem pool_end (cl : Cl) (pre : AH) (ns : List Int) (lap : D) (e2 : Option D) (own t : Int) : ∃ p, fnEnd false pre (bnd (evS cl (.ret (.lstM (.cons (.bin .mod (.bi .int (.cons (.bin .add (.var 4) (.bin .mul (.var 3) (.int 1013))) .nil)) (.int 2147483647)) (.cons (.ite (.or (.cmp .lt (.var 3) (.int 0)) (.one (.cmp .ge (.var 3) (.bin .pow (.int 10) (.int 18))))) (.bi .abs (.cons (.var 3) .nil)) (.int 0)) (.cons (.int 0) .nil)))))
    [some (.kl (ns.map D.int)), some lap, e2, some (.int own), some (.int t)] pre) (nextS cl .nil)) = .ok (.ref pre.length) (St1 pre p []) := by
  by_cases h1 : own < 0
  · refine ⟨((t + own * 1013) % 2147483647, -own, 0), ?_⟩
    simp [h1, mulR, St1, pl]
  · by_cases h2 : 1000000000000000000 ≤ own
    · refine ⟨((t + own * 1013) % 2147483647, own, 0), ?_⟩
      simp [h1, h2, mulR, pow_18, St1, pl]
    · refine ⟨((t + own * 1013) % 2147483647, 0, 0), ?_⟩
      simp [h1, h2, mulR, pow_18, St1, pl]
theorem pool_ok (n : Nat) (pre : AH) (ns : List Int) (lap : Nat) (h : ns.length ≤ 63) : ∃ p, callF Ps (n + 1) i__law_pool [.kl (ns.map D.int), .int lap] pre = .ok (.ref pre.length) (St1 pre p []) := by
  rw [rn__law_pool, b__law_pool]
  have go : ∀ own : Int, evSs (callF Ps n) (.cons (.par [3, 4] (.cons (.ite (.cmp .lt (.var 1) (.bi .len (.cons (.var 0) .nil))) (.bi .int (.cons (.idx (.var 0) (.var 1)) .nil)) (.bin .add (.bin .mul (.int 70001) (.var 1)) (.int 3244))) (.cons (.bin .add (.int 873283) (.bin .mul (.int 5087) (.var 1))) .nil))) .nil) [some (.kl (ns.map D.int)), some (.int lap), none, none, none] pre
      = .ok (.nx, [some (.kl (ns.map D.int)), some (.int lap), none, some (.int own), some (.int (873283 + 5087 * lap))]) pre →
      ∃ p, fnEnd false pre (evSs (callF Ps n) b__law_pool [some (.kl (ns.map D.int)), some (.int lap), none, none, none] pre) = .ok (.ref pre.length) (St1 pre p []) := by
    intro own ho
    obtain ⟨e2, t, hl⟩ := l__law_pool_0_ok (callF Ps n) pre ns (some (.int lap)) (some (.int own)) (873283 + 5087 * lap) h
    obtain ⟨p, hp⟩ := pool_end (callF Ps n) pre ns (.int lap) e2 own t
    refine ⟨p, ?_⟩
    rw [← hp]
    rw [evSs_cons] at ho
    rw [b__law_pool, evSs_cons]
    cases e : evS (callF Ps n) (.par [3, 4] (.cons (.ite (.cmp .lt (.var 1) (.bi .len (.cons (.var 0) .nil))) (.bi .int (.cons (.idx (.var 0) (.var 1)) .nil)) (.bin .add (.bin .mul (.int 70001) (.var 1)) (.int 3244))) (.cons (.bin .add (.int 873283) (.bin .mul (.int 5087) (.var 1))) .nil))) [some (.kl (ns.map D.int)), some (.int lap), none, none, none] pre with
    | ok f B =>
      rw [e, bnd_ok] at ho
      obtain ⟨fl, env⟩ := f
      cases fl with
      | nx =>
        rw [nextS_nx, evSs_nil] at ho
        cases ho
        rw [bnd_ok, nextS_nx, evSs_cons, hl, bnd_ok, nextS_nx, evSs_cons]
      | rt d => rw [nextS_rt] at ho; cases ho
      | bk => rw [nextS_bk] at ho; cases ho
      | ct => rw [nextS_ct] at ho; cases ho
    | exc _ _ _ => rw [e, bnd_exc] at ho; cases ho
    | bad => rw [e, bnd_bad] at ho; cases ho
  rw [b__law_pool] at go
  by_cases hlt : lap < ns.length
  · have a1 := at_int hlt
    exact go (ns.getD lap 0) (by simp [hlt, a1, mulL, -List.getD_eq_getElem?_getD])
  · exact go (70001 * lap + 3244) (by simp [hlt, mulL])
/-- roads so far: all before (a, b) -/
structure RdsOk (m a b k : Nat) (rs : List Road) : Prop where
  len : rs.length ≤ k
  road : ∀ r ∈ rs, r.1 < r.2.1 ∧ r.2.1 < m ∧ 1 ≤ r.2.2 ∧ r.2.2 ≤ 99
  sorted : rs.Pairwise fun a b => a.1 < b.1 ∨ (a.1 = b.1 ∧ a.2.1 < b.2.1)
  bef : ∀ r ∈ rs, r.1 < a ∨ (r.1 = a ∧ r.2.1 < b)
theorem RdsOk.mono {m a b k a' b' k' : Nat} {rs : List Road} (h : RdsOk m a b k rs) (hk : k ≤ k') (hb : ∀ x y : Nat, x < a ∨ (x = a ∧ y < b) → x < a' ∨ (x = a' ∧ y < b')) : RdsOk m a' b' k' rs :=
  ⟨Nat.le_trans h.len hk, h.road, h.sorted, fun r hr => hb _ _ (h.bef r hr)⟩
theorem RdsOk.snoc {m a b k l : Nat} {rs : List Road} (h : RdsOk m a b k rs) (h1 : a < b) (h2 : b < m) (h3 : 1 ≤ l ∧ l ≤ 99) : RdsOk m a (b + 1) (k + 1) (rs ++ [(a, b, l)]) := by
  refine ⟨by simp [h.len], fun r hr => ?_, ?_, fun r hr => ?_⟩
  · rcases List.mem_append.mp hr with hr | hr
    · exact h.road r hr
    · simp at hr; subst hr; exact ⟨h1, h2, h3.1, h3.2⟩
  · refine List.pairwise_append.mpr ⟨h.sorted, by simp, fun x hx y hy => ?_⟩
    simp at hy; subst hy
    exact h.bef x hx
  · rcases List.mem_append.mp hr with hr | hr
    · have := h.bef r hr; omega
    · simp at hr; subst hr; exact .inr ⟨rfl, Nat.lt_succ_self _⟩
abbrev wCond : E := .or (.cmp .eq (.var 5) (.int 0)) (.or (.and (.cmp .eq (.var 5) (.int 1)) (.one (.cmp .eq (.var 7) (.bin .add (.var 2) (.int 1))))) (.or (.and (.cmp .eq (.var 5) (.int 2)) (.one (.cmp .eq (.call i__law_draw (.cons (.var 0) (.cons (.int 3) .nil))) (.int 0)))) (.one (.and (.cmp .eq (.var 5) (.int 3)) (.one (.or (.cmp .eq (.var 7) (.bin .add (.var 2) (.int 1))) (.one (.cmp .eq (.call i__law_draw (.cons (.var 0) (.cons (.int 4) .nil))) (.int 0)))))))))
theorem wCond_ok (n : Nat) (pre E : AH) (q : Int × Int × Int) (e1 e3 e4 e6 e8 : Option D) (one two s : Int) (hs : 0 ≤ s ∧ s < 4) : ∃ b q', ev (callF Ps (n + 1)) wCond [some (.ref pre.length), e1, some (.int one), e3, e4, some (.int s), e6, some (.int two), e8] (St1 pre q E) = .ok (.bl b) (St1 pre q' E) := by
  rcases (show s = 0 ∨ s = 1 ∨ s = 2 ∨ s = 3 by omega) with rfl | rfl | rfl | rfl
  · exact ⟨true, q, by simp⟩
  · refine ⟨two == one + 1, q, ?_⟩
    by_cases h : two = one + 1 <;> simp [h]
  · obtain ⟨r, q2, r1, r2, r3⟩ := draw_ok n pre E q 3 (by omega)
    refine ⟨r == 0, q2, ?_⟩
    by_cases h : r = 0 <;> simp [h, r3]
  · by_cases h : two = one + 1
    · exact ⟨true, q, by simp [h]⟩
    · obtain ⟨r, q2, r1, r2, r3⟩ := draw_ok n pre E q 4 (by omega)
      refine ⟨r == 0, q2, ?_⟩
      by_cases h2 : r = 0 <;> simp [h, h2, r3]
abbrev wK (pre E : AH) : Nat := pre.length + (1 + E.length)
theorem RdsOk.sub {m a b k k' : Nat} {rs rs' : List Road} (h : RdsOk m a b k rs) (hs : rs'.Sublist rs) (hk : rs'.length ≤ k') : RdsOk m a b k' rs' :=
  ⟨hk, fun r hr => h.road r (hs.subset hr), h.sorted.sublist hs, fun r hr => h.bef r (hs.subset hr)⟩
theorem shal_St {pre E : AH} {q : Int × Int × Int} {xs ys : List D} {d : D} (h : d = .lst xs ∨ (d = .ref (wK pre E) ∧ xs = ys)) : shal (St1 pre q (E ++ [.lst ys])) d = .lst xs := by
  rcases h with rfl | ⟨rfl, rfl⟩
  · rfl
  · exact new_shal
end K64

set_option maxRecDepth 100000
namespace K64
open PySem (Str)
open Ev



theorem places_of_ok (n : Nat) (A : AH) (m : Nat) (rs : List Road) (hm : m ≤ 9) : callF Ps (n + 1) i_places_of [wD m rs] A = .ok (.lst ((List.range m).map fun k : Nat => .int k)) A := by
  rw [rn_places_of, b_places_of]
  have h1 : rngOk (m : Int) ∧ (m : Int) ≤ lim := ⟨rng_ok (by omega), by show (m : Int) ≤ 16777216; omega⟩
  have fe := fin_pu0 (A := A) (d := .lst ((List.range m).map fun k : Nat => .int k)) (by simp only [D.pu]; exact pu_nats 6 _)
  have e : ∀ cl : Cl, ev cl (.lrng (.idx (.var 0) (.gv (Str.ofString "PLACES") 0))) [some (wD m rs)] A = .ok (.lst ((List.range m).map fun k : Nat => .int k)) A := fun cl => by
    have e0 := ev_lrng' (cl := cl) (env := [some (wD m rs)]) (A := A) (.idx (.var 0) (.gv (Str.ofString "PLACES") 0))
    have e1 : ev cl (.idx (.var 0) (.gv (Str.ofString "PLACES") 0)) [some (wD m rs)] A = .ok (.int m) A := by simp [wD]
    rw [e1] at e0
    rw [e0, bnd_ok]
    simp only []
    rw [if_pos h1, Int.toNat_natCast, upto_0]
  simp only [evSs_cons, evS_ret, e, bnd_ok, nextS_rt, fnEnd_rt]
  exact fe
/-- the places that a for walks -/
theorem evi_places (n : Nat) (A : AH) (m : Nat) (rs : List Road) (env : Env) (hm : m ≤ 9) (h : env[0]? = some (some (wD m rs))) : evi (callF Ps (n + 1)) (.seq (.call i_places_of (.cons (.var 0) .nil))) env A = .ok ((List.range m).map fun k : Nat => .int k) A := by
  rw [evi_seq]
  simp only [ev_call, evs_cons, evs_nil, ev_var, h, bnd_ok, places_of_ok n A m rs hm, seqO_lst, ofO_some]
theorem c_first_table_0_ok (n : Nat) (A : AH) (m i : Nat) (rs : List Road) (e1 e3 e4 : Option D) (hm : m ≤ 9) : ev (callF Ps (n + 1)) c_first_table_0 [some (wD m rs), e1, some (.int i), e3, e4] A = .ok (.ref A.length) (A ++ [rowO m F00 i]) := by
  rw [c_first_table_0]
  refine cmp_mapM (f := fun j : Nat => .int j) (g := fun j => oD (F00 i j)) (xs := List.range m) (evi_places n A m rs _ hm rfl) (by rw [List.length_range]; omega) fun j hj => ⟨_, rfl, rfl, ?_⟩
  by_cases h : i = j
  · subst h; simp [F00, oD]
  · have h' : ¬ ((i : Int) = (j : Int)) := by omega
    simp [F00, oD, h, h']
theorem c_first_table_1_ok (n : Nat) (A : AH) (m : Nat) (rs : List Road) (e1 e2 e3 e4 : Option D) (hm : m ≤ 9) : ev (callF Ps (n + 1)) c_first_table_1 [some (wD m rs), e1, e2, e3, e4] A = .ok (farD A.length m) (A ++ matN m m F00) := by
  rw [c_first_table_1]
  obtain ⟨A', h1, h2⟩ := cmp_rng (cl := callF Ps (n + 1)) (env := [some (wD m rs), e1, e2, e3, e4]) (A := A) (A1 := A) (own := [2]) (tg := .nm 2) (it := .seq (.call i_places_of (.cons (.var 0) .nil))) (cs := .nil) (e := c_first_table_0) (n := m) (f := fun i : Nat => .int i) (g := fun i => .ref (A.length + i)) (Pv := fun i B => B = A ++ matN m i F00)
    (evi_places n A m rs _ hm rfl) (by omega) (by simp [matN]) (by
      rintro i B hi rfl
      refine ⟨_, _, _, A ++ matN m (i + 1) F00, rfl, rfl, ?_, rfl⟩
      have q := c_first_table_0_ok n (A ++ matN m i F00) m i rs e1 e3 e4 hm
      rw [List.length_append, matN_len, List.append_assoc, ← matN_succ] at q
      exact q)
  rw [h1, h2]
  rfl
theorem l_first_table_0_ok (cl : Cl) (A : AH) (m : Nat) (rs : List Road) (hw : WebOk m rs) : ∃ e2 e3 e4, evS cl l_first_table_0 [some (wD m rs), some (farD A.length m), none, none, none] (A ++ matN m m F00) =
    .ok (.nx, [some (wD m rs), some (farD A.length m), e2, e3, e4]) (A ++ matN m m (webF rs)) := by
  have key : ∃ env' A', evS cl l_first_table_0 [some (wD m rs), some (farD A.length m), none, none, none] (A ++ matN m m F00) = .ok (.nx, env') A' ∧
      ∃ e2 e3 e4, env' = [some (wD m rs), some (farD A.length m), e2, e3, e4] ∧ A' = A ++ matN m m (rs.foldl put2 F00) := by
    rw [l_first_table_0]
    refine for_inv (f := rD) (xs := rs) (Pv := fun done env B => ∃ e2 e3 e4, env = [some (wD m rs), some (farD A.length m), e2, e3, e4] ∧ B = A ++ matN m m (done.foldl put2 F00)) (A1 := A ++ matN m m F00) ?_
      ⟨none, none, none, rfl, rfl⟩ ?_
    · simp [wD]
    rintro done r env B hr ⟨e2, e3, e4, rfl, rfl⟩
    obtain ⟨r1, r2, r3, r4⟩ := hw.road r hr
    have f1 := far_idx (A := A) (B := A ++ matN m m (done.foldl put2 F00)) (m := m) (i := r.1) (by omega)
    have s1 := mat_set (A := A) (m := m) (F := done.foldl put2 F00) (i := r.1) (j := r.2.1) (by omega) (by omega) (some (r.2.2 : Int))
    have f2 := far_idx (A := A) (B := A ++ matN m m (updF (done.foldl put2 F00) r.1 r.2.1 (some (r.2.2 : Int)))) (m := m) (i := r.2.1) (by omega)
    have s2 := mat_set (A := A) (m := m) (F := updF (done.foldl put2 F00) r.1 r.2.1 (some (r.2.2 : Int))) (i := r.2.1) (j := r.1) (by omega) (by omega) (some (r.2.2 : Int))
    simp only [oD] at s1 s2
    refine ⟨[some (wD m rs), some (farD A.length m), some (.int r.1), some (.int r.2.1), some (.int r.2.2)], _, .nx, [some (wD m rs), some (farD A.length m), some (.int r.1), some (.int r.2.1), some (.int r.2.2)], A ++ matN m m ((done ++ [r]).foldl put2 F00), rfl, ?_, .inl rfl, ⟨_, _, _, rfl, rfl⟩⟩
    rw [List.foldl_append]
    simp [f1, s1, f2, s2, put2]
  obtain ⟨env', A', k1, e2, e3, e4, k2, k3⟩ := key
  exact ⟨e2, e3, e4, by rw [k1, k2, k3]; rfl⟩
theorem first_table_ok (n : Nat) (A : AH) (m : Nat) (rs : List Road) (hw : WebOk m rs) : callF Ps (n + 2) i_first_table [wD m rs] A = .ok (farD A.length m) (A ++ matN m m (webF rs)) := by
  obtain ⟨e2, e3, e4, h1⟩ := l_first_table_0_ok (callF Ps (n + 1)) A m rs hw
  rw [rn_first_table, b_first_table]
  simp only [evSs_cons, evS_asg, c_first_table_1_ok n A m rs none none none none hw.hi, bnd_ok, asg_nm, List.set_cons_succ, List.set_cons_zero, nextS_nx, h1, evS_ret, ev_var, List.getElem?_cons_succ, List.getElem?_cons_zero, nextS_rt, fnEnd_rt, fin_false]
/-- the lesser of a way and of two ways -/
theorem shorter_ok (n : Nat) (A : AH) (F : Mx) (k i j : Nat) : callF Ps (n + 1) i_shorter [oD (F i j), oD (F i k), oD (F k j)] A = .ok (oD (relax F k i j)) A := by
  rw [rn_shorter, b_shorter]
  have fe : ∀ o, finish true A (oD o) A = .ok (oD o) A := fun o => fin_pu0 (pu_oD 7 o)
  unfold relax
  cases e1 : F i k with
  | none => simp only [oD]; have := fe (F i j); cases e3 : F i j <;> simp [e3, oD] at this ⊢
  | some a =>
    cases e2 : F k j with
    | none => simp only [oD]; have := fe (F i j); cases e3 : F i j <;> simp [e3, oD] at this ⊢
    | some b =>
      cases e3 : F i j with
      | none => simp [oD]
      | some c =>
        by_cases h : a + b < c <;> simp [oD, h]
theorem l_distance_table_0_ok (n : Nat) (A : AH) (m a k : Nat) (rs : List Road) (F : Mx) (e4 : Option D) (hm : m ≤ 9) (ha : a < m) (hk : k < m) (hkk : F k k = some 0) : ∃ e4', evS (callF Ps (n + 1)) l_distance_table_0 [some (wD m rs), some (farD A.length m), some (.int k), some (.int a), e4] (A ++ matN m m (curF F k a 0)) =
    .ok (.nx, [some (wD m rs), some (farD A.length m), some (.int k), some (.int a), e4']) (A ++ matN m m (curF F k (a + 1) 0)) := by
  have key : ∃ env' A', evS (callF Ps (n + 1)) l_distance_table_0 [some (wD m rs), some (farD A.length m), some (.int k), some (.int a), e4] (A ++ matN m m (curF F k a 0)) = .ok (.nx, env') A' ∧
      ∃ e4', env' = [some (wD m rs), some (farD A.length m), some (.int k), some (.int a), e4'] ∧ A' = A ++ matN m m (curF F k a m) := by
    rw [l_distance_table_0]
    refine for_rng (n := m) (f := fun j : Nat => .int j) (Pv := fun b env B => ∃ e4', env = [some (wD m rs), some (farD A.length m), some (.int k), some (.int a), e4'] ∧ B = A ++ matN m m (curF F k a b)) (A1 := A ++ matN m m (curF F k a 0)) (evi_places n _ m rs _ hm rfl) ⟨e4, rfl, rfl⟩ ?_
    rintro b env B hb ⟨e4', rfl, rfl⟩
    refine ⟨_, _, .nx, _, A ++ matN m m (curF F k a (b + 1)), rfl, ?_, .inl rfl, ⟨some (.int b), rfl, rfl⟩⟩
    have fa := fun G => far_idx (A := A) (B := A ++ matN m m G) (m := m) (i := a) ha
    have fk := fun G => far_idx (A := A) (B := A ++ matN m m G) (m := m) (i := k) hk
    have iak := mat_idx (A := A) (m := m) (F := curF F k a b) (i := a) (j := k) ha hk
    have ikb := mat_idx (A := A) (m := m) (F := curF F k a b) (i := k) (j := b) hk hb
    have iab := mat_idx (A := A) (m := m) (F := curF F k a b) (i := a) (j := b) ha hb
    rw [cur_ik hkk] at iak
    rw [cur_kj hkk] at ikb
    rw [cur_at] at iab
    have st := mat_set (A := A) (m := m) (F := curF F k a b) (i := a) (j := b) ha hb (relax F k a b)
    rw [cur_set] at st
    have sh := shorter_ok n (A ++ matN m m (curF F k a b)) F k a b
    simp only [evSs_cons, evSs_nil, evS_asg, ev_call, ev_idx, ev_var, evs_cons, evs_nil, List.set_cons_succ, List.set_cons_zero, List.getElem?_cons_succ, List.getElem?_cons_zero, bnd_ok, fa, fk, ofO_some, iak, ikb, iab, sh, asg_sub, st, nextS_nx]
  obtain ⟨env', A', k1, e4', k2, k3⟩ := key
  exact ⟨e4', by rw [k1, k2, k3, cur_row]⟩
theorem l_distance_table_1_ok (n : Nat) (A : AH) (m k : Nat) (rs : List Road) (F : Mx) (e3 e4 : Option D) (hm : m ≤ 9) (hk : k < m) (hkk : F k k = some 0) : ∃ e3' e4', evS (callF Ps (n + 1)) l_distance_table_1 [some (wD m rs), some (farD A.length m), some (.int k), e3, e4] (A ++ matN m m F) =
    .ok (.nx, [some (wD m rs), some (farD A.length m), some (.int k), e3', e4']) (A ++ matN m m (relax F k)) := by
  have key : ∃ env' A', evS (callF Ps (n + 1)) l_distance_table_1 [some (wD m rs), some (farD A.length m), some (.int k), e3, e4] (A ++ matN m m F) = .ok (.nx, env') A' ∧
      ∃ e3' e4', env' = [some (wD m rs), some (farD A.length m), some (.int k), e3', e4'] ∧ A' = A ++ matN m m (curF F k m 0) := by
    rw [l_distance_table_1]
    refine for_rng (n := m) (f := fun j : Nat => .int j) (Pv := fun a env B => ∃ e3' e4', env = [some (wD m rs), some (farD A.length m), some (.int k), e3', e4'] ∧ B = A ++ matN m m (curF F k a 0)) (A1 := A ++ matN m m F) (evi_places n _ m rs _ hm rfl) ⟨e3, e4, rfl, by rw [cur_0]⟩ ?_
    rintro a env B ha ⟨e3', e4', rfl, rfl⟩
    obtain ⟨e4'', h⟩ := l_distance_table_0_ok n A m a k rs F e4' hm ha hk hkk
    exact ⟨_, _, .nx, [some (wD m rs), some (farD A.length m), some (.int k), some (.int a), e4''], A ++ matN m m (curF F k (a + 1) 0), rfl, by simp [h], .inl rfl, ⟨_, _, rfl, rfl⟩⟩
  obtain ⟨env', A', k1, e3', e4', k2, k3⟩ := key
  exact ⟨e3', e4', by rw [k1, k2, k3, cur_all]⟩
theorem l_distance_table_2_ok (n : Nat) (A : AH) (m : Nat) (rs : List Road) (F : Mx) (e2 e3 e4 : Option D) (hm : m ≤ 9) (hF : Tri m 0 rs F) : ∃ e2' e3' e4', evS (callF Ps (n + 1)) l_distance_table_2 [some (wD m rs), some (farD A.length m), e2, e3, e4] (A ++ matN m m F) =
    .ok (.nx, [some (wD m rs), some (farD A.length m), e2', e3', e4']) (A ++ matN m m (relN F m)) := by
  have key : ∃ env' A', evS (callF Ps (n + 1)) l_distance_table_2 [some (wD m rs), some (farD A.length m), e2, e3, e4] (A ++ matN m m F) = .ok (.nx, env') A' ∧
      ∃ e2' e3' e4', env' = [some (wD m rs), some (farD A.length m), e2', e3', e4'] ∧ A' = A ++ matN m m (relN F m) := by
    rw [l_distance_table_2]
    refine for_rng (n := m) (f := fun j : Nat => .int j) (Pv := fun k env B => ∃ e2' e3' e4', env = [some (wD m rs), some (farD A.length m), e2', e3', e4'] ∧ B = A ++ matN m m (relN F k)) (A1 := A ++ matN m m F) (evi_places n _ m rs _ hm rfl) ⟨e2, e3, e4, rfl, rfl⟩ ?_
    rintro k env B hk ⟨e2', e3', e4', rfl, rfl⟩
    obtain ⟨e3'', e4'', h⟩ := l_distance_table_1_ok n A m k rs (relN F k) e3' e4' hm hk ((relN_tri hF k (by omega)).diag k hk)
    exact ⟨_, _, .nx, [some (wD m rs), some (farD A.length m), some (.int k), e3'', e4''], A ++ matN m m (relN F (k + 1)), rfl, by simp [h]; rfl, .inl rfl, ⟨_, _, _, rfl, rfl⟩⟩
  obtain ⟨env', A', k1, e2', e3', e4', k2, k3⟩ := key
  exact ⟨e2', e3', e4', by rw [k1, k2, k3]⟩
theorem distance_table_ok (n : Nat) (A : AH) (m : Nat) (rs : List Road) (hw : WebOk m rs) : callF Ps (n + 3) i_distance_table [wD m rs] A = .ok (distD m (DF m rs)) A := by
  obtain ⟨e2, e3, e4, h1⟩ := l_distance_table_2_ok (n + 1) A m rs (webF rs) none none none hw.hi (webF_tri hw.uniq fun r hr => (hw.road r hr).1)
  rw [rn_distance_table, b_distance_table]
  obtain ⟨L, hf, hL⟩ := fz_far (A := A) (m := m) (F := DF m rs)
  have fe := fin_gen hf hL
  simp only [evSs_cons, evS_asg, ev_call, evs_cons, evs_nil, ev_var, List.getElem?_cons_zero, bnd_ok, first_table_ok n A m rs hw, asg_nm, List.set_cons_succ, List.set_cons_zero, nextS_nx, h1, evS_ret, List.getElem?_cons_succ, nextS_rt, fnEnd_rt]
  exact fe
theorem distance_by_ok (n : Nat) (A : AH) (m : Nat) (rs : List Road) (i j : Nat) (hw : WebOk m rs) (hi : i < m) (hj : j < m) : callF Ps (n + 4) i_distance_by [wD m rs, .int i, .int j] A = .ok (oD (DF m rs i j)) A := by
  rw [rn_distance_by, b_distance_by]
  have fe : ∀ o, finish true A (oD o) A = .ok (oD o) A := fun o => fin_pu0 (pu_oD 7 o)
  simp only [evSs_cons, evS_ret, ev_idx, ev_call, evs_cons, evs_nil, ev_var, List.getElem?_cons_zero, List.getElem?_cons_succ, bnd_ok, distance_table_ok n A m rs hw, dist_row hi, ofO_some, dist_at hj, nextS_rt, fnEnd_rt, fe]
theorem pu_parts (L : List (List Nat)) : D.pu 8 (.tup (L.map natD)) = true := by
  simp only [D.pu]
  refine pus_of fun x hx => ?_
  obtain ⟨n, _, rfl⟩ := List.mem_map.mp hx; exact pu_natD 5 n
theorem min_nat (a b : Nat) : (if (b : Int) < (a : Int) then (b : Int) else (a : Int)) = ((min a b : Nat) : Int) := by split <;> omega
theorem max_nat (a b : Nat) : (if (b : Int) > (a : Int) then (b : Int) else (a : Int)) = ((max a b : Nat) : Int) := by split <;> omega
theorem draw_nat (n : Nat) (pre E : AH) (p : Int × Int × Int) (k : Nat) (h : 0 < k ∧ k < 1000) : ∃ (r : Nat) (q : Int × Int × Int), r < k ∧ callF Ps (n + 1) i__law_draw [.ref pre.length, .int k] (St1 pre p E) = .ok (.int r) (St1 pre q E) := by
  obtain ⟨r, q, h1, h2, h3⟩ := draw_ok n pre E p k (by omega)
  have e : r = ((r.toNat : Nat) : Int) := by omega
  exact ⟨r.toNat, q, by omega, by rw [← e]; exact h3⟩
theorem isN_some (x : Option Int) : (decide (oD x = D.non) != true) = x.isSome := by cases x <;> simp [oD]
theorem isN_none (x : Option Int) : (decide (oD x = D.non) != false) = x.isNone := by cases x <;> simp [oD]
section
variable {cl : Cl} {A : AH} {m : Nat} {rs : List Road}
end

end K64

set_option maxRecDepth 100000
/-! K64d: a drawn web -/
namespace K64
open PySem (Str)
open Ev
structure RdD (m : Nat) (rs : List Road) : Prop where
  uq : Uniq rs
  rd : ∀ r ∈ rs, r.1 < r.2.1 ∧ r.2.1 < m ∧ 1 ≤ r.2.2 ∧ r.2.2 ≤ 99
theorem RdD.nil {m : Nat} : RdD m [] := ⟨List.Pairwise.nil, fun r h => by cases h⟩
theorem RdD.put {m : Nat} {rs : List Road} {r : Road} (h : RdD m rs) (hr : r.1 < r.2.1 ∧ r.2.1 < m ∧ 1 ≤ r.2.2 ∧ r.2.2 ≤ 99) : RdD m (putR rs r) :=
  ⟨putR_uniq h.uq, fun q hq => (putR_mem hq).elim (fun e => e ▸ hr) fun hq => h.rd q hq⟩
section
variable (n : Nat) (pre E : AH)
theorem dO_setP {q : Int × Int × Int} {rs : List Road} (hl : rs.length < 1000) (a b l : Nat) : setO (St1 pre q (E ++ [dO rs])) (.ref (wK pre E)) (.tup [.int a, .int b]) (.int l) = some (St1 pre q (E ++ [dO (putR rs (a, b, l))])) := by
  have h : (St1 pre q (E ++ [dO rs]))[wK pre E]? = some (dO rs) := new_get
  rw [dO_set h hl, new_set]
theorem l0_ok (q : Int × Int × Int) (m : Nat) (e1 e2 e5 : Option D) (hm : 1 ≤ m ∧ m ≤ 9) :
    ∃ e4 q' rs, evS (callF Ps (n + 1)) l__law_web_0 [some (.ref pre.length), e1, e2, some (.int 99), none, e5, some (.int m), some (.ref (wK pre E)), none, none, none] (St1 pre q (E ++ [dO []])) =
      .ok (.nx, [some (.ref pre.length), e1, e2, some (.int 99), e4, e5, some (.int m), some (.ref (wK pre E)), none, none, none]) (St1 pre q' (E ++ [dO rs])) ∧ RdD m rs ∧ rs.length ≤ 8 := by
  have key : ∃ env' A', evS (callF Ps (n + 1)) l__law_web_0 [some (.ref pre.length), e1, e2, some (.int 99), none, e5, some (.int m), some (.ref (wK pre E)), none, none, none] (St1 pre q (E ++ [dO []])) = .ok (.nx, env') A' ∧
      ∃ e4 q' rs, env' = [some (.ref pre.length), e1, e2, some (.int 99), e4, e5, some (.int m), some (.ref (wK pre E)), none, none, none] ∧ A' = St1 pre q' (E ++ [dO rs]) ∧ RdD m rs ∧ rs.length ≤ ((m : Int) - 1).toNat := by
    rw [l__law_web_0]
    refine for_rng (f := fun k : Nat => D.int (1 + (k : Int))) (n := ((m : Int) - 1).toNat) (Pv := fun k env B => ∃ e4 q' rs, env = [some (.ref pre.length), e1, e2, some (.int 99), e4, e5, some (.int m), some (.ref (wK pre E)), none, none, none] ∧ B = St1 pre q' (E ++ [dO rs]) ∧ RdD m rs ∧ rs.length ≤ k) (A1 := St1 pre q (E ++ [dO []])) ?_ ⟨none, q, [], rfl, rfl, .nil, by simp⟩ ?_
    · exact evi_r2 (ev_int _) (by simp) (by omega) (by omega)
    rintro k env B hk ⟨e4, q1, rs, rfl, rfl, hR, hL⟩
    obtain ⟨r, q2, _, hr⟩ := draw_nat n pre (E ++ [dO rs]) q1 6 (by omega)
    have hr : callF Ps (n + 1) i__law_draw [.ref pre.length, .int 6] (St1 pre q1 (E ++ [dO rs])) = .ok (.int r) (St1 pre q2 (E ++ [dO rs])) := hr
    by_cases hz : 0 < r
    · obtain ⟨l, q3, hl, hl2⟩ := draw_nat n pre (E ++ [dO rs]) q2 99 (by omega)
      have hl2 : callF Ps (n + 1) i__law_draw [.ref pre.length, .int 99] (St1 pre q2 (E ++ [dO rs])) = .ok (.int l) (St1 pre q3 (E ++ [dO rs])) := hl2
      obtain ⟨a, q4, ha, ha2⟩ := draw_nat n pre (E ++ [dO rs]) q3 (1 + k) (by omega)
      have ha2 : callF Ps (n + 1) i__law_draw [.ref pre.length, .int (1 + (k : Int))] (St1 pre q3 (E ++ [dO rs])) = .ok (.int a) (St1 pre q4 (E ++ [dO rs])) := by
        rw [← ha2]; congr 3
      have hs := dO_setP pre E (q := q4) (rs := rs) (by omega) a (1 + k) (1 + l)
      have hs : setO (St1 pre q4 (E ++ [dO rs])) (.ref (wK pre E)) (.tup [.int a, .int (1 + (k : Int))]) (.int (1 + (l : Int))) = some (St1 pre q4 (E ++ [dO (putR rs (a, 1 + k, 1 + l))])) := by
        rw [← hs]; push_cast; rfl
      refine ⟨_, _, .nx, _, _, asg_nm _ _, ?_, .inl rfl, some (.int (1 + (k : Int))), q4, putR rs (a, 1 + k, 1 + l), rfl, rfl, hR.put ⟨ha, by show 1 + k < m; omega, by show 1 ≤ 1 + l; omega, by show 1 + l ≤ 99; omega⟩, Nat.le_trans (putR_len _ _) (by omega)⟩
      simp [hr, hz, hl2, ha2, hs]
    · refine ⟨_, _, .nx, _, _, asg_nm _ _, ?_, .inl rfl, some (.int (1 + (k : Int))), q2, rs, rfl, rfl, hR, by omega⟩
      simp [hr, hz]
  obtain ⟨env', A', h1, e4, q', rs, h2, h3, h4, h5⟩ := key
  exact ⟨e4, q', rs, by rw [h1, h2, h3], h4, by omega⟩
theorem l1_ok (q : Int × Int × Int) (m : Nat) (e1 e4 : Option D) (rs0 : List Road) (hm : 1 ≤ m ∧ m ≤ 9) (h0 : RdD m rs0) (hl0 : rs0.length ≤ 8) :
    ∃ e5 e8 e9 q' rs, evS (callF Ps (n + 1)) l__law_web_1 [some (.ref pre.length), e1, some (.int 20), some (.int 99), e4, none, some (.int m), some (.ref (wK pre E)), none, none, none] (St1 pre q (E ++ [dO rs0])) =
      .ok (.nx, [some (.ref pre.length), e1, some (.int 20), some (.int 99), e4, e5, some (.int m), some (.ref (wK pre E)), e8, e9, none]) (St1 pre q' (E ++ [dO rs])) ∧ RdD m rs ∧ rs.length ≤ 20 := by
  obtain ⟨s, q0, hs, hs2⟩ := draw_nat n pre (E ++ [dO rs0]) q (m + 1) (by omega)
  have hs2 : callF Ps (n + 1) i__law_draw [.ref pre.length, .int ((m : Int) + 1)] (St1 pre q (E ++ [dO rs0])) = .ok (.int s) (St1 pre q0 (E ++ [dO rs0])) := by
    rw [← hs2]; congr 3
  have key : ∃ env' A', evS (callF Ps (n + 1)) l__law_web_1 [some (.ref pre.length), e1, some (.int 20), some (.int 99), e4, none, some (.int m), some (.ref (wK pre E)), none, none, none] (St1 pre q (E ++ [dO rs0])) = .ok (.nx, env') A' ∧
      ∃ e5 e8 e9 q' rs, env' = [some (.ref pre.length), e1, some (.int 20), some (.int 99), e4, e5, some (.int m), some (.ref (wK pre E)), e8, e9, none] ∧ A' = St1 pre q' (E ++ [dO rs]) ∧ RdD m rs ∧ rs.length ≤ 20 := by
    rw [l__law_web_1]
    refine for_rng (f := fun k : Nat => D.int (k : Int)) (n := s) (Pv := fun k env B => ∃ e5 e8 e9 q' rs, env = [some (.ref pre.length), e1, some (.int 20), some (.int 99), e4, e5, some (.int m), some (.ref (wK pre E)), e8, e9, none] ∧ B = St1 pre q' (E ++ [dO rs]) ∧ RdD m rs ∧ rs.length ≤ 20) (A1 := St1 pre q0 (E ++ [dO rs0])) ?_ ⟨none, none, none, q0, rs0, rfl, rfl, h0, by omega⟩ ?_
    · exact evi_r1 (by simp [hs2]) (by omega)
    rintro k env B hk ⟨e5, e8, e9, q1, rs, rfl, rfl, hR, hL⟩
    obtain ⟨a, q2, ha, ha2⟩ := draw_nat n pre (E ++ [dO rs]) q1 m (by omega)
    obtain ⟨b, q3, hb, hb2⟩ := draw_nat n pre (E ++ [dO rs]) q2 m (by omega)
    have hg : (St1 pre q3 (E ++ [dO rs]))[wK pre E]? = some (dO rs) := new_get
    have hlen : lenO (St1 pre q3 (E ++ [dO rs])) (.ref (wK pre E)) = some (rs.length : Int) := by
      unfold lenO
      rw [dO_len hg]
      simp [dD]
    by_cases hz : a < b ∧ rs.length < 20
    · obtain ⟨l, q4, hl, hl2⟩ := draw_nat n pre (E ++ [dO rs]) q3 99 (by omega)
      have hl2 : callF Ps (n + 1) i__law_draw [.ref pre.length, .int 99] (St1 pre q3 (E ++ [dO rs])) = .ok (.int l) (St1 pre q4 (E ++ [dO rs])) := hl2
      have hs := dO_setP pre E (q := q4) (rs := rs) (by omega) a b (1 + l)
      have hs : setO (St1 pre q4 (E ++ [dO rs])) (.ref (wK pre E)) (.tup [.int a, .int b]) (.int (1 + (l : Int))) = some (St1 pre q4 (E ++ [dO (putR rs (a, b, 1 + l))])) := by
        rw [← hs]; push_cast; rfl
      have hz1 : (a : Int) < b := by omega
      have hz2 : (rs.length : Int) < 20 := by omega
      refine ⟨_, _, .nx, _, _, asg_nm _ _, ?_, .inl rfl, some (.int k), some (.int a), some (.int b), q4, putR rs (a, b, 1 + l), rfl, rfl, hR.put ⟨hz.1, hb, by show 1 ≤ 1 + l; omega, by show 1 + l ≤ 99; omega⟩, Nat.le_trans (putR_len _ _) (by omega)⟩
      simp [ha2, hb2, hz1, hz2, hlen, hl2, hs]
    · refine ⟨_, _, .nx, _, _, asg_nm _ _, ?_, .inl rfl, some (.int k), some (.int a), some (.int b), q3, rs, rfl, rfl, hR, hL⟩
      by_cases h1 : (a : Int) < b
      · have h2 : ¬ ((rs.length : Int) < 20) := by omega
        simp [ha2, hb2, h1, h2, hlen]
      · simp [ha2, hb2, h1]
  obtain ⟨env', A', h1, e5, e8, e9, q', rs, h2, h3, h4, h5⟩ := key
  exact ⟨e5, e8, e9, q', rs, by rw [h1, h2, h3], h4, h5⟩
end
theorem c0_ok (cl : Cl) (A : AH) (rs : List Road) (e0 e1 e2 e3 e4 e5 e6 e8 e9 : Option D) (hu : Uniq rs) (hl : rs.length ≤ 20) :
    ev cl c__law_web_0 [e0, e1, e2, e3, e4, e5, e6, some (dD rs), e8, e9, none] A = .ok (.lst (rs.map rD)) A := by
  rw [c__law_web_0]
  refine cmp_map (f := fun r : Road => .tup [.int r.1, .int r.2.1]) (by simp [dD_keys]) (by omega) fun r hr => ⟨_, asg_nm _ _, rfl, ?_⟩
  simp [dD_idx A hu hr, rD]
theorem frz_dict (cl : Cl) (pre E : AH) (q : Int × Int × Int) (rs : List Road) (env : Env) (h : env[7]? = some (some (.ref (wK pre E)))) : evS cl (.frz 7) env (St1 pre q (E ++ [dO rs])) = .ok (.nx, env.set 7 (some (dD rs))) (St1 pre q (E ++ [.dead])) := by
  have hg : (St1 pre q (E ++ [dO rs]))[wK pre E]? = some (dO rs) := new_get
  have e : fz (St1 pre q (E ++ [dO rs])) 8 (.ref (wK pre E)) = some (dD rs, [wK pre E]) := by
    have e1 : fz (St1 pre q (E ++ [dO rs])) 8 (.ref (wK pre E)) = (fzL (fz (St1 pre q (E ++ [dO rs])) 7) (rs.map vR)).map fun p => (D.dt (rs.map kR) p.1, wK pre E :: p.2) := by
      simp only [fz]
      rw [hg]
      rfl
    rw [e1, fzL_pure fun x hx => by obtain ⟨r, _, rfl⟩ := List.mem_map.mp hx; rfl]
    rfl
  have e2 : evS cl (.frz 7) env (St1 pre q (E ++ [dO rs])) = match env[7]? with
    | some (some d) => match fz (St1 pre q (E ++ [dO rs])) 8 d with
      | some (d', L) => .ok (.nx, env.set 7 (some d')) (killAll L (St1 pre q (E ++ [dO rs])))
      | none => .bad
    | _ => .bad := by simp only [evS]; rfl
  rw [e2, h]
  simp only [e]
  congr 1
  exact new_set
theorem web_ok (n : Nat) (pre E : AH) (p : Int × Int × Int) : ∃ m rs q, WebOk m rs ∧ callF Ps (n + 2) i__law_web [.ref pre.length, .int 9, .int 20, .int 99] (St1 pre p E) = .ok (wD m rs) (St1 pre q E) := by
  obtain ⟨r, q0, hr, hd⟩ := draw_nat n pre E p 9 (by omega)
  have hd : callF Ps (n + 1) i__law_draw [.ref pre.length, .int 9] (St1 pre p E) = .ok (.int r) (St1 pre q0 E) := hd
  obtain ⟨e4, q1, rs0, h1, hR0, hL0⟩ := l0_ok n pre E q0 (1 + r) (some (.int 9)) (some (.int 20)) none (by omega)
  obtain ⟨e5, e8, e9, q2, rs, h2, hR, hL⟩ := l1_ok n pre E q1 (1 + r) (some (.int 9)) e4 rs0 (by omega) hR0 hL0
  obtain ⟨rs', hs, hp⟩ := sortR rs
  have hw : WebOk (1 + r) rs' := sortR_ok (by omega) (by omega) hL hR.rd hR.uq hs hp
  refine ⟨1 + r, rs', q2, hw, ?_⟩
  rw [rn__law_web, b__law_web]
  have c1 : ((1 + r : Nat) : Int) = 1 + (r : Int) := by omega
  rw [c1] at h1 h2
  have sl : (St1 pre q0 E).length = wK pre E := St1_len
  have d0 : St1 pre q0 (E ++ [O.dt [] []]) = St1 pre q0 (E ++ [dO []]) := rfl
  have hf := frz_dict (callF Ps (n + 1)) pre E q2 rs [some (.ref pre.length), some (.int 9), some (.int 20), some (.int 99), e4, e5, some (.int (1 + (r : Int))), some (.ref (wK pre E)), e8, e9, none] rfl
  have hc := c0_ok (callF Ps (n + 1)) (St1 pre q2 (E ++ [.dead])) rs (some (.ref pre.length)) (some (.int 9)) (some (.int 20)) (some (.int 99)) e4 e5 (some (.int (1 + (r : Int)))) e8 e9 hR.uq hL
  have ct : cut (rs'.map rD) none (some 20) = rs'.map rD := by
    have hl := hw.len
    unfold cut
    have e1 : sIx (rs'.map rD).length (rs'.map rD).length (some 20) = rs'.length := by
      rw [List.length_map]
      show (if (20 : Int) < 0 then ((20 : Int) + ((rs'.length : Nat) : Int)).toNat else min (20 : Int).toNat rs'.length) = rs'.length
      rw [if_neg (by omega)]
      show min 20 rs'.length = rs'.length
      omega
    rw [e1]
    show ((rs'.map rD).drop 0).take (rs'.length - 0) = _
    rw [List.drop_zero, Nat.sub_zero, List.take_of_length_le (by simp)]
  have fe := fin_pool_pu (pre := pre) (p := p) (q := q2) (E := E) (E' := [.dead]) (d := wD (1 + r) rs') (pu_wD 4 _ _)
  have tk : (rs'.map keyR).map tupD = rs'.map rD := by rw [List.map_map]; exact List.map_congr_left fun r _ => rfl
  simp only [evSs_cons, evS_asg, ev_tup, evs_cons, evs_nil, ev_bin, ev_int, ev_call, ev_var, List.getElem?_cons_succ, List.getElem?_cons_zero, bnd_ok, hd, binO_add, ofO_some, ev_dtN, sl, St1_app, d0, asg_tup, shal_tup, unpO_tup, asgs_cons, asg_nm, List.set_cons_succ, List.set_cons_zero, asgs_nil, nextS_nx, h1, h2, hf]
  simp only [evS_ret, ev_tup, evs_cons, evs_nil, ev_var, List.getElem?_cons_succ, List.getElem?_cons_zero, bnd_ok, ev_bi, ev_slc, evo_no, evo_yes, ev_int, intO_int, Option.map_some, ofO_some, hc, bi_sorted, shal_lst, seqO_lst, Option.bind_some, keysT_roads, hs, tk, slcO, ct, bi_tuple, nextS_rt, fnEnd_rt]
  rw [show (1 + (r : Int)) = ((1 + r : Nat) : Int) by omega]
  exact fe
end K64

set_option maxRecDepth 100000
/-! K64e: the law's own distances -/
namespace K64
open PySem (Str)
open Ev
section
variable (cl : Cl) (A : AH) (m : Nat) (rs : List Road)
theorem apart_c0 (i : Nat) (e0 e1 e2 e6 e7 e8 e9 : Option D) (hm : m ≤ 9) : ev cl c__law_apart_0 [e0, e1, e2, some (.int m), some (.int 1000000000), some (.int i), e6, e7, e8, e9] A = .ok (.ref A.length) (A ++ [rowO m (bigF F00) i]) := by
  rw [c__law_apart_0]
  refine cmp_mapM (f := fun j : Nat => .int j) (g := fun j => oD (bigF F00 i j)) (xs := List.range m) (evi_r1 (by simp) (by omega)) (by rw [List.length_range]; omega) fun j hj => ⟨_, asg_nm _ _, rfl, ?_⟩
  by_cases h : i = j
  · subst h; simp [F00, oD_big, bigI]
  · have h' : ¬ ((i : Int) = (j : Int)) := by omega
    simp [F00, oD_big, bigI, h, h']
theorem apart_c1 (e0 e1 e2 e5 e6 e7 e8 e9 : Option D) (hm : m ≤ 9) : ev cl c__law_apart_1 [e0, e1, e2, some (.int m), some (.int 1000000000), e5, e6, e7, e8, e9] A = .ok (farD A.length m) (A ++ matN m m (bigF F00)) := by
  rw [c__law_apart_1]
  obtain ⟨A', h1, h2⟩ := cmp_rng (cl := cl) (env := [e0, e1, e2, some (.int m), some (.int 1000000000), e5, e6, e7, e8, e9]) (A := A) (A1 := A) (own := [5]) (tg := .nm 5) (it := .rng1 (.var 3)) (cs := .nil) (e := c__law_apart_0) (n := m) (f := fun i : Nat => .int i) (g := fun i => .ref (A.length + i)) (Pv := fun i B => B = A ++ matN m i (bigF F00))
    (evi_r1 (by simp) (by omega)) (by omega) (by simp [matN]) (by
      rintro i B hi rfl
      refine ⟨_, _, _, A ++ matN m (i + 1) (bigF F00), asg_nm _ _, rfl, ?_, rfl⟩
      have q := apart_c0 cl (A ++ matN m i (bigF F00)) m i e0 e1 e2 e6 e7 e8 e9 hm
      rw [List.length_append, matN_len, List.append_assoc, ← matN_succ] at q
      exact q)
  rw [h1, h2]
  rfl
theorem apart_l0 (hw : WebOk m rs) : ∃ e5 e6 e7, evS cl l__law_apart_0 [some (wD m rs), some (farD A.length m), none, some (.int m), some (.int 1000000000), none, none, none, none, none] (A ++ matN m m (bigF F00)) =
    .ok (.nx, [some (wD m rs), some (farD A.length m), none, some (.int m), some (.int 1000000000), e5, e6, e7, none, none]) (A ++ matN m m (bigF (webF rs))) := by
  have key : ∃ env' A', evS cl l__law_apart_0 [some (wD m rs), some (farD A.length m), none, some (.int m), some (.int 1000000000), none, none, none, none, none] (A ++ matN m m (bigF F00)) = .ok (.nx, env') A' ∧
      ∃ e5 e6 e7, env' = [some (wD m rs), some (farD A.length m), none, some (.int m), some (.int 1000000000), e5, e6, e7, none, none] ∧ A' = A ++ matN m m (bigF (webF rs)) := by
    rw [l__law_apart_0]
    have q := for_ix (cl := cl) (env := [some (wD m rs), some (farD A.length m), none, some (.int m), some (.int 1000000000), none, none, none, none, none]) (A := A ++ matN m m (bigF F00)) (A1 := A ++ matN m m (bigF F00)) (tg := .tup (.cons (.nm 5) (.cons (.nm 6) (.cons (.nm 7) .nil)))) (it := .seq (.idx (.var 0) (.int 1))) (f := rD) (xs := rs)
      (body := .cons (.asg (.tup (.cons (.sub (.idx (.var 1) (.var 5)) (.var 6)) (.cons (.sub (.idx (.var 1) (.var 6)) (.var 5)) .nil))) (.tup (.cons (.bi .min2 (.cons (.idx (.idx (.var 1) (.var 5)) (.var 6)) (.cons (.var 7) .nil))) (.cons (.bi .min2 (.cons (.idx (.idx (.var 1) (.var 6)) (.var 5)) (.cons (.var 7) .nil))) .nil)))) .nil)
      (Pv := fun k env B => ∃ e5 e6 e7, env = [some (wD m rs), some (farD A.length m), none, some (.int m), some (.int 1000000000), e5, e6, e7, none, none] ∧ B = A ++ matN m m (bigF ((rs.take k).foldl put2 F00))) (by simp [wD]) ⟨none, none, none, rfl, rfl⟩ (by
      rintro k r env B hk ⟨e5, e6, e7, rfl, rfl⟩
      have hr : r ∈ rs := List.mem_of_getElem? hk
      obtain ⟨r1, r2, r3, r4⟩ := hw.road r hr
      have hkl : k < rs.length := (List.getElem?_eq_some_iff.mp hk).1
      have hkr : rs[k] = r := (List.getElem?_eq_some_iff.mp hk).2
      have no : ∀ i j, Ends r i j → (rs.take k).foldl put2 F00 i j = none := fun i j he => by
        rcases fold_is (rs.take k) F00 i j with ⟨q, hq, h1, _⟩ | ⟨_, h2⟩
        · exfalso
          obtain ⟨t, ht, hqt⟩ := List.mem_iff_getElem.mp hq
          rw [List.getElem_take] at hqt
          rw [List.length_take] at ht
          have u := List.pairwise_iff_getElem.mp hw.uniq t k (by omega) hkl (by omega)
          have w1 := hw.road q (List.mem_of_mem_take hq)
          rw [hqt, hkr] at u
          unfold Ends at he h1
          omega
        · rw [h2]; unfold F00
          unfold Ends at he
          rw [if_neg (by omega)]
      have n1 := no r.1 r.2.1 (.inl ⟨rfl, rfl⟩)
      have n2 := no r.2.1 r.1 (.inr ⟨rfl, rfl⟩)
      generalize hF : (rs.take k).foldl put2 F00 = F at n1 n2
      have f1 := fun G => far_idx (A := A) (B := A ++ matN m m G) (m := m) (i := r.1) (by omega)
      have f2 := fun G => far_idx (A := A) (B := A ++ matN m m G) (m := m) (i := r.2.1) (by omega)
      have i1 := mat_idx (A := A) (m := m) (F := bigF F) (i := r.1) (j := r.2.1) (by omega) (by omega)
      have i2 := mat_idx (A := A) (m := m) (F := bigF F) (i := r.2.1) (j := r.1) (by omega) (by omega)
      rw [oD_big, big_none n1] at i1
      rw [oD_big, big_none n2] at i2
      have s1 := mat_set (A := A) (m := m) (F := bigF F) (i := r.1) (j := r.2.1) (by omega) (by omega) (some (bigI (some (r.2.2 : Int))))
      have s2 := mat_set (A := A) (m := m) (F := updF (bigF F) r.1 r.2.1 (some (bigI (some (r.2.2 : Int))))) (i := r.2.1) (j := r.1) (by omega) (by omega) (some (bigI (some (r.2.2 : Int))))
      have e3 : updF (updF (bigF F) r.1 r.2.1 (some (bigI (some (r.2.2 : Int))))) r.2.1 r.1 (some (bigI (some (r.2.2 : Int)))) = bigF (put2 F r) := by
        rw [upd_big, upd_big]; rfl
      rw [e3] at s2
      have eo : oD (some (bigI (some (r.2.2 : Int)))) = .int r.2.2 := rfl
      rw [eo] at s1 s2
      have lt : ¬ ((r.2.2 : Int) ≥ 1000000000) := by omega
      have lt' : (r.2.2 : Int) < 1000000000 := by omega
      refine ⟨[some (wD m rs), some (farD A.length m), none, some (.int m), some (.int 1000000000), some (.int r.1), some (.int r.2.1), some (.int r.2.2), none, none], _, .nx, [some (wD m rs), some (farD A.length m), none, some (.int m), some (.int 1000000000), some (.int r.1), some (.int r.2.1), some (.int r.2.2), none, none], A ++ matN m m (bigF (put2 F r)), rfl, ?_, .inl rfl, ⟨_, _, _, rfl, ?_⟩⟩
      · simp [f1, f2, i1, i2, s1, s2, lt', biO]
      · rw [List.take_succ, hk, Option.toList_some, List.foldl_append, hF]; rfl)
    obtain ⟨env', A', k1, e5, e6, e7, k2, k3⟩ := q
    exact ⟨env', A', k1, e5, e6, e7, k2, by rw [k3, List.take_length]; rfl⟩
  obtain ⟨env', A', k1, e5, e6, e7, k2, k3⟩ := key
  exact ⟨e5, e6, e7, by rw [k1, k2, k3]⟩

theorem apart_l1 (a k : Nat) (F : Mx) (e0 e6 e7 e8 e9 : Option D) (hm : m ≤ 9) (ha : a < m) (hk : k < m) (hkk : F k k = some 0) (hB : Bd 50688 F) :
    ∃ e6', evS cl l__law_apart_1 [e0, some (farD A.length m), some (.int k), some (.int m), some (.int 1000000000), some (.int a), e6, e7, e8, e9] (A ++ matN m m (bigF (curF F k a 0))) =
      .ok (.nx, [e0, some (farD A.length m), some (.int k), some (.int m), some (.int 1000000000), some (.int a), e6', e7, e8, e9]) (A ++ matN m m (bigF (curF F k (a + 1) 0))) := by
  have key : ∃ env' A', evS cl l__law_apart_1 [e0, some (farD A.length m), some (.int k), some (.int m), some (.int 1000000000), some (.int a), e6, e7, e8, e9] (A ++ matN m m (bigF (curF F k a 0))) = .ok (.nx, env') A' ∧
      ∃ e6', env' = [e0, some (farD A.length m), some (.int k), some (.int m), some (.int 1000000000), some (.int a), e6', e7, e8, e9] ∧ A' = A ++ matN m m (bigF (curF F k a m)) := by
    rw [l__law_apart_1]
    refine for_rng (n := m) (f := fun j : Nat => .int j) (Pv := fun b env B => ∃ e6', env = [e0, some (farD A.length m), some (.int k), some (.int m), some (.int 1000000000), some (.int a), e6', e7, e8, e9] ∧ B = A ++ matN m m (bigF (curF F k a b))) (A1 := A ++ matN m m (bigF (curF F k a 0))) (evi_r1 (by simp) (by omega)) ⟨e6, rfl, rfl⟩ ?_
    rintro b env B hb ⟨e6', rfl, rfl⟩
    refine ⟨_, _, .nx, _, A ++ matN m m (bigF (curF F k a (b + 1))), asg_nm _ _, ?_, .inl rfl, ⟨some (.int b), rfl, rfl⟩⟩
    have fa := fun G => far_idx (A := A) (B := A ++ matN m m G) (m := m) (i := a) ha
    have fk := fun G => far_idx (A := A) (B := A ++ matN m m G) (m := m) (i := k) hk
    have iak := mat_idx (A := A) (m := m) (F := bigF (curF F k a b)) (i := a) (j := k) ha hk
    have ikb := mat_idx (A := A) (m := m) (F := bigF (curF F k a b)) (i := k) (j := b) hk hb
    have iab := mat_idx (A := A) (m := m) (F := bigF (curF F k a b)) (i := a) (j := b) ha hb
    rw [oD_big, cur_ik hkk] at iak
    rw [oD_big, cur_kj hkk] at ikb
    rw [oD_big, cur_at] at iab
    have st := mat_set (A := A) (m := m) (F := bigF (curF F k a b)) (i := a) (j := b) ha hb (some (bigI (relax F k a b)))
    rw [upd_big, cur_set] at st
    have eo : oD (some (bigI (relax F k a b))) = .int (bigI (relax F k a b)) := rfl
    rw [eo] at st
    have br := big_relax (hB.mono (by omega : (50688 : Int) ≤ 100000)) k a b
    have mi : biO (A ++ matN m m (bigF (curF F k a b))) .min2 [.int (bigI (F a b)), .int (bigI (F a k) + bigI (F k b))] = some (.int (bigI (relax F k a b))) := by
      rw [← br]; rfl
    simp only [evSs_cons, evSs_nil, evS_asg, ev_bi, ev_bin, ev_idx, ev_var, evs_cons, evs_nil, List.set_cons_succ, List.set_cons_zero, List.getElem?_cons_succ, List.getElem?_cons_zero, bnd_ok, fa, fk, ofO_some, iak, ikb, iab, binO_add, mi, asg_sub, st, nextS_nx]
  obtain ⟨env', A', k1, e6', k2, k3⟩ := key
  refine ⟨e6', ?_⟩
  have cr : matN m m (bigF (curF F k a m)) = matN m m (bigF (curF F k (a + 1) 0)) := matN_congr fun i j hi hj => by
    unfold bigF curF
    by_cases h : i < a ∨ (i = a ∧ j < m)
    · rw [if_pos h, if_pos (by omega)]
    · rw [if_neg h, if_neg (by omega)]
  rw [k1, k2, k3, cr]
theorem apart_l2 (k : Nat) (F : Mx) (e0 e5 e6 e7 e8 e9 : Option D) (hm : m ≤ 9) (hk : k < m) (hkk : F k k = some 0) (hB : Bd 50688 F) :
    ∃ e5' e6', evS cl l__law_apart_2 [e0, some (farD A.length m), some (.int k), some (.int m), some (.int 1000000000), e5, e6, e7, e8, e9] (A ++ matN m m (bigF F)) =
      .ok (.nx, [e0, some (farD A.length m), some (.int k), some (.int m), some (.int 1000000000), e5', e6', e7, e8, e9]) (A ++ matN m m (bigF (relax F k))) := by
  have key : ∃ env' A', evS cl l__law_apart_2 [e0, some (farD A.length m), some (.int k), some (.int m), some (.int 1000000000), e5, e6, e7, e8, e9] (A ++ matN m m (bigF F)) = .ok (.nx, env') A' ∧
      ∃ e5' e6', env' = [e0, some (farD A.length m), some (.int k), some (.int m), some (.int 1000000000), e5', e6', e7, e8, e9] ∧ A' = A ++ matN m m (bigF (curF F k m 0)) := by
    rw [l__law_apart_2]
    refine for_rng (n := m) (f := fun j : Nat => .int j) (Pv := fun a env B => ∃ e5' e6', env = [e0, some (farD A.length m), some (.int k), some (.int m), some (.int 1000000000), e5', e6', e7, e8, e9] ∧ B = A ++ matN m m (bigF (curF F k a 0))) (A1 := A ++ matN m m (bigF F)) (evi_r1 (by simp) (by omega)) ⟨e5, e6, rfl, by rw [cur_0]⟩ ?_
    rintro a env B ha ⟨e5', e6', rfl, rfl⟩
    obtain ⟨e6'', h⟩ := apart_l1 cl A m a k F e0 e6' e7 e8 e9 hm ha hk hkk hB
    exact ⟨_, _, .nx, [e0, some (farD A.length m), some (.int k), some (.int m), some (.int 1000000000), some (.int a), e6'', e7, e8, e9], A ++ matN m m (bigF (curF F k (a + 1) 0)), asg_nm _ _, by simp [h], .inl rfl, ⟨_, _, rfl, rfl⟩⟩
  obtain ⟨env', A', k1, e5', e6', k2, k3⟩ := key
  refine ⟨e5', e6', ?_⟩
  have cr : matN m m (bigF (curF F k m 0)) = matN m m (bigF (relax F k)) := matN_congr fun i j hi hj => by
    unfold bigF curF; rw [if_pos (.inl hi)]
  rw [k1, k2, k3, cr]
theorem apart_l3 (hw : WebOk m rs) (e0 e5 e6 e7 e8 e9 : Option D) : ∃ e2' e5' e6', evS cl l__law_apart_3 [e0, some (farD A.length m), none, some (.int m), some (.int 1000000000), e5, e6, e7, e8, e9] (A ++ matN m m (bigF (webF rs))) =
      .ok (.nx, [e0, some (farD A.length m), e2', some (.int m), some (.int 1000000000), e5', e6', e7, e8, e9]) (A ++ matN m m (bigF (DF m rs))) := by
  have key : ∃ env' A', evS cl l__law_apart_3 [e0, some (farD A.length m), none, some (.int m), some (.int 1000000000), e5, e6, e7, e8, e9] (A ++ matN m m (bigF (webF rs))) = .ok (.nx, env') A' ∧
      ∃ e2' e5' e6', env' = [e0, some (farD A.length m), e2', some (.int m), some (.int 1000000000), e5', e6', e7, e8, e9] ∧ A' = A ++ matN m m (bigF (relN (webF rs) m)) := by
    rw [l__law_apart_3]
    refine for_rng (n := m) (f := fun j : Nat => .int j) (Pv := fun k env B => ∃ e2' e5' e6', env = [e0, some (farD A.length m), e2', some (.int m), some (.int 1000000000), e5', e6', e7, e8, e9] ∧ B = A ++ matN m m (bigF (relN (webF rs) k))) (A1 := A ++ matN m m (bigF (webF rs))) (evi_r1 (by simp) (by have := hw.hi; omega)) ⟨none, e5, e6, rfl, rfl⟩ ?_
    rintro k env B hk ⟨e2', e5', e6', rfl, rfl⟩
    have hm := hw.hi
    obtain ⟨e5'', e6'', h⟩ := apart_l2 cl A m k (relN (webF rs) k) e0 e5' e6' e7 e8 e9 hm hk ((relN_tri (webF_tri hw.uniq fun r hr => (hw.road r hr).1) k (by omega)).diag k hk) (relN_bd hw (by omega))
    exact ⟨_, _, .nx, [e0, some (farD A.length m), some (.int k), some (.int m), some (.int 1000000000), e5'', e6'', e7, e8, e9], A ++ matN m m (bigF (relN (webF rs) (k + 1))), asg_nm _ _, by simp [h]; rfl, .inl rfl, ⟨_, _, _, rfl, rfl⟩⟩
  obtain ⟨env', A', k1, e2', e5', e6', k2, k3⟩ := key
  exact ⟨e2', e5', e6', by rw [k1, k2, k3]; rfl⟩
theorem apart_c3 (F : Mx) (hB : Bd 50688 F) (hm : m ≤ 9) (e0 e2 e3 e5 e6 e7 e8 e9 : Option D) : ev cl c__law_apart_3 [e0, some (distD m (bigF F)), e2, e3, some (.int 1000000000), e5, e6, e7, e8, e9] A = .ok (.lst ((List.range m).map fun i => .tup ((List.range m).map fun j => oD (F i j)))) A := by
  rw [c__law_apart_3]
  refine cmp_map (f := fun i : Nat => .lst ((List.range m).map fun j => oD (bigF F i j))) (by simp [distD]) (by rw [List.length_range]; omega) fun i hi => ⟨_, asg_nm _ _, rfl, ?_⟩
  have h2 : ∀ e9', ev cl c__law_apart_2 [e0, some (distD m (bigF F)), e2, e3, some (.int 1000000000), e5, e6, e7, some (.lst ((List.range m).map fun j => oD (bigF F i j))), e9'] A = .ok (.lst ((List.range m).map fun j => oD (F i j))) A := fun e9' => by
    rw [c__law_apart_2]
    refine cmp_map (f := fun j : Nat => oD (bigF F i j)) (by simp) (by rw [List.length_range]; omega) fun j hj => ⟨_, asg_nm _ _, rfl, ?_⟩
    cases e : F i j with
    | none =>
      have hv : oD (bigF F i j) = .int 1000000000 := by rw [oD_big, e]; rfl
      rw [hv, oD_none]; simp
    | some v =>
      have := hB i j v e
      have lt : v < 1000000000 := by omega
      have hv : oD (bigF F i j) = .int v := by rw [oD_big, e]; rfl
      rw [hv, oD_some]; simp [lt]
  simp [h2]
end
theorem pow_9 (A : AH) : binO A .pow (.int 10) (.int 9) = some (.int 1000000000) := by
  show (if 0 ≤ (9 : Int) ∧ (9 : Int) ≤ 1000000 ∧ (10 : Int).natAbs < 2 ^ 64 then some (D.int (10 ^ (9 : Int).toNat)) else none) = _
  rw [if_pos (by decide)]; rfl
theorem law_apart_ok (n : Nat) (A : AH) (m : Nat) (rs : List Road) (hw : WebOk m rs) : callF Ps (n + 1) i__law_apart [wD m rs] A = .ok (tabT m (DF m rs)) A := by
  have hm := hw.hi
  rw [rn__law_apart, b__law_apart]
  have hc1 := apart_c1 (callF Ps n) A m (some (wD m rs)) none none none none none none none hm
  obtain ⟨e5, e6, e7, h0⟩ := apart_l0 (callF Ps n) A m rs hw
  obtain ⟨e2, e5', e6', h3⟩ := apart_l3 (callF Ps n) A m rs hw (some (wD m rs)) e5 e6 e7 none none
  obtain ⟨L, hf, hL⟩ := fz_far (A := A) (m := m) (F := bigF (DF m rs))
  obtain ⟨E', hk⟩ := kill_app (A := A) (E := matN m m (bigF (DF m rs))) hL
  have hz := evS_frz (cl := callF Ps n) (env := [some (wD m rs), some (farD A.length m), e2, some (.int m), some (.int 1000000000), e5', e6', e7, none, none]) (i := 1) rfl hf
  rw [hk] at hz
  have hc3 := apart_c3 (callF Ps n) (A ++ E') m (DF m rs) (DF_bd hw) hm (some (wD m rs)) e2 (some (.int m)) e5' e6' e7 none none
  have fe : finish true A (tabT m (DF m rs)) (A ++ E') = .ok (tabT m (DF m rs)) A := fin_pu (pu_tab m _ 5)
  have w0 : idxO A (wD m rs) (.int 0) = some (.int m) := by simp [wD]
  simp only [evSs_cons, evS_asg, ev_tup, evs_cons, evs_nil, ev_idx, ev_var, ev_int, ev_bin, List.getElem?_cons_succ, List.getElem?_cons_zero, bnd_ok, w0, ofO_some, pow_9, asg_tup, shal_tup, unpO_tup, asgs_cons, asg_nm, List.set_cons_succ, List.set_cons_zero, asgs_nil, nextS_nx, hc1, h0, h3, hz]
  simp only [evS_ret, ev_bi, evs_cons, evs_nil, hc3, bnd_ok, bi_tuple, shal_lst, seqO_lst, Option.map_some, ofO_some, nextS_rt, fnEnd_rt]
  exact fe
end K64

set_option maxRecDepth 100000
/-! K64f: things that are no webs -/
namespace K64
open PySem (Str)
open Ev
@[simp] theorem isi_dk (ks : List Key) (vs : List D) (t : String) : isiT (.dk ks vs) t = L2.kitB "dict" t := (Eq.refl _).trans rfl
@[simp] theorem shal_dk (A : AH) (ks : List Key) (vs : List D) : shal A (.dk ks vs) = .dk ks vs := (Eq.refl _).trans rfl
@[simp] theorem shal_str (A : AH) (s : Str) : shal A (.str s) = .str s := (Eq.refl _).trans rfl
/-- it is no web, and it is told so -/
def NotW (x : D) : Prop := ∀ (n : Nat) (A : AH), callF Ps (n + 6) i_is_web_by [x] A = .ok (.bl false) A
theorem whole_of (n : Nat) (A : AH) (x : D) (h : ∀ i, x ≠ .int i) (k : ∃ t, tyName x = some t ∧ (t = "NoneType" ∨ t = "bool" ∨ t = "str" ∨ t = "tuple" ∨ t = "list" ∨ t = "dict")) (hs : shal A x = x) : callF Ps (n + 1) i_is_whole [x] A = .ok (.bl false) A := by
  obtain ⟨t, e, ht⟩ := k
  rw [rn_is_whole, b_is_whole]
  have i1 : isiT x "int" = L2.kitB t "int" := by unfold isiT; rw [e]; rfl
  have i2 : isiT x "bool" = L2.kitB t "bool" := by unfold isiT; rw [e]; rfl
  rcases ht with rfl | rfl | rfl | rfl | rfl | rfl <;> simp [hs, i1, i2]
theorem tuple_of_not (n : Nat) (A : AH) (x : D) (k : Int) (h : ∃ t, tyName x = some t ∧ (t = "NoneType" ∨ t = "bool" ∨ t = "int" ∨ t = "str" ∨ t = "list" ∨ t = "dict")) (hs : shal A x = x) : callF Ps (n + 1) i_is_tuple_of [x, .int k] A = .ok (.bl false) A := by
  obtain ⟨t, e, ht⟩ := h
  rw [rn_is_tuple_of, b_is_tuple_of]
  have i1 : isiT x "tuple" = L2.kitB t "tuple" := by unfold isiT; rw [e]; rfl
  rcases ht with rfl | rfl | rfl | rfl | rfl | rfl <;> simp [hs, i1]
theorem between_not (n : Nat) (A : AH) (x : D) (lo hi : Int) (h : callF Ps (n + 1) i_is_whole [x] A = .ok (.bl false) A) : callF Ps (n + 2) i_is_between [x, .int lo, .int hi] A = .ok (.bl false) A := by
  rw [rn_is_between, b_is_between]
  simp [h]
theorem notW_ty (x : D) (h : ∃ t, tyName x = some t ∧ (t = "NoneType" ∨ t = "bool" ∨ t = "int" ∨ t = "str" ∨ t = "list" ∨ t = "dict")) (hs : ∀ A, shal A x = x) : NotW x := fun n A => by
  rw [rn_is_web_by, b_is_web_by]
  simp [tuple_of_not (n + 4) A x 2 h (hs A)]
theorem notW_len (xs : List D) (h : xs.length ≠ 2) : NotW (.tup xs) := fun n A => by
  rw [rn_is_web_by, b_is_web_by]
  have e : ((xs.length : Int) == 2) = false := by rw [beq_eq_false_iff_ne]; omega
  have q := is_tuple_of_tup (n + 4) A xs 2
  rw [e] at q
  simp [q]
theorem notW_places (x y : D) (h : ∀ n A, callF Ps (n + 2) i_is_between [x, .int 1, .int 9] A = .ok (.bl false) A) : NotW (.tup [x, y]) := fun n A => by
  rw [rn_is_web_by, b_is_web_by]
  have q := is_tuple_of_tup (n + 4) A [x, y] 2
  simp at q
  simp [q, h (n + 3) A]
theorem notW_roads (m : Nat) (hm : 1 ≤ m ∧ m ≤ 9) (y : D) (h : ∀ n A, callF Ps (n + 5) i_are_roads [.int m, y] A = .ok (.bl false) A) : NotW (.tup [.int m, y]) := fun n A => by
  rw [rn_is_web_by, b_is_web_by]
  have q := is_tuple_of_tup (n + 4) A [.int m, y] 2
  have b := is_between_int (n + 3) A m 1 9
  have e1 : decide ((1 : Int) ≤ m) = true := decide_eq_true (by omega)
  have e2 : decide ((m : Int) ≤ 9) = true := decide_eq_true (by omega)
  rw [e1, e2] at b
  simp at q
  simp [q, b, h n A]
theorem roads_not (m : Int) (y : D) (hs : ∀ A, shal A y = y) (h : ∃ t, tyName y = some t ∧ (t = "NoneType" ∨ t = "bool" ∨ t = "int" ∨ t = "str" ∨ t = "list" ∨ t = "dict")) : ∀ n A, callF Ps (n + 5) i_are_roads [.int m, y] A = .ok (.bl false) A := fun n A => by
  obtain ⟨t, e, ht⟩ := h
  rw [rn_are_roads, b_are_roads]
  have i1 : isiT y "tuple" = L2.kitB t "tuple" := by unfold isiT; rw [e]; rfl
  rcases ht with rfl | rfl | rfl | rfl | rfl | rfl <;> simp [hs, i1]
/-- a road that is none -/
def NotR (x : D) : Prop := ∀ (n : Nat) (A : AH), callF Ps (n + 4) i_is_road [.int 7, x] A = .ok (.bl false) A
theorem roads_bad (x : D) (h : NotR x) : ∀ n A, callF Ps (n + 5) i_are_roads [.int 7, .tup [x]] A = .ok (.bl false) A := fun n A => by
  rw [rn_are_roads, b_are_roads]
  have hc : ∀ e2 e3, ev (callF Ps (n + 4)) c_are_roads_0 [some (.int 7), some (.tup [x]), e2, e3] A = .ok (.lst [.bl false]) A := fun e2 e3 => by
    rw [c_are_roads_0, ev_comp]
    simp [compL, h n A, lim]
  have h20 : ¬ ((20 : Int) < 1) := by omega
  simp [hc, blsO, h20]
theorem notR_ty (x : D) (h : ∃ t, tyName x = some t ∧ (t = "NoneType" ∨ t = "bool" ∨ t = "int" ∨ t = "str" ∨ t = "list" ∨ t = "dict")) (hs : ∀ A, shal A x = x) : NotR x := fun n A => by
  rw [rn_is_road, b_is_road]
  simp [tuple_of_not (n + 2) A x 3 h (hs A)]
theorem notR_len (xs : List D) (h : xs.length ≠ 3) : NotR (.tup xs) := fun n A => by
  rw [rn_is_road, b_is_road]
  have e : ((xs.length : Int) == 3) = false := by rw [beq_eq_false_iff_ne]; omega
  have q := is_tuple_of_tup (n + 2) A xs 3
  rw [e] at q
  simp [q]
theorem notR_first (x y z : D) (h : ∀ n A, callF Ps (n + 2) i_is_between [x, .int 0, .int 6] A = .ok (.bl false) A) : NotR (.tup [x, y, z]) := fun n A => by
  rw [rn_is_road, b_is_road]
  have q := is_tuple_of_tup (n + 2) A [x, y, z] 3
  simp at q
  simp [q, h (n + 1) A]
theorem notR_length (x : Int) (y z : D) (h0 : 0 ≤ x ∧ x ≤ 6) (h : ∀ n A, callF Ps (n + 2) i_is_between [z, .int 1, .int 99] A = .ok (.bl false) A) : NotR (.tup [.int x, y, z]) := fun n A => by
  rw [rn_is_road, b_is_road]
  have q := is_tuple_of_tup (n + 2) A [.int x, y, z] 3
  simp at q
  have b := is_between_int (n + 1) A x 0 6
  have e1 : decide ((0 : Int) ≤ x) = true := decide_eq_true (by omega)
  have e2 : decide (x ≤ 6) = true := decide_eq_true (by omega)
  rw [e1, e2] at b
  have l : callF Ps (n + 3) i_is_length [z] A = .ok (.bl false) A := by
    rw [rn_is_length, b_is_length]
    simp [h n A]
  simp [q, b, l]
theorem notR_second (x y z : Int) (h0 : 0 ≤ x ∧ x ≤ 6) (hz : 1 ≤ z ∧ z ≤ 99) (h : ¬ (x + 1 ≤ y ∧ y ≤ 6)) : NotR (.tup [.int x, .int y, .int z]) := fun n A => by
  rw [rn_is_road, b_is_road]
  have q := is_tuple_of_tup (n + 2) A [.int x, .int y, .int z] 3
  simp at q
  have b := is_between_int (n + 1) A x 0 6
  have e1 : decide ((0 : Int) ≤ x) = true := decide_eq_true (by omega)
  have e2 : decide (x ≤ 6) = true := decide_eq_true (by omega)
  rw [e1, e2] at b
  have l := is_length_int n A z
  have e3 : decide ((1 : Int) ≤ z) = true := decide_eq_true (by omega)
  have e4 : decide (z ≤ 99) = true := decide_eq_true (by omega)
  rw [e3, e4] at l
  have s := is_between_int (n + 1) A y (x + 1) 6
  have e5 : (decide (x + 1 ≤ y) && decide (y ≤ 6)) = false := by
    rw [Bool.and_eq_false_iff]
    by_cases hh : x + 1 ≤ y
    · exact .inr (decide_eq_false (by omega))
    · exact .inl (decide_eq_false hh)
  rw [e5] at s
  simp [q, b, l, s]
theorem between_out (x lo hi : Int) (h : ¬ (lo ≤ x ∧ x ≤ hi)) : ∀ n A, callF Ps (n + 2) i_is_between [.int x, .int lo, .int hi] A = .ok (.bl false) A := fun n A => by
  have s := is_between_int n A x lo hi
  have e5 : (decide (lo ≤ x) && decide (x ≤ hi)) = false := by
    rw [Bool.and_eq_false_iff]
    by_cases hh : lo ≤ x
    · exact .inr (decide_eq_false (by omega))
    · exact .inl (decide_eq_false hh)
  rw [e5] at s
  exact s
theorem between_ty (x : D) (lo hi : Int) (hn : ∀ i, x ≠ .int i) (h : ∃ t, tyName x = some t ∧ (t = "NoneType" ∨ t = "bool" ∨ t = "str" ∨ t = "tuple" ∨ t = "list" ∨ t = "dict")) (hs : ∀ A, shal A x = x) : ∀ n A, callF Ps (n + 2) i_is_between [x, .int lo, .int hi] A = .ok (.bl false) A := fun n A =>
  between_not n A x lo hi (whole_of n A x hn h (hs A))
/-- two roads out of order -/
theorem notW_order (a b : Road) (ha : a.1 < a.2.1 ∧ a.2.1 < 7 ∧ 1 ≤ a.2.2 ∧ a.2.2 ≤ 99) (hb : b.1 < b.2.1 ∧ b.2.1 < 7 ∧ 1 ≤ b.2.2 ∧ b.2.2 ≤ 99) (h : lexLt [(a.1 : Int), a.2.1] [(b.1 : Int), b.2.1] = false) : NotW (.tup [.int 7, .tup [rD a, rD b]]) := by
  refine notW_roads 7 (by omega) _ fun n A => ?_
  rw [rn_are_roads, b_are_roads]
  have r1 := is_road_ok n A 7 a ha
  have r2 := is_road_ok n A 7 b hb
  have r1 : callF Ps (n + 4) i_is_road [.int 7, rD a] A = .ok (.bl true) A := r1
  have r2 : callF Ps (n + 4) i_is_road [.int 7, rD b] A = .ok (.bl true) A := r2
  have hc : ∀ e2 e3, ev (callF Ps (n + 4)) c_are_roads_0 [some (.int 7), some (.tup [rD a, rD b]), e2, e3] A = .ok (.lst [.bl true, .bl true]) A := fun e2 e3 => by
    rw [c_are_roads_0, ev_comp]
    simp [compL, r1, r2, lim]
  have hc1 : ∀ e2 e3, ev (callF Ps (n + 4)) c_are_roads_1 [some (.int 7), some (.tup [rD a, rD b]), e2, e3] A = .ok (.lst [.bl false]) A := fun e2 e3 => by
    rw [c_are_roads_1, ev_comp]
    have hr : rngOk 1 ∧ rngOk 2 := by unfold rngOk; omega
    have hu : upto 1 1 = [.int 1] := rfl
    simp [compL, hr, hu, lim, rD, h]
  have h20 : ¬ ((20 : Int) < 2) := by omega
  simp [hc, hc1, blsO, h20]
end K64

set_option maxRecDepth 100000
/-! K64g: the things that are no webs, all; what is refused -/
namespace K64
open PySem (Str)
open Ev
def someW : List D := [.non, .tup [.int 0, .int 1], .lst [.int 0, .int 1, .int 1], .tup [.int 1, .int 0, .int 1], .tup [.int 0, .int 0, .int 1], .tup [.int 0, .int 7, .int 1], .tup [.int (-1), .int 0, .int 1], .tup [.int 0, .int 1, .int 0], .tup [.int 0, .int 1, .int 100],
  .tup [.int 0, .int 1, .bl true], .tup [.bl false, .int 1, .int 1], .tup [.int 0, .int 1, .non], .tup [.str (Str.ofString "0"), .int 1, .int 1]]
def oddW (m : Nat) (rs : List Road) : List D := [.non, .tup [], .int 0, .str (Str.ofString "web"), .bl true, .lst [.int m, .tup (rs.map rD)], .dk [] [], .tup [.int m], .tup [.int m, .tup (rs.map rD), .int 0], .tup [.int 0, .tup []], .tup [.int 10, .tup []], .tup [.bl true, .tup []], .tup [.non, .tup []],
  .tup [.int m, .lst (rs.map rD)], .tup [.tup (rs.map rD), .int m], .tup [.int 7, .tup [rD (0, 1, 1), rD (0, 1, 1)]]]
def noW (m : Nat) (rs : List Road) : List D := oddW m rs ++ someW.map (fun x => .tup [.int 7, .tup [x]]) ++ [.tup [.int 7, .tup [rD (0, 2, 1), rD (0, 1, 1)]]]
theorem someW_not : ∀ x ∈ someW, NotR x := by
  intro x hx
  simp only [someW, List.mem_cons, List.not_mem_nil, or_false] at hx
  rcases hx with rfl | rfl | rfl | rfl | rfl | rfl | rfl | rfl | rfl | rfl | rfl | rfl | rfl
  · exact notR_ty _ ⟨_, rfl, .inl rfl⟩ fun _ => rfl
  · exact notR_len _ (by decide)
  · exact notR_ty _ ⟨_, rfl, by simp⟩ fun _ => rfl
  · exact notR_second 1 0 1 (by omega) (by omega) (by omega)
  · exact notR_second 0 0 1 (by omega) (by omega) (by omega)
  · exact notR_second 0 7 1 (by omega) (by omega) (by omega)
  · exact notR_first _ _ _ (between_out _ _ _ (by omega))
  · exact notR_length 0 _ _ (by omega) (between_out _ _ _ (by omega))
  · exact notR_length 0 _ _ (by omega) (between_out _ _ _ (by omega))
  · exact notR_length 0 _ _ (by omega) (between_ty _ _ _ (fun i z => by cases z) ⟨_, rfl, by simp⟩ fun _ => rfl)
  · exact notR_first _ _ _ (between_ty _ _ _ (fun i z => by cases z) ⟨_, rfl, by simp⟩ fun _ => rfl)
  · exact notR_length 0 _ _ (by omega) (between_ty _ _ _ (fun i z => by cases z) ⟨_, rfl, by simp⟩ fun _ => rfl)
  · exact notR_first _ _ _ (between_ty _ _ _ (fun i z => by cases z) ⟨_, rfl, by simp⟩ fun _ => rfl)
theorem oddW_not {m : Nat} {rs : List Road} (hw : WebOk m rs) : ∀ x ∈ oddW m rs, NotW x := by
  intro x hx
  simp only [oddW, List.mem_cons, List.not_mem_nil, or_false] at hx
  rcases hx with rfl | rfl | rfl | rfl | rfl | rfl | rfl | rfl | rfl | rfl | rfl | rfl | rfl | rfl | rfl | rfl
  · exact notW_ty _ ⟨_, rfl, by simp⟩ fun _ => rfl
  · exact notW_len _ (by simp)
  · exact notW_ty _ ⟨_, rfl, by simp⟩ fun _ => rfl
  · exact notW_ty _ ⟨_, rfl, by simp⟩ fun _ => rfl
  · exact notW_ty _ ⟨_, rfl, by simp⟩ fun _ => rfl
  · exact notW_ty _ ⟨_, rfl, by simp⟩ fun _ => rfl
  · exact notW_ty _ ⟨_, rfl, by simp⟩ fun _ => rfl
  · exact notW_len _ (by simp)
  · exact notW_len _ (by simp)
  · exact notW_places _ _ (between_out _ _ _ (by omega))
  · exact notW_places _ _ (between_out _ _ _ (by omega))
  · exact notW_places _ _ (between_ty _ _ _ (fun i z => by cases z) ⟨_, rfl, by simp⟩ fun _ => rfl)
  · exact notW_places _ _ (between_ty _ _ _ (fun i z => by cases z) ⟨_, rfl, by simp⟩ fun _ => rfl)
  · exact notW_roads m ⟨hw.lo, hw.hi⟩ _ (roads_not _ _ (fun _ => rfl) ⟨_, rfl, by simp⟩)
  · exact notW_places _ _ (between_ty _ _ _ (fun i z => by cases z) ⟨_, rfl, by simp⟩ fun _ => rfl)
  · exact notW_order (0, 1, 1) (0, 1, 1) (by decide) (by decide) rfl
theorem noW_not {m : Nat} {rs : List Road} (hw : WebOk m rs) : ∀ x ∈ noW m rs, NotW x := by
  intro x hx
  simp only [noW, List.mem_append] at hx
  rcases hx with (hx | hx) | hx
  · exact oddW_not hw x hx
  · obtain ⟨y, hy, rfl⟩ := List.mem_map.mp hx
    exact notW_roads 7 (by omega) _ (roads_bad y (someW_not y hy))
  · simp at hx; subst hx
    exact notW_order (0, 2, 1) (0, 1, 1) (by decide) (by decide) rfl
/-- small values, fit to be shown -/
structure Ok (x : D) : Prop where
  pu : D.pu 5 x = true
  can : x.canR = true
theorem Ok.mk' {x : D} (h0 : D.pu 5 x = true) (h1 : D.flatN 60 x = true) (h2 : D.sml x = true) (h3 : D.wt x ≤ 100000) : Ok x := ⟨h0, by unfold D.canR; rw [shw_mk h1 h2 h3, Bool.or_true]⟩
theorem rds_small (rs : List Road) {m : Nat} (hw : WebOk m rs) : D.smls (rs.map rD) = true ∧ D.wts (rs.map rD) ≤ 8120 := by
  refine ⟨smls_of fun x hx => ?_, ?_⟩
  · obtain ⟨r, hr, rfl⟩ := List.mem_map.mp hx
    obtain ⟨r1, r2, r3, r4⟩ := hw.road r hr
    have := hw.hi
    have b : (9 : Nat) < 10 ^ 40 := by decide
    have b2 : (99 : Nat) < 10 ^ 40 := by decide
    simp only [rD, D.sml, D.smls, Bool.and_true, Bool.and_eq_true, decide_eq_true_eq, Int.natAbs_natCast]
    exact ⟨Nat.lt_of_le_of_lt (by omega : r.1 ≤ 9) b, Nat.lt_of_le_of_lt (by omega : r.2.1 ≤ 9) b, Nat.lt_of_le_of_lt r4 b2⟩
  · have h := wts_of (w := 405) (xs := rs.map rD) fun x hx => by
      obtain ⟨r, _, rfl⟩ := List.mem_map.mp hx
      simp [rD, D.wt, D.wts]
    rw [List.length_map] at h
    have := hw.len
    omega
theorem noW_ok {m : Nat} {rs : List Road} (hw : WebOk m rs) : ∀ x ∈ noW m rs, Ok x := by
  obtain ⟨s1, s2⟩ := rds_small rs hw
  have f1 : ∀ k, D.flatNs (k + 1) (rs.map rD) = true := fun k => flat_rDs k rs
  have p1 : ∀ k, D.pus (k + 2) (rs.map rD) = true := fun k => pu_roads k rs
  have hm : D.sml (.int m) = true := by
    simp only [D.sml, Int.natAbs_natCast, decide_eq_true_eq]
    have := hw.hi
    exact Nat.lt_of_le_of_lt (by omega : m ≤ 9) (by decide)
  intro x hx
  simp only [noW, List.mem_append] at hx
  rcases hx with (hx | hx) | hx
  · simp only [oddW, List.mem_cons, List.not_mem_nil, or_false] at hx
    rcases hx with rfl | rfl | rfl | rfl | rfl | rfl | rfl | rfl | rfl | rfl | rfl | rfl | rfl | rfl | rfl | rfl
    · exact .mk' rfl rfl rfl (by decide)
    · exact .mk' rfl rfl rfl (by decide)
    · exact .mk' rfl rfl rfl (by decide)
    · exact .mk' rfl (by decide +kernel) rfl (by decide +kernel)
    · exact .mk' rfl rfl rfl (by decide)
    · exact .mk' (by simp [D.pu, D.pus, p1 1]) (by simp [D.flatN, D.flatNs, f1 57]) (by simp [D.sml, D.smls, s1] at hm ⊢; exact hm) (by simp [D.wt, D.wts]; omega)
    · exact ⟨rfl, rfl⟩
    · exact .mk' rfl rfl (by simp [D.sml, D.smls] at hm ⊢; exact hm) (by simp [D.wt, D.wts])
    · exact .mk' (by simp [D.pu, D.pus, p1 1]) (by simp [D.flatN, D.flatNs, f1 57]) (by simp [D.sml, D.smls, s1] at hm ⊢; exact hm) (by simp [D.wt, D.wts]; omega)
    · exact .mk' rfl rfl rfl (by decide)
    · exact .mk' rfl rfl rfl (by decide)
    · exact .mk' rfl rfl rfl (by decide)
    · exact .mk' rfl rfl rfl (by decide)
    · exact .mk' (by simp [D.pu, D.pus, p1 1]) (by simp [D.flatN, D.flatNs, f1 57]) (by simp [D.sml, D.smls, s1] at hm ⊢; exact hm) (by simp [D.wt, D.wts]; omega)
    · exact .mk' (by simp [D.pu, D.pus, p1 1]) (by simp [D.flatN, D.flatNs, f1 57]) (by simp [D.sml, D.smls, s1] at hm ⊢; exact hm) (by simp [D.wt, D.wts]; omega)
    · exact .mk' rfl rfl (by decide +kernel) (by decide)
  · obtain ⟨y, hy, rfl⟩ := List.mem_map.mp hx
    have key : someW.all (fun y => D.pu 3 y && D.flatN 10 y && D.sml y && decide (D.wt y ≤ 1000)) = true := by decide +kernel
    have k := List.all_eq_true.mp key y hy
    simp only [Bool.and_eq_true, decide_eq_true_eq] at k
    obtain ⟨⟨⟨k1, k2⟩, k3⟩, k4⟩ := k
    have fm : ∀ (j : Nat) (d : D), D.flatN 10 d = true → D.flatN (10 + j) d = true := fun j d h => flat_le (by omega) h
    exact .mk' (by simp [D.pu, D.pus, k1]) (by simp [D.flatN, D.flatNs, fm 48 y k2]) (by simp [D.sml, D.smls, k3]) (by simp [D.wt, D.wts]; omega)
  · simp at hx; subst hx
    exact .mk' rfl rfl (by decide +kernel) (by decide)
end K64

set_option maxRecDepth 100000
/-! K64h: the lists of things; what is refused, and how it is heard -/
namespace K64
open PySem (Str)
open Ev
theorem fzL_mid {f : D → Option (D × List Nat)} {ys : List D} {d d' : D} {L : List Nat} (hd : f d = some (d', L)) (hy : ∀ y ∈ ys, f y = some (y, [])) : ∀ {xs : List D}, (∀ x ∈ xs, f x = some (x, [])) → fzL f (xs ++ d :: ys) = some (xs ++ d' :: ys, L)
  | [], _ => by
    simp only [List.nil_append, fzL, hd, fzL_pure hy]
    simp
  | x :: xs, h => by
    simp only [List.cons_append, fzL, h x List.mem_cons_self]
    rw [fzL_mid hd hy fun y h' => h y (List.mem_cons_of_mem _ h')]
    simp
def odd6 (m : Nat) (rs : List Road) : List D := [.non, .tup [], .int 0, .str (Str.ofString "web"), .bl true, .lst [.int m, .tup (rs.map rD)]]
def odd9 (m : Nat) (rs : List Road) : List D := [.tup [.int m], .tup [.int m, .tup (rs.map rD), .int 0], .tup [.int 0, .tup []], .tup [.int 10, .tup []], .tup [.bl true, .tup []], .tup [.non, .tup []],
  .tup [.int m, .lst (rs.map rD)], .tup [.tup (rs.map rD), .int m], .tup [.int 7, .tup [rD (0, 1, 1), rD (0, 1, 1)]]] ++ someW.map (fun x => .tup [.int 7, .tup [x]]) ++ [.tup [.int 7, .tup [rD (0, 2, 1), rD (0, 1, 1)]]]
theorem noW_parts (m : Nat) (rs : List Road) : noW m rs = odd6 m rs ++ .dk [] [] :: odd9 m rs := by simp [noW, oddW, odd6, odd9]
theorem mul_2 (A : AH) : binO A .mul (.tup [.tup [.int 0, .int 1, .int 1]]) (.int 2) = some (.tup [rD (0, 1, 1), rD (0, 1, 1)]) := by
  show (if ([D.tup [.int 0, .int 1, .int 1]] ≠ []) ∧ (2 : Int) ≤ 2 ∧ (2 : Int) ≤ 1000 ∧ 1 ≤ 1000 then some (D.tup (List.replicate (2 : Int).toNat [D.tup [.int 0, .int 1, .int 1]]).flatten) else none) = _
  rw [if_pos ⟨by simp, by omega, by omega, by omega⟩]; rfl
theorem no_webs_ok (n : Nat) (A : AH) (m : Nat) (rs : List Road) (hw : WebOk m rs) : callF Ps (n + 1) i__law_no_webs [wD m rs] A = .ok (.lst (noW m rs)) A := by
  rw [rn__law_no_webs, b__law_no_webs]
  have hc : ∀ (B : AH) (e0 e1 e3 e4 : Option D), ev (callF Ps n) c__law_no_webs_0 [e0, e1, some (.lst someW), e3, e4, none] B = .ok (.lst (someW.map fun x => .tup [.int 7, .tup [x]])) B := fun B e0 e1 e3 e4 => by
    rw [c__law_no_webs_0]
    refine cmp_map (f := fun x : D => x) (xs := someW) (by simp) (by decide) fun x hx => ⟨_, asg_nm _ _, rfl, ?_⟩
    simp
  have hf : fz (A ++ [.dk [] []]) 8 (.lst (odd6 m rs ++ .ref A.length :: odd9 m rs)) = some (.lst (noW m rs), [A.length]) := by
    have pu : ∀ x ∈ noW m rs, fz (A ++ [.dk [] []]) 7 x = some (x, []) := fun x hx => fz_pu 7 x (pu_le (by omega) (noW_ok hw x hx).pu)
    rw [noW_parts] at pu ⊢
    have hd : fz (A ++ [.dk [] []]) 7 (.ref A.length) = some (.dk [] [], [A.length]) := by
      simp only [fz]
      rw [show (A ++ [O.dk [] []])[A.length]? = some (.dk [] []) by simp]
      rfl
    have e : fz (A ++ [.dk [] []]) 8 (.lst (odd6 m rs ++ .ref A.length :: odd9 m rs)) = (fzL (fz (A ++ [.dk [] []]) 7) (odd6 m rs ++ .ref A.length :: odd9 m rs)).map fun p => (D.lst p.1, p.2) := rfl
    rw [e, fzL_mid hd (fun y hy => pu y (by simp [hy])) fun x hx => pu x (by simp [hx])]
    rfl
  have fe := fin_gen hf fun k hk => by simp at hk; omega
  have sl : someW.length = 13 := rfl
  have l6 : (odd6 m rs).length = 6 := rfl
  have pts : odd6 m rs ++ D.ref A.length :: odd9 m rs = [.non, .tup [], .int 0, .str (Str.ofString "web"), .bl true, .lst [.int m, .tup (rs.map rD)], .ref A.length, .tup [.int m], .tup [.int m, .tup (rs.map rD), .int 0], .tup [.int 0, .tup []], .tup [.int 10, .tup []], .tup [.bl true, .tup []], .tup [.non, .tup []],
      .tup [.int m, .lst (rs.map rD)], .tup [.tup (rs.map rD), .int m], .tup [.int 7, .tup [rD (0, 1, 1), rD (0, 1, 1)]]] ++ someW.map (fun x => .tup [.int 7, .tup [x]]) ++ [.tup [.int 7, .tup [rD (0, 2, 1), rD (0, 1, 1)]]] := by
    simp [odd6, odd9]
  rw [pts] at fe
  have ws : wD m rs = .tup [.int m, .tup (rs.map rD)] := rfl
  have add0 : ∀ B : AH, binO B .add (.tup [.int m, .tup (rs.map rD)]) (.tup [.int 0]) = some (.tup [.int m, .tup (rs.map rD), .int 0]) := fun B => by
    show (if 2 + 1 ≤ lim then some (D.tup ([.int m, .tup (rs.map rD)] ++ [.int 0])) else none) = _
    rw [if_pos (by decide)]; rfl
  have add1 : ∀ (B : AH) (xs ys : List D), xs.length + ys.length ≤ 1000 → binO B .add (.lst xs) (.lst ys) = some (.lst (xs ++ ys)) := fun B xs ys h => add_lst ys h
  have sw : someW = [.non, .tup [.int 0, .int 1], .lst [.int 0, .int 1, .int 1], .tup [.int 1, .int 0, .int 1], .tup [.int 0, .int 0, .int 1], .tup [.int 0, .int 7, .int 1], .tup [.int (-1), .int 0, .int 1], .tup [.int 0, .int 1, .int 0], .tup [.int 0, .int 1, .int 100],
    .tup [.int 0, .int 1, .bl true], .tup [.bl false, .int 1, .int 1], .tup [.int 0, .int 1, .non], .tup [.str (Str.ofString "0"), .int 1, .int 1]] := rfl
  rw [ws]
  simp only [evSs_cons, evS_asg, ev_var, List.getElem?_cons_succ, List.getElem?_cons_zero, bnd_ok, asg_tup, shal_tup, unpO_tup, ofO_some, asgs_cons, asgs_nil, asg_nm, List.set_cons_succ, List.set_cons_zero, nextS_nx,
    ev_lst, evs_cons, evs_nil, ev_non, ev_tup, ev_int, ev_str, ev_bl, ev_bi, bi_list, seqO_tup, Option.map_some, ev_dkN, ev_bin, add0, mul_2, ev_neg]
  rw [← sw]
  have a1 : ∀ B : AH, binO B .add (.lst [.non, .tup [], .int 0, .str (Str.ofString "web"), .bl true, .lst [.int m, .tup (rs.map rD)], .ref A.length, .tup [.int m], .tup [.int m, .tup (rs.map rD), .int 0], .tup [.int 0, .tup []], .tup [.int 10, .tup []], .tup [.bl true, .tup []], .tup [.non, .tup []],
      .tup [.int m, .lst (rs.map rD)], .tup [.tup (rs.map rD), .int m], .tup [.int 7, .tup [rD (0, 1, 1), rD (0, 1, 1)]]]) (.lst (someW.map fun x => .tup [.int 7, .tup [x]])) = some (.lst ([.non, .tup [], .int 0, .str (Str.ofString "web"), .bl true, .lst [.int m, .tup (rs.map rD)], .ref A.length, .tup [.int m], .tup [.int m, .tup (rs.map rD), .int 0], .tup [.int 0, .tup []], .tup [.int 10, .tup []], .tup [.bl true, .tup []], .tup [.non, .tup []],
      .tup [.int m, .lst (rs.map rD)], .tup [.tup (rs.map rD), .int m], .tup [.int 7, .tup [rD (0, 1, 1), rD (0, 1, 1)]]] ++ someW.map (fun x => .tup [.int 7, .tup [x]]))) := fun B => add1 B _ _ (by rw [List.length_map, sl]; simp)
  have a2 : ∀ (B : AH) (xs : List D) (y : D), xs.length = 29 → binO B .add (.lst xs) (.lst [y]) = some (.lst (xs ++ [y])) := fun B xs y h => add1 B _ _ (by rw [h]; simp)
  simp only [evS_ret, ev_bin, ev_var, List.getElem?_cons_succ, List.getElem?_cons_zero, bnd_ok, hc, a1, ofO_some, ev_lst, evs_cons, evs_nil, ev_tup, ev_int]
  rw [a2 _ _ _ (by rw [List.length_append, List.length_map, sl]; rfl)]
  simp only [ofO_some, bnd_ok, nextS_rt, fnEnd_rt]
  exact fe
theorem named_ok (n : Nat) (A : AH) (xs : List D) (w : Str) (hl : xs.length ≤ 1000) (hp : ∀ x ∈ xs, D.pu 5 x = true) : callF Ps (n + 1) i__law_named [.lst xs, .str w] A = .ok (.lst (xs.map fun x => .lst [x, .str w, x])) A := by
  rw [rn__law_named, b__law_named]
  have hc : ev (callF Ps n) c__law_named_0 [some (.lst xs), some (.str w), none] A = .ok (.lst (xs.map fun x => .lst [x, .str w, x])) A := by
    rw [c__law_named_0]
    refine cmp_map (f := fun x : D => x) (xs := xs) (by simp) (by omega) fun x hx => ⟨_, asg_nm _ _, rfl, ?_⟩
    simp
  have fe : finish true A (.lst (xs.map fun x => .lst [x, .str w, x])) A = .ok (.lst (xs.map fun x => .lst [x, .str w, x])) A := fin_pu0 (by
    simp only [D.pu]
    refine pus_of fun y hy => ?_
    obtain ⟨x, hx, rfl⟩ := List.mem_map.mp hy
    have := pu_mono (hp x hx)
    simp only [D.pu, D.pus, this, Bool.and_self])
  simp [hc, fe]
/-! ### refused -/
section
variable {n : Nat} {A : AH}
theorem check_web_ok (m : Nat) (rs : List Road) (h : WebOk m rs) : callF Ps (n + 7) i_check_web [wD m rs] A = .ok .non A := by
  rw [rn_check_web, b_check_web]
  simp [is_web_by_ok n A m rs h]
theorem check_web_bad {x : D} (h : NotW x) (hp : D.pu 5 x = true) : callF Ps (n + 7) i_check_web [x] A = .exc 0 x A := by
  rw [rn_check_web, b_check_web]
  have e : finX true A 0 x A = .exc 0 x A := finX_pu0 (pu_le (by omega) hp)
  simp [h n A, e]
theorem needless_roads_bad {x : D} (h : NotW x) (hp : D.pu 5 x = true) : callF Ps (n + 8) i_needless_roads [x] A = .exc 0 x A := by
  rw [rn_needless_roads, b_needless_roads]
  have e : finX true A 0 x A = .exc 0 x A := finX_pu0 (pu_le (by omega) hp)
  simp [check_web_bad (n := n) (A := A) h hp, e]
theorem thinned_bad {x : D} (h : NotW x) (hp : D.pu 5 x = true) : callF Ps (n + 8) i_thinned [x] A = .exc 0 x A := by
  rw [rn_thinned, b_thinned]
  have e : finX true A 0 x A = .exc 0 x A := finX_pu0 (pu_le (by omega) hp)
  simp [check_web_bad (n := n) (A := A) h hp, e]
theorem distances_bad {x : D} (h : NotW x) (hp : D.pu 5 x = true) : callF Ps (n + 8) i_distances [x] A = .exc 0 x A := by
  rw [rn_distances, b_distances]
  have e : finX true A 0 x A = .exc 0 x A := finX_pu0 (pu_le (by omega) hp)
  simp [check_web_bad (n := n) (A := A) h hp, e]
theorem two_bad1 {x y : D} (h : NotW x) (hp : D.pu 5 x = true) : callF Ps (n + 8) i_check_two_webs [x, y] A = .exc 0 x A := by
  rw [rn_check_two_webs, b_check_two_webs]
  have e : finX true A 0 x A = .exc 0 x A := finX_pu0 (pu_le (by omega) hp)
  simp [check_web_bad (n := n) (A := A) h hp, e]
theorem two_bad2 {m : Nat} {rs : List Road} {y : D} (hw : WebOk m rs) (h : NotW y) (hp : D.pu 5 y = true) : callF Ps (n + 8) i_check_two_webs [wD m rs, y] A = .exc 0 y A := by
  rw [rn_check_two_webs, b_check_two_webs]
  have e : finX true A 0 y A = .exc 0 y A := finX_pu0 (pu_le (by omega) hp)
  simp [check_web_ok (n := n) (A := A) m rs hw, check_web_bad (n := n) (A := A) h hp, e]
theorem two_far {m m' : Nat} {rs rs' : List Road} (hw : WebOk m rs) (hw' : WebOk m' rs') (hne : m ≠ m') : callF Ps (n + 8) i_check_two_webs [wD m rs, wD m' rs'] A = .exc 0 (wD m' rs') A := by
  rw [rn_check_two_webs, b_check_two_webs]
  have e : finX true A 0 (wD m' rs') A = .exc 0 (wD m' rs') A := finX_pu0 (pu_wD 4 _ _)
  have w1 : idxO A (wD m rs) (.int 0) = some (.int m) := by simp [wD]
  have w2 : idxO A (wD m' rs') (.int 0) = some (.int m') := by simp [wD]
  have ne : ¬ ((m : Int) = (m' : Int)) := by omega
  simp [check_web_ok (n := n) (A := A) m rs hw, check_web_ok (n := n) (A := A) m' rs' hw', w1, w2, ne, e]
theorem two_ok {m : Nat} {rs rs' : List Road} (hw : WebOk m rs) (hw' : WebOk m rs') : callF Ps (n + 8) i_check_two_webs [wD m rs, wD m rs'] A = .ok .non A := by
  rw [rn_check_two_webs, b_check_two_webs]
  have w1 : idxO A (wD m rs) (.int 0) = some (.int m) := by simp [wD]
  have w2 : idxO A (wD m rs') (.int 0) = some (.int m) := by simp [wD]
  simp [check_web_ok (n := n) (A := A) m rs hw, check_web_ok (n := n) (A := A) m rs' hw', w1, w2]
theorem alike_exc {x y z : D} (h : callF Ps (n + 8) i_check_two_webs [x, y] A = .exc 0 z A) (hp : D.pu 5 z = true) : callF Ps (n + 9) i_are_alike [x, y] A = .exc 0 z A := by
  rw [rn_are_alike, b_are_alike]
  have e : finX true A 0 z A = .exc 0 z A := finX_pu0 (pu_le (by omega) hp)
  simp [h, e]
theorem unlike_exc {x y z : D} (h : callF Ps (n + 8) i_check_two_webs [x, y] A = .exc 0 z A) (hp : D.pu 5 z = true) : callF Ps (n + 9) i_pair_unlike [x, y] A = .exc 0 z A := by
  rw [rn_pair_unlike, b_pair_unlike]
  have e : finX true A 0 z A = .exc 0 z A := finX_pu0 (pu_le (by omega) hp)
  simp [h, e]
/-- no index of a road -/
def NotI (k : Nat) (x : D) : Prop := ∀ (n : Nat) (A : AH), callF Ps (n + 2) i_is_between [x, .int 0, .int ((k : Int) - 1)] A = .ok (.bl false) A
theorem road_bad {m : Nat} {rs : List Road} {x : D} (h : NotI rs.length x) (hp : D.pu 5 x = true) : callF Ps (n + 4) i_check_road [wD m rs, x] A = .exc 4 x A := by
  rw [rn_check_road, b_check_road]
  have e : finX true A 4 x A = .exc 4 x A := finX_pu0 (pu_le (by omega) hp)
  have c : callF Ps (n + 3) i_check_number [x, .int 0, .int ((rs.length : Int) - 1)] A = .exc 4 x A := by
    rw [rn_check_number, b_check_number]
    simp [h n A, e]
  have w1 : idxO A (wD m rs) (.int 1) = some (.tup (rs.map rD)) := by simp [wD]
  simp [w1, c, e]
theorem road_ok {m k : Nat} {rs : List Road} (h : k < rs.length) : callF Ps (n + 4) i_check_road [wD m rs, .int k] A = .ok .non A := by
  rw [rn_check_road, b_check_road]
  have b := is_between_int n A k 0 ((rs.length : Int) - 1)
  have e1 : decide ((0 : Int) ≤ k) = true := decide_eq_true (by omega)
  have e2 : decide ((k : Int) ≤ (rs.length : Int) - 1) = true := decide_eq_true (by omega)
  rw [e1, e2] at b
  have c : callF Ps (n + 3) i_check_number [.int k, .int 0, .int ((rs.length : Int) - 1)] A = .ok .non A := by
    rw [rn_check_number, b_check_number]
    simp [b]
  have w1 : idxO A (wD m rs) (.int 1) = some (.tup (rs.map rD)) := by simp [wD]
  simp [w1, c]
theorem is_needless_bad1 {x y : D} (h : NotW x) (hp : D.pu 5 x = true) : callF Ps (n + 8) i_is_needless [x, y] A = .exc 0 x A := by
  rw [rn_is_needless, b_is_needless]
  have e : finX true A 0 x A = .exc 0 x A := finX_pu0 (pu_le (by omega) hp)
  simp [check_web_bad (n := n) (A := A) h hp, e]
theorem is_needless_bad2 {m : Nat} {rs : List Road} {y : D} (hw : WebOk m rs) (h : NotI rs.length y) (hp : D.pu 5 y = true) : callF Ps (n + 8) i_is_needless [wD m rs, y] A = .exc 4 y A := by
  rw [rn_is_needless, b_is_needless]
  have e : finX true A 4 y A = .exc 4 y A := finX_pu0 (pu_le (by omega) hp)
  simp [check_web_ok (n := n) (A := A) m rs hw, road_bad (n := n + 3) (A := A) h hp, e]
end
/-! ### heard -/
theorem excF_0 : excF 0 = some (Str.ofString "given") := rfl
theorem excF_4 : excF 4 = some (Str.ofString "given") := rfl
def wordOf (c : Nat) : Str := if c = 0 then Str.ofString "web" else Str.ofString "number"
theorem heard_exc {n f c : Nat} {A : AH} {args : List D} {x : D} (hl : args.length = 1 ∨ args.length = 2) (hc : c = 0 ∨ c = 4) (hp : D.pu 5 x = true) (h : callF Ps n f args A = .exc c x A) : callF Ps (n + 1) i__law_heard [.fn f, .tup args] A = .ok (.lst [.str (wordOf c), x]) A := by
  rw [rn__law_heard, b__law_heard]
  have fe : ∀ w : Str, finish true A (.lst [.str w, x]) A = .ok (.lst [.str w, x]) A := fun w => fin_pu0 (by
    have := pu_mono (pu_mono hp)
    simp [D.pu, D.pus, this])
  have nx : D.noX x = true := pu_noX hp
  rw [evSs_cons, evS_tryAs]
  have hb : ∀ b : Ss, evSs (callF Ps n) (.cons (.iff (.cmp .eq (.bi .len (.cons (.var 1) .nil)) (.int 1)) (.cons (.ex (.callV 0 (.cons (.idx (.var 1) (.int 0)) .nil))) .nil) (.cons (.iff (.cmp .eq (.bi .len (.cons (.var 1) .nil)) (.int 2)) (.cons (.ex (.callV 0 (.cons (.idx (.var 1) (.int 0)) (.cons (.idx (.var 1) (.int 1)) .nil)))) .nil) b) .nil)) .nil) [some (.fn f), some (.tup args), none, none] A = .exc c x A := fun b => by
    rcases hl with hl | hl
    · match args, hl with
      | [a], _ => simp [h]
    · match args, hl with
      | [a, b], _ => simp [h]
  rw [hb]
  have cc : ([0, 2, 4] : List Nat).contains c = true := by rcases hc with rfl | rfl <;> rfl
  rcases hc with rfl | rfl
  · rw [tryE_exc (d2 := .lst [.str (wordOf 0), x]) (env2 := [none, none, some (.exn 0 x), some (.lst [.lst [.str (wordOf 0), x]])]) _ cc (by simp [excF_0, wordOf, addO, binO, lim]) (by simp [D.noX, D.noXs, nx])]
    simp [fe]
  · rw [tryE_exc (d2 := .lst [.str (wordOf 4), x]) (env2 := [none, none, some (.exn 4 x), some (.lst [.lst [.str (wordOf 4), x]])]) _ cc (by simp [excF_4, wordOf, addO, binO, lim]) (by simp [D.noX, D.noXs, nx])]
    simp [fe]
theorem heard_ok {n f : Nat} {A : AH} {args : List D} {d : D} (hl : args.length = 1 ∨ args.length = 2) (h : callF Ps n f args A = .ok d A) : callF Ps (n + 1) i__law_heard [.fn f, .tup args] A = .ok (.lst [.str (Str.ofString "told"), .non]) A := by
  rw [rn__law_heard, b__law_heard, evSs_cons, evS_tryAs]
  have hb : ∀ b : Ss, evSs (callF Ps n) (.cons (.iff (.cmp .eq (.bi .len (.cons (.var 1) .nil)) (.int 1)) (.cons (.ex (.callV 0 (.cons (.idx (.var 1) (.int 0)) .nil))) .nil) (.cons (.iff (.cmp .eq (.bi .len (.cons (.var 1) .nil)) (.int 2)) (.cons (.ex (.callV 0 (.cons (.idx (.var 1) (.int 0)) (.cons (.idx (.var 1) (.int 1)) .nil)))) .nil) b) .nil)) .nil) [some (.fn f), some (.tup args), none, none] A = .ok (.nx, [some (.fn f), some (.tup args), none, none]) A := fun b => by
    rcases hl with hl | hl
    · match args, hl with
      | [a], _ => simp [h]
    · match args, hl with
      | [a, b], _ => simp [h]
  rw [hb]
  have fe : finish true A (.lst [.str (Str.ofString "told"), .non]) A = .ok (.lst [.str (Str.ofString "told"), .non]) A := fin_pu0 rfl
  simp [fe]
end K64

set_option maxRecDepth 100000
/-! K64i: wrong arguments by themselves, two at once, and the right ones -/
namespace K64
open PySem (Str)
open Ev
abbrev Item := D × Str
def nD (t : Item) : D := .lst [t.1, .str t.2, t.1]
structure Hd (N f : Nat) (args : List D) (som : List (List Item)) : Prop where
  one : ∀ k, k < args.length → ∀ l, som[k]? = some l → ∀ it ∈ l, ∀ A, callF Ps N i__law_heard [.fn f, .tup (args.take k ++ [it.1] ++ args.drop (k + 1))] A = .ok (.lst [.str it.2, it.1]) A
  two : ∀ k, k + 1 < args.length → ∀ l l2, som[k]? = some l → som[k + 1]? = some l2 → ∀ it ∈ l, ∀ it2 ∈ l2, ∀ A, callF Ps N i__law_heard [.fn f, .tup (args.take k ++ [it.1, it2.1] ++ args.drop (k + 2))] A = .ok (.lst [.str it.2, it.1]) A
  all : ∀ A, callF Ps N i__law_heard [.fn f, .tup args] A = .ok (.lst [.str (Str.ofString "told"), .non]) A
  can : ∀ l ∈ som, ∀ it ∈ l, Ok it.1
  len : som.length = args.length
  lo : 1 ≤ args.length ∧ args.length ≤ 100
  row : ∀ l ∈ som, 0 < l.length ∧ l.length ≤ 900
theorem add_tup (A : AH) (xs ys : List D) (h : xs.length + ys.length ≤ 1000) : binO A .add (.tup xs) (.tup ys) = some (.tup (xs ++ ys)) := by
  show (if xs.length + ys.length ≤ lim then some (D.tup (xs ++ ys)) else none) = _
  rw [if_pos (Nat.le_trans h (by decide))]
theorem slc_to (A : AH) (xs : List D) (k : Nat) (h : k ≤ xs.length) : slcO A (.tup xs) none (some (k : Int)) = some (.tup (xs.take k)) := by
  show some (D.tup (cut xs none (some (k : Int)))) = _
  rw [cut_to h]
theorem slc_from (A : AH) (xs : List D) (k : Nat) (h : k ≤ xs.length) : slcO A (.tup xs) (some (k : Int)) none = some (.tup (xs.drop k)) := by
  show some (D.tup (cut xs (some (k : Int)) none)) = _
  rw [cut_from h]
theorem len_int (k : Nat) : ((k : Int) + 1) = ((k + 1 : Nat) : Int) := by omega
theorem args1 (cl : Cl) (A : AH) (args : List D) (t : D) (k : Nat) (e0 e1 e3 e5 e7 e8 e9 e10 e11 : Option D) (hk : k < args.length) (hl : args.length ≤ 100) :
    ev cl (.bin .add (.bin .add (.slc (.var 2) .no (.yes (.var 4))) (.tup (.cons (.var 6) .nil))) (.slc (.var 2) (.yes (.bin .add (.var 4) (.int 1))) .no)) [e0, e1, some (.tup args), e3, some (.int k), e5, some t, e7, e8, e9, e10, e11] A = .ok (.tup (args.take k ++ [t] ++ args.drop (k + 1))) A := by
  have s1 := slc_to A args k (by omega)
  have s2 := slc_from A args (k + 1) (by omega)
  have a1 := add_tup A (args.take k) [t] (by simp; omega)
  have a2 := add_tup A (args.take k ++ [t]) (args.drop (k + 1)) (by simp; omega)
  simp only [ev_bin, ev_slc, ev_var, evo_no, evo_yes, ev_tup, evs_cons, evs_nil, ev_int, List.getElem?_cons_succ, List.getElem?_cons_zero, bnd_ok, intO_int, Option.map_some, ofO_some, s1, a1, binO_add, len_int, s2, a2]
theorem args2 (cl : Cl) (A : AH) (args : List D) (a b : Item) (k : Nat) (e0 e1 e3 e5 e6 e7 e8 e11 : Option D) (hk : k + 1 < args.length) (hl : args.length ≤ 100) :
    ev cl (.bin .add (.bin .add (.slc (.var 2) .no (.yes (.var 4))) (.tup (.cons (.idx (.var 9) (.int 0)) (.cons (.idx (.var 10) (.int 0)) .nil)))) (.slc (.var 2) (.yes (.bin .add (.var 4) (.int 2))) .no)) [e0, e1, some (.tup args), e3, some (.int k), e5, e6, e7, e8, some (nD a), some (nD b), e11] A = .ok (.tup (args.take k ++ [a.1, b.1] ++ args.drop (k + 2))) A := by
  have s1 := slc_to A args k (by omega)
  have s2 := slc_from A args (k + 2) (by omega)
  have a1 := add_tup A (args.take k) [a.1, b.1] (by simp; omega)
  have a2 := add_tup A (args.take k ++ [a.1, b.1]) (args.drop (k + 2)) (by simp; omega)
  have c2 : ((k : Int) + 2) = ((k + 2 : Nat) : Int) := by omega
  simp only [ev_bin, ev_slc, ev_var, evo_no, evo_yes, ev_tup, evs_cons, evs_nil, ev_int, ev_idx, nD, idxO_lst, atI_zero, List.getElem?_cons_succ, List.getElem?_cons_zero, bnd_ok, intO_int, Option.map_some, ofO_some, s1, a1, binO_add, c2, s2, a2]
section
variable {n : Nat} {pre E : AH}
theorem pickD (p : Int × Int × Int) (l : List Item) (hl : 0 < l.length ∧ l.length ≤ 900) (hp : ∀ it ∈ l, D.pu 5 it.1 = true) : ∃ x q, x ∈ l ∧ callF Ps (n + 2) i__law_pick [.ref pre.length, .lst (l.map nD)] (St1 pre p E) = .ok (nD x) (St1 pre q E) := by
  obtain ⟨r, q, h1, h2⟩ := draw_nat n pre E p l.length (by omega)
  rw [rn__law_pick, b__law_pick]
  refine ⟨l[r], q, List.getElem_mem _, ?_⟩
  have a1 : atI (l.map nD) (r : Int) = some (nD l[r]) := atI_map h1
  have fe : finish true (St1 pre p E) (nD l[r]) (St1 pre q E) = .ok (nD l[r]) (St1 pre q E) := fin_pool0 (by
    have := pu_mono (pu_mono (hp l[r] (List.getElem_mem _)))
    simp [nD, D.pu, D.pus, this])
  simp [h2, a1, fe]
variable {f : Nat} {args : List D} {som : List (List Item)}
/-- the answer is the item's -/
theorem same_item (cl : Cl) (A : AH) (it : Item) (ho : Ok it.1) (e0 e1 e2 e3 e4 e6 e9 e10 e11 : Option D) : tst (ev cl (.or (.cmp .ne (.idx (.var 5) (.int 0)) (.var 7)) (.one (.cmp .ne (.bi .repr (.cons (.idx (.var 5) (.int 1)) .nil)) (.bi .repr (.cons (.var 8) .nil))))) [e0, e1, e2, e3, e4, some (.lst [.str it.2, it.1]), e6, some (.str it.2), some it.1, e9, e10, e11] A) = .ok false A := by
  have r := repr_of (A := A) ho.can
  have t1 : ((it.2 == it.2) : Bool) = true := by simp
  have t2 : ((shownD it.1 == shownD it.1) : Bool) = true := by simp
  simp only [ev_or, ev_one, ev_cmp, ev_idx, ev_var, ev_int, List.getElem?_cons_succ, List.getElem?_cons_zero, bnd_ok, idxO_lst, atI_zero, atI_one, ofO_some, ne_str, t1, Option.map_some, Bool.not_true, truO_bl, Bool.false_eq_true, if_false, ev_bi, evs_cons, evs_nil, r, t2, tst_ok]
theorem same_item2 (cl : Cl) (A : AH) (it : Item) (ho : Ok it.1) (e0 e1 e2 e3 e4 e6 e7 e8 e10 e11 : Option D) : tst (ev cl (.or (.cmp .ne (.idx (.var 5) (.int 0)) (.idx (.var 9) (.int 1))) (.one (.cmp .ne (.bi .repr (.cons (.idx (.var 5) (.int 1)) .nil)) (.bi .repr (.cons (.idx (.var 9) (.int 2)) .nil))))) [e0, e1, e2, e3, e4, some (.lst [.str it.2, it.1]), e6, e7, e8, some (nD it), e10, e11] A) = .ok false A := by
  have r := repr_of (A := A) ho.can
  have t1 : ((it.2 == it.2) : Bool) = true := by simp
  have t2 : ((shownD it.1 == shownD it.1) : Bool) = true := by simp
  simp only [ev_or, ev_one, ev_cmp, ev_idx, ev_var, ev_int, nD, List.getElem?_cons_succ, List.getElem?_cons_zero, bnd_ok, idxO_lst, atI_zero, atI_one, atI_two, ofO_some, ne_str, t1, Option.map_some, Bool.not_true, truO_bl, Bool.false_eq_true, if_false, ev_bi, evs_cons, evs_nil, r, t2, tst_ok]
abbrev sD (som : List (List Item)) : D := .lst (som.map fun l => .lst (l.map nD))
theorem ref0_ok (h : Hd (n + 2) f args som) (q : Int × Int × Int) (k : Nat) (hk : k < args.length) (e5 e6 e7 e8 e9 e10 : Option D) :
    ∃ q' e5' e6' e7' e8', evS (callF Ps (n + 2)) l__law_refused_right_0 [some (.ref pre.length), some (.fn f), some (.tup args), some (sD som), some (.int k), e5, e6, e7, e8, e9, e10, none] (St1 pre q E) =
      .ok (.nx, [some (.ref pre.length), some (.fn f), some (.tup args), some (sD som), some (.int k), e5', e6', e7', e8', e9, e10, none]) (St1 pre q' E) := by
  have hks : k < som.length := by rw [h.len]; exact hk
  have hs : som[k]? = some som[k] := List.getElem?_eq_getElem hks
  obtain ⟨l1, l2⟩ := h.row som[k] (List.getElem_mem _)
  have hi : ∀ A env, env[3]? = some (some (sD som)) → env[4]? = some (some (.int k)) → evi (callF Ps (n + 2)) (.seq (.idx (.var 3) (.var 4))) env A = .ok (som[k].map nD) A := fun A env h3 h4 => by
    have a := atI_map (f := fun l : List Item => D.lst (l.map nD)) hks
    simp only [evi_seq, ev_idx, ev_var, h3, h4, bnd_ok, sD, idxO_lst, a, ofO_some, seqO_lst]
  have hc : ∃ (ys : List Item) (q' : Int × Int × Int), ev (callF Ps (n + 2)) c__law_refused_right_0 [some (.ref pre.length), some (.fn f), some (.tup args), some (sD som), some (.int k), e5, e6, e7, e8, e9, e10, none] (St1 pre q E) = .ok (.lst (ys.map nD)) (St1 pre q' E) ∧ ys.Sublist som[k] := by
    rw [c__law_refused_right_0]
    obtain ⟨ys, A', k1, ⟨q', k2⟩, k3⟩ := cmp_sub (cl := callF Ps (n + 2)) (env := [some (.ref pre.length), some (.fn f), some (.tup args), some (sD som), some (.int k), e5, e6, e7, e8, e9, e10, none]) (A := St1 pre q E) (own := [11]) (tg := .nm 11) (cs := .cons (.cmp .eq (.call i__law_draw (.cons (.var 0) (.cons (.int 2) .nil))) (.int 0)) .nil) (e := .var 11) (f := nD) (Inv := fun B => ∃ q, B = St1 pre q E) (xs := som[k]) (hi _ _ rfl rfl) (by omega) ⟨q, rfl⟩ (by
      rintro x hx A ⟨q1, rfl⟩
      obtain ⟨r, q2, _, hr⟩ := draw_nat (n + 1) pre E q1 2 (by omega)
      have hr : callF Ps (n + 2) i__law_draw [.ref pre.length, .int 2] (St1 pre q1 E) = .ok (.int r) (St1 pre q2 E) := hr
      refine ⟨_, decide ((r : Int) = 0), St1 pre q2 E, asg_nm _ _, ?_, ⟨q2, rfl⟩, by simp⟩
      by_cases z : (r : Int) = 0
      · simp [hr, z]
      · have z' : ¬ r = 0 := by omega
        simp [hr, z'])
    exact ⟨ys, q', by rw [k1, k2], k3⟩
  obtain ⟨ys, q', hc, sub⟩ := hc
  have key : ∃ env' A', evS (callF Ps (n + 2)) l__law_refused_right_0 [some (.ref pre.length), some (.fn f), some (.tup args), some (sD som), some (.int k), e5, e6, e7, e8, e9, e10, none] (St1 pre q E) = .ok (.nx, env') A' ∧
      ∃ e5' e6' e7' e8', env' = [some (.ref pre.length), some (.fn f), some (.tup args), some (sD som), some (.int k), e5', e6', e7', e8', e9, e10, none] ∧ A' = St1 pre q' E := by
    rw [l__law_refused_right_0]
    refine for_inv (f := nD) (xs := ys) (Pv := fun _ env B => ∃ e5' e6' e7' e8', env = [some (.ref pre.length), some (.fn f), some (.tup args), some (sD som), some (.int k), e5', e6', e7', e8', e9, e10, none] ∧ B = St1 pre q' E) (A1 := St1 pre q' E) ?_ ⟨e5, e6, e7, e8, rfl, rfl⟩ ?_
    · simp only [evi_seq, hc, bnd_ok, seqO_lst, ofO_some]
    rintro done it env B hit ⟨e5', e6', e7', e8', rfl, rfl⟩
    have hm : it ∈ som[k] := sub.subset hit
    have ho := h.can _ (List.getElem_mem _) it hm
    have hh := h.one k hk som[k] hs it hm (St1 pre q' E)
    have a1 := args1 (callF Ps (n + 2)) (St1 pre q' E) args it.1 k (some (.ref pre.length)) (some (.fn f)) (some (sD som)) e5' (some (.str it.2)) (some it.1) e9 e10 none hk h.lo.2
    have si := same_item (callF Ps (n + 2)) (St1 pre q' E) it ho (some (.ref pre.length)) (some (.fn f)) (some (.tup args)) (some (sD som)) (some (.int k)) (some it.1) e9 e10 none
    refine ⟨[some (.ref pre.length), some (.fn f), some (.tup args), some (sD som), some (.int k), e5', some it.1, some (.str it.2), some it.1, e9, e10, none], _, .nx, _, _, rfl, ?_, .inl rfl, ⟨some (.lst [.str it.2, it.1]), some it.1, some (.str it.2), some it.1, rfl, rfl⟩⟩
    simp only [evSs_cons, evS_asg, ev_call, evs_cons, evs_nil, ev_var, List.getElem?_cons_succ, List.getElem?_cons_zero, bnd_ok, a1, hh, asg_nm, List.set_cons_succ, List.set_cons_zero, nextS_nx, evS_iff, si, Bool.false_eq_true, if_false, evSs_nil]
  obtain ⟨env', A', k1, e5', e6', e7', e8', k2, k3⟩ := key
  exact ⟨q', e5', e6', e7', e8', by rw [k1, k2, k3]⟩
theorem ref1_ok (h : Hd (n + 2) f args som) (q : Int × Int × Int) :
    ∃ q' e4 e5 e6 e7 e8, evS (callF Ps (n + 2)) l__law_refused_right_1 [some (.ref pre.length), some (.fn f), some (.tup args), some (sD som), none, none, none, none, none, none, none, none] (St1 pre q E) =
      .ok (.nx, [some (.ref pre.length), some (.fn f), some (.tup args), some (sD som), e4, e5, e6, e7, e8, none, none, none]) (St1 pre q' E) := by
  have key : ∃ env' A', evS (callF Ps (n + 2)) l__law_refused_right_1 [some (.ref pre.length), some (.fn f), some (.tup args), some (sD som), none, none, none, none, none, none, none, none] (St1 pre q E) = .ok (.nx, env') A' ∧
      ∃ q' e4 e5 e6 e7 e8, env' = [some (.ref pre.length), some (.fn f), some (.tup args), some (sD som), e4, e5, e6, e7, e8, none, none, none] ∧ A' = St1 pre q' E := by
    rw [l__law_refused_right_1]
    refine for_rng (n := args.length) (f := fun j : Nat => .int j) (Pv := fun k env B => ∃ q' e4 e5 e6 e7 e8, env = [some (.ref pre.length), some (.fn f), some (.tup args), some (sD som), e4, e5, e6, e7, e8, none, none, none] ∧ B = St1 pre q' E) (A1 := St1 pre q E) (evi_r1 (by simp) (by have := h.lo.2; omega)) ⟨q, none, none, none, none, none, rfl, rfl⟩ ?_
    rintro k env B hk ⟨q1, e4, e5, e6, e7, e8, rfl, rfl⟩
    obtain ⟨q2, e5', e6', e7', e8', hr⟩ := ref0_ok (pre := pre) (E := E) h q1 k hk e5 e6 e7 e8 none none
    exact ⟨_, _, .nx, _, _, asg_nm _ _, by simp only [List.set_cons_succ, List.set_cons_zero, evSs_cons, hr, bnd_ok, nextS_nx, evSs_nil], .inl rfl, ⟨q2, some (.int k), e5', e6', e7', e8', rfl, rfl⟩⟩
  obtain ⟨env', A', k1, q', e4, e5, e6, e7, e8, k2, k3⟩ := key
  exact ⟨q', e4, e5, e6, e7, e8, by rw [k1, k2, k3]⟩
theorem ref2_ok (h : Hd (n + 2) f args som) (q : Int × Int × Int) (e4 e5 e6 e7 e8 : Option D) :
    ∃ q' e4' e5' e9 e10, evS (callF Ps (n + 2)) l__law_refused_right_2 [some (.ref pre.length), some (.fn f), some (.tup args), some (sD som), e4, e5, e6, e7, e8, none, none, none] (St1 pre q E) =
      .ok (.nx, [some (.ref pre.length), some (.fn f), some (.tup args), some (sD som), e4', e5', e6, e7, e8, e9, e10, none]) (St1 pre q' E) := by
  have key : ∃ env' A', evS (callF Ps (n + 2)) l__law_refused_right_2 [some (.ref pre.length), some (.fn f), some (.tup args), some (sD som), e4, e5, e6, e7, e8, none, none, none] (St1 pre q E) = .ok (.nx, env') A' ∧
      ∃ q' e4' e5' e9 e10, env' = [some (.ref pre.length), some (.fn f), some (.tup args), some (sD som), e4', e5', e6, e7, e8, e9, e10, none] ∧ A' = St1 pre q' E := by
    rw [l__law_refused_right_2]
    have hlen : ((args.length : Int) - 1) = ((args.length - 1 : Nat) : Int) := by have := h.lo.1; omega
    refine for_rng (n := args.length - 1) (f := fun j : Nat => .int j) (Pv := fun k env B => ∃ q' e4' e5' e9 e10, env = [some (.ref pre.length), some (.fn f), some (.tup args), some (sD som), e4', e5', e6, e7, e8, e9, e10, none] ∧ B = St1 pre q' E) (A1 := St1 pre q E) (evi_r1 (by simp [hlen]) (by have := h.lo.2; omega)) ⟨q, e4, e5, none, none, rfl, rfl⟩ ?_
    rintro k env B hk ⟨q1, e4', e5', e9, e10, rfl, rfl⟩
    have hk1 : k + 1 < args.length := by omega
    have hks : k < som.length := by rw [h.len]; omega
    have hks2 : k + 1 < som.length := by rw [h.len]; omega
    have g1 := h.row som[k] (List.getElem_mem _)
    have g2 := h.row som[k + 1] (List.getElem_mem _)
    obtain ⟨a, q2, ha, hp1⟩ := pickD (n := n) (pre := pre) (E := E) q1 som[k] g1 fun it hit => (h.can _ (List.getElem_mem _) it hit).pu
    obtain ⟨b, q3, hb, hp2⟩ := pickD (n := n) (pre := pre) (E := E) q2 som[k + 1] g2 fun it hit => (h.can _ (List.getElem_mem _) it hit).pu
    have i1 : ∀ B, idxO B (sD som) (.int k) = some (.lst (som[k].map nD)) := fun B => by rw [sD, idxO_lst, atI_map (f := fun l : List Item => D.lst (l.map nD)) hks]
    have i2 : ∀ B, idxO B (sD som) (.int ((k + 1 : Nat) : Int)) = some (.lst (som[k + 1].map nD)) := fun B => by rw [sD, idxO_lst, atI_map (f := fun l : List Item => D.lst (l.map nD)) hks2]
    have ho := h.can _ (List.getElem_mem hks) a ha
    have hh := h.two k hk1 som[k] som[k + 1] (List.getElem?_eq_getElem hks) (List.getElem?_eq_getElem hks2) a ha b hb (St1 pre q3 E)
    have a1 := args2 (callF Ps (n + 2)) (St1 pre q3 E) args a b k (some (.ref pre.length)) (some (.fn f)) (some (sD som)) e5' e6 e7 e8 none hk1 h.lo.2
    have si := same_item2 (callF Ps (n + 2)) (St1 pre q3 E) a ho (some (.ref pre.length)) (some (.fn f)) (some (.tup args)) (some (sD som)) (some (.int k)) e6 e7 e8 (some (nD b)) none
    refine ⟨_, _, .nx, _, _, asg_nm _ _, ?_, .inl rfl, ⟨q3, some (.int k), some (.lst [.str a.2, a.1]), some (nD a), some (nD b), rfl, rfl⟩⟩
    simp only [List.set_cons_succ, List.set_cons_zero, evSs_cons, evS_par, evs_cons, evs_nil, ev_call, ev_idx, ev_bin, ev_int, ev_var, List.getElem?_cons_succ, List.getElem?_cons_zero, bnd_ok, i1, ofO_some, hp1, binO_add, len_int, i2, hp2, List.length_cons, List.length_nil, if_true, setPar_cons, setPar_nil, nextS_nx, evS_asg]
    simp only [ev_bin, ev_int] at a1
    rw [a1]
    simp only [bnd_ok, hh, asg_nm, List.set_cons_succ, List.set_cons_zero, nextS_nx, evS_iff]
    simp only [evSs_cons, evS_iff, si, bnd_ok, Bool.false_eq_true, if_false, evSs_nil, nextS_nx]
  obtain ⟨env', A', k1, q', e4', e5', e9, e10, k2, k3⟩ := key
  exact ⟨q', e4', e5', e9, e10, by rw [k1, k2, k3]⟩
theorem refused_ok (h : Hd (n + 2) f args som) (p : Int × Int × Int) : ∃ q, callF Ps (n + 3) i__law_refused_right [.ref pre.length, .fn f, .tup args, sD som] (St1 pre p E) = .ok (.bl true) (St1 pre q E) := by
  obtain ⟨q1, e4, e5, e6, e7, e8, h1⟩ := ref1_ok (pre := pre) (E := E) h p
  obtain ⟨q2, e4', e5', e9, e10, h2⟩ := ref2_ok (pre := pre) (E := E) h q1 e4 e5 e6 e7 e8
  refine ⟨q2, ?_⟩
  rw [rn__law_refused_right, b__law_refused_right]
  have ha := h.all (St1 pre q2 E)
  simp only [evSs_cons, h1, h2, bnd_ok, nextS_nx, evS_ret, ev_cmp, ev_idx, ev_call, evs_cons, evs_nil, ev_var, ev_int, ev_str, List.getElem?_cons_succ, List.getElem?_cons_zero, ha, idxO_lst, atI_zero, ofO_some, eq_str, Option.map_some, nextS_rt, fnEnd_rt, beq_self_eq_true, fin_blP]
end
end K64

set_option maxRecDepth 100000
/-! K64j: the program's functions at right arguments -/
namespace K64
open PySem (Str)
open Ev
theorem web_sub {m : Nat} {rs rs' : List Road} (h : WebOk m rs) (s : rs'.Sublist rs) : WebOk m rs' :=
  ⟨h.lo, h.hi, Nat.le_trans s.length_le h.len, fun r hr => h.road r (s.subset hr), h.sorted.sublist s⟩
def less (rs : List Road) (k : Nat) : List Road := rs.take k ++ rs.drop (k + 1)
theorem less_sub (rs : List Road) (k : Nat) : (less rs k).Sublist rs := by
  unfold less
  have h : rs.take k ++ rs.drop (k + 1) = rs.eraseIdx k := (List.eraseIdx_eq_take_drop_succ rs k).symm
  rw [h]
  exact List.eraseIdx_sublist rs k
theorem less_len {rs : List Road} {k : Nat} (h : k < rs.length) : (less rs k).length = rs.length - 1 := by
  simp [less]; omega
section
variable (n : Nat) (A : AH) (m : Nat) (rs : List Road)
theorem without_ok (k : Nat) (hw : WebOk m rs) (hk : k < rs.length) : callF Ps (n + 1) i_without_road_by [wD m rs, .int k] A = .ok (wD m (less rs k)) A := by
  rw [rn_without_road_by, b_without_road_by]
  have w0 : idxO A (wD m rs) (.int 0) = some (.int m) := by simp [wD]
  have w1 : idxO A (wD m rs) (.int 1) = some (.tup (rs.map rD)) := by simp [wD]
  have s1 := slc_to A (rs.map rD) k (by rw [List.length_map]; omega)
  have s2 := slc_from A (rs.map rD) (k + 1) (by rw [List.length_map]; omega)
  have a := add_tup A ((rs.map rD).take k) ((rs.map rD).drop (k + 1)) (by have := hw.len; simp; omega)
  have e : (rs.map rD).take k ++ (rs.map rD).drop (k + 1) = (less rs k).map rD := by simp [less, List.map_take, List.map_drop]
  rw [e] at a
  have fe : finish true A (wD m (less rs k)) A = .ok (wD m (less rs k)) A := fin_pu0 (pu_wD 4 _ _)
  have tw : D.tup [.int (m : Int), .tup ((less rs k).map rD)] = wD m (less rs k) := rfl
  simp only [evSs_cons, evS_ret, ev_tup, evs_cons, evs_nil, ev_idx, ev_var, ev_gv, List.getElem?_cons_succ, List.getElem?_cons_zero, bnd_ok, w0, w1, ofO_some, ev_bin, ev_slc, evo_no, evo_yes, intO_int, Option.map_some, ev_int, binO_add, len_int, s1, s2, a, tw, nextS_rt, fnEnd_rt, fe]
theorem needless_by_ok (k : Nat) (hw : WebOk m rs) (hk : k < rs.length) : ∃ b, callF Ps (n + 5) i_is_needless_by [wD m rs, .int k] A = .ok (.bl b) A := by
  rw [rn_is_needless_by, b_is_needless_by]
  have w1 : idxO A (wD m rs) (.int 1) = some (.tup (rs.map rD)) := by simp [wD]
  have i1 : idxO A (.tup (rs.map rD)) (.int k) = some (rD rs[k]) := by rw [idxO_tup, atI_map hk]
  obtain ⟨r1, r2, r3, r4⟩ := hw.road rs[k] (List.getElem_mem _)
  have hw' := web_sub hw (less_sub rs k)
  have wo := without_ok (n + 3) A m rs k hw hk
  have db := distance_by_ok n A m (less rs k) rs[k].1 rs[k].2.1 hw' (by omega) r2
  have fb : ∀ b, finish true A (.bl b) A = .ok (.bl b) A := fun b => fin_bl b
  have rr : rD rs[k] = .tup [.int rs[k].1, .int rs[k].2.1, .int rs[k].2.2] := rfl
  rw [rr] at i1
  simp only [evSs_cons, evS_asg, ev_idx, ev_var, ev_gv, List.getElem?_cons_succ, List.getElem?_cons_zero, bnd_ok, w1, ofO_some, i1, asg_tup, shal_tup, unpO_tup, asgs_cons, asgs_nil, asg_nm, List.set_cons_succ, List.set_cons_zero, nextS_nx, ev_call, evs_cons, evs_nil, wo, db]
  cases e : DF m (less rs k) rs[k].1 rs[k].2.1 with
  | none => exact ⟨false, by simp [oD]⟩
  | some v => exact ⟨decide (v ≤ rs[k].2.2), by simp [oD]⟩
theorem needless_roads_by_ok (hw : WebOk m rs) : ∃ d, D.pu 8 d = true ∧ callF Ps (n + 6) i_needless_roads_by [wD m rs] A = .ok d A := by
  rw [rn_needless_roads_by, b_needless_roads_by]
  have w1 : idxO A (wD m rs) (.int 1) = some (.tup (rs.map rD)) := by simp [wD]
  have hl := hw.len
  obtain ⟨ys, A', k1, rfl, k3⟩ := cmp_sub (cl := callF Ps (n + 5)) (env := [some (wD m rs), none]) (A := A) (A1 := A) (own := [1]) (tg := .nm 1) (it := .rng1 (.bi .len (.cons (.idx (.var 0) (.gv (Str.ofString "ROADS") 1)) .nil))) (cs := .cons (.call i_is_needless_by (.cons (.var 0) (.cons (.var 1) .nil))) .nil) (e := .var 1) (f := fun j : Nat => D.int j) (Inv := fun B => B = A) (xs := List.range rs.length)
    (evi_r1 (by simp [w1]) (by omega)) (by rw [List.length_range]; omega) rfl (by
      rintro k hk B rfl
      obtain ⟨b, hb⟩ := needless_by_ok n B m rs k hw (List.mem_range.mp hk)
      exact ⟨_, b, B, asg_nm _ _, by cases b <;> simp [hb], rfl, by simp⟩)
  have fe : finish true A' (.tup (ys.map fun j : Nat => D.int j)) A' = .ok (.tup (ys.map fun j : Nat => D.int j)) A' := fin_pu0 (pu_natD 6 ys)
  refine ⟨.tup (ys.map fun j : Nat => D.int j), pu_natD 6 ys, ?_⟩
  rw [← c_needless_roads_by_0] at k1
  simp only [evSs_cons, evS_ret, ev_bi, evs_cons, evs_nil, k1, bnd_ok, bi_tuple, shal_lst, seqO_lst, Option.map_some, ofO_some, nextS_rt, fnEnd_rt, fe]
theorem down_map (i : Int) : ∀ n : Nat, down i n = (List.range n).map fun j : Nat => D.int (i - j) := fun n => by
  refine List.ext_getElem? fun j => ?_
  by_cases h : j < n
  · rw [down_get n i j h, List.getElem?_map, List.getElem?_range h, Option.map_some]
    congr 2; omega
  · rw [List.getElem?_eq_none (by rw [down_len]; omega), List.getElem?_eq_none (by simp; omega)]
theorem thinned_by_ok (hw : WebOk m rs) : ∃ d, D.pu 8 d = true ∧ callF Ps (n + 6) i_thinned_by [wD m rs] A = .ok d A := by
  rw [rn_thinned_by, b_thinned_by]
  have w1 : idxO A (wD m rs) (.int 1) = some (.tup (rs.map rD)) := by simp [wD]
  have hl := hw.len
  have key : ∃ env' A', evS (callF Ps (n + 5)) l_thinned_by_0 [some (wD m rs), some (wD m rs), none] A = .ok (.nx, env') A' ∧ ∃ rs' e2, env' = [some (wD m rs), some (wD m rs'), e2] ∧ A' = A ∧ WebOk m rs' ∧ rs.length - rs.length ≤ rs'.length := by
    rw [l_thinned_by_0]
    refine for_rng (n := rs.length) (f := fun j : Nat => D.int ((rs.length : Int) - 1 - j)) (Pv := fun j env B => ∃ rs' e2, env = [some (wD m rs), some (wD m rs'), e2] ∧ B = A ∧ WebOk m rs' ∧ rs.length - j ≤ rs'.length) (A1 := A) ?_ ⟨rs, none, rfl, rfl, hw, by omega⟩ ?_
    · have hr : rngOk ((rs.length : Int) - 1) ∧ rngOk (-1) := by unfold rngOk; omega
      have e : ((rs.length : Int) - 1 - -1).toNat = rs.length := by omega
      rw [← down_map]
      simp [w1, hr, e]
    rintro j env B hj ⟨rs', e2, rfl, rfl, hw', hlen⟩
    have c : ((rs.length : Int) - 1 - j) = ((rs.length - 1 - j : Nat) : Int) := by omega
    have hk : rs.length - 1 - j < rs'.length := by omega
    obtain ⟨b, hb⟩ := needless_by_ok n B m rs' (rs.length - 1 - j) hw' hk
    have wo := without_ok (n + 4) B m rs' (rs.length - 1 - j) hw' hk
    rw [c]
    cases b with
    | true => exact ⟨_, _, .nx, [some (wD m rs), some (wD m (less rs' (rs.length - 1 - j))), some (.int ((rs.length - 1 - j : Nat) : Int))], B, asg_nm _ _, by simp [hb, wo], .inl rfl, ⟨_, _, rfl, rfl, web_sub hw' (less_sub _ _), by rw [less_len hk]; omega⟩⟩
    | false => exact ⟨_, _, .nx, [some (wD m rs), some (wD m rs'), some (.int ((rs.length - 1 - j : Nat) : Int))], B, asg_nm _ _, by simp [hb], .inl rfl, ⟨_, _, rfl, rfl, hw', by omega⟩⟩
  obtain ⟨env', A', k1, rs', e2, k2, k3, hw', _⟩ := key
  rw [k2, k3] at k1
  refine ⟨wD m rs', pu_wD 4 _ _, ?_⟩
  have fe : finish true A (wD m rs') A = .ok (wD m rs') A := fin_pu0 (pu_wD 4 _ _)
  simp [k1, fe]
theorem distances_by_ok (hw : WebOk m rs) : callF Ps (n + 4) i_distances_by [wD m rs] A = .ok (tabT m (DF m rs)) A := by
  rw [rn_distances_by, b_distances_by]
  have dt := distance_table_ok n A m rs hw
  have hc : ev (callF Ps (n + 3)) c_distances_by_0 [some (wD m rs), none] A = .ok (.lst ((List.range m).map fun i => .tup ((List.range m).map fun j => oD (DF m rs i j)))) A := by
    rw [c_distances_by_0]
    have hm := hw.hi
    refine cmp_map (f := fun i : Nat => .lst ((List.range m).map fun j => oD (DF m rs i j))) (xs := List.range m) (by simp [dt, distD]) (by rw [List.length_range]; omega) fun i hi => ⟨_, asg_nm _ _, rfl, by simp⟩
  have fe : finish true A (tabT m (DF m rs)) A = .ok (tabT m (DF m rs)) A := fin_pu0 (pu_tab m _ 5)
  have tt : D.tup ((List.range m).map fun i => .tup ((List.range m).map fun j => oD (DF m rs i j))) = tabT m (DF m rs) := rfl
  simp only [evSs_cons, evS_ret, ev_bi, evs_cons, evs_nil, hc, bnd_ok, bi_tuple, shal_lst, seqO_lst, Option.map_some, ofO_some, tt, nextS_rt, fnEnd_rt, fe]
end
/-! ### a comprehension of two clauses, by what its items are -/
theorem compL_mem {as : D → Env → AH → Res Env} {cs : Env → AH → Res Bool} {ef : Env → AH → Res D} {env : Env} {α : Type} {f : α → D} {A : AH} {Q : D → Prop} : ∀ {xs : List α}, (∀ x ∈ xs, ∃ env1 b, as (f x) env A = .ok env1 A ∧ cs env1 A = .ok b A ∧ (b = true → ∃ d, ef env1 A = .ok d A ∧ Q d)) →
    ∃ ds, compL as cs ef env (xs.map f) A = .ok ds A ∧ (∀ d ∈ ds, Q d) ∧ ds.length ≤ xs.length
  | [], _ => ⟨[], rfl, fun d h => (List.not_mem_nil h).elim, Nat.le_refl _⟩
  | x :: xs, h => by
    obtain ⟨env1, b, h1, h2, h3⟩ := h x List.mem_cons_self
    obtain ⟨ds, k1, k2, k3⟩ := compL_mem (xs := xs) fun x hx => h x (List.mem_cons_of_mem _ hx)
    cases b with
    | true =>
      obtain ⟨d, h4, h5⟩ := h3 rfl
      exact ⟨d :: ds, by simp only [List.map_cons, compL, h1, bnd_ok, h2, if_true, h4, k1], fun y hy => (List.mem_cons.mp hy).elim (fun e => e ▸ h5) (k2 y), by simp; omega⟩
    | false => exact ⟨ds, by simp only [List.map_cons, compL, h1, bnd_ok, h2, Bool.false_eq_true, if_false, k1], k2, by simp; omega⟩
theorem compL2_mem {as : D → Env → AH → Res Env} {cs : Env → AH → Res Bool} {fi : Env → AH → Res (List D)} {as1 : D → Env → AH → Res Env} {cs1 : Env → AH → Res Bool} {ef : Env → AH → Res D} {own1 : List Nat} {env : Env} {α β : Type} {f : α → D} {g : β → D} {ys : List β} {A : AH} {Q : D → Prop} :
    ∀ {xs : List α}, (∀ x ∈ xs, ∃ env1, as (f x) env A = .ok env1 A ∧ cs env1 A = .ok true A ∧ fi env1 A = .ok (ys.map g) A ∧ ∀ y ∈ ys, ∃ env2 b, as1 (g y) (wipe env1 own1) A = .ok env2 A ∧ cs1 env2 A = .ok b A ∧ (b = true → ∃ d, ef env2 A = .ok d A ∧ Q d)) →
    ∃ ds, compL2 as cs fi as1 cs1 ef own1 env (xs.map f) A = .ok ds A ∧ (∀ d ∈ ds, Q d) ∧ ds.length ≤ xs.length * ys.length
  | [], _ => ⟨[], rfl, fun d h => (List.not_mem_nil h).elim, by simp⟩
  | x :: xs, h => by
    obtain ⟨env1, h1, h2, h3, h4⟩ := h x List.mem_cons_self
    obtain ⟨ds, k1, k2, k3⟩ := compL2_mem (xs := xs) fun x hx => h x (List.mem_cons_of_mem _ hx)
    obtain ⟨es, l1, l2, l3⟩ := compL_mem (as := as1) (cs := cs1) (ef := ef) (env := wipe env1 own1) (f := g) (A := A) (Q := Q) (xs := ys) h4
    refine ⟨es ++ ds, by simp only [List.map_cons, compL2, h1, bnd_ok, h2, if_true, h3, l1, k1], fun d hd => (List.mem_append.mp hd).elim (l2 d) (k2 d), ?_⟩
    rw [List.length_append, List.length_cons, Nat.add_mul]; omega
section
variable (n : Nat) (A : AH) (m : Nat) (rs rs' : List Road)
def Pr (d : D) : Prop := ∃ a b : Nat, d = .tup [.int a, .int b]
theorem pair_c0 (F G : Mx) (hm : m ≤ 9) (e0 e1 e3 : Option D) : ∃ ds, ev (callF Ps n) c_pair_unlike_by_0 [e0, e1, some (.lst ((List.range m).map fun k : Nat => .int k)), e3, some (distD m F), some (distD m G), none, none] A = .ok (.lst ds) A ∧ (∀ d ∈ ds, Pr d) ∧ ds.length ≤ 81 := by
  rw [c_pair_unlike_by_0, ev_comp2]
  obtain ⟨ds, k1, k2, k3⟩ := compL2_mem (as := fun d => asg (callF Ps n) (.nm 6) d) (cs := fun env A => evt (callF Ps n) .nil env A) (fi := fun env A => evi (callF Ps n) (.seq (.var 2)) env A) (as1 := fun d => asg (callF Ps n) (.nm 7) d)
    (cs1 := fun env A => evt (callF Ps n) (.cons (.and (.cmp .lt (.var 6) (.var 7)) (.one (.cmp .ne (.idx (.idx (.var 4) (.var 6)) (.var 7)) (.idx (.idx (.var 5) (.var 6)) (.var 7))))) .nil) env A) (ef := fun env A => ev (callF Ps n) (.tup (.cons (.var 6) (.cons (.var 7) .nil))) env A)
    (own1 := (T.nm 7).slots) (env := wipe [e0, e1, some (.lst ((List.range m).map fun k : Nat => .int k)), e3, some (distD m F), some (distD m G), none, none] [6, 7]) (f := fun k : Nat => D.int k) (g := fun k : Nat => D.int k) (ys := List.range m) (A := A) (Q := Pr) (xs := List.range m) (by
      intro i hi
      have hi := List.mem_range.mp hi
      refine ⟨_, asg_nm _ _, rfl, by simp, fun j hj => ?_⟩
      have hj := List.mem_range.mp hj
      have r1 := dist_row (A := A) (F := F) hi
      have r2 := dist_row (A := A) (F := G) hi
      have c1 := dist_at (A := A) (F := F) (i := i) hj
      have c2 := dist_at (A := A) (F := G) (i := i) hj
      have en : ∃ b, cmpO A .ne (oD (F i j)) (oD (G i j)) = some b := by
        cases F i j <;> cases G i j <;> exact ⟨_, rfl⟩
      obtain ⟨b, en⟩ := en
      have sl : (T.nm 7).slots = [7] := rfl
      by_cases hij : i < j
      · refine ⟨_, b, asg_nm _ _, ?_, fun _ => ⟨_, by simp [sl], i, j, rfl⟩⟩
        cases b <;> simp [sl, hij, r1, r2, c1, c2, en]
      · refine ⟨_, false, asg_nm _ _, ?_, fun z => by cases z⟩
        simp [sl, hij])
  rw [List.length_range] at k3
  have h81 : m * m ≤ 81 := Nat.mul_le_mul hm hm
  refine ⟨ds, ?_, k2, by omega⟩
  have hi : evi (callF Ps n) (.seq (.var 2)) [e0, e1, some (.lst ((List.range m).map fun k : Nat => .int k)), e3, some (distD m F), some (distD m G), none, none] A = .ok ((List.range m).map fun k : Nat => D.int k) A := by simp
  rw [hi, bnd_ok, k1]
  simp only [calm_ok, bnd_ok]
  rw [if_pos (Nat.le_trans (by omega : ds.length ≤ 81) (by decide)), if_neg (by decide)]
theorem pair_by_ok (hw : WebOk m rs) (hw' : WebOk m rs') : ∃ d, D.pu 8 d = true ∧ callF Ps (n + 4) i_pair_unlike_by [wD m rs, wD m rs'] A = .ok d A := by
  rw [rn_pair_unlike_by, b_pair_unlike_by]
  have t1 := distance_table_ok n A m rs hw
  have t2 := distance_table_ok n A m rs' hw'
  have pl := places_of_ok (n + 2) A m rs hw.hi
  obtain ⟨ds, hc, hq, _⟩ := pair_c0 (n + 3) A m (DF m rs) (DF m rs') hw.hi (some (wD m rs)) (some (wD m rs')) none
  have fl : D.flatNs 59 ds = true := flatNs_of fun x hx => by obtain ⟨a, b, rfl⟩ := hq x hx; rfl
  have nn := ne_nil (A := A) fl
  cases ds with
  | nil =>
    refine ⟨.non, rfl, ?_⟩
    simp only [List.isEmpty_nil, Bool.not_true] at nn
    simp only [evSs_cons, evS_asg, ev_tup, evs_cons, evs_nil, ev_call, ev_var, List.getElem?_cons_succ, List.getElem?_cons_zero, bnd_ok, t1, t2, asg_tup, shal_tup, unpO_tup, ofO_some, asgs_cons, asgs_nil, asg_nm, List.set_cons_succ, List.set_cons_zero, nextS_nx, pl, hc, evS_ret, ev_ite, ev_cmp, ev_lst, nn, Option.map_some, tst_ok, truO_bl, Bool.false_eq_true, if_false, ev_non, nextS_rt, fnEnd_rt, fin_non]
  | cons d ds =>
    obtain ⟨a, b, rfl⟩ := hq d List.mem_cons_self
    have fe : finish true A (.tup [.int (a : Int), .int b]) A = .ok (.tup [.int (a : Int), .int b]) A := fin_pu0 rfl
    refine ⟨.tup [.int a, .int b], rfl, ?_⟩
    simp only [List.isEmpty_cons, Bool.not_false] at nn
    simp only [evSs_cons, evS_asg, ev_tup, evs_cons, evs_nil, ev_call, ev_var, List.getElem?_cons_succ, List.getElem?_cons_zero, bnd_ok, t1, t2, asg_tup, shal_tup, unpO_tup, ofO_some, asgs_cons, asgs_nil, asg_nm, List.set_cons_succ, List.set_cons_zero, nextS_nx, pl, hc, evS_ret, ev_ite, ev_cmp, ev_lst, nn, Option.map_some, tst_ok, truO_bl, if_true, ev_idx, ev_int, idxO_lst, atI_zero, nextS_rt, fnEnd_rt, fe]
end
section
variable {n : Nat} {A : AH} {m : Nat} {rs rs' : List Road}
/-- whatever it tells, it is told -/
theorem needless_roads_ok (hw : WebOk m rs) : ∃ d, callF Ps (n + 8) i_needless_roads [wD m rs] A = .ok d A := by
  obtain ⟨d, hp, h⟩ := needless_roads_by_ok (n + 1) A m rs hw
  have fe : finish true A d A = .ok d A := fin_pu0 hp
  refine ⟨d, ?_⟩
  rw [rn_needless_roads, b_needless_roads]
  simp [check_web_ok (n := n) (A := A) m rs hw, h, fe]
theorem thinned_ok (hw : WebOk m rs) : ∃ d, callF Ps (n + 8) i_thinned [wD m rs] A = .ok d A := by
  obtain ⟨d, hp, h⟩ := thinned_by_ok (n + 1) A m rs hw
  have fe : finish true A d A = .ok d A := fin_pu0 hp
  refine ⟨d, ?_⟩
  rw [rn_thinned, b_thinned]
  simp [check_web_ok (n := n) (A := A) m rs hw, h, fe]
theorem distances_ok (hw : WebOk m rs) : callF Ps (n + 8) i_distances [wD m rs] A = .ok (tabT m (DF m rs)) A := by
  have h := distances_by_ok (n + 3) A m rs hw
  have fe : finish true A (tabT m (DF m rs)) A = .ok (tabT m (DF m rs)) A := fin_pu0 (pu_tab m _ 5)
  rw [rn_distances, b_distances]
  simp [check_web_ok (n := n) (A := A) m rs hw, h, fe]
theorem are_alike_ok (hw : WebOk m rs) (hw' : WebOk m rs') : ∃ d, callF Ps (n + 9) i_are_alike [wD m rs, wD m rs'] A = .ok d A := by
  obtain ⟨d, hp, h⟩ := pair_by_ok (n + 4) A m rs rs' hw hw'
  have fe : ∀ b, finish true A (.bl b) A = .ok (.bl b) A := fun b => fin_bl b
  refine ⟨.bl (decide (d = .non) != false), ?_⟩
  rw [rn_are_alike, b_are_alike]
  simp [two_ok (n := n) (A := A) hw hw', h]
theorem pair_unlike_ok (hw : WebOk m rs) (hw' : WebOk m rs') : ∃ d, callF Ps (n + 9) i_pair_unlike [wD m rs, wD m rs'] A = .ok d A := by
  obtain ⟨d, hp, h⟩ := pair_by_ok (n + 4) A m rs rs' hw hw'
  have fe : finish true A d A = .ok d A := fin_pu0 hp
  refine ⟨d, ?_⟩
  rw [rn_pair_unlike, b_pair_unlike]
  simp [two_ok (n := n) (A := A) hw hw', h, fe]
theorem is_needless_ok {k : Nat} (hw : WebOk m rs) (hk : k < rs.length) : ∃ d, callF Ps (n + 8) i_is_needless [wD m rs, .int k] A = .ok d A := by
  obtain ⟨b, h⟩ := needless_by_ok (n + 2) A m rs k hw hk
  refine ⟨.bl b, ?_⟩
  rw [rn_is_needless, b_is_needless]
  simp [check_web_ok (n := n) (A := A) m rs hw, road_ok (n := n + 3) (A := A) (m := m) hk, h]
theorem check_place_ok {p : Nat} (hp : p < m) : callF Ps (n + 3) i_check_place [wD m rs, .int p] A = .ok .non A := by
  rw [rn_check_place, b_check_place]
  have b := is_between_int n A p 0 ((m : Int) - 1)
  have e1 : decide ((0 : Int) ≤ p) = true := decide_eq_true (by omega)
  have e2 : decide ((p : Int) ≤ (m : Int) - 1) = true := decide_eq_true (by omega)
  rw [e1, e2] at b
  have w0 : idxO A (wD m rs) (.int 0) = some (.int m) := by simp [wD]
  simp [w0, b]
theorem distance_ok {p q : Nat} (hw : WebOk m rs) (hp : p < m) (hq : q < m) : callF Ps (n + 9) i_distance [wD m rs, .int p, .int q] A = .ok (oD (DF m rs p q)) A := by
  have c : callF Ps (n + 8) i_check_two_places [wD m rs, .int p, .int q] A = .ok .non A := by
    rw [rn_check_two_places, b_check_two_places]
    simp [check_web_ok (n := n) (A := A) m rs hw, check_place_ok (n := n + 4) (A := A) (rs := rs) hp, check_place_ok (n := n + 4) (A := A) (rs := rs) hq]
  have d := distance_by_ok (n + 4) A m rs p q hw hp hq
  have fe : finish true A (oD (DF m rs p q)) A = .ok (oD (DF m rs p q)) A := fin_pu0 (pu_oD 7 _)
  rw [rn_distance, b_distance]
  simp [c, d, fe]
end
end K64

set_option maxRecDepth 100000
/-! K64k: each function's refusals; a turn of the law -/
namespace K64
open PySem (Str)
open Ev
abbrev sWeb : Str := Str.ofString "web"
abbrev sNum : Str := Str.ofString "number"
def badI (m : Nat) (rs : List Road) : List Item := (noW m rs).map fun x => (x, sWeb)
def farI (m : Nat) (rs : List Road) : List Item := badI m rs ++ [(wD (m % 9 + 1) [], sWeb)]
def oddL (k : Nat) : List D := [.int k, .int (-1), .non, .bl true, .bl false, .str (Str.ofString "0"), .tup [.int 0], .lst [.int 0], .int 100000000000000000000000000000]
def oddI (k : Nat) : List Item := (oddL k).map fun x => (x, sNum)
theorem noW_len (m : Nat) (rs : List Road) : (noW m rs).length = 30 := rfl
theorem bad_it {m : Nat} {rs : List Road} (hw : WebOk m rs) {it : Item} (h : it ∈ badI m rs) : NotW it.1 ∧ Ok it.1 ∧ it.2 = sWeb := by
  obtain ⟨x, hx, rfl⟩ := List.mem_map.mp h
  exact ⟨noW_not hw x hx, noW_ok hw x hx, rfl⟩
theorem far_web (m : Nat) : WebOk (m % 9 + 1) [] := ⟨by omega, by omega, by simp, (fun r h => by cases h), List.Pairwise.nil⟩
theorem wD_ok {m : Nat} {rs : List Road} (hw : WebOk m rs) : Ok (wD m rs) := by
  obtain ⟨s1, s2⟩ := rds_small rs hw
  have hm : D.sml (.int m) = true := by
    simp only [D.sml, Int.natAbs_natCast, decide_eq_true_eq]
    have := hw.hi
    exact Nat.lt_of_le_of_lt (by omega : m ≤ 9) (by decide)
  exact .mk' (pu_wD 1 m rs) (by simp [wD, D.flatN, D.flatNs, flat_rDs 57 rs]) (by simp [wD, D.sml, D.smls, s1] at hm ⊢; exact hm) (by simp [wD, D.wt, D.wts]; omega)
theorem far_it {m : Nat} {rs : List Road} (hw : WebOk m rs) {it : Item} (h : it ∈ farI m rs) : (NotW it.1 ∨ it.1 = wD (m % 9 + 1) []) ∧ Ok it.1 ∧ it.2 = sWeb := by
  rcases List.mem_append.mp h with h | h
  · obtain ⟨a, b, c⟩ := bad_it hw h
    exact ⟨.inl a, b, c⟩
  · simp at h; subst h
    exact ⟨.inr rfl, wD_ok (far_web m), rfl⟩
theorem odd_not {k : Nat} (hk : k ≤ 20) : ∀ x ∈ oddL k, NotI k x := by
  intro x hx
  simp only [oddL, List.mem_cons, List.not_mem_nil, or_false] at hx
  rcases hx with rfl | rfl | rfl | rfl | rfl | rfl | rfl | rfl | rfl
  · exact between_out _ _ _ (by omega)
  · exact between_out _ _ _ (by omega)
  · exact between_ty _ _ _ (fun i z => by cases z) ⟨_, rfl, by simp⟩ fun _ => rfl
  · exact between_ty _ _ _ (fun i z => by cases z) ⟨_, rfl, by simp⟩ fun _ => rfl
  · exact between_ty _ _ _ (fun i z => by cases z) ⟨_, rfl, by simp⟩ fun _ => rfl
  · exact between_ty _ _ _ (fun i z => by cases z) ⟨_, rfl, by simp⟩ fun _ => rfl
  · exact between_ty _ _ _ (fun i z => by cases z) ⟨_, rfl, by simp⟩ fun _ => rfl
  · exact between_ty _ _ _ (fun i z => by cases z) ⟨_, rfl, by simp⟩ fun _ => rfl
  · exact between_out _ _ _ (by omega)
theorem odd_ok {k : Nat} (hk : k ≤ 20) : ∀ x ∈ oddL k, Ok x := by
  intro x hx
  simp only [oddL, List.mem_cons, List.not_mem_nil, or_false] at hx
  rcases hx with rfl | rfl | rfl | rfl | rfl | rfl | rfl | rfl | rfl
  · refine .mk' rfl rfl ?_ (by simp [D.wt])
    simp only [D.sml, Int.natAbs_natCast, decide_eq_true_eq]
    exact Nat.lt_of_le_of_lt hk (by decide)
  · exact .mk' rfl rfl rfl (by decide)
  · exact .mk' rfl rfl rfl (by decide)
  · exact .mk' rfl rfl rfl (by decide)
  · exact .mk' rfl rfl rfl (by decide)
  · exact .mk' rfl (by decide +kernel) rfl (by decide +kernel)
  · exact .mk' rfl rfl rfl (by decide)
  · exact .mk' rfl rfl rfl (by decide)
  · exact .mk' rfl rfl (by decide +kernel) (by decide)
section
variable {n f : Nat} {m : Nat} {rs rs' : List Road}
theorem hd1 (hw : WebOk m rs) (hb : ∀ x, NotW x → D.pu 5 x = true → ∀ A, callF Ps (n + 9) f [x] A = .exc 0 x A) (ho : ∀ A, ∃ d, callF Ps (n + 9) f [wD m rs] A = .ok d A) : Hd (n + 10) f [wD m rs] [badI m rs] where
  one := fun k hk l hl it hit A => by
    have hk0 : k = 0 := by simp at hk; exact hk
    subst hk0
    cases hl
    obtain ⟨a, b, c⟩ := bad_it hw hit
    have h := heard_exc (n := n + 9) (f := f) (c := 0) (A := A) (args := [it.1]) (x := it.1) (.inl rfl) (.inl rfl) b.pu (hb _ a b.pu A)
    rw [c]; exact h
  two := fun k hk => by simp at hk
  all := fun A => by
    obtain ⟨d, h⟩ := ho A
    exact heard_ok (.inl rfl) h
  can := fun l hl it hit => by
    simp at hl; subst hl
    exact (bad_it hw hit).2.1
  len := rfl
  lo := ⟨by simp, by simp⟩
  row := fun l hl => by
    simp at hl; subst hl
    simp [badI, noW_len]
theorem hd2 (hw : WebOk m rs) (h1 : ∀ x y, NotW x → D.pu 5 x = true → ∀ A, callF Ps (n + 9) f [x, y] A = .exc 0 x A) (h2 : ∀ y, NotW y → D.pu 5 y = true → ∀ A, callF Ps (n + 9) f [wD m rs, y] A = .exc 0 y A)
    (h3 : ∀ A, callF Ps (n + 9) f [wD m rs, wD (m % 9 + 1) []] A = .exc 0 (wD (m % 9 + 1) []) A) (ho : ∀ A, ∃ d, callF Ps (n + 9) f [wD m rs, wD m rs'] A = .ok d A) : Hd (n + 10) f [wD m rs, wD m rs'] [badI m rs, farI m rs] where
  one := fun k hk l hl it hit A => by
    have hk0 : k = 0 ∨ k = 1 := by simp at hk; omega
    rcases hk0 with rfl | rfl
    · cases hl
      obtain ⟨a, b, c⟩ := bad_it hw hit
      have h := heard_exc (n := n + 9) (f := f) (c := 0) (A := A) (args := [it.1, wD m rs']) (x := it.1) (.inr rfl) (.inl rfl) b.pu (h1 _ _ a b.pu A)
      rw [c]; exact h
    · cases hl
      obtain ⟨a, b, c⟩ := far_it hw hit
      have e : callF Ps (n + 9) f [wD m rs, it.1] A = .exc 0 it.1 A := by
        rcases a with a | a
        · exact h2 _ a b.pu A
        · rw [a]; exact h3 A
      have h := heard_exc (n := n + 9) (f := f) (c := 0) (A := A) (args := [wD m rs, it.1]) (x := it.1) (.inr rfl) (.inl rfl) b.pu e
      rw [c]; exact h
  two := fun k hk l l2 hl hl2 it hit it2 hit2 A => by
    have hk0 : k = 0 := by simp at hk; omega
    subst hk0
    cases hl
    obtain ⟨a, b, c⟩ := bad_it hw hit
    have h := heard_exc (n := n + 9) (f := f) (c := 0) (A := A) (args := [it.1, it2.1]) (x := it.1) (.inr rfl) (.inl rfl) b.pu (h1 _ _ a b.pu A)
    rw [c]; exact h
  all := fun A => by
    obtain ⟨d, h⟩ := ho A
    exact heard_ok (.inr rfl) h
  can := fun l hl it hit => by
    simp at hl
    rcases hl with rfl | rfl
    · exact (bad_it hw hit).2.1
    · exact (far_it hw hit).2.1
  len := rfl
  lo := ⟨by simp, by simp⟩
  row := fun l hl => by
    simp at hl
    rcases hl with rfl | rfl
    · simp [badI, noW_len]
    · simp [farI, badI, noW_len]
theorem hd3 (hw : WebOk m rs) (hr : 0 < rs.length) : Hd (n + 10) i_is_needless [wD m rs, .int ((rs.length - 1 : Nat) : Int)] [badI m rs, oddI rs.length] where
  one := fun k hk l hl it hit A => by
    have hk0 : k = 0 ∨ k = 1 := by simp at hk; omega
    rcases hk0 with rfl | rfl
    · cases hl
      obtain ⟨a, b, c⟩ := bad_it hw hit
      have h := heard_exc (n := n + 9) (f := i_is_needless) (c := 0) (A := A) (args := [it.1, .int ((rs.length - 1 : Nat) : Int)]) (x := it.1) (.inr rfl) (.inl rfl) b.pu (is_needless_bad1 (n := n + 1) a b.pu)
      rw [c]; exact h
    · cases hl
      obtain ⟨x, hx, rfl⟩ := List.mem_map.mp hit
      have b := odd_ok hw.len x hx
      exact heard_exc (n := n + 9) (f := i_is_needless) (c := 4) (A := A) (args := [wD m rs, x]) (x := x) (.inr rfl) (.inr rfl) b.pu (is_needless_bad2 (n := n + 1) hw (odd_not hw.len x hx) b.pu)
  two := fun k hk l l2 hl hl2 it hit it2 hit2 A => by
    have hk0 : k = 0 := by simp at hk; omega
    subst hk0
    cases hl
    obtain ⟨a, b, c⟩ := bad_it hw hit
    have h := heard_exc (n := n + 9) (f := i_is_needless) (c := 0) (A := A) (args := [it.1, it2.1]) (x := it.1) (.inr rfl) (.inl rfl) b.pu (is_needless_bad1 (n := n + 1) a b.pu)
    rw [c]; exact h
  all := fun A => by
    obtain ⟨d, h⟩ := is_needless_ok (n := n + 1) (A := A) hw (by omega : rs.length - 1 < rs.length)
    exact heard_ok (.inr rfl) h
  can := fun l hl it hit => by
    simp at hl
    rcases hl with rfl | rfl
    · exact (bad_it hw hit).2.1
    · obtain ⟨x, hx, rfl⟩ := List.mem_map.mp hit
      exact odd_ok hw.len x hx
  len := rfl
  lo := ⟨by simp, by simp⟩
  row := fun l hl => by
    simp at hl
    rcases hl with rfl | rfl
    · simp [badI, noW_len]
    · simp [oddI, oddL]
end
section
variable (n : Nat) (pre E : AH)
theorem loop0_ok (q : Int × Int × Int) (m : Nat) (rs : List Road) (hw : WebOk m rs) (e1 e2 e4 e5 e6 e7 e8 e10 e11 : Option D) :
    ∃ q' e5', evS (callF Ps (n + 11)) l__law_right_0 [some (.ref pre.length), e1, e2, some (.lst ((badI m rs).map nD)), e4, e5, e6, e7, e8, some (wD m rs), e10, e11, none] (St1 pre q E) =
      .ok (.nx, [some (.ref pre.length), e1, e2, some (.lst ((badI m rs).map nD)), e4, e5', e6, e7, e8, some (wD m rs), e10, e11, none]) (St1 pre q' E) := by
  have key : ∃ env' A', evS (callF Ps (n + 11)) l__law_right_0 [some (.ref pre.length), e1, e2, some (.lst ((badI m rs).map nD)), e4, e5, e6, e7, e8, some (wD m rs), e10, e11, none] (St1 pre q E) = .ok (.nx, env') A' ∧
      ∃ q' e5', env' = [some (.ref pre.length), e1, e2, some (.lst ((badI m rs).map nD)), e4, e5', e6, e7, e8, some (wD m rs), e10, e11, none] ∧ A' = St1 pre q' E := by
    rw [l__law_right_0]
    refine for_inv (f := fun f : Nat => D.fn f) (xs := [i_needless_roads, i_thinned, i_distances]) (Pv := fun _ env B => ∃ q' e5', env = [some (.ref pre.length), e1, e2, some (.lst ((badI m rs).map nD)), e4, e5', e6, e7, e8, some (wD m rs), e10, e11, none] ∧ B = St1 pre q' E) (A1 := St1 pre q E) (by simp) ⟨q, e5, rfl, rfl⟩ ?_
    rintro done f env B hf ⟨q1, e5', rfl, rfl⟩
    have hd : Hd (n + 10) f [wD m rs] [badI m rs] := by
      simp only [List.mem_cons, List.not_mem_nil, or_false] at hf
      rcases hf with rfl | rfl | rfl
      · exact hd1 hw (fun x a b A => needless_roads_bad (n := n + 1) a b) fun A => needless_roads_ok (n := n + 1) hw
      · exact hd1 hw (fun x a b A => thinned_bad (n := n + 1) a b) fun A => thinned_ok (n := n + 1) hw
      · exact hd1 hw (fun x a b A => distances_bad (n := n + 1) a b) fun A => ⟨_, distances_ok (n := n + 1) hw⟩
    obtain ⟨q2, h⟩ := refused_ok (n := n + 8) (pre := pre) (E := E) hd q1
    have sd : sD [badI m rs] = .lst [.lst ((badI m rs).map nD)] := rfl
    rw [sd] at h
    refine ⟨_, _, .nx, _, _, asg_nm _ _, ?_, .inl rfl, ⟨q2, some (.fn f), rfl, rfl⟩⟩
    simp only [List.set_cons_succ, List.set_cons_zero, evSs_cons, evSs_nil, evS_iff, ev_not, ev_call, evs_cons, evs_nil, ev_tup, ev_lst, ev_var, List.getElem?_cons_succ, List.getElem?_cons_zero, bnd_ok, h, tst_ok, truO_bl, ofO_some, Bool.not_true, Bool.false_eq_true, if_false, nextS_nx]
  obtain ⟨env', A', k1, q', e5', k2, k3⟩ := key
  exact ⟨q', e5', by rw [k1, k2, k3]⟩
theorem loop1_ok (q : Int × Int × Int) (m : Nat) (rs rs' : List Road) (hw : WebOk m rs) (hw' : WebOk m rs') (e1 e5 e6 e7 e8 e10 e11 : Option D) :
    ∃ q' e5', evS (callF Ps (n + 11)) l__law_right_1 [some (.ref pre.length), e1, some (wD m rs'), some (.lst ((badI m rs).map nD)), some (.lst ((farI m rs).map nD)), e5, e6, e7, e8, some (wD m rs), e10, e11, none] (St1 pre q E) =
      .ok (.nx, [some (.ref pre.length), e1, some (wD m rs'), some (.lst ((badI m rs).map nD)), some (.lst ((farI m rs).map nD)), e5', e6, e7, e8, some (wD m rs), e10, e11, none]) (St1 pre q' E) := by
  have key : ∃ env' A', evS (callF Ps (n + 11)) l__law_right_1 [some (.ref pre.length), e1, some (wD m rs'), some (.lst ((badI m rs).map nD)), some (.lst ((farI m rs).map nD)), e5, e6, e7, e8, some (wD m rs), e10, e11, none] (St1 pre q E) = .ok (.nx, env') A' ∧
      ∃ q' e5', env' = [some (.ref pre.length), e1, some (wD m rs'), some (.lst ((badI m rs).map nD)), some (.lst ((farI m rs).map nD)), e5', e6, e7, e8, some (wD m rs), e10, e11, none] ∧ A' = St1 pre q' E := by
    rw [l__law_right_1]
    refine for_inv (f := fun f : Nat => D.fn f) (xs := [i_are_alike, i_pair_unlike]) (Pv := fun _ env B => ∃ q' e5', env = [some (.ref pre.length), e1, some (wD m rs'), some (.lst ((badI m rs).map nD)), some (.lst ((farI m rs).map nD)), e5', e6, e7, e8, some (wD m rs), e10, e11, none] ∧ B = St1 pre q' E) (A1 := St1 pre q E) (by simp) ⟨q, e5, rfl, rfl⟩ ?_
    rintro done f env B hf ⟨q1, e5', rfl, rfl⟩
    have hne : m ≠ m % 9 + 1 := by have := hw.lo; have := hw.hi; omega
    have fp : D.pu 5 (wD (m % 9 + 1) []) = true := pu_wD 1 _ _
    have hd : Hd (n + 10) f [wD m rs, wD m rs'] [badI m rs, farI m rs] := by
      simp only [List.mem_cons, List.not_mem_nil, or_false] at hf
      rcases hf with rfl | rfl
      · exact hd2 hw (fun x y a b A => alike_exc (two_bad1 a b) b) (fun y a b A => alike_exc (two_bad2 hw a b) b) (fun A => alike_exc (two_far hw (far_web m) hne) fp) fun A => are_alike_ok hw hw'
      · exact hd2 hw (fun x y a b A => unlike_exc (two_bad1 a b) b) (fun y a b A => unlike_exc (two_bad2 hw a b) b) (fun A => unlike_exc (two_far hw (far_web m) hne) fp) fun A => pair_unlike_ok hw hw'
    obtain ⟨q2, h⟩ := refused_ok (n := n + 8) (pre := pre) (E := E) hd q1
    have sd : sD [badI m rs, farI m rs] = .lst [.lst ((badI m rs).map nD), .lst ((farI m rs).map nD)] := rfl
    rw [sd] at h
    refine ⟨_, _, .nx, _, _, asg_nm _ _, ?_, .inl rfl, ⟨q2, some (.fn f), rfl, rfl⟩⟩
    simp only [List.set_cons_succ, List.set_cons_zero, evSs_cons, evSs_nil, evS_iff, ev_not, ev_call, evs_cons, evs_nil, ev_tup, ev_lst, ev_var, List.getElem?_cons_succ, List.getElem?_cons_zero, bnd_ok, h, tst_ok, truO_bl, ofO_some, Bool.not_true, Bool.false_eq_true, if_false, nextS_nx]
  obtain ⟨env', A', k1, q', e5', k2, k3⟩ := key
  exact ⟨q', e5', by rw [k1, k2, k3]⟩
end
end K64

set_option maxRecDepth 100000
/-! K64l: the law -/
namespace K64
open PySem (Str)
open Ev
theorem pow_29 (A : AH) : binO A .pow (.int 10) (.int 29) = some (.int 100000000000000000000000000000) := by
  show (if 0 ≤ (29 : Int) ∧ (29 : Int) ≤ 1000000 ∧ (10 : Int).natAbs < 2 ^ 64 then some (D.int (10 ^ (29 : Int).toNat)) else none) = _
  rw [if_pos (by decide)]; rfl
theorem bad_named (m : Nat) (rs : List Road) : ((noW m rs).map fun x => D.lst [x, .str sWeb, x]) = (badI m rs).map nD := by
  unfold badI; rw [List.map_map]; rfl
theorem odd_named (k : Nat) : ((oddL k).map fun x => D.lst [x, .str sNum, x]) = (oddI k).map nD := by
  unfold oddI; rw [List.map_map]; rfl
section
variable (n : Nat) (pre E : AH)
theorem right_c0 (cl : Cl) (A : AH) (m m' : Nat) (rs rs' : List Road) (hw' : WebOk m' rs') (e0 e1 e3 e4 e5 e6 e7 e8 e10 e11 : Option D) : ev cl c__law_right_0 [e0, e1, some (wD m' rs'), e3, e4, e5, e6, e7, e8, some (wD m rs), e10, e11, none] A = .ok (.lst ((rs'.filter fun r => decide (r.2.1 < m)).map rD)) A := by
  rw [c__law_right_0]
  have w1 : ∀ B, idxO B (wD m' rs') (.int 1) = some (.tup (rs'.map rD)) := fun B => by simp [wD]
  have w0 : ∀ B, idxO B (wD m rs) (.int 0) = some (.int m) := fun B => by simp [wD]
  refine cmp_filt (f := rD) (g := rD) (p := fun r : Road => decide (r.2.1 < m)) (xs := rs') (by simp [w1]) (by have := hw'.len; omega) fun r hr => ⟨_, asg_nm _ _, ?_, fun _ => by simp⟩
  by_cases h : r.2.1 < m
  · simp [rD, w0, h]
  · simp [rD, w0, h]
/-- the statements of a turn behind the webs -/
theorem cond9 (q : Int × Int × Int) (m : Nat) (rs : List Road) (hw : WebOk m rs) (e1 e2 e4 e5 e8 e10 e11 : Option D) : ∃ q', tst (ev (callF Ps (n + 11)) (.or (.and (.cmp .gt (.var 6) (.int 0)) (.one (.not (.call i__law_refused_right (.cons (.var 0) (.cons (.fn (Str.ofString "is_needless") i_is_needless) (.cons (.tup (.cons (.var 9) (.cons (.bin .sub (.var 6) (.int 1)) .nil))) (.cons (.lst (.cons (.var 3) (.cons (.var 7) .nil))) .nil)))))))) (.one (.and (.cmp .eq (.var 6) (.int 0)) (.one (.cmp .ne (.call i__law_heard (.cons (.fn (Str.ofString "is_needless") i_is_needless) (.cons (.tup (.cons (.var 9) (.cons (.int 0) .nil))) .nil))) (.lst (.cons (.str (Str.ofString "number")) (.cons (.int 0) .nil))))))))
    [some (.ref pre.length), e1, e2, some (.lst ((badI m rs).map nD)), e4, e5, some (.int rs.length), some (.lst ((oddI rs.length).map nD)), e8, some (wD m rs), e10, e11, none] (St1 pre q E)) = .ok false (St1 pre q' E) := by
  by_cases hr : 0 < rs.length
  · obtain ⟨q', h⟩ := refused_ok (n := n + 8) (pre := pre) (E := E) (hd3 (n := n) hw hr) q
    have sd : sD [badI m rs, oddI rs.length] = .lst [.lst ((badI m rs).map nD), .lst ((oddI rs.length).map nD)] := rfl
    rw [sd] at h
    have c : ((rs.length : Int) - 1) = ((rs.length - 1 : Nat) : Int) := by omega
    have g : decide ((0 : Int) < (rs.length : Int)) = true := decide_eq_true (by omega)
    have z : ((rs.length : Int) == 0) = false := by rw [beq_eq_false_iff_ne]; omega
    refine ⟨q', ?_⟩
    simp only [ev_or, ev_and, ev_one, ev_not, ev_cmp, ev_call, ev_fn, evs_cons, evs_nil, ev_tup, ev_lst, ev_bin, ev_int, ev_var, List.getElem?_cons_succ, List.getElem?_cons_zero, bnd_ok, cmpO_gt, g, Option.map_some, ofO_some, truO_bl, if_true, binO_sub, c, h, tst_ok, Bool.not_true, Bool.false_eq_true, if_false, cmpO_eq, z]
  · have h0 : rs = [] := by
      cases rs with
      | nil => rfl
      | cons _ _ => simp at hr
    subst h0
    have h := heard_exc (n := n + 10) (f := i_is_needless) (c := 4) (A := St1 pre q E) (args := [wD m [], .int 0]) (x := .int 0) (.inr rfl) (.inr rfl) rfl (is_needless_bad2 (n := n + 2) hw (between_out 0 0 _ (by simp)) rfl)
    have wo : wordOf 4 = Str.ofString "number" := rfl
    rw [wo] at h
    have nr := ne_refl (A := St1 pre q E) (d := .lst [.str (Str.ofString "number"), .int 0]) (by decide +kernel)
    refine ⟨q, ?_⟩
    simp [h, nr]
def turnB : Ss := match l__law_right_2 with
  | .for _ _ b => b
  | _ => .nil
theorem right2_eq : l__law_right_2 = .for (.nm 1) (.rng1 (.int 5)) turnB := rfl
theorem turn_ok (q : Int × Int × Int) (e1 e2 e3 e4 e5 e6 e7 e8 e9 e10 e11 : Option D) : ∃ q' f2 f3 f4 f5 f6 f7 f8 f9 f10 f11,
    evSs (callF Ps (n + 11)) turnB [some (.ref pre.length), e1, e2, e3, e4, e5, e6, e7, e8, e9, e10, e11, none] (St1 pre q E) = .ok (.nx, [some (.ref pre.length), e1, f2, f3, f4, f5, f6, f7, f8, f9, f10, f11, none]) (St1 pre q' E) := by
  obtain ⟨m, rs, q1, hw, h1⟩ := web_ok (n + 9) pre E q
  obtain ⟨m', rs0, q2, hw0, h2⟩ := web_ok (n + 9) pre E q1
  have hc0 := right_c0 (callF Ps (n + 11)) (St1 pre q2 E) m m' rs rs0 hw0 (some (.ref pre.length)) e1 e3 e4 e5 e6 e7 e8 e10 e11
  generalize hrs : rs0.filter (fun r => decide (r.2.1 < m)) = rs' at hc0
  have hw' : WebOk m rs' := by
    have s : rs'.Sublist rs0 := hrs ▸ List.filter_sublist
    refine ⟨hw.lo, hw.hi, Nat.le_trans s.length_le hw0.len, fun r hr => ?_, hw0.sorted.sublist s⟩
    have k := hw0.road r (s.subset hr)
    rw [← hrs, List.mem_filter] at hr
    exact ⟨k.1, of_decide_eq_true hr.2, k.2.2.1, k.2.2.2⟩
  have w0 : ∀ B, idxO B (wD m rs) (.int 0) = some (.int m) := fun B => by simp [wD]
  have w1 : ∀ B, idxO B (wD m rs) (.int 1) = some (.tup (rs.map rD)) := fun B => by simp [wD]
  have tw : D.tup [.int (m : Int), .tup (rs'.map rD)] = wD m rs' := rfl
  have nw := no_webs_ok (n + 10) (St1 pre q2 E) m rs hw
  have nm := named_ok (n + 10) (St1 pre q2 E) (noW m rs) sWeb (by rw [noW_len]; decide) fun x hx => (noW_ok hw x hx).pu
  rw [bad_named] at nm
  have nm2 := named_ok (n + 10) (St1 pre q2 E) [wD (m % 9 + 1) []] sWeb (by simp) fun x hx => by simp at hx; subst hx; exact pu_wD 1 _ _
  have ww : wD (m % 9 + 1) [] = .tup [.int ((m : Int) % 9 + 1), .tup []] := by
    show D.tup [.int ((m % 9 + 1 : Nat) : Int), .tup []] = _
    congr 3
  have fa : ∀ B, binO B .add (.lst ((badI m rs).map nD)) (.lst ([wD (m % 9 + 1) []].map fun x => .lst [x, .str sWeb, x])) = some (.lst ((farI m rs).map nD)) := fun B => by
    rw [add_lst _ (by simp [badI, noW_len])]
    unfold farI
    rw [List.map_append]; rfl
  obtain ⟨q3, f5, h3⟩ := loop0_ok n pre E q2 m rs hw e1 (some (wD m rs')) (some (.lst ((farI m rs).map nD))) e5 e6 e7 e8 e10 e11
  obtain ⟨q4, f5', h4⟩ := loop1_ok n pre E q3 m rs rs' hw hw' e1 f5 e6 e7 e8 e10 e11
  have nm3 := named_ok (n + 10) (St1 pre q4 E) (oddL rs.length) sNum (by simp [oddL]) fun x hx => (odd_ok hw.len x hx).pu
  rw [odd_named] at nm3
  simp only [oddL] at nm3
  obtain ⟨q5, h5⟩ := cond9 n pre E q4 m rs hw e1 (some (wD m rs')) (some (.lst ((farI m rs).map nD))) f5' e8 e10 e11
  have ap := law_apart_ok (n + 10) (St1 pre q5 E) m rs hw
  have ds := distances_ok (n := n + 3) (A := St1 pre q5 E) hw
  have pl : placed [] [wD m rs] [0] = [wD m rs] := rfl
  have cr : D.canR (.lst [tabT m (DF m rs), tabT m (DF m rs)]) = true := by
    have k1 := flat_tab m (DF m rs) 56
    have k2 := sml_tab (m := m) (DF_bd hw)
    have k3 := wt_tab (F := DF m rs) hw.hi
    unfold D.canR
    rw [shw_mk (by simp [D.flatN, D.flatNs, k1]) (by simp [D.sml, D.smls, k2]) (by simp [D.wt, D.wts]; omega), Bool.or_true]
  have rp := repr_of (A := St1 pre q5 E) cr
  have t1 : ((shownD (.lst [tabT m (DF m rs), tabT m (DF m rs)]) == shownD (.lst [tabT m (DF m rs), tabT m (DF m rs)])) : Bool) = true := by simp
  obtain ⟨a, q6, ha, h6⟩ := draw_nat (n + 10) pre E q5 m (by have := hw.lo; have := hw.hi; omega)
  obtain ⟨b, q7, hb, h7⟩ := draw_nat (n + 10) pre E q6 m (by have := hw.lo; have := hw.hi; omega)
  have di := distance_ok (n := n + 2) (A := St1 pre q7 E) hw ha hb
  have ra := tab_row (A := St1 pre q7 E) (F := DF m rs) ha
  have rb := tab_row (A := St1 pre q7 E) (F := DF m rs) hb
  have ab := tab_at (A := St1 pre q7 E) (F := DF m rs) (i := a) hb
  have ba := tab_at (A := St1 pre q7 E) (F := DF m rs) (i := b) ha
  have aa := tab_at (A := St1 pre q7 E) (F := DF m rs) (i := a) ha
  rw [DF_symm m rs b a] at ba
  rw [(DF_tri hw).diag a ha] at aa
  have n1 := ne_refl (A := St1 pre q7 E) (flat_oD 60 (DF m rs a b))
  have n0 : cmpO (St1 pre q7 E) .ne (oD (some 0)) (.int 0) = some false := rfl
  refine ⟨q7, some (wD m rs'), some (.lst ((badI m rs).map nD)), some (.lst ((farI m rs).map nD)), f5', some (.int rs.length), some (.lst ((oddI rs.length).map nD)), some (tabT m (DF m rs)), some (wD m rs), some (.int a), some (.int b), ?_⟩
  simp only [turnB, l__law_right_2]
  rw [evSs_cons]
  simp only [evS_asg, ev_tup, evs_cons, evs_nil, ev_call, ev_var, ev_int, List.getElem?_cons_succ, List.getElem?_cons_zero, bnd_ok, h1, h2, asg_tup, shal_tup, unpO_tup, ofO_some, asgs_cons, asgs_nil, asg_nm, List.set_cons_succ, List.set_cons_zero, nextS_nx]
  rw [evSs_cons]
  simp only [evS_asg, ev_tup, evs_cons, evs_nil, ev_idx, ev_bi, ev_var, ev_int, List.getElem?_cons_succ, List.getElem?_cons_zero, bnd_ok, w0, ofO_some, hc0, bi_tuple, shal_lst, seqO_lst, Option.map_some, asg_nm, List.set_cons_succ, List.set_cons_zero, nextS_nx, tw]
  rw [evSs_cons]
  simp only [evS_asg, evs_cons, evs_nil, ev_call, ev_var, ev_str, List.getElem?_cons_succ, List.getElem?_cons_zero, bnd_ok, nw, nm, asg_nm, List.set_cons_succ, List.set_cons_zero, nextS_nx]
  rw [evSs_cons]
  rw [ww] at nm2 fa
  have i9 : (0 : Int) < 9 := by omega
  simp only [evS_asg, ev_bin, ev_call, evs_cons, evs_nil, ev_lst, ev_tup, ev_bi, ev_idx, ev_var, ev_str, ev_int, List.getElem?_cons_succ, List.getElem?_cons_zero, bnd_ok, w0, ofO_some, bi_int, binO_mod, if_pos i9, binO_add, nm2, fa, asg_nm, List.set_cons_succ, List.set_cons_zero, nextS_nx]
  rw [evSs_cons, h3]
  simp only [bnd_ok, nextS_nx]
  rw [evSs_cons, h4]
  simp only [bnd_ok, nextS_nx]
  rw [evSs_cons]
  simp only [evS_asg, evs_cons, evs_nil, ev_bi, ev_idx, ev_var, ev_int, List.getElem?_cons_succ, List.getElem?_cons_zero, bnd_ok, w1, ofO_some, bi_len, lenO_tup, List.length_map, Option.map_some, asg_nm, List.set_cons_succ, List.set_cons_zero, nextS_nx]
  rw [evSs_cons]
  simp only [evS_asg, evs_cons, evs_nil, ev_call, ev_lst, ev_var, ev_int, ev_neg, ev_non, ev_bl, ev_str, ev_tup, ev_bin, pow_29, List.getElem?_cons_succ, List.getElem?_cons_zero, bnd_ok, ofO_some, nm3, asg_nm, List.set_cons_succ, List.set_cons_zero, nextS_nx]
  rw [evSs_cons, evS_iff, h5]
  simp only [bnd_ok, Bool.false_eq_true, if_false, evSs_nil, nextS_nx]
  rw [evSs_cons]
  simp only [evS_asg, evs_cons, evs_nil, ev_call, ev_var, List.getElem?_cons_succ, List.getElem?_cons_zero, bnd_ok, ap, asg_nm, List.set_cons_succ, List.set_cons_zero, nextS_nx]
  rw [evSs_cons]
  simp only [evS_iff, ev_cmp, ev_bi, evs_cons, evs_nil, ev_lst, ev_call, ev_callK, ev_var, List.getElem?_cons_succ, List.getElem?_cons_zero, bnd_ok, ds, pl, rp, ofO_some, ne_str, t1, Bool.not_true, Option.map_some, tst_ok, truO_bl, Bool.false_eq_true, if_false, evSs_nil, nextS_nx]
  rw [evSs_cons]
  simp only [evS_par, evs_cons, evs_nil, ev_call, ev_idx, ev_var, ev_int, List.getElem?_cons_succ, List.getElem?_cons_zero, bnd_ok, w0, ofO_some, h6, h7, List.length_cons, List.length_nil, if_true, setPar_cons, setPar_nil, List.set_cons_succ, List.set_cons_zero, nextS_nx]
  rw [evSs_cons]
  simp only [evS_iff, ev_or, ev_one, ev_cmp, evs_cons, evs_nil, ev_call, ev_idx, ev_var, ev_int, List.getElem?_cons_succ, List.getElem?_cons_zero, bnd_ok, di, ra, rb, ab, ba, aa, n1, n0, ofO_some, Option.map_some, tst_ok, truO_bl, Bool.false_eq_true, if_false, evSs_nil, nextS_nx]
theorem l2_ok (q : Int × Int × Int) : ∃ q' f1 f2 f3 f4 f5 f6 f7 f8 f9 f10 f11, evS (callF Ps (n + 11)) l__law_right_2 [some (.ref pre.length), none, none, none, none, none, none, none, none, none, none, none, none] (St1 pre q E) =
    .ok (.nx, [some (.ref pre.length), f1, f2, f3, f4, f5, f6, f7, f8, f9, f10, f11, none]) (St1 pre q' E) := by
  have key : ∃ env' A', evS (callF Ps (n + 11)) l__law_right_2 [some (.ref pre.length), none, none, none, none, none, none, none, none, none, none, none, none] (St1 pre q E) = .ok (.nx, env') A' ∧
      ∃ q' f1 f2 f3 f4 f5 f6 f7 f8 f9 f10 f11, env' = [some (.ref pre.length), f1, f2, f3, f4, f5, f6, f7, f8, f9, f10, f11, none] ∧ A' = St1 pre q' E := by
    rw [right2_eq]
    refine for_rng (n := 5) (f := fun j : Nat => .int j) (Pv := fun _ env B => ∃ q' f1 f2 f3 f4 f5 f6 f7 f8 f9 f10 f11, env = [some (.ref pre.length), f1, f2, f3, f4, f5, f6, f7, f8, f9, f10, f11, none] ∧ B = St1 pre q' E) (A1 := St1 pre q E) (evi_r1 (ev_int _) (by omega)) ⟨q, none, none, none, none, none, none, none, none, none, none, none, rfl, rfl⟩ ?_
    rintro k env B hk ⟨q1, f1, f2, f3, f4, f5, f6, f7, f8, f9, f10, f11, rfl, rfl⟩
    obtain ⟨q2, g2, g3, g4, g5, g6, g7, g8, g9, g10, g11, h⟩ := turn_ok n pre E q1 (some (.int k)) f2 f3 f4 f5 f6 f7 f8 f9 f10 f11
    exact ⟨_, _, .nx, _, _, asg_nm _ _, h, .inl rfl, ⟨q2, some (.int k), g2, g3, g4, g5, g6, g7, g8, g9, g10, g11, rfl, rfl⟩⟩
  obtain ⟨env', A', k1, q', f1, f2, f3, f4, f5, f6, f7, f8, f9, f10, f11, k2, k3⟩ := key
  exact ⟨q', f1, f2, f3, f4, f5, f6, f7, f8, f9, f10, f11, by rw [k1, k2, k3]⟩
theorem w3 : WebOk 3 [((0, 1, 1) : Road)] := ⟨by omega, by omega, by simp, (fun r h => by simp at h; subst h; exact ⟨by decide, by decide, by decide, by decide⟩), by simp⟩
theorem w1 : WebOk 1 [] := ⟨by omega, by omega, by simp, (fun r h => by cases h), List.Pairwise.nil⟩
theorem right_ok (p : Int × Int × Int) : ∃ q, callF Ps (n + 12) i__law_right [.ref pre.length] (St1 pre p E) = .ok (.bl true) (St1 pre q E) := by
  obtain ⟨q, f1, f2, f3, f4, f5, f6, f7, f8, f9, f10, f11, h⟩ := l2_ok n pre E p
  refine ⟨q, ?_⟩
  have d3 := distances_ok (n := n + 3) (A := St1 pre q E) w3
  have d1 := distances_ok (n := n + 3) (A := St1 pre q E) w1
  have v3 : tabT 3 (DF 3 [((0, 1, 1) : Road)]) = .tup [.tup [.int 0, .int 1, .non], .tup [.int 1, .int 0, .non], .tup [.non, .non, .int 0]] := by decide +kernel
  have v1 : tabT 1 (DF 1 []) = .tup [.tup [.int 0]] := by decide +kernel
  rw [v3] at d3
  rw [v1] at d1
  have u3 : wD 3 [((0, 1, 1) : Road)] = .tup [.int 3, .tup [.tup [.int 0, .int 1, .int 1]]] := rfl
  have u1 : wD 1 [] = .tup [.int 1, .tup []] := rfl
  rw [u3] at d3
  rw [u1] at d1
  have e3 := eq_refl (A := St1 pre q E) (d := .tup [.tup [.int 0, .int 1, .non], .tup [.int 1, .int 0, .non], .tup [.non, .non, .int 0]]) (by decide +kernel)
  have e1 := eq_refl (A := St1 pre q E) (d := .tup [.tup [.int 0]]) (by decide +kernel)
  rw [rn__law_right, b__law_right, evSs_cons, h]
  simp only [bnd_ok, nextS_nx, evSs_cons, evS_ret, ev_and, ev_one, ev_cmp, ev_call, evs_cons, evs_nil, ev_tup, ev_int, ev_non, d3, e3, Option.map_some, ofO_some, truO_bl, if_true, d1, e1, nextS_rt, fnEnd_rt, fin_blP]
end
theorem l_law_0_ok (n : Nat) (A : AH) (ns : List Int) (h : ns.length ≤ 63) : ∃ env' A', evS (callF Ps (n + 12)) l_law_0 [some (.kl (ns.map D.int)), none] A = .ok (.nx, env') A' := by
  have key : ∃ env' A', evS (callF Ps (n + 12)) l_law_0 [some (.kl (ns.map D.int)), none] A = .ok (.nx, env') A' ∧ ∃ e1, env' = [some (.kl (ns.map D.int)), e1] := by
    rw [l_law_0]
    refine for_rng (n := max 2 (min ns.length 3)) (f := fun j : Nat => .int j) (Pv := fun _ env _ => ∃ e1, env = [some (.kl (ns.map D.int)), e1]) (A1 := A) ?_ ⟨none, rfl⟩ ?_
    · refine evi_r1 (n := max 2 (min ns.length 3)) (A1 := A) ?_ (by omega)
      simp only [ev_bi, evs_cons, evs_nil, ev_int, ev_var, List.getElem?_cons_zero, bnd_ok, bi_len, lenO_kl, List.length_map, Option.map_some, ofO_some, bi_min2, bi_max2]
      congr 2
      split <;> split <;> omega
    rintro i env B hi ⟨e1, rfl⟩
    obtain ⟨p, h1⟩ := pool_ok (n + 11) B ns i h
    obtain ⟨q, h2⟩ := right_ok n B [] p
    refine ⟨_, _, .nx, [some (.kl (ns.map D.int)), some (.int i)], St1 B q [], rfl, ?_, .inl rfl, ⟨_, rfl⟩⟩
    simp only [evSs_cons, evSs_nil, evS_iff, ev_not, ev_call, ev_var, evs_cons, evs_nil, List.set_cons_succ, List.set_cons_zero, List.getElem?_cons_succ, List.getElem?_cons_zero, bnd_ok, h1, h2, tst_ok, truO_bl, ofO_some, Bool.not_true, Bool.false_eq_true, if_false, nextS_nx]
  obtain ⟨env', A', k1, _⟩ := key
  exact ⟨env', A', k1⟩
theorem law_true (ns : List Int) (h : ns.length ≤ 63) : callF Ps 40 i_law [.kl (ns.map D.int)] [] = .ok (.bl true) [] := by
  obtain ⟨env', A', hl⟩ := l_law_0_ok 27 [] ns h
  have e := rn_law 39 (.kl (ns.map D.int)) []
  rw [b_law] at e
  refine e.trans ?_
  simp only [evSs_cons, hl, bnd_ok, nextS_nx, evS_ret, ev_bl, nextS_rt, fnEnd_rt]
  exact fin_pu (A := []) (E := A') rfl
end K64

set_option maxRecDepth 100000
namespace K64
open PySem Ev
theorem bd_is_whole (j : Nat) : BindP j d_is_whole := fun _ _ _ _ _ _ us hl => match us, hl with | [_], _ => rfl
theorem bd_is_between (j : Nat) : BindP j d_is_between := fun _ _ _ _ _ _ us hl => match us, hl with | [_, _, _], _ => rfl
theorem bd_is_tuple_of (j : Nat) : BindP j d_is_tuple_of := fun _ _ _ _ _ _ us hl => match us, hl with | [_, _], _ => rfl
theorem bd_is_length (j : Nat) : BindP j d_is_length := fun _ _ _ _ _ _ us hl => match us, hl with | [_], _ => rfl
theorem bd_is_road (j : Nat) : BindP j d_is_road := fun _ _ _ _ _ _ us hl => match us, hl with | [_, _], _ => rfl
theorem bd_are_roads (j : Nat) : BindP j d_are_roads := fun _ _ _ _ _ _ us hl => match us, hl with | [_, _], _ => rfl
theorem bd_is_web_by (j : Nat) : BindP j d_is_web_by := fun _ _ _ _ _ _ us hl => match us, hl with | [_], _ => rfl
theorem bd_places_of (j : Nat) : BindP j d_places_of := fun _ _ _ _ _ _ us hl => match us, hl with | [_], _ => rfl
theorem bd_first_table (j : Nat) : BindP j d_first_table := fun _ _ _ _ _ _ us hl => match us, hl with | [_], _ => rfl
theorem bd_shorter (j : Nat) : BindP j d_shorter := fun _ _ _ _ _ _ us hl => match us, hl with | [_, _, _], _ => rfl
theorem bd_distance_table (j : Nat) : BindP j d_distance_table := fun _ _ _ _ _ _ us hl => match us, hl with | [_], _ => rfl
theorem bd_distance_by (j : Nat) : BindP j d_distance_by := fun _ _ _ _ _ _ us hl => match us, hl with | [_, _, _], _ => rfl
theorem bd_without_road_by (j : Nat) : BindP j d_without_road_by := fun _ _ _ _ _ _ us hl => match us, hl with | [_, _], _ => rfl
theorem bd_check_web (j : Nat) : BindP j d_check_web := fun _ _ _ _ _ _ us hl => match us, hl with | [_], _ => rfl
theorem bd_check_two_webs (j : Nat) : BindP j d_check_two_webs := fun _ _ _ _ _ _ us hl => match us, hl with | [_, _], _ => rfl
theorem bd_check_place (j : Nat) : BindP j d_check_place := fun _ _ _ _ _ _ us hl => match us, hl with | [_, _], _ => rfl
theorem bd_check_number (j : Nat) : BindP j d_check_number := fun _ _ _ _ _ _ us hl => match us, hl with | [_, _, _], _ => rfl
theorem bd_check_road (j : Nat) : BindP j d_check_road := fun _ _ _ _ _ _ us hl => match us, hl with | [_, _], _ => rfl
theorem bd_is_needless_by (j : Nat) : BindP j d_is_needless_by := fun _ _ _ _ _ _ us hl => match us, hl with | [_, _], _ => rfl
theorem bd_needless_roads_by (j : Nat) : BindP j d_needless_roads_by := fun _ _ _ _ _ _ us hl => match us, hl with | [_], _ => rfl
theorem bd_thinned_by (j : Nat) : BindP j d_thinned_by := fun _ _ _ _ _ _ us hl => match us, hl with | [_], _ => rfl
theorem bd_pair_unlike_by (j : Nat) : BindP j d_pair_unlike_by := fun _ _ _ _ _ _ us hl => match us, hl with | [_, _], _ => rfl
theorem bd_distances_by (j : Nat) : BindP j d_distances_by := fun _ _ _ _ _ _ us hl => match us, hl with | [_], _ => rfl
theorem bd_is_needless (j : Nat) : BindP j d_is_needless := fun _ _ _ _ _ _ us hl => match us, hl with | [_, _], _ => rfl
theorem bd_needless_roads (j : Nat) : BindP j d_needless_roads := fun _ _ _ _ _ _ us hl => match us, hl with | [_], _ => rfl
theorem bd_thinned (j : Nat) : BindP j d_thinned := fun _ _ _ _ _ _ us hl => match us, hl with | [_], _ => rfl
theorem bd_are_alike (j : Nat) : BindP j d_are_alike := fun _ _ _ _ _ _ us hl => match us, hl with | [_, _], _ => rfl
theorem bd_pair_unlike (j : Nat) : BindP j d_pair_unlike := fun _ _ _ _ _ _ us hl => match us, hl with | [_, _], _ => rfl
theorem bd_distances (j : Nat) : BindP j d_distances := fun _ _ _ _ _ _ us hl => match us, hl with | [_], _ => rfl
theorem bd_check_two_places (j : Nat) : BindP j d_check_two_places := fun _ _ _ _ _ _ us hl => match us, hl with | [_, _, _], _ => rfl
theorem bd_distance (j : Nat) : BindP j d_distance := fun _ _ _ _ _ _ us hl => match us, hl with | [_, _, _], _ => rfl
theorem bd__law_pool (j : Nat) : BindP j d__law_pool := fun _ _ _ _ _ _ us hl => match us, hl with | [_, _], _ => rfl
theorem bd__law_draw (j : Nat) : BindP j d__law_draw := fun _ _ _ _ _ _ us hl => match us, hl with | [_, _], _ => rfl
theorem bd__law_pick (j : Nat) : BindP j d__law_pick := fun _ _ _ _ _ _ us hl => match us, hl with | [_, _], _ => rfl
theorem bd__law_web (j : Nat) : BindP j d__law_web := fun _ _ _ _ _ _ us hl => match us, hl with | [_, _, _, _], _ => rfl
theorem bd__law_apart (j : Nat) : BindP j d__law_apart := fun _ _ _ _ _ _ us hl => match us, hl with | [_], _ => rfl
theorem bd__law_heard (j : Nat) : BindP j d__law_heard := fun _ _ _ _ _ _ us hl => match us, hl with | [_, _], _ => rfl
theorem bd__law_refused_right (j : Nat) : BindP j d__law_refused_right := fun _ _ _ _ _ _ us hl => match us, hl with | [_, _, _, _], _ => rfl
theorem bd__law_named (j : Nat) : BindP j d__law_named := fun _ _ _ _ _ _ us hl => match us, hl with | [_, _], _ => rfl
theorem bd__law_no_webs (j : Nat) : BindP j d__law_no_webs := fun _ _ _ _ _ _ us hl => match us, hl with | [_], _ => rfl
theorem bd__law_right (j : Nat) : BindP j d__law_right := fun _ _ _ _ _ _ us hl => match us, hl with | [_], _ => rfl
theorem bd_law (j : Nat) : BindP j d_law := fun _ _ _ _ _ _ us hl => match us, hl with | [_], _ => rfl
theorem hB : AllI BindP 0 Ds := ⟨bd_is_whole _, bd_is_between _, bd_is_tuple_of _, bd_is_length _, bd_is_road _, bd_are_roads _, bd_is_web_by _, bd_places_of _, bd_first_table _, bd_shorter _, bd_distance_table _, bd_distance_by _, bd_without_road_by _, bd_check_web _, bd_check_two_webs _, bd_check_place _, bd_check_number _, bd_check_road _, bd_is_needless_by _, bd_needless_roads_by _, bd_thinned_by _, bd_pair_unlike_by _, bd_distances_by _, bd_is_needless _, bd_needless_roads _, bd_thinned _, bd_are_alike _, bd_pair_unlike _, bd_distances _, bd_check_two_places _, bd_distance _, bd__law_pool _, bd__law_draw _, bd__law_pick _, bd__law_web _, bd__law_apart _, bd__law_heard _, bd__law_refused_right _, bd__law_named _, bd__law_no_webs _, bd__law_right _, bd_law _, trivial⟩
theorem kw_0 : KwP Ds (tK.getD 0 (0, 0, [], [])) := fun d e => by cases e; exact fun _ _ _ _ _ _ us ws h1 h2 => match us, ws, h1, h2 with | [], [_], _, _ => rfl
theorem hK : AllQ (KwP Ds) T.kws := ⟨kw_0, trivial⟩
theorem be_NotAWeb : BindE e_NotAWeb := fun _ _ _ _ _ _ _ us hl => match us, hl with | [_, _], _ => rfl
theorem be_InvalidPlace : BindE e_InvalidPlace := fun _ _ _ _ _ _ _ us hl => match us, hl with | [_, _], _ => rfl
theorem be_InvalidNumber : BindE e_InvalidNumber := fun _ _ _ _ _ _ _ us hl => match us, hl with | [_, _], _ => rfl
theorem hEb : AllQ BindE Es := ⟨be_NotAWeb, be_InvalidPlace, be_InvalidNumber, trivial⟩
end K64
open PySem PySem.W PyProof.Rows
set_option maxHeartbeats 0 in
theorem PySem.Challenge.cw_heapcarries_k64_needless_refused_and_dis_holds : PySem.Challenge.rw_heapcarries_k64_needless_refused_and_dis.Holds := by
  w_on; o_law; k_head; (case hw => w_witness2)
  k_fill
  refine Ev.walk_G (l := PySem.Challenge.rw_heapcarries_k64_needless_refused_and_dis) (n := 63) (k := 42) (x := "script") (sp := fun w => Ev.spEnd _) rfl (by decide) rfl ⟨rfl, by decide, by decide⟩ (fun w h Y => PySem.W.kIn_of Y) ?F (fun _ _ a ns hl _ hS => ⟨a, ns, rfl, hS, hl, fun _ => rfl⟩)
  case F =>
    intro w mg fa h KX G hmg
    refine' Ev.da_then KX (d := K64.d_is_whole) (n := (Str.ofString "is_whole")) rfl ?eva0 ?evl0 ?evc0 ?evk0 ?_
    (case eva0 => k_is); (case evl0 => k_is); (case evc0 => k_is); (case evk0 => k_is)
    intro a0
    refine' Ev.da_then KX (d := K64.d_is_between) (n := (Str.ofString "is_between")) rfl ?eva1 ?evl1 ?evc1 ?evk1 ?_
    (case eva1 => k_is); (case evl1 => k_is); (case evc1 => k_is); (case evk1 => k_is)
    intro a1
    refine' Ev.da_then KX (d := K64.d_is_tuple_of) (n := (Str.ofString "is_tuple_of")) rfl ?eva2 ?evl2 ?evc2 ?evk2 ?_
    (case eva2 => k_is); (case evl2 => k_is); (case evc2 => k_is); (case evk2 => k_is)
    intro a2
    refine' Ev.da_then KX (d := K64.d_is_length) (n := (Str.ofString "is_length")) rfl ?eva3 ?evl3 ?evc3 ?evk3 ?_
    (case eva3 => k_is); (case evl3 => k_is); (case evc3 => k_is); (case evk3 => k_is)
    intro a3
    refine' Ev.da_then KX (d := K64.d_is_road) (n := (Str.ofString "is_road")) rfl ?eva4 ?evl4 ?evc4 ?evk4 ?_
    (case eva4 => k_is); (case evl4 => k_is); (case evc4 => k_is); (case evk4 => k_is)
    intro a4
    refine' Ev.da_then KX (d := K64.d_are_roads) (n := (Str.ofString "are_roads")) rfl ?eva5 ?evl5 ?evc5 ?evk5 ?_
    (case eva5 => k_is); (case evl5 => k_is); (case evc5 => k_is); (case evk5 => k_is)
    intro a5
    refine' Ev.da_then KX (d := K64.d_is_web_by) (n := (Str.ofString "is_web_by")) rfl ?eva6 ?evl6 ?evc6 ?evk6 ?_
    (case eva6 => k_is); (case evl6 => k_is); (case evc6 => k_is); (case evk6 => k_is)
    intro a6
    refine' Ev.da_then KX (d := K64.d_places_of) (n := (Str.ofString "places_of")) rfl ?eva7 ?evl7 ?evc7 ?evk7 ?_
    (case eva7 => k_is); (case evl7 => k_is); (case evc7 => k_is); (case evk7 => k_is)
    intro a7
    refine' Ev.da_then KX (d := K64.d_first_table) (n := (Str.ofString "first_table")) rfl ?eva8 ?evl8 ?evc8 ?evk8 ?_
    (case eva8 => k_is); (case evl8 => k_is); (case evc8 => k_is); (case evk8 => k_is)
    intro a8
    refine' Ev.da_then KX (d := K64.d_shorter) (n := (Str.ofString "shorter")) rfl ?eva9 ?evl9 ?evc9 ?evk9 ?_
    (case eva9 => k_is); (case evl9 => k_is); (case evc9 => k_is); (case evk9 => k_is)
    intro a9
    refine' Ev.da_then KX (d := K64.d_distance_table) (n := (Str.ofString "distance_table")) rfl ?eva10 ?evl10 ?evc10 ?evk10 ?_
    (case eva10 => k_is); (case evl10 => k_is); (case evc10 => k_is); (case evk10 => k_is)
    intro a10
    refine' Ev.da_then KX (d := K64.d_distance_by) (n := (Str.ofString "distance_by")) rfl ?eva11 ?evl11 ?evc11 ?evk11 ?_
    (case eva11 => k_is); (case evl11 => k_is); (case evc11 => k_is); (case evk11 => k_is)
    intro a11
    refine' Ev.da_then KX (d := K64.d_without_road_by) (n := (Str.ofString "without_road_by")) rfl ?eva12 ?evl12 ?evc12 ?evk12 ?_
    (case eva12 => k_is); (case evl12 => k_is); (case evc12 => k_is); (case evk12 => k_is)
    intro a12
    refine' Ev.da_then KX (d := K64.d_check_web) (n := (Str.ofString "check_web")) rfl ?eva13 ?evl13 ?evc13 ?evk13 ?_
    (case eva13 => k_is); (case evl13 => k_is); (case evc13 => k_is); (case evk13 => k_is)
    intro a13
    refine' Ev.da_then KX (d := K64.d_check_two_webs) (n := (Str.ofString "check_two_webs")) rfl ?eva14 ?evl14 ?evc14 ?evk14 ?_
    (case eva14 => k_is); (case evl14 => k_is); (case evc14 => k_is); (case evk14 => k_is)
    intro a14
    refine' Ev.da_then KX (d := K64.d_check_place) (n := (Str.ofString "check_place")) rfl ?eva15 ?evl15 ?evc15 ?evk15 ?_
    (case eva15 => k_is); (case evl15 => k_is); (case evc15 => k_is); (case evk15 => k_is)
    intro a15
    refine' Ev.da_then KX (d := K64.d_check_number) (n := (Str.ofString "check_number")) rfl ?eva16 ?evl16 ?evc16 ?evk16 ?_
    (case eva16 => k_is); (case evl16 => k_is); (case evc16 => k_is); (case evk16 => k_is)
    intro a16
    refine' Ev.da_then KX (d := K64.d_check_road) (n := (Str.ofString "check_road")) rfl ?eva17 ?evl17 ?evc17 ?evk17 ?_
    (case eva17 => k_is); (case evl17 => k_is); (case evc17 => k_is); (case evk17 => k_is)
    intro a17
    refine' Ev.da_then KX (d := K64.d_is_needless_by) (n := (Str.ofString "is_needless_by")) rfl ?eva18 ?evl18 ?evc18 ?evk18 ?_
    (case eva18 => k_is); (case evl18 => k_is); (case evc18 => k_is); (case evk18 => k_is)
    intro a18
    refine' Ev.da_then KX (d := K64.d_needless_roads_by) (n := (Str.ofString "needless_roads_by")) rfl ?eva19 ?evl19 ?evc19 ?evk19 ?_
    (case eva19 => k_is); (case evl19 => k_is); (case evc19 => k_is); (case evk19 => k_is)
    intro a19
    refine' Ev.da_then KX (d := K64.d_thinned_by) (n := (Str.ofString "thinned_by")) rfl ?eva20 ?evl20 ?evc20 ?evk20 ?_
    (case eva20 => k_is); (case evl20 => k_is); (case evc20 => k_is); (case evk20 => k_is)
    intro a20
    refine' Ev.da_then KX (d := K64.d_pair_unlike_by) (n := (Str.ofString "pair_unlike_by")) rfl ?eva21 ?evl21 ?evc21 ?evk21 ?_
    (case eva21 => k_is); (case evl21 => k_is); (case evc21 => k_is); (case evk21 => k_is)
    intro a21
    refine' Ev.da_then KX (d := K64.d_distances_by) (n := (Str.ofString "distances_by")) rfl ?eva22 ?evl22 ?evc22 ?evk22 ?_
    (case eva22 => k_is); (case evl22 => k_is); (case evc22 => k_is); (case evk22 => k_is)
    intro a22
    refine' Ev.da_then KX (d := K64.d_is_needless) (n := (Str.ofString "is_needless")) rfl ?eva23 ?evl23 ?evc23 ?evk23 ?_
    (case eva23 => k_is); (case evl23 => k_is); (case evc23 => k_is); (case evk23 => k_is)
    intro a23
    refine' Ev.da_then KX (d := K64.d_needless_roads) (n := (Str.ofString "needless_roads")) rfl ?eva24 ?evl24 ?evc24 ?evk24 ?_
    (case eva24 => k_is); (case evl24 => k_is); (case evc24 => k_is); (case evk24 => k_is)
    intro a24
    refine' Ev.da_then KX (d := K64.d_thinned) (n := (Str.ofString "thinned")) rfl ?eva25 ?evl25 ?evc25 ?evk25 ?_
    (case eva25 => k_is); (case evl25 => k_is); (case evc25 => k_is); (case evk25 => k_is)
    intro a25
    refine' Ev.da_then KX (d := K64.d_are_alike) (n := (Str.ofString "are_alike")) rfl ?eva26 ?evl26 ?evc26 ?evk26 ?_
    (case eva26 => k_is); (case evl26 => k_is); (case evc26 => k_is); (case evk26 => k_is)
    intro a26
    refine' Ev.da_then KX (d := K64.d_pair_unlike) (n := (Str.ofString "pair_unlike")) rfl ?eva27 ?evl27 ?evc27 ?evk27 ?_
    (case eva27 => k_is); (case evl27 => k_is); (case evc27 => k_is); (case evk27 => k_is)
    intro a27
    refine' Ev.da_then KX (d := K64.d_distances) (n := (Str.ofString "distances")) rfl ?eva28 ?evl28 ?evc28 ?evk28 ?_
    (case eva28 => k_is); (case evl28 => k_is); (case evc28 => k_is); (case evk28 => k_is)
    intro a28
    refine' Ev.da_then KX (d := K64.d_check_two_places) (n := (Str.ofString "check_two_places")) rfl ?eva29 ?evl29 ?evc29 ?evk29 ?_
    (case eva29 => k_is); (case evl29 => k_is); (case evc29 => k_is); (case evk29 => k_is)
    intro a29
    refine' Ev.da_then KX (d := K64.d_distance) (n := (Str.ofString "distance")) rfl ?eva30 ?evl30 ?evc30 ?evk30 ?_
    (case eva30 => k_is); (case evl30 => k_is); (case evc30 => k_is); (case evk30 => k_is)
    intro a30
    refine' Ev.da_then KX (d := K64.d__law_pool) (n := (Str.ofString "_law_pool")) rfl ?eva31 ?evl31 ?evc31 ?evk31 ?_
    (case eva31 => k_is); (case evl31 => k_is); (case evc31 => k_is); (case evk31 => k_is)
    intro a31
    refine' Ev.da_then KX (d := K64.d__law_draw) (n := (Str.ofString "_law_draw")) rfl ?eva32 ?evl32 ?evc32 ?evk32 ?_
    (case eva32 => k_is); (case evl32 => k_is); (case evc32 => k_is); (case evk32 => k_is)
    intro a32
    refine' Ev.da_then KX (d := K64.d__law_pick) (n := (Str.ofString "_law_pick")) rfl ?eva33 ?evl33 ?evc33 ?evk33 ?_
    (case eva33 => k_is); (case evl33 => k_is); (case evc33 => k_is); (case evk33 => k_is)
    intro a33
    refine' Ev.da_then KX (d := K64.d__law_web) (n := (Str.ofString "_law_web")) rfl ?eva34 ?evl34 ?evc34 ?evk34 ?_
    (case eva34 => k_is); (case evl34 => k_is); (case evc34 => k_is); (case evk34 => k_is)
    intro a34
    refine' Ev.da_then KX (d := K64.d__law_apart) (n := (Str.ofString "_law_apart")) rfl ?eva35 ?evl35 ?evc35 ?evk35 ?_
    (case eva35 => k_is); (case evl35 => k_is); (case evc35 => k_is); (case evk35 => k_is)
    intro a35
    refine' Ev.da_then KX (d := K64.d__law_heard) (n := (Str.ofString "_law_heard")) rfl ?eva36 ?evl36 ?evc36 ?evk36 ?_
    (case eva36 => k_is); (case evl36 => k_is); (case evc36 => k_is); (case evk36 => k_is)
    intro a36
    refine' Ev.da_then KX (d := K64.d__law_refused_right) (n := (Str.ofString "_law_refused_right")) rfl ?eva37 ?evl37 ?evc37 ?evk37 ?_
    (case eva37 => k_is); (case evl37 => k_is); (case evc37 => k_is); (case evk37 => k_is)
    intro a37
    refine' Ev.da_then KX (d := K64.d__law_named) (n := (Str.ofString "_law_named")) rfl ?eva38 ?evl38 ?evc38 ?evk38 ?_
    (case eva38 => k_is); (case evl38 => k_is); (case evc38 => k_is); (case evk38 => k_is)
    intro a38
    refine' Ev.da_then KX (d := K64.d__law_no_webs) (n := (Str.ofString "_law_no_webs")) rfl ?eva39 ?evl39 ?evc39 ?evk39 ?_
    (case eva39 => k_is); (case evl39 => k_is); (case evc39 => k_is); (case evk39 => k_is)
    intro a39
    refine' Ev.da_then KX (d := K64.d__law_right) (n := (Str.ofString "_law_right")) rfl ?eva40 ?evl40 ?evc40 ?evk40 ?_
    (case eva40 => k_is); (case evl40 => k_is); (case evc40 => k_is); (case evk40 => k_is)
    intro a40
    refine' Ev.da_then KX (d := K64.d_law) (n := (Str.ofString "law")) rfl ?eva41 ?evl41 ?evc41 ?evk41 ?_
    (case eva41 => k_is); (case evl41 => k_is); (case evc41 => k_is); (case evk41 => k_is)
    intro a41
    refine' Ev.gi_then KX (n := (Str.ofString "FIRST")) (i := 0) ?evg0 ?_
    (case evg0 => k_is)
    intro g0
    refine' Ev.gi_then KX (n := (Str.ofString "LENGTH")) (i := 2) ?evg1 ?_
    (case evg1 => k_is)
    intro g1
    refine' Ev.gi_then KX (n := (Str.ofString "MOST_LENGTH")) (i := 99) ?evg2 ?_
    (case evg2 => k_is)
    intro g2
    refine' Ev.gi_then KX (n := (Str.ofString "MOST_PLACES")) (i := 9) ?evg3 ?_
    (case evg3 => k_is)
    intro g3
    refine' Ev.gi_then KX (n := (Str.ofString "MOST_ROADS")) (i := 20) ?evg4 ?_
    (case evg4 => k_is)
    intro g4
    refine' Ev.gi_then KX (n := (Str.ofString "PLACES")) (i := 0) ?evg5 ?_
    (case evg5 => k_is)
    intro g5
    refine' Ev.gi_then KX (n := (Str.ofString "ROADS")) (i := 1) ?evg6 ?_
    (case evg6 => k_is)
    intro g6
    refine' Ev.gi_then KX (n := (Str.ofString "SECOND")) (i := 1) ?evg7 ?_
    (case evg7 => k_is)
    intro g7
    refine' Ev.bl_then KX (n := (Str.ofString "abs")) ?evz0 ?_
    (case evz0 => k_is)
    intro z0
    refine' Ev.bl_then KX (n := (Str.ofString "all")) ?evz1 ?_
    (case evz1 => k_is)
    intro z1
    refine' Ev.bl_then KX (n := (Str.ofString "bool")) ?evz2 ?_
    (case evz2 => k_is)
    intro z2
    refine' Ev.bl_then KX (n := (Str.ofString "divmod")) ?evz3 ?_
    (case evz3 => k_is)
    intro z3
    refine' Ev.bl_then KX (n := (Str.ofString "int")) ?evz4 ?_
    (case evz4 => k_is)
    intro z4
    refine' Ev.bl_then KX (n := (Str.ofString "isinstance")) ?evz5 ?_
    (case evz5 => k_is)
    intro z5
    refine' Ev.bl_then KX (n := (Str.ofString "len")) ?evz6 ?_
    (case evz6 => k_is)
    intro z6
    refine' Ev.bl_then KX (n := (Str.ofString "list")) ?evz7 ?_
    (case evz7 => k_is)
    intro z7
    refine' Ev.bl_then KX (n := (Str.ofString "max")) ?evz8 ?_
    (case evz8 => k_is)
    intro z8
    refine' Ev.bl_then KX (n := (Str.ofString "min")) ?evz9 ?_
    (case evz9 => k_is)
    intro z9
    refine' Ev.bl_then KX (n := (Str.ofString "range")) ?evz10 ?_
    (case evz10 => k_is)
    intro z10
    refine' Ev.bl_then KX (n := (Str.ofString "repr")) ?evz11 ?_
    (case evz11 => k_is)
    intro z11
    refine' Ev.bl_then KX (n := (Str.ofString "sorted")) ?evz12 ?_
    (case evz12 => k_is)
    intro z12
    refine' Ev.bl_then KX (n := (Str.ofString "tuple")) ?evz13 ?_
    (case evz13 => k_is)
    intro z13
    refine' Ev.er_then KX (e := K64.e_NotAWeb) (n := (Str.ofString "NotAWeb")) (f := (Str.ofString "given")) (qn := (Str.ofString "NotAWeb.__init__")) rfl rfl ?evaC0 ?evxL0 ?evbm0 ?evsa0 ?evga0 ?evgg0 ?evnb0 ?eva10 ?evt10 ?evl10 ?evc10 ?evk10 ?evkC0 ?eveC0 ?evtC0 ?evhC0 ?eviC0 ?evha0 ?evhm0 ?_
    (case evaC0 => k_is); (case evxL0 => k_is); (case evbm0 => decide +kernel); (case evsa0 => k_is); (case evga0 => k_is); (case evgg0 => k_is); (case evnb0 => k_is); (case eva10 => k_is); (case evt10 => k_is); (case evl10 => k_is); (case evc10 => k_is); (case evk10 => k_is); (case evkC0 => k_is); (case eveC0 => k_is); (case evtC0 => k_is); (case evhC0 => k_is); (case eviC0 => k_is); (case evha0 => k_is); (case evhm0 => k_is)
    intro er0
    refine' Ev.er_then KX (e := K64.e_InvalidPlace) (n := (Str.ofString "InvalidPlace")) (f := (Str.ofString "given")) (qn := (Str.ofString "InvalidPlace.__init__")) rfl rfl ?evaC1 ?evxL1 ?evbm1 ?evsa1 ?evga1 ?evgg1 ?evnb1 ?eva11 ?evt11 ?evl11 ?evc11 ?evk11 ?evkC1 ?eveC1 ?evtC1 ?evhC1 ?eviC1 ?evha1 ?evhm1 ?_
    (case evaC1 => k_is); (case evxL1 => k_is); (case evbm1 => decide +kernel); (case evsa1 => k_is); (case evga1 => k_is); (case evgg1 => k_is); (case evnb1 => k_is); (case eva11 => k_is); (case evt11 => k_is); (case evl11 => k_is); (case evc11 => k_is); (case evk11 => k_is); (case evkC1 => k_is); (case eveC1 => k_is); (case evtC1 => k_is); (case evhC1 => k_is); (case eviC1 => k_is); (case evha1 => k_is); (case evhm1 => k_is)
    intro er1
    refine' Ev.er_then KX (e := K64.e_InvalidNumber) (n := (Str.ofString "InvalidNumber")) (f := (Str.ofString "given")) (qn := (Str.ofString "InvalidNumber.__init__")) rfl rfl ?evaC2 ?evxL2 ?evbm2 ?evsa2 ?evga2 ?evgg2 ?evnb2 ?eva12 ?evt12 ?evl12 ?evc12 ?evk12 ?evkC2 ?eveC2 ?evtC2 ?evhC2 ?eviC2 ?evha2 ?evhm2 ?_
    (case evaC2 => k_is); (case evxL2 => k_is); (case evbm2 => decide +kernel); (case evsa2 => k_is); (case evga2 => k_is); (case evgg2 => k_is); (case evnb2 => k_is); (case eva12 => k_is); (case evt12 => k_is); (case evl12 => k_is); (case evc12 => k_is); (case evk12 => k_is); (case evkC2 => k_is); (case eveC2 => k_is); (case evtC2 => k_is); (case evhC2 => k_is); (case eviC2 => k_is); (case evha2 => k_is); (case evhm2 => k_is)
    intro er2
    refine' Ev.oc_then KX ?evoa ?evob ?_
    (case evoa => k_is); (case evob => k_is)
    intro oc
    refine' Ev.tr_own KX (x := (Str.ofString "HeapError")) ?evta0 ?evtb0 ?evtc0 ?evtd0 ?_
    (case evta0 => k_is); (case evtb0 => k_is); (case evtc0 => k_is); (case evtd0 => k_is)
    intro tr0
    refine' Ev.pr_own KX (n := (Str.ofString "NotAWeb")) (x := (Str.ofString "HeapError")) (b := true) ?evpa0x0 ?evpb0x0 ?evpc0x0 ?evpd0x0 ?_
    (case evpa0x0 => k_is); (case evpb0x0 => k_is); (case evpc0x0 => k_is); (case evpd0x0 => first | exact .inl rfl | exact .inr (by decide))
    intro pr0x0
    refine' Ev.pr_own KX (n := (Str.ofString "InvalidPlace")) (x := (Str.ofString "HeapError")) (b := true) ?evpa0x1 ?evpb0x1 ?evpc0x1 ?evpd0x1 ?_
    (case evpa0x1 => k_is); (case evpb0x1 => k_is); (case evpc0x1 => k_is); (case evpd0x1 => first | exact .inl rfl | exact .inr (by decide))
    intro pr0x1
    refine' Ev.pr_own KX (n := (Str.ofString "InvalidNumber")) (x := (Str.ofString "HeapError")) (b := true) ?evpa0x2 ?evpb0x2 ?evpc0x2 ?evpd0x2 ?_
    (case evpa0x2 => k_is); (case evpb0x2 => k_is); (case evpc0x2 => k_is); (case evpd0x2 => first | exact .inl rfl | exact .inr (by decide))
    intro pr0x2
    refine' Ev.tr_own KX (x := (Str.ofString "InvalidNumber")) ?evta1 ?evtb1 ?evtc1 ?evtd1 ?_
    (case evta1 => k_is); (case evtb1 => k_is); (case evtc1 => k_is); (case evtd1 => k_is)
    intro tr1
    refine' Ev.pr_own KX (n := (Str.ofString "NotAWeb")) (x := (Str.ofString "InvalidNumber")) (b := false) ?evpa1x0 ?evpb1x0 ?evpc1x0 ?evpd1x0 ?_
    (case evpa1x0 => k_is); (case evpb1x0 => k_is); (case evpc1x0 => k_is); (case evpd1x0 => first | exact .inl rfl | exact .inr (by decide))
    intro pr1x0
    refine' Ev.pr_own KX (n := (Str.ofString "InvalidPlace")) (x := (Str.ofString "InvalidNumber")) (b := false) ?evpa1x1 ?evpb1x1 ?evpc1x1 ?evpd1x1 ?_
    (case evpa1x1 => k_is); (case evpb1x1 => k_is); (case evpc1x1 => k_is); (case evpd1x1 => first | exact .inl rfl | exact .inr (by decide))
    intro pr1x1
    refine' Ev.pr_own KX (n := (Str.ofString "InvalidNumber")) (x := (Str.ofString "InvalidNumber")) (b := true) ?evpa1x2 ?evpb1x2 ?evpc1x2 ?evpd1x2 ?_
    (case evpa1x2 => k_is); (case evpb1x2 => k_is); (case evpc1x2 => k_is); (case evpd1x2 => first | exact .inl rfl | exact .inr (by decide))
    intro pr1x2
    refine' Ev.tr_own KX (x := (Str.ofString "NotAWeb")) ?evta2 ?evtb2 ?evtc2 ?evtd2 ?_
    (case evta2 => k_is); (case evtb2 => k_is); (case evtc2 => k_is); (case evtd2 => k_is)
    intro tr2
    refine' Ev.pr_own KX (n := (Str.ofString "NotAWeb")) (x := (Str.ofString "NotAWeb")) (b := true) ?evpa2x0 ?evpb2x0 ?evpc2x0 ?evpd2x0 ?_
    (case evpa2x0 => k_is); (case evpb2x0 => k_is); (case evpc2x0 => k_is); (case evpd2x0 => first | exact .inl rfl | exact .inr (by decide))
    intro pr2x0
    refine' Ev.pr_own KX (n := (Str.ofString "InvalidPlace")) (x := (Str.ofString "NotAWeb")) (b := false) ?evpa2x1 ?evpb2x1 ?evpc2x1 ?evpd2x1 ?_
    (case evpa2x1 => k_is); (case evpb2x1 => k_is); (case evpc2x1 => k_is); (case evpd2x1 => first | exact .inl rfl | exact .inr (by decide))
    intro pr2x1
    refine' Ev.pr_own KX (n := (Str.ofString "InvalidNumber")) (x := (Str.ofString "NotAWeb")) (b := false) ?evpa2x2 ?evpb2x2 ?evpc2x2 ?evpd2x2 ?_
    (case evpa2x2 => k_is); (case evpb2x2 => k_is); (case evpc2x2 => k_is); (case evpd2x2 => first | exact .inl rfl | exact .inr (by decide))
    intro pr2x2
    refine' Ev.tr_boot KX (x := (Str.ofString "ValueError")) (t0 := "ValueError") ?evta3 (by decide +kernel) ?evtb3 (by decide +kernel) ?_
    (case evta3 => k_is); (case evtb3 => k_is)
    intro tr3
    refine' Ev.pr_boot KX (n := (Str.ofString "NotAWeb")) (x := (Str.ofString "ValueError")) (t0 := "ValueError") (b := true) ?evpa3x0 ?evpb3x0 (by decide +kernel) ?evpc3x0 ?_
    (case evpa3x0 => k_is); (case evpb3x0 => k_is); (case evpc3x0 => k_is)
    intro pr3x0
    refine' Ev.pr_boot KX (n := (Str.ofString "InvalidPlace")) (x := (Str.ofString "ValueError")) (t0 := "ValueError") (b := true) ?evpa3x1 ?evpb3x1 (by decide +kernel) ?evpc3x1 ?_
    (case evpa3x1 => k_is); (case evpb3x1 => k_is); (case evpc3x1 => k_is)
    intro pr3x1
    refine' Ev.pr_boot KX (n := (Str.ofString "InvalidNumber")) (x := (Str.ofString "ValueError")) (t0 := "ValueError") (b := true) ?evpa3x2 ?evpb3x2 (by decide +kernel) ?evpc3x2 ?_
    (case evpa3x2 => k_is); (case evpb3x2 => k_is); (case evpc3x2 => k_is)
    intro pr3x2
    exact Ev.law_mk (i := 41) (d := K64.d_law) KX G hmg K64.hT (by decide) K64.hc K64.hB K64.hK ⟨a0, a1, a2, a3, a4, a5, a6, a7, a8, a9, a10, a11, a12, a13, a14, a15, a16, a17, a18, a19, a20, a21, a22, a23, a24, a25, a26, a27, a28, a29, a30, a31, a32, a33, a34, a35, a36, a37, a38, a39, a40, a41, trivial⟩ ⟨g0, g1, g2, g3, g4, g5, g6, g7, trivial⟩ ⟨z0, z1, z2, z3, z4, z5, z6, z7, z8, z9, z10, z11, z12, z13, trivial⟩ K64.hTe K64.hEn K64.hEc K64.hEb ⟨er0, er1, er2, trivial⟩ oc K64.hTrn ⟨⟨tr0, ⟨pr0x0, pr0x1, pr0x2, trivial⟩⟩, ⟨tr1, ⟨pr1x0, pr1x1, pr1x2, trivial⟩⟩, ⟨tr2, ⟨pr2x0, pr2x1, pr2x2, trivial⟩⟩, ⟨tr3, ⟨pr3x0, pr3x1, pr3x2, trivial⟩⟩, trivial⟩ rfl rfl (by rw [K64.hP]; exact K64.law_true)


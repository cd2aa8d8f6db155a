import PyProof.Rows.All
import Wide.All
import OpenK.AllK
import Wide.FinOn
import HandS.ForMost
import HandS.ForExc
import HandS.Deep
import HandS.IsInst
import HandS.Conv
import HandS.Zip
import HandS.TupAny
import HandS.TupMul
import HandS.DictComp
import HandS.Flow
import HandS.Wide
import HandS.TryMany
import HandS.TupLe
import HandS.Steps
import HandS.Style
import HandS.CallSlots
import HandS.DeepEq
import HandS.TupLen
import KE.SortData
import HandS.Text
import HandS.Lambda
import HandS.CallRecv
import PyProof.AutoSeq1
import KE.KDictList
import HandS.Sort
import HandS.Strs
import KE.SortKeyHeap
import HandS.SortKw
import KE.GoesEnum
import KE.GoesMore
import HandS.Star
import KE.KExcSuper
import HandS.ExcSuper
import HandS.ExcInit
import HandS.ExcField
import KE.KDflt
import PyProof.DefCall
import HandS.More
import KE.KDictZip
import HandS.Defaults
import HandS.HeadHook1
import HandS.HeadEnd
import HandS.HeadHook4
import HandS.EndBits
import KE.KStateDown
import HandS.Head0
import HandS.Head1
import HandS.Head2
import PySem.Challenge.RW_metjoined_k23_forms_by_hand_and_refused
set_option Elab.async false
set_option linter.all false
set_option maxRecDepth 100000
/-! The small language: values, heap, evaluator. -/
noncomputable section
namespace Ev
open PySem

inductive Val where
  | non
  | bl (b : Bool)
  | int (i : Int)
  | str (s : Str)
  | tup (xs : List Val)
  | ref (l : Nat)
  | fn (i : Nat)

abbrev Key := L2.Key

inductive LObj where
  | lst (xs : List Val)
  | frz (xs : List Val)
  | dK (kvs : List (Key × Val))
  | dT (kvs : List (List Key × Val))
  | ins (c : Nat) (fs : List (Str × Val))
  | exc (c : Nat) (fs : List (Str × Val))

/-! ### the heap -/
inductive Tr where
  | nil
  | node (v : Option LObj) (l r : Tr)
def Tr.get : Tr → Nat → Option LObj
  | .nil, _ => none
  | .node v l r, a => match a with
    | 0 => v
    | a + 1 => match Nat.beq (a % 2) 0 with
      | true => l.get (a / 2)
      | false => r.get (a / 2)
def Tr.set : Nat → Tr → Nat → LObj → Tr
  | 0, t, _, _ => t
  | f + 1, t, a, o => match t with
    | .nil => match a with
      | 0 => .node (some o) .nil .nil
      | a + 1 => match Nat.beq (a % 2) 0 with
        | true => .node none (Tr.set f .nil (a / 2) o) .nil
        | false => .node none .nil (Tr.set f .nil (a / 2) o)
    | .node v l r => match a with
      | 0 => .node (some o) l r
      | a + 1 => match Nat.beq (a % 2) 0 with
        | true => .node v (Tr.set f l (a / 2) o) r
        | false => .node v l (Tr.set f r (a / 2) o)
def Tr.val : Tr → Option LObj
  | .nil => none
  | .node v _ _ => v
def Tr.lf : Tr → Tr
  | .nil => .nil
  | .node _ l _ => l
def Tr.rt : Tr → Tr
  | .nil => .nil
  | .node _ _ r => r
theorem Tr.get_zero (t : Tr) : t.get 0 = t.val := by cases t <;> rfl
theorem Tr.get_even (t : Tr) (a : Nat) (h : a % 2 = 0) : t.get (a + 1) = t.lf.get (a / 2) := by
  cases t with
  | nil => rfl
  | node v l r => simp [Tr.get, Tr.lf, h]
theorem Tr.get_odd (t : Tr) (a : Nat) (h : a % 2 = 1) : t.get (a + 1) = t.rt.get (a / 2) := by
  cases t with
  | nil => rfl
  | node v l r => simp [Tr.get, Tr.rt, h]
theorem Tr.set_zero (f : Nat) (t : Tr) (o : LObj) : Tr.set (f + 1) t 0 o = .node (some o) t.lf t.rt := by cases t <;> rfl
theorem Tr.set_even (f : Nat) (t : Tr) (a : Nat) (o : LObj) (h : a % 2 = 0) : Tr.set (f + 1) t (a + 1) o = .node t.val (Tr.set f t.lf (a / 2) o) t.rt := by
  cases t <;> simp [Tr.set, Tr.val, Tr.lf, Tr.rt, h]
theorem Tr.set_odd (f : Nat) (t : Tr) (a : Nat) (o : LObj) (h : a % 2 = 1) : Tr.set (f + 1) t (a + 1) o = .node t.val t.lf (Tr.set f t.rt (a / 2) o) := by
  cases t <;> simp [Tr.set, Tr.val, Tr.lf, Tr.rt, h]
theorem Tr.get_set : ∀ (f : Nat) (t : Tr) (a b : Nat) (o : LObj), a + 1 < 2 ^ f → (Tr.set f t a o).get b = if b = a then some o else t.get b
  | 0, _, a, _, _, h => by simp at h
  | f + 1, t, a, b, o, h => by
    have hf : 2 ^ (f + 1) = 2 * 2 ^ f := by rw [Nat.pow_succ]; omega
    cases a with
    | zero =>
      rw [Tr.set_zero]
      cases b with
      | zero => rfl
      | succ b =>
        rw [if_neg (by omega)]
        rcases Nat.mod_two_eq_zero_or_one b with e | e
        · rw [Tr.get_even _ _ e, Tr.get_even _ _ e]; rfl
        · rw [Tr.get_odd _ _ e, Tr.get_odd _ _ e]; rfl
    | succ a =>
      have ih : ∀ (t : Tr) (b : Nat), (Tr.set f t (a / 2) o).get b = if b = a / 2 then some o else t.get b := fun t b => Tr.get_set f t (a / 2) b o (by omega)
      rcases Nat.mod_two_eq_zero_or_one a with e | e
      · rw [Tr.set_even _ _ _ _ e]
        cases b with
        | zero => rw [if_neg (by omega), Tr.get_zero, Tr.get_zero]; rfl
        | succ b =>
          rcases Nat.mod_two_eq_zero_or_one b with e' | e'
          · rw [Tr.get_even _ _ e', Tr.get_even _ _ e']
            show (Tr.set f t.lf (a / 2) o).get (b / 2) = _
            rw [ih]
            by_cases hb : b = a
            · subst hb; simp
            · rw [if_neg (by omega), if_neg (by omega)]
          · rw [Tr.get_odd _ _ e', Tr.get_odd _ _ e', if_neg (by omega)]; rfl
      · rw [Tr.set_odd _ _ _ _ e]
        cases b with
        | zero => rw [if_neg (by omega), Tr.get_zero, Tr.get_zero]; rfl
        | succ b =>
          rcases Nat.mod_two_eq_zero_or_one b with e' | e'
          · rw [Tr.get_even _ _ e', Tr.get_even _ _ e', if_neg (by omega)]; rfl
          · rw [Tr.get_odd _ _ e', Tr.get_odd _ _ e']
            show (Tr.set f t.rt (a / 2) o).get (b / 2) = _
            rw [ih]
            by_cases hb : b = a
            · subst hb; simp
            · rw [if_neg (by omega), if_neg (by omega)]

structure LHeap where
  n : Nat
  t : Tr
def LHeap.get (h : LHeap) (a : Nat) : Option LObj := match Nat.blt a h.n with
  | true => h.t.get a
  | false => none
def LHeap.put (h : LHeap) (a : Nat) (o : LObj) : LHeap := ⟨h.n, Tr.set (a + 2) h.t a o⟩
def LHeap.push (h : LHeap) (o : LObj) : LHeap := match h with
  | ⟨n, t⟩ => ⟨n + 1, Tr.set (n + 2) t n o⟩
theorem LHeap.get_lt {h : LHeap} {a : Nat} {o : LObj} (e : h.get a = some o) : a < h.n := by
  unfold LHeap.get at e
  cases q : Nat.blt a h.n with
  | true => exact Nat.le_of_ble_eq_true q
  | false => rw [q] at e; cases e
theorem LHeap.get_of {h : LHeap} {a : Nat} (l : a < h.n) : h.get a = h.t.get a := by
  unfold LHeap.get
  rw [show Nat.blt a h.n = true from Nat.ble_eq_true_of_le l]
theorem LHeap.get_ge {h : LHeap} {a : Nat} (l : h.n ≤ a) : h.get a = none := by
  cases e : h.get a with
  | none => rfl
  | some o => have := LHeap.get_lt e; omega
theorem pow_room (a : Nat) : a + 1 < 2 ^ (a + 2) := Nat.lt_trans (Nat.lt_succ_self _) Nat.lt_two_pow_self
theorem LHeap.get_put {h : LHeap} {a b : Nat} {o : LObj} (l : a < h.n) : (h.put a o).get b = if b = a then some o else h.get b := by
  by_cases hb : b < h.n
  · rw [LHeap.get_of (show b < (h.put a o).n from hb), LHeap.get_of hb]
    exact Tr.get_set _ _ _ _ _ (pow_room a)
  · rw [LHeap.get_ge (show (h.put a o).n ≤ b from Nat.le_of_not_lt hb), LHeap.get_ge (Nat.le_of_not_lt hb), if_neg (by omega)]
theorem LHeap.get_push {h : LHeap} {b : Nat} {o : LObj} : (h.push o).get b = if b = h.n then some o else h.get b := by
  obtain ⟨n, t⟩ := h
  show LHeap.get ⟨n + 1, Tr.set (n + 2) t n o⟩ b = _
  by_cases hb : b < n + 1
  · rw [LHeap.get_of (show b < (LHeap.mk (n + 1) (Tr.set (n + 2) t n o)).n from hb)]
    show (Tr.set (n + 2) t n o).get b = _
    rw [Tr.get_set _ _ _ _ _ (pow_room n)]
    by_cases e : b = n
    · rw [if_pos e, if_pos e]
    · rw [if_neg e, if_neg e, LHeap.get_of (show b < (LHeap.mk n t).n from (by show b < n; omega))]
  · rw [LHeap.get_ge (show (LHeap.mk (n + 1) (Tr.set (n + 2) t n o)).n ≤ b from (by show n + 1 ≤ b; omega)), LHeap.get_ge (show (LHeap.mk n t).n ≤ b from (by show n ≤ b; omega)), if_neg (by show ¬ b = n; omega)]

/-! ### results -/
inductive Res (α : Type) where
  | ok (a : α) (h : LHeap)
  | exc (c : Nat) (fs : List (Str × Val)) (h : LHeap)
  | bad
def Res.bind {α β : Type} (r : Res α) (k : α → LHeap → Res β) : Res β := match r with
  | .ok a h => k a h
  | .exc c fs h => .exc c fs h
  | .bad => .bad
abbrev LSt := List (Option Val)
/-- a new object -/
def alloc (o : LObj) (h : LHeap) : Res Val := .ok (.ref h.n) (h.push o)
/-- an object changed -/
def store {α : Type} (l : Nat) (o : LObj) (h : LHeap) (a : α) : Res α := .ok a (h.put l o)

/-! ### texts -/
def natsEq (xs : List Nat) : List Nat → Bool := List.rec (fun ys => match ys with
  | [] => true
  | _ :: _ => false) (fun x _ ih ys => match ys with
  | [] => false
  | y :: ys => match Nat.beq x y with
    | true => ih ys
    | false => false) xs
theorem natsEq_cons (x y : Nat) (xs ys : List Nat) : natsEq (x :: xs) (y :: ys) = match Nat.beq x y with
    | true => natsEq xs ys
    | false => false := rfl
theorem natsEq_iff : ∀ {xs ys : List Nat}, natsEq xs ys = true ↔ xs = ys
  | [], [] => by simp [natsEq]
  | [], _ :: _ => by simp [natsEq]
  | _ :: _, [] => by simp [natsEq]
  | x :: xs, y :: ys => by
    rw [natsEq_cons]
    cases e : Nat.beq x y with
    | true =>
      have := Nat.eq_of_beq_eq_true e
      subst this
      simp [natsEq_iff]
    | false =>
      have := Nat.ne_of_beq_eq_false e
      simp [this]
/-- a list of numbers as one number: the kernel keeps each text's number, so that texts are compared at once -/
def codeL (xs : List Nat) : Nat := List.rec 0 (fun x _ ih => Nat.mul (Nat.pow 2 x) (Nat.add (Nat.mul 2 ih) 1)) xs
theorem codeL_cons (x : Nat) (xs : List Nat) : codeL (x :: xs) = 2 ^ x * (2 * codeL xs + 1) := rfl
theorem two_odd : ∀ {x y a b : Nat}, 2 ^ x * (2 * a + 1) = 2 ^ y * (2 * b + 1) → x = y ∧ a = b
  | 0, 0, a, b, h => by
    rw [Nat.pow_zero, Nat.one_mul, Nat.one_mul] at h
    exact ⟨rfl, by omega⟩
  | 0, y + 1, a, b, h => by
    rw [Nat.pow_zero, Nat.one_mul, Nat.pow_succ, Nat.mul_assoc, Nat.mul_left_comm] at h
    omega
  | x + 1, 0, a, b, h => by
    rw [Nat.pow_zero, Nat.one_mul, Nat.pow_succ, Nat.mul_assoc, Nat.mul_left_comm] at h
    omega
  | x + 1, y + 1, a, b, h => by
    rw [Nat.pow_succ, Nat.pow_succ, Nat.mul_assoc, Nat.mul_assoc, Nat.mul_left_comm, Nat.mul_left_comm (2 ^ y)] at h
    have h2 : 2 ^ x * (2 * a + 1) = 2 ^ y * (2 * b + 1) := Nat.eq_of_mul_eq_mul_left (by decide) h
    obtain ⟨e1, e2⟩ := two_odd h2
    exact ⟨by rw [e1], e2⟩
theorem codeL_inj : ∀ {xs ys : List Nat}, codeL xs = codeL ys → xs = ys
  | [], [], _ => rfl
  | [], y :: ys, h => by
    rw [codeL_cons] at h
    have : 0 < 2 ^ y * (2 * codeL ys + 1) := Nat.mul_pos (Nat.pow_pos (by decide)) (by omega)
    rw [← h] at this
    exact absurd this (Nat.lt_irrefl 0)
  | x :: xs, [], h => by
    rw [codeL_cons] at h
    have : 0 < 2 ^ x * (2 * codeL xs + 1) := Nat.mul_pos (Nat.pow_pos (by decide)) (by omega)
    rw [h] at this
    exact absurd this (Nat.lt_irrefl 0)
  | x :: xs, y :: ys, h => by
    rw [codeL_cons, codeL_cons] at h
    obtain ⟨e1, e2⟩ := two_odd h
    rw [e1, codeL_inj e2]
theorem codeL_iff {xs ys : List Nat} : Nat.beq (codeL xs) (codeL ys) = true ↔ xs = ys :=
  ⟨fun h => codeL_inj (Nat.eq_of_beq_eq_true h), fun h => by rw [h]; exact Nat.beq_refl _⟩
def strEq (a b : Str) : Bool := Nat.beq (codeL a.cps.toList) (codeL b.cps.toList)
theorem strEq_iff {a b : Str} : strEq a b = true ↔ a = b := by
  obtain ⟨x⟩ := a
  obtain ⟨y⟩ := b
  unfold strEq
  rw [codeL_iff]
  constructor
  · intro h
    have : x = y := by simpa using congrArg List.toArray h
    rw [this]
  · intro h
    cases h
    rfl
theorem strEq_beq {a b : Str} : strEq a b = (a == b) := by
  cases e : strEq a b with
  | true => rw [strEq_iff] at e; subst e; simp
  | false =>
    have : a ≠ b := fun q => by rw [strEq_iff.mpr q] at e; cases e
    simp [this]
theorem strEq_dec {a b : Str} : strEq a b = decide (a = b) := by
  cases e : strEq a b with
  | true => rw [strEq_iff] at e; subst e; simp
  | false =>
    have : a ≠ b := fun q => by rw [strEq_iff.mpr q] at e; cases e
    simp [this]
def natsLt : List Nat → List Nat → Bool
  | [], [] => false
  | [], _ :: _ => true
  | _ :: _, [] => false
  | x :: xs, y :: ys => match Nat.blt x y with
    | true => true
    | false => match Nat.beq x y with
      | true => natsLt xs ys
      | false => false
def sApp (a b : Str) : Str := ⟨(a.cps.toList ++ b.cps.toList).toArray⟩
theorem sApp_eq (a b : Str) : sApp a b = a ++ b := by
  obtain ⟨x⟩ := a
  obtain ⟨y⟩ := b
  show (⟨(x.toList ++ y.toList).toArray⟩ : Str) = ⟨x ++ y⟩
  congr 1
  apply Array.ext'
  simp
end Ev

set_option Elab.async false
set_option linter.all false
set_option maxRecDepth 100000
/-! The small language: operations on values. -/
noncomputable section
namespace Ev
open PySem

inductive BOp where | add | sub | mul | fdiv | mod | pow
inductive COp where | eq | ne | lt | le | gt | ge | inn | nin | isb | nsb
inductive Bi where | len | all | any | max | min | int | tuple | list | sum
inductive Ty where | int | str | tuple | list | bool | dict | exc (c : Nat) | cls (c : Nat)

def mapOpt {α β : Type} (f : α → Option β) : List α → Option (List β)
  | [] => some []
  | x :: xs => match f x with
    | none => none
    | some y => match mapOpt f xs with
      | none => none
      | some ys => some (y :: ys)
/-- a value as data -/
def toD : Nat → LHeap → Val → Option PyData
  | 0, _, _ => none
  | n + 1, h, v => match v with
    | .non => some .none
    | .bl b => some (.bool b)
    | .int i => some (.int i)
    | .str s => some (.str s)
    | .tup xs => match mapOpt (toD n h) xs with
      | some ds => some (.tuple ds)
      | none => none
    | .ref l => match h.get l with
      | some (.lst xs) => (match mapOpt (toD n h) xs with
        | some ds => some (.list ds)
        | none => none)
      | some (.frz xs) => (match mapOpt (toD n h) xs with
        | some ds => some (.list ds)
        | none => none)
      | _ => none
    | .fn _ => none
def eqD (h : LHeap) (a b : Val) : Option Bool := match toD 66 h a with
  | none => none
  | some d => match toD 66 h b with
    | none => none
    | some e => match SeqAt.shaped d && SeqAt.shaped e with
      | true => some (PyData.eqv d e)
      | false => none
/-- == -/
def eqVal (h : LHeap) (a b : Val) : Option Bool := match a, b with
  | .int i, .int j => some (decide (i = j))
  | .str x, .str y => some (strEq x y)
  | .bl x, .bl y => some (decide (x = y))
  | .non, .non => some true
  | .non, .int _ => some false
  | .int _, .non => some false
  | .non, .bl _ => some false
  | .bl _, .non => some false
  | .non, .str _ => some false
  | .str _, .non => some false
  | .int _, .str _ => some false
  | .str _, .int _ => some false
  | .bl _, .str _ => some false
  | .str _, .bl _ => some false
  | a, b => eqD h a b
def flat : Val → Bool
  | .non => true
  | .bl _ => true
  | .int _ => true
  | .str _ => true
  | _ => false
def eqFlat : Val → Val → Bool
  | .non, .non => true
  | .bl a, .bl b => a == b
  | .bl a, .int b => (if a then 1 else 0) == b
  | .int a, .bl b => a == (if b then 1 else 0)
  | .int a, .int b => a == b
  | .str a, .str b => strEq a b
  | _, _ => false
/-- the items of a list or tuple -/
def items (h : LHeap) : Val → Option (List Val)
  | .tup xs => some xs
  | .ref l => match h.get l with
    | some (.lst xs) => some xs
    | some (.frz xs) => some xs
    | _ => none
  | _ => none
def anyEq (x : Val) : List Val → Bool
  | [] => false
  | y :: ys => match eqFlat y x with
    | true => true
    | false => anyEq x ys
def allFlat : List Val → Bool
  | [] => true
  | x :: xs => match flat x with
    | true => allFlat xs
    | false => false
def anyEqv (d : PyData) : List PyData → Bool
  | [] => false
  | e :: es => match PyData.eqv e d with
    | true => true
    | false => anyEqv d es
def inDeep (h : LHeap) (x : Val) (ys : List Val) : Option Bool := match toD 66 h x with
  | none => none
  | some d => match mapOpt (toD 65 h) ys with
    | none => none
    | some ds => match SeqAt.shaped d && SeqAt.shaped (.list ds) with
      | true => some (anyEqv d ds)
      | false => none
def keyOf : Val → Option Key
  | .int i => some (.inl i)
  | .str s => some (.inr s)
  | _ => none
def keyV : Key → Val
  | .inl i => .int i
  | .inr s => .str s
def keyEq : Key → Key → Bool
  | .inl i, .inl j => decide (i = j)
  | .inr x, .inr y => strEq x y
  | _, _ => false
def keysEq (xs : List Key) : List Key → Bool := List.rec (fun ys => match ys with
  | [] => true
  | _ :: _ => false) (fun x _ ih ys => match ys with
  | [] => false
  | y :: ys => match keyEq x y with
    | true => ih ys
    | false => false) xs
theorem keysEq_cons (x y : Key) (xs ys : List Key) : keysEq (x :: xs) (y :: ys) = match keyEq x y with
    | true => keysEq xs ys
    | false => false := rfl
/-- an item more at the end -/
def snoc {α : Type} (xs : List α) (x : α) : List α := List.rec [x] (fun y _ ih => y :: ih) xs
theorem snoc_eq {α : Type} (x : α) : ∀ xs : List α, snoc xs x = xs ++ [x]
  | [] => rfl
  | y :: ys => by
    show y :: snoc ys x = _
    rw [snoc_eq x ys]
    rfl
def lookK (k : Key) (kvs : List (Key × Val)) : Option Val := List.rec none (fun p _ ih => match keyEq p.1 k with
    | true => some p.2
    | false => ih) kvs
theorem lookK_cons (k : Key) (p : Key × Val) (ps : List (Key × Val)) : lookK k (p :: ps) = match keyEq p.1 k with
    | true => some p.2
    | false => lookK k ps := rfl
def lookT (k : List Key) (kvs : List (List Key × Val)) : Option Val := List.rec none (fun p _ ih => match keysEq p.1 k with
    | true => some p.2
    | false => ih) kvs
theorem lookT_cons (k : List Key) (p : List Key × Val) (ps : List (List Key × Val)) : lookT k (p :: ps) = match keysEq p.1 k with
    | true => some p.2
    | false => lookT k ps := rfl
def hasK (k : Key) (kvs : List (Key × Val)) : Bool := List.rec false (fun p _ ih => match keyEq p.1 k with
    | true => true
    | false => ih) kvs
theorem hasK_cons (k : Key) (p : Key × Val) (ps : List (Key × Val)) : hasK k (p :: ps) = match keyEq p.1 k with
    | true => true
    | false => hasK k ps := rfl
def mapK (k : Key) (v : Val) : List (Key × Val) → List (Key × Val)
  | [] => []
  | p :: ps => match keyEq p.1 k with
    | true => (p.1, v) :: mapK k v ps
    | false => p :: mapK k v ps
def putKV (k : Key) (v : Val) (kvs : List (Key × Val)) : List (Key × Val) := match hasK k kvs with
  | true => mapK k v kvs
  | false => kvs ++ [(k, v)]
def hasT (k : List Key) (kvs : List (List Key × Val)) : Bool := List.rec false (fun p _ ih => match keysEq p.1 k with
    | true => true
    | false => ih) kvs
theorem hasT_cons (k : List Key) (p : List Key × Val) (ps : List (List Key × Val)) : hasT k (p :: ps) = match keysEq p.1 k with
    | true => true
    | false => hasT k ps := rfl
def mapT (k : List Key) (v : Val) : List (List Key × Val) → List (List Key × Val)
  | [] => []
  | p :: ps => match keysEq p.1 k with
    | true => (p.1, v) :: mapT k v ps
    | false => p :: mapT k v ps
def putTV (k : List Key) (v : Val) (kvs : List (List Key × Val)) : List (List Key × Val) := match hasT k kvs with
  | true => mapT k v kvs
  | false => snoc kvs (k, v)
def keysOf (xs : List Val) : Option (List Key) := mapOpt keyOf xs
/-- d[y], there or not -/
def dget (h : LHeap) (d y : Val) : Option (Option Val) := match d with
  | .ref l => match h.get l with
    | some (.dK kvs) => (match keyOf y with
      | some k => some (lookK k kvs)
      | none => none)
    | some (.dT kvs) => (match y with
      | .tup ys => (match keysOf ys with
        | some k => some (lookT k kvs)
        | none => none)
      | _ => none)
    | _ => none
  | _ => none
def isDict (h : LHeap) : Val → Bool
  | .ref l => match h.get l with
    | some (.dK _) => true
    | some (.dT _) => true
    | _ => false
  | _ => false
/-- x in y -/
def inVal (h : LHeap) (x y : Val) : Option Bool := match y with
  | .str z => match x with
    | .str s => (match s.cps.toList with
      | [c] => some (z.cps.toList.any fun d => Nat.beq d c)
      | _ => none)
    | _ => none
  | y => match isDict h y with
    | true => (match dget h y x with
      | some (some _) => some true
      | some none => some false
      | none => none)
    | false => match items h y with
      | none => none
      | some ys => match flat x && allFlat ys with
        | true => some (anyEq x ys)
        | false => inDeep h x ys
def optNot : Option Bool → Option Bool
  | some b => some (!b)
  | none => none
def cmpOp (o : COp) (x y : Val) (h : LHeap) : Option Bool := match o with
  | .eq => eqVal h x y
  | .ne => optNot (eqVal h x y)
  | .lt => match x, y with
    | .int i, .int j => some (decide (i < j))
    | .str a, .str b => some (natsLt a.cps.toList b.cps.toList)
    | _, _ => none
  | .le => match x, y with
    | .int i, .int j => some (decide (i ≤ j))
    | .str a, .str b => some (!natsLt b.cps.toList a.cps.toList)
    | _, _ => none
  | .gt => match x, y with
    | .int i, .int j => some (decide (j < i))
    | _, _ => none
  | .ge => match x, y with
    | .int i, .int j => some (decide (j ≤ i))
    | _, _ => none
  | .inn => inVal h x y
  | .nin => optNot (inVal h x y)
  | .isb => match y with
    | .non => (match x with
      | .non => some true
      | _ => some false)
    | .bl b => (match x with
      | .bl a => some (decide (a = b))
      | _ => none)
    | _ => none
  | .nsb => match y with
    | .non => (match x with
      | .non => some false
      | _ => some true)
    | .bl b => (match x with
      | .bl a => some (!decide (a = b))
      | _ => none)
    | _ => none
def line : Nat := 16777216
def flatten {α : Type} : List (List α) → List α
  | [] => []
  | x :: xs => x ++ flatten xs
def rep {α : Type} (xs : List α) : Nat → List α
  | 0 => []
  | n + 1 => xs ++ rep xs n
def small (i : Int) : Bool := decide (-18446744073709551616 < i) && decide (i < 18446744073709551616)
def binOp (o : BOp) (x y : Val) (h : LHeap) : Res Val := match o with
  | .add => match x, y with
    | .int i, .int j => .ok (.int (i + j)) h
    | .str a, .str b => (match Nat.ble (a.cps.toList.length + b.cps.toList.length) line with
      | true => .ok (.str (sApp a b)) h
      | false => .bad)
    | .tup xs, .tup ys => (match Nat.ble (xs.length + ys.length) line with
      | true => .ok (.tup (xs ++ ys)) h
      | false => .bad)
    | .ref l, .ref k => (match h.get l, h.get k with
      | some (.lst xs), some (.lst ys) => (match Nat.ble (xs.length + ys.length) line with
        | true => alloc (.lst (xs ++ ys)) h
        | false => .bad)
      | _, _ => .bad)
    | _, _ => .bad
  | .sub => match x, y with
    | .int i, .int j => .ok (.int (i - j)) h
    | _, _ => .bad
  | .mul => match x, y with
    | .int i, .int j => (match small i || small j with
      | true => .ok (.int (i * j)) h
      | false => .bad)
    | .ref l, .int k => (match h.get l with
      | some (.lst xs) => (match decide (0 ≤ k) && decide (k ≤ 1000) && Nat.ble (xs.length * k.toNat) line with
        | true => alloc (.lst (rep xs k.toNat)) h
        | false => .bad)
      | _ => .bad)
    | .tup xs, .int k => (match decide (2 ≤ k) && decide (k ≤ 1000) && Nat.ble 1 xs.length && Nat.ble xs.length 1000 with
      | true => .ok (.tup (rep xs k.toNat)) h
      | false => .bad)
    | _, _ => .bad
  | .fdiv => match x, y with
    | .int i, .int j => (match decide (0 < j) && decide (j < 18446744073709551616) with
      | true => .ok (.int (i / j)) h
      | false => .bad)
    | _, _ => .bad
  | .mod => match x, y with
    | .int i, .int j => (match decide (0 < j) with
      | true => .ok (.int (i % j)) h
      | false => .bad)
    | _, _ => .bad
  | .pow => match x, y with
    | .int i, .int j => (match decide (0 ≤ j) && decide (j ≤ 1000000) && small i with
      | true => .ok (.int (i ^ j.toNat)) h
      | false => .bad)
    | _, _ => .bad
/-- truth -/
def truth (h : LHeap) : Val → Option Bool
  | .non => some false
  | .bl b => some b
  | .int i => some (i != 0)
  | _ => none
def ix (n : Nat) (i : Int) : Option Nat := match decide (0 ≤ i) with
  | true => (match decide (i < n) with
    | true => some i.toNat
    | false => none)
  | false => (match decide (-(n : Int) ≤ i) with
    | true => some (i + n).toNat
    | false => none)
def nth {α : Type} : List α → Nat → Option α
  | [], _ => none
  | x :: _, 0 => some x
  | _ :: xs, n + 1 => nth xs n
/-- a[i] -/
def subVal (h : LHeap) (a i : Val) : Option Val := match isDict h a with
  | true => (match dget h a i with
    | some (some v) => some v
    | _ => none)
  | false => match i with
    | .int k => (match a with
      | .str s => (match Nat.ble s.cps.toList.length line with
        | true => (match ix s.cps.toList.length k with
          | some j => (match nth s.cps.toList j with
            | some c => some (.str ⟨[c].toArray⟩)
            | none => none)
          | none => none)
        | false => none)
      | a => (match items h a with
        | some xs => (match ix xs.length k with
          | some j => nth xs j
          | none => none)
        | none => none))
    | _ => none
def bnd (n d : Nat) : Option Int → Nat
  | none => d
  | some v => match decide (v < 0) with
    | true => (v + (n : Int)).toNat
    | false => Nat.min v.toNat n
def cut {α : Type} (xs : List α) (lo hi : Option Int) : List α := (xs.drop (bnd xs.length 0 lo)).take (bnd xs.length xs.length hi - bnd xs.length 0 lo)
/-- a[lo:hi] -/
def sliceVal (h : LHeap) (a : Val) (lo hi : Option Int) : Res Val := match a with
  | .tup xs => .ok (.tup (cut xs lo hi)) h
  | .ref l => (match h.get l with
    | some (.lst xs) => alloc (.lst (cut xs lo hi)) h
    | some (.frz xs) => alloc (.lst (cut xs lo hi)) h
    | _ => .bad)
  | .str s => (match Nat.ble s.cps.toList.length line with
    | true => .ok (.str ⟨(cut s.cps.toList lo hi).toArray⟩) h
    | false => .bad)
  | _ => .bad
def bools : List Val → Option (List Bool)
  | [] => some []
  | .bl b :: xs => (match bools xs with
    | some bs => some (b :: bs)
    | none => none)
  | _ => none
def intsOf : List Val → Option (List Int)
  | [] => some []
  | .int i :: xs => (match intsOf xs with
    | some is => some (i :: is)
    | none => none)
  | _ => none
def allB : List Bool → Bool
  | [] => true
  | b :: bs => match b with
    | true => allB bs
    | false => false
def anyB : List Bool → Bool
  | [] => false
  | b :: bs => match b with
    | true => true
    | false => anyB bs
def sumI : List Int → Int
  | [] => 0
  | i :: is => i + sumI is
/-- a list's items, of a list alone -/
def itemsL (h : LHeap) : Val → Option (List Val)
  | .ref l => match h.get l with
    | some (.lst xs) => some xs
    | some (.frz xs) => some xs
    | _ => none
  | _ => none
def maxI : Int → List Int → Int
  | n, [] => n
  | n, m :: ms => maxI (if m > n then m else n) ms
def minI : Int → List Int → Int
  | n, [] => n
  | n, m :: ms => minI (if m < n then m else n) ms
def biCall (b : Bi) (vs : List Val) (h : LHeap) : Res Val := match b with
  | .len => (match vs with
    | [.str s] => (match Nat.ble s.cps.toList.length line with
      | true => .ok (.int s.cps.toList.length) h
      | false => .bad)
    | [.ref l] => (match h.get l with
      | some (.lst xs) => .ok (.int xs.length) h
      | some (.frz xs) => .ok (.int xs.length) h
      | some (.dK kvs) => .ok (.int kvs.length) h
      | some (.dT kvs) => .ok (.int kvs.length) h
      | _ => .bad)
    | [.tup xs] => .ok (.int xs.length) h
    | _ => .bad)
  | .all => (match vs with
    | [v] => (match itemsL h v with
      | some xs => (match bools xs with
        | some bs => .ok (.bl (allB bs)) h
        | none => .bad)
      | none => .bad)
    | _ => .bad)
  | .any => (match vs with
    | [v] => (match itemsL h v with
      | some xs => (match bools xs with
        | some bs => .ok (.bl (anyB bs)) h
        | none => .bad)
      | none => .bad)
    | _ => .bad)
  | .max => (match vs with
    | [.int i, .int j] => .ok (.int (if j > i then j else i)) h
    | [.ref l] => (match h.get l with
      | some (.lst xs) => (match intsOf xs with
        | some (n :: ns) => .ok (.int (maxI n ns)) h
        | _ => .bad)
      | _ => .bad)
    | _ => .bad)
  | .min => (match vs with
    | [.int i, .int j] => .ok (.int (if j < i then j else i)) h
    | [.ref l] => (match h.get l with
      | some (.lst xs) => (match intsOf xs with
        | some (n :: ns) => .ok (.int (minI n ns)) h
        | _ => .bad)
      | _ => .bad)
    | _ => .bad)
  | .int => (match vs with
    | [.int i] => .ok (.int i) h
    | _ => .bad)
  | .tuple => (match vs with
    | [.tup xs] => .ok (.tup xs) h
    | [.ref l] => (match h.get l with
      | some (.lst xs) => .ok (.tup xs) h
      | some (.frz xs) => .ok (.tup xs) h
      | _ => .bad)
    | _ => .bad)
  | .list => (match vs with
    | [.tup xs] => alloc (.lst xs) h
    | [.ref l] => (match h.get l with
      | some (.lst xs) => alloc (.lst xs) h
      | some (.frz xs) => alloc (.lst xs) h
      | some (.dK kvs) => alloc (.lst (kvs.map fun p => keyV p.1)) h
      | some (.dT kvs) => alloc (.lst (kvs.map fun p => .tup (p.1.map keyV))) h
      | _ => .bad)
    | _ => .bad)
  | .sum => (match vs with
    | [v] => (match itemsL h v with
      | some xs => (match intsOf xs with
        | some is => .ok (.int (sumI is)) h
        | none => .bad)
      | none => .bad)
    | _ => .bad)
/-- isinstance; sub c c': the class c is c' or stands under it -/
def isInst (sub : Nat → Nat → Bool) (h : LHeap) (v : Val) (t : Ty) : Option Bool := match v with
  | .non => some false
  | .bl _ => (match t with
    | .bool => some true
    | .int => some true
    | _ => some false)
  | .int _ => (match t with
    | .int => some true
    | _ => some false)
  | .str _ => (match t with
    | .str => some true
    | _ => some false)
  | .tup _ => (match t with
    | .tuple => some true
    | _ => some false)
  | .ref l => (match h.get l with
    | some (.lst _) => (match t with
      | .list => some true
      | _ => some false)
    | some (.dK _) => (match t with
      | .dict => some true
      | _ => some false)
    | some (.dT _) => (match t with
      | .dict => some true
      | _ => some false)
    | _ => none)
  | .fn _ => none
/-! ### values without objects that may change -/
mutual
def pureV : Val → Bool
  | .ref _ => false
  | .tup xs => pureVs xs
  | .non => true
  | .bl _ => true
  | .int _ => true
  | .str _ => true
  | .fn _ => true
def pureVs : List Val → Bool
  | [] => true
  | x :: xs => match pureV x with
    | true => pureVs xs
    | false => false
end
def pureF : List (Str × Val) → Bool
  | [] => true
  | p :: ps => match pureV p.2 with
    | true => pureF ps
    | false => false
/-- the result of a run by itself, seen from the heap h -/
def sand (r : Res Val) (h : LHeap) : Res Val := match r with
  | .ok v h' => (match pureV v with
    | true => .ok v h
    | false => (match v with
      | .ref l => (match h'.get l with
        | some (.lst xs) => (match pureVs xs with
          | true => alloc (.lst xs) h
          | false => .bad)
        | _ => .bad)
      | _ => .bad))
  | .exc c fs _ => (match pureF fs with
    | true => .exc c fs h
    | false => .bad)
  | .bad => .bad
def heapE : LHeap := ⟨0, .nil⟩
end Ev

set_option Elab.async false
set_option linter.all false
set_option maxRecDepth 100000
/-! The small language: expressions, statements, the evaluator. -/
noncomputable section
namespace Ev
open PySem

inductive Tg where
  | name (i : Nat)
  | tup (is : List Nat)
/-- what an except suite may say of the exception -/
inductive HE where
  | fld (f : Str)
  | lit (v : Val)
  | glb (x : Str) (v : Val)
  | var (i : Nat)
inductive HB where
  | set1 (i : Nat) (e : HE)
  | ret1 (e : HE)
  | retT (es : List HE)
mutual
inductive E where
  | var (i : Nat)
  | lit (v : Val)
  | glb (x : Str) (v : Val)
  | bin (o : BOp) (a b : E)
  | neg (a : E)
  | cmp (o : COp) (a b : E)
  | cmp2 (o o' : COp) (a b c : E)
  | and (a b : E)
  | or (a b : E)
  | not (a : E)
  | ife (c a b : E)
  | tup (es : List E)
  | lst (es : List E)
  | sub (a i : E)
  | slc (a : E) (lo hi : Option E)
  | rev (a : E)
  | call (f : Nat) (es : List E)
  | pcall (f : Nat) (es : List E)
  | bi (b : Bi) (es : List E)
  | isi (e : E) (t : Ty)
  | comp (own : List Nat) (tg : Tg) (it : It) (c : Option E) (elt : E)
  | dsp (kvs : List (Str × E))
  | dnewK
  | dnewT
  | dzip (a b : E)
  | get1 (d k : E)
  | app (l e : E)
  | fld (o : E) (f : Str)
  | meth (c f : Nat) (m : Str) (o : E) (es : List E)
  | make (c f : Nat) (es : List E)
  | ext (l e : E)
  | pop (l : E)
  | popAt (l i : E)
  | vals (d : E)
  | dcomp (own : List Nat) (tg : Tg) (it : It) (c : Option E) (ke ve : E)
  | comp2 (own own1 : List Nat) (tg : Tg) (it : It) (c : Option E) (tg1 : Tg) (it1 : It) (c1 : Option E) (elt : E)
  | tupS (es : List (Bool × E))
  | rpr (e : E)
  | idx (l e : E)
  | lrng (tp : Bool) (a : Option E) (b : E)
  | srt (e : E)
  | dspT (k v : E)
  | srtK (e : E)
  | said (j : Nat) (b : E)
  | gsub (j : Nat) (e : E)
  | gin (neg : Bool) (j : Nat) (e : E)
  | join (a b : E)
  | dspE (kvs : List (E × E))
inductive It where
  | val (e : E)
  | rng1 (a : E)
  | rng2 (a b : E)
  | enum (e : E)
  | zip (a b : E)
end
inductive S where
  | set (i : Nat) (e : E)
  | par (i j : Nat) (a b : E)
  | par3 (i j l : Nat) (a b c : E)
  | unp (is : List Nat) (e : E)
  | ex (e : E)
  | ret (e : E)
  | retN
  | ife (c : E) (a b : List S)
  | whl (c : E) (b : List S)
  | loop (tg : Tg) (it : It) (b : List S)
  | put (o i e : E)
  | setf (o : E) (f : Str) (e : E)
  | raise (c : Nat) (es : List E)
  | tri (b : List S) (hs : List (Nat × Nat × HB))
  | pass
  | brk
  | cont
  | rest (i : Nat) (dead : List Nat) (b : List S)

inductive Fl where
  | nx (s : LSt)
  | rt (v : Val)
  | bk (s : LSt)
  | ct (s : LSt)
inductive RS where
  | ok (f : Fl) (h : LHeap)
  | exc (c : Nat) (fs : List (Str × Val)) (s : LSt) (h : LHeap)
  | bad
/-- an expression's result inside a statement -/
def Res.inS {α : Type} (r : Res α) (s : LSt) (k : α → LHeap → RS) : RS := match r with
  | .ok a h => k a h
  | .exc c fs h => .exc c fs s h
  | .bad => .bad
def optR {α : Type} (o : Option α) (h : LHeap) : Res α := match o with
  | some a => .ok a h
  | none => .bad
/-- the static side of a module: fields of exception classes, which class stands under which -/
structure Cl where
  fields : Nat → List Str
  flds : Nat → List Str
  sub : Nat → Nat → Bool
  cat : Nat → Nat → Option Bool
  said : Nat → List (Nat × Nat × HB)
  gds : Nat → List (Str × Str)
structure Rec where
  e : E → LSt → LHeap → Res Val
  t : E → LSt → LHeap → Res Bool
  s : S → LSt → LHeap → RS
  w : E → List S → LSt → LHeap → RS
section
variable (cl : Cl) (calls : Nat → List Val → LHeap → Res Val) (rc : Rec)

def getV : LSt → Nat → Option Val
  | [], _ => none
  | x :: _, 0 => x
  | _ :: xs, n + 1 => getV xs n
def setV : LSt → Nat → Val → LSt
  | [], _, _ => []
  | _ :: xs, 0, v => some v :: xs
  | x :: xs, n + 1, v => x :: setV xs n v
def unV : LSt → Nat → LSt
  | [], _ => []
  | _ :: xs, 0 => none :: xs
  | x :: xs, n + 1 => x :: unV xs n
def wipeL (s : LSt) : List Nat → LSt
  | [] => s
  | v :: vs => unV (wipeL s vs) v
def setAll : List Nat → List Val → LSt → Option LSt
  | [], [], s => some s
  | i :: is, v :: vs, s => setAll is vs (setV s i v)
  | _, _, _ => none
def Tg.put (t : Tg) (v : Val) (s : LSt) : Option LSt := match t with
  | .name i => some (setV s i v)
  | .tup is => match v with
    | .tup vs => setAll is vs s
    | _ => none
def evs : List E → LSt → LHeap → Res (List Val)
  | [], _, h => .ok [] h
  | e :: es, s, h => (rc.e e s h).bind fun v h1 => (evs es s h1).bind fun vs h2 => .ok (v :: vs) h2
/-- what is walked -/
inductive Src where
  | st (xs : List Val)
  | dyn (l : Nat)
  | dynE (l : Nat)
  | dynZ (l k : Nat)
def srcOf (h : LHeap) (v : Val) : Option Src := match v with
  | .tup xs => some (.st xs)
  | .str x => some (.st (x.cps.toList.map fun c => .str ⟨[c].toArray⟩))
  | .ref l => match h.get l with
    | some (.lst _) => some (.dyn l)
    | some (.frz _) => some (.dyn l)
    | _ => none
  | _ => none
def rngL (lo : Int) : Nat → List Val
  | 0 => []
  | n + 1 => .int lo :: rngL (lo + 1) n
def enumL : Int → List Val → List Val
  | _, [] => []
  | i, x :: xs => .tup [.int i, x] :: enumL (i + 1) xs
def zipL : List Val → List Val → List Val
  | x :: xs, y :: ys => .tup [x, y] :: zipL xs ys
  | _, _ => []
def okR (j : Int) : Bool := decide (-4611686018427387904 ≤ j) && decide (j < 4611686018427387904)
def evIt (it : It) (s : LSt) (h : LHeap) : Res Src := match it with
  | .val e => (rc.e e s h).bind fun v h1 => optR (srcOf h1 v) h1
  | .rng1 a => (rc.e a s h).bind fun v h1 => match v with
    | .int j => (match okR j with
      | true => .ok (.st (rngL 0 j.toNat)) h1
      | false => .bad)
    | _ => .bad
  | .rng2 a b => (rc.e a s h).bind fun v h1 => (rc.e b s h1).bind fun u h2 => match v, u with
    | .int i, .int j => (match okR i && okR j with
      | true => .ok (.st (rngL i (j - i).toNat)) h2
      | false => .bad)
    | _, _ => .bad
  | .enum e => (rc.e e s h).bind fun v h1 => match v with
    | .tup xs => .ok (.st (enumL 0 xs)) h1
    | .ref l => (match h1.get l with
      | some (.lst _) => .ok (.dynE l) h1
      | some (.frz _) => .ok (.dynE l) h1
      | _ => .bad)
    | _ => .bad
  | .zip a b => (rc.e a s h).bind fun v h1 => (rc.e b s h1).bind fun u h2 => match v, u with
    | .tup xs, .tup ys => .ok (.st (zipL xs ys)) h2
    | .ref l, .ref k => (match h2.get l, h2.get k with
      | some (.lst _), some (.lst _) => .ok (.dynZ l k) h2
      | _, _ => .bad)
    | _, _ => .bad
/-- the item at turn i of a list that may change -/
def itemAt (src : Src) (i : Nat) (h : LHeap) : Option (Option Val) := match src with
  | .st xs => some (nth xs i)
  | .dyn l => (match itemsL h (.ref l) with
    | some xs => some (nth xs i)
    | none => none)
  | .dynE l => (match itemsL h (.ref l) with
    | some xs => (match nth xs i with
      | some x => some (some (.tup [.int i, x]))
      | none => some none)
    | none => none)
  | .dynZ l k => (match itemsL h (.ref l), itemsL h (.ref k) with
    | some xs, some ys => (match nth xs i, nth ys i with
      | some x, some y => some (some (.tup [x, y]))
      | _, _ => some none)
    | _, _ => none)
/-- one turn of a comprehension -/
def compOne (own : List Nat) (tg : Tg) (c : Option E) (elt : E) (s : LSt) (x : Val) (h : LHeap) : Res (Option Val) :=
  match tg.put x (wipeL s own) with
  | none => .bad
  | some s2 => match c with
    | none => (rc.e elt s2 h).bind fun y h2 => .ok (some y) h2
    | some c => (rc.t c s2 h).bind fun b h1 => match b with
      | true => (rc.e elt s2 h1).bind fun y h2 => .ok (some y) h2
      | false => .ok none h1
def noExc {α : Type} : Res α → Res α
  | .exc _ _ _ => .bad
  | r => r
def compSt (f : Val → LHeap → Res (Option Val)) : List Val → LHeap → Res (List Val)
  | [], h => .ok [] h
  | x :: xs, h => (f x h).bind fun o h1 => (compSt f xs h1).bind fun ys h2 => match o with
    | some y => .ok (y :: ys) h2
    | none => .ok ys h2
def compDyn (f : Val → LHeap → Res (Option Val)) (src : Src) : Nat → Nat → LHeap → Res (List Val)
  | 0, _, _ => .bad
  | n + 1, i, h => match itemAt src i h with
    | none => .bad
    | some none => .ok [] h
    | some (some x) => (f x h).bind fun o h1 => (compDyn f src n (i + 1) h1).bind fun ys h2 => match o with
      | some y => .ok (y :: ys) h2
      | none => .ok ys h2
def compAll (f : Val → LHeap → Res (Option Val)) (src : Src) (h : LHeap) : Res (List Val) := match src with
  | .st xs => compSt f xs h
  | src => compDyn f src 100000 0 h
/-- a comprehension's list, not yet laid -/
def evComp (own : List Nat) (tg : Tg) (it : It) (c : Option E) (elt : E) (s : LSt) (h : LHeap) : Res (List Val) :=
  (evIt rc it s h).bind fun src h1 => noExc (compAll (compOne rc own tg c elt s) src h1)
/-! ### walks that fold -/
def foldSt {A : Type} (f : Val → A → LHeap → Res A) : List Val → A → LHeap → Res A
  | [], a, h => .ok a h
  | x :: xs, a, h => (f x a h).bind fun a1 h1 => foldSt f xs a1 h1
def foldDyn {A : Type} (f : Val → A → LHeap → Res A) (src : Src) : Nat → Nat → A → LHeap → Res A
  | 0, _, _, _ => .bad
  | n + 1, i, a, h => match itemAt src i h with
    | none => .bad
    | some none => .ok a h
    | some (some x) => (f x a h).bind fun a1 h1 => foldDyn f src n (i + 1) a1 h1
def foldAll {A : Type} (f : Val → A → LHeap → Res A) (src : Src) (a : A) (h : LHeap) : Res A := match src with
  | .st xs => foldSt f xs a h
  | src => foldDyn f src 100000 0 a h
/-- a test that may be left out -/
def condB (c : Option E) (s : LSt) (h : LHeap) : Res Bool := match c with
  | none => .ok true h
  | some c => rc.t c s h
def dcompOne (own : List Nat) (tg : Tg) (c : Option E) (ke ve : E) (s : LSt) (x : Val) (a : List (Key × Val)) (h : LHeap) : Res (List (Key × Val)) := match tg.put x (wipeL s own) with
  | none => .bad
  | some s2 => (condB rc c s2 h).bind fun b h1 => match b with
    | true => (rc.e ke s2 h1).bind fun y h2 => (rc.e ve s2 h2).bind fun z h3 => (match keyOf y with
      | some k => (match Nat.blt a.length line with
        | true => .ok (putKV k z a) h3
        | false => .bad)
      | none => .bad)
    | false => .ok a h1
def comp2One (own own1 : List Nat) (tg : Tg) (c : Option E) (tg1 : Tg) (it1 : It) (c1 : Option E) (elt : E) (s : LSt) (x : Val) (a : List Val) (h : LHeap) : Res (List Val) := match tg.put x (wipeL s own) with
  | none => .bad
  | some s2 => (condB rc c s2 h).bind fun b h1 => match b with
    | true => (evIt rc it1 s2 h1).bind fun src h2 => foldAll (fun x a h => match tg1.put x (wipeL s2 own1) with
      | none => .bad
      | some s3 => (condB rc c1 s3 h).bind fun b h1 => match b with
        | true => (rc.e elt s3 h1).bind fun y h2 => (match Nat.blt a.length line with
          | true => .ok (a ++ [y]) h2
          | false => .bad)
        | false => .ok a h1) src a h2
    | false => .ok a h1
def evsS : List (Bool × E) → LSt → LHeap → Res (List Val)
  | [], _, h => .ok [] h
  | p :: ps, s, h => (rc.e p.2 s h).bind fun v h1 => match p.1 with
    | false => (evsS ps s h1).bind fun vs h2 => .ok (v :: vs) h2
    | true => (match items h1 v with
      | some xs => (evsS ps s h1).bind fun vs h2 => .ok (xs ++ vs) h2
      | none => .bad)
def evKVs : List (Str × E) → LSt → LHeap → Res (List (Key × Val))
  | [], _, h => .ok [] h
  | p :: ps, s, h => (rc.e p.2 s h).bind fun v h1 => (evKVs ps s h1).bind fun vs h2 => .ok ((.inr p.1, v) :: vs) h2
def evOpt (o : Option E) (s : LSt) (h : LHeap) : Res (Option Int) := match o with
  | none => .ok none h
  | some e => (rc.e e s h).bind fun v h1 => match v with
    | .int i => .ok (some i) h1
    | _ => .bad
def kvsOf : List Val → List Val → Option (List (Key × Val))
  | x :: xs, y :: ys => (match keyOf x with
    | some k => (match kvsOf xs ys with
      | some r => some ((k, y) :: r)
      | none => none)
    | none => none)
  | _, _ => some []
def mergeL : List (Key × Val) → List (Key × Val) → List (Key × Val)
  | acc, [] => acc
  | acc, p :: ps => mergeL (putKV p.1 p.2 acc) ps
def lookF (f : Str) : List (Str × Val) → Option Val
  | [] => none
  | p :: ps => match strEq p.1 f with
    | true => some p.2
    | false => lookF f ps
def inS (x : Str) : List Str → Bool
  | [] => false
  | y :: ys => match strEq x y with
    | true => true
    | false => inS x ys
def putFV (f : Str) (v : Val) : List (Str × Val) → List (Str × Val)
  | [] => [(f, v)]
  | p :: ps => match strEq p.1 f with
    | true => (p.1, v) :: ps
    | false => p :: putFV f v ps
/-- the items of a list that may change, or of a tuple -/
def itemsM (h : LHeap) : Val → Option (List Val)
  | .tup xs => some xs
  | .ref l => match h.get l with
    | some (.lst xs) => some xs
    | _ => none
  | _ => none
/-- where the first equal one stands -/
def firstEqv (d : PyData) : List PyData → Nat → Option Nat
  | [], _ => none
  | e :: es, j => match PyData.eqv e d with
    | true => some j
    | false => firstEqv d es (j + 1)
/-- the bounds of a range -/
def evRg (a : Option E) (b : E) (s : LSt) (h : LHeap) : Res (Int × Int) := match a with
  | none => (rc.e b s h).bind fun v h1 => match v with
    | .int j => .ok (0, j) h1
    | _ => .bad
  | some a => (rc.e a s h).bind fun v h1 => (rc.e b s h1).bind fun u h2 => match v, u with
    | .int i, .int j => .ok (i, j) h2
    | _, _ => .bad
/-! ### sorting -/
def insL {A : Type} (le : A → A → Bool) (x : A) : List A → List A
  | [] => [x]
  | y :: ys => match le x y with
    | true => x :: y :: ys
    | false => y :: insL le x ys
def sortL {A : Type} (le : A → A → Bool) : List A → List A
  | [] => []
  | x :: xs => insL le x (sortL le xs)
def intsD : List PyData → Bool
  | [] => true
  | .int _ :: ds => intsD ds
  | _ => false
def strsD : List PyData → Bool
  | [] => true
  | .str _ :: ds => strsD ds
  | _ => false
/-- data of one class are alike -/
def clsD (n : Nat) (d : PyData) : Bool := match n with
  | 0 => (match d with
    | .int _ => true
    | _ => false)
  | 1 => (match d with
    | .str _ => true
    | _ => false)
  | 2 => (match d with
    | .tuple (x :: r) => intsD (x :: r)
    | _ => false)
  | 3 => (match d with
    | .tuple (x :: r) => strsD (x :: r)
    | _ => false)
  | 4 => (match d with
    | .tuple [.int _, .tuple r] => intsD r
    | _ => false)
  | _ => false
def sortOk (ds : List PyData) : Bool := ds.all (clsD 0) || (ds.all (clsD 1) || (ds.all (clsD 2) || (ds.all (clsD 3) || ds.all (clsD 4))))
/-- the key (len(x), x) of a tuple of ints -/
def lenKey (d : PyData) : Option PyData := match d with
  | .tuple r => (match intsD r with
    | true => some (.tuple [.int r.length, .tuple r])
    | false => none)
  | _ => none
def leD : PyData × Val → PyData × Val → Bool := PySem.W.dataLe false fun p => p.1
def hotE (c : Nat) (fs : List (Str × Val)) (s : LSt) (e : HE) : Option Val := match e with
  | .fld f => (match inS f (cl.fields c) with
    | true => lookF f fs
    | false => none)
  | .lit v => some v
  | .glb _ v => some v
  | .var i => getV s i
def hotL (c : Nat) (fs : List (Str × Val)) (s : LSt) : List HE → Option (List Val)
  | [] => some []
  | e :: es => match hotE cl c fs s e with
    | some v => (match hotL c fs s es with
      | some vs => some (v :: vs)
      | none => none)
    | none => none
def hotB (c : Nat) (fs : List (Str × Val)) (s : LSt) (h : LHeap) (b : HB) : RS := match b with
  | .set1 i e => (match hotE cl c fs s e with
    | some v => .ok (.nx (setV s i v)) h
    | none => .bad)
  | .ret1 e => (match hotE cl c fs s e with
    | some v => .ok (.rt v) h
    | none => .bad)
  | .retT es => (match hotL cl c fs s es with
    | some vs => (match Nat.ble vs.length line with
      | true => .ok (.rt (.tup vs)) h
      | false => .bad)
    | none => .bad)
/-- behind a suite its name goes -/
def gone (i : Nat) (r : RS) : RS := match r with
  | .ok (.nx s) h => .ok (.nx (unV s i)) h
  | .ok (.rt v) h => .ok (.rt v) h
  | _ => .bad
def handle (c : Nat) (fs : List (Str × Val)) (s : LSt) (h : LHeap) : List (Nat × Nat × HB) → RS
  | [] => .exc c fs s h
  | p :: hs => match cl.cat c p.1 with
    | some true => (match Nat.blt p.2.1 s.length with
      | true => gone p.2.1 (hotB cl c fs (unV s p.2.1) h p.2.2)
      | false => .bad)
    | some false => handle c fs s h hs
    | none => .bad
/-! ### texts by lists -/
theorem print_ascii : (List.range 95).all (fun c => Unicode.isPrintable (c + 32)) = true := by decide +kernel
/-- a sign of a text's repr: ASCII at once -/
def rcL (q c : Nat) : List Nat := match Nat.blt 31 c && Nat.blt c 127 && !Nat.beq c q && !Nat.beq c 92 with
  | true => [c]
  | false => Builtin.Str.reprChar q c
theorem rcL_eq (q c : Nat) : rcL q c = Builtin.Str.reprChar q c := by
  unfold rcL
  cases e : Nat.blt 31 c && Nat.blt c 127 && !Nat.beq c q && !Nat.beq c 92 with
  | false => rfl
  | true =>
    simp only [Bool.and_eq_true, Bool.not_eq_true'] at e
    obtain ⟨⟨⟨h1, h2⟩, h3⟩, h4⟩ := e
    have a1 : 31 < c := Nat.le_of_ble_eq_true h1
    have a2 : c < 127 := Nat.le_of_ble_eq_true h2
    have a3 : c ≠ q := fun z => by rw [z, Nat.beq_refl] at h3; cases h3
    have a4 : c ≠ 92 := fun z => by rw [z] at h4; cases h4
    have a5 : Unicode.isPrintable c = true := by
      have := List.all_eq_true.mp print_ascii (c - 32) (List.mem_range.mpr (by omega))
      rwa [show c - 32 + 32 = c by omega] at this
    unfold Builtin.Str.reprChar
    dsimp only
    rw [if_neg (by simp [a3, a4]), if_neg (by simp; omega), if_neg (by simp; omega), if_neg (by simp; omega), if_pos a5]
def quoteL (x : List Nat) : Nat := match x.any (Nat.beq 39) && !x.any (Nat.beq 34) with
  | true => 34
  | false => 39
theorem any_beq (a : Nat) (l : List Nat) : l.any (Nat.beq a) = l.contains a := by
  induction l with
  | nil => rfl
  | cons b l ih =>
    rw [List.any_cons, List.contains_cons, ih]
    congr 1
    rw [Bool.eq_iff_iff, beq_iff_eq]
    exact ⟨fun h => Nat.eq_of_beq_eq_true h, fun h => by rw [h]; exact Nat.beq_refl _⟩
theorem quoteL_eq (x : Str) : quoteL x.cps.toList = reprQuote x := by
  unfold quoteL reprQuote
  rw [any_beq, any_beq, Array.contains_toList, Array.contains_toList]
  cases x.cps.contains 39 && !x.cps.contains 34 <;> rfl
def reprL (x : Str) : List Nat := quoteL x.cps.toList :: (x.cps.toList.flatMap (rcL (quoteL x.cps.toList)) ++ [quoteL x.cps.toList])
mutual
def shL : PyData → List Nat
  | .none => [78, 111, 110, 101]
  | .bool b => (match b with
    | true => [84, 114, 117, 101]
    | false => [70, 97, 108, 115, 101])
  | .int i => ((toString i : String) : Str).cps.toList
  | .str x => reprL x
  | .list xs => 91 :: (TL.joinL [44, 32] (shLs xs) ++ [93])
  | .tuple xs => 40 :: (TL.joinL [44, 32] (shLs xs) ++ (match Nat.beq (shLs xs).length 1 with
    | true => [44, 41]
    | false => [41]))
  | .dict kvs => (PyData.shown (.dict kvs)).cps.toList
def shLs : List PyData → List (List Nat)
  | [] => []
  | x :: xs => shL x :: shLs xs
end
theorem foldl_flat (q : Nat) : ∀ (l : List Nat) (acc : Array Nat), (l.foldl (fun out c => out ++ (Builtin.Str.reprChar q c).toArray) acc).toList = acc.toList ++ l.flatMap (Builtin.Str.reprChar q)
  | [], acc => by simp
  | c :: l, acc => by
    rw [List.foldl_cons, foldl_flat q l]
    simp
theorem reprL_eq (x : Str) : TL.tl (reprText x) = reprL x := by
  unfold reprText reprL TL.tl
  rw [Array.toList_push, ← Array.foldl_toList, foldl_flat, quoteL_eq, show rcL (reprQuote x) = Builtin.Str.reprChar (reprQuote x) from funext (rcL_eq _)]
  simp
theorem textFrom_tl : ∀ (ts : List Str) (k : Nat) (acc : Str), TL.tl (textFrom (k + 1) acc ts) = TL.tl acc ++ (ts.flatMap fun t => [44, 32] ++ TL.tl t)
  | [], k, acc => by simp [textFrom]
  | t :: r, k, acc => by
    unfold textFrom
    rw [textFrom_tl r (k + 1)]
    rw [TL.tl_append, TL.tl_append]
    have e : TL.tl (((if k + 1 > 0 then ", " else "" : String)) : Str) = [44, 32] := by
      rw [if_pos (Nat.succ_pos k)]
      decide +kernel
    rw [e]
    simp
theorem joinL_flat (S : List Nat) : ∀ (p : List Nat) (r : List (List Nat)), TL.joinL S (p :: r) = p ++ r.flatMap fun t => S ++ t
  | p, [] => by simp [TL.joinL]
  | p, q :: r => by
    show p ++ (S ++ TL.joinL S (q :: r)) = _
    rw [joinL_flat S q r]
    simp
theorem listText_tl (ts : List Str) : TL.tl (listText ts) = 91 :: (TL.joinL [44, 32] (ts.map TL.tl) ++ [93]) := by
  unfold listText
  rw [TL.tl_append]
  have e1 : TL.tl (("]" : String) : Str) = [93] := by decide +kernel
  have e2 : TL.tl (("[" : String) : Str) = [91] := by decide +kernel
  rw [e1]
  cases ts with
  | nil =>
    show TL.tl (("[" : String) : Str) ++ [93] = _
    rw [e2]
    rfl
  | cons t r =>
    unfold textFrom
    rw [textFrom_tl r 0, TL.tl_append, TL.tl_append, e2, List.map_cons, joinL_flat]
    have e3 : TL.tl (((if 0 > 0 then ", " else "" : String)) : Str) = [] := by decide +kernel
    rw [e3]
    simp [List.flatMap_map]
theorem tupleText_tl (ts : List Str) : TL.tl (tupleText ts) = 40 :: (TL.joinL [44, 32] (ts.map TL.tl) ++ (match Nat.beq (ts.map TL.tl).length 1 with
    | true => [44, 41]
    | false => [41])) := by
  unfold tupleText
  rw [TL.tl_append, TL.tl_append, TL.tl_join]
  have e1 : TL.tl (("(" : String) : Str) = [40] := by decide +kernel
  have e2 : TL.tl ((", " : String) : Str) = [44, 32] := by decide +kernel
  have e3 : TL.tl ((",)" : String) : Str) = [44, 41] := by decide +kernel
  have e4 : TL.tl ((")" : String) : Str) = [41] := by decide +kernel
  rw [e1, e2, List.length_map]
  show [40] ++ TL.joinL [44, 32] (ts.map TL.tl) ++ _ = _
  have eb : (ts.length == 1) = Nat.beq ts.length 1 := by
    rw [Bool.eq_iff_iff, beq_iff_eq]
    exact ⟨fun h => by rw [h]; rfl, fun h => Nat.eq_of_beq_eq_true h⟩
  rw [eb]
  cases q : Nat.beq ts.length 1 with
  | true =>
    rw [if_pos rfl, e3]
    simp
  | false =>
    rw [if_neg (by decide), e4]
    simp
mutual
theorem shL_tl : ∀ d : PyData, TL.tl d.shown = shL d
  | .none => by unfold PyData.shown shL; decide +kernel
  | .bool true => by unfold PyData.shown shL; decide +kernel
  | .bool false => by unfold PyData.shown shL; decide +kernel
  | .int i => by unfold PyData.shown shL; rfl
  | .str x => by unfold PyData.shown shL; exact reprL_eq x
  | .list xs => by
    unfold PyData.shown shL
    rw [listText_tl, shLs_tl xs]
  | .tuple xs => by
    unfold PyData.shown shL
    rw [tupleText_tl, shLs_tl xs]
  | .dict kvs => by unfold shL; rfl
theorem shLs_tl : ∀ xs : List PyData, (PyData.shownAll xs).map TL.tl = shLs xs
  | [] => by unfold PyData.shownAll shLs; rfl
  | x :: xs => by
    unfold PyData.shownAll shLs
    rw [List.map_cons, shL_tl x, shLs_tl xs]
end
theorem shL_eq (d : PyData) : (⟨⟨shL d⟩⟩ : Str) = d.shown := TL.ext_tl (shL_tl d).symm
/-- an empty dict -/
def isDE (h : LHeap) (v : Val) : Bool := match v with
  | .ref l => (match h.get l with
    | some (.dK []) => true
    | _ => false)
  | _ => false
def lookS (z : Str) : List (Str × Str) → Option Str
  | [] => none
  | p :: ps => match strEq p.1 z with
    | true => some p.2
    | false => lookS z ps
def seqV (h : LHeap) (v : Val) : Option (List Val) := match v with
  | .tup xs => some xs
  | .ref l => (match h.get l with
    | some (.lst xs) => some xs
    | _ => none)
  | _ => none
def strsV : List Val → Option (List Str)
  | [] => some []
  | v :: vs => match v with
    | .str x => (match strsV vs with
      | some xs => some (x :: xs)
      | none => none)
    | _ => none
def evKE : List (E × E) → LSt → LHeap → Res (List (Key × Val))
  | [], _, h => .ok [] h
  | p :: ps, s, h => (rc.e p.1 s h).bind fun k h1 => match k with
    | .str x => (rc.e p.2 s h1).bind fun v h2 => (evKE ps s h2).bind fun vs h3 => .ok ((.inr x, v) :: vs) h3
    | _ => .bad
def ev1_var (i : Nat) (s : LSt) (h : LHeap) : Res Val := optR (getV s i) h
def ev1_lit (v : Val) (s : LSt) (h : LHeap) : Res Val := .ok v h
def ev1_glb (z0 : Str) (v : Val) (s : LSt) (h : LHeap) : Res Val := .ok v h
def ev1_bin (o : BOp) (a : E) (b : E) (s : LSt) (h : LHeap) : Res Val := (rc.e a s h).bind fun x h1 => (rc.e b s h1).bind fun y h2 => binOp o x y h2
def ev1_neg (a : E) (s : LSt) (h : LHeap) : Res Val := (rc.e a s h).bind fun x h1 => match x with
    | .int i => .ok (.int (-i)) h1
    | _ => .bad
def ev1_cmp (o : COp) (a : E) (b : E) (s : LSt) (h : LHeap) : Res Val := (rc.e a s h).bind fun x h1 => (rc.e b s h1).bind fun y h2 => (optR (cmpOp o x y h2) h2).bind fun c h3 => .ok (.bl c) h3
def ev1_cmp2 (o : COp) (o' : COp) (a : E) (b : E) (c : E) (s : LSt) (h : LHeap) : Res Val := (rc.e a s h).bind fun x h1 => (rc.e b s h1).bind fun y h2 => (optR (cmpOp o x y h2) h2).bind fun k h3 => match k with
    | true => (rc.e c s h3).bind fun z h4 => (optR (cmpOp o' y z h4) h4).bind fun c h5 => .ok (.bl c) h5
    | false => .ok (.bl false) h3
def ev1_and (a : E) (b : E) (s : LSt) (h : LHeap) : Res Val := (rc.e a s h).bind fun x h1 => match x with
    | .bl true => rc.e b s h1
    | .bl false => .ok (.bl false) h1
    | _ => .bad
def ev1_or (a : E) (b : E) (s : LSt) (h : LHeap) : Res Val := (rc.e a s h).bind fun x h1 => match x with
    | .bl true => .ok (.bl true) h1
    | .bl false => rc.e b s h1
    | _ => .bad
def ev1_not (a : E) (s : LSt) (h : LHeap) : Res Val := (rc.e a s h).bind fun x h1 => match x with
    | .bl c => .ok (.bl (!c)) h1
    | _ => .bad
def ev1_ife (c : E) (a : E) (b : E) (s : LSt) (h : LHeap) : Res Val := (rc.t c s h).bind fun k h1 => match k with
    | true => rc.e a s h1
    | false => rc.e b s h1
def ev1_tup (es : List E) (s : LSt) (h : LHeap) : Res Val := (evs rc es s h).bind fun vs h1 => match Nat.ble vs.length line with
    | true => .ok (.tup vs) h1
    | false => .bad
def ev1_lst (es : List E) (s : LSt) (h : LHeap) : Res Val := (evs rc es s h).bind fun vs h1 => match Nat.ble vs.length line with
    | true => alloc (.lst vs) h1
    | false => .bad
def ev1_sub (a : E) (i : E) (s : LSt) (h : LHeap) : Res Val := (rc.e a s h).bind fun x h1 => (rc.e i s h1).bind fun y h2 => optR (subVal h2 x y) h2
def ev1_slc (a : E) (lo : Option E) (hi : Option E) (s : LSt) (h : LHeap) : Res Val := (rc.e a s h).bind fun x h1 => (evOpt rc lo s h1).bind fun l h2 => (evOpt rc hi s h2).bind fun r h3 => sliceVal h3 x l r
def ev1_rev (a : E) (s : LSt) (h : LHeap) : Res Val := (rc.e a s h).bind fun x h1 => match itemsL h1 x with
    | some xs => alloc (.lst xs.reverse) h1
    | none => .bad
def ev1_call (f : Nat) (es : List E) (s : LSt) (h : LHeap) : Res Val := (evs rc es s h).bind fun vs h1 => calls f vs h1
def ev1_pcall (f : Nat) (es : List E) (s : LSt) (h : LHeap) : Res Val := (evs rc es s h).bind fun vs h1 => match pureVs vs with
    | true => sand (calls f vs heapE) h1
    | false => .bad
def ev1_bi (b : Bi) (es : List E) (s : LSt) (h : LHeap) : Res Val := (evs rc es s h).bind fun vs h1 => biCall b vs h1
def ev1_isi (e : E) (t : Ty) (s : LSt) (h : LHeap) : Res Val := (rc.e e s h).bind fun v h1 => (optR (isInst cl.sub h1 v t) h1).bind fun b h2 => .ok (.bl b) h2
def ev1_comp (own : List Nat) (tg : Tg) (it : It) (c : Option E) (elt : E) (s : LSt) (h : LHeap) : Res Val := (evComp rc own tg it c elt s h).bind fun ys h1 => match Nat.ble ys.length line with
    | true => alloc (.lst ys) h1
    | false => .bad
def ev1_dsp (kvs : List (Str × E)) (s : LSt) (h : LHeap) : Res Val := (evKVs rc kvs s h).bind fun ps h1 => match Nat.ble ps.length 15 with
    | true => alloc (.dK (mergeL [] ps)) h1
    | false => .bad
def ev1_dnewK  (s : LSt) (h : LHeap) : Res Val := alloc (.dK []) h
def ev1_dnewT  (s : LSt) (h : LHeap) : Res Val := alloc (.dT []) h
def ev1_dzip (a : E) (b : E) (s : LSt) (h : LHeap) : Res Val := (rc.e a s h).bind fun x h1 => (rc.e b s h1).bind fun y h2 => match x, y with
    | .tup xs, .tup ys => (match kvsOf xs ys with
      | some ps => alloc (.dK (mergeL [] ps)) h2
      | none => .bad)
    | _, _ => .bad
def ev1_get1 (d : E) (k : E) (s : LSt) (h : LHeap) : Res Val := (rc.e d s h).bind fun x h1 => (match isDict h1 x with
    | true => (rc.e k s h1).bind fun y h2 => (match dget h2 x y with
      | some (some v) => .ok v h2
      | some none => .ok .non h2
      | none => .bad)
    | false => .bad)
def ev1_app (l : E) (e : E) (s : LSt) (h : LHeap) : Res Val := (rc.e l s h).bind fun x h1 => match x with
    | .ref a => (match h1.get a with
      | some (.lst _) => (rc.e e s h1).bind fun y h2 => (match h2.get a with
        | some (.lst xs) => (match Nat.blt xs.length line with
          | true => store a (.lst (xs ++ [y])) h2 .non
          | false => .bad)
        | _ => .bad)
      | _ => .bad)
    | _ => .bad
def ev1_fld (o : E) (f : Str) (s : LSt) (h : LHeap) : Res Val := (rc.e o s h).bind fun x h1 => match x with
    | .ref a => (match h1.get a with
      | some (.ins c fs) => (match inS f (cl.flds c) with
        | true => optR (lookF f fs) h1
        | false => .bad)
      | _ => .bad)
    | _ => .bad
def ev1_meth (c : Nat) (f : Nat) (m : Str) (o : E) (es : List E) (s : LSt) (h : LHeap) : Res Val := (rc.e o s h).bind fun x h1 => match x with
    | .ref a => (match h1.get a with
      | some (.ins c' fs) => (match Nat.beq c' c with
        | true => (match lookF m fs with
          | none => (evs rc es s h1).bind fun vs h2 => calls f (.ref a :: vs) h2
          | some _ => .bad)
        | false => .bad)
      | _ => .bad)
    | _ => .bad
def ev1_make (c : Nat) (f : Nat) (es : List E) (s : LSt) (h : LHeap) : Res Val := (evs rc es s h).bind fun vs h1 => (calls f (.ref h1.n :: vs) (h1.push (.ins c []))).bind fun v h2 => match v with
    | .non => .ok (.ref h1.n) h2
    | _ => .bad
def ev1_ext (l : E) (e : E) (s : LSt) (h : LHeap) : Res Val := (rc.e l s h).bind fun x h1 => match x with
    | .ref a => (match h1.get a with
      | some (.lst _) => (rc.e e s h1).bind fun y h2 => (match h2.get a with
        | some (.lst xs) => (match itemsM h2 y with
          | some ys => (match Nat.ble (xs.length + ys.length) line with
            | true => store a (.lst (xs ++ ys)) h2 .non
            | false => .bad)
          | none => .bad)
        | _ => .bad)
      | _ => .bad)
    | _ => .bad
def ev1_pop (l : E) (s : LSt) (h : LHeap) : Res Val := (rc.e l s h).bind fun x h1 => match x with
    | .ref a => (match h1.get a with
      | some (.lst xs) => (match nth xs (xs.length - 1) with
        | some y => store a (.lst xs.dropLast) h1 y
        | none => .bad)
      | _ => .bad)
    | _ => .bad
def ev1_popAt (l : E) (i : E) (s : LSt) (h : LHeap) : Res Val := (rc.e l s h).bind fun x h1 => match x with
    | .ref a => (match h1.get a with
      | some (.lst _) => (rc.e i s h1).bind fun j h2 => (match h2.get a with
        | some (.lst xs) => (match j with
          | .int k => (match decide (0 ≤ k) && decide (k < 9223372036854775808) with
            | true => (match nth xs k.toNat with
              | some y => store a (.lst (xs.eraseIdx k.toNat)) h2 y
              | none => .bad)
            | false => .bad)
          | _ => .bad)
        | _ => .bad)
      | _ => .bad)
    | _ => .bad
def ev1_dcomp (own : List Nat) (tg : Tg) (it : It) (c : Option E) (ke : E) (ve : E) (s : LSt) (h : LHeap) : Res Val := (evIt rc it s h).bind fun src h1 => (noExc (foldAll (dcompOne rc own tg c ke ve s) src [] h1)).bind fun kvs h2 => alloc (.dK kvs) h2
def ev1_comp2 (own : List Nat) (own1 : List Nat) (tg : Tg) (it : It) (c : Option E) (tg1 : Tg) (it1 : It) (c1 : Option E) (elt : E) (s : LSt) (h : LHeap) : Res Val := (evIt rc it s h).bind fun src h1 => (noExc (foldAll (comp2One rc own own1 tg c tg1 it1 c1 elt s) src [] h1)).bind fun ys h2 => alloc (.lst ys) h2
def ev1_tupS (es : List (Bool × E)) (s : LSt) (h : LHeap) : Res Val := (evsS rc es s h).bind fun vs h1 => match Nat.ble vs.length line with
    | true => .ok (.tup vs) h1
    | false => .bad
def ev1_rpr (e : E) (s : LSt) (h : LHeap) : Res Val := (rc.e e s h).bind fun v h1 => match isDE h1 v with
    | true => .ok (.str ⟨⟨[123, 125]⟩⟩) h1
    | false => (match toD 66 h1 v with
      | some d => (match d.showable && !d.hasDict && decide (d.depth ≤ 64) && Nat.ble (shL d).length line with
        | true => .ok (.str ⟨⟨shL d⟩⟩) h1
        | false => .bad)
      | none => .bad)
def ev1_idx (l : E) (e : E) (s : LSt) (h : LHeap) : Res Val := (rc.e l s h).bind fun x h1 => match x with
    | .ref a => (match h1.get a with
      | some (.lst _) => (rc.e e s h1).bind fun y h2 => (match h2.get a with
        | some (.lst xs) => (match mapOpt (toD 65 h2) xs, toD 66 h2 y with
          | some ds, some d => (match SeqAt.shaped (.list ds) && SeqAt.shaped d with
            | true => (match firstEqv d ds 0 with
              | some j => .ok (.int (j : Nat)) h2
              | none => .bad)
            | false => .bad)
          | _, _ => .bad)
        | _ => .bad)
      | _ => .bad)
    | _ => .bad
def ev1_lrng (tp : Bool) (a : Option E) (b : E) (s : LSt) (h : LHeap) : Res Val := (evRg rc a b s h).bind fun p h1 => match okR p.1 && okR p.2 && Nat.ble (p.2 - p.1).toNat line with
    | true => (match tp with
      | true => .ok (.tup (rngL p.1 (p.2 - p.1).toNat)) h1
      | false => alloc (.lst (rngL p.1 (p.2 - p.1).toNat)) h1)
    | false => .bad
def ev1_srt (e : E) (s : LSt) (h : LHeap) : Res Val := (rc.e e s h).bind fun x h1 => match x with
    | .ref a => (match h1.get a with
      | some (.lst xs) => (match mapOpt (toD 65 h1) xs with
        | some ds => (match sortOk ds with
          | true => alloc (.lst ((sortL leD (ds.zip xs)).map (·.2))) h1
          | false => .bad)
        | none => .bad)
      | _ => .bad)
    | _ => .bad
def ev1_gsub (j : Nat) (e : E) (s : LSt) (h : LHeap) : Res Val := (rc.e e s h).bind fun x h1 => match x with
    | .str z => (match lookS z (cl.gds j) with
      | some v => .ok (.str v) h1
      | none => .bad)
    | _ => .bad
def ev1_gin (neg : Bool) (j : Nat) (e : E) (s : LSt) (h : LHeap) : Res Val := (rc.e e s h).bind fun x h1 => match x with
    | .str z => .ok (.bl (match lookS z (cl.gds j) with
      | some _ => !neg
      | none => neg)) h1
    | _ => .bad
def ev1_join (a : E) (b : E) (s : LSt) (h : LHeap) : Res Val := (rc.e a s h).bind fun x h1 => match x with
    | .str u => (rc.e b s h1).bind fun y h2 => (match seqV h2 y with
      | some vs => (match strsV vs with
        | some ys => (match Nat.ble ((ys.map (·.length)).sum + ys.length * u.length) 16777216 with
          | true => .ok (.str ⟨⟨TL.joinL u.cps.toList (ys.map fun y => y.cps.toList)⟩⟩) h2
          | false => .bad)
        | none => .bad)
      | none => .bad)
    | _ => .bad
def ev1_dspE (kvs : List (E × E)) (s : LSt) (h : LHeap) : Res Val := (evKE rc kvs s h).bind fun ps h1 => match Nat.ble ps.length 15 with
    | true => alloc (.dK (mergeL [] ps)) h1
    | false => .bad
def ev1_said (j : Nat) (b : E) (s : LSt) (h : LHeap) : Res Val := (match rc.e b s h with
    | .ok v h1 => alloc (.lst [v]) h1
    | .exc c fs h1 => (match handle cl c fs [none, none] h1 (cl.said j) with
      | .ok (.rt v) h2 => .ok v h2
      | _ => .bad)
    | .bad => .bad)
def ev1_srtK (e : E) (s : LSt) (h : LHeap) : Res Val := (rc.e e s h).bind fun x h1 => match x with
    | .ref a => (match h1.get a with
      | some (.lst xs) => (match mapOpt (toD 65 h1) xs with
        | some ds => (match mapOpt lenKey ds with
          | some ks => alloc (.lst ((sortL leD (ks.zip xs)).map (·.2))) h1
          | none => .bad)
        | none => .bad)
      | _ => .bad)
    | _ => .bad
def ev1_dspT (k : E) (v : E) (s : LSt) (h : LHeap) : Res Val := (rc.e k s h).bind fun y h1 => (rc.e v s h1).bind fun z h2 => match y with
    | .tup ys => (match keysOf ys with
      | some ks => alloc (.dT [(ks, z)]) h2
      | none => .bad)
    | _ => .bad
def ev1_vals (d : E) (s : LSt) (h : LHeap) : Res Val := (rc.e d s h).bind fun x h1 => match x with
    | .ref a => (match h1.get a with
      | some (.dK kvs) => alloc (.lst (kvs.map (·.2))) h1
      | _ => .bad)
    | _ => .bad
def stepE (e : E) (s : LSt) (h : LHeap) : Res Val := match e with
  | .var i => ev1_var i s h
  | .lit v => ev1_lit v s h
  | .glb z0 v => ev1_glb z0 v s h
  | .bin o a b => ev1_bin rc o a b s h
  | .neg a => ev1_neg rc a s h
  | .cmp o a b => ev1_cmp rc o a b s h
  | .cmp2 o o' a b c => ev1_cmp2 rc o o' a b c s h
  | .and a b => ev1_and rc a b s h
  | .or a b => ev1_or rc a b s h
  | .not a => ev1_not rc a s h
  | .ife c a b => ev1_ife rc c a b s h
  | .tup es => ev1_tup rc es s h
  | .lst es => ev1_lst rc es s h
  | .sub a i => ev1_sub rc a i s h
  | .slc a lo hi => ev1_slc rc a lo hi s h
  | .rev a => ev1_rev rc a s h
  | .call f es => ev1_call calls rc f es s h
  | .pcall f es => ev1_pcall calls rc f es s h
  | .bi b es => ev1_bi rc b es s h
  | .isi e t => ev1_isi cl rc e t s h
  | .comp own tg it c elt => ev1_comp rc own tg it c elt s h
  | .dsp kvs => ev1_dsp rc kvs s h
  | .dnewK  => ev1_dnewK s h
  | .dnewT  => ev1_dnewT s h
  | .dzip a b => ev1_dzip rc a b s h
  | .get1 d k => ev1_get1 rc d k s h
  | .app l e => ev1_app rc l e s h
  | .fld o f => ev1_fld cl rc o f s h
  | .meth c f m o es => ev1_meth calls rc c f m o es s h
  | .make c f es => ev1_make calls rc c f es s h
  | .ext l e => ev1_ext rc l e s h
  | .pop l => ev1_pop rc l s h
  | .popAt l i => ev1_popAt rc l i s h
  | .dcomp own tg it c ke ve => ev1_dcomp rc own tg it c ke ve s h
  | .comp2 own own1 tg it c tg1 it1 c1 elt => ev1_comp2 rc own own1 tg it c tg1 it1 c1 elt s h
  | .tupS es => ev1_tupS rc es s h
  | .rpr e => ev1_rpr rc e s h
  | .idx l e => ev1_idx rc l e s h
  | .lrng tp a b => ev1_lrng rc tp a b s h
  | .srt e => ev1_srt rc e s h
  | .gsub j e => ev1_gsub cl rc j e s h
  | .gin neg j e => ev1_gin cl rc neg j e s h
  | .join a b => ev1_join rc a b s h
  | .dspE kvs => ev1_dspE rc kvs s h
  | .said j b => ev1_said cl rc j b s h
  | .srtK e => ev1_srtK rc e s h
  | .dspT k v => ev1_dspT rc k v s h
  | .vals d => ev1_vals rc d s h
/-- a test -/
def stepT (e : E) (s : LSt) (h : LHeap) : Res Bool := match e with
  | .and a b => (rc.t a s h).bind fun x h1 => match x with
    | true => rc.t b s h1
    | false => .ok false h1
  | .or a b => (rc.t a s h).bind fun x h1 => match x with
    | true => .ok true h1
    | false => rc.t b s h1
  | .not a => (rc.t a s h).bind fun x h1 => .ok (!x) h1
  | e => (rc.e e s h).bind fun v h1 => match v with
    | .bl b => .ok b h1
    | _ => .bad
def execs : List S → LSt → LHeap → RS
  | [], s, h => .ok (.nx s) h
  | x :: xs, s, h => match rc.s x s h with
    | .ok (.nx s1) h1 => execs xs s1 h1
    | r => r
/-- behind a turn: go on with k, or leave -/
def turn (r : RS) (k : LSt → LHeap → RS) : RS := match r with
  | .ok f h => (match f with
    | .nx s => k s h
    | .ct s => k s h
    | .bk s => .ok (.nx s) h
    | .rt v => .ok (.rt v) h)
  | .exc c fs s h => .exc c fs s h
  | .bad => .bad
def loopOne (tg : Tg) (b : List S) (x : Val) (s : LSt) (h : LHeap) : RS := match tg.put x s with
  | none => .bad
  | some s1 => execs rc b s1 h
def loopSt (f : Val → LSt → LHeap → RS) : List Val → LSt → LHeap → RS
  | [], s, h => .ok (.nx s) h
  | x :: xs, s, h => turn (f x s h) (loopSt f xs)
def loopDyn (f : Val → LSt → LHeap → RS) (src : Src) : Nat → Nat → LSt → LHeap → RS
  | 0, _, _, _ => .bad
  | n + 1, i, s, h => match itemAt src i h with
    | none => .bad
    | some none => .ok (.nx s) h
    | some (some x) => turn (f x s h) (loopDyn f src n (i + 1))
def loopAll (f : Val → LSt → LHeap → RS) (src : Src) (s : LSt) (h : LHeap) : RS := match src with
  | .st xs => loopSt f xs s h
  | src => loopDyn f src 100000 0 s h
/-! ### the rest of a def by itself: one thing of the heap goes along -/
mutual
def sameV : Val → Val → Bool
  | .non, .non => true
  | .bl a, .bl b => a == b
  | .int i, .int j => decide (i = j)
  | .str x, .str y => strEq x y
  | .tup xs, .tup ys => sameVs xs ys
  | .fn i, .fn j => Nat.beq i j
  | _, _ => false
def sameVs : List Val → List Val → Bool
  | [], [] => true
  | x :: xs, y :: ys => (match sameV x y with
    | true => sameVs xs ys
    | false => false)
  | _, _ => false
end
def dropS : LSt → LSt
  | [] => []
  | o :: s => (match o with
    | some v => (match pureV v with
      | true => some v
      | false => none)
    | none => none) :: dropS s
def canonO (h : LHeap) (v : Option Val) : Option (Option LObj) := match v with
  | some (.ref l) => (match h.get l with
    | some (.lst xs) => (match pureVs xs with
      | true => some (some (.lst xs))
      | false => none)
    | some (.dK []) => some (some (.dK []))
    | _ => none)
  | _ => some none
def heap1 : Option LObj → LHeap
  | none => heapE
  | some o => heapE.push o
def slots1 (s : LSt) (i : Nat) : Option LObj → LSt
  | none => dropS s
  | some _ => setV (dropS s) i (.ref 0)
def sameO (o : Option LObj) (h : LHeap) : Bool := match o with
  | none => true
  | some (.lst xs) => (match h.get 0 with
    | some (.lst ys) => sameVs xs ys
    | _ => false)
  | some (.dK []) => (match h.get 0 with
    | some (.dK []) => true
    | _ => false)
  | _ => false
def stepS (st : S) (s : LSt) (h : LHeap) : RS := match st with
  | .set i e => (rc.e e s h).inS s fun v h1 => .ok (.nx (setV s i v)) h1
  | .par i j a b => (rc.e a s h).inS s fun v h1 => (rc.e b s h1).inS s fun u h2 => .ok (.nx (setV (setV s i v) j u)) h2
  | .par3 i j l a b c => (rc.e a s h).inS s fun v h1 => (rc.e b s h1).inS s fun u h2 => (rc.e c s h2).inS s fun w h3 => .ok (.nx (setV (setV (setV s i v) j u) l w)) h3
  | .unp is e => (rc.e e s h).inS s fun v h1 => match Tg.put (.tup is) v s with
    | some s1 => .ok (.nx s1) h1
    | none => .bad
  | .ex e => (rc.e e s h).inS s fun _ h1 => .ok (.nx s) h1
  | .ret e => (rc.e e s h).inS s fun v h1 => .ok (.rt v) h1
  | .retN => .ok (.rt .non) h
  | .ife c a b => (rc.t c s h).inS s fun k h1 => match k with
    | true => execs rc a s h1
    | false => execs rc b s h1
  | .whl c b => rc.w c b s h
  | .loop tg it b => (evIt rc it s h).inS s fun src h1 => loopAll (loopOne rc tg b) src s h1
  | .put o i e => (rc.e e s h).inS s fun v h1 => (rc.e o s h1).inS s fun x h2 => (rc.e i s h2).inS s fun y h3 => match x with
    | .ref l => (match h3.get l with
      | some (.dK kvs) => (match keyOf y with
        | some k => (match Nat.blt kvs.length line with
          | true => (store l (.dK (putKV k v kvs)) h3 ()).inS s fun _ h4 => .ok (.nx s) h4
          | false => .bad)
        | none => .bad)
      | some (.dT kvs) => (match y with
        | .tup ys => (match keysOf ys with
          | some k => (match Nat.blt kvs.length line with
            | true => (store l (.dT (putTV k v kvs)) h3 ()).inS s fun _ h4 => .ok (.nx s) h4
            | false => .bad)
          | none => .bad)
        | _ => .bad)
      | _ => .bad)
    | _ => .bad
  | .setf o f e => (rc.e e s h).inS s fun v h1 => (rc.e o s h1).inS s fun x h2 => match x with
    | .ref a => (match h2.get a with
      | some (.ins c fs) => (match inS f (cl.flds c) && Nat.blt fs.length 1000 with
        | true => .ok (.nx s) (h2.put a (.ins c (putFV f v fs)))
        | false => .bad)
      | _ => .bad)
    | _ => .bad
  | .raise c es => (evs rc es s h).inS s fun vs h1 => match Nat.beq vs.length (cl.fields c).length with
    | true => .exc c ((cl.fields c).zip vs).reverse s h1
    | false => .bad
  | .tri b hs => (match execs rc b s h with
    | .exc c fs s1 h1 => handle cl c fs s1 h1 hs
    | r => r)
  | .pass => .ok (.nx s) h
  | .brk => .ok (.bk s) h
  | .cont => .ok (.ct s) h
  | .rest i dead b => (match canonO h (getV (wipeL s dead) i) with
    | some o => (match execs rc b (slots1 (wipeL s dead) i o) (heap1 o) with
      | .ok (.rt v) h2 => (match pureV v && sameO o h2 with
        | true => .ok (.rt v) h
        | false => .bad)
      | _ => .bad)
    | none => .bad)
def stepW (c : E) (b : List S) (s : LSt) (h : LHeap) : RS := (rc.t c s h).inS s fun k h1 => match k with
  | true => turn (execs rc b s h1) (rc.w c b)
  | false => .ok (.nx s) h1
end
def recBad : Rec := ⟨fun _ _ _ => .bad, fun _ _ _ => .bad, fun _ _ _ => .bad, fun _ _ _ _ => .bad⟩
noncomputable def rec (cl : Cl) (calls : Nat → List Val → LHeap → Res Val) (n : Nat) : Rec :=
  Nat.rec recBad (fun _ r => ⟨stepE cl calls r, stepT r, stepS cl r, stepW r⟩) n
theorem rec_zero (cl : Cl) (calls : Nat → List Val → LHeap → Res Val) : rec cl calls 0 = recBad := rfl
theorem rec_succ (cl : Cl) (calls : Nat → List Val → LHeap → Res Val) (n : Nat) : rec cl calls (n + 1) = ⟨stepE cl calls (rec cl calls n), stepT (rec cl calls n), stepS cl (rec cl calls n), stepW (rec cl calls n)⟩ := rfl
/-- a def: how many parameters, how many names, its body -/
structure Fn where
  ps : Nat
  ns : Nat
  body : List S
def startL (vs : List Val) : Nat → LSt
  | 0 => []
  | n + 1 => match vs with
    | [] => none :: startL [] n
    | v :: vs => some v :: startL vs n
noncomputable def fuel : Nat := 100000
noncomputable def runFn (cl : Cl) (calls : Nat → List Val → LHeap → Res Val) (f : Fn) (vs : List Val) (h : LHeap) : Res Val :=
  match Nat.beq vs.length f.ps with
  | true => (match execs (rec cl calls fuel) f.body (startL vs f.ns) h with
    | .ok (.nx _) h1 => .ok .non h1
    | .ok (.rt v) h1 => .ok v h1
    | .ok _ _ => .bad
    | .exc c fs _ h1 => .exc c fs h1
    | .bad => .bad)
  | false => .bad
noncomputable def callN (cl : Cl) (fns : Nat → Option Fn) (k : Nat) : Nat → List Val → LHeap → Res Val :=
  Nat.rec (fun _ _ _ => .bad) (fun _ c f vs h => match fns f with
    | some fn => runFn cl c fn vs h
    | none => .bad) k
theorem callN_succ (cl : Cl) (fns : Nat → Option Fn) (k f : Nat) (vs : List Val) (h : LHeap) : callN cl fns (k + 1) f vs h = match fns f with
    | some fn => runFn cl (callN cl fns k) fn vs h
    | none => .bad := rfl
end Ev

set_option Elab.async false
set_option linter.all false
set_option maxRecDepth 100000
/-! The relation between the small language's states and the hand layer's. -/
noncomputable section
namespace Ev
open PySem PySem.Spec PyProof.Rows L2

abbrev St := L2.St
/-- what is known of the module -/
structure Mo where
  P : Program
  w : World
  K : PySem.W.Frag
  mg : Str → Option Value
  base : Heap
  fa : Nat → Addr
  ca : Nat → Addr
  cb : Nat → Addr
  tb : List (Addr × Str) := []
  lam : List (List Str) := []

/-- a def with a lambda: its code object and the table -/
def LamAt (M : Mo) (X : Cx) : Prop := ∃ c P, X.env.code = .ref c ∧ LamX.TabB X.base X.mg c P ∧ (P, X.env.qual ++ "<lambda>") ∈ M.tb ∧ ∀ p ∈ M.tb, p.1 = P → p.2 = X.env.qual ++ "<lambda>"
def strLEq : List Str → List Str → Bool
  | [], [] => true
  | x :: xs, y :: ys => strEq x y && strLEq xs ys
  | _, _ => false
def memLL (n : List Str) : List (List Str) → Bool
  | [] => false
  | m :: ms => strLEq n m || memLL n ms
/-- how many logical addresses, where they stand, the abstract heap -/
structure Cf where
  n : Nat
  r : Nat → Addr
  nm : Nat → Bool
  H : Hp

mutual
inductive RV (M : Mo) (c : Cf) : Val → V → Prop where
  | non : RV M c .non .non
  | bl (b : Bool) : RV M c (.bl b) (.bl b)
  | int (i : Int) : RV M c (.int i) (.int i)
  | str (s : Str) : RV M c (.str s) (.str s)
  | tup {xs : List Val} {a : Addr} {ys : List V} (h : c.H a = some (.tup ys)) (r : RVs M c xs ys) : RV M c (.tup xs) (.ref a)
  | ref {l : Nat} (h : l < c.n) : RV M c (.ref l) (.ref (c.r l))
  | fn (i : Nat) : RV M c (.fn i) (.ref (M.fa i))
inductive RVs (M : Mo) (c : Cf) : List Val → List V → Prop where
  | nil : RVs M c [] []
  | cons {x : Val} {y : V} {xs : List Val} {ys : List V} (h : RV M c x y) (t : RVs M c xs ys) : RVs M c (x :: xs) (y :: ys)
end
section
variable {M : Mo} {c c' : Cf}
theorem RVs.length : ∀ {xs : List Val} {ys : List V}, RVs M c xs ys → xs.length = ys.length
  | _, _, .nil => rfl
  | _, _, .cons _ t => by simp [RVs.length t]
theorem RVs.append : ∀ {xs : List Val} {ys : List V} {us : List Val} {vs : List V}, RVs M c xs ys → RVs M c us vs → RVs M c (xs ++ us) (ys ++ vs)
  | _, _, _, _, .nil, q => q
  | _, _, _, _, .cons h t, q => .cons h (RVs.append t q)
theorem RVs.nth : ∀ {xs : List Val} {ys : List V} {i : Nat} {x : Val}, RVs M c xs ys → Ev.nth xs i = some x → ∃ y, ys[i]? = some y ∧ RV M c x y
  | _, _, _, _, .nil, e => by simp [Ev.nth] at e
  | _, _, 0, _, .cons h t, e => by simp [Ev.nth] at e; subst e; exact ⟨_, rfl, h⟩
  | _, _, i + 1, _, .cons h t, e => by
    obtain ⟨y, e1, r⟩ := RVs.nth t (show Ev.nth _ i = some _ from e)
    exact ⟨y, by simpa using e1, r⟩
theorem RVs.nth_none : ∀ {xs : List Val} {ys : List V} {i : Nat}, RVs M c xs ys → Ev.nth xs i = none → ys.length ≤ i
  | _, _, _, .nil, _ => Nat.zero_le _
  | _, _, 0, .cons h t, e => by simp [Ev.nth] at e
  | _, _, i + 1, .cons h t, e => by
    have := RVs.nth_none t (show Ev.nth _ i = none from e)
    simp; omega
theorem RVs.drop : ∀ {xs : List Val} {ys : List V} (n : Nat), RVs M c xs ys → RVs M c (xs.drop n) (ys.drop n)
  | _, _, 0, r => r
  | _, _, _ + 1, .nil => .nil
  | _, _, n + 1, .cons _ t => RVs.drop n t
theorem RVs.take : ∀ {xs : List Val} {ys : List V} (n : Nat), RVs M c xs ys → RVs M c (xs.take n) (ys.take n)
  | _, _, 0, _ => .nil
  | _, _, _ + 1, .nil => .nil
  | _, _, n + 1, .cons h t => .cons h (RVs.take n t)
theorem RVs.reverse : ∀ {xs : List Val} {ys : List V}, RVs M c xs ys → RVs M c xs.reverse ys.reverse
  | _, _, .nil => .nil
  | _, _, .cons h t => by simp only [List.reverse_cons]; exact RVs.append (RVs.reverse t) (.cons h .nil)
theorem RVs.rep {xs : List Val} {ys : List V} (r : RVs M c xs ys) : ∀ n, RVs M c (Ev.rep xs n) (List.replicate n ys).flatten
  | 0 => .nil
  | n + 1 => by
    rw [List.replicate_succ, List.flatten_cons]
    exact r.append (RVs.rep r n)
end

/-- fields -/
inductive RF (M : Mo) (c : Cf) : List (Str × Val) → List (Str × V) → Prop where
  | nil : RF M c [] []
  | cons {f : Str} {x : Val} {y : V} {xs : List (Str × Val)} {ys : List (Str × V)} (h : RV M c x y) (t : RF M c xs ys) : RF M c ((f, x) :: xs) ((f, y) :: ys)
/-- entries -/
inductive RK (κ : Type) (M : Mo) (c : Cf) : List (κ × Val) → List (κ × V) → Prop where
  | nil : RK κ M c [] []
  | cons {k : κ} {x : Val} {y : V} {xs : List (κ × Val)} {ys : List (κ × V)} (h : RV M c x y) (t : RK κ M c xs ys) : RK κ M c ((k, x) :: xs) ((k, y) :: ys)
/-- an exception that is kept as a value -/
def exV (a : Addr) (oe : Obj) : HO := .ext fun h => h.get? a = some oe
/-- a list that is read alone: locked, or of the written part -/
def FzL (K : PySem.W.Frag) (H : Hp) (a : Addr) (xs : List V) : Prop := (∃ o, H a = some (.frz o (.lst xs))) ∨
    ∃ (o : Obj) (its : Array Value) (n : Nat), K.lookup a = some o ∧ o.cls = .type "list" ∧ o.dict = none ∧ o.data = .seq its n ∧ its.size ≤ sizeLine ∧ Vals xs its.toList
theorem FzL.sq {K : PySem.W.Frag} {H : Hp} {a : Addr} {xs : List V} (h : FzL K H a xs) : SqL K H a xs := h.imp (fun q => .inr q) id
def LObj.mut : LObj → Bool
  | .frz _ => false
  | _ => true
/-- what stands at an address -/
inductive RO (M : Mo) (c : Cf) : LObj → Addr → Prop where
  | lst {xs : List Val} {a : Addr} {ys : List V} (h : c.H a = some (.lst ys)) (r : RVs M c xs ys) : RO M c (.lst xs) a
  | frz {xs : List Val} {a : Addr} {ys : List V} (h : FzL M.K c.H a ys) (r : RVs M c xs ys) : RO M c (.frz xs) a
  | dK {kvs : List (Key × Val)} {a : Addr} {ys : List (Key × V)} (h : c.H a = some (.dK ys)) (r : RK Key M c kvs ys) : RO M c (.dK kvs) a
  | dT {kvs : List (List Key × Val)} {a : Addr} {ys : List (List Key × V)} (h : c.H a = some (.dT ys)) (r : RK (List Key) M c kvs ys) : RO M c (.dT kvs) a
  | ins {k : Nat} {fs : List (Str × Val)} {a dx : Addr} {gs : List (Str × V)} (h : c.H a = some (.ins (M.cb k) dx gs)) (r : RF M c fs gs) : RO M c (.ins k fs) a
  | exc {k : Nat} {fs : List (Str × Val)} {a dx : Addr} {gs : List (Str × V)} {oe : Obj} {vs : Array Value} (h : c.H a = some (exV a oe)) (hc : oe.cls = .ref (M.ca k)) (hd : oe.dict = some dx) (hf : oe.data = .fields vs)
      (hx : c.H dx = some (.xd gs)) (r : RF M c fs gs) : RO M c (.exc k fs) a
/-- the heap -/
structure RH (M : Mo) (c : Cf) (h : LHeap) : Prop where
  n : c.n = h.n
  o : ∀ l o, h.get l = some o → RO M c o (c.r l)
  inj : ∀ l k o u, h.get l = some o → h.get k = some u → o.mut = true → u.mut = true → c.r l = c.r k → l = k
  nm : ∀ l, l < c.n → c.nm l = true → ∃ o, h.get l = some o ∧ o.mut = true
  mn : ∀ l o, h.get l = some o → o.mut = true → c.nm l = true
  tb : LamX.Tabs M.tb c.H
/-- what values lean on -/
structure Ex (M : Mo) (c c' : Cf) : Prop where
  le : c.n ≤ c'.n
  r : ∀ l, l < c.n → c'.r l = c.r l
  t : ∀ a xs, c.H a = some (.tup xs) → c'.H a = some (.tup xs)
/-- a table of code objects -/
def Tb (o : HO) : Prop := ∃ ps, o = .tbl ps
/-- what a run keeps: what no logical address names stays, new names are new -/
structure Ext (M : Mo) (c c' : Cf) : Prop where
  x : Ex M c c'
  m : ∀ l, l < c.n → c'.nm l = c.nm l
  f : ∀ a o, c.H a = some o → ¬ Tb o → (∀ l, l < c.n → c.nm l = true → c.r l ≠ a) → c'.H a = some o
  fr : ∀ l, c.n ≤ l → l < c'.n → ∀ o, c.H (c'.r l) = some o → Tb o
  tr : ∀ a o, c.H a = some o → ¬ Tb o → ∃ o', c'.H a = some o' ∧ ¬ Tb o'
section
variable {M : Mo} {c c' c'' : Cf}
theorem Ex.refl (c : Cf) : Ex M c c := ⟨Nat.le_refl _, fun _ _ => rfl, fun _ _ h => h⟩
theorem Ex.trans (a : Ex M c c') (b : Ex M c' c'') : Ex M c c'' :=
  ⟨Nat.le_trans a.le b.le, fun l h => (b.r l (Nat.lt_of_lt_of_le h a.le)).trans (a.r l h), fun p xs h => b.t p xs (a.t p xs h)⟩
theorem Ext.refl (c : Cf) : Ext M c c := ⟨Ex.refl c, fun _ _ => rfl, fun _ _ h _ _ => h, fun l h1 h2 => absurd h2 (Nat.not_lt.mpr h1), fun _ o h n => ⟨o, h, n⟩⟩
theorem Ext.trans (a : Ext M c c') (b : Ext M c' c'') : Ext M c c'' := by
  refine ⟨a.x.trans b.x, fun l h => (b.m l (Nat.lt_of_lt_of_le h a.x.le)).trans (a.m l h), fun p o h nt hn => ?_, fun l h1 h2 => ?_, fun p o h nt => let ⟨o', h', nt'⟩ := a.tr p o h nt; b.tr p o' h' nt'⟩
  · refine b.f p o (a.f p o h nt hn) nt fun l hl hm e => ?_
    by_cases q : l < c.n
    · rw [a.x.r l q] at e
      rw [a.m l q] at hm
      exact hn l q hm e
    · exact nt (a.fr l (Nat.le_of_not_lt q) hl o (by rw [e]; exact h))
  · by_cases q : l < c'.n
    · rw [b.x.r l q]
      exact a.fr l h1 q
    · intro o e
      refine Classical.byContradiction fun nt => ?_
      obtain ⟨o', h', nt'⟩ := a.tr _ o e nt
      exact nt' (b.fr l (Nat.le_of_not_lt q) h2 o' h')
mutual
theorem RV.ex (e : Ex M c c') : ∀ {x : Val} {y : V}, RV M c x y → RV M c' x y
  | _, _, .non => .non
  | _, _, .bl b => .bl b
  | _, _, .int i => .int i
  | _, _, .str s => .str s
  | _, _, .tup h r => .tup (e.t _ _ h) (RVs.ex e r)
  | _, _, .ref h => by rw [← e.r _ h]; exact .ref (Nat.lt_of_lt_of_le h e.le)
  | _, _, .fn i => .fn i
theorem RVs.ex (e : Ex M c c') : ∀ {xs : List Val} {ys : List V}, RVs M c xs ys → RVs M c' xs ys
  | _, _, .nil => .nil
  | _, _, .cons h t => .cons (RV.ex e h) (RVs.ex e t)
end
theorem RV.ext (e : Ext M c c') {x : Val} {y : V} (r : RV M c x y) : RV M c' x y := r.ex e.x
theorem RVs.ext (e : Ext M c c') {xs : List Val} {ys : List V} (r : RVs M c xs ys) : RVs M c' xs ys := r.ex e.x
theorem RF.ex (e : Ex M c c') : ∀ {xs : List (Str × Val)} {ys : List (Str × V)}, RF M c xs ys → RF M c' xs ys
  | _, _, .nil => .nil
  | _, _, .cons h t => .cons (h.ex e) (RF.ex e t)
theorem RF.ext (e : Ext M c c') {xs : List (Str × Val)} {ys : List (Str × V)} (r : RF M c xs ys) : RF M c' xs ys := r.ex e.x
theorem RK.ex {κ : Type} (e : Ex M c c') : ∀ {xs : List (κ × Val)} {ys : List (κ × V)}, RK κ M c xs ys → RK κ M c' xs ys
  | _, _, .nil => .nil
  | _, _, .cons h t => .cons (h.ex e) (RK.ex e t)
theorem RK.ext {κ : Type} (e : Ext M c c') {xs : List (κ × Val)} {ys : List (κ × V)} (r : RK κ M c xs ys) : RK κ M c' xs ys := r.ex e.x
end

/-! ### slots -/
structure RSl (M : Mo) (c : Cf) (s : LSt) (σ : St) : Prop where
  len : s.length = σ.length
  at_ : ∀ i v, getV s i = some v → ∃ u, σ[i]? = some (some u) ∧ RV M c v u
section
variable {M : Mo} {c c' : Cf} {s : LSt} {σ : St}
theorem RSl.ex (e : Ex M c c') (r : RSl M c s σ) : RSl M c' s σ := ⟨r.len, fun i v h => let ⟨u, a, b⟩ := r.at_ i v h; ⟨u, a, b.ex e⟩⟩
theorem RSl.ext (e : Ext M c c') (r : RSl M c s σ) : RSl M c' s σ := r.ex e.x
theorem getV_setV : ∀ (s : LSt) (i j : Nat) (v : Val), getV (setV s i v) j = if j = i ∧ i < s.length then some v else getV s j
  | [], i, j, v => by simp [setV, getV]
  | x :: s, 0, j, v => by
    cases j with
    | zero => simp [setV, getV]
    | succ j => simp [setV, getV]
  | x :: s, i + 1, j, v => by
    cases j with
    | zero => simp [setV, getV]
    | succ j =>
      have := getV_setV s i j v
      simp only [setV, getV, this, List.length_cons]
      by_cases h : j = i ∧ i < s.length
      · rw [if_pos h, if_pos ⟨by omega, by omega⟩]
      · rw [if_neg h, if_neg (by omega)]
theorem length_setV : ∀ (s : LSt) (i : Nat) (v : Val), (setV s i v).length = s.length
  | [], _, _ => rfl
  | x :: s, 0, v => rfl
  | x :: s, i + 1, v => by simp [setV, length_setV s i v]
theorem getV_unV : ∀ (s : LSt) (i j : Nat), getV (unV s i) j = if j = i then none else getV s j
  | [], i, j => by simp [unV, getV]
  | x :: s, 0, j => by
    cases j with
    | zero => simp [unV, getV]
    | succ j => simp [unV, getV]
  | x :: s, i + 1, j => by
    cases j with
    | zero => simp [unV, getV]
    | succ j =>
      simp only [unV, getV, getV_unV s i j]
      by_cases h : j = i
      · rw [if_pos h, if_pos (by omega)]
      · rw [if_neg h, if_neg (by omega)]
theorem length_unV : ∀ (s : LSt) (i : Nat), (unV s i).length = s.length
  | [], _ => rfl
  | x :: s, 0 => rfl
  | x :: s, i + 1 => by simp [unV, length_unV s i]
theorem RSl.set (r : RSl M c s σ) (i : Nat) {v : Val} {u : V} (h : RV M c v u) : RSl M c (setV s i v) (σ.set i (some u)) := by
  refine ⟨by rw [length_setV, List.length_set]; exact r.len, fun j w e => ?_⟩
  rw [getV_setV] at e
  by_cases q : j = i ∧ i < s.length
  · rw [if_pos q] at e
    cases e
    obtain ⟨rfl, hl⟩ := q
    exact ⟨u, List.getElem?_set_self (by rw [← r.len]; exact hl), h⟩
  · rw [if_neg q] at e
    obtain ⟨u', e1, r1⟩ := r.at_ j w e
    have hne : i ≠ j := fun z => by
      apply q
      refine ⟨z.symm, ?_⟩
      obtain ⟨hlt, _⟩ := List.getElem?_eq_some_iff.mp e1
      rw [r.len, z]
      exact hlt
    exact ⟨u', by rw [List.getElem?_set_ne hne]; exact e1, r1⟩
theorem RSl.un (r : RSl M c s σ) (i : Nat) : RSl M c (unV s i) (σ.set i none) := by
  refine ⟨by rw [length_unV, List.length_set]; exact r.len, fun j w e => ?_⟩
  rw [getV_unV] at e
  by_cases q : j = i
  · rw [if_pos q] at e; cases e
  · rw [if_neg q] at e
    obtain ⟨u', e1, r1⟩ := r.at_ j w e
    exact ⟨u', by rw [List.getElem?_set_ne (Ne.symm q)]; exact e1, r1⟩
theorem RSl.wipe (r : RSl M c s σ) : ∀ vs : List Nat, RSl M c (wipeL s vs) (wipe σ vs)
  | [] => r
  | v :: vs => (RSl.wipe r vs).un v
end

/-! ### the end of a run -/
/-- an exception: its class, its dict -/
structure RX (M : Mo) (c : Cf) (k : Nat) (fs : List (Str × Val)) (cls : Value) (d : Option Addr) : Prop where
  cls : cls = .ref (M.ca k)
  d : ∃ (a : Addr) (gs : List (Str × V)), d = some a ∧ c.H a = some (.xd gs) ∧ RF M c fs gs
/-- from c, the result r: Q of a value, W of an exception -/
def Go {α β : Type} (M : Mo) (c : Cf) (R : Cf → α → β → Prop) (r : Res α) (Q : β → Hp → Prop) (W : XK) : Prop := match r with
  | .ok a h => ∀ c' b, Ext M c c' → RH M c' h → R c' a b → Q b c'.H
  | .exc k fs h => ∀ c' cls d, Ext M c c' → RH M c' h → RX M c' k fs cls d → W cls d c'.H
  | .bad => False
/-- the state at hand -/
structure At (M : Mo) (c : Cf) (s : LSt) (h : LHeap) (σ : St) (H : Hp) : Prop where
  H : c.H = H
  h : RH M c h
  s : RSl M c s σ
section
variable {M : Mo} {W : WX}
/-- an expression's reading by the evaluator -/
def tEv (M : Mo) (W : WX) (m : LSt → LHeap → Res Val) : TE := fun σ H Q => ∃ c s h, At M c s h σ H ∧ Go M c (RV M) (m s h) Q (fun cls d H' => W cls d σ H')
def tEvT (M : Mo) (W : WX) (m : LSt → LHeap → Res Bool) : TT := fun σ H Q => ∃ c s h, At M c s h σ H ∧ Go M c (fun _ a b => a = b) (m s h) Q (fun cls d H' => W cls d σ H')
def tEvA (M : Mo) (W : WX) (m : LSt → LHeap → Res (List Val)) : TA := fun σ H Q => ∃ c s h, At M c s h σ H ∧ Go M c (RVs M) (m s h) Q (fun cls d H' => W cls d σ H')
theorem At.mk' {c : Cf} {s : LSt} {h : LHeap} {σ : St} (a : RH M c h) (b : RSl M c s σ) : At M c s h σ c.H := ⟨rfl, a, b⟩
/-- a run and what follows it -/
theorem Go.bindE {α β γ δ : Type} {c : Cf} {R : Cf → α → β → Prop} {R' : Cf → γ → δ → Prop} {r : Res α} {k : α → LHeap → Res γ} {Q : δ → Hp → Prop} {Q1 : β → Hp → Prop} {E : XK}
    (g : Go M c R' (r.bind k) Q E) (h1 : ∀ a h c1 b, r = .ok a h → Ext M c c1 → RH M c1 h → R c1 a b → Go M c1 R' (k a h) Q E → Q1 b c1.H) : Go M c R r Q1 E := by
  cases r with
  | ok a h =>
    intro c1 b e rh ra
    refine h1 a h c1 b rfl e rh ra ?_
    have g' : Go M c R' (k a h) Q E := g
    revert g'
    cases k a h with
    | ok a2 h2 => intro g' c2 b2 e2 rh2 rb2; exact g' c2 b2 (e.trans e2) rh2 rb2
    | exc kk fs h2 => intro g' c2 cls d e2 rh2 rx2; exact g' c2 cls d (e.trans e2) rh2 rx2
    | bad => intro g'; exact g'
  | exc kk fs h => exact g
  | bad => exact g
theorem Go.bind {α β γ δ : Type} {c : Cf} {R : Cf → α → β → Prop} {R' : Cf → γ → δ → Prop} {r : Res α} {k : α → LHeap → Res γ} {Q : δ → Hp → Prop} {Q1 : β → Hp → Prop} {E : XK}
    (g : Go M c R' (r.bind k) Q E) (h1 : ∀ a h c1 b, Ext M c c1 → RH M c1 h → R c1 a b → Go M c1 R' (k a h) Q E → Q1 b c1.H) : Go M c R r Q1 E :=
  Go.bindE g fun a h c1 b _ => h1 a h c1 b
theorem Go.imp {α β : Type} {c : Cf} {R : Cf → α → β → Prop} {r : Res α} {Q Q' : β → Hp → Prop} {E : XK} (g : Go M c R r Q E) (h : ∀ b H, Q b H → Q' b H) : Go M c R r Q' E := by
  cases r with
  | ok a h' => intro c1 b e rh ra; exact h _ _ (g c1 b e rh ra)
  | exc kk fs h' => exact g
  | bad => exact g
end
end Ev

set_option Elab.async false
set_option linter.all false
set_option maxRecDepth 100000
/-! Heap steps of the relation. -/
noncomputable section
namespace Ev
open PySem PySem.Spec PyProof.Rows L2
section
variable {M : Mo} {c : Cf} {h : LHeap}
/-- an address that a store or a new object may take: tuples, locked things and exceptions stay -/
def Loose (o : Option HO) : Prop := match o with
  | none => True
  | some (.lst _) => True
  | some (.dK _) => True
  | some (.dT _) => True
  | some (.ins _ _ _) => True
  | _ => False
theorem Loose.sqT {H : Hp} {p a : Addr} {u : HO} {xs : List V} (l : Loose (H p)) (h : H a = some (.tup xs)) : upd H p u a = some (.tup xs) := by
  have : a ≠ p := fun e => by subst e; rw [h] at l; exact l
  rw [upd_ne this]; exact h
theorem Loose.fz {H : Hp} {p a : Addr} {u : HO} {xs : List V} {K : PySem.W.Frag} (l : Loose (H p)) (h : FzL K H a xs) : FzL K (upd H p u) a xs := by
  rcases h with ⟨o, h⟩ | h
  · have : a ≠ p := fun e => by subst e; rw [h] at l; exact l
    exact .inl ⟨o, by rw [upd_ne this]; exact h⟩
  · exact .inr h
/-- an object that is not at p stays -/
theorem RO.stay {c' : Cf} {o : LObj} {a p : Addr} {u : HO} (r : RO M c o a) (e : Ex M c c') (hH : c'.H = upd c.H p u) (l : Loose (c.H p)) (ne : o.mut = true → a ≠ p) : RO M c' o a := by
  cases r with
  | lst hh r => exact .lst (by rw [hH, upd_ne (ne rfl)]; exact hh) (r.ex e)
  | frz hh r => exact .frz (by rw [hH]; exact l.fz hh) (r.ex e)
  | dK hh r => exact .dK (by rw [hH, upd_ne (ne rfl)]; exact hh) (r.ex e)
  | dT hh r => exact .dT (by rw [hH, upd_ne (ne rfl)]; exact hh) (r.ex e)
  | ins hh r => exact .ins (by rw [hH, upd_ne (ne rfl)]; exact hh) (r.ex e)
  | @exc k fs a dx gs oe vs hh hc hd hf hx r =>
    have hdp : dx ≠ p := fun z => by subst z; rw [hx] at l; exact l
    exact .exc (by rw [hH, upd_ne (ne rfl)]; exact hh) hc hd hf (by rw [hH, upd_ne hdp]; exact hx) (r.ex e)
theorem RO.there {o : LObj} {a : Addr} (r : RO M c o a) (m : o.mut = true) : c.H a ≠ none := by
  cases r with
  | lst hh r => rw [hh]; simp
  | frz hh r => cases m
  | dK hh r => rw [hh]; simp
  | dT hh r => rw [hh]; simp
  | ins hh r => rw [hh]; simp
  | exc hh => rw [hh]; simp
/-- c with a new address -/
def Cf.push (c : Cf) (p : Addr) (u : HO) : Cf := ⟨c.n + 1, fun l => if l = c.n then p else c.r l, fun l => if l = c.n then true else c.nm l, upd c.H p u⟩
/-- c with another thing at p -/
def Cf.upd (c : Cf) (p : Addr) (u : HO) : Cf := ⟨c.n, c.r, c.nm, L2.upd c.H p u⟩
theorem Loose.tabs {H : Hp} {p : Addr} {u : HO} {T : List (Addr × Str)} (l : Loose (H p)) (t : LamX.Tabs T H) : LamX.Tabs T (L2.upd H p u) := fun q hq => by
  obtain ⟨ps, h1, h2, h3⟩ := t q hq
  refine ⟨ps, ?_, h2, fun pos cv hc => ?_⟩
  · rw [upd_ne (fun e => by rw [← e, h1] at l; exact l)]; exact h1
  · obtain ⟨c, e1, e2⟩ := h3 pos cv hc
    refine ⟨c, e1, ?_⟩
    rw [upd_ne (fun e => by rw [← e, e2] at l; exact l)]; exact e2
/-- nothing, or a table -/
def NT (o : Option HO) : Prop := ∀ u, o = some u → Tb u
theorem NT.none {o : Option HO} (h : o = .none) : NT o := fun u e => by rw [h] at e; cases e
theorem NT.ne {H : Hp} {p a : Addr} {o : HO} (h : NT (H p)) (e : H a = some o) (nt : ¬ Tb o) : a ≠ p := fun z => nt (h o (by rw [← z]; exact e))
theorem ntTup {xs : List V} : ¬ Tb (.tup xs) := fun ⟨_, z⟩ => nomatch z
theorem Cf.push_ext {p : Addr} {u : HO} (hp : c.H p = none) : Ext M c (c.push p u) := by
  have lo : Loose (c.H p) := by rw [hp]; exact True.intro
  refine ⟨⟨Nat.le_succ _, fun l hl => if_neg (Nat.ne_of_lt hl), fun a xs q => lo.sqT q⟩, fun l hl => if_neg (Nat.ne_of_lt hl), fun a o q _ _ => ?_, fun l h1 h2 => ?_, fun a o q nt => ⟨o, ?_, nt⟩⟩
  · show L2.upd c.H p u a = _
    rw [upd_ne (fun e => by rw [e, hp] at q; cases q)]; exact q
  · have e : l = c.n := Nat.le_antisymm (Nat.le_of_lt_succ h2) h1
    show ∀ o, c.H (if l = c.n then p else c.r l) = some o → Tb o
    rw [if_pos e]; exact NT.none hp
  · show L2.upd c.H p u a = _
    rw [upd_ne (fun e => by rw [e, hp] at q; cases q)]; exact q
theorem Cf.upd_ex {p : Addr} {u : HO} (lo : Loose (c.H p)) : Ex M c (c.upd p u) := ⟨Nat.le_refl _, fun l hl => rfl, fun a xs q => lo.sqT q⟩
/-- a named thing, or a new one, is changed -/
theorem Cf.upd_ext {p : Addr} {u : HO} (lo : Loose (c.H p)) (hp : c.H p = none ∨ ∃ l, l < c.n ∧ c.nm l = true ∧ c.r l = p) (hu : c.H p = none ∨ ¬ Tb u := by exact .inr (fun ⟨_, z⟩ => nomatch z)) : Ext M c (c.upd p u) := by
  refine ⟨Cf.upd_ex lo, fun _ _ => rfl, fun a o q nt hn => ?_, fun l h1 h2 => absurd h2 (Nat.not_lt.mpr h1), fun a o q nt => ?_⟩
  · show L2.upd c.H p u a = _
    rw [upd_ne (fun e => ?_)]
    · exact q
    · rcases hp with z | ⟨l, hl, hm, z⟩
      · rw [e, z] at q; cases q
      · exact hn l hl hm (z.trans e.symm)
  · show ∃ o', L2.upd c.H p u a = some o' ∧ ¬ Tb o'
    by_cases e : a = p
    · rcases hu with z | z
      · rw [e, z] at q; cases q
      · exact ⟨u, by rw [e, upd_same], z⟩
    · exact ⟨o, by rw [upd_ne e]; exact q, nt⟩
/-- .. seen from a state in which nothing stood there -/
theorem Ext.side {c0 : Cf} {p : Addr} {u : HO} (e : Ext M c0 c) (hp : c0.H p = none) : Ext M c0 (c.upd p u) := by
  have ne : ∀ a o, c0.H a = some o → ¬ Tb o → a ≠ p := fun a o h nt => (NT.none hp).ne h nt
  refine ⟨⟨e.x.le, e.x.r, fun a xs q => ?_⟩, e.m, fun a o q nt hn => ?_, e.fr, fun a o q nt => ?_⟩
  · show L2.upd c.H p u a = _
    rw [upd_ne (ne a _ q ntTup)]; exact e.x.t a xs q
  · show L2.upd c.H p u a = _
    rw [upd_ne (ne a _ q nt)]; exact e.f a o q nt hn
  · obtain ⟨o', h', nt'⟩ := e.tr a o q nt
    exact ⟨o', by show L2.upd c.H p u a = _; rw [upd_ne (ne a _ q nt)]; exact h', nt'⟩
/-- a thing at p, named by none so far, gets a name -/
theorem RH.adopt {p : Addr} {u : HO} {o : LObj} (R : RH M c h) (lo : Loose (c.H p)) (un : ∀ l, l < c.n → c.nm l = true → c.r l ≠ p) (ro : RO M (c.push p u) o p) (mo : o.mut = true := by rfl) : RH M (c.push p u) (h.push o) := by
  have rn : ∀ l, l ≠ c.n → (c.push p u).r l = c.r l := fun l hl => if_neg hl
  have rs : (c.push p u).r c.n = p := if_pos rfl
  have ex : Ex M c (c.push p u) := ⟨Nat.le_succ _, fun l hl => if_neg (Nat.ne_of_lt hl), fun a xs q => lo.sqT q⟩
  have hn : ∀ l o, h.get l = some o → o.mut = true → c.r l ≠ p := fun l o e mm => un l (by rw [R.n]; exact LHeap.get_lt e) (R.mn l o e mm)
  refine ⟨?_, fun l u' e => ?_, fun l k u1 u2 e1 e2 m1 m2 er => ?_, fun l hl hm => ?_, fun l u' e hm => ?_, lo.tabs R.tb⟩
  · show c.n + 1 = (h.push o).n
    rw [R.n]; obtain ⟨n, t⟩ := h; rfl
  · rw [LHeap.get_push, ← R.n] at e
    by_cases q : l = c.n
    · rw [if_pos q] at e
      cases e
      subst q
      rw [rs]
      exact ro
    · rw [if_neg q] at e
      rw [rn l q]
      exact (R.o l u' e).stay ex rfl lo fun mm => hn l u' e mm
  · rw [LHeap.get_push, ← R.n] at e1 e2
    by_cases q1 : l = c.n
    · by_cases q2 : k = c.n
      · rw [q1, q2]
      · rw [if_neg q2] at e2
        rw [q1, rs, rn k q2] at er
        exact absurd er.symm (hn k u2 e2 m2)
    · rw [if_neg q1] at e1
      by_cases q2 : k = c.n
      · rw [q2, rs, rn l q1] at er
        exact absurd er (hn l u1 e1 m1)
      · rw [if_neg q2] at e2
        rw [rn l q1, rn k q2] at er
        exact R.inj l k u1 u2 e1 e2 m1 m2 er
  · rw [LHeap.get_push, ← R.n]
    by_cases q : l = c.n
    · exact ⟨o, if_pos q, mo⟩
    · rw [if_neg q]
      have hl' : l < c.n + 1 := hl
      have hm' : (if l = c.n then true else c.nm l) = true := hm
      rw [if_neg q] at hm'
      exact R.nm l (by omega) hm'
  · rw [LHeap.get_push, ← R.n] at e
    show (if l = c.n then true else c.nm l) = true
    by_cases q : l = c.n
    · rw [if_pos q]
    · rw [if_neg q] at e ⊢
      exact R.mn l u' e hm
theorem Ext.adopt {c0 : Cf} {p : Addr} {u : HO} (e : Ext M c0 c) (hp : NT (c0.H p)) : Ext M c0 (c.push p u) := by
  have ne : ∀ a o, c0.H a = some o → ¬ Tb o → a ≠ p := fun a o h nt => hp.ne h nt
  refine ⟨⟨Nat.le_trans e.x.le (Nat.le_succ _), fun l hl => ?_, fun a xs q => ?_⟩, fun l hl => ?_, fun a o q nt hn => ?_, fun l h1 h2 => ?_, fun a o q nt => ?_⟩
  · show (if l = c.n then p else c.r l) = _
    rw [if_neg (Nat.ne_of_lt (Nat.lt_of_lt_of_le hl e.x.le))]; exact e.x.r l hl
  · show L2.upd c.H p u a = _
    rw [upd_ne (ne a _ q ntTup)]; exact e.x.t a xs q
  · show (if l = c.n then true else c.nm l) = _
    rw [if_neg (Nat.ne_of_lt (Nat.lt_of_lt_of_le hl e.x.le))]; exact e.m l hl
  · show L2.upd c.H p u a = _
    rw [upd_ne (ne a _ q nt)]; exact e.f a o q nt hn
  · show ∀ o, c0.H (if l = c.n then p else c.r l) = some o → Tb o
    have h2' : l < c.n + 1 := h2
    by_cases q : l = c.n
    · rw [if_pos q]; exact hp
    · rw [if_neg q]; exact e.fr l h1 (by omega)
  · obtain ⟨o', h', nt'⟩ := e.tr a o q nt
    exact ⟨o', by show L2.upd c.H p u a = _; rw [upd_ne (ne a _ q nt)]; exact h', nt'⟩
/-- a new object -/
theorem RH.push {p : Addr} {u : HO} {o : LObj} (R : RH M c h) (hp : c.H p = none) (ro : RO M (c.push p u) o p) (mo : o.mut = true := by rfl) : RH M (c.push p u) (h.push o) :=
  R.adopt (by rw [hp]; exact True.intro) (fun l hl hm e => by
    obtain ⟨o, q, mo⟩ := R.nm l hl hm
    exact (R.o l o q).there mo (by rw [e]; exact hp)) ro mo
/-- an object changed -/
theorem RH.put {l : Nat} {u : HO} {o o' : LObj} (R : RH M c h) (e : h.get l = some o) (mo : o.mut = true) (mo' : o'.mut = true) (lo : Loose (c.H (c.r l))) (ro : RO M (c.upd (c.r l) u) o' (c.r l)) :
    RH M (c.upd (c.r l) u) (h.put l o') := by
  have ex : Ex M c (c.upd (c.r l) u) := Cf.upd_ex lo
  have hl := LHeap.get_lt e
  refine ⟨R.n, fun k u' e' => ?_, fun k j u1 u2 e1 e2 m1 m2 er => ?_, fun k hk hm => ?_, fun k u' e' hm => ?_, lo.tabs R.tb⟩
  · rw [LHeap.get_put hl] at e'
    by_cases q : k = l
    · rw [if_pos q] at e'
      cases e'
      subst q
      exact ro
    · rw [if_neg q] at e'
      exact (R.o k u' e').stay ex rfl lo fun mm z => q (R.inj k l u' o e' e mm mo z)
  · rw [LHeap.get_put hl] at e1 e2
    by_cases q1 : k = l
    · by_cases q2 : j = l
      · rw [q1, q2]
      · rw [if_neg q2] at e2
        subst q1
        exact R.inj k j o u2 e e2 mo m2 er
    · rw [if_neg q1] at e1
      by_cases q2 : j = l
      · subst q2
        exact R.inj k j u1 o e1 e m1 mo er
      · rw [if_neg q2] at e2
        exact R.inj k j u1 u2 e1 e2 m1 m2 er
  · rw [LHeap.get_put hl]
    by_cases q : k = l
    · exact ⟨o', if_pos q, mo'⟩
    · rw [if_neg q]
      exact R.nm k hk hm
  · rw [LHeap.get_put hl] at e'
    by_cases q : k = l
    · subst q
      exact R.mn k o e mo
    · rw [if_neg q] at e'
      exact R.mn k u' e' hm
/-- tracked things that no logical address names may come and go: a new thing at p -/
theorem RH.side {p : Addr} {u : HO} (R : RH M c h) (hp : c.H p = none) : RH M (c.upd p u) h ∧ Ext M c (c.upd p u) := by
  have lo : Loose (c.H p) := by rw [hp]; exact True.intro
  exact ⟨⟨R.n, fun l o e => (R.o l o e).stay (Cf.upd_ex lo) rfl lo fun mm z => (R.o l o e).there mm (by rw [z]; exact hp), R.inj, R.nm, R.mn, lo.tabs R.tb⟩, Cf.upd_ext lo (.inl hp) (.inl hp)⟩
/-- .. a thing at p, named by none, changed -/
theorem RH.side' {p : Addr} {u : HO} (R : RH M c h) (lo : Loose (c.H p)) (ne : ∀ l o, h.get l = some o → o.mut = true → c.r l ≠ p) : RH M (c.upd p u) h ∧ Ex M c (c.upd p u) :=
  ⟨⟨R.n, fun l o e => (R.o l o e).stay (Cf.upd_ex lo) rfl lo fun mm => ne l o e mm, R.inj, R.nm, R.mn, lo.tabs R.tb⟩, Cf.upd_ex lo⟩
/-- a new address is named by none -/
theorem RH.new {p : Addr} (R : RH M c h) (hp : c.H p = none) : ∀ l, l < c.n → c.nm l = true → c.r l ≠ p := fun l hl hm e => by
  obtain ⟨o, q, mo⟩ := R.nm l hl hm
  exact (R.o l o q).there mo (by rw [e]; exact hp)
theorem RO.nt {o : LObj} {a : Addr} (r : RO M c o a) (m : o.mut = true) : ∃ u, c.H a = some u ∧ ¬ Tb u := by
  cases r with
  | lst hh r => exact ⟨_, hh, fun ⟨_, z⟩ => nomatch z⟩
  | frz hh r => cases m
  | dK hh r => exact ⟨_, hh, fun ⟨_, z⟩ => nomatch z⟩
  | dT hh r => exact ⟨_, hh, fun ⟨_, z⟩ => nomatch z⟩
  | ins hh r => exact ⟨_, hh, fun ⟨_, z⟩ => nomatch z⟩
  | exc hh => exact ⟨_, hh, fun ⟨_, z⟩ => nomatch (show exV _ _ = HO.tbl _ from z)⟩
theorem RH.newT {p : Addr} (R : RH M c h) (hp : NT (c.H p)) : ∀ l, l < c.n → c.nm l = true → c.r l ≠ p := fun l hl hm e => by
  obtain ⟨o, q, mo⟩ := R.nm l hl hm
  obtain ⟨u, h1, h2⟩ := (R.o l o q).nt mo
  exact h2 (hp u (by rw [← e]; exact h1))
end
/-! ### new things in a reading -/
section
variable {M : Mo} {c : Cf} {h : LHeap} {Q : VK} {E : XK}
theorem blt_true {a b : Nat} (h : Nat.blt a b = true) : a < b := Nat.le_of_ble_eq_true h
theorem ble_true {a b : Nat} (h : Nat.ble a b = true) : a ≤ b := Nat.le_of_ble_eq_true h
/-- a new list -/
theorem go_alloc_lst {xs : List Val} {ys : List V} (R : RH M c h) (r : RVs M c xs ys) (g : Go M c (RV M) (alloc (.lst xs) h) Q E) : ∀ p, c.H p = none → Q (.ref p) (upd c.H p (.lst ys)) := by
  intro p hp
  unfold alloc at g
  have ex : Ext M c (c.push p (.lst ys)) := Cf.push_ext hp
  have e := g (c.push p (.lst ys)) (.ref p) ex (R.push hp (.lst upd_same (r.ext ex))) ?_
  · exact e
  · have : RV M (c.push p (.lst ys)) (.ref c.n) (.ref ((c.push p (.lst ys)).r c.n)) := .ref (Nat.lt_succ_self _)
    rw [show (c.push p (.lst ys)).r c.n = p from if_pos rfl] at this
    rw [← R.n]
    exact this
theorem go_alloc_dK {xs : List (Key × Val)} {ys : List (Key × V)} (R : RH M c h) (r : RK Key M c xs ys) (g : Go M c (RV M) (alloc (.dK xs) h) Q E) : ∀ p, c.H p = none → Q (.ref p) (upd c.H p (.dK ys)) := by
  intro p hp
  unfold alloc at g
  have ex : Ext M c (c.push p (.dK ys)) := Cf.push_ext hp
  refine g (c.push p (.dK ys)) (.ref p) ex (R.push hp (.dK upd_same (r.ext ex))) ?_
  have : RV M (c.push p (.dK ys)) (.ref c.n) (.ref ((c.push p (.dK ys)).r c.n)) := .ref (Nat.lt_succ_self _)
  rw [show (c.push p (.dK ys)).r c.n = p from if_pos rfl] at this
  rw [← R.n]
  exact this
theorem go_alloc_dT {xs : List (List Key × Val)} {ys : List (List Key × V)} (R : RH M c h) (r : RK (List Key) M c xs ys) (g : Go M c (RV M) (alloc (.dT xs) h) Q E) : ∀ p, c.H p = none → Q (.ref p) (upd c.H p (.dT ys)) := by
  intro p hp
  unfold alloc at g
  have ex : Ext M c (c.push p (.dT ys)) := Cf.push_ext hp
  refine g (c.push p (.dT ys)) (.ref p) ex (R.push hp (.dT upd_same (r.ext ex))) ?_
  have : RV M (c.push p (.dT ys)) (.ref c.n) (.ref ((c.push p (.dT ys)).r c.n)) := .ref (Nat.lt_succ_self _)
  rw [show (c.push p (.dT ys)).r c.n = p from if_pos rfl] at this
  rw [← R.n]
  exact this
/-- a side thing that becomes the result -/
theorem go_adopt_dK {c0 : Cf} {p : Addr} {xs : List (Key × Val)} {ys : List (Key × V)} (R : RH M c h) (e0 : Ext M c0 c) (hp : NT (c0.H p)) (lo : Loose (c.H p)) (un : ∀ l, l < c.n → c.nm l = true → c.r l ≠ p) (r : RK Key M c xs ys)
    (g : Go M c0 (RV M) (alloc (.dK xs) h) Q E) : Q (.ref p) (upd c.H p (.dK ys)) := by
  unfold alloc at g
  have ex : Ex M c (c.push p (.dK ys)) := ⟨Nat.le_succ _, fun l hl => if_neg (Nat.ne_of_lt hl), fun a xs q => lo.sqT q⟩
  refine g (c.push p (.dK ys)) (.ref p) (e0.adopt hp) (R.adopt lo un (.dK upd_same (r.ex ex))) ?_
  have : RV M (c.push p (.dK ys)) (.ref c.n) (.ref ((c.push p (.dK ys)).r c.n)) := .ref (Nat.lt_succ_self _)
  rw [show (c.push p (.dK ys)).r c.n = p from if_pos rfl] at this
  rw [← R.n]
  exact this
theorem go_adopt_lst {c0 : Cf} {p : Addr} {xs : List Val} {ys : List V} (R : RH M c h) (e0 : Ext M c0 c) (hp : NT (c0.H p)) (lo : Loose (c.H p)) (un : ∀ l, l < c.n → c.nm l = true → c.r l ≠ p) (r : RVs M c xs ys) (hc : c.H p = some (.lst ys))
    (g : Go M c0 (RV M) (alloc (.lst xs) h) Q E) : Q (.ref p) c.H := by
  unfold alloc at g
  have eu : upd c.H p (.lst ys) = c.H := by
    funext b
    by_cases e : b = p
    · rw [e, upd_same, hc]
    · rw [upd_ne e]
  have ex : Ex M c (c.push p (.lst ys)) := ⟨Nat.le_succ _, fun l hl => if_neg (Nat.ne_of_lt hl), fun a xs q => lo.sqT q⟩
  have z := g (c.push p (.lst ys)) (.ref p) (e0.adopt hp) (R.adopt lo un (.lst upd_same (r.ex ex))) (by
    have : RV M (c.push p (.lst ys)) (.ref c.n) (.ref ((c.push p (.lst ys)).r c.n)) := .ref (Nat.lt_succ_self _)
    rw [show (c.push p (.lst ys)).r c.n = p from if_pos rfl] at this
    rw [← R.n]
    exact this)
  have z' : Q (.ref p) (upd c.H p (.lst ys)) := z
  rw [eu] at z'
  exact z'
/-- a new tuple -/
theorem go_tup {xs : List Val} {ys : List V} (R : RH M c h) (r : RVs M c xs ys) (g : Go M c (RV M) (.ok (.tup xs) h) Q E) : ∀ p, c.H p = none → Q (.ref p) (upd c.H p (.tup ys)) := by
  intro p hp
  obtain ⟨R', ex⟩ := R.side (u := .tup ys) hp
  exact g (c.upd p (.tup ys)) (.ref p) ex R' (.tup upd_same (r.ext ex))
/-- a value as it is -/
theorem go_val {α β : Type} {RR : Cf → α → β → Prop} {a : α} {b : β} {Q : β → Hp → Prop} (R : RH M c h) (r : RR c a b) (g : Go M c RR (.ok a h) Q E) : Q b c.H := g c b (Ext.refl c) R r
/-- a list changed -/
theorem go_store_lst {l : Nat} {o : LObj} {xs : List Val} {ys : List V} {α β : Type} {RR : Cf → α → β → Prop} {a : α} {b : β} {Q : β → Hp → Prop} (R : RH M c h) (e : h.get l = some o) (mo : o.mut = true) (lo : Loose (c.H (c.r l))) (r : RVs M c xs ys)
    (rr : ∀ c', Ext M c c' → RR c' a b) (g : Go M c RR (store l (.lst xs) h a) Q E) : Q b (upd c.H (c.r l) (.lst ys)) := by
  unfold store at g
  have ex : Ext M c (c.upd (c.r l) (.lst ys)) := Cf.upd_ext lo (.inr ⟨l, by rw [R.n]; exact LHeap.get_lt e, R.mn l o e mo, rfl⟩)
  exact g (c.upd (c.r l) (.lst ys)) b ex (R.put e mo rfl lo (.lst upd_same (r.ext ex))) (rr _ ex)
end
end Ev

set_option Elab.async false
set_option linter.all false
set_option maxRecDepth 100000
set_option maxHeartbeats 2000000
/-! Binary operations and comparisons. -/
noncomputable section
namespace Ev
open PySem PySem.Spec PyProof.Rows L2

/-- a value at hand -/
structure Has (M : Mo) (c : Cf) (h : LHeap) (H : Hp) : Prop where
  H : c.H = H
  h : RH M c h
def BOp.op : BOp → Operator
  | .add => .Add
  | .sub => .Sub
  | .mul => .Mult
  | .fdiv => .FloorDiv
  | .mod => .Mod
  | .pow => .Pow
def rBin (M : Mo) (o : BOp) : R2 := fun x y H Q => ∃ c h u v E, Has M c h H ∧ RV M c u x ∧ RV M c v y ∧ Go M c (RV M) (binOp o u v h) Q E
theorem line_eq : line = sizeLine := rfl
theorem small_ok {i : Int} (h : small i = true) : -(2 ^ 64) < i ∧ i < 2 ^ 64 := by
  unfold small at h
  simp only [Bool.and_eq_true, decide_eq_true_eq] at h
  exact ⟨by omega, by omega⟩
theorem cps_len (s : Str) : s.cps.toList.length = s.length := by
  show _ = s.cps.size
  simp
section
variable {M : Mo} {X : Cx} {c : Cf} {h : LHeap}
/-- what a logical address holds -/
theorem RH.lst {l : Nat} {xs : List Val} (R : RH M c h) (e : h.get l = some (.lst xs)) : ∃ ys, c.H (c.r l) = some (.lst ys) ∧ RVs M c xs ys := by
  cases R.o l _ e with
  | lst hh r => exact ⟨_, hh, r⟩
theorem RH.frz {l : Nat} {xs : List Val} (R : RH M c h) (e : h.get l = some (.frz xs)) : ∃ ys, FzL M.K c.H (c.r l) ys ∧ RVs M c xs ys := by
  cases R.o l _ e with
  | frz hh r => exact ⟨_, hh, r⟩
theorem RH.dK {l : Nat} {xs : List (Key × Val)} (R : RH M c h) (e : h.get l = some (.dK xs)) : ∃ ys, c.H (c.r l) = some (.dK ys) ∧ RK Key M c xs ys := by
  cases R.o l _ e with
  | dK hh r => exact ⟨_, hh, r⟩
theorem RH.dT {l : Nat} {xs : List (List Key × Val)} (R : RH M c h) (e : h.get l = some (.dT xs)) : ∃ ys, c.H (c.r l) = some (.dT ys) ∧ RK (List Key) M c xs ys := by
  cases R.o l _ e with
  | dT hh r => exact ⟨_, hh, r⟩
/-- a list, tracked or locked -/
theorem RH.itemsL {v : Val} {x : V} {xs : List Val} (R : RH M c h) (r : RV M c v x) (e : itemsL h v = some xs) : ∃ a ys, x = .ref a ∧ SqL M.K c.H a ys ∧ RVs M c xs ys := by
  cases r with
  | @ref l hl =>
    have e' : (match h.get l with
      | some (.lst xs) => some xs
      | some (.frz xs) => some xs
      | _ => none) = some xs := e
    cases q : h.get l with
    | none => rw [q] at e'; cases e'
    | some o =>
      rw [q] at e'
      cases o with
      | lst zs =>
        cases e'
        obtain ⟨ys, h1, h2⟩ := R.lst q
        exact ⟨_, ys, rfl, SqL.of h1, h2⟩
      | frz zs =>
        cases e'
        obtain ⟨ys, h1, h2⟩ := R.frz q
        exact ⟨_, ys, rfl, h1.sq, h2⟩
      | dK _ => cases e'
      | dT _ => cases e'
      | ins _ _ => cases e'
      | exc _ _ => cases e'
  | _ => cases e
theorem Ext.keepRVs {c' : Cf} (e : Ext M c c') {xs : List Val} {ys : List V} (r : RVs M c xs ys) : RVs M c' xs ys := r.ext e
theorem op_bin (hK : X.K = M.K) (o : BOp) : OpR X (binaryOp o.op) (rBin M o) := by
  intro pins s σ H x y v u Q I rx ry hr
  obtain ⟨c, h, a, b, E, ⟨rfl, R⟩, ra, rb, g⟩ := hr
  cases o with
  | add =>
    cases ra with
    | int i =>
      cases rb with
      | int j => exact op_add pins s σ _ _ _ v u Q I rx ry ⟨i, j, rfl, rfl, go_val (RR := RV M) R (.int _) g⟩
      | _ => exact g.elim
    | str i =>
      cases rb with
      | str j =>
        have g' : Go M c (RV M) (match Nat.ble (i.cps.toList.length + j.cps.toList.length) line with
          | true => .ok (.str (sApp i j)) h
          | false => .bad) Q E := g
        cases q : Nat.ble (i.cps.toList.length + j.cps.toList.length) line with
        | false => rw [q] at g'; exact g'.elim
        | true =>
          rw [q] at g'
          have hl := ble_true q
          rw [cps_len, cps_len, line_eq] at hl
          refine op_add_str pins s σ _ _ _ v u Q I rx ry ⟨i, j, rfl, rfl, hl, ?_⟩
          rw [← sApp_eq]
          exact go_val (RR := RV M) R (.str _) g'
      | _ => exact g.elim
    | @tup xs p ys sq r =>
      cases rb with
      | @tup xs2 p2 ys2 sq2 r2 =>
        have g' : Go M c (RV M) (match Nat.ble (xs.length + xs2.length) line with
          | true => .ok (.tup (xs ++ xs2)) h
          | false => .bad) Q E := g
        cases q : Nat.ble (xs.length + xs2.length) line with
        | false => rw [q] at g'; exact g'.elim
        | true =>
          rw [q] at g'
          have hl := ble_true q
          rw [r.length, r2.length, line_eq] at hl
          refine op_catA pins s σ _ _ _ v u Q I rx ry ⟨p, p2, ys, ys2, rfl, rfl, SqT.of sq, SqT.of sq2, hl, fun e => ?_, fun _ e => ?_, fun _ _ => ?_⟩
          · subst e
            cases r
            exact go_val (RR := RV M) R (.tup sq2 r2) g'
          · subst e
            cases r2
            rw [List.append_nil] at g'
            exact go_val (RR := RV M) R (.tup sq r) g'
          · exact go_tup R (r.append r2) g'
      | _ => exact g.elim
    | @ref l hl =>
      cases rb with
      | @ref k hk =>
        have g' : Go M c (RV M) (match h.get l, h.get k with
          | some (.lst xs), some (.lst ys) => (match Nat.ble (xs.length + ys.length) line with
            | true => alloc (.lst (xs ++ ys)) h
            | false => .bad)
          | _, _ => .bad) Q E := g
        cases q1 : h.get l with
        | none => rw [q1] at g'; exact g'.elim
        | some o1 =>
          rw [q1] at g'
          cases o1 with
          | lst xs =>
            cases q2 : h.get k with
            | none => rw [q2] at g'; exact g'.elim
            | some o2 =>
              rw [q2] at g'
              cases o2 with
              | lst ys =>
                have g2 : Go M c (RV M) (match Nat.ble (xs.length + ys.length) line with
                  | true => alloc (.lst (xs ++ ys)) h
                  | false => .bad) Q E := g'
                cases q : Nat.ble (xs.length + ys.length) line with
                | false => rw [q] at g2; exact g2.elim
                | true =>
                  rw [q] at g2
                  obtain ⟨us, h1, r1⟩ := R.lst q1
                  obtain ⟨ws, h2, r2⟩ := R.lst q2
                  have hl := ble_true q
                  rw [r1.length, r2.length, line_eq] at hl
                  exact op_cat pins s σ _ _ _ v u Q I rx ry ⟨_, _, us, ws, rfl, rfl, h1, h2, hl, go_alloc_lst R (r1.append r2) g2⟩
              | _ => exact g'.elim
          | _ => cases q2 : h.get k <;> (rw [q2] at g'; exact g'.elim)
      | _ => exact g.elim
    | _ => exact g.elim
  | sub =>
    cases ra with
    | int i =>
      cases rb with
      | int j => exact op_sub pins s σ _ _ _ v u Q I rx ry ⟨i, j, rfl, rfl, go_val (RR := RV M) R (.int _) g⟩
      | _ => exact g.elim
    | _ => cases rb <;> exact g.elim
  | mul =>
    cases ra with
    | int i =>
      cases rb with
      | int j =>
        have g' : Go M c (RV M) (match small i || small j with
          | true => .ok (.int (i * j)) h
          | false => .bad) Q E := g
        cases q : small i || small j with
        | false => rw [q] at g'; exact g'.elim
        | true =>
          rw [q] at g'
          refine op_mul pins s σ _ _ _ v u Q I rx ry ⟨i, j, rfl, rfl, ?_, go_val (RR := RV M) R (.int _) g'⟩
          rcases Bool.or_eq_true_iff.mp q with z | z
          · exact .inl (small_ok z)
          · exact .inr (small_ok z)
      | _ => exact g.elim
    | @ref l hl =>
      cases rb with
      | int k =>
        have g' : Go M c (RV M) (match h.get l with
          | some (.lst xs) => (match decide (0 ≤ k) && decide (k ≤ 1000) && Nat.ble (xs.length * k.toNat) line with
            | true => alloc (.lst (Ev.rep xs k.toNat)) h
            | false => .bad)
          | _ => .bad) Q E := g
        cases q1 : h.get l with
        | none => rw [q1] at g'; exact g'.elim
        | some o1 =>
          rw [q1] at g'
          cases o1 with
          | lst xs =>
            have g2 : Go M c (RV M) (match decide (0 ≤ k) && decide (k ≤ 1000) && Nat.ble (xs.length * k.toNat) line with
              | true => alloc (.lst (Ev.rep xs k.toNat)) h
              | false => .bad) Q E := g'
            cases q : decide (0 ≤ k) && decide (k ≤ 1000) && Nat.ble (xs.length * k.toNat) line with
            | false => rw [q] at g2; exact g2.elim
            | true =>
              rw [q] at g2
              obtain ⟨us, h1, r1⟩ := R.lst q1
              simp only [Bool.and_eq_true, decide_eq_true_eq] at q
              have hl := ble_true q.2
              rw [r1.length, line_eq] at hl
              exact op_rep pins s σ _ _ _ v u Q I rx ry ⟨_, k, us, rfl, rfl, h1, by omega, by omega, hl, go_alloc_lst R (r1.rep _) g2⟩
          | _ => exact g'.elim
      | _ => exact g.elim
    | @tup xs p ys sq r =>
      cases rb with
      | int k =>
        have g' : Go M c (RV M) (match decide (2 ≤ k) && decide (k ≤ 1000) && Nat.ble 1 xs.length && Nat.ble xs.length 1000 with
          | true => .ok (.tup (Ev.rep xs k.toNat)) h
          | false => .bad) Q E := g
        cases q : decide (2 ≤ k) && decide (k ≤ 1000) && Nat.ble 1 xs.length && Nat.ble xs.length 1000 with
        | false => rw [q] at g'; exact g'.elim
        | true =>
          rw [q] at g'
          simp only [Bool.and_eq_true, decide_eq_true_eq] at q
          have h1 := ble_true q.1.2
          have h2 := ble_true q.2
          rw [r.length] at h1 h2
          exact op_repT pins s σ _ _ _ v u Q I rx ry ⟨p, k, ys, rfl, rfl, SqT.of sq, fun e => by subst e; simp at h1, q.1.1.1, q.1.1.2, h2, go_tup R (r.rep _) g'⟩
      | _ => exact g.elim
    | _ => cases rb <;> exact g.elim
  | fdiv =>
    cases ra with
    | int i =>
      cases rb with
      | int j =>
        have g' : Go M c (RV M) (match decide (0 < j) && decide (j < 18446744073709551616) with
          | true => .ok (.int (i / j)) h
          | false => .bad) Q E := g
        cases q : decide (0 < j) && decide (j < 18446744073709551616) with
        | false => rw [q] at g'; exact g'.elim
        | true =>
          rw [q] at g'
          simp only [Bool.and_eq_true, decide_eq_true_eq] at q
          exact op_fdivW pins s σ _ _ _ v u Q I rx ry ⟨i, j, rfl, rfl, wide_div (b := 64) q.1 (by have := q.1; have := q.2; show j.natAbs < 18446744073709551616; omega) (by decide) (by decide), go_val (RR := RV M) R (.int _) g'⟩
      | _ => exact g.elim
    | _ => cases rb <;> exact g.elim
  | mod =>
    cases ra with
    | int i =>
      cases rb with
      | int j =>
        have g' : Go M c (RV M) (match decide (0 < j) with
          | true => .ok (.int (i % j)) h
          | false => .bad) Q E := g
        cases q : decide (0 < j) with
        | false => rw [q] at g'; exact g'.elim
        | true =>
          rw [q] at g'
          simp only [decide_eq_true_eq] at q
          exact op_mod pins s σ _ _ _ v u Q I rx ry ⟨i, j, rfl, rfl, q, go_val (RR := RV M) R (.int _) g'⟩
      | _ => exact g.elim
    | _ => cases rb <;> exact g.elim
  | pow =>
    cases ra with
    | int i =>
      cases rb with
      | int j =>
        have g' : Go M c (RV M) (match decide (0 ≤ j) && decide (j ≤ 1000000) && small i with
          | true => .ok (.int (i ^ j.toNat)) h
          | false => .bad) Q E := g
        cases q : decide (0 ≤ j) && decide (j ≤ 1000000) && small i with
        | false => rw [q] at g'; exact g'.elim
        | true =>
          rw [q] at g'
          simp only [Bool.and_eq_true, decide_eq_true_eq] at q
          have hs := small_ok q.2
          exact op_pow pins s σ _ _ _ v u Q I rx ry ⟨i, j, rfl, rfl, ⟨q.1.1, q.1.2, by omega⟩, go_val (RR := RV M) R (.int _) g'⟩
      | _ => exact g.elim
    | _ => cases rb <;> exact g.elim
end
end Ev

set_option Elab.async false
set_option linter.all false
set_option maxRecDepth 100000
set_option maxHeartbeats 2000000
/-! Comparisons, dicts. -/
noncomputable section
namespace Ev
open PySem PySem.Spec PyProof.Rows L2
theorem mapOpt_cons {α β : Type} {f : α → Option β} {x : α} {xs : List α} {zs : List β} (e : mapOpt f (x :: xs) = some zs) : ∃ y ys, f x = some y ∧ mapOpt f xs = some ys ∧ zs = y :: ys := by
  unfold mapOpt at e
  cases q : f x with
  | none => rw [q] at e; cases e
  | some y =>
    rw [q] at e
    cases q2 : mapOpt f xs with
    | none => simp only [q2] at e; cases e
    | some ys => simp only [q2] at e; cases e; exact ⟨y, ys, rfl, rfl, rfl⟩
/-! ### keys -/
theorem keyEq_iff : ∀ {a b : Key}, keyEq a b = true ↔ a = b
  | .inl i, .inl j => by simp [keyEq]
  | .inr x, .inr y => by simp [keyEq, strEq_iff]
  | .inl _, .inr _ => by simp [keyEq]
  | .inr _, .inl _ => by simp [keyEq]
theorem keysEq_iff : ∀ {a b : List Key}, keysEq a b = true ↔ a = b
  | [], [] => by simp [keysEq]
  | [], _ :: _ => by simp [keysEq]
  | _ :: _, [] => by simp [keysEq]
  | x :: xs, y :: ys => by
    rw [keysEq_cons]
    cases e : keyEq x y with
    | true =>
      have := keyEq_iff.mp e
      subst this
      simp [keysEq_iff]
    | false =>
      have : x ≠ y := fun q => by rw [keyEq_iff.mpr q] at e; cases e
      simp [this]
section
variable {M : Mo} {X : Cx} {c : Cf} {h : LHeap}
theorem keyOf_rv {v : Val} {x : V} {k : Key} (r : RV M c v x) (e : keyOf v = some k) : x = kV k := by
  cases r with
  | int i => cases e; rfl
  | str s => cases e; rfl
  | _ => cases e
theorem keysOf_rv : ∀ {vs : List Val} {xs : List V} {ks : List Key}, RVs M c vs xs → keysOf vs = some ks → xs = ks.map kV
  | _, _, _, .nil, e => by cases e; rfl
  | v :: vs, x :: xs, ks, .cons r t, e => by
    obtain ⟨k, ks', q, q2, rfl⟩ := mapOpt_cons (show mapOpt keyOf (v :: vs) = some ks from e)
    rw [keyOf_rv r q, keysOf_rv t (show keysOf vs = some ks' from q2)]
    rfl
def RVo (M : Mo) (c : Cf) : Option Val → Option V → Prop
  | some v, some x => RV M c v x
  | none, none => True
  | _, _ => False
theorem lookK_rv {k : Key} : ∀ {kvs : List (Key × Val)} {ys : List (Key × V)}, RK Key M c kvs ys → RVo M c (lookK k kvs) (valV ys k)
  | _, _, .nil => True.intro
  | _, _, @RK.cons _ _ _ k' x y xs ys r t => by
    have ih := lookK_rv (k := k) t
    rw [lookK_cons]
    cases e : keyEq k' k with
    | true =>
      rw [valV_pos (p := (k', y)) (keyEq_iff.mp e)]
      simp only [e]
      exact r
    | false =>
      have ne : ¬ (k', y).1 = k := fun q => by rw [keyEq_iff.mpr q] at e; cases e
      rw [valV_neg ne]
      simp only [e]
      exact ih
theorem lookT_rv {k : List Key} : ∀ {kvs : List (List Key × Val)} {ys : List (List Key × V)}, RK (List Key) M c kvs ys → RVo M c (lookT k kvs) (valV ys k)
  | _, _, .nil => True.intro
  | _, _, @RK.cons _ _ _ k' x y xs ys r t => by
    have ih := lookT_rv (k := k) t
    rw [lookT_cons]
    cases e : keysEq k' k with
    | true =>
      rw [valV_pos (p := (k', y)) (keysEq_iff.mp e)]
      simp only [e]
      exact r
    | false =>
      have ne : ¬ (k', y).1 = k := fun q => by rw [keysEq_iff.mpr q] at e; cases e
      rw [valV_neg ne]
      simp only [e]
      exact ih
theorem RK.snoc {κ : Type} {k : κ} {v : Val} {x : V} (rv : RV M c v x) : ∀ {kvs : List (κ × Val)} {ys : List (κ × V)}, RK κ M c kvs ys → RK κ M c (kvs ++ [(k, v)]) (ys ++ [(k, x)])
  | _, _, .nil => .cons rv .nil
  | _, _, .cons r t => .cons r (RK.snoc rv t)
theorem RK.length {κ : Type} : ∀ {kvs : List (κ × Val)} {ys : List (κ × V)}, RK κ M c kvs ys → kvs.length = ys.length
  | _, _, .nil => rfl
  | _, _, .cons r t => by simp [RK.length t]
theorem hasK_eq {k : Key} : ∀ {kvs : List (Key × Val)} {ys : List (Key × V)}, RK Key M c kvs ys → hasK k kvs = ys.any fun kv => decide (kv.1 = k)
  | _, _, .nil => rfl
  | _, _, @RK.cons _ _ _ k' x y xs ys r t => by
    rw [hasK_cons, List.any_cons, ← hasK_eq t]
    cases e : keyEq k' k with
    | true => simp [keyEq_iff.mp e]
    | false =>
      have ne : ¬ k' = k := fun q => by rw [keyEq_iff.mpr q] at e; cases e
      simp [ne]
theorem mapK_rv {k : Key} {v : Val} {x : V} (rv : RV M c v x) : ∀ {kvs : List (Key × Val)} {ys : List (Key × V)}, RK Key M c kvs ys → RK Key M c (mapK k v kvs) (ys.map fun kv => if kv.1 = k then (kv.1, x) else kv)
  | _, _, .nil => .nil
  | _, _, @RK.cons _ _ _ k' x' y xs ys r t => by
    unfold mapK
    rw [List.map_cons]
    cases e : keyEq k' k with
    | true =>
      simp only [e]
      rw [if_pos (keyEq_iff.mp e)]
      exact .cons rv (mapK_rv rv t)
    | false =>
      have ne : ¬ k' = k := fun q => by rw [keyEq_iff.mpr q] at e; cases e
      simp only [e]
      rw [if_neg ne]
      exact .cons r (mapK_rv rv t)
theorem putKV_rv {k : Key} {v : Val} {x : V} {kvs : List (Key × Val)} {ys : List (Key × V)} (rv : RV M c v x) (r : RK Key M c kvs ys) : RK Key M c (putKV k v kvs) (putK ys k x) := by
  unfold putKV putK
  rw [← hasK_eq r]
  cases e : hasK k kvs with
  | true => exact mapK_rv rv r
  | false => exact RK.snoc rv r
theorem hasT_eq {k : List Key} : ∀ {kvs : List (List Key × Val)} {ys : List (List Key × V)}, RK (List Key) M c kvs ys → hasT k kvs = ys.any fun kv => decide (kv.1 = k)
  | _, _, .nil => rfl
  | _, _, @RK.cons _ _ _ k' x y xs ys r t => by
    rw [hasT_cons, List.any_cons, ← hasT_eq t]
    cases e : keysEq k' k with
    | true => simp [keysEq_iff.mp e]
    | false =>
      have ne : ¬ k' = k := fun q => by rw [keysEq_iff.mpr q] at e; cases e
      simp [ne]
theorem mapT_rv {k : List Key} {v : Val} {x : V} (rv : RV M c v x) : ∀ {kvs : List (List Key × Val)} {ys : List (List Key × V)}, RK (List Key) M c kvs ys → RK (List Key) M c (mapT k v kvs) (ys.map fun kv => if kv.1 = k then (kv.1, x) else kv)
  | _, _, .nil => .nil
  | _, _, @RK.cons _ _ _ k' x' y xs ys r t => by
    unfold mapT
    rw [List.map_cons]
    cases e : keysEq k' k with
    | true =>
      simp only [e]
      rw [if_pos (keysEq_iff.mp e)]
      exact .cons rv (mapT_rv rv t)
    | false =>
      have ne : ¬ k' = k := fun q => by rw [keysEq_iff.mpr q] at e; cases e
      simp only [e]
      rw [if_neg ne]
      exact .cons r (mapT_rv rv t)
theorem putTV_rv {k : List Key} {v : Val} {x : V} {kvs : List (List Key × Val)} {ys : List (List Key × V)} (rv : RV M c v x) (r : RK (List Key) M c kvs ys) : RK (List Key) M c (putTV k v kvs) (putK ys k x) := by
  unfold putTV putK
  rw [← hasT_eq r]
  cases e : hasT k kvs with
  | true => exact mapT_rv rv r
  | false =>
    dsimp only
    rw [snoc_eq]
    exact RK.snoc rv r
theorem mergeL_rv {ps : List (Key × Val)} {qs : List (Key × V)} (r : RK Key M c ps qs) : ∀ {kvs : List (Key × Val)} {ys : List (Key × V)}, RK Key M c kvs ys → RK Key M c (mergeL kvs ps) (mergeK ys qs) := by
  induction r with
  | nil => intro kvs ys q; exact q
  | cons r t ih => intro kvs ys q; exact ih (putKV_rv r q)
/-- d[y] -/
theorem dget_rv {d y : Val} {x z : V} {o : Option Val} (R : RH M c h) (rd : RV M c d x) (ry : RV M c y z) (e : dget h d y = some o) : ∃ a o', x = .ref a ∧ DGet c.H a z o' ∧ RVo M c o o' := by
  cases rd with
  | @ref l hl =>
    unfold dget at e
    cases q : h.get l with
    | none => simp only [q] at e; cases e
    | some ob =>
      cases ob with
      | dK kvs =>
        simp only [q] at e
        cases qk : keyOf y with
        | none => simp only [qk] at e; cases e
        | some k =>
          simp only [qk] at e
          cases e
          obtain ⟨ys, h1, r1⟩ := R.dK q
          rw [keyOf_rv ry qk]
          exact ⟨_, _, rfl, DGet.k h1, lookK_rv r1⟩
      | dT kvs =>
        simp only [q] at e
        cases ry with
        | @tup us b zs ht rt =>
          cases qk : keysOf us with
          | none => simp only [qk] at e; cases e
          | some k =>
            simp only [qk] at e
            cases e
            obtain ⟨ys, h1, r1⟩ := R.dT q
            rw [keysOf_rv rt qk] at ht
            exact ⟨_, _, rfl, DGet.t h1 ht, lookT_rv r1⟩
        | _ => cases e
      | _ => simp only [q] at e; cases e
  | _ => cases e
/-! ### data -/
theorem toD_dp : ∀ (n : Nat) {v : Val} {x : V} {d : PyData}, RH M c h → RV M c v x → toD n h v = some d → Dp M.K c.H x d
  | 0, _, _, _, _, _, e => by cases e
  | n + 1, v, x, d, R, r, e => by
    have all : ∀ {vs : List Val} {xs : List V} {ds : List PyData}, RVs M c vs xs → mapOpt (toD n h) vs = some ds → DpAll M.K c.H xs ds := by
      intro vs
      induction vs with
      | nil => intro xs ds r e; cases r; cases e; exact .nil
      | cons v vs ih =>
        intro xs ds r e
        cases r with
        | cons r t =>
          obtain ⟨y, ys, q, q2, rfl⟩ := mapOpt_cons e
          exact .cons (toD_dp n R r q) (ih t q2)
    cases r with
    | non => cases e; exact .non
    | bl b => cases e; exact .bl b
    | int i => cases e; exact .int i
    | str s => cases e; exact .str s
    | @tup vs a ys ht r =>
      have e' : (match mapOpt (toD n h) vs with
        | some ds => some (PyData.tuple ds)
        | none => none) = some d := e
      cases q : mapOpt (toD n h) vs with
      | none => rw [q] at e'; cases e'
      | some ds =>
        rw [q] at e'
        cases e'
        exact .tup (SqT.of ht) (all r q)
    | @ref l hl =>
      have e' : (match h.get l with
        | some (.lst xs) => (match mapOpt (toD n h) xs with
          | some ds => some (PyData.list ds)
          | none => none)
        | some (.frz xs) => (match mapOpt (toD n h) xs with
          | some ds => some (PyData.list ds)
          | none => none)
        | _ => none) = some d := e
      cases q : h.get l with
      | none => rw [q] at e'; cases e'
      | some ob =>
        rw [q] at e'
        cases ob with
        | lst vs =>
          obtain ⟨ys, h1, r1⟩ := R.lst q
          have e2 : (match mapOpt (toD n h) vs with
            | some ds => some (PyData.list ds)
            | none => none) = some d := e'
          cases q2 : mapOpt (toD n h) vs with
          | none => rw [q2] at e2; cases e2
          | some ds =>
            rw [q2] at e2
            cases e2
            exact .lst (SqL.of h1) (all r1 q2)
        | frz vs =>
          obtain ⟨ys, h1, r1⟩ := R.frz q
          have e2 : (match mapOpt (toD n h) vs with
            | some ds => some (PyData.list ds)
            | none => none) = some d := e'
          cases q2 : mapOpt (toD n h) vs with
          | none => rw [q2] at e2; cases e2
          | some ds =>
            rw [q2] at e2
            cases e2
            exact .lst h1.sq (all r1 q2)
        | _ => cases e'
    | fn i => cases e
theorem toDs_dp (n : Nat) (R : RH M c h) : ∀ {vs : List Val} {xs : List V} {ds : List PyData}, RVs M c vs xs → mapOpt (toD n h) vs = some ds → DpAll M.K c.H xs ds
  | [], _, _, .nil, e => by cases e; exact .nil
  | v :: vs, _, ds, .cons r t, e => by
    obtain ⟨y, ys, q, q2, rfl⟩ := mapOpt_cons e
    exact .cons (toD_dp n R r q) (toDs_dp n R t q2)
theorem eqD_ok {a b : Val} {x y : V} {k : Bool} (R : RH M c h) (ra : RV M c a x) (rb : RV M c b y) (e : eqD h a b = some k) :
    ∃ d d', Dp M.K c.H x d ∧ Dp M.K c.H y d' ∧ SeqAt.shaped d = true ∧ SeqAt.shaped d' = true ∧ k = PyData.eqv d d' := by
  unfold eqD at e
  cases q1 : toD 66 h a with
  | none => rw [q1] at e; cases e
  | some d =>
    rw [q1] at e
    cases q2 : toD 66 h b with
    | none => rw [q2] at e; cases e
    | some d' =>
      rw [q2] at e
      have e' : (match SeqAt.shaped d && SeqAt.shaped d' with
        | true => some (PyData.eqv d d')
        | false => none) = some k := e
      cases q : SeqAt.shaped d && SeqAt.shaped d' with
      | false => rw [q] at e'; cases e'
      | true =>
        rw [q] at e'
        cases e'
        have q' := Bool.and_eq_true_iff.mp q
        exact ⟨d, d', toD_dp _ R ra q1, toD_dp _ R rb q2, q'.1, q'.2, rfl⟩
end
end Ev

set_option Elab.async false
set_option linter.all false
set_option maxRecDepth 100000
set_option maxHeartbeats 2000000
/-! Comparisons. -/
noncomputable section
namespace Ev
open PySem PySem.Spec PyProof.Rows L2
def COp.op : COp → CmpOp
  | .eq => .Eq
  | .ne => .NotEq
  | .lt => .Lt
  | .le => .LtE
  | .gt => .Gt
  | .ge => .GtE
  | .inn => .In
  | .nin => .NotIn
  | .isb => .Is
  | .nsb => .IsNot
def rCmp (M : Mo) (o : COp) : R2 := fun x y H Q => ∃ c h u v b, Has M c h H ∧ RV M c u x ∧ RV M c v y ∧ cmpOp o u v h = some b ∧ Q (.bl b) H
theorem natsLt_eq : ∀ (xs ys : List Nat), natsLt xs ys = decide (xs < ys)
  | [], [] => by simp [natsLt]
  | [], _ :: _ => by simp [natsLt]
  | _ :: _, [] => by simp [natsLt]
  | x :: xs, y :: ys => by
    unfold natsLt
    cases e : Nat.blt x y with
    | true =>
      have : x < y := blt_true e
      simp [List.cons_lt_cons_iff, this]
    | false =>
      have hn : ¬ x < y := fun q => by rw [show Nat.blt x y = true from Nat.ble_eq_true_of_le q] at e; cases e
      cases e2 : Nat.beq x y with
      | true =>
        have := Nat.eq_of_beq_eq_true e2
        subst this
        simp [List.cons_lt_cons_iff, natsLt_eq xs ys]
      | false =>
        have := Nat.ne_of_beq_eq_false e2
        simp [List.cons_lt_cons_iff, hn, this]
section
variable {M : Mo} {X : Cx} {c : Cf} {h : LHeap}
theorem eqVal_ok {a b : Val} {x y : V} {k : Bool} (R : RH M c h) (ra : RV M c a x) (rb : RV M c b y) (e : eqVal h a b = some k) :
    (scal x y = true ∧ k = decide (x = y)) ∨ ∃ d d', Dp M.K c.H x d ∧ Dp M.K c.H y d' ∧ SeqAt.shaped d = true ∧ SeqAt.shaped d' = true ∧ k = PyData.eqv d d' := by
  cases ra with
  | non =>
    cases rb with
    | non => cases e; exact .inl ⟨rfl, by simp⟩
    | bl j => cases e; exact .inl ⟨rfl, by simp⟩
    | int j => cases e; exact .inl ⟨rfl, by simp⟩
    | str j => cases e; exact .inl ⟨rfl, by simp⟩
    | tup hh r => exact .inr (eqD_ok R .non (.tup hh r) e)
    | ref hl => exact .inr (eqD_ok R .non (.ref hl) e)
    | fn i => exact .inr (eqD_ok R .non (.fn i) e)
  | bl i =>
    cases rb with
    | non => cases e; exact .inl ⟨rfl, by simp⟩
    | bl j =>
      have e' : some (decide (i = j)) = some k := e
      cases e'
      exact .inl ⟨rfl, by simp⟩
    | int j => exact .inr (eqD_ok R (.bl i) (.int j) e)
    | str j => cases e; exact .inl ⟨rfl, by simp⟩
    | tup hh r => exact .inr (eqD_ok R (.bl i) (.tup hh r) e)
    | ref hl => exact .inr (eqD_ok R (.bl i) (.ref hl) e)
    | fn j => exact .inr (eqD_ok R (.bl i) (.fn j) e)
  | int i =>
    cases rb with
    | non => cases e; exact .inl ⟨rfl, by simp⟩
    | bl j => exact .inr (eqD_ok R (.int i) (.bl j) e)
    | int j =>
      have e' : some (decide (i = j)) = some k := e
      cases e'
      exact .inl ⟨rfl, by simp⟩
    | str j => cases e; exact .inl ⟨rfl, by simp⟩
    | tup hh r => exact .inr (eqD_ok R (.int i) (.tup hh r) e)
    | ref hl => exact .inr (eqD_ok R (.int i) (.ref hl) e)
    | fn j => exact .inr (eqD_ok R (.int i) (.fn j) e)
  | str i =>
    cases rb with
    | non => cases e; exact .inl ⟨rfl, by simp⟩
    | bl j => cases e; exact .inl ⟨rfl, by simp⟩
    | int j => cases e; exact .inl ⟨rfl, by simp⟩
    | str j =>
      have e' : some (strEq i j) = some k := e
      cases e'
      exact .inl ⟨rfl, by rw [strEq_dec]; simp⟩
    | tup hh r => exact .inr (eqD_ok R (.str i) (.tup hh r) e)
    | ref hl => exact .inr (eqD_ok R (.str i) (.ref hl) e)
    | fn j => exact .inr (eqD_ok R (.str i) (.fn j) e)
  | tup hh r =>
    refine .inr (eqD_ok R (.tup hh r) rb ?_)
    cases rb <;> exact e
  | ref hl =>
    refine .inr (eqD_ok R (.ref hl) rb ?_)
    cases rb <;> exact e
  | fn i =>
    refine .inr (eqD_ok R (.fn i) rb ?_)
    cases rb <;> exact e
theorem flat_rv {v : Val} {x : V} (r : RV M c v x) (f : flat v = true) : flatV x = true := by
  cases r <;> first | rfl | cases f
theorem eqFlat_rv {v w : Val} {x y : V} (r : RV M c v x) (q : RV M c w y) (f : flat v = true) (g : flat w = true) : eqFlat v w = eqV x y := by
  cases r <;> cases q <;> first | rfl | (cases f; done) | (cases g; done) | exact strEq_beq
theorem allFlat_rv : ∀ {vs : List Val} {xs : List V}, RVs M c vs xs → allFlat vs = true → xs.all flatV = true
  | _, _, .nil, _ => rfl
  | v :: vs, _, .cons r t, f => by
    unfold allFlat at f
    cases q : flat v with
    | false => rw [q] at f; cases f
    | true =>
      rw [q] at f
      rw [List.all_cons, flat_rv r q, allFlat_rv t f]
      rfl
theorem anyEq_rv {v : Val} {x : V} (rx : RV M c v x) (fx : flat v = true) : ∀ {vs : List Val} {xs : List V}, RVs M c vs xs → allFlat vs = true → anyEq v vs = inV x xs
  | _, _, .nil, _ => rfl
  | w :: vs, _, @RVs.cons _ _ _ y _ ys r t, f => by
    unfold allFlat at f
    cases q : flat w with
    | false => rw [q] at f; cases f
    | true =>
      rw [q] at f
      have ih := anyEq_rv rx fx t f
      unfold anyEq inV
      rw [List.any_cons, eqFlat_rv r rx q fx]
      cases eqV y x with
      | true => rfl
      | false => exact ih
theorem anyEqv_eq (d : PyData) : ∀ ds : List PyData, anyEqv d ds = ds.any fun z => PyData.eqv z d
  | [] => rfl
  | e :: es => by
    unfold anyEqv
    rw [List.any_cons, anyEqv_eq d es]
    cases PyData.eqv e d <;> rfl
/-- list or tuple -/
theorem RH.items {v : Val} {x : V} {xs : List Val} (R : RH M c h) (r : RV M c v x) (e : items h v = some xs) : ∃ a ys, x = .ref a ∧ (SqL M.K c.H a ys ∨ SqT M.K c.H a ys) ∧ RVs M c xs ys ∧ (∀ ds, DpAll M.K c.H ys ds → Dp M.K c.H x (.list ds) ∨ Dp M.K c.H x (.tuple ds)) := by
  cases r with
  | @tup zs a ys hh r =>
    cases e
    exact ⟨a, ys, rfl, .inr (SqT.of hh), r, fun ds hd => .inr (.tup (SqT.of hh) hd)⟩
  | @ref l hl =>
    obtain ⟨a, ys, e1, h1, h2⟩ := R.itemsL (.ref hl) (show Ev.itemsL h (Val.ref l) = some xs from e)
    cases e1
    exact ⟨_, ys, rfl, .inl h1, h2, fun ds hd => .inl (.lst h1 hd)⟩
  | _ => cases e
theorem inDeep_ok {a b : Val} {x y : V} {vs : List Val} {k : Bool} (R : RH M c h) (ra : RV M c a x) (rb : RV M c b y) (ei : items h b = some vs) (e : inDeep h a vs = some k) :
    ∃ d ds, Dp M.K c.H x d ∧ (Dp M.K c.H y (.list ds) ∨ Dp M.K c.H y (.tuple ds)) ∧ SeqAt.shaped d = true ∧ SeqAt.shaped (.list ds) = true ∧ k = ds.any fun z => PyData.eqv z d := by
  unfold inDeep at e
  cases q1 : toD 66 h a with
  | none => rw [q1] at e; cases e
  | some d =>
    rw [q1] at e
    cases q2 : mapOpt (toD 65 h) vs with
    | none => simp only [q2] at e; cases e
    | some ds =>
      simp only [q2] at e
      cases q : SeqAt.shaped d && SeqAt.shaped (.list ds) with
      | false => rw [q] at e; cases e
      | true =>
        rw [q] at e
        cases e
        have q' := Bool.and_eq_true_iff.mp q
        obtain ⟨p, ys, ey, _, rvs, hd⟩ := R.items rb ei
        exact ⟨d, ds, toD_dp _ R ra q1, hd ds (toDs_dp _ R rvs q2), q'.1, q'.2, anyEqv_eq d ds⟩
theorem inVal_ok {a b : Val} {x y : V} {k : Bool} (R : RH M c h) (ra : RV M c a x) (rb : RV M c b y) (e : inVal h a b = some k) :
    (∃ (s : Nat) (z : Str), x = .str ⟨#[s]⟩ ∧ y = .str z ∧ k = decide (s ∈ z.cps.toList)) ∨
    (∃ p o, y = .ref p ∧ DGet c.H p x o ∧ k = o.isSome) ∨
    (∃ p xs, y = .ref p ∧ (SqL M.K c.H p xs ∨ SqT M.K c.H p xs) ∧ flatV x = true ∧ xs.all flatV = true ∧ k = inV x xs) ∨
    ∃ d ds, Dp M.K c.H x d ∧ (Dp M.K c.H y (.list ds) ∨ Dp M.K c.H y (.tuple ds)) ∧ SeqAt.shaped d = true ∧ SeqAt.shaped (.list ds) = true ∧ k = ds.any fun z => PyData.eqv z d := by
  have seq : ∀ {b : Val}, RV M c b y → (match isDict h b with
    | true => (match dget h b a with
      | some (some _) => some true
      | some none => some false
      | none => none)
    | false => match items h b with
      | none => none
      | some ys => match flat a && allFlat ys with
        | true => some (anyEq a ys)
        | false => inDeep h a ys) = some k →
      (∃ p o, y = .ref p ∧ DGet c.H p x o ∧ k = o.isSome) ∨
      (∃ p xs, y = .ref p ∧ (SqL M.K c.H p xs ∨ SqT M.K c.H p xs) ∧ flatV x = true ∧ xs.all flatV = true ∧ k = inV x xs) ∨
      ∃ d ds, Dp M.K c.H x d ∧ (Dp M.K c.H y (.list ds) ∨ Dp M.K c.H y (.tuple ds)) ∧ SeqAt.shaped d = true ∧ SeqAt.shaped (.list ds) = true ∧ k = ds.any fun z => PyData.eqv z d := by
    intro b rb e
    cases qd : isDict h b with
    | true =>
      simp only [qd] at e
      cases qg : dget h b a with
      | none => simp only [qg] at e; cases e
      | some o =>
        obtain ⟨p, o', ey, hg, ro⟩ := dget_rv R rb ra qg
        refine .inl ⟨p, o', ey, hg, ?_⟩
        cases o with
        | none =>
          simp only [qg] at e
          cases e
          cases o' with
          | none => rfl
          | some _ => exact ro.elim
        | some v =>
          simp only [qg] at e
          cases e
          cases o' with
          | none => exact ro.elim
          | some _ => rfl
    | false =>
      simp only [qd] at e
      cases qi : items h b with
      | none => simp only [qi] at e; cases e
      | some ys =>
        simp only [qi] at e
        cases qf : flat a && allFlat ys with
        | true =>
          simp only [qf] at e
          cases e
          have q' := Bool.and_eq_true_iff.mp qf
          obtain ⟨p, zs, ey, hs, rvs, _⟩ := R.items rb qi
          exact .inr (.inl ⟨p, zs, ey, hs, flat_rv ra q'.1, allFlat_rv rvs q'.2, anyEq_rv ra q'.1 rvs q'.2⟩)
        | false =>
          simp only [qf] at e
          exact .inr (.inr (inDeep_ok R ra rb qi e))
  cases rb with
  | str z =>
    cases ra with
    | str s =>
      have e' : (match s.cps.toList with
        | [c] => some (z.cps.toList.any fun d => Nat.beq d c)
        | _ => none) = some k := e
      cases q : s.cps.toList with
      | nil => rw [q] at e'; cases e'
      | cons d r =>
        cases r with
        | nil =>
          rw [q] at e'
          cases e'
          have es : s = ⟨#[d]⟩ := by
            obtain ⟨arr⟩ := s
            have : arr = #[d] := by simpa using congrArg List.toArray q
            rw [this]
          refine .inl ⟨d, z, by rw [es], rfl, ?_⟩
          have : ∀ l : List Nat, (l.any fun e => Nat.beq e d) = decide (d ∈ l) := by
            intro l
            induction l with
            | nil => rfl
            | cons e l ih =>
              rw [List.any_cons, ih]
              cases q : Nat.beq e d with
              | true =>
                have := Nat.eq_of_beq_eq_true q
                subst this
                simp
              | false =>
                have := Nat.ne_of_beq_eq_false q
                simp [Ne.symm this]
          exact this _
        | cons d2 r => rw [q] at e'; cases e'
    | _ => cases e
  | non => exact .inr (seq .non e)
  | bl j => exact .inr (seq (.bl j) e)
  | int j => exact .inr (seq (.int j) e)
  | tup hh r => exact .inr (seq (.tup hh r) e)
  | ref hl => exact .inr (seq (.ref hl) e)
  | fn i => exact .inr (seq (.fn i) e)
theorem room_in {A : Around} {d : PyData} {ds : List PyData} (sd : SeqAt.shaped d = true) (hu : A.units + 65 < cLine) : A.units + 1 + min (PyData.depthAll ds) d.depth < cLine := by
  have h1 := SeqAt.depth_of_shaped sd
  have h2 : min (PyData.depthAll ds) d.depth ≤ d.depth := Nat.min_le_right _ _
  omega
theorem optNot_some {o : Option Bool} {b : Bool} (e : optNot o = some b) : ∃ k, o = some k ∧ b = !k := by
  cases o with
  | none => cases e
  | some k => cases e; exact ⟨k, rfl, rfl⟩
theorem op_cmp (hK : X.K = M.K) (hu : X.A.units + 65 < cLine) (o : COp) : OpR X (compareOp o.op) (rCmp M o) := by
  intro pins s σ H x y v u Q I rx ry hr
  obtain ⟨c, h, a, b, k, ⟨rfl, R⟩, ra, rb, e, q⟩ := hr
  cases o with
  | eq =>
    rcases eqVal_ok R ra rb e with ⟨hs, rfl⟩ | ⟨d, d', h1, h2, s1, s2, rfl⟩
    · exact op_eq pins s σ _ _ _ v u Q I rx ry ⟨hs, q⟩
    · exact op_eqD (by omega) pins s σ _ _ _ v u Q I rx ry ⟨d, d', by rw [hK]; exact h1, by rw [hK]; exact h2, s1, s2, q⟩
  | ne =>
    obtain ⟨k', e', rfl⟩ := optNot_some e
    rcases eqVal_ok R ra rb e' with ⟨hs, rfl⟩ | ⟨d, d', h1, h2, s1, s2, rfl⟩
    · exact op_ne pins s σ _ _ _ v u Q I rx ry ⟨hs, q⟩
    · exact op_neD (by omega) pins s σ _ _ _ v u Q I rx ry ⟨d, d', by rw [hK]; exact h1, by rw [hK]; exact h2, s1, s2, q⟩
  | lt =>
    cases ra with
    | int i =>
      cases rb with
      | int j => cases e; exact op_lt pins s σ _ _ _ v u Q I rx ry ⟨i, j, rfl, rfl, q⟩
      | _ => cases e
    | str i =>
      cases rb with
      | str j =>
        cases e
        rw [natsLt_eq] at q
        exact op_lt_str pins s σ _ _ _ v u Q I rx ry ⟨i, j, rfl, rfl, q⟩
      | _ => cases e
    | _ => cases rb <;> cases e
  | le =>
    cases ra with
    | int i =>
      cases rb with
      | int j => cases e; exact op_le pins s σ _ _ _ v u Q I rx ry ⟨i, j, rfl, rfl, q⟩
      | _ => cases e
    | str i =>
      cases rb with
      | str j =>
        cases e
        rw [natsLt_eq] at q
        exact op_le_str pins s σ _ _ _ v u Q I rx ry ⟨i, j, rfl, rfl, q⟩
      | _ => cases e
    | _ => cases rb <;> cases e
  | gt =>
    cases ra with
    | int i =>
      cases rb with
      | int j => cases e; exact op_gt pins s σ _ _ _ v u Q I rx ry ⟨i, j, rfl, rfl, q⟩
      | _ => cases e
    | _ => cases rb <;> cases e
  | ge =>
    cases ra with
    | int i =>
      cases rb with
      | int j => cases e; exact op_ge pins s σ _ _ _ v u Q I rx ry ⟨i, j, rfl, rfl, q⟩
      | _ => cases e
    | _ => cases rb <;> cases e
  | inn =>
    rcases inVal_ok R ra rb e with ⟨n, z, rfl, rfl, rfl⟩ | ⟨p, o, rfl, hg, rfl⟩ | ⟨p, xs, rfl, hs, fx, fs, rfl⟩ | ⟨d, ds, h1, h2, s1, s2, rfl⟩
    · exact op_in_sign pins s σ _ _ _ v u Q I rx ry ⟨n, z, rfl, rfl, q⟩
    · obtain rfl : u = Value.ref p := ry
      exact d_in (by omega) I hg rx fun s3 I3 => ⟨.bl o.isSome, _, I3, rfl, q⟩
    · exact op_in_seq pins s σ _ _ _ v u Q I rx ry ⟨p, xs, rfl, by rw [hK]; exact hs, fx, fs, q⟩
    · obtain ⟨as, r1⟩ := Dp.reads I d x v (by rw [hK]; exact h1) rx
      rcases h2 with h2 | h2
      · obtain ⟨bs, r2⟩ := Dp.reads I (.list ds) y u (by rw [hK]; exact h2) ry
        exact SeqAt.in_list_reads r2 r1 (SeqAt.canLay_of_shaped s2) (SeqAt.canLay_of_shaped s1) (room_in s1 hu) ⟨.bl _, _, I, rfl, q⟩
      · obtain ⟨bs, r2⟩ := Dp.reads I (.tuple ds) y u (by rw [hK]; exact h2) ry
        exact SeqAt.in_tuple_reads r2 r1 (SeqAt.canLay_of_shaped s2) (SeqAt.canLay_of_shaped s1) (room_in s1 hu) ⟨.bl _, _, I, rfl, q⟩
  | nin =>
    obtain ⟨k', e', rfl⟩ := optNot_some e
    rcases inVal_ok R ra rb e' with ⟨n, z, rfl, rfl, rfl⟩ | ⟨p, o, rfl, hg, rfl⟩ | ⟨p, xs, rfl, hs, fx, fs, rfl⟩ | ⟨d, ds, h1, h2, s1, s2, rfl⟩
    · exact op_notInS pins s σ _ _ _ v u Q I rx ry ⟨n, z, rfl, rfl, q⟩
    · obtain rfl : u = Value.ref p := ry
      exact d_notIn (by omega) I hg rx fun s3 I3 => ⟨.bl (!o.isSome), _, I3, rfl, q⟩
    · exact op_notIn_seq pins s σ _ _ _ v u Q I rx ry ⟨p, xs, rfl, by rw [hK]; exact hs, fx, fs, q⟩
    · obtain ⟨as, r1⟩ := Dp.reads I d x v (by rw [hK]; exact h1) rx
      rcases h2 with h2 | h2
      · obtain ⟨bs, r2⟩ := Dp.reads I (.list ds) y u (by rw [hK]; exact h2) ry
        exact SeqAt.notIn_list_reads r2 r1 (SeqAt.canLay_of_shaped s2) (SeqAt.canLay_of_shaped s1) (room_in s1 hu) ⟨.bl _, _, I, rfl, q⟩
      · obtain ⟨bs, r2⟩ := Dp.reads I (.tuple ds) y u (by rw [hK]; exact h2) ry
        exact SeqAt.notIn_tuple_reads r2 r1 (SeqAt.canLay_of_shaped s2) (SeqAt.canLay_of_shaped s1) (room_in s1 hu) ⟨.bl _, _, I, rfl, q⟩
  | isb =>
    cases rb with
    | non =>
      refine op_isN pins s σ _ _ _ v u Q I rx ry ⟨rfl, ?_⟩
      cases ra <;> (cases e; exact q)
    | bl j =>
      cases ra with
      | bl i => cases e; exact op_is_bl pins s σ _ _ _ v u Q I rx ry ⟨i, j, rfl, rfl, q⟩
      | _ => cases e
    | _ => cases e
  | nsb =>
    cases rb with
    | non =>
      refine op_notN pins s σ _ _ _ v u Q I rx ry ⟨rfl, ?_⟩
      cases ra <;> (cases e; exact q)
    | bl j =>
      cases ra with
      | bl i => cases e; exact op_isnot_bl pins s σ _ _ _ v u Q I rx ry ⟨i, j, rfl, rfl, q⟩
      | _ => cases e
    | _ => cases e
end
end Ev

set_option Elab.async false
set_option linter.all false
set_option maxRecDepth 100000
set_option maxHeartbeats 2000000
/-! The checker: the program's syntax against the small language. -/
noncomputable section
namespace Ev
open PySem PySem.Spec PyProof.Rows L2

/-- the static side of a module -/
structure Md where
  fns : List (Option Nat × Str × Nat)
  clss : List Str
  consts : List (Str × Val)
  free : List Str
  excs : List (Str × List Str)
  lam : List (List Str) := []
  said : List Str := []
  gds : List Str := []
def look (ns : List (Str × NameKind)) (x : Str) : Option NameKind := match ns with
  | [] => none
  | p :: ps => match strEq x p.1 with
    | true => some p.2
    | false => look ps x
theorem look_eq : ∀ (ns : List (Str × NameKind)) (x : Str), look ns x = ns.lookup x
  | [], _ => rfl
  | (y, k) :: ps, x => by
    unfold look
    rw [List.lookup_cons, strEq_beq]
    cases x == y with
    | true => rfl
    | false => exact look_eq ps x
def isLc : Option NameKind → Bool
  | some .local => true
  | _ => false
def isLoc : Option NameKind → Bool
  | some .local => true
  | some .cell => true
  | _ => false
def isVis : Option NameKind → Bool
  | some .local => true
  | some .cell => true
  | some .free => true
  | _ => false
def isGl : Option NameKind → Bool
  | some .globalImplicit => true
  | _ => false
def nthS : List Str → Nat → Str → Bool
  | [], _, _ => false
  | y :: _, 0, x => strEq x y
  | _ :: ys, n + 1, x => nthS ys n x
theorem nthS_eq : ∀ {ys : List Str} {n : Nat} {x : Str}, nthS ys n x = true → ys[n]? = some x
  | [], _, _, h => by cases h
  | y :: _, 0, x, h => by
    have := strEq_iff.mp (show strEq x y = true from h)
    subst this
    rfl
  | _ :: ys, n + 1, x, h => by
    have := nthS_eq (show nthS ys n x = true from h)
    simpa using this
def sDebug : Str := "__debug__"
def sClassdict : Str := "__classdict__"
def sName : Str := "__name__"
def litEq : Const → Val → Bool
  | .none, .non => true
  | .bool a, .bl b => a == b
  | .int i, .int j => decide (i = j)
  | .str x, .str y => strEq x y
  | _, _ => false
def valEq : Val → Val → Bool
  | .non, .non => true
  | .bl a, .bl b => a == b
  | .int i, .int j => decide (i = j)
  | .str x, .str y => strEq x y
  | _, _ => false
def binEq : Operator → BOp → Bool
  | .Add, .add => true
  | .Sub, .sub => true
  | .Mult, .mul => true
  | .FloorDiv, .fdiv => true
  | .Mod, .mod => true
  | .Pow, .pow => true
  | _, _ => false
theorem binEq_ok {o : Operator} {b : BOp} (h : binEq o b = true) : o = b.op := by cases o <;> cases b <;> first | rfl | cases h
def cmpEq : CmpOp → COp → Bool
  | .Eq, .eq => true
  | .NotEq, .ne => true
  | .Lt, .lt => true
  | .LtE, .le => true
  | .Gt, .gt => true
  | .GtE, .ge => true
  | .In, .inn => true
  | .NotIn, .nin => true
  | .Is, .isb => true
  | .IsNot, .nsb => true
  | _, _ => false
theorem cmpEq_ok {o : CmpOp} {b : COp} (h : cmpEq o b = true) : o = b.op := by cases o <;> cases b <;> first | rfl | cases h
def notSet : Expr → Bool
  | .Set _ _ _ => false
  | _ => true
theorem notSet_mark {e : Expr} {o : CmpOp} (h : notSet e = true) : behindInMarks o e = false := by cases e <;> first | rfl | cases h
def notStar : Expr → Bool
  | .Starred _ _ => false
  | _ => true
theorem notStar_each {e : Expr} {es : List Expr} {env : Env} (h : notStar e = true) : starEach (e :: es) env = (false, eval e env) :: starEach es env := by
  cases e <;> first | (cases h; done) | rfl | simp [starEach]
def notComp : Expr → Bool
  | .ListComp _ _ _ _ => false
  | .SetComp _ _ _ _ => false
  | .DictComp _ _ _ _ _ => false
  | _ => true
def notCall0 : Expr → Bool
  | .Call (.Name x _) [] [] _ => !strEq x "super"
  | _ => true
def notSlice : Expr → Bool
  | .Slice _ _ _ _ => false
  | _ => true
def plainT : Expr → Bool
  | .UnaryOp .Not _ _ => false
  | .BoolOp _ _ _ => false
  | .IfExp _ _ _ _ => false
  | .Compare _ _ _ _ => false
  | _ => true
def biName : Bi → Str
  | .len => "len"
  | .all => "all"
  | .any => "any"
  | .max => "max"
  | .min => "min"
  | .int => "int"
  | .tuple => "tuple"
  | .list => "list"
  | .sum => "sum"
def tyName : Ty → Option Str
  | .int => some "int"
  | .str => some "str"
  | .tuple => some "tuple"
  | .list => some "list"
  | .bool => some "bool"
  | .dict => some "dict"
  | _ => none
def memS (x : Str) : List Str → Bool
  | [] => false
  | y :: ys => match strEq x y with
    | true => true
    | false => memS x ys
def memN (x : Nat) : List Nat → Bool
  | [] => false
  | y :: ys => match Nat.beq x y with
    | true => true
    | false => memN x ys
/-- a built-in's name, as it was booted -/
def freeN (md : Md) (sc : Scope) (x y : Str) : Bool := strEq x y && isGl (look sc.names x) && memS x md.free
def constIs (x : Str) (v : Val) : List (Str × Val) → Bool
  | [] => false
  | p :: ps => match strEq x p.1 && valEq p.2 v with
    | true => true
    | false => constIs x v ps
def fnIs (x : Str) (n : Nat) : List (Option Nat × Str × Nat) → Nat → Bool
  | [], _ => false
  | p :: _, 0 => (match p.1 with
    | none => strEq x p.2.1 && Nat.beq n p.2.2
    | some _ => false)
  | _ :: ps, f + 1 => fnIs x n ps f
/-- f is the method m of the class c, with n arguments behind self -/
def mthIs (c : Nat) (m : Str) (n : Nat) : List (Option Nat × Str × Nat) → Nat → Bool
  | [], _ => false
  | p :: _, 0 => (match p.1 with
    | some d => Nat.beq c d && strEq m p.2.1 && Nat.beq (n + 1) p.2.2
    | none => false)
  | _ :: ps, f + 1 => mthIs c m n ps f
def clsNm (x : Str) : List Str → Nat → Bool
  | [], _ => false
  | y :: _, 0 => strEq x y
  | _ :: ys, c + 1 => clsNm x ys c
def sInitN : Str := "__init__"
def excIs (x : Str) (n : Nat) : List (Str × List Str) → Nat → Bool
  | [], _ => false
  | p :: _, 0 => strEq x p.1 && Nat.beq n p.2.length
  | _ :: ps, f + 1 => excIs x n ps f
/-- the parameters of a lambda with one plain parameter -/
def keyPar (p : Arguments) (a : Str) : Bool := match p with
  | ⟨[], [x], none, [], [], none, []⟩ => strEq x.arg a
  | _ => false
def keySc (s : Scope) (a g : Str) : Bool := (match s.kind with
  | .function => true
  | _ => false) && !s.isCoroutine && !s.isGenerator && (s.names.all fun p => match p.2 with
  | .cell => false
  | .free => false
  | _ => true) && isLc (look s.names a) && isGl (look s.names g)
/-- a lambda that is called without arguments: no parameter, or one with a number as its default -/
def lamPar (p : Arguments) (scope : Scope) : Bool := match p with
  | ⟨[], [], none, [], [], none, []⟩ => true
  | ⟨[], [x], none, [], [], none, [.Constant (.int _) _ _]⟩ => strEq x.arg "_law_x" && isLc (look scope.names x.arg)
  | _ => false
/-- the names of such a lambda, made where sc's names are known -/
def lamPB (N : List Str) (sc scope : Scope) : Bool := (match scope.kind with
  | .function => true
  | _ => false) && !scope.isCoroutine && !scope.isGenerator && scope.names.all fun y => match y.2 with
  | .local => !memS y.1 N
  | .cell => false
  | .free => (match look sc.names y.1 with
    | some .cell => true
    | some .free => true
    | _ => false)
  | _ => true
/-- in, or not in -/
def opIn (op : CmpOp) (neg : Bool) : Bool := match op with
  | .In => !neg
  | .NotIn => neg
  | _ => false
structure Ck where
  l : Scope → Expr → E → Bool
  e : Scope → Expr → E → Bool
  t : Scope → Expr → E → Bool
  s : Scope → Stmt → S → Bool
section
variable (md : Md) (N : List Str) (rc : Ck)
def ckEs (sc : Scope) : List Expr → List E → Bool
  | [], [] => true
  | e :: es, m :: ms => notStar e && rc.e sc e m && ckEs sc es ms
  | _, _ => false
def ckEsS (sc : Scope) : List Expr → List (Bool × E) → Bool
  | [], [] => true
  | .Starred e _ :: es, (true, m) :: ms => rc.e sc e m && ckEsS sc es ms
  | e :: es, (false, m) :: ms => notStar e && rc.e sc e m && ckEsS sc es ms
  | _, _ => false
def ckOpt (sc : Scope) : Option Expr → Option E → Bool
  | none, none => true
  | some e, some m => rc.e sc e m
  | _, _ => false
def ckTgs (pk : Option NameKind → Bool) (sc : Scope) : List Expr → List Nat → Bool
  | [], [] => true
  | .Name x _ :: es, i :: is => nthS N i x && pk (look sc.names x) && ckTgs pk sc es is
  | _, _ => false
def ckTg (pk : Option NameKind → Bool) (sc : Scope) (e : Expr) (t : Tg) : Bool := match t with
  | .name i => (match e with
    | .Name x _ => nthS N i x && pk (look sc.names x)
    | _ => false)
  | .tup is => (match e with
    | .Tuple es _ _ => ckTgs N pk sc es is
    | _ => false)
def isTupE : Expr → Bool
  | .Tuple _ _ _ => true
  | _ => false
def ckIt (sc : Scope) (tg e : Expr) (it : It) : Bool := match it with
  | .val m => notSet e && rc.e sc e m
  | .rng1 ma => (match e with
    | .Call (.Name x _) [a] [] _ => freeN md sc x "range" && notStar a && rc.e sc a ma
    | _ => false)
  | .rng2 ma mb => (match e with
    | .Call (.Name x _) [a, b] [] _ => freeN md sc x "range" && notStar a && notStar b && rc.e sc a ma && rc.e sc b mb
    | _ => false)
  | .enum ma => (match e with
    | .Call (.Name x _) [a] [] _ => freeN md sc x "enumerate" && notStar a && rc.e sc a ma && isTupE tg
    | _ => false)
  | .zip ma mb => (match e with
    | .Call (.Name x _) [a, b] [] _ => freeN md sc x "zip" && notStar a && notStar b && rc.e sc a ma && rc.e sc b mb && isTupE tg
    | _ => false)
def ownOf (own : List Nat) : List (Str × Nat) := own.filterMap fun i => match N[i]? with
  | some x => some (x, i)
  | none => none
def tgIn (own : List Nat) : Tg → Bool
  | .name i => memN i own
  | .tup is => is.all fun i => memN i own
def ckKVs (sc : Scope) : List (Option Expr) → List Expr → List (Str × E) → Bool
  | [], [], [] => true
  | some (.Constant (.str x) _ _) :: ks, v :: vs, p :: ps => strEq x p.1 && rc.e sc v p.2 && ckKVs sc ks vs ps
  | some (.Name x _) :: ks, v :: vs, p :: ps => isGl (look sc.names x) && constIs x (.str p.1) md.consts && !strEq x sDebug && rc.e sc v p.2 && ckKVs sc ks vs ps
  | _, _, _ => false
def ckKE (sc : Scope) : List (Option Expr) → List Expr → List (E × E) → Bool
  | [], [], [] => true
  | some k :: ks, v :: vs, p :: ps => rc.e sc k p.1 && rc.e sc v p.2 && ckKE sc ks vs ps
  | _, _, _ => false
def ckE (sc : Scope) (e : Expr) (m : E) : Bool := match m with
  | .var i => (match e with
    | .Name x _ => nthS N i x && isVis (look sc.names x) && !strEq x sDebug && !strEq x sClassdict
    | .BoolOp _ [a] _ => rc.e sc a m
    | _ => false)
  | .lit v => (match e with
    | .Constant c _ _ => litEq c v
    | .BoolOp _ [a] _ => rc.e sc a m
    | _ => false)
  | .glb y v => (match e with
    | .Name x _ => strEq x y && isGl (look sc.names x) && constIs x v md.consts && !strEq x sDebug
    | .BoolOp _ [a] _ => rc.e sc a m
    | _ => false)
  | .bin o ma mb => (match e with
    | .BinOp a op b _ => binEq op o && rc.e sc a ma && rc.e sc b mb
    | .BoolOp _ [a] _ => rc.e sc a m
    | _ => false)
  | .neg ma => (match e with
    | .UnaryOp .USub a _ => rc.e sc a ma
    | .BoolOp _ [a] _ => rc.e sc a m
    | _ => false)
  | .cmp o ma mb => (match e with
    | .Compare a [op] [b] _ => cmpEq op o && notSet b && rc.e sc a ma && rc.e sc b mb
    | .BoolOp _ [a] _ => rc.e sc a m
    | _ => false)
  | .cmp2 o o' ma mb mc => (match e with
    | .Compare a [op, op'] [b, c] _ => cmpEq op o && cmpEq op' o' && notSet b && notSet c && rc.e sc a ma && rc.e sc b mb && rc.e sc c mc
    | .BoolOp _ [a] _ => rc.e sc a m
    | _ => false)
  | .and ma mb => (match e with
    | .BoolOp .And (a :: b :: rest) pos => rc.e sc a ma && rc.e sc (.BoolOp .And (b :: rest) pos) mb
    | .BoolOp _ [a] _ => rc.e sc a m
    | _ => false)
  | .or ma mb => (match e with
    | .BoolOp .Or (a :: b :: rest) pos => rc.e sc a ma && rc.e sc (.BoolOp .Or (b :: rest) pos) mb
    | .BoolOp _ [a] _ => rc.e sc a m
    | _ => false)
  | .not ma => (match e with
    | .UnaryOp .Not a _ => rc.e sc a ma
    | .BoolOp _ [a] _ => rc.e sc a m
    | _ => false)
  | .ife mc ma mb => (match e with
    | .IfExp c a b _ => rc.t sc c mc && rc.e sc a ma && rc.e sc b mb
    | .BoolOp _ [a] _ => rc.e sc a m
    | _ => false)
  | .tup ms => (match e with
    | .Tuple es _ _ => ckEs rc sc es ms
    | _ => false)
  | .lst ms => (match e with
    | .List es _ => ckEs rc sc es ms
    | _ => false)
  | .sub ma mi => (match e with
    | .Subscript a i _ => notSlice i && rc.e sc a ma && rc.e sc i mi
    | .BoolOp _ [a] _ => rc.e sc a m
    | _ => false)
  | .slc ma lo hi => (match e with
    | .Subscript a (.Slice l h none _) _ => rc.e sc a ma && ckOpt rc sc l lo && ckOpt rc sc h hi
    | _ => false)
  | .rev ma => (match e with
    | .Subscript a (.Slice none none (some (.UnaryOp .USub (.Constant (.int 1) _ _) _)) _) _ => rc.e sc a ma
    | _ => false)
  | .call f ms => (match e with
    | .Call (.Name x _) es [] _ => fnIs x ms.length md.fns f && isGl (look sc.names x) && !strEq x sDebug && ckEs rc sc es ms
    | .BoolOp _ [a] _ => rc.e sc a m
    | _ => false)
  | .pcall f ms => (match e with
    | .Call (.Name x _) es [] _ => fnIs x ms.length md.fns f && isGl (look sc.names x) && !strEq x sDebug && ckEs rc sc es ms
    | .BoolOp _ [a] _ => rc.e sc a m
    | _ => false)
  | .bi b ms => (match e with
    | .Call (.Name x _) (a :: as) [] _ => freeN md sc x (biName b) && ckEs rc sc (a :: as) ms
    | .BoolOp _ [a] _ => rc.e sc a m
    | _ => false)
  | .isi ma t => (match e with
    | .Call (.Name x _) [a, .Name y _] [] _ => freeN md sc x "isinstance" && notStar a && rc.e sc a ma && (match tyName t with
      | some z => freeN md sc y z
      | none => false)
    | .BoolOp _ [a] _ => rc.e sc a m
    | _ => false)
  | .comp own tg it c elt => (match e with
    | .ListComp el [⟨t, i, ifs, 0⟩] scope _ => ckIt md rc sc t i it && ckTg N isLoc scope t tg && tgIn own tg && blkC N sc scope (ownOf N own) && decide ((ownOf N own).map (·.2) = own) &&
        (match c, ifs with
          | none, [] => true
          | some mc, [cc] => rc.t (relS scope sc) cc mc
          | _, _ => false) && rc.e (relS scope sc) el elt
    | _ => false)
  | .dsp kvs => (match e with
    | .Dict ks vs _ => ckKVs md rc sc ks vs kvs && Nat.ble 1 ks.length && Nat.ble ks.length 15
    | _ => false)
  | .dnewK => (match e with
    | .Dict [] [] _ => true
    | _ => false)
  | .dnewT => (match e with
    | .Dict [] [] _ => true
    | _ => false)
  | .dzip ma mb => (match e with
    | .Call (.Name x _) [.Call (.Name y _) [a, b] [] _] [] _ => freeN md sc x "dict" && freeN md sc y "zip" && notStar a && notStar b && rc.e sc a ma && rc.e sc b mb
    | _ => false)
  | .get1 md' mk => (match e with
    | .Call (.Attribute o x ap) [k] [] cp => strEq x "get" && notStar k && notCall0 o && (ap.endLine == cp.line) && rc.e sc o md' && rc.e sc k mk
    | _ => false)
  | .app ml me => (match e with
    | .Call (.Attribute o x ap) [k] [] cp => strEq x "append" && notStar k && notCall0 o && (ap.endLine == cp.line) && rc.e sc o ml && rc.e sc k me
    | _ => false)
  | .fld mo f => (match e with
    | .Attribute o x _ => strEq x f && notCall0 o && rc.e sc o mo
    | .BoolOp _ [a] _ => rc.e sc a m
    | _ => false)
  | .meth c f x mo ms => (match e with
    | .Call (.Attribute o y ap) es [] cp => strEq x y && mthIs c x ms.length md.fns f && notCall0 o && (ap.endLine == cp.line) && Nat.blt es.length 25 && rc.e sc o mo && ckEs rc sc es ms
    | .BoolOp _ [a] _ => rc.e sc a m
    | _ => false)
  | .dcomp own tg it c mk mv => (match e with
    | .DictComp ke ve [⟨t, i, ifs, 0⟩] scope _ => ckIt md rc sc t i it && ckTg N isLoc scope t tg && tgIn own tg && blkC N sc scope (ownOf N own) && decide ((ownOf N own).map (·.2) = own) &&
        (match c, ifs with
          | none, [] => true
          | some mc, [cc] => rc.t (relS scope sc) cc mc
          | _, _ => false) && rc.e (relS scope sc) ke mk && rc.e (relS scope sc) ve mv
    | _ => false)
  | .comp2 own own1 tg it c tg1 it1 c1 elt => (match e with
    | .ListComp el [⟨t, i, ifs, 0⟩, ⟨t1, i1, ifs1, 0⟩] scope _ => ckIt md rc sc t i it && ckTg N isLoc scope t tg && tgIn own tg && tgIn own1 tg1 && own1.all (fun j => memN j own) && blkC N sc scope (ownOf N own) && decide ((ownOf N own).map (·.2) = own) &&
        (match c, ifs with
          | none, [] => true
          | some mc, [cc] => rc.t (relS scope sc) cc mc
          | _, _ => false) && ckIt md rc (relS scope sc) t1 i1 it1 && ckTg N isLoc scope t1 tg1 &&
        (match c1, ifs1 with
          | none, [] => true
          | some mc, [cc] => rc.t (relS scope sc) cc mc
          | _, _ => false) && rc.e (relS scope sc) el elt
    | _ => false)
  | .tupS ms => (match e with
    | .Tuple es _ _ => ckEsS rc sc es ms
    | _ => false)
  | .rpr ma => (match e with
    | .Call (.Name x _) [a] [] _ => freeN md sc x "repr" && notStar a && rc.e sc a ma
    | .BoolOp _ [a] _ => rc.e sc a m
    | _ => false)
  | .idx ml me => (match e with
    | .Call (.Attribute o x ap) [k] [] cp => strEq x "index" && notStar k && notCall0 o && (ap.endLine == cp.line) && rc.e sc o ml && rc.e sc k me
    | _ => false)
  | .lrng tp ma mb => (match e with
    | .Call (.Name y _) [.Call (.Name x _) as [] _] [] _ => freeN md sc y (match tp with
        | true => "tuple"
        | false => "list") && freeN md sc x "range" && (match ma, as with
        | none, [b] => notStar b && rc.e sc b mb
        | some ma, [a, b] => notStar a && notStar b && rc.e sc a ma && rc.e sc b mb
        | _, _ => false)
    | _ => false)
  | .srtK ma => (match e with
    | .Call (.Name x _) [a] [⟨some kw, .Lambda params (.Tuple [.Call (.Name l _) [.Name a1 _] [] _, .Name a2 _] _ _) scope _, _⟩] _ => memLL N md.lam && freeN md sc x "sorted" && memS "len" md.free && notStar a && strEq kw "key" && strEq l "len" && strEq a1 a2 && !strEq a1 sDebug && keyPar params a1 && keySc scope a1 "len" && rc.e sc a ma
    | _ => false)
  | .gsub j mi => (match e with
    | .Subscript (.Name g _) i _ => nthS md.gds j g && isGl (look sc.names g) && !strEq g sDebug && notSlice i && rc.e sc i mi
    | _ => false)
  | .gin neg j ma => (match e with
    | .Compare a [op] [.Name g _] _ => opIn op neg && nthS md.gds j g && isGl (look sc.names g) && !strEq g sDebug && rc.e sc a ma
    | _ => false)
  | .join ma mb => (match e with
    | .Call (.Attribute o x ap) [k] [] cp => strEq x "join" && notStar k && notCall0 o && (ap.endLine == cp.line) && rc.e sc o ma && rc.e sc k mb
    | _ => false)
  | .dspE kvs => (match e with
    | .Dict ks vs _ => ckKE rc sc ks vs kvs && Nat.ble 1 ks.length && Nat.ble ks.length 15
    | _ => false)
  | .said j mb => (match e with
    | .Call (.Name x _) [.Lambda params body scope _] [] _ => nthS md.said j x && isGl (look sc.names x) && !strEq x sDebug && memLL N md.lam && lamPar params scope && lamPB N sc scope && rc.l scope body mb
    | _ => false)
  | .srt ma => (match e with
    | .Call (.Name x _) [a] [] _ => freeN md sc x "sorted" && notStar a && rc.e sc a ma
    | _ => false)
  | .dspT mk mv => (match e with
    | .Dict [some k] [v] _ => rc.e sc k mk && rc.e sc v mv
    | _ => false)
  | .ext ml me => (match e with
    | .Call (.Attribute o x ap) [k] [] cp => strEq x "extend" && notStar k && notCall0 o && (ap.endLine == cp.line) && rc.e sc o ml && rc.e sc k me
    | _ => false)
  | .pop ml => (match e with
    | .Call (.Attribute o x ap) [] [] cp => strEq x "pop" && notCall0 o && (ap.endLine == cp.line) && rc.e sc o ml
    | _ => false)
  | .popAt ml me => (match e with
    | .Call (.Attribute o x ap) [k] [] cp => strEq x "pop" && notStar k && notCall0 o && (ap.endLine == cp.line) && rc.e sc o ml && rc.e sc k me
    | _ => false)
  | .vals mo => (match e with
    | .Call (.Name y _) [.Call (.Attribute o x ap) [] [] cp] [] _ => freeN md sc y "list" && strEq x "values" && notCall0 o && (ap.endLine == cp.line) && rc.e sc o mo
    | _ => false)
  | .make c f ms => (match e with
    | .Call (.Name x _) es [] _ => clsNm x md.clss c && mthIs c sInitN ms.length md.fns f && isGl (look sc.names x) && !strEq x sDebug && ckEs rc sc es ms
    | _ => false)
def ckT (sc : Scope) (e : Expr) (m : E) : Bool := match e with
  | .BoolOp .And (a :: b :: rest) pos => (match m with
    | .and ma mb => rc.t sc a ma && rc.t sc (.BoolOp .And (b :: rest) pos) mb
    | _ => false)
  | .BoolOp .Or (a :: b :: rest) pos => (match m with
    | .or ma mb => rc.t sc a ma && rc.t sc (.BoolOp .Or (b :: rest) pos) mb
    | _ => false)
  | .BoolOp _ [a] _ => rc.t sc a m
  | .UnaryOp .Not a _ => (match m with
    | .not ma => rc.t sc a ma
    | _ => false)
  | .Compare a [op] [b] _ => (match m with
    | .cmp o ma mb => cmpEq op o && notSet b && rc.e sc a ma && rc.e sc b mb
    | .gin neg j ma => opIn op neg && (match b with
      | .Name g _ => nthS md.gds j g && isGl (look sc.names g) && !strEq g sDebug && rc.e sc a ma
      | _ => false)
    | _ => false)
  | .Compare a [op, op'] [b, c] _ => (match m with
    | .cmp2 o o' ma mb mc => cmpEq op o && cmpEq op' o' && notSet b && notSet c && rc.e sc a ma && rc.e sc b mb && rc.e sc c mc
    | _ => false)
  | e => plainT e && (match m with
    | .and _ _ => false
    | .or _ _ => false
    | .not _ => false
    | m => rc.e sc e m)
end
end Ev

set_option Elab.async false
set_option linter.all false
set_option maxRecDepth 100000
set_option maxHeartbeats 2000000
/-! Expressions, one construct at a time. -/
noncomputable section
namespace Ev
open PySem PySem.Spec PyProof.Rows L2

structure Gd (M : Mo) (X : Cx) (N : List Str) (sc : Scope) (k : Nat) (W : WX) : Prop where
  hP : X.prog = M.P
  hw : X.w = M.w
  hK : X.K = M.K
  hmg : X.mg = M.mg
  hbase : X.base = M.base
  hN : X.N = N
  nd : N.Nodup
  hsc : X.env.scope = sc
  kd : sc.kind = .function
  calm : X.calm = true
  room : Room (k + 1) X.A
  gu : X.A.guards = some []
  tk : Takes X W
  lam : memLL N M.lam = true → LamAt M X ∧ Room (k + 3) X.A
structure MdOk (M : Mo) (md : Md) : Prop where
  free : ∀ x, memS x md.free = true → M.mg x = none
  const : ∀ x v, constIs x v md.consts = true → ∃ u y, M.mg x = some u ∧ RelV y u ∧ ∀ c, RV M c v y
section
variable {M : Mo} {X : Cx} {N : List Str} {sc : Scope} {k : Nat} {W : WX} {md : Md} {cl : Cl} {calls : Nat → List Val → LHeap → Res Val} {rc : Rec} {pos : Pos}
theorem PE.of {e : Expr} {t t' : TE} (h : PE X e t) (hi : ∀ σ H Q, t' σ H Q → t σ H Q) : PE X e t' := ⟨fun pins s σ H Q I q => h.run pins s σ H Q I (hi σ H Q q)⟩
theorem PT.of {e : Expr} {t t' : TT} (h : PT X e t) (hi : ∀ σ H Q, t' σ H Q → t σ H Q) : PT X e t' := ⟨fun pins s σ H Q I q => h.run pins s σ H Q I (hi σ H Q q)⟩
theorem PW.of {e : Expr} {t t' : TT} (h : PW X e t) (hi : ∀ σ H Q, t' σ H Q → t σ H Q) : PW X e t' := ⟨fun wh pins s σ H Q I q => h.run wh pins s σ H Q I (hi σ H Q q)⟩
theorem PA.of {es : List Expr} {t t' : TA} (h : PA X es t) (hi : ∀ σ H Q, t' σ H Q → t σ H Q) : PA X es t' := ⟨fun p pins s σ H Q I q => h.run p pins s σ H Q I (hi σ H Q q)⟩
theorem PE.bad {e : Expr} {m : LSt → LHeap → Res Val} (h : ∀ s hh, m s hh = .bad) : PE X e (tEv M W m) := ⟨fun pins s σ H Q I q => by
  obtain ⟨c, s, hh, a, g⟩ := q
  rw [h] at g
  exact g.elim⟩
theorem PT.bad {e : Expr} {m : LSt → LHeap → Res Bool} (h : ∀ s hh, m s hh = .bad) : PT X e (tEvT M W m) := ⟨fun pins s σ H Q I q => by
  obtain ⟨c, s, hh, a, g⟩ := q
  rw [h] at g
  exact g.elim⟩
theorem PW.bad {e : Expr} {m : LSt → LHeap → Res Bool} (h : ∀ s hh, m s hh = .bad) : PW X e (tEvT M W m) := ⟨fun wh pins s σ H Q I q => by
  obtain ⟨c, s, hh, a, g⟩ := q
  rw [h] at g
  exact g.elim⟩
/-! ### names -/
theorem Gd.vis (G : Gd M X N sc k W) {x : Str} (h : isVis (look sc.names x) = true) : Vis X.env.scope x := by
  rw [G.hsc]
  rw [look_eq] at h
  show sc.names.lookup x = _ ∨ _
  cases e : sc.names.lookup x with
  | none => rw [e] at h; cases h
  | some kd =>
    rw [e] at h
    cases kd <;> first | exact .inl rfl | exact .inr (.inl rfl) | exact .inr (.inr rfl) | cases h
theorem Gd.loc (G : Gd M X N sc k W) {x : Str} (h : isLoc (look sc.names x) = true) : L2.Loc X.env.scope x := by
  rw [G.hsc]
  rw [look_eq] at h
  show sc.names.lookup x = _ ∨ _
  cases e : sc.names.lookup x with
  | none => rw [e] at h; cases h
  | some kd =>
    rw [e] at h
    cases kd <;> first | exact .inl rfl | exact .inr rfl | cases h
theorem Gd.gl (G : Gd M X N sc k W) {x : Str} (h : isGl (look sc.names x) = true) : Gl X x := by
  rw [look_eq] at h
  show X.env.scope.names.lookup x = _
  rw [G.hsc]
  cases e : sc.names.lookup x with
  | none => rw [e] at h; cases h
  | some kd =>
    rw [e] at h
    cases kd <;> first | rfl | cases h
/-- the names that may be stored to -/
def FnP (X : Cx) (sc : Scope) (pk : Option NameKind → Bool) : Prop := ∀ x, pk (look sc.names x) = true → L2.Loc X.env.scope x ∧ (X.fn x = true ∨ X.env.scope.names.lookup x = some .local)
theorem Gd.lc (G : Gd M X N sc k W) : FnP X sc isLc := fun x h => by
  rw [look_eq] at h
  have : X.env.scope.names.lookup x = some .local := by
    rw [G.hsc]
    cases e : sc.names.lookup x with
    | none => rw [e] at h; cases h
    | some kd => rw [e] at h; cases kd <;> first | rfl | cases h
  exact ⟨.inl this, .inr this⟩
theorem not_eq {x y : Str} (h : (!strEq x y) = true) : (x == y) = false := by
  rw [← strEq_beq]
  cases e : strEq x y with
  | true => rw [e] at h; cases h
  | false => rfl
/-- a free built-in name -/
theorem Gd.free (G : Gd M X N sc k W) (D : MdOk M md) {x y : Str} (h : freeN md sc x y = true) : x = y ∧ Gl X x ∧ X.mg x = none := by
  unfold freeN at h
  simp only [Bool.and_eq_true] at h
  exact ⟨strEq_iff.mp h.1.1, G.gl h.1.2, by rw [G.hmg]; exact D.free x h.2⟩
theorem se_var (G : Gd M X N sc k W) {x : Str} {i : Nat} (h : nthS N i x = true) (hv : isVis (look sc.names x) = true) (hd : (!strEq x sDebug) = true) (hc : (!strEq x sClassdict) = true) : PE X (.Name x pos) (tEv M W (stepE cl calls rc (.var i))) := by
  refine PE.of (pe_var (i := i) (by rw [G.hN]; exact nthS_eq h) (G.vis hv) (not_eq hd) (not_eq hc)) fun σ H Q q => ?_
  obtain ⟨c, s, hh, ⟨rfl, R, S⟩, g⟩ := q
  have g' : Go M c (RV M) (optR (getV s i) hh) Q _ := g
  cases e : getV s i with
  | none => rw [e] at g'; exact g'.elim
  | some v =>
    rw [e] at g'
    obtain ⟨u, e1, r⟩ := S.at_ i v e
    exact ⟨u, e1, go_val R r g'⟩
theorem se_lit {cst : Const} {j : Nat} {v : Val} (h : litEq cst v = true) : PE X (.Constant cst j pos) (tEv M W (stepE cl calls rc (.lit v))) := by
  cases cst <;> cases v <;> first | (cases h; done) | skip
  · exact PE.of pe_non fun σ H Q ⟨c, s, hh, ⟨e, R, S⟩, g⟩ => by subst e; exact go_val (RR := RV M) R .non g
  · rename_i a b
    have e : a = b := by simpa [litEq] using h
    subst e
    exact PE.of pe_bl fun σ H Q ⟨c, s, hh, ⟨e, R, S⟩, g⟩ => by subst e; exact go_val (RR := RV M) R (.bl _) g
  · rename_i a b
    have e : a = b := by simpa [litEq] using h
    subst e
    exact PE.of pe_int fun σ H Q ⟨c, s, hh, ⟨e, R, S⟩, g⟩ => by subst e; exact go_val (RR := RV M) R (.int _) g
  · rename_i a b
    have e : a = b := strEq_iff.mp h
    subst e
    exact PE.of pe_str fun σ H Q ⟨c, s, hh, ⟨e, R, S⟩, g⟩ => by subst e; exact go_val (RR := RV M) R (.str _) g
theorem se_glb (G : Gd M X N sc k W) (D : MdOk M md) {x y : Str} {v : Val} (hg : isGl (look sc.names x) = true) (hc : constIs x v md.consts = true) (hd : (!strEq x sDebug) = true) : PE X (.Name x pos) (tEv M W (stepE cl calls rc (.glb y v))) := by
  obtain ⟨u, z, e1, r, hr⟩ := D.const x v hc
  exact PE.of (pe_glob (G.gl hg) (by rw [G.hmg]; exact e1) r (not_eq hd)) fun σ H Q ⟨c, s, hh, ⟨e, R, S⟩, g⟩ => by subst e; exact go_val (RR := RV M) R (hr c) g
/-! ### operators -/
theorem se_bin (G : Gd M X N sc k W) {a b : Expr} {o : BOp} {ma mb : E} (ha : PE X a (tEv M W (rc.e ma))) (hb : PE X b (tEv M W (rc.e mb))) : PE X (.BinOp a o.op b pos) (tEv M W (stepE cl calls rc (.bin o ma mb))) :=
  PE.of (pe_op (op_bin G.hK o) ha hb) fun σ H Q ⟨c, s, hh, ⟨e, R, S⟩, g⟩ => by
    subst e
    exact ⟨c, s, hh, ⟨rfl, R, S⟩, Go.bind g fun x h1 c1 bx e1 R1 rx g1 => ⟨c1, s, h1, ⟨rfl, R1, S.ext e1⟩, Go.bind g1 fun y h2 c2 b_y e2 R2 ry g2 => ⟨c2, h2, x, y, _, ⟨rfl, R2⟩, rx.ext e2, ry, g2⟩⟩⟩
theorem se_neg {a : Expr} {ma : E} (ha : PE X a (tEv M W (rc.e ma))) : PE X (.UnaryOp .USub a pos) (tEv M W (stepE cl calls rc (.neg ma))) :=
  PE.of (pe_un un_neg ha) fun σ H Q ⟨c, s, hh, ⟨e, R, S⟩, g⟩ => by
    subst e
    refine ⟨c, s, hh, ⟨rfl, R, S⟩, Go.bind g fun x h1 c1 bx e1 R1 rx g1 => ?_⟩
    cases rx with
    | int i => exact ⟨i, rfl, go_val (RR := RV M) R1 (.int _) g1⟩
    | _ => exact g1.elim
theorem Gd.un (G : Gd M X N sc k W) : X.A.units + 65 < cLine := by have := G.room.un; omega
theorem optR_go {α β : Type} {c : Cf} {RR : Cf → α → β → Prop} {o : Option α} {h : LHeap} {Q : β → Hp → Prop} {E : XK} (g : Go M c RR (optR o h) Q E) : ∃ a, o = some a ∧ Go M c RR (.ok a h) Q E := by
  cases o with
  | none => exact g.elim
  | some a => exact ⟨a, rfl, g⟩
theorem cmp_read (G : Gd M X N sc k W) {o : COp} {ma mb : E} {σ : St} {H : Hp} {Q : VK} (h : tEv M W (stepE cl calls rc (.cmp o ma mb)) σ H Q) : tOp (rCmp M o) (tEv M W (rc.e ma)) (tEv M W (rc.e mb)) σ H Q := by
    obtain ⟨c, s, hh, ⟨e, R, S⟩, g⟩ := h
    subst e
    refine ⟨c, s, hh, ⟨rfl, R, S⟩, Go.bind g fun x h1 c1 bx e1 R1 rx g1 => ⟨c1, s, h1, ⟨rfl, R1, S.ext e1⟩, Go.bind g1 fun y h2 c2 b_y e2 R2 ry g2 => ?_⟩⟩
    cases q : cmpOp o x y h2 with
    | none => rw [q] at g2; exact g2.elim
    | some bb =>
      rw [q] at g2
      exact ⟨c2, h2, x, y, bb, ⟨rfl, R2⟩, rx.ext e2, ry, q, go_val (RR := RV M) R2 (.bl bb) g2⟩
theorem se_cmp (G : Gd M X N sc k W) {a b : Expr} {o : COp} {ma mb : E} (hs : notSet b = true) (ha : PE X a (tEv M W (rc.e ma))) (hb : PE X b (tEv M W (rc.e mb))) : PE X (.Compare a [o.op] [b] pos) (tEv M W (stepE cl calls rc (.cmp o ma mb))) :=
  PE.of (pe_cmpR (op_cmp G.hK G.un o) ha hb (notSet_mark hs)) fun σ H Q h => cmp_read G h
theorem lastMarks_ok {o o' : CmpOp} {b c : Expr} (h : notSet c = true) : lastMarks [o, o'] [b, c] = false := notSet_mark h
theorem cmp2_read (G : Gd M X N sc k W) {o o' : COp} {ma mb mc : E} {σ : St} {H : Hp} {Q : VK} (h : tEv M W (stepE cl calls rc (.cmp2 o o' ma mb mc)) σ H Q) : tChain (rCmp M o) (rCmp M o') (tEv M W (rc.e ma)) (tEv M W (rc.e mb)) (tEv M W (rc.e mc)) σ H Q := by
    obtain ⟨c, s, hh, ⟨e, R, S⟩, g⟩ := h
    subst e
    refine ⟨c, s, hh, ⟨rfl, R, S⟩, Go.bind g fun x h1 c1 bx e1 R1 rx g1 => ⟨c1, s, h1, ⟨rfl, R1, S.ext e1⟩, Go.bind g1 fun y h2 c2 b_y e2 R2 ry g2 => ?_⟩⟩
    cases q : cmpOp o x y h2 with
    | none => rw [q] at g2; exact g2.elim
    | some bb =>
      rw [q] at g2
      refine ⟨c2, h2, x, y, bb, ⟨rfl, R2⟩, rx.ext e2, ry, q, bb, rfl, ?_⟩
      cases bb with
      | false => exact go_val (RR := RV M) R2 (.bl false) g2
      | true =>
        rw [if_pos rfl]
        refine ⟨c2, s, h2, ⟨rfl, R2, (S.ext e1).ext e2⟩, Go.bind (r := rc.e mc s h2) g2 fun z h4 c4 bz e4 R4 rz g4 => ?_⟩
        cases q2 : cmpOp o' y z h4 with
        | none => rw [q2] at g4; exact g4.elim
        | some b2 =>
          rw [q2] at g4
          exact ⟨c4, h4, y, z, b2, ⟨rfl, R4⟩, ry.ext e4, rz, q2, go_val (RR := RV M) R4 (.bl b2) g4⟩
theorem se_cmp2 (G : Gd M X N sc k W) {a b d : Expr} {o o' : COp} {ma mb mc : E} (hs : notSet d = true) (ha : PE X a (tEv M W (rc.e ma))) (hb : PE X b (tEv M W (rc.e mb))) (hd : PE X d (tEv M W (rc.e mc))) :
    PE X (.Compare a [o.op, o'.op] [b, d] pos) (tEv M W (stepE cl calls rc (.cmp2 o o' ma mb mc))) :=
  PE.of (pe_chain (op_cmp G.hK G.un o) (op_cmp G.hK G.un o') ha hb hd (lastMarks_ok hs)) fun σ H Q h => cmp2_read G h
theorem se_and {a b : Expr} {rest : List Expr} {ma mb : E} (ha : PE X a (tEv M W (rc.e ma))) (hb : PE X (.BoolOp .And (b :: rest) pos) (tEv M W (rc.e mb))) : PE X (.BoolOp .And (a :: b :: rest) pos) (tEv M W (stepE cl calls rc (.and ma mb))) :=
  PE.of (pe_and ha hb) fun σ H Q ⟨c, s, hh, ⟨e, R, S⟩, g⟩ => by
    subst e
    refine ⟨c, s, hh, ⟨rfl, R, S⟩, Go.bind g fun x h1 c1 bx e1 R1 rx g1 => ?_⟩
    cases rx with
    | bl t =>
      refine ⟨t, rfl, ?_⟩
      cases t with
      | true => rw [if_pos rfl]; exact ⟨c1, s, h1, ⟨rfl, R1, S.ext e1⟩, g1⟩
      | false => exact go_val (RR := RV M) R1 (.bl false) g1
    | _ => exact g1.elim
theorem se_or {a b : Expr} {rest : List Expr} {ma mb : E} (ha : PE X a (tEv M W (rc.e ma))) (hb : PE X (.BoolOp .Or (b :: rest) pos) (tEv M W (rc.e mb))) : PE X (.BoolOp .Or (a :: b :: rest) pos) (tEv M W (stepE cl calls rc (.or ma mb))) :=
  PE.of (pe_or ha hb) fun σ H Q ⟨c, s, hh, ⟨e, R, S⟩, g⟩ => by
    subst e
    refine ⟨c, s, hh, ⟨rfl, R, S⟩, Go.bind g fun x h1 c1 bx e1 R1 rx g1 => ?_⟩
    cases rx with
    | bl t =>
      refine ⟨t, rfl, ?_⟩
      cases t with
      | false => exact ⟨c1, s, h1, ⟨rfl, R1, S.ext e1⟩, g1⟩
      | true => rw [if_pos rfl]; exact go_val (RR := RV M) R1 (.bl true) g1
    | _ => exact g1.elim
theorem se_not {a : Expr} {ma : E} (ha : PE X a (tEv M W (rc.e ma))) : PE X (.UnaryOp .Not a pos) (tEv M W (stepE cl calls rc (.not ma))) :=
  PE.of (pe_not ha) fun σ H Q ⟨c, s, hh, ⟨e, R, S⟩, g⟩ => by
    subst e
    refine ⟨c, s, hh, ⟨rfl, R, S⟩, Go.bind g fun x h1 c1 bx e1 R1 rx g1 => ?_⟩
    cases rx with
    | bl t => exact ⟨t, rfl, go_val (RR := RV M) R1 (.bl _) g1⟩
    | _ => exact g1.elim
theorem se_ife {d a b : Expr} {mc ma mb : E} (hd : PT X d (tEvT M W (rc.t mc))) (ha : PE X a (tEv M W (rc.e ma))) (hb : PE X b (tEv M W (rc.e mb))) : PE X (.IfExp d a b pos) (tEv M W (stepE cl calls rc (.ife mc ma mb))) :=
  PE.of (pe_ifExp hd ha hb) fun σ H Q ⟨c, s, hh, ⟨e, R, S⟩, g⟩ => by
    subst e
    refine ⟨c, s, hh, ⟨rfl, R, S⟩, Go.bind g fun x h1 c1 bx e1 R1 rx g1 => ?_⟩
    subst rx
    cases x with
    | true => rw [if_pos rfl]; exact ⟨c1, s, h1, ⟨rfl, R1, S.ext e1⟩, g1⟩
    | false => rw [if_neg (by decide)]; exact ⟨c1, s, h1, ⟨rfl, R1, S.ext e1⟩, g1⟩
/-! ### argument lists, displays -/
theorem sa_nil : PA X [] (tEvA M W (evs rc [])) := PA.of pa_nil fun σ H Q ⟨c, s, hh, ⟨e, R, S⟩, g⟩ => by subst e; exact go_val (RR := RVs M) R .nil g
theorem sa_cons {e : Expr} {es : List Expr} {m : E} {ms : List E} (hn : notStar e = true) (ha : PE X e (tEv M W (rc.e m))) (hb : PA X es (tEvA M W (evs rc ms))) : PA X (e :: es) (tEvA M W (evs rc (m :: ms))) :=
  PA.of (pa_cons ha hb (notStar_each hn)) fun σ H Q ⟨c, s, hh, ⟨e, R, S⟩, g⟩ => by
    subst e
    exact ⟨c, s, hh, ⟨rfl, R, S⟩, Go.bind g fun x h1 c1 bx e1 R1 rx g1 => ⟨c1, s, h1, ⟨rfl, R1, S.ext e1⟩, Go.bind g1 fun ys h2 c2 b_y e2 R2 ry g2 => go_val (RR := RVs M) R2 (.cons (rx.ext e2) ry) g2⟩⟩
theorem se_tup {es : List Expr} {j : Nat} {ms : List E} (ha : PA X es (tEvA M W (evs rc ms))) : PE X (.Tuple es j pos) (tEv M W (stepE cl calls rc (.tup ms))) :=
  PE.of (pe_tup ha) fun σ H Q ⟨c, s, hh, ⟨e, R, S⟩, g⟩ => by
    subst e
    refine ⟨c, s, hh, ⟨rfl, R, S⟩, Go.bind g fun xs h1 c1 ys e1 R1 rx g1 => ?_⟩
    cases q : Nat.ble xs.length line with
    | false => rw [q] at g1; exact g1.elim
    | true =>
      rw [q] at g1
      have hl := ble_true q
      rw [rx.length] at hl
      exact ⟨hl, go_tup R1 rx g1⟩
theorem se_lst {es : List Expr} {ms : List E} (ha : PA X es (tEvA M W (evs rc ms))) : PE X (.List es pos) (tEv M W (stepE cl calls rc (.lst ms))) :=
  PE.of (pe_lst ha) fun σ H Q ⟨c, s, hh, ⟨e, R, S⟩, g⟩ => by
    subst e
    refine ⟨c, s, hh, ⟨rfl, R, S⟩, Go.bind g fun xs h1 c1 ys e1 R1 rx g1 => ?_⟩
    cases q : Nat.ble xs.length line with
    | false => rw [q] at g1; exact g1.elim
    | true =>
      rw [q] at g1
      have hl := ble_true q
      rw [rx.length] at hl
      exact ⟨hl, go_alloc_lst R1 rx g1⟩
/-! ### tests -/
theorem st_val {e : Expr} {m : E} (hp : plainT e = true) (h : PE X e (tEv M W (rc.e m))) : PT X e (tEvT M W fun s hh => (rc.e m s hh).bind fun v h1 => match v with
    | .bl b => .ok b h1
    | _ => .bad) := by
  refine PT.of (pt_val h (by intro whole; cases e <;> first | rfl | (cases hp; done) | (rename_i o _ _; cases o <;> first | rfl | (cases hp; done)))) fun σ H Q ⟨c, s, hh, ⟨e, R, S⟩, g⟩ => ?_
  subst e
  refine ⟨c, s, hh, ⟨rfl, R, S⟩, Go.bind g fun x h1 c1 bx e1 R1 rx g1 => ?_⟩
  cases rx with
  | bl t => exact ⟨t, rfl, go_val (RR := fun _ a b => a = b) R1 rfl g1⟩
  | _ => exact g1.elim
theorem st_and {a b : Expr} {rest : List Expr} {ma mb : E} (ha : PT X a (tEvT M W (rc.t ma))) (hb : PW X (.BoolOp .And (b :: rest) pos) (tEvT M W (rc.t mb))) : PW X (.BoolOp .And (a :: b :: rest) pos) (tEvT M W (stepT rc (.and ma mb))) :=
  PW.of (pw_and ha hb) fun σ H Q ⟨c, s, hh, ⟨e, R, S⟩, g⟩ => by
    subst e
    refine ⟨c, s, hh, ⟨rfl, R, S⟩, Go.bind g fun x h1 c1 bx e1 R1 rx g1 => ?_⟩
    subst rx
    cases x with
    | true => rw [if_pos rfl]; exact ⟨c1, s, h1, ⟨rfl, R1, S.ext e1⟩, g1⟩
    | false => rw [if_neg (by decide)]; exact go_val (RR := fun _ a b => a = b) R1 rfl g1
theorem st_or {a b : Expr} {rest : List Expr} {ma mb : E} (ha : PT X a (tEvT M W (rc.t ma))) (hb : PW X (.BoolOp .Or (b :: rest) pos) (tEvT M W (rc.t mb))) : PW X (.BoolOp .Or (a :: b :: rest) pos) (tEvT M W (stepT rc (.or ma mb))) :=
  PW.of (pw_or ha hb) fun σ H Q ⟨c, s, hh, ⟨e, R, S⟩, g⟩ => by
    subst e
    refine ⟨c, s, hh, ⟨rfl, R, S⟩, Go.bind g fun x h1 c1 bx e1 R1 rx g1 => ?_⟩
    subst rx
    cases x with
    | false => rw [if_neg (by decide)]; exact ⟨c1, s, h1, ⟨rfl, R1, S.ext e1⟩, g1⟩
    | true => rw [if_pos rfl]; exact go_val (RR := fun _ a b => a = b) R1 rfl g1
theorem st_not {a : Expr} {ma : E} (ha : PT X a (tEvT M W (rc.t ma))) : PT X (.UnaryOp .Not a pos) (tEvT M W (stepT rc (.not ma))) :=
  PT.of (pt_not ha) fun σ H Q ⟨c, s, hh, ⟨e, R, S⟩, g⟩ => by
    subst e
    refine ⟨c, s, hh, ⟨rfl, R, S⟩, Go.bind g fun x h1 c1 bx e1 R1 rx g1 => ?_⟩
    subst rx
    exact go_val (RR := fun _ a b => a = b) R1 rfl g1
def toB (v : Val) (h1 : LHeap) : Res Bool := match v with
  | .bl b => .ok b h1
  | _ => .bad
theorem toB_read {m : LSt → LHeap → Res Val} {σ : St} {H : Hp} {Q : Bool → Hp → Prop} (h : tEvT M W (fun s hh => (m s hh).bind toB) σ H Q) : tEv M W m σ H fun x H' => ∃ k, x = .bl k ∧ Q k H' := by
  obtain ⟨c, s, hh, ⟨e, R, S⟩, g⟩ := h
  subst e
  refine ⟨c, s, hh, ⟨rfl, R, S⟩, Go.bind g fun x h1 c1 bx e1 R1 rx g1 => ?_⟩
  cases rx with
  | bl t => exact ⟨t, rfl, go_val (RR := fun _ a b => a = b) R1 rfl g1⟩
  | _ => exact g1.elim
theorem st_cmp (G : Gd M X N sc k W) {a b : Expr} {o : COp} {ma mb : E} (hs : notSet b = true) (ha : PE X a (tEv M W (rc.e ma))) (hb : PE X b (tEv M W (rc.e mb))) : PT X (.Compare a [o.op] [b] pos) (tEvT M W fun s hh => (stepE cl calls rc (.cmp o ma mb) s hh).bind toB) :=
  PT.of (pt_cmpR (op_cmp G.hK G.un o) ha hb (notSet_mark hs)) fun σ H Q h => cmp_read G (toB_read h)
theorem st_cmp2 (G : Gd M X N sc k W) {a b d : Expr} {o o' : COp} {ma mb mc : E} (hs : notSet d = true) (ha : PE X a (tEv M W (rc.e ma))) (hb : PE X b (tEv M W (rc.e mb))) (hd : PE X d (tEv M W (rc.e mc))) : PT X (.Compare a [o.op, o'.op] [b, d] pos) (tEvT M W fun s hh => (stepE cl calls rc (.cmp2 o o' ma mb mc) s hh).bind toB) :=
  PT.of (pt_chain (op_cmp G.hK G.un o) (op_cmp G.hK G.un o') ha hb hd (lastMarks_ok hs)) fun σ H Q h => cmp2_read G (toB_read h)
end
end Ev

set_option Elab.async false
set_option linter.all false
set_option maxRecDepth 100000
set_option maxHeartbeats 2000000
/-! Expressions, part 2: subscripts, calls. -/
noncomputable section
namespace Ev
open PySem PySem.Spec PyProof.Rows L2
theorem ix_eq (n : Nat) (i : Int) : ix n i = ixN n i := by
  unfold ix ixN
  by_cases h : 0 ≤ i
  · rw [if_pos h, decide_eq_true h]
    by_cases h2 : i < (n : Int)
    · rw [if_pos h2, decide_eq_true h2]
    · rw [if_neg h2, decide_eq_false h2]
  · rw [if_neg h, decide_eq_false h]
    by_cases h2 : -(n : Int) ≤ i
    · rw [if_pos h2, decide_eq_true h2]
    · rw [if_neg h2, decide_eq_false h2]
theorem nth_eq {α : Type} : ∀ (xs : List α) (n : Nat), nth xs n = xs[n]?
  | [], n => by simp [nth]
  | x :: xs, 0 => rfl
  | x :: xs, n + 1 => by simp [nth, nth_eq xs n]
theorem bnd_eq (n d : Nat) (o : Option Int) : bnd n d o = HT.sIx n d o := by
  cases o with
  | none => rfl
  | some v =>
    show (match decide (v < 0) with
      | true => (v + (n : Int)).toNat
      | false => Nat.min v.toNat n) = if v < 0 then (v + (n : Int)).toNat else min v.toNat n
    by_cases h : v < 0
    · rw [if_pos h, decide_eq_true h]
    · rw [if_neg h, decide_eq_false h]
section
variable {M : Mo} {X : Cx} {N : List Str} {sc : Scope} {k : Nat} {W : WX} {md : Md} {cl : Cl} {calls : Nat → List Val → LHeap → Res Val} {rc : Rec} {pos : Pos}
theorem atI_rv {c : Cf} {xs : List Val} {ys : List V} {i : Int} {j : Nat} {w : Val} (r : RVs M c xs ys) (e1 : ix xs.length i = some j) (e2 : nth xs j = some w) : ∃ z, atI ys i = some z ∧ RV M c w z := by
  obtain ⟨z, e3, rz⟩ := r.nth e2
  refine ⟨z, ?_, rz⟩
  unfold atI
  rw [← r.length, ← ix_eq, e1]
  exact e3
def rSub (M : Mo) : R2 := fun x y H Q => ∃ c h u v w, Has M c h H ∧ RV M c u x ∧ RV M c v y ∧ subVal h u v = some w ∧ ∀ z, RV M c w z → Q z H
theorem ix_all (hK : X.K = M.K) (hu : X.A.units + 65 < cLine) : IxR X (rSub M) := by
  intro value slice pins s σ H x y v u Q I rx ry hr hs
  obtain ⟨c, h, a, b, w, ⟨rfl, R⟩, ra, rb, e, q⟩ := hr
  unfold subVal at e
  cases qd : isDict h a with
  | true =>
    rw [qd] at e
    cases qg : dget h a b with
    | none => simp only [qg] at e; cases e
    | some o =>
      cases o with
      | none => simp only [qg] at e; cases e
      | some w' =>
        simp only [qg] at e
        cases e
        obtain ⟨p, o', ey, hg, ro⟩ := dget_rv R ra rb qg
        cases o' with
        | none => exact ro.elim
        | some z =>
          subst ey
          obtain rfl : v = Value.ref p := rx
          exact tail_any (dict_typeIs I hg) PySem.F.slot_dict_getitem.lookup (d_getItem (by omega) I hg ry fun w' s3 I3 rw' => ⟨z, _, I3, rw', q z ro⟩) hs
  | false =>
    rw [qd] at e
    have seq : ∀ {i : Int} (rb : RV M c (.int i) y), (match items h a with
        | some xs => (match ix xs.length i with
          | some j => nth xs j
          | none => none)
        | none => none) = some w → wpAny (model X.prog X.w) X.A (subscriptTail value slice v u) (EP X pins σ Q) X.xe s := by
      intro i rb e
      cases rb with
      | int i =>
        cases qi : items h a with
        | none => simp only [qi] at e; cases e
        | some xs =>
          simp only [qi] at e
          cases qj : ix xs.length i with
          | none => simp only [qj] at e; cases e
          | some j =>
            simp only [qj] at e
            obtain ⟨p, ys, ex, hsq, rvs, _⟩ := R.items ra qi
            obtain ⟨z, ez, rz⟩ := atI_rv rvs qj e
            rcases hsq with hsq | hsq
            · exact ix_list value slice pins s σ _ _ _ v u Q I rx ry ⟨p, ys, i, z, ex, rfl, by rw [hK]; exact hsq, ez, q z rz⟩ hs
            · exact ix_tup value slice pins s σ _ _ _ v u Q I rx ry ⟨p, ys, i, z, ex, rfl, by rw [hK]; exact hsq, ez, q z rz⟩ hs
    cases rb with
    | int i =>
      cases ra with
      | str t =>
        have e' : (match Nat.ble t.cps.toList.length line with
          | true => (match ix t.cps.toList.length i with
            | some j => (match nth t.cps.toList j with
              | some c => some (Val.str ⟨[c].toArray⟩)
              | none => none)
            | none => none)
          | false => none) = some w := e
        cases ql : Nat.ble t.cps.toList.length line with
        | false => rw [ql] at e'; cases e'
        | true =>
          rw [ql] at e'
          cases qj : ix t.cps.toList.length i with
          | none => simp only [qj] at e'; cases e'
          | some j =>
            simp only [qj] at e'
            cases qn : nth t.cps.toList j with
            | none => simp only [qn] at e'; cases e'
            | some d =>
              simp only [qn] at e'
              cases e'
              have hl := ble_true ql
              rw [cps_len, line_eq] at hl
              refine ix_str value slice pins s σ _ _ _ v u Q I rx ry ⟨t, i, d, rfl, rfl, hl, ?_, q _ (.str _)⟩ hs
              unfold atI
              rw [← ix_eq, qj]
              rw [nth_eq] at qn
              exact qn
      | non => exact seq (.int i) e
      | bl _ => exact seq (.int i) e
      | int _ => exact seq (.int i) e
      | tup hh r => exact seq (.int i) e
      | ref hl => exact seq (.int i) e
      | fn j => exact seq (.int i) e
    | _ => cases e
theorem notSlice_plain {i : Expr} (h : notSlice i = true) : PlainIx i := by
  intro o v
  cases i <;> first | rfl | cases h
theorem se_sub (G : Gd M X N sc k W) {a i : Expr} {ma mi : E} (hs : notSlice i = true) (ha : PE X a (tEv M W (rc.e ma))) (hi : PE X i (tEv M W (rc.e mi))) : PE X (.Subscript a i pos) (tEv M W (stepE cl calls rc (.sub ma mi))) :=
  PE.of (pe_ix (ix_all G.hK G.un) ha hi (notSlice_plain hs)) fun σ H Q ⟨c, s, hh, ⟨e, R, S⟩, g⟩ => by
    subst e
    refine ⟨c, s, hh, ⟨rfl, R, S⟩, Go.bind g fun x h1 c1 bx e1 R1 rx g1 => ⟨c1, s, h1, ⟨rfl, R1, S.ext e1⟩, Go.bind g1 fun y h2 c2 b_y e2 R2 ry g2 => ?_⟩⟩
    obtain ⟨w, ew, g3⟩ := optR_go g2
    exact ⟨c2, h2, x, y, w, ⟨rfl, R2⟩, rx.ext e2, ry, ew, fun z rz => go_val R2 rz g3⟩
/-! ### slices -/
def rSl (M : Mo) : V → Option Int → Option Int → Hp → VK → Prop := fun x lo hi H Q => ∃ c h u E, Has M c h H ∧ RV M c u x ∧ Go M c (RV M) (sliceVal h u lo hi) Q E
theorem cut_rv {c : Cf} {xs : List Val} {ys : List V} (r : RVs M c xs ys) (lo hi : Option Int) : RVs M c (cut xs lo hi) (cutV ys lo hi) := by
  unfold cut cutV
  rw [bnd_eq, bnd_eq, r.length]
  exact (r.drop _).take _
theorem cut_all {α : Type} {xs : List α} {lo hi : Option Int} (h : HT.sIx xs.length 0 lo = 0 ∧ HT.sIx xs.length xs.length hi = xs.length) : cut xs lo hi = xs := by
  unfold cut
  rw [bnd_eq, bnd_eq, h.1, h.2]
  simp
theorem sl_all (hK : X.K = M.K) : SlR X (rSl M) := by
  intro pins s σ H x v vl vu lo hi sl Q I rx hsl pl pu hr
  obtain ⟨c, h, a, E, ⟨rfl, R⟩, ra, g⟩ := hr
  cases ra with
  | @tup xs p ys ht r =>
    have g' : Go M c (RV M) (.ok (.tup (cut xs lo hi)) h) Q E := g
    refine sl_tupA pins s σ _ _ v vl vu lo hi sl Q I rx hsl pl pu ⟨p, ys, rfl, SqT.of ht, fun hw => ?_, fun _ => ?_⟩
    · rw [← r.length] at hw
      rw [cut_all hw] at g'
      exact go_val (RR := RV M) R (.tup ht r) g'
    · exact go_tup R (cut_rv r lo hi) g'
  | @ref l hl =>
    have g' : Go M c (RV M) (match h.get l with
      | some (.lst xs) => alloc (.lst (cut xs lo hi)) h
      | some (.frz xs) => alloc (.lst (cut xs lo hi)) h
      | _ => .bad) Q E := g
    cases q : h.get l with
    | none => rw [q] at g'; exact g'.elim
    | some o =>
      rw [q] at g'
      cases o with
      | lst xs =>
        obtain ⟨ys, h1, r1⟩ := R.lst q
        exact sl_list pins s σ _ _ v vl vu lo hi sl Q I rx hsl pl pu ⟨_, ys, rfl, SqL.of h1, go_alloc_lst R (cut_rv r1 lo hi) g'⟩
      | frz xs =>
        obtain ⟨ys, h1, r1⟩ := R.frz q
        exact sl_list pins s σ _ _ v vl vu lo hi sl Q I rx hsl pl pu ⟨_, ys, rfl, by rw [hK]; exact h1.sq, go_alloc_lst R (cut_rv r1 lo hi) g'⟩
      | _ => exact g'.elim
  | str t =>
    have g' : Go M c (RV M) (match Nat.ble t.cps.toList.length line with
      | true => .ok (.str ⟨(cut t.cps.toList lo hi).toArray⟩) h
      | false => .bad) Q E := g
    cases q : Nat.ble t.cps.toList.length line with
    | false => rw [q] at g'; exact g'.elim
    | true =>
      rw [q] at g'
      have hl := ble_true q
      rw [cps_len, line_eq] at hl
      refine sl_str pins s σ _ _ v vl vu lo hi sl Q I rx hsl pl pu ⟨t, rfl, hl, ?_⟩
      have : cutS t lo hi = ⟨(cut t.cps.toList lo hi).toArray⟩ := by
        unfold cutS cut
        rw [bnd_eq, bnd_eq, cps_len]
      rw [this]
      exact go_val (RR := RV M) R (.str _) g'
  | _ => exact g.elim
def tEvO (M : Mo) (W : WX) (m : LSt → LHeap → Res (Option Int)) : TO := fun σ H Q => ∃ c s h, At M c s h σ H ∧ Go M c (fun _ a b => a = b) (m s h) Q (fun cls d H' => W cls d σ H')
theorem PO.of {e : Option Expr} {t t' : TO} (h : PO X e t) (hi : ∀ σ H Q, t' σ H Q → t σ H Q) : PO X e t' := ⟨fun pins s σ H Q I q => h.run pins s σ H Q I (hi σ H Q q)⟩
theorem so_none : PO X none (tEvO M W (evOpt rc none)) := PO.of po_none fun σ H Q ⟨c, s, hh, ⟨e, R, S⟩, g⟩ => by subst e; exact go_val (RR := fun _ a b => a = b) R rfl g
theorem so_some {e : Expr} {m : E} (he : PE X e (tEv M W (rc.e m))) : PO X (some e) (tEvO M W (evOpt rc (some m))) := PO.of (po_some he) fun σ H Q ⟨c, s, hh, ⟨e, R, S⟩, g⟩ => by
  subst e
  refine ⟨c, s, hh, ⟨rfl, R, S⟩, Go.bind g fun x h1 c1 bx e1 R1 rx g1 => ?_⟩
  cases rx with
  | int i => exact ⟨i, rfl, go_val (RR := fun _ a b => a = b) R1 rfl g1⟩
  | _ => exact g1.elim
theorem se_slc (G : Gd M X N sc k W) {a : Expr} {lo hi : Option Expr} {p2 : Pos} {ma : E} {ml mh : Option E} (ha : PE X a (tEv M W (rc.e ma))) (hl : PO X lo (tEvO M W (evOpt rc ml))) (hh : PO X hi (tEvO M W (evOpt rc mh))) :
    PE X (.Subscript a (.Slice lo hi none p2) pos) (tEv M W (stepE cl calls rc (.slc ma ml mh))) :=
  PE.of (pe_slice (sl_all G.hK) ha hl hh) fun σ H Q ⟨c, s, hh, ⟨e, R, S⟩, g⟩ => by
    subst e
    refine ⟨c, s, hh, ⟨rfl, R, S⟩, Go.bind g fun x h1 c1 bx e1 R1 rx g1 => ⟨c1, s, h1, ⟨rfl, R1, S.ext e1⟩, Go.bind g1 fun l h2 c2 bl e2 R2 rl g2 => ?_⟩⟩
    subst rl
    refine ⟨c2, s, h2, ⟨rfl, R2, (S.ext e1).ext e2⟩, Go.bind g2 fun r h3 c3 br e3 R3 rr g3 => ?_⟩
    subst rr
    exact ⟨c3, h3, x, _, ⟨rfl, R3⟩, (rx.ext e2).ext e3, g3⟩
theorem se_rev (G : Gd M X N sc k W) {a : Expr} {j : Nat} {p1 p2 p3 : Pos} {ma : E} (ha : PE X a (tEv M W (rc.e ma))) : PE X (.Subscript a (.Slice none none (some (.UnaryOp .USub (.Constant (.int 1) j p1) p2)) p3) pos) (tEv M W (stepE cl calls rc (.rev ma))) :=
  PE.of (pe_revL ha) fun σ H Q ⟨c, s, hh, ⟨e, R, S⟩, g⟩ => by
    subst e
    refine ⟨c, s, hh, ⟨rfl, R, S⟩, Go.bind g fun x h1 c1 bx e1 R1 rx g1 => ?_⟩
    cases q : itemsL h1 x with
    | none => simp only [q] at g1; exact g1.elim
    | some xs =>
      simp only [q] at g1
      obtain ⟨p, ys, ex, hs, r⟩ := R1.itemsL rx q
      exact ⟨p, ys, ex, by rw [G.hK]; exact hs, go_alloc_lst R1 r.reverse g1⟩
/-! ### calls of own functions -/
/-- a def's promise by the evaluator -/
def spOf (M : Mo) (n : Nat) (g : List Val → LHeap → Res Val) : Sp := fun vs H Q E => ∃ c h us, Has M c h H ∧ RVs M c us vs ∧ us.length = n ∧ Go M c (RV M) (g us h) Q E
/-- a def that keeps a promise where no text of an object is being made -/
structure FnG (P : Program) (w : World) (K : PySem.W.Frag) (mg : Str → Option Value) (base : Heap) (k : Nat) (f : Addr) (fd : FuncData) (ps : List Str) (sp : Sp) : Prop where
  len : ∀ vs H Q E, sp vs H Q E → vs.length = ps.length
  run : ∀ (A : Around) (outer : List Env) (s : Shared) (H : Hp) (args : Args) (us : List Value) (vs : List V) (Q : VK) (E : XK), Room k A → A.guards = some [] → Env0 P w K mg base A outer s H → BindsTo s fd args (ps.zip us) → Vals vs us → sp vs H Q E →
    codeAny (model P w) A (.call (.ref f) args) (CR (L2.CX P w) outer P w H s Q E) s
structure FnK (M : Mo) (k : Nat) (f : Addr) (x : Str) (n : Nat) (g : List Val → LHeap → Res Val) : Prop where
  mg : M.mg x = some (.ref f)
  keep : PySem.W.keepIn M.K (.ref f) = true
  ok : ∃ fd ps, FnG M.P M.w M.K M.mg M.base k f fd ps (spOf M n g) ∧ Binds M.K fd ps []
/-- a method: n arguments with self -/
structure MthK (M : Mo) (k : Nat) (C f : Addr) (m : Str) (n : Nat) (g : List Val → LHeap → Res Val) : Prop where
  c : Cls M.K C
  m : Meth M.K C m f
  ok : ∃ fd ps, FnG M.P M.w M.K M.mg M.base k f fd ps (spOf M n g) ∧ Binds M.K fd ps []
structure CallsOk (M : Mo) (md : Md) (k : Nat) (calls : Nat → List Val → LHeap → Res Val) : Prop where
  f : ∀ f x n, fnIs x n md.fns f = true → FnK M k (M.fa f) x n (calls f)
  m : ∀ f c m n, mthIs c m n md.fns f = true → MthK M k (M.cb c) (M.fa f) m (n + 1) (calls f)
  n : ∀ c x, clsNm x md.clss c = true → M.mg x = some (.ref (M.cb c)) ∧ PySem.W.makesIn M.K (M.cb c) = true ∧ PySem.W.keepIn M.K (.ref (M.cb c)) = true
theorem stars_plain {env : Env} {p : Pos} : ∀ {es : List Expr}, es.all notStar = true → (backTo p (starEach es env)).any (·.1) = false
  | [], _ => rfl
  | e :: es, h => by
    rw [List.all_cons, Bool.and_eq_true] at h
    rw [notStar_each h.1]
    show (false || (backTo p (starEach es env)).any (·.1)) = false
    rw [stars_plain h.2]
    rfl
theorem evs_len : ∀ {ms : List E} {s : LSt} {h : LHeap} {vs : List Val} {h' : LHeap}, evs rc ms s h = .ok vs h' → vs.length = ms.length
  | [], _, _, _, _, e => by cases e; rfl
  | m :: ms, s, h, vs, h', e => by
    unfold evs at e
    cases q : rc.e m s h with
    | exc _ _ _ => rw [q] at e; cases e
    | bad => rw [q] at e; cases e
    | ok v h1 =>
      rw [q] at e
      have e' : (evs rc ms s h1).bind (fun vs h2 => .ok (v :: vs) h2) = .ok vs h' := e
      cases q2 : evs rc ms s h1 with
      | exc _ _ _ => rw [q2] at e'; cases e'
      | bad => rw [q2] at e'; cases e'
      | ok us h2 =>
        rw [q2] at e'
        cases e'
        rw [List.length_cons, List.length_cons, evs_len q2]
theorem passAt' (tk : Takes X W) (σ : St) : PassesAt (L2.CX X.prog X.w) X σ (fun cls d H' => W cls d σ H') := passAt tk σ
theorem runG (G : Gd M X N sc k W) {f : Addr} {fd : FuncData} {ps : List Str} {sp : Sp} {pins : List (Addr × Obj)} {σ : St} {H : Hp} {s : Shared} {Q : VK} {us : List Value} {vs : List V} (F : FnG M.P M.w M.K M.mg M.base k f fd ps sp) (B : Binds M.K fd ps [])
    (I : Inv X pins σ H s) (r : Vals vs us) (h : sp vs H Q (fun cls d H' => W cls d σ H')) : wpAny (model X.prog X.w) X.A (call (.ref f) us) (EP X pins σ Q) X.xe s := by
  have F' : FnG X.prog X.w X.K X.mg X.base k f fd ps sp := by rw [G.hP, G.hw, G.hK, G.hmg, G.hbase]; exact F
  have hl : us.length = ps.length := by rw [← r.length]; exact F.len _ _ _ _ h
  have hb := B s us (by rw [← G.hK]; exact I.kIn) (by rw [List.append_nil]; exact hl)
  rw [List.append_nil] at hb
  refine wpAny_call (codeAny_mono (F'.run X.A X.stack s H ⟨us, []⟩ us vs Q _ (G.room.mono (Nat.le_succ k)) G.gu I.env0 hb r h) fun res s' q => ?_)
  cases res with
  | error e => exact passAt' G.tk σ pins H s e s' I q
  | ok fl =>
    cases fl with
    | ret u => exact I.after q
    | _ => exact False.elim q
/-- f(..) of an own def -/
theorem call_pe (G : Gd M X N sc k W) {f : Addr} {fd : FuncData} {ps : List Str} {sp : Sp} {x : Str} {p : Pos} {es : List Expr} {ms : List E} (F : FnG M.P M.w M.K M.mg M.base k f fd ps sp) (B : Binds M.K fd ps []) (hmg : M.mg x = some (.ref f)) (hkp : PySem.W.keepIn M.K (.ref f) = true) (hg : isGl (look sc.names x) = true) (hd : (!strEq x sDebug) = true)
    (hn : es.all notStar = true) (ha : PA X es (tEvA M W (evs rc ms))) (hlen : es.length = ms.length) : PE X (.Call (.Name x p) es [] pos) (fun σ H Q => tEvA M W (evs rc ms) σ H fun vs H1 => sp vs H1 Q (fun cls d H' => W cls d σ H')) := by
  refine ⟨fun pins s σ H Q I h => ?_⟩
  refine wpAny_Call_Name_kw (ld_glob I (G.gl hg) (by rw [G.hmg]; exact hmg) ?_ (not_eq hd))
  cases es with
  | nil =>
    have hms : ms = [] := by cases ms with
      | nil => rfl
      | cons _ _ => cases hlen
    subst hms
    obtain ⟨c2, s2, h2, ⟨rfl, R2, S2⟩, g2⟩ := h
    have q2 := go_val (RR := RVs M) R2 .nil g2
    exact PySem.W.callWith_K0 I.kIn (by rw [G.hK]; exact hkp) (runG G (us := []) F B I .nil q2)
  | cons e es =>
    rw [List.all_cons, Bool.and_eq_true] at hn
    refine PySem.W.callWith_K (h₀ := X.base) I.ok.mod.kin (by rw [G.hK]; exact hkp) (thn (ha.run pos pins s σ H _ I h) fun us s1 ⟨vs, H1, I1, r, q⟩ => ⟨I1.kIn, ?_⟩) (notStar_each hn.1) (stars_plain hn.2)
    exact runG G F B I1 r q
theorem se_call (G : Gd M X N sc k W) (D : CallsOk M md k calls) {f : Nat} {x : Str} {p : Pos} {es : List Expr} {ms : List E} (hf : fnIs x ms.length md.fns f = true) (hg : isGl (look sc.names x) = true) (hd : (!strEq x sDebug) = true)
    (hn : es.all notStar = true) (ha : PA X es (tEvA M W (evs rc ms))) (hlen : es.length = ms.length) : PE X (.Call (.Name x p) es [] pos) (tEv M W (stepE cl calls rc (.call f ms))) := by
  obtain ⟨hmg, hkp, fd, ps, F, B⟩ := D.f f x ms.length hf
  refine PE.of (call_pe G F B hmg hkp hg hd hn ha hlen) fun σ H Q ⟨c, s, hh, ⟨e, R, S⟩, g⟩ => ?_
  subst e
  exact ⟨c, s, hh, ⟨rfl, R, S⟩, Go.bindE g fun xs h1 c1 ys er e1 R1 rx g1 => ⟨c1, h1, xs, ⟨rfl, R1⟩, rx, evs_len er, g1⟩⟩
/-! ### .. by themselves: the callee sees the arguments alone -/
mutual
theorem RV.pure {c c' : Cf} (hH : ∀ a xs, c.H a = some (.tup xs) → c'.H a = some (.tup xs)) : ∀ {v : Val} {x : V}, pureV v = true → RV M c v x → RV M c' v x
  | _, _, _, .non => .non
  | _, _, _, .bl b => .bl b
  | _, _, _, .int i => .int i
  | _, _, _, .str s => .str s
  | _, _, p, .tup h r => .tup (hH _ _ h) (RVs.pure hH (by simpa [pureV] using p) r)
  | _, _, p, .ref h => by simp [pureV] at p
  | _, _, _, .fn i => .fn i
theorem RVs.pure {c c' : Cf} (hH : ∀ a xs, c.H a = some (.tup xs) → c'.H a = some (.tup xs)) : ∀ {vs : List Val} {xs : List V}, pureVs vs = true → RVs M c vs xs → RVs M c' vs xs
  | _, _, _, .nil => .nil
  | v :: _, _ :: _, p, .cons h t => by
    unfold pureVs at p
    cases q : pureV v with
    | false => rw [q] at p; cases p
    | true => rw [q] at p; exact .cons (RV.pure hH q h) (RVs.pure hH p t)
end
theorem RF.pure {c c' : Cf} (hH : ∀ a xs, c.H a = some (.tup xs) → c'.H a = some (.tup xs)) : ∀ {vs : List (Str × Val)} {xs : List (Str × V)}, pureF vs = true → RF M c vs xs → RF M c' vs xs
  | _, _, _, .nil => .nil
  | (_, v) :: _, _ :: _, p, .cons h t => by
    unfold pureF at p
    dsimp only at p
    cases q : pureV v with
    | false => rw [q] at p; cases p
    | true => rw [q] at p; exact .cons (RV.pure hH q h) (RF.pure hH p t)
theorem RO.all {c c' : Cf} {o : LObj} {a : Addr} (e : Ex M c c') (hH : ∀ a o, c.H a = some o → ¬ Tb o → c'.H a = some o) (r : RO M c o a) : RO M c' o a := by
  cases r with
  | lst hh r => exact .lst (hH _ _ hh (fun ⟨_, z⟩ => nomatch z)) (r.ex e)
  | frz hh r => exact .frz (hh.imp (fun ⟨o, h⟩ => ⟨o, hH _ _ h (fun ⟨_, z⟩ => nomatch z)⟩) id) (r.ex e)
  | dK hh r => exact .dK (hH _ _ hh (fun ⟨_, z⟩ => nomatch z)) (r.ex e)
  | dT hh r => exact .dT (hH _ _ hh (fun ⟨_, z⟩ => nomatch z)) (r.ex e)
  | ins hh r => exact .ins (hH _ _ hh (fun ⟨_, z⟩ => nomatch z)) (r.ex e)
  | exc hh hc hd hf hx r => exact .exc (hH _ _ hh (fun ⟨_, z⟩ => nomatch (show exV _ _ = HO.tbl _ from z))) hc hd hf (hH _ _ hx (fun ⟨_, z⟩ => nomatch z)) (r.ex e)
/-- nothing is named -/
def Cf.none (c : Cf) : Cf := ⟨0, c.r, c.nm, c.H⟩
/-- .. named as ahead -/
def Cf.as (c c' : Cf) : Cf := ⟨c.n, c.r, c.nm, c'.H⟩
theorem Ext.none_all {c c' : Cf} (e : Ext M c.none c') : ∀ a o, c.H a = some o → ¬ Tb o → c'.H a = some o := fun a o h nt => e.f a o h nt fun l hl => absurd hl (Nat.not_lt_zero l)
theorem Ext.as {c c' : Cf} (e : Ext M c.none c') : Ext M c (c.as c') :=
  ⟨⟨Nat.le_refl _, fun _ _ => rfl, fun a xs h => e.none_all a _ h ntTup⟩, fun _ _ => rfl, fun a o h nt _ => e.none_all a o h nt, fun l h1 h2 => absurd h2 (Nat.not_lt.mpr h1), fun a o h nt => e.tr a o h nt⟩
theorem RH.as {c c' : Cf} {h h' : LHeap} (R : RH M c h) (e : Ext M c.none c') (R' : RH M c' h') : RH M (c.as c') h :=
  ⟨R.n, fun l o q => (R.o l o q).all e.as.x e.none_all, R.inj, R.nm, R.mn, R'.tb⟩
theorem rh_none {c : Cf} {h : LHeap} (R : RH M c h) : RH M c.none heapE := by
  have no : ∀ l o, heapE.get l ≠ some o := fun l o e => by
    rw [LHeap.get_ge (show heapE.n ≤ l from Nat.zero_le l)] at e
    cases e
  exact ⟨rfl, fun l o e => absurd e (no l o), fun l k o u e => absurd e (no l o), fun l hl => absurd hl (Nat.not_lt_zero l), fun l o e => absurd e (no l o), R.tb⟩
theorem go_sand {c : Cf} {h : LHeap} {r : Res Val} {Q : VK} {E : XK} (R : RH M c h) (g : Go M c (RV M) (sand r h) Q E) : Go M c.none (RV M) r Q E := by
  unfold sand at g
  cases r with
  | bad => exact g.elim
  | exc kx fs h' =>
    dsimp only at g
    intro c' cls d e R' x
    cases q : pureF fs with
    | false => rw [q] at g; exact g.elim
    | true =>
      rw [q] at g
      obtain ⟨hcl, a, gs, e1, e2, e3⟩ := x
      exact g (c.as c') cls d e.as (R.as e R') ⟨hcl, a, gs, e1, e2, RF.pure (c := c') (c' := c.as c') (fun _ _ z => z) q e3⟩
  | ok v h' =>
    dsimp only at g
    intro c' b e R' rv
    cases q : pureV v with
    | true =>
      rw [q] at g
      exact g (c.as c') b e.as (R.as e R') (RV.pure (c := c') (c' := c.as c') (fun _ _ z => z) q rv)
    | false =>
      rw [q] at g
      dsimp only at g
      cases rv with
      | ref hl =>
        rename_i l
        dsimp only at g
        cases ql : h'.get l with
        | none => rw [ql] at g; exact g.elim
        | some o =>
          rw [ql] at g
          cases o with
          | lst xs =>
            dsimp only at g
            cases qp : pureVs xs with
            | false => rw [qp] at g; exact g.elim
            | true =>
              rw [qp] at g
              obtain ⟨ys, hh, ry⟩ := R'.lst ql
              have hp : NT (c.H (c'.r l)) := e.fr l (Nat.zero_le _) hl
              refine go_adopt_lst (c := c.as c') (R.as e R') e.as hp ?_ (fun k hk hm => R.newT hp k hk hm) (RVs.pure (c := c') (c' := c.as c') (fun _ _ z => z) qp ry) hh g
              show Loose (c'.H (c'.r l))
              rw [hh]
              exact True.intro
          | _ => exact g.elim
      | _ => exact g.elim
theorem se_pcall (G : Gd M X N sc k W) (D : CallsOk M md k calls) {f : Nat} {x : Str} {p : Pos} {es : List Expr} {ms : List E} (hf : fnIs x ms.length md.fns f = true) (hg : isGl (look sc.names x) = true) (hd : (!strEq x sDebug) = true)
    (hn : es.all notStar = true) (ha : PA X es (tEvA M W (evs rc ms))) (hlen : es.length = ms.length) : PE X (.Call (.Name x p) es [] pos) (tEv M W (stepE cl calls rc (.pcall f ms))) := by
  obtain ⟨hmg, hkp, fd, ps, F, B⟩ := D.f f x ms.length hf
  refine PE.of (call_pe G F B hmg hkp hg hd hn ha hlen) fun σ H Q ⟨c, s, hh, ⟨e, R, S⟩, g⟩ => ?_
  subst e
  refine ⟨c, s, hh, ⟨rfl, R, S⟩, Go.bindE g fun xs h1 c1 ys er e1 R1 rx g1 => ?_⟩
  cases q : pureVs xs with
  | false => rw [q] at g1; exact g1.elim
  | true =>
    rw [q] at g1
    exact ⟨c1.none, heapE, xs, ⟨rfl, rh_none R1⟩, RVs.pure (c := c1) (c' := c1.none) (fun _ _ z => z) q rx, evs_len er, go_sand R1 g1⟩
end
end Ev

set_option Elab.async false
set_option linter.all false
set_option maxRecDepth 100000
set_option maxHeartbeats 2000000
/-! Expressions, part 3: built-in functions, isinstance, methods, dict displays. -/
noncomputable section
namespace Ev
open PySem PySem.Spec PyProof.Rows L2
section
variable {M : Mo} {X : Cx} {N : List Str} {sc : Scope} {k : Nat} {W : WX} {md : Md} {cl : Cl} {calls : Nat → List Val → LHeap → Res Val} {rc : Rec} {pos : Pos}
def rBi (M : Mo) (b : Bi) : List V → Hp → VK → Prop := fun xs H Q => ∃ c h us E, Has M c h H ∧ RVs M c us xs ∧ Go M c (RV M) (biCall b us h) Q E
theorem bools_rv {c : Cf} : ∀ {vs : List Val} {xs : List V} {bs : List Bool}, RVs M c vs xs → bools vs = some bs → xs = bs.map V.bl
  | _, _, _, .nil, e => by cases e; rfl
  | _, _, bs, .cons r t, e => by
    cases r with
    | bl b =>
      rename_i xs ys
      unfold bools at e
      cases q : bools xs with
      | none => rw [q] at e; cases e
      | some cs =>
        rw [q] at e
        cases e
        rw [bools_rv t q]
        rfl
    | _ => cases e
theorem intsOf_rv {c : Cf} : ∀ {vs : List Val} {xs : List V} {is : List Int}, RVs M c vs xs → intsOf vs = some is → xs = is.map V.int
  | _, _, _, .nil, e => by cases e; rfl
  | _, _, is, .cons r t, e => by
    cases r with
    | int i =>
      rename_i xs ys
      unfold intsOf at e
      cases q : intsOf xs with
      | none => rw [q] at e; cases e
      | some cs =>
        rw [q] at e
        cases e
        rw [intsOf_rv t q]
        rfl
    | _ => cases e
theorem allB_eq : ∀ bs : List Bool, allB bs = bs.all id
  | [] => rfl
  | b :: bs => by
    unfold allB
    rw [List.all_cons, allB_eq bs]
    cases b <;> rfl
theorem anyB_eq : ∀ bs : List Bool, anyB bs = bs.any id
  | [] => rfl
  | b :: bs => by
    unfold anyB
    rw [List.any_cons, anyB_eq bs]
    cases b <;> rfl
theorem sumI_eq : ∀ is : List Int, sumI is = is.sum
  | [] => rfl
  | i :: is => by
    unfold sumI
    rw [List.sum_cons, sumI_eq is]
theorem RVs.one {c : Cf} {v : Val} {xs : List V} (r : RVs M c [v] xs) : ∃ x, xs = [x] ∧ RV M c v x := by
  cases r with
  | cons r t => cases t; exact ⟨_, rfl, r⟩
theorem bi_len (hK : X.K = M.K) : CallR X (.builtin "len") (rBi M .len) := by
  intro pins s σ H xs us Q I r hr
  obtain ⟨c, h, vs, E, ⟨rfl, R⟩, rv, g⟩ := hr
  cases rv with
  | nil => exact g.elim
  | cons r1 t =>
    cases t with
    | cons r2 t => cases r1 <;> exact g.elim
    | nil =>
      cases r1 with
      | str t =>
        have g1 : Go M c (RV M) (match Nat.ble t.cps.toList.length line with
          | true => .ok (.int t.cps.toList.length) h
          | false => .bad) Q E := g
        cases q : Nat.ble t.cps.toList.length line with
        | false => rw [q] at g1; exact g1.elim
        | true =>
          rw [q] at g1
          have hl := ble_true q
          rw [cps_len] at hl g1
          rw [line_eq] at hl
          exact call_len pins s σ _ _ us Q I r ⟨_, t.length, rfl, ⟨hl, rfl⟩, go_val (RR := RV M) R (.int _) g1⟩
      | @tup ws a ys ht rt =>
        have g1 : Go M c (RV M) (.ok (.int ws.length) h) Q E := g
        rw [rt.length] at g1
        exact call_len pins s σ _ _ us Q I r ⟨_, ys.length, rfl, .inr ⟨ys, SqT.of ht, rfl⟩, go_val (RR := RV M) R (.int _) g1⟩
      | @ref l hl =>
        have g1 : Go M c (RV M) (match h.get l with
          | some (.lst xs) => .ok (.int xs.length) h
          | some (.frz xs) => .ok (.int xs.length) h
          | some (.dK kvs) => .ok (.int kvs.length) h
          | some (.dT kvs) => .ok (.int kvs.length) h
          | _ => .bad) Q E := g
        cases q : h.get l with
        | none => rw [q] at g1; exact g1.elim
        | some o =>
          rw [q] at g1
          cases o with
          | lst ws =>
            obtain ⟨ys, h1, r1⟩ := R.lst q
            have g2 : Go M c (RV M) (.ok (.int ws.length) h) Q E := g1
            rw [r1.length] at g2
            exact call_len pins s σ _ _ us Q I r ⟨_, ys.length, rfl, .inl ⟨ys, SqL.of h1, rfl⟩, go_val (RR := RV M) R (.int _) g2⟩
          | frz ws =>
            obtain ⟨ys, h1, r1⟩ := R.frz q
            have g2 : Go M c (RV M) (.ok (.int ws.length) h) Q E := g1
            rw [r1.length] at g2
            exact call_len pins s σ _ _ us Q I r ⟨_, ys.length, rfl, .inl ⟨ys, by rw [hK]; exact h1.sq, rfl⟩, go_val (RR := RV M) R (.int _) g2⟩
          | dK ws =>
            obtain ⟨ys, h1, r1⟩ := R.dK q
            have g2 : Go M c (RV M) (.ok (.int ws.length) h) Q E := g1
            rw [r1.length] at g2
            exact call_lenD pins s σ _ _ us Q I r ⟨_, ys, rfl, h1, go_val (RR := RV M) R (.int _) g2⟩
          | dT ws =>
            obtain ⟨ys, h1, r1⟩ := R.dT q
            have g2 : Go M c (RV M) (.ok (.int ws.length) h) Q E := g1
            rw [r1.length] at g2
            exact call_len_dT pins s σ _ _ us Q I r ⟨_, ys, rfl, h1, go_val (RR := RV M) R (.int _) g2⟩
          | _ => exact g1.elim
      | _ => exact g.elim
theorem bi_one {c : Cf} {h : LHeap} {vs : List Val} {f : Val → Res Val} {Q : VK} {E : XK} (g : Go M c (RV M) (match vs with
    | [v] => f v
    | _ => .bad) Q E) : ∃ v, vs = [v] ∧ Go M c (RV M) (f v) Q E := by
  cases vs with
  | nil => exact g.elim
  | cons v t =>
    cases t with
    | nil => exact ⟨v, rfl, g⟩
    | cons _ _ => exact g.elim
theorem bi_all (hK : X.K = M.K) (hc : X.calm = true) : CallR X (.builtin "all") (rBi M .all) := by
  intro pins s σ H xs us Q I r hr
  obtain ⟨c, h, vs, E, ⟨rfl, R⟩, rv, g⟩ := hr
  obtain ⟨v, rfl, g1⟩ := bi_one (h := h) g
  obtain ⟨x, rfl, rx⟩ := rv.one
  cases q : itemsL h v with
  | none => simp only [q] at g1; exact g1.elim
  | some ws =>
    simp only [q] at g1
    cases qb : bools ws with
    | none => simp only [qb] at g1; exact g1.elim
    | some bs =>
      simp only [qb] at g1
      obtain ⟨a, ys, rfl, hs, rvs⟩ := R.itemsL rx q
      rw [bools_rv rvs qb] at hs
      rw [allB_eq] at g1
      exact cr_all hc pins s σ _ _ us Q I r ⟨a, bs, rfl, by rw [hK]; exact hs, go_val (RR := RV M) R (.bl _) g1⟩
theorem bi_any (hK : X.K = M.K) (hc : X.calm = true) : CallR X (.builtin "any") (rBi M .any) := by
  intro pins s σ H xs us Q I r hr
  obtain ⟨c, h, vs, E, ⟨rfl, R⟩, rv, g⟩ := hr
  obtain ⟨v, rfl, g1⟩ := bi_one (h := h) g
  obtain ⟨x, rfl, rx⟩ := rv.one
  cases q : itemsL h v with
  | none => simp only [q] at g1; exact g1.elim
  | some ws =>
    simp only [q] at g1
    cases qb : bools ws with
    | none => simp only [qb] at g1; exact g1.elim
    | some bs =>
      simp only [qb] at g1
      obtain ⟨a, ys, rfl, hs, rvs⟩ := R.itemsL rx q
      rw [bools_rv rvs qb] at hs
      rw [anyB_eq] at g1
      exact cr_any hc pins s σ _ _ us Q I r ⟨a, bs, rfl, by rw [hK]; exact hs, go_val (RR := RV M) R (.bl _) g1⟩
theorem bi_sum (hK : X.K = M.K) (hc : X.calm = true) : CallR X (.builtin "sum") (rBi M .sum) := by
  intro pins s σ H xs us Q I r hr
  obtain ⟨c, h, vs, E, ⟨rfl, R⟩, rv, g⟩ := hr
  obtain ⟨v, rfl, g1⟩ := bi_one (h := h) g
  obtain ⟨x, rfl, rx⟩ := rv.one
  cases q : itemsL h v with
  | none => simp only [q] at g1; exact g1.elim
  | some ws =>
    simp only [q] at g1
    cases qb : intsOf ws with
    | none => simp only [qb] at g1; exact g1.elim
    | some bs =>
      simp only [qb] at g1
      obtain ⟨a, ys, rfl, hs, rvs⟩ := R.itemsL rx q
      rw [intsOf_rv rvs qb] at hs
      rw [sumI_eq] at g1
      exact cr_sum hc pins s σ _ _ us Q I r ⟨a, bs, rfl, by rw [hK]; exact hs, go_val (RR := RV M) R (.int _) g1⟩
theorem maxI_ok : ∀ (n : Int) (ms : List Int), maxI n ms ∈ n :: ms ∧ ∀ y ∈ n :: ms, y ≤ maxI n ms
  | n, [] => ⟨List.mem_cons_self .., fun y hy => by simp at hy; rw [hy]; exact Int.le_refl _⟩
  | n, m :: ms => by
    obtain ⟨h1, h2⟩ := maxI_ok (if m > n then m else n) ms
    have e : maxI n (m :: ms) = maxI (if m > n then m else n) ms := rfl
    rw [e]
    have h0 := h2 _ (List.mem_cons_self ..)
    refine ⟨?_, fun y hy => ?_⟩
    · rcases List.mem_cons.mp h1 with h | h
      · rw [h]
        by_cases q : m > n
        · rw [if_pos q]; exact List.mem_cons_of_mem _ (List.mem_cons_self ..)
        · rw [if_neg q]; exact List.mem_cons_self ..
      · exact List.mem_cons_of_mem _ (List.mem_cons_of_mem _ h)
    · rcases List.mem_cons.mp hy with h | h
      · by_cases q : m > n
        · rw [if_pos q] at h0 ⊢; omega
        · rw [if_neg q] at h0 ⊢; omega
      · rcases List.mem_cons.mp h with h | h
        · by_cases q : m > n
          · rw [if_pos q] at h0 ⊢; omega
          · rw [if_neg q] at h0 ⊢; omega
        · exact h2 y (List.mem_cons_of_mem _ h)
theorem minI_ok : ∀ (n : Int) (ms : List Int), minI n ms ∈ n :: ms ∧ ∀ y ∈ n :: ms, minI n ms ≤ y
  | n, [] => ⟨List.mem_cons_self .., fun y hy => by simp at hy; rw [hy]; exact Int.le_refl _⟩
  | n, m :: ms => by
    obtain ⟨h1, h2⟩ := minI_ok (if m < n then m else n) ms
    have e : minI n (m :: ms) = minI (if m < n then m else n) ms := rfl
    rw [e]
    have h0 := h2 _ (List.mem_cons_self ..)
    refine ⟨?_, fun y hy => ?_⟩
    · rcases List.mem_cons.mp h1 with h | h
      · rw [h]
        by_cases q : m < n
        · rw [if_pos q]; exact List.mem_cons_of_mem _ (List.mem_cons_self ..)
        · rw [if_neg q]; exact List.mem_cons_self ..
      · exact List.mem_cons_of_mem _ (List.mem_cons_of_mem _ h)
    · rcases List.mem_cons.mp hy with h | h
      · by_cases q : m < n
        · rw [if_pos q] at h0 ⊢; omega
        · rw [if_neg q] at h0 ⊢; omega
      · rcases List.mem_cons.mp h with h | h
        · by_cases q : m < n
          · rw [if_pos q] at h0 ⊢; omega
          · rw [if_neg q] at h0 ⊢; omega
        · exact h2 y (List.mem_cons_of_mem _ h)
theorem maxI_one {n m : Int} {ms : List Int} (h1 : m ∈ n :: ms) (h2 : ∀ y ∈ n :: ms, y ≤ m) : maxI n ms = m := Int.le_antisymm (h2 _ (maxI_ok n ms).1) ((maxI_ok n ms).2 _ h1)
theorem minI_one {n m : Int} {ms : List Int} (h1 : m ∈ n :: ms) (h2 : ∀ y ∈ n :: ms, m ≤ y) : minI n ms = m := Int.le_antisymm ((minI_ok n ms).2 _ h1) (h2 _ (minI_ok n ms).1)
theorem bi_max (hK : X.K = M.K) (hc : X.calm = true) : CallR X (.builtin "max") (rBi M .max) := by
  intro pins s σ H xs us Q I r hr
  obtain ⟨c, h, vs, E, ⟨rfl, R⟩, rv, g⟩ := hr
  cases rv with
  | nil => exact g.elim
  | cons r1 t =>
    cases t with
    | nil =>
      cases r1 with
      | @ref l hl =>
        have g1 : Go M c (RV M) (match h.get l with
          | some (.lst xs) => (match intsOf xs with
            | some (n :: ns) => .ok (.int (maxI n ns)) h
            | _ => .bad)
          | _ => .bad) Q E := g
        cases q : h.get l with
        | none => rw [q] at g1; exact g1.elim
        | some ob =>
          rw [q] at g1
          cases ob with
          | lst xs =>
            dsimp only at g1
            cases qi : intsOf xs with
            | none => rw [qi] at g1; exact g1.elim
            | some is =>
              rw [qi] at g1
              cases is with
              | nil => exact g1.elim
              | cons n ns =>
                dsimp only at g1
                obtain ⟨ys, h1, r1⟩ := R.lst q
                rw [intsOf_rv r1 qi] at h1
                exact cr_max hc pins s σ _ _ us Q I r ⟨c.r l, n :: ns, rfl, .inl (.inl h1), by simp, fun m m1 m2 => by rw [← maxI_one m1 m2]; exact go_val (RR := RV M) R (.int _) g1⟩
          | _ => exact g1.elim
      | _ => exact g.elim
    | cons r2 t =>
      cases t with
      | cons _ _ => cases r1 <;> cases r2 <;> exact g.elim
      | nil =>
        cases r1 with
        | int i =>
          cases r2 with
          | int j => exact call_max2 hc pins s σ _ _ us Q I r ⟨i, j, rfl, go_val (RR := RV M) R (.int _) g⟩
          | _ => exact g.elim
        | _ => cases r2 <;> exact g.elim
theorem bi_min (hK : X.K = M.K) (hc : X.calm = true) : CallR X (.builtin "min") (rBi M .min) := by
  intro pins s σ H xs us Q I r hr
  obtain ⟨c, h, vs, E, ⟨rfl, R⟩, rv, g⟩ := hr
  cases rv with
  | nil => exact g.elim
  | cons r1 t =>
    cases t with
    | nil =>
      cases r1 with
      | @ref l hl =>
        have g1 : Go M c (RV M) (match h.get l with
          | some (.lst xs) => (match intsOf xs with
            | some (n :: ns) => .ok (.int (minI n ns)) h
            | _ => .bad)
          | _ => .bad) Q E := g
        cases q : h.get l with
        | none => rw [q] at g1; exact g1.elim
        | some ob =>
          rw [q] at g1
          cases ob with
          | lst xs =>
            dsimp only at g1
            cases qi : intsOf xs with
            | none => rw [qi] at g1; exact g1.elim
            | some is =>
              rw [qi] at g1
              cases is with
              | nil => exact g1.elim
              | cons n ns =>
                dsimp only at g1
                obtain ⟨ys, h1, r1⟩ := R.lst q
                rw [intsOf_rv r1 qi] at h1
                exact cr_min hc pins s σ _ _ us Q I r ⟨c.r l, n :: ns, rfl, .inl (.inl h1), by simp, fun m m1 m2 => by rw [← minI_one m1 m2]; exact go_val (RR := RV M) R (.int _) g1⟩
          | _ => exact g1.elim
      | _ => exact g.elim
    | cons r2 t =>
      cases t with
      | cons _ _ => cases r1 <;> cases r2 <;> exact g.elim
      | nil =>
        cases r1 with
        | int i =>
          cases r2 with
          | int j => exact call_min2 hc pins s σ _ _ us Q I r ⟨i, j, rfl, go_val (RR := RV M) R (.int _) g⟩
          | _ => exact g.elim
        | _ => cases r2 <;> exact g.elim
theorem bi_int : CallR X (.type "int") (rBi M .int) := by
  intro pins s σ H xs us Q I r hr
  obtain ⟨c, h, vs, E, ⟨rfl, R⟩, rv, g⟩ := hr
  cases rv with
  | nil => exact g.elim
  | cons r1 t =>
    cases t with
    | cons _ _ => cases r1 <;> exact g.elim
    | nil =>
      cases r1 with
      | int i => exact call_int1 pins s σ _ _ us Q I r (.inl ⟨i, rfl, go_val (RR := RV M) R (.int _) g⟩)
      | _ => exact g.elim
theorem bi_tuple (hK : X.K = M.K) : CallR X (.type "tuple") (rBi M .tuple) := by
  intro pins s σ H xs us Q I r hr
  obtain ⟨c, h, vs, E, ⟨rfl, R⟩, rv, g⟩ := hr
  cases rv with
  | nil => exact g.elim
  | cons r1 t =>
    cases t with
    | cons _ _ => cases r1 <;> exact g.elim
    | nil =>
      cases r1 with
      | @tup ws a ys ht rt => exact call_tuple_of pins s σ _ _ us Q I r ⟨a, ys, rfl, .inr ⟨SqT.of ht, go_val (RR := RV M) R (.tup ht rt) g⟩⟩
      | @ref l hl =>
        have g1 : Go M c (RV M) (match h.get l with
          | some (.lst xs) => .ok (.tup xs) h
          | some (.frz xs) => .ok (.tup xs) h
          | _ => .bad) Q E := g
        cases q : h.get l with
        | none => rw [q] at g1; exact g1.elim
        | some o =>
          rw [q] at g1
          cases o with
          | lst ws =>
            obtain ⟨ys, h1, r1⟩ := R.lst q
            exact call_tuple_of pins s σ _ _ us Q I r ⟨_, ys, rfl, .inl ⟨SqL.of h1, go_tup R r1 g1⟩⟩
          | frz ws =>
            obtain ⟨ys, h1, r1⟩ := R.frz q
            exact call_tuple_of pins s σ _ _ us Q I r ⟨_, ys, rfl, .inl ⟨by rw [hK]; exact h1.sq, go_tup R r1 g1⟩⟩
          | _ => exact g1.elim
      | _ => exact g.elim
theorem keyV_rv {c : Cf} (k : Key) : RV M c (keyV k) (kV k) := by
  cases k with
  | inl i => exact .int i
  | inr s => exact .str s
theorem keysV_rv {c : Cf} : ∀ ks : List Key, RVs M c (ks.map keyV) (ks.map kV)
  | [] => .nil
  | k :: ks => .cons (keyV_rv k) (keysV_rv ks)
theorem keys_rv {c : Cf} : ∀ {kvs : List (Key × Val)} {ys : List (Key × V)}, RK Key M c kvs ys → RVs M c (kvs.map fun p => keyV p.1) (ys.map fun kv => kV kv.1)
  | _, _, .nil => .nil
  | _, _, .cons (k := k) _ t => .cons (keyV_rv k) (keys_rv t)
theorem keysT_rv {c : Cf} : ∀ {kvs : List (List Key × Val)} {ys : List (List Key × V)} {bs : List Addr}, RK (List Key) M c kvs ys → IsKeys c.H ys bs → RVs M c (kvs.map fun p => .tup (p.1.map keyV)) (bs.map V.ref)
  | _, _, _, .nil, ik => by cases ik; exact .nil
  | _, _, _, .cons (k := k) _ t, ik => by
    cases ik with
    | cons h1 t1 => exact .cons (.tup h1 (keysV_rv k)) (keysT_rv t t1)
theorem bi_list (hK : X.K = M.K) (hc : X.calm = true) : CallR X (.type "list") (rBi M .list) := by
  intro pins s σ H xs us Q I r hr
  obtain ⟨c, h, vs, E, ⟨rfl, R⟩, rv, g⟩ := hr
  cases rv with
  | nil => exact g.elim
  | cons r1 t =>
    cases t with
    | cons _ _ => cases r1 <;> exact g.elim
    | nil =>
      cases r1 with
      | @tup ws a ys ht rt => exact call_list_of pins s σ _ _ us Q I r ⟨a, ys, rfl, .inr (SqT.of ht), go_alloc_lst R rt g⟩
      | @ref l hl =>
        have g1 : Go M c (RV M) (match h.get l with
          | some (.lst xs) => alloc (.lst xs) h
          | some (.frz xs) => alloc (.lst xs) h
          | some (.dK kvs) => alloc (.lst (kvs.map fun p => keyV p.1)) h
          | some (.dT kvs) => alloc (.lst (kvs.map fun p => .tup (p.1.map keyV))) h
          | _ => .bad) Q E := g
        cases q : h.get l with
        | none => rw [q] at g1; exact g1.elim
        | some o =>
          rw [q] at g1
          cases o with
          | lst ws =>
            obtain ⟨ys, h1, r1⟩ := R.lst q
            exact call_list_of pins s σ _ _ us Q I r ⟨_, ys, rfl, .inl (SqL.of h1), go_alloc_lst R r1 g1⟩
          | frz ws =>
            obtain ⟨ys, h1, r1⟩ := R.frz q
            exact call_list_of pins s σ _ _ us Q I r ⟨_, ys, rfl, .inl (by rw [hK]; exact h1.sq), go_alloc_lst R r1 g1⟩
          | dK kvs =>
            obtain ⟨ys, h1, r1⟩ := R.dK q
            exact call_list_dK hc pins s σ _ _ us Q I r ⟨_, ys, rfl, h1, go_alloc_lst R (keys_rv r1) g1⟩
          | dT kvs =>
            obtain ⟨ys, h1, r1⟩ := R.dT q
            exact call_list_dT hc pins s σ _ _ us Q I r ⟨_, ys, rfl, .inl h1, fun p bs hp ik => go_alloc_lst R (keysT_rv r1 ik) g1 p hp⟩
          | _ => exact g1.elim
      | _ => exact g.elim
theorem se_bi (G : Gd M X N sc k W) (D : MdOk M md) {b : Bi} {x : Str} {p : Pos} {a : Expr} {as : List Expr} {ms : List E} (hf : freeN md sc x (biName b) = true) (hn : (a :: as).all notStar = true) (ha : PA X (a :: as) (tEvA M W (evs rc ms))) :
    PE X (.Call (.Name x p) (a :: as) [] pos) (tEv M W (stepE cl calls rc (.bi b ms))) := by
  obtain ⟨rfl, hg, hm⟩ := G.free D hf
  rw [List.all_cons, Bool.and_eq_true] at hn
  have go : ∀ σ H Q, tEv M W (stepE cl calls rc (.bi b ms)) σ H Q → tCB (rBi M b) (tEvA M W (evs rc ms)) σ H Q := fun σ H Q ⟨c, s, hh, ⟨e, R, S⟩, g⟩ => by
    subst e
    exact ⟨c, s, hh, ⟨rfl, R, S⟩, Go.bind g fun xs h1 c1 ys e1 R1 rx g1 => ⟨c1, h1, xs, _, ⟨rfl, R1⟩, rx, g1⟩⟩
  cases b with
  | len => exact PE.of (pe_callB (bi_len G.hK) hg hm PySem.boot_len ha (by decide +kernel) (by decide +kernel) (notStar_each hn.1) (stars_plain hn.2)) go
  | all => exact PE.of (pe_callB (bi_all G.hK G.calm) hg hm (by decide +kernel) ha (by decide +kernel) (by decide +kernel) (notStar_each hn.1) (stars_plain hn.2)) go
  | any => exact PE.of (pe_callB (bi_any G.hK G.calm) hg hm (by decide +kernel) ha (by decide +kernel) (by decide +kernel) (notStar_each hn.1) (stars_plain hn.2)) go
  | max => exact PE.of (pe_callB (bi_max G.hK G.calm) hg hm (by decide +kernel) ha (by decide +kernel) (by decide +kernel) (notStar_each hn.1) (stars_plain hn.2)) go
  | min => exact PE.of (pe_callB (bi_min G.hK G.calm) hg hm (by decide +kernel) ha (by decide +kernel) (by decide +kernel) (notStar_each hn.1) (stars_plain hn.2)) go
  | int => exact PE.of (pe_callTy bi_int hg hm (by decide +kernel) ha (by decide +kernel) (by decide +kernel) (notStar_each hn.1) (stars_plain hn.2)) go
  | tuple => exact PE.of (pe_callTy (bi_tuple G.hK) hg hm (by decide +kernel) ha (by decide +kernel) (by decide +kernel) (notStar_each hn.1) (stars_plain hn.2)) go
  | list => exact PE.of (pe_callTy (bi_list G.hK G.calm) hg hm (by decide +kernel) ha (by decide +kernel) (by decide +kernel) (notStar_each hn.1) (stars_plain hn.2)) go
  | sum => exact PE.of (pe_callB (bi_sum G.hK G.calm) hg hm (by decide +kernel) ha (by decide +kernel) (by decide +kernel) (notStar_each hn.1) (stars_plain hn.2)) go
end
end Ev

set_option Elab.async false
set_option linter.all false
set_option maxRecDepth 100000
set_option maxHeartbeats 2000000
/-! Expressions, part 4: isinstance, append, get, dict displays. -/
noncomputable section
namespace Ev
open PySem PySem.Spec PyProof.Rows L2
def tyS : Ty → String
  | .int => "int"
  | .str => "str"
  | .tuple => "tuple"
  | .list => "list"
  | .bool => "bool"
  | .dict => "dict"
  | _ => ""
def bT : Ty → Bool
  | .exc _ => false
  | .cls _ => false
  | _ => true
def kitAns (a : String) (t : Ty) : Option Bool := kitB a (tyS t)
theorem kit_non : ∀ t, bT t = true → kitB "NoneType" (tyS t) = some false := by
  intro t h
  cases t <;> first | (cases h; done) | decide +kernel
theorem kit_bl : ∀ t, bT t = true → kitB "bool" (tyS t) = some (match t with | .bool => true | .int => true | _ => false) := by
  intro t h
  cases t <;> first | (cases h; done) | decide +kernel
theorem kit_int : ∀ t, bT t = true → kitB "int" (tyS t) = some (match t with | .int => true | _ => false) := by
  intro t h
  cases t <;> first | (cases h; done) | decide +kernel
theorem kit_str : ∀ t, bT t = true → kitB "str" (tyS t) = some (match t with | .str => true | _ => false) := by
  intro t h
  cases t <;> first | (cases h; done) | decide +kernel
theorem kit_tup : ∀ t, bT t = true → kitB "tuple" (tyS t) = some (match t with | .tuple => true | _ => false) := by
  intro t h
  cases t <;> first | (cases h; done) | decide +kernel
theorem kit_lst : ∀ t, bT t = true → kitB "list" (tyS t) = some (match t with | .list => true | _ => false) := by
  intro t h
  cases t <;> first | (cases h; done) | decide +kernel
theorem kit_dct : ∀ t, bT t = true → kitB "dict" (tyS t) = some (match t with | .dict => true | _ => false) := by
  intro t h
  cases t <;> first | (cases h; done) | decide +kernel
section
variable {M : Mo} {X : Cx} {N : List Str} {sc : Scope} {k : Nat} {W : WX} {md : Md} {cl : Cl} {calls : Nat → List Val → LHeap → Res Val} {rc : Rec} {pos : Pos}
theorem isInst_ok {sub : Nat → Nat → Bool} {c : Cf} {h : LHeap} {v : Val} {x : V} {t : Ty} {b : Bool} {K : PySem.W.Frag} (hb : bT t = true) (R : RH M c h) (r : RV M c v x) (e : isInst sub h v t = some b) : ∃ T, TyX K c.H x (.type T) ∧ kitB T (tyS t) = some b := by
  cases r with
  | non => cases e; exact ⟨_, .base .non, kit_non t hb⟩
  | bl y =>
    refine ⟨_, .base (.bl y), (kit_bl t hb).trans ?_⟩
    cases t <;> first | exact e | (cases hb; done)
  | int y =>
    refine ⟨_, .base (.int y), (kit_int t hb).trans ?_⟩
    cases t <;> first | exact e | (cases hb; done)
  | str y =>
    refine ⟨_, .base (.str y), (kit_str t hb).trans ?_⟩
    cases t <;> first | exact e | (cases hb; done)
  | tup ht r =>
    refine ⟨_, .base (.tup ht), (kit_tup t hb).trans ?_⟩
    cases t <;> first | exact e | (cases hb; done)
  | @ref l hl =>
    unfold isInst at e
    cases q : h.get l with
    | none => simp only [q] at e; cases e
    | some o =>
      cases o with
      | lst ws =>
        obtain ⟨ys, h1, r1⟩ := R.lst q
        simp only [q] at e
        refine ⟨_, .base (.lst h1), (kit_lst t hb).trans ?_⟩
        cases t <;> first | exact e | (cases hb; done)
      | dK ws =>
        obtain ⟨ys, h1, r1⟩ := R.dK q
        simp only [q] at e
        refine ⟨_, .base (.dK h1), (kit_dct t hb).trans ?_⟩
        cases t <;> first | exact e | (cases hb; done)
      | dT ws =>
        obtain ⟨ys, h1, r1⟩ := R.dT q
        simp only [q] at e
        refine ⟨_, .base (.dT h1), (kit_dct t hb).trans ?_⟩
        cases t <;> first | exact e | (cases hb; done)
      | _ => simp only [q] at e; cases e
  | fn i => cases e
theorem ty_boot {t : Ty} {z : Str} (h : tyName t = some z) : bT t = true ∧ bootBuiltins z = some (.type (tyS t)) ∧ z ≠ "__name__" ∧ (z == ("__debug__" : Str)) = false := by
  cases t <;> first | (cases h; done) | (cases h; exact ⟨rfl, by decide +kernel, by decide +kernel, by decide +kernel⟩)
theorem se_isi (G : Gd M X N sc k W) (D : MdOk M md) {x y z : Str} {p p2 : Pos} {a : Expr} {ma : E} {t : Ty} (hf : freeN md sc x "isinstance" = true) (hn : notStar a = true) (ha : PE X a (tEv M W (rc.e ma))) (ht : tyName t = some z) (hy : freeN md sc y z = true) :
    PE X (.Call (.Name x p) [a, .Name y p2] [] pos) (tEv M W (stepE cl calls rc (.isi ma t))) := by
  obtain ⟨rfl, hg, hm⟩ := G.free D hf
  obtain ⟨rfl, hg2, hm2⟩ := G.free D hy
  obtain ⟨hb, bt, n1, n2⟩ := ty_boot ht
  refine PE.of (pe_callB call_isi hg hm (by decide +kernel) (pa_cons ha (pa_cons (pe_bltn (v := .ty (tyS t)) hg2 hm2 bt rfl n1 n2) pa_nil (notStar_each rfl)) (notStar_each hn)) (by decide +kernel) (by decide +kernel) (notStar_each hn) (stars_plain (es := [.Name y p2]) rfl)) fun σ H Q ⟨c, s, hh, ⟨e, R, S⟩, g⟩ => ?_
  subst e
  refine ⟨c, s, hh, ⟨rfl, R, S⟩, Go.bind g fun v h1 c1 w e1 R1 rx g1 => ?_⟩
  cases q : isInst cl.sub h1 v t with
  | none => rw [q] at g1; exact g1.elim
  | some b =>
    rw [q] at g1
    obtain ⟨T, ty, kt⟩ := isInst_ok (K := X.K) hb R1 rx q
    exact ⟨w, .ty (tyS t), .type T, .type (tyS t), b, rfl, .ty _, ty, kit_ty kt, go_val (RR := RV M) R1 (.bl b) g1⟩
/-! ### methods -/
theorem notCall0_base {o : Expr} {m : Str} {env : Env} {wh : Sem Value} (h : notCall0 o = true) : attributeBase o m env wh = wh := by
  unfold attributeBase
  cases o with
  | Call f as ks p =>
    cases f with
    | Name x q =>
      cases as with
      | nil =>
        cases ks with
        | nil =>
          have hx : (x != ("super" : Str)) = true := by
            have h : (!strEq x "super") = true := h
            rw [strEq_beq] at h
            exact h
          dsimp only
          rw [hx]
          simp only [Bool.true_or, if_true]
        | cons _ _ => rfl
      | cons _ _ => rfl
    | _ => rfl
  | _ => rfl
theorem few1 {e : Expr} {env : Env} {cpos : Pos} (h : notStar e = true) : ((backTo cpos (starEach [e] env)).all (fun x => !x.1) && (backToKw cpos (keywordEach [] env)).all (fun x => x.1.isSome)
    && decide (([e] : List Expr).length + ([] : List Keyword).length + (if ([] : List Keyword).isEmpty then 0 else 1) < 30)) = true := by
  rw [notStar_each h]
  rfl
theorem se_app (G : Gd M X N sc k W) {o e : Expr} {ap : Pos} {ml me : E} (hn : notStar e = true) (h0 : notCall0 o = true) (hl : (ap.endLine == pos.line) = true) (ho : PE X o (tEv M W (rc.e ml))) (he : PE X e (tEv M W (rc.e me))) :
    PE X (.Call (.Attribute o "append" ap) [e] [] pos) (tEv M W (stepE cl calls rc (.app ml me))) := by
  refine PE.of (pe_bm PySem.F.plainAttrs_list PySem.F.slot_list_append PySem.F.type_list_append mt_append ho (pa_cons he pa_nil (notStar_each hn)) (notCall0_base h0) (few1 hn) hl (notStar_each hn) (stars_plain (es := []) rfl)) fun σ H Q ⟨c, s, hh, ⟨ee, R, S⟩, g⟩ => ?_
  subst ee
  refine ⟨c, s, hh, ⟨rfl, R, S⟩, Go.bind g fun v h1 c1 w e1 R1 rx g1 => ?_⟩
  cases rx with
  | @ref l hl =>
    have g2 : Go M c1 (RV M) (match h1.get l with
      | some (.lst _) => (rc.e me s h1).bind fun y h2 => (match h2.get l with
        | some (.lst xs) => (match Nat.blt xs.length line with
          | true => store l (.lst (xs ++ [y])) h2 .non
          | false => .bad)
        | _ => .bad)
      | _ => .bad) Q _ := g1
    cases q : h1.get l with
    | none => rw [q] at g2; exact g2.elim
    | some ob =>
      rw [q] at g2
      cases ob with
      | lst ws =>
        obtain ⟨ys, hy, _⟩ := R1.lst q
        refine ⟨.inl ⟨rfl, ys, SqL.of hy⟩, c1, s, h1, ⟨rfl, R1, S.ext e1⟩, Go.bind g2 fun u h2 c2 z e2 R2 ru g3 => ?_⟩
        cases q2 : h2.get l with
        | none => simp only [q2] at g3; exact g3.elim
        | some ob2 =>
          cases ob2 with
          | lst xs =>
            simp only [q2] at g3
            cases q3 : Nat.blt xs.length line with
            | false => rw [q3] at g3; exact g3.elim
            | true =>
              rw [q3] at g3
              obtain ⟨zs, hz, rz⟩ := R2.lst q2
              have hb := blt_true q3
              rw [rz.length, line_eq] at hb
              rw [← e2.x.r l hl]
              exact ⟨c2.r l, zs, z, rfl, rfl, hz, hb, go_store_lst (RR := RV M) R2 q2 rfl (by rw [hz]; exact True.intro) (rz.append (.cons ru .nil)) (fun _ _ => .non) g3⟩
          | _ => simp only [q2] at g3; exact g3.elim
      | _ => exact g2.elim
  | _ => exact g1.elim
theorem isD_ok {c : Cf} {h : LHeap} {v : Val} {x : V} (R : RH M c h) (r : RV M c v x) (e : isDict h v = true) : ∃ a, x = .ref a ∧ IsD c.H a := by
  cases r with
  | @ref l hl =>
    have e' : (match h.get l with
      | some (.dK _) => true
      | some (.dT _) => true
      | _ => false) = true := e
    cases q : h.get l with
    | none => rw [q] at e'; cases e'
    | some o =>
      rw [q] at e'
      cases o with
      | dK ws => obtain ⟨ys, h1, _⟩ := R.dK q; exact ⟨_, rfl, .inl ⟨ys, Rd.of h1⟩⟩
      | dT ws => obtain ⟨ys, h1, _⟩ := R.dT q; exact ⟨_, rfl, .inr ⟨ys, Rd.of h1⟩⟩
      | _ => cases e'
  | _ => cases e
theorem se_get1 (G : Gd M X N sc k W) {o e : Expr} {ap : Pos} {ml me : E} (hn : notStar e = true) (h0 : notCall0 o = true) (hl : (ap.endLine == pos.line) = true) (ho : PE X o (tEv M W (rc.e ml))) (he : PE X e (tEv M W (rc.e me))) :
    PE X (.Call (.Attribute o "get" ap) [e] [] pos) (tEv M W (stepE cl calls rc (.get1 ml me))) := by
  refine PE.of (pe_dget1 (by have := G.un; omega) ho he ⟨notCall0_base h0, few1 hn, hl, by rw [notStar_each hn]; rfl⟩) fun σ H Q ⟨c, s, hh, ⟨ee, R, S⟩, g⟩ => ?_
  subst ee
  refine ⟨c, s, hh, ⟨rfl, R, S⟩, Go.bind g fun v h1 c1 w e1 R1 rx g1 => ?_⟩
  cases q : isDict h1 v with
  | false => simp only [q] at g1; exact g1.elim
  | true =>
    simp only [q] at g1
    obtain ⟨a, ea, hd⟩ := isD_ok R1 rx q
    refine ⟨a, ea, hd, c1, s, h1, ⟨rfl, R1, S.ext e1⟩, Go.bind g1 fun u h2 c2 z e2 R2 ru g2 => ?_⟩
    cases q2 : dget h2 v u with
    | none => simp only [q2] at g2; exact g2.elim
    | some ov =>
      obtain ⟨a', o', ea', hg, ro⟩ := dget_rv R2 (rx.ext e2) ru q2
      have : a' = a := by rw [ea] at ea'; cases ea'; rfl
      subst this
      refine ⟨o', hg, ?_⟩
      cases ov with
      | none =>
        simp only [q2] at g2
        cases o' with
        | none => exact go_val (RR := RV M) R2 .non g2
        | some _ => exact ro.elim
      | some vv =>
        simp only [q2] at g2
        cases o' with
        | none => exact ro.elim
        | some _ => exact go_val (RR := RV M) R2 ro g2
/-! ### dict displays -/
theorem se_dnewK : PE X (.Dict [] [] pos) (tEv M W (stepE cl calls rc .dnewK)) := PE.of pe_dnewK fun σ H Q ⟨c, s, hh, ⟨ee, R, S⟩, g⟩ => by
  subst ee
  exact go_alloc_dK R .nil g
theorem se_dnewT : PE X (.Dict [] [] pos) (tEv M W (stepE cl calls rc .dnewT)) := PE.of pe_dnewT fun σ H Q ⟨c, s, hh, ⟨ee, R, S⟩, g⟩ => by
  subst ee
  exact go_alloc_dT R .nil g
/-- the entries of a display, each key a written text -/
inductive KVsOk (M : Mo) (X : Cx) (W : WX) (rc : Rec) (pos : Pos) : List (Option Expr) → List Expr → List (Str × E) → Prop where
  | nil : KVsOk M X W rc pos [] [] []
  | cons {x : Str} {j : Nat} {p : Pos} {v : Expr} {m : E} {ks : List (Option Expr)} {vs : List Expr} {ps : List (Str × E)} (hv : PE X v (tEv M W (rc.e m))) (t : KVsOk M X W rc pos ks vs ps) : KVsOk M X W rc pos (some (.Constant (.str x) j p) :: ks) (v :: vs) ((x, m) :: ps)
  | glb {x y : Str} {p : Pos} {v : Expr} {m : E} {ks : List (Option Expr)} {vs : List Expr} {ps : List (Str × E)} (hk : PE X (.Name x p) (tC (.str y))) (hv : PE X v (tEv M W (rc.e m))) (t : KVsOk M X W rc pos ks vs ps) : KVsOk M X W rc pos (some (.Name x p) :: ks) (v :: vs) ((y, m) :: ps)
theorem KVsOk.run {ks : List (Option Expr)} {vs : List Expr} {ps : List (Str × E)} (h : KVsOk M X W rc pos ks vs ps) : PPs X pos ks vs (ps.map fun p => (tC (.str p.1), tEv M W (rc.e p.2))) ∧ ks.all (·.isSome) = true ∧ ks.length = vs.length ∧ ks.length = ps.length := by
  induction h with
  | nil => exact ⟨pps_nil, rfl, rfl, rfl⟩
  | cons hv t ih => exact ⟨pps_cons pe_str hv ih.1, by rw [List.all_cons, ih.2.1]; rfl, by simp [ih.2.2.1], by simp [ih.2.2.2]⟩
  | glb hk hv t ih => exact ⟨pps_cons hk hv ih.1, by rw [List.all_cons, ih.2.1]; rfl, by simp [ih.2.2.1], by simp [ih.2.2.2]⟩
theorem pairs_go {σ : St} {s : LSt} {Q : List (V × V) → Hp → Prop} : ∀ {ps : List (Str × E)} {c : Cf} {h : LHeap} {E : XK} {Q0 : List (Key × V) → Hp → Prop}, RH M c h → RSl M c s σ →
    Go M c (RK Key M) (evKVs rc ps s h) Q0 (fun cls d H' => W cls d σ H') → (∀ kvs H, Q0 kvs H → Q (kvs.map fun kv => (kV kv.1, kv.2)) H) →
    tPairs (ps.map fun p => (tC (.str p.1), tEv M W (rc.e p.2))) σ c.H Q
  | [], c, h, E, Q0, R, S, g, hq => hq [] _ (go_val (RR := RK Key M) R .nil g)
  | (x, m) :: ps, c, h, E, Q0, R, S, g, hq => by
    refine ⟨c, s, h, ⟨rfl, R, S⟩, Go.bind g fun v h1 c1 w e1 R1 rx g1 => ?_⟩
    refine pairs_go (E := E) (Q0 := fun kvs H => Q0 ((.inr x, w) :: kvs) H) R1 (S.ext e1) (Go.bind g1 fun us h2 c2 ys e2 R2 ru g2 => go_val (RR := RK Key M) R2 (.cons (rx.ext e2) ru) g2) fun kvs H q => ?_
    exact hq ((.inr x, w) :: kvs) H q
theorem se_dsp {ks : List (Option Expr)} {vs : List Expr} {kvs : List (Str × E)} (h : KVsOk M X W rc pos ks vs kvs) (h1 : 1 ≤ ks.length) (h15 : ks.length ≤ 15) : PE X (.Dict ks vs pos) (tEv M W (stepE cl calls rc (.dsp kvs))) := by
  obtain ⟨pp, ha, hl, hl2⟩ := h.run
  refine PE.of (pe_disp pp ha hl (fun e => by rw [e] at h1; simp at h1) h15) fun σ H Q ⟨c, s, hh, ⟨ee, R, S⟩, g⟩ => ?_
  subst ee
  intro p hp
  obtain ⟨R', ex⟩ := R.side (u := .dK []) hp
  have nn : ∀ l, l < (c.upd p (.dK [])).n → (c.upd p (.dK [])).nm l = true → (c.upd p (.dK [])).r l ≠ p := R.new hp
  refine pairs_go (E := fun _ _ _ => False) (Q0 := fun kv H => H p = some (.dK []) ∧ kv.length ≤ 15 ∧ Q (.ref p) (L2.upd H p (.dK (mergeK [] kv)))) R' (S.ext ex) ?_ fun kv H q => ⟨q.1, kv, rfl, q.2.1, q.2.2⟩
  have g0 : Go M c (RV M) ((evKVs rc kvs s hh).bind fun ps h1 => match Nat.ble ps.length 15 with
      | true => alloc (.dK (mergeL [] ps)) h1
      | false => .bad) Q (fun cls d H' => W cls d σ H') := g
  revert g0
  cases evKVs rc kvs s hh with
  | bad => exact id
  | exc kk fs h2 => exact fun g0 c' cls d e R2 rx => g0 c' cls d (ex.trans e) R2 rx
  | ok ps h2 =>
    intro g0 c2 ys e2 R2 rp
    have g2 : Go M c (RV M) (match Nat.ble ps.length 15 with
      | true => alloc (.dK (mergeL [] ps)) h2
      | false => .bad) Q (fun cls d H' => W cls d σ H') := g0
    have hp2 : c2.H p = some (.dK []) := e2.f p _ upd_same (fun ⟨_, z⟩ => nomatch z) nn
    cases q : Nat.ble ps.length 15 with
    | false => rw [q] at g2; exact g2.elim
    | true =>
      rw [q] at g2
      have hb := ble_true q
      rw [rp.length] at hb
      refine ⟨hp2, hb, go_adopt_dK R2 (ex.trans e2) (NT.none hp) (by rw [hp2]; exact True.intro) ?_ (mergeL_rv rp .nil) g2⟩
      intro l hl hm e
      by_cases ql : l < c.n
      · rw [e2.x.r l ql] at e
        rw [e2.m l ql] at hm
        exact nn l ql hm e
      · obtain ⟨ps, z⟩ := e2.fr l (Nat.le_of_not_lt ql) hl (.dK []) (by rw [e]; exact upd_same)
        cases z
end
end Ev

set_option Elab.async false
set_option linter.all false
set_option maxRecDepth 100000
set_option maxHeartbeats 2000000
/-! Own classes: fields, methods, new instances. -/
noncomputable section
namespace Ev
open PySem PySem.Spec PyProof.Rows L2
theorem Go.ext {M : Mo} {α β : Type} {c c1 : Cf} {R : Cf → α → β → Prop} {r : Res α} {Q : β → Hp → Prop} {E : XK} (e : Ext M c c1) (g : Go M c R r Q E) : Go M c1 R r Q E := by
  cases r with
  | ok a h => exact fun c' b e' => g c' b (e.trans e')
  | exc kk fs h => exact fun c' cls d e' => g c' cls d (e.trans e')
  | bad => exact g
/-- the fields that instances have -/
def InsOk (M : Mo) (cl : Cl) : Prop := ∀ c f, inS f (cl.flds c) = true → Cls M.K (M.cb c) ∧ NoAttr M.K (M.cb c) f
theorem lookF_rv {M : Mo} {c : Cf} {f : Str} {v : Val} : ∀ {fs : List (Str × Val)} {gs : List (Str × V)}, RF M c fs gs → lookF f fs = some v → ∃ y, gs.lookup f = some y ∧ RV M c v y
  | _, _, .nil, e => by cases e
  | _, _, .cons (f := g) h t, e => by
    unfold lookF at e
    rw [List.lookup_cons]
    dsimp only at e
    have hc : (f == g) = strEq g f := by
      rw [strEq_beq]
      cases q : g == f with
      | true => rw [eq_of_beq q]; simp
      | false =>
        have : g ≠ f := fun z => by rw [z] at q; simp at q
        simp [Ne.symm this]
    rw [hc]
    cases q : strEq g f with
    | true => rw [q] at e; cases e; exact ⟨_, rfl, h⟩
    | false => rw [q] at e; exact lookF_rv t e
theorem lookF_none {M : Mo} {c : Cf} {f : Str} : ∀ {fs : List (Str × Val)} {gs : List (Str × V)}, RF M c fs gs → lookF f fs = none → gs.lookup f = none
  | _, _, .nil, e => rfl
  | _, _, .cons (f := g) h t, e => by
    unfold lookF at e
    rw [List.lookup_cons]
    dsimp only at e
    have hc : (f == g) = strEq g f := by
      rw [strEq_beq]
      cases q : g == f with
      | true => rw [eq_of_beq q]; simp
      | false =>
        have : g ≠ f := fun z => by rw [z] at q; simp at q
        simp [Ne.symm this]
    rw [hc]
    cases q : strEq g f with
    | true => rw [q] at e; cases e
    | false => rw [q] at e; exact lookF_none t e
theorem putFV_rv {M : Mo} {c : Cf} {f : Str} {v : Val} {y : V} (r : RV M c v y) : ∀ {fs : List (Str × Val)} {gs : List (Str × V)}, RF M c fs gs → RF M c (putFV f v fs) (putF f y gs)
  | _, _, .nil => .cons r .nil
  | _, _, .cons (f := g) (x := x) (y := z) (xs := xs) (ys := ys) h t => by
    show RF M c (match strEq g f with
      | true => (g, v) :: xs
      | false => (g, x) :: putFV f v xs) (if g = f then (g, y) :: ys else (g, z) :: putF f y ys)
    cases q : strEq g f with
    | true =>
      rw [if_pos (strEq_iff.mp q)]
      exact .cons r t
    | false =>
      rw [if_neg (fun e => by rw [strEq_iff.mpr e] at q; cases q)]
      exact .cons h (putFV_rv r t)
theorem RF.length {M : Mo} {c : Cf} : ∀ {fs : List (Str × Val)} {gs : List (Str × V)}, RF M c fs gs → fs.length = gs.length
  | _, _, .nil => rfl
  | _, _, .cons _ t => by simp [RF.length t]
theorem RH.ins {M : Mo} {c : Cf} {h : LHeap} {l k : Nat} {fs : List (Str × Val)} (R : RH M c h) (e : h.get l = some (.ins k fs)) : ∃ dx gs, c.H (c.r l) = some (.ins (M.cb k) dx gs) ∧ RF M c fs gs := by
  cases R.o l _ e with
  | ins hh r => exact ⟨_, _, hh, r⟩
section
variable {M : Mo} {X : Cx} {N : List Str} {sc : Scope} {k : Nat} {W : WX} {md : Md} {cl : Cl} {calls : Nat → List Val → LHeap → Res Val} {rc : Rec} {pos : Pos}
theorem se_fld (G : Gd M X N sc k W) (D : InsOk M cl) {o : Expr} {mo : E} {f : Str} (h0 : notCall0 o = true) (ho : PE X o (tEv M W (rc.e mo))) : PE X (.Attribute o f pos) (tEv M W (stepE cl calls rc (.fld mo f))) :=
  PE.of (pe_fld ho (notCall0_base h0)) fun σ H Q ⟨c, s, hh, ⟨ee, R, S⟩, g⟩ => by
    subst ee
    refine ⟨c, s, hh, ⟨rfl, R, S⟩, Go.bind g fun v h1 c1 w e1 R1 rx g1 => ?_⟩
    cases rx with
    | @ref l hl =>
      dsimp only at g1
      cases q : h1.get l with
      | none => rw [q] at g1; exact g1.elim
      | some ob =>
        rw [q] at g1
        cases ob with
        | ins kc fs =>
          dsimp only at g1
          cases qi : inS f (cl.flds kc) with
          | false => rw [qi] at g1; exact g1.elim
          | true =>
            rw [qi] at g1
            obtain ⟨v, e2, g2⟩ := optR_go g1
            obtain ⟨dx, gs, hh, rf⟩ := R1.ins q
            obtain ⟨y, ey, ry⟩ := lookF_rv rf e2
            obtain ⟨C1, C2⟩ := D kc f qi
            exact ⟨c1.r l, M.cb kc, dx, gs, y, rfl, hh, by rw [G.hK]; exact C1, by rw [G.hK]; exact C2, ey, go_val (RR := RV M) R1 ry g2⟩
        | _ => exact g1.elim
    | _ => exact g1.elim
/-! ### methods -/
theorem few_all {env : Env} {cpos : Pos} : ∀ {es : List Expr}, es.all notStar = true → (backTo cpos (starEach es env)).all (fun x => !x.1) = true
  | [], _ => rfl
  | e :: es, h => by
    rw [List.all_cons, Bool.and_eq_true] at h
    rw [notStar_each h.1]
    show (!false && (backTo cpos (starEach es env)).all (fun x => !x.1)) = true
    rw [few_all h.2]
    rfl
theorem meth_tree {o : Expr} {m : Str} {apos pos : Pos} {es : List Expr} {env : Env} (hb : attributeBase o m env (eval o env) = eval o env) (hn : es.all notStar = true) (hl : es.length < 25) (hline : (apos.endLine == pos.line) = true) :
    eval (.Call (.Attribute o m apos) es [] pos) env = (do
      let ov ← eval o env
      standAt apos.atName
      let (f, first) ← holding [ov] (getMethod ov m (do return (← importBound o env).getD true))
      callWith pos f first (backTo pos (starEach es env)) (backToKw pos (keywordEach [] env))) := by
  have hform : methodCallForm (es.length + ([] : List Keyword).length) (backTo pos (starEach es env)) (backToKw pos (keywordEach [] env)) = true := by
    show ((backTo pos (starEach es env)).all (fun x => !x.1) && true && decide (es.length + 0 + 0 < 30)) = true
    rw [few_all hn, decide_eq_true (by omega)]
    rfl
  have hpos : methodCallPos true o env apos pos = pure pos := by unfold methodCallPos; simp [hline]
  refine mcall_of hb fun ov => ?_
  unfold methodCall
  rw [hform, hpos]
  simp only [calleeOf, if_true, pure_bind]
theorem se_meth (G : Gd M X N sc k W) (D : CallsOk M md k calls) {c f : Nat} {m : Str} {o : Expr} {apos : Pos} {es : List Expr} {mo : E} {ms : List E} (hm : mthIs c m ms.length md.fns f = true) (h0 : notCall0 o = true) (hline : (apos.endLine == pos.line) = true) (hle : es.length < 25)
    (ho : PE X o (tEv M W (rc.e mo))) (hn : es.all notStar = true) (ha : PA X es (tEvA M W (evs rc ms))) (hlen : es.length = ms.length) : PE X (.Call (.Attribute o m apos) es [] pos) (tEv M W (stepE cl calls rc (.meth c f m mo ms))) := by
  obtain ⟨hc, hme, fd, ps, F, B⟩ := D.m f c m ms.length hm
  rw [← G.hK] at hc hme
  refine ⟨fun pins s σ H Q I h => ?_⟩
  refine PySem.W.methodCall_KW (pl := (do return (← importBound o X.env).getD true)) (thn (ho.run pins s σ H (fun x H1 => ∃ a dx gs, x = .ref a ∧ H1 a = some (.ins (M.cb c) dx gs) ∧ gs.lookup m = none ∧ tEvA M W (evs rc ms) σ H1 fun vs H2 => spOf M (ms.length + 1) (calls f) (x :: vs) H2 Q (fun cls d H' => W cls d σ H')) I ?_) fun u s1 ⟨x, H1, I1, rx, a, dx, gs, ex, ea, l, q⟩ => ?_) (meth_tree (notCall0_base h0) hn hle hline)
  · obtain ⟨c0, s0, hh, ⟨ee, R, S⟩, g⟩ := h
    subst ee
    refine ⟨c0, s0, hh, ⟨rfl, R, S⟩, Go.bind g fun v h1 c1 w e1 R1 rx g1 => ?_⟩
    cases rx with
    | @ref l hl =>
      dsimp only at g1
      cases q : h1.get l with
      | none => rw [q] at g1; exact g1.elim
      | some ob =>
        rw [q] at g1
        cases ob with
        | ins kc fs =>
          dsimp only at g1
          cases qb : Nat.beq kc c with
          | false => rw [qb] at g1; exact g1.elim
          | true =>
            rw [qb] at g1
            obtain rfl := Nat.eq_of_beq_eq_true qb
            dsimp only at g1
            cases ql : lookF m fs with
            | some z => rw [ql] at g1; exact g1.elim
            | none =>
              rw [ql] at g1
              obtain ⟨dx, gs, hh2, rf⟩ := R1.ins q
              refine ⟨c1.r l, dx, gs, rfl, hh2, lookF_none rf ql, c1, s0, h1, ⟨rfl, R1, S.ext e1⟩, Go.bindE g1 fun us h2 c2 ys er e2 R2 ru g2 => ?_⟩
              refine ⟨c2, h2, .ref l :: us, ⟨rfl, R2⟩, .cons ((RV.ref hl).ext e2) ru, ?_, g2⟩
              rw [List.length_cons, evs_len er]
        | _ => exact g1.elim
    | _ => exact g1.elim
  · subst ex
    obtain rfl : u = Value.ref a := rx
    refine getmeth_ok I1 ea hc hme l ?_
    cases es with
    | nil =>
      have hms : ms = [] := by cases ms with
        | nil => rfl
        | cons _ _ => cases hlen
      subst hms
      obtain ⟨c2, s2, h2, ⟨rfl, R2, S2⟩, g2⟩ := q
      have q2 := go_val (RR := RVs M) R2 .nil g2
      exact PySem.W.callWith_K0 (first := [.ref a]) I1.kIn hme.kp (runG G (us := [.ref a]) (vs := [.ref a]) F B I1 (.cons rfl .nil) q2)
    | cons e es =>
      rw [List.all_cons, Bool.and_eq_true] at hn
      refine PySem.W.callWith_K (first := [.ref a]) (h₀ := X.base) I.ok.mod.kin hme.kp (thn (ha.run pos pins s1 σ H1 _ I1 q) fun us s2 ⟨vs, H2, I2, r, q2⟩ => ⟨I2.kIn, ?_⟩) (notStar_each hn.1) (stars_plain hn.2)
      exact runG G (us := .ref a :: us) (vs := .ref a :: vs) F B I2 (.cons rfl r) q2
/-! ### new instances -/
theorem make_gu {A : Around} {C : Addr} {us : List Value} (gu : A.guards = some []) : (A.under (.builtin "type.__call__" ⟨.ref C :: us, []⟩)).guards = some [] := by
  have h : (Code.builtin "type.__call__" ⟨.ref C :: us, []⟩).guards = [] := by
    have : (Code.builtin "type.__call__" ⟨.ref C :: us, []⟩).isGuard = false := by
      show guardIds.contains "type.__call__" = false
      decide +kernel
    unfold Code.guards
    rw [this]
    rfl
  unfold Around.under
  dsimp only
  rw [h]
  exact gu
theorem make_run {pins : List (Addr × Obj)} {σ : St} {H : Hp} {s : Shared} {Q : VK} {us : List Value} {vs : List V} {C fI : Addr} {fd : FuncData} {ps : List Str} {sp : Sp} {E : XK} {j : Nat} (mk : PySem.W.makesIn X.K C = true) (hi : Meth X.K C "__init__" fI) (F : FnG X.prog X.w X.K X.mg X.base j fI fd ps sp)
    (hr : Room (j + 1) X.A) (gu : X.A.guards = some []) (hb : Binds X.K fd ps []) (hx : PassesAt (L2.CX X.prog X.w) X σ E) (I : Inv X pins σ H s) (r : Vals vs us)
    (h : ∀ x dx, H x = none → H dx = none → dx ≠ x → sp (.ref x :: vs) (upd (upd H dx (.own x)) x (.ins C dx [])) (fun v H2 => v = .non ∧ Q (.ref x) H2) E) : wpAny (model X.prog X.w) X.A (call (.ref C) us) (EP X pins σ Q) X.xe s := by
  obtain ⟨n, hn⟩ : ∃ n, n = s.heap.objs.size := ⟨_, rfl⟩
  have q0 := h (n + 1) n (by rw [hn]; exact I.hok.fresh (Nat.le_succ _)) (by rw [hn]; exact I.hok.fresh (Nat.le_refl _)) (Nat.ne_of_lt (Nat.lt_succ_self _))
  have J := Inv.made (C := C) I
  rw [← hn] at J
  have rv : Vals (V.ref (n + 1) :: vs) (Value.ref (n + 1) :: us) := .cons rfl r
  have len : (Value.ref (n + 1) :: us).length = ps.length := by rw [← rv.length]; exact F.len _ _ _ _ q0
  have hb' := hb _ (Value.ref (n + 1) :: us) J.kIn (by rw [List.append_nil]; exact len)
  rw [List.append_nil] at hb'
  refine wpAny_call (make_map (f := fI) I.kIn mk hi.at_ (beq_iff_eq.mp hi.fn) ?_)
  rw [← hn]
  refine codeAny_mono (F.run _ X.stack _ _ ⟨Value.ref (n + 1) :: us, []⟩ (Value.ref (n + 1) :: us) _ _ E (hr.make C us []) (make_gu gu) (J.env0.make C us []) hb' rv q0) fun res s' hq => ?_
  cases res with
  | error e => exact hx pins _ _ e s' J hq
  | ok fl =>
    cases fl with
    | ret u =>
      obtain ⟨v, H', J3, r3, ev, q3⟩ := J.after hq
      subst ev
      exact ⟨r3, ⟨V.ref (n + 1), H', J3, rfl, q3⟩⟩
    | _ => exact False.elim hq
theorem se_make (G : Gd M X N sc k W) (D : CallsOk M md k calls) {c f : Nat} {x : Str} {p : Pos} {es : List Expr} {ms : List E} (hc : clsNm x md.clss c = true) (hm : mthIs c sInitN ms.length md.fns f = true) (hg : isGl (look sc.names x) = true) (hd : (!strEq x sDebug) = true)
    (hn : es.all notStar = true) (ha : PA X es (tEvA M W (evs rc ms))) (hlen : es.length = ms.length) : PE X (.Call (.Name x p) es [] pos) (tEv M W (stepE cl calls rc (.make c f ms))) := by
  obtain ⟨hcl, hme, fd, ps, F, B⟩ := D.m f c _ ms.length hm
  obtain ⟨hmg, mk, kp⟩ := D.n c x hc
  have F' : FnG X.prog X.w X.K X.mg X.base k (M.fa f) fd ps (spOf M (ms.length + 1) (calls f)) := by rw [G.hP, G.hw, G.hK, G.hmg, G.hbase]; exact F
  rw [← G.hK] at hcl hme B mk kp
  rw [← G.hmg] at hmg
  have read : ∀ {σ : St} {H : Hp} {Q : VK}, tEv M W (stepE cl calls rc (.make c f ms)) σ H Q → tEvA M W (evs rc ms) σ H fun vs H1 => ∀ x dx, H1 x = none → H1 dx = none → dx ≠ x →
      spOf M (ms.length + 1) (calls f) (.ref x :: vs) (upd (upd H1 dx (.own x)) x (.ins (M.cb c) dx [])) (fun v H2 => v = .non ∧ Q (.ref x) H2) (fun cls d H' => W cls d σ H') := by
    intro σ H Q h
    obtain ⟨c0, s0, hh, ⟨ee, R, S⟩, g⟩ := h
    subst ee
    refine ⟨c0, s0, hh, ⟨rfl, R, S⟩, Go.bindE g fun us h1 c1 ys er e1 R1 ru g1 => ?_⟩
    intro x dx hx hdx ne
    obtain ⟨R2, ex2⟩ := R1.side (u := .own x) hdx
    have hx2 : (c1.upd dx (.own x)).H x = none := by
      show upd c1.H dx (.own x) x = none
      rw [upd_ne (Ne.symm ne)]; exact hx
    have ex3 : Ext M (c1.upd dx (.own x)) ((c1.upd dx (.own x)).push x (.ins (M.cb c) dx [])) := Cf.push_ext hx2
    have R3 : RH M ((c1.upd dx (.own x)).push x (.ins (M.cb c) dx [])) (h1.push (.ins c [])) := R2.push hx2 (.ins upd_same .nil)
    have rn : ((c1.upd dx (.own x)).push x (.ins (M.cb c) dx [])).r c1.n = x := if_pos rfl
    refine ⟨_, h1.push (.ins c []), .ref h1.n :: us, ⟨rfl, R3⟩, .cons ?_ (ru.ext (ex2.trans ex3)), by rw [List.length_cons, evs_len er], ?_⟩
    · have : RV M ((c1.upd dx (.own x)).push x (.ins (M.cb c) dx [])) (.ref c1.n) (.ref (((c1.upd dx (.own x)).push x (.ins (M.cb c) dx [])).r c1.n)) := .ref (Nat.lt_succ_self _)
      rw [rn, R1.n] at this
      exact this
    · have g3 := Go.ext (ex2.trans ex3) g1
      refine Go.bind g3 fun v h2 c2 w e2 R4 rv g4 => ?_
      cases rv with
      | non =>
        refine ⟨rfl, ?_⟩
        have rr : RV M c2 (.ref h1.n) (.ref x) := by
          have : RV M ((c1.upd dx (.own x)).push x (.ins (M.cb c) dx [])) (.ref c1.n) (.ref (((c1.upd dx (.own x)).push x (.ins (M.cb c) dx [])).r c1.n)) := .ref (Nat.lt_succ_self _)
          rw [rn, R1.n] at this
          exact this.ext e2
        exact go_val (RR := RV M) R4 rr g4
      | _ => exact g4.elim
  refine ⟨fun pins s σ H Q I h => ?_⟩
  refine wpAny_Call_Name_kw (ld_glob I (G.gl hg) hmg ?_ (not_eq hd))
  have h := read h
  cases es with
  | nil =>
    have hms : ms = [] := by cases ms with
      | nil => rfl
      | cons _ _ => cases hlen
    subst hms
    obtain ⟨c2, s2, h2, ⟨rfl, R2, S2⟩, g2⟩ := h
    have q2 := go_val (RR := RVs M) R2 .nil g2
    exact PySem.W.callWith_K0 I.kIn kp (make_run (us := []) mk hme F' G.room G.gu B (passAt' G.tk σ) I .nil q2)
  | cons e es =>
    rw [List.all_cons, Bool.and_eq_true] at hn
    refine PySem.W.callWith_K (h₀ := X.base) I.ok.mod.kin kp (thn (ha.run pos pins s σ H _ I h) fun us s1 ⟨vs, H1, I1, r, q⟩ => ⟨I1.kIn, ?_⟩) (notStar_each hn.1) (stars_plain hn.2)
    exact make_run mk hme F' G.room G.gu B (passAt' G.tk σ) I1 r q
end
end Ev

set_option Elab.async false
set_option linter.all false
set_option maxRecDepth 100000
set_option maxHeartbeats 4000000
/-! Further methods of lists and dicts. -/
noncomputable section
namespace Ev
open PySem PySem.Spec PyProof.Rows L2
theorem ext_tup (l : Addr) (items : Array Value) (n : Nat) (b : Addr) (dct : Option Addr) (slt : Array (Option Value)) (items2 : Array Value) (n2 : Nat) (hs0 : ¬(!items.isEmpty && Builtin.List.listTooLong (items.size + items2.size)) = true) (hs1 : items.size ≤ sizeLine) (hs2 : items.size + items2.size ≤ sizeLine + 1) :
    Meets (Builtin.«list.extend» ⟨[.ref l, .ref b], []⟩) (fun _ R s => s.heap.get? l = some { cls := .type "list", dict := none, data := .seq items n, slots := #[] } ∧ s.heap.get? b = some ⟨.type "tuple", dct, .seq items2 n2, slt⟩ ∧ R (.ok (.ret Value.none)) { s with heap := s.heap.update l (Obj.mapSeq fun x => x ++ items2), toks := s.toks }) :=
  .of_wp fun prog w A R s h => by
    obtain ⟨hp, g, d, tk, os⟩ := s
    obtain ⟨hl, hb, h⟩ := h
    have f1 := AutoSeq1.idx_int
    have f2 := AutoSeq1.sub_tuple_tuple
    have f3 := AutoSeq1.sub_list_list
    have f4 := AutoSeq1.sub_tuple_list
    have f5 := AutoSeq1.sub_list_tuple
    have hz' : (items ++ items2).size ≤ sizeLine + 1 := by rw [Array.size_append]; exact hs2
    wp_walk using (wpAny_updateSeq hl rfl (hz := hs1) (_hz' := hz')), wpAny_loadPart' hl, wpAny_loadPart' hb
    exact ⟨_, rfl, h⟩
section
variable {M : Mo} {X : Cx} {N : List Str} {sc : Scope} {k : Nat} {W : WX} {md : Md} {cl : Cl} {calls : Nat → List Val → LHeap → Res Val} {rc : Rec} {pos : Pos}
def rExtT : V → List V → Hp → VK → Prop := fun x vs H Q => ∃ l b xs zs, x = .ref l ∧ vs = [.ref b] ∧ H l = some (.lst xs) ∧ (H b = some (.lst zs) ∨ H b = some (.tup zs)) ∧ xs.length + zs.length ≤ sizeLine ∧ Q .non (upd H l (.lst (xs ++ zs)))
theorem mt_extT : MtR X "list.extend" rExtT := by
  intro pins s σ H x vs v us Q I rx rv h
  obtain ⟨l, b, xs, zs, rfl, rfl, hH, hB, hz, q⟩ := h
  rcases hB with hB | hB
  · exact mt_extend pins s σ H _ _ v us Q I rx rv ⟨l, b, xs, zs, rfl, rfl, hH, hB, hz, q⟩
  · cases rx
    obtain ⟨u, rfl, ru⟩ := rv.one
    cases ru
    obtain ⟨z, its, n, r, hl, e⟩ := I.lstM hH
    obtain ⟨z2, its2, r2, ob, e2, c2, n2, d2⟩ := (show ObjOk X.prog X.w H s.heap b (.tup zs) from I.hok b _ hB)
    obtain ⟨oc, od, dt, sl⟩ := ob
    dsimp only at c2 d2
    subst c2 d2
    have l2 := r2.length
    have hsz : its.toArray.size + its2.toArray.size ≤ sizeLine := by rw [List.size_toArray, List.size_toArray]; omega
    have hlong : ¬ (!its.toArray.isEmpty && Builtin.List.listTooLong (its.toArray.size + its2.toArray.size)) = true := by
      rw [notLongL hsz, Bool.and_false]
      exact Bool.false_ne_true
    refine call_meets F.slot_list_extend ⟨_, e, rfl⟩ F.entry_list_extend (F.args_list_extend_2 _ _) (ext_tup l its.toArray n b od sl its2.toArray n2 hlong (by rw [List.size_toArray]; omega) (by omega)) ⟨e, e2, ?_⟩
    refine ⟨.non, _, I.lset (its' := its ++ its2) hH e (by simp) (r.append r2) ?_, rfl, q⟩
    rw [List.length_append]
    omega
theorem tyV_lst {K : PySem.W.Frag} {H : Hp} {a : Addr} {xs : List V} (h : H a = some (.lst xs)) : tyV K "list" (.ref a) H := Or.inl ⟨rfl, _, Or.inl (Or.inl h)⟩
theorem RH.itemsM {c : Cf} {h : LHeap} {v : Val} {x : V} {xs : List Val} (R : RH M c h) (r : RV M c v x) (e : itemsM h v = some xs) : ∃ b ys, x = .ref b ∧ (c.H b = some (.lst ys) ∨ c.H b = some (.tup ys)) ∧ RVs M c xs ys := by
  cases r with
  | tup h1 r1 => cases e; exact ⟨_, _, rfl, .inr h1, r1⟩
  | @ref l hl =>
    unfold Ev.itemsM at e
    dsimp only at e
    cases q : h.get l with
    | none => rw [q] at e; cases e
    | some o =>
      rw [q] at e
      cases o with
      | lst ws => cases e; obtain ⟨ys, h1, r1⟩ := R.lst q; exact ⟨_, ys, rfl, .inl h1, r1⟩
      | _ => cases e
  | _ => cases e
theorem se_ext (G : Gd M X N sc k W) {o e : Expr} {ap : Pos} {ml me : E} (hn : notStar e = true) (h0 : notCall0 o = true) (hl : (ap.endLine == pos.line) = true) (ho : PE X o (tEv M W (rc.e ml))) (he : PE X e (tEv M W (rc.e me))) :
    PE X (.Call (.Attribute o "extend" ap) [e] [] pos) (tEv M W (stepE cl calls rc (.ext ml me))) := by
  refine PE.of (pe_bm PySem.F.plainAttrs_list PySem.F.slot_list_extend PySem.F.type_list_extend mt_extT ho (pa_cons he pa_nil (notStar_each hn)) (notCall0_base h0) (few1 hn) hl (notStar_each hn) (stars_plain (es := []) rfl)) fun σ H Q ⟨c, s, hh, ⟨ee, R, S⟩, g⟩ => ?_
  subst ee
  refine ⟨c, s, hh, ⟨rfl, R, S⟩, Go.bind g fun v h1 c1 w e1 R1 rx g1 => ?_⟩
  cases rx with
  | @ref l hl =>
    dsimp only at g1
    cases q : h1.get l with
    | none => rw [q] at g1; exact g1.elim
    | some ob =>
      rw [q] at g1
      cases ob with
      | lst xs0 =>
        obtain ⟨ys0, hy0, _⟩ := R1.lst q
        refine ⟨tyV_lst hy0, c1, s, h1, ⟨rfl, R1, S.ext e1⟩, Go.bind g1 fun y h2 c2 z e2 R2 ry g2 => ?_⟩
        try dsimp only at g2
        cases q2 : h2.get l with
        | none => rw [q2] at g2; exact g2.elim
        | some o2 =>
          rw [q2] at g2
          cases o2 with
          | lst xs =>
            dsimp only at g2
            cases qi : itemsM h2 y with
            | none => rw [qi] at g2; exact g2.elim
            | some ws =>
              rw [qi] at g2
              dsimp only at g2
              cases qb : Nat.ble (xs.length + ws.length) line with
              | false => rw [qb] at g2; exact g2.elim
              | true =>
                rw [qb] at g2
                obtain ⟨ys, hy, ry1⟩ := R2.lst q2
                obtain ⟨b, zs, rfl, hb, rz⟩ := R2.itemsM ry qi
                have hl2 : l < c2.n := Nat.lt_of_lt_of_le hl e2.x.le
                rw [← e2.x.r l hl]
                refine ⟨c2.r l, b, ys, zs, rfl, rfl, hy, hb, ?_, ?_⟩
                · rw [← ry1.length, ← rz.length, ← line_eq]; exact ble_true qb
                · exact go_store_lst (RR := RV M) R2 q2 rfl (by rw [hy]; exact True.intro) (ry1.append rz) (fun _ _ => .non) g2
          | _ => exact g2.elim
      | _ => exact g1.elim
  | _ => exact g1.elim
theorem RVs.dropLast {c : Cf} {xs : List Val} {ys : List V} (r : RVs M c xs ys) : RVs M c xs.dropLast ys.dropLast := by
  rw [List.dropLast_eq_take, List.dropLast_eq_take, r.length]
  exact r.take _
theorem RVs.eraseIdx {c : Cf} : ∀ {xs : List Val} {ys : List V} (i : Nat), RVs M c xs ys → RVs M c (xs.eraseIdx i) (ys.eraseIdx i)
  | _, _, _, .nil => .nil
  | _, _, 0, .cons _ t => t
  | _, _, i + 1, .cons h t => .cons h (RVs.eraseIdx i t)
/-- a list changed, and what is handed on -/
theorem go_store_val {c : Cf} {h : LHeap} {l : Nat} {o : LObj} {xs : List Val} {ys : List V} {a : Val} {b : V} {Q : VK} {E : XK} (R : RH M c h) (e : h.get l = some o) (mo : o.mut = true) (lo : Loose (c.H (c.r l))) (r : RVs M c xs ys) (ra : RV M c a b)
    (g : Go M c (RV M) (store l (.lst xs) h a) Q E) : Q b (upd c.H (c.r l) (.lst ys)) := go_store_lst (RR := RV M) R e mo lo r (fun _ ex => ra.ext ex) g
theorem se_pop (G : Gd M X N sc k W) {o : Expr} {ap : Pos} {ml : E} (h0 : notCall0 o = true) (hl : (ap.endLine == pos.line) = true) (ho : PE X o (tEv M W (rc.e ml))) :
    PE X (.Call (.Attribute o "pop" ap) [] [] pos) (tEv M W (stepE cl calls rc (.pop ml))) := by
  have mp : MtR X "list.pop" rPop := mt_pop
  refine PE.of (pe_bm0 PySem.F.plainAttrs_list PySem.F.slot_list_pop PySem.F.type_list_pop mp ho (notCall0_base h0) hl) fun σ H Q ⟨c, s, hh, ⟨ee, R, S⟩, g⟩ => ?_
  subst ee
  refine ⟨c, s, hh, ⟨rfl, R, S⟩, Go.bind g fun v h1 c1 w e1 R1 rx g1 => ?_⟩
  cases rx with
  | @ref l hl =>
    dsimp only at g1
    cases q : h1.get l with
    | none => rw [q] at g1; exact g1.elim
    | some ob =>
      rw [q] at g1
      cases ob with
      | lst xs =>
        dsimp only at g1
        obtain ⟨ys, hy, ry⟩ := R1.lst q
        cases qn : nth xs (xs.length - 1) with
        | none => rw [qn] at g1; exact g1.elim
        | some y =>
          rw [qn] at g1
          obtain ⟨z, ez, rz⟩ := ry.nth qn
          refine ⟨tyV_lst hy, c1.r l, ys, z, rfl, rfl, hy, by rw [← ry.length]; exact ez, ?_⟩
          exact go_store_val R1 q rfl (by rw [hy]; exact True.intro) ry.dropLast rz g1
      | _ => exact g1.elim
  | _ => exact g1.elim
theorem se_popAt (G : Gd M X N sc k W) {o e : Expr} {ap : Pos} {ml me : E} (hn : notStar e = true) (h0 : notCall0 o = true) (hl : (ap.endLine == pos.line) = true) (ho : PE X o (tEv M W (rc.e ml))) (he : PE X e (tEv M W (rc.e me))) :
    PE X (.Call (.Attribute o "pop" ap) [e] [] pos) (tEv M W (stepE cl calls rc (.popAt ml me))) := by
  have mp : MtR X "list.pop" rPopAt := mt_popAt
  refine PE.of (pe_bm PySem.F.plainAttrs_list PySem.F.slot_list_pop PySem.F.type_list_pop mp ho (pa_cons he pa_nil (notStar_each hn)) (notCall0_base h0) (few1 hn) hl (notStar_each hn) (stars_plain (es := []) rfl)) fun σ H Q ⟨c, s, hh, ⟨ee, R, S⟩, g⟩ => ?_
  subst ee
  refine ⟨c, s, hh, ⟨rfl, R, S⟩, Go.bind g fun v h1 c1 w e1 R1 rx g1 => ?_⟩
  cases rx with
  | @ref l hl =>
    dsimp only at g1
    cases q : h1.get l with
    | none => rw [q] at g1; exact g1.elim
    | some ob =>
      rw [q] at g1
      cases ob with
      | lst xs0 =>
        obtain ⟨ys0, hy0, _⟩ := R1.lst q
        refine ⟨tyV_lst hy0, c1, s, h1, ⟨rfl, R1, S.ext e1⟩, Go.bind g1 fun y h2 c2 z e2 R2 ry g2 => ?_⟩
        try dsimp only at g2
        cases q2 : h2.get l with
        | none => rw [q2] at g2; exact g2.elim
        | some o2 =>
          rw [q2] at g2
          cases o2 with
          | lst xs =>
            dsimp only at g2
            cases ry with
            | int i =>
              dsimp only at g2
              cases qb : decide (0 ≤ i) && decide (i < 9223372036854775808) with
              | false => rw [qb] at g2; exact g2.elim
              | true =>
                rw [qb] at g2
                dsimp only at g2
                rw [Bool.and_eq_true] at qb
                have i0 : 0 ≤ i := of_decide_eq_true qb.1
                have i1 : i < 9223372036854775808 := of_decide_eq_true qb.2
                cases qn : nth xs i.toNat with
                | none => rw [qn] at g2; exact g2.elim
                | some y =>
                  rw [qn] at g2
                  obtain ⟨ys, hy, ry1⟩ := R2.lst q2
                  obtain ⟨w, ew, rw1⟩ := ry1.nth qn
                  have hlt : i.toNat < ys.length := (List.getElem?_eq_some_iff.mp ew).1
                  rw [← e2.x.r l hl]
                  refine ⟨c2.r l, ys, i, i.toNat, w, rfl, rfl, hy, by omega, by omega, ?_, ew, ?_⟩
                  · unfold seqIndex?
                    simp only [i0, decide_true]
                    have : ¬ i < 0 := by omega
                    simp [this]
                    omega
                  · exact go_store_val R2 q2 rfl (by rw [hy]; exact True.intro) (ry1.eraseIdx _) rw1 g2
            | _ => exact g2.elim
          | _ => exact g2.elim
      | _ => exact g1.elim
  | _ => exact g1.elim
/-! ### list(d.values()) -/
def viewO (p d : Addr) : HO := .ext fun h => h.IsValuesView p d
theorem viewO_ok {P : Program} {w : World} {H : Hp} {h : Heap} {p d : Addr} (e : h.get? p = some { cls := .type "dict_values", data := .fields #[.ref d] }) : ObjOk P w H h p (viewO p d) := by
  refine ⟨⟨_, e, rfl, rfl⟩, ⟨_, e⟩, fun h1 h2 x k => ?_⟩
  obtain ⟨o, ho, r⟩ := x
  exact ⟨o, k o ho, r⟩
def rVw : V → List V → Hp → VK → Prop := fun x xs H Q => ∃ (a : Addr) (kvs : List (Key × V)), x = .ref a ∧ xs = [] ∧ H a = some (.dK kvs) ∧ ∀ p, H p = none → Q (.ref p) (upd H p (viewO p a))
theorem mt_vw : MtR X "dict.values" rVw := by
  intro pins s σ H x xs v us Q I rx rxs h
  obtain ⟨a, kvs, rfl, rfl, ha, q⟩ := h
  cases rx
  cases rxs
  obtain ⟨z, lo, vs, rk, hd⟩ := (show ObjOk X.prog X.w H s.heap a (.dK kvs) from I.hok a _ ha)
  have fr : H s.heap.objs.size = none := I.hok.fresh (Nat.le_refl _)
  refine call_meetsIn PySem.F.slot_dict_values hd.typeIs PySem.F.entry_dict_values (PySem.F.args_dict_values_1 _) (meets_dict_values (mixKind X.prog X.w) a lo) ⟨⟨vs, hd⟩, ?_⟩
  exact ⟨.ref s.heap.objs.size, upd H s.heap.objs.size (viewO s.heap.objs.size a), I.laid (t' := s.toks) (fun b u e => Heap.get?_push_of_some _ e) (Nat.le_refl _) (viewO_ok (Heap.get?_push_size _ rfl)), rfl, q _ fr⟩
def rLv : List V → Hp → VK → Prop := fun xs H Q => ∃ (p d : Addr) (kvs : List (Key × V)), xs = [.ref p] ∧ H p = some (viewO p d) ∧ H d = some (.dK kvs) ∧ ∀ q, H q = none → Q (.ref q) (upd H q (.lst (kvs.map (·.2))))
theorem cr_lv (hc : X.calm = true) : CallR X (.type "list") rLv := by
  intro pins s σ H xs us Q I r h
  obtain ⟨p, d, kvs, rfl, hp, hd0, q⟩ := h
  obtain ⟨u, rfl, rx⟩ := r.one
  cases rx
  have view : s.heap.IsValuesView p d := (show ObjOk X.prog X.w H s.heap p (viewO p d) from I.hok p _ hp).1
  obtain ⟨z, lo, vs, rk, hd⟩ := (show ObjOk X.prog X.w H s.heap d (.dK kvs) from I.hok d _ hd0)
  obtain ⟨ep, hat⟩ := hd.dictAt
  have hl : kvs.length = vs.length := Paired.length rk
  refine PySem.W.kdl_call (PySem.W.kdl_values (knd := mixKind X.prog X.w) (kvs := vs) (ep := ep)) (I.ok.hd hc) ⟨view, hat⟩ (by rw [← hl]; exact z) fun h' tk acc' c' hkeep hS hacc => ?_
  refine ⟨.ref s.heap.objs.size, upd H s.heap.objs.size (.lst (kvs.map (·.2))), I.laid hkeep (Nat.le_refl _) ?_, rfl, q _ (I.hok.fresh (Nat.le_refl _))⟩
  have el : acc'.toList.length = acc'.size := by simp
  show ObjOk X.prog X.w _ _ _ (.lst (kvs.map (·.2)))
  refine ⟨by rw [List.length_map]; exact z, acc'.toList, c', vals_of_at (by rw [List.length_map, el, hacc.1, hl]) fun j x w h1 h2 => ?_, by rw [Array.toArray_toList]; exact hS⟩
  obtain ⟨k, hky⟩ := hacc.2 j w (by rw [← Array.getElem?_toList]; exact h2)
  obtain ⟨y, ey, ry⟩ := KV.at' rk hky
  rw [List.getElem?_map, ey] at h1
  cases h1
  exact ry
theorem vals_rv {c : Cf} : ∀ {kvs : List (Key × Val)} {ys : List (Key × V)}, RK Key M c kvs ys → RVs M c (kvs.map (·.2)) (ys.map (·.2))
  | _, _, .nil => .nil
  | _, _, .cons h t => .cons h (vals_rv t)
theorem se_vals (G : Gd M X N sc k W) (D : MdOk M md) {x : Str} {p : Pos} {o : Expr} {ap cp : Pos} {mo : E} (hf : freeN md sc x "list" = true) (h0 : notCall0 o = true) (hl : (ap.endLine == cp.line) = true) (ho : PE X o (tEv M W (rc.e mo))) :
    PE X (.Call (.Name x p) [.Call (.Attribute o "values" ap) [] [] cp] [] pos) (tEv M W (stepE cl calls rc (.vals mo))) := by
  obtain ⟨rfl, hg, hm⟩ := G.free D hf
  have he := pe_bm0 (X := X) PySem.F.plainAttrs_dict PySem.F.slot_dict_values PySem.F.type_dict_values mt_vw ho (notCall0_base h0) hl
  refine PE.of (pe_callTy (cr_lv G.calm) hg hm (by decide +kernel) (pa_cons he pa_nil) (by decide +kernel) (by decide +kernel)) fun σ H Q ⟨c, s, hh, ⟨ee, R, S⟩, g⟩ => ?_
  subst ee
  refine ⟨c, s, hh, ⟨rfl, R, S⟩, Go.bind g fun v h1 c1 w e1 R1 rx g1 => ?_⟩
  cases rx with
  | @ref l hl =>
    dsimp only at g1
    cases q : h1.get l with
    | none => rw [q] at g1; exact g1.elim
    | some ob =>
      rw [q] at g1
      cases ob with
      | dK kvs =>
        obtain ⟨ys, hy, ry⟩ := R1.dK q
        refine ⟨.inr (.inr (.inl ⟨rfl, .inl ⟨_, hy⟩⟩)), c1.r l, ys, rfl, rfl, hy, fun p hp => ?_⟩
        obtain ⟨R2, ex2⟩ := R1.side (u := viewO p (c1.r l)) hp
        have ne : c1.r l ≠ p := fun z => by rw [z, hp] at hy; cases hy
        refine ⟨p, c1.r l, ys, rfl, upd_same, by rw [upd_ne ne]; exact hy, ?_⟩
        exact go_alloc_lst R2 ((vals_rv ry).ext ex2) (Go.ext ex2 g1)
      | _ => exact g1.elim
  | _ => exact g1.elim
/-! ### repr -/
def rRepr (K : PySem.W.Frag) : List V → Hp → VK → Prop := fun xs H Q => (∃ a, xs = [.ref a] ∧ H a = some (.dK []) ∧ Q (.str ⟨⟨[123, 125]⟩⟩) H) ∨ ∃ x d, xs = [x] ∧ Dp K H x d ∧ d.showable = true ∧ d.hasDict = false ∧ d.depth ≤ 64 ∧ d.shown.length ≤ sizeLine ∧ Q (.str d.shown) H
theorem cr_repr (gu : X.A.guards = some []) (hu : X.A.units + 66 < cLine) : CallR X (.builtin "repr") (rRepr X.K) := by
  intro pins s σ H xs us Q I r h
  rcases h with ⟨a, rfl, ha, q⟩ | ⟨x, d, rfl, hd, hs, hn, hdp, hz, q⟩
  · obtain ⟨u, rfl, rx⟩ := r.one
    obtain rfl : u = Value.ref a := rx
    obtain ⟨_, low, vs, kv, o, es, ep, ho, hx, hd, _, he, _⟩ := I.hok a _ ha
    have ee : es.toList = [] := by
      cases kv
      generalize es.toList = l at he
      cases he
      rfl
    have rd : Reads s.heap (.ref a) (.dict []) (a :: [] ++ []) := Reads.dict (es := es) ho hx.1 hd (by rw [ee]; exact .nil) (by rw [ee]; exact .nil)
    exact repr_of_reads' rd rfl (fun _ z => by
      rw [List.append_nil, List.mem_singleton] at z
      rw [z] at low
      simp at low) gu (by show X.A.units + (PyData.depth (.dict []) + 1) < cLine; have : PyData.depth (.dict []) = 1 := rfl; omega) (fun _ _ e => e) (fun h' u tk hk => ⟨.str _, H, I.kept hk, ⟨_, rfl⟩, q⟩) (by decide)
  obtain ⟨u, rfl, rx⟩ := r.one
  obtain ⟨as, rd⟩ := Dp.reads I d x u hd rx
  cases rd with
  | none => exact PySem.P.repr_of_none ⟨.str _, H, I.tok _, ⟨_, rfl⟩, q⟩
  | bool b => exact PySem.P.repr_of_bool ⟨.str _, H, I.tok _, ⟨_, rfl⟩, q⟩
  | int i t => exact PySem.P.repr_of_int (by simpa [PyData.showable] using hs) ⟨.str _, H, I.tok _, ⟨_, rfl⟩, q⟩
  | str z t => exact PySem.P.repr_of_str ⟨.str _, H, I.tok _, ⟨_, rfl⟩, q⟩ hz
  | list h1 h2 h3 h4 => exact repr_of_reads' (Reads.list h1 h2 h3 h4) hs (PyData.noDict_hsm hn) gu (by omega) (fun _ _ e => e) (fun h' u tk hk => ⟨.str _, H, I.kept hk, ⟨_, rfl⟩, q⟩) hz
  | tuple h1 h2 h3 h4 => exact repr_of_reads' (Reads.tuple h1 h2 h3 h4) hs (PyData.noDict_hsm hn) gu (by omega) (fun _ _ e => e) (fun h' u tk hk => ⟨.str _, H, I.kept hk, ⟨_, rfl⟩, q⟩) hz
  | dict h1 h2 h3 h4 h5 => simp [PyData.hasDict] at hn
theorem se_rpr (G : Gd M X N sc k W) (D : MdOk M md) {x : Str} {p : Pos} {a : Expr} {ma : E} (hf : freeN md sc x "repr" = true) (hn : notStar a = true) (ha : PE X a (tEv M W (rc.e ma))) :
    PE X (.Call (.Name x p) [a] [] pos) (tEv M W (stepE cl calls rc (.rpr ma))) := by
  obtain ⟨rfl, hg, hm⟩ := G.free D hf
  refine PE.of (pe_callB (cr_repr G.gu (by have := G.room.un; omega)) hg hm (by decide +kernel) (pa_cons ha pa_nil (notStar_each hn)) (by decide +kernel) (by decide +kernel) (notStar_each hn) (stars_plain (es := []) rfl)) fun σ H Q ⟨c, s, hh, ⟨ee, R, S⟩, g⟩ => ?_
  subst ee
  refine ⟨c, s, hh, ⟨rfl, R, S⟩, Go.bind g fun v h1 c1 w e1 R1 rx g1 => ?_⟩
  cases qd : isDE h1 v with
  | true =>
    rw [qd] at g1
    unfold isDE at qd
    split at qd
    · split at qd
      · rename_i ql
        cases rx
        obtain ⟨ys, hy, ry⟩ := R1.dK ql
        cases ry
        exact .inl ⟨_, rfl, hy, go_val (RR := RV M) R1 (.str _) g1⟩
      · cases qd
    · cases qd
  | false =>
  rw [qd] at g1
  dsimp only at g1
  refine .inr ?_
  cases q : toD 66 h1 v with
  | none => rw [q] at g1; exact g1.elim
  | some d =>
    rw [q] at g1
    dsimp only at g1
    cases qb : d.showable && !d.hasDict && decide (d.depth ≤ 64) && Nat.ble (shL d).length line with
    | false => rw [qb] at g1; exact g1.elim
    | true =>
      rw [qb] at g1
      simp only [Bool.and_eq_true] at qb
      obtain ⟨⟨⟨b1, b2⟩, b3⟩, b4⟩ := qb
      refine ⟨w, d, rfl, by rw [G.hK]; exact toD_dp 66 R1 rx q, b1, by simpa using b2, of_decide_eq_true b3, ?_, by rw [shL_eq] at g1; exact go_val (RR := RV M) R1 (.str _) g1⟩
      rw [← cps_len, ← line_eq, ← shL_eq]
      exact ble_true b4
/-! ### l.index(x) -/
theorem firstEqv_ok {d : PyData} : ∀ {ds : List PyData} {j0 j : Nat}, firstEqv d ds j0 = some j → ∃ i z, j = j0 + i ∧ ds[i]? = some z ∧ PyData.eqv z d = true ∧ ∀ (m : Nat) (z' : PyData), m < i → ds[m]? = some z' → PyData.eqv z' d = false
  | [], _, _, h => by cases h
  | e :: es, j0, j, h => by
    unfold firstEqv at h
    cases q : PyData.eqv e d with
    | true => rw [q] at h; cases h; exact ⟨0, e, rfl, rfl, q, fun m z' hm => absurd hm (Nat.not_lt_zero m)⟩
    | false =>
      rw [q] at h
      obtain ⟨i, z, e1, e2, e3, e4⟩ := firstEqv_ok h
      refine ⟨i + 1, z, by omega, by simpa using e2, e3, fun m z' hm hz => ?_⟩
      cases m with
      | zero => simp at hz; rw [← hz]; exact q
      | succ m => exact e4 m z' (by omega) (by simpa using hz)
theorem se_idx (G : Gd M X N sc k W) {o e : Expr} {ap : Pos} {ml me : E} (hn : notStar e = true) (h0 : notCall0 o = true) (hl : (ap.endLine == pos.line) = true) (ho : PE X o (tEv M W (rc.e ml))) (he : PE X e (tEv M W (rc.e me))) :
    PE X (.Call (.Attribute o "index" ap) [e] [] pos) (tEv M W (stepE cl calls rc (.idx ml me))) := by
  refine PE.of (pe_bm PySem.F.plainAttrs_list PySem.F.slot_list_index PySem.F.type_list_index (mt_indexD G.un) ho (pa_cons he pa_nil (notStar_each hn)) (notCall0_base h0) (few1 hn) hl (notStar_each hn) (stars_plain (es := []) rfl)) fun σ H Q ⟨c, s, hh, ⟨ee, R, S⟩, g⟩ => ?_
  subst ee
  refine ⟨c, s, hh, ⟨rfl, R, S⟩, Go.bind g fun v h1 c1 w e1 R1 rx g1 => ?_⟩
  cases rx with
  | @ref l hl =>
    dsimp only at g1
    cases q : h1.get l with
    | none => rw [q] at g1; exact g1.elim
    | some ob =>
      rw [q] at g1
      cases ob with
      | lst xs0 =>
        obtain ⟨ys0, hy0, _⟩ := R1.lst q
        refine ⟨tyV_lst hy0, c1, s, h1, ⟨rfl, R1, S.ext e1⟩, Go.bind g1 fun y h2 c2 z e2 R2 ry g2 => ?_⟩
        try dsimp only at g2
        cases q2 : h2.get l with
        | none => rw [q2] at g2; exact g2.elim
        | some o2 =>
          rw [q2] at g2
          cases o2 with
          | lst xs =>
            dsimp only at g2
            cases qd : mapOpt (toD 65 h2) xs with
            | none => rw [qd] at g2; exact g2.elim
            | some ds =>
              cases qe : toD 66 h2 y with
              | none => rw [qd, qe] at g2; exact g2.elim
              | some d =>
                rw [qd, qe] at g2
                dsimp only at g2
                cases qs : SeqAt.shaped (.list ds) && SeqAt.shaped d with
                | false => rw [qs] at g2; exact g2.elim
                | true =>
                  rw [qs] at g2
                  dsimp only at g2
                  rw [Bool.and_eq_true] at qs
                  cases qf : firstEqv d ds 0 with
                  | none => rw [qf] at g2; exact g2.elim
                  | some j =>
                    rw [qf] at g2
                    obtain ⟨i, zz, ej, e3, e4, e5⟩ := firstEqv_ok qf
                    obtain rfl : j = i := by omega
                    have hl2 : l < c2.n := Nat.lt_of_lt_of_le hl e2.x.le
                    have el : toD 66 h2 (.ref l) = some (.list ds) := by
                      show (match h2.get l with
                        | some (.lst xs) => (match mapOpt (toD 65 h2) xs with
                          | some ds => some (PyData.list ds)
                          | none => none)
                        | some (.frz xs) => (match mapOpt (toD 65 h2) xs with
                          | some ds => some (PyData.list ds)
                          | none => none)
                        | _ => none) = _
                      rw [q2]
                      dsimp only
                      rw [qd]
                    have dl := toD_dp 66 R2 (RV.ref hl2) el
                    rw [← e2.x.r l hl]
                    exact ⟨c2.r l, z, d, ds, j, zz, rfl, rfl, by rw [G.hK]; exact dl, by rw [G.hK]; exact toD_dp 66 R2 ry qe, qs.1, qs.2, e3, e4, e5, go_val (RR := RV M) R2 (.int _) g2⟩
          | _ => exact g2.elim
      | _ => exact g1.elim
  | _ => exact g1.elim
end
end Ev

set_option Elab.async false
set_option linter.all false
set_option maxRecDepth 100000
set_option maxHeartbeats 4000000
/-! list(range), sorted, tuple.index, a dict display with a tuple as its key. -/
noncomputable section
namespace Ev
open PySem PySem.Spec PyProof.Rows L2
section
variable {M : Mo} {X : Cx} {N : List Str} {sc : Scope} {k : Nat} {W : WX} {md : Md} {cl : Cl} {calls : Nat → List Val → LHeap → Res Val} {rc : Rec} {pos : Pos}
/-! ### list(range(a, b)) -/
theorem rngL_rv {c : Cf} : ∀ (n : Nat) (lo : Int), RVs M c (rngL lo n) ((List.range n).map fun i => V.int (lo + (i : Nat)))
  | 0, _ => .nil
  | n + 1, lo => by
    rw [List.range_succ_eq_map, List.map_cons, List.map_map]
    have e := rngL_rv (c := c) n (lo + 1)
    refine .cons (by simpa using RV.int (M := M) (c := c) lo) ?_
    have e2 : ((fun i : Nat => V.int (lo + (i : Int))) ∘ Nat.succ) = fun i : Nat => V.int (lo + 1 + (i : Int)) := by
      funext i
      show V.int (lo + ((i + 1 : Nat) : Int)) = _
      congr 1
      omega
    rw [e2]
    exact e
theorem okR_of {j : Int} (h : okR j = true) : -(2 ^ 62) ≤ j ∧ j < 2 ^ 62 := by
  unfold okR at h
  rw [Bool.and_eq_true] at h
  have h1 := of_decide_eq_true h.1
  have h2 := of_decide_eq_true h.2
  omega
def tEvR (M : Mo) (W : WX) (m : LSt → LHeap → Res (Int × Int)) : St → Hp → (Int → Int → Hp → Prop) → Prop := fun σ H Q => ∃ c s h, At M c s h σ H ∧ Go M c (fun _ (a b : Int × Int) => a = b) (m s h) (fun p H' => Q p.1 p.2 H') (fun cls d H' => W cls d σ H')
theorem PRg.of {e : Expr} {t t' : St → Hp → (Int → Int → Hp → Prop) → Prop} (h : PRg X e t) (hi : ∀ σ H Q, t' σ H Q → t σ H Q) : PRg X e t' := fun pins s σ H Q I q => h pins s σ H Q I (hi σ H Q q)
theorem sr_1 (G : Gd M X N sc k W) (D : MdOk M md) {x : Str} {p : Pos} {b : Expr} {mb : E} (hf : freeN md sc x "range" = true) (hn : notStar b = true) (hb : PE X b (tEv M W (rc.e mb))) : PRg X (.Call (.Name x p) [b] [] pos) (tEvR M W (evRg rc none mb)) := by
  obtain ⟨rfl, hg, hm⟩ := G.free D hf
  refine PRg.of (prg_1 hg hm hb (notStar_each hn)) fun σ H Q ⟨c, s, hh, ⟨e, R, S⟩, g⟩ => ?_
  subst e
  refine ⟨c, s, hh, ⟨rfl, R, S⟩, Go.bind g fun v h1 c1 w e1 R1 rx g1 => ?_⟩
  cases rx with
  | int j => exact ⟨j, rfl, go_val (RR := fun _ (a b : Int × Int) => a = b) (b := ((0, j) : Int × Int)) R1 rfl g1⟩
  | _ => exact g1.elim
theorem sr_2 (G : Gd M X N sc k W) (D : MdOk M md) {x : Str} {p : Pos} {a b : Expr} {ma mb : E} (hf : freeN md sc x "range" = true) (hna : notStar a = true) (hn : notStar b = true) (ha : PE X a (tEv M W (rc.e ma))) (hb : PE X b (tEv M W (rc.e mb))) :
    PRg X (.Call (.Name x p) [a, b] [] pos) (tEvR M W (evRg rc (some ma) mb)) := by
  obtain ⟨rfl, hg, hm⟩ := G.free D hf
  refine PRg.of (prg_2 hg hm ha hb (notStar_each hna) (notStar_each hn) (stars_plain (es := [b]) (by rw [List.all_cons, hn]; rfl))) fun σ H Q ⟨c, s, hh, ⟨e, R, S⟩, g⟩ => ?_
  subst e
  refine ⟨c, s, hh, ⟨rfl, R, S⟩, Go.bind g fun v h1 c1 w e1 R1 rx g1 => ⟨c1, s, h1, ⟨rfl, R1, S.ext e1⟩, Go.bind g1 fun u h2 c2 w2 e2 R2 ry g2 => ?_⟩⟩
  cases rx with
  | int i =>
    cases ry with
    | int j => exact ⟨i, j, rfl, rfl, go_val (RR := fun _ (a b : Int × Int) => a = b) (b := ((i, j) : Int × Int)) R2 rfl g2⟩
    | _ => exact g2.elim
  | _ => cases ry <;> exact g2.elim
theorem rg_split {p : Int × Int} (h : (okR p.1 && okR p.2 && Nat.ble (p.2 - p.1).toNat line) = true) : RgOk p.1 p.2 := by
  simp only [Bool.and_eq_true] at h
  obtain ⟨⟨h1, h2⟩, h3⟩ := h
  have a1 := okR_of h1
  have a2 := okR_of h2
  have a3 := ble_true h3
  exact ⟨a1.1, a1.2, a2.1, a2.2, a3⟩
theorem se_lrngL (G : Gd M X N sc k W) (D : MdOk M md) {y : Str} {p : Pos} {e : Expr} {ma : Option E} {mb : E} (hf : freeN md sc y "list" = true) (hn : notStar e = true) (he : PRg X e (tEvR M W (evRg rc ma mb))) :
    PE X (.Call (.Name y p) [e] [] pos) (tEv M W (stepE cl calls rc (.lrng false ma mb))) := by
  obtain ⟨rfl, hg, hm⟩ := G.free D hf
  refine PE.of (pe_listRg G.calm hg hm he (notStar_each hn)) fun σ H Q ⟨c, s, hh, ⟨ee, R, S⟩, g⟩ => ?_
  subst ee
  refine ⟨c, s, hh, ⟨rfl, R, S⟩, Go.bind g fun q h1 c1 q' e1 R1 rx g1 => ?_⟩
  subst rx
  cases qb : okR q.1 && okR q.2 && Nat.ble (q.2 - q.1).toNat line with
  | false => rw [qb] at g1; exact g1.elim
  | true =>
    rw [qb] at g1
    exact ⟨rg_split qb, go_alloc_lst R1 (rngL_rv _ _) g1⟩
theorem se_lrngT (G : Gd M X N sc k W) (D : MdOk M md) {y : Str} {p : Pos} {e : Expr} {ma : Option E} {mb : E} (hf : freeN md sc y "tuple" = true) (hn : notStar e = true) (he : PRg X e (tEvR M W (evRg rc ma mb))) :
    PE X (.Call (.Name y p) [e] [] pos) (tEv M W (stepE cl calls rc (.lrng true ma mb))) := by
  obtain ⟨rfl, hg, hm⟩ := G.free D hf
  refine PE.of (pe_tupRg G.calm hg hm he (notStar_each hn)) fun σ H Q ⟨c, s, hh, ⟨ee, R, S⟩, g⟩ => ?_
  subst ee
  refine ⟨c, s, hh, ⟨rfl, R, S⟩, Go.bind g fun q h1 c1 q' e1 R1 rx g1 => ?_⟩
  subst rx
  cases qb : okR q.1 && okR q.2 && Nat.ble (q.2 - q.1).toNat line with
  | false => rw [qb] at g1; exact g1.elim
  | true =>
    rw [qb] at g1
    exact ⟨rg_split qb, go_tup R1 (rngL_rv _ _) g1⟩
/-! ### sorting -/
theorem insL_mem {A : Type} {le : A → A → Bool} {x : A} : ∀ {l : List A} {z : A}, z ∈ insL le x l → z = x ∨ z ∈ l
  | [], z, h => by simp [insL] at h; exact .inl h
  | y :: ys, z, h => by
    unfold insL at h
    cases q : le x y with
    | true => rw [q] at h; exact List.mem_cons.mp h
    | false =>
      rw [q] at h
      rcases List.mem_cons.mp h with h | h
      · exact .inr (by rw [h]; exact List.mem_cons_self ..)
      · rcases insL_mem h with h | h
        · exact .inl h
        · exact .inr (List.mem_cons_of_mem _ h)
theorem insL_pw {A : Type} {le : A → A → Bool} (T : PySem.W.TotalLe le) {x : A} : ∀ {l : List A}, l.Pairwise (fun a b => le a b = true) → (insL le x l).Pairwise (fun a b => le a b = true)
  | [], _ => List.pairwise_singleton _ _
  | y :: ys, h => by
    unfold insL
    cases q : le x y with
    | true =>
      refine List.pairwise_cons.mpr ⟨fun z hz => ?_, h⟩
      rcases List.mem_cons.mp hz with e | e
      · rw [e]; exact q
      · exact T.trans _ _ _ q ((List.pairwise_cons.mp h).1 z e)
    | false =>
      refine List.pairwise_cons.mpr ⟨fun z hz => ?_, insL_pw T (List.pairwise_cons.mp h).2⟩
      rcases insL_mem hz with e | e
      · rw [e]
        rcases T.total x y with t | t
        · rw [q] at t; cases t
        · exact t
      · exact (List.pairwise_cons.mp h).1 z e
theorem insL_filter {A : Type} {le : A → A → Bool} (T : PySem.W.TotalLe le) {x : A} (c : A) : ∀ {l : List A}, l.Pairwise (fun a b => le a b = true) → (insL le x l).filter (PySem.W.sameRank le c) = (x :: l).filter (PySem.W.sameRank le c)
  | [], _ => rfl
  | y :: ys, h => by
    unfold insL
    cases q : le x y with
    | true => rfl
    | false =>
      dsimp only
      have ih := insL_filter T (x := x) c (List.pairwise_cons.mp h).2
      rw [List.filter_cons, ih]
      have ne : PySem.W.sameRank le c x = true → PySem.W.sameRank le c y = false := fun h1 => by
        cases e : PySem.W.sameRank le c y with
        | false => rfl
        | true =>
          unfold PySem.W.sameRank at h1 e
          rw [Bool.and_eq_true] at h1 e
          have : le x y = true := T.trans _ c _ (by first | exact h1.1 | exact h1.2) (by first | exact e.1 | exact e.2)
          rw [q] at this
          cases this
      cases e1 : PySem.W.sameRank le c x with
      | true =>
        have e2 := ne e1
        simp only [List.filter_cons, e1, e2, if_true, Bool.false_eq_true, if_false]
      | false =>
        simp only [List.filter_cons, e1, Bool.false_eq_true, if_false]
theorem sortL_pw {A : Type} {le : A → A → Bool} (T : PySem.W.TotalLe le) : ∀ (l : List A), (sortL le l).Pairwise (fun a b => le a b = true)
  | [] => .nil
  | x :: xs => insL_pw T (sortL_pw T xs)
theorem sortL_filter {A : Type} {le : A → A → Bool} (T : PySem.W.TotalLe le) (c : A) : ∀ (l : List A), (sortL le l).filter (PySem.W.sameRank le c) = l.filter (PySem.W.sameRank le c)
  | [] => rfl
  | x :: xs => by
    show (insL le x (sortL le xs)).filter _ = _
    rw [insL_filter T c (sortL_pw T xs), List.filter_cons, List.filter_cons, sortL_filter T c xs]
theorem sortL_merge {A : Type} {le : A → A → Bool} (T : PySem.W.TotalLe le) (l : List A) : sortL le l = l.mergeSort le := PySem.W.sort_unique T (sortL_pw T l) fun c => sortL_filter T c l
theorem leD_total : PySem.W.TotalLe leD := by
  unfold leD PySem.W.dataLe
  exact PySem.W.sortLe_total _ _ _
theorem intsD_alike : ∀ {xs ys : List PyData}, intsD xs = true → intsD ys = true → PySem.W.alikeAll xs ys = true
  | [], _, _, _ => by simp [PySem.W.alikeAll]
  | _ :: _, [], _, _ => by simp [PySem.W.alikeAll]
  | x :: xs, y :: ys, h1, h2 => by
    cases x <;> first | (simp [intsD] at h1; done) | skip
    cases y <;> first | (simp [intsD] at h2; done) | skip
    have := intsD_alike (xs := xs) (ys := ys) (by simpa [intsD] using h1) (by simpa [intsD] using h2)
    simp [PySem.W.alikeAll, PySem.W.alike, this]
theorem strsD_alike : ∀ {xs ys : List PyData}, strsD xs = true → strsD ys = true → PySem.W.alikeAll xs ys = true
  | [], _, _, _ => by simp [PySem.W.alikeAll]
  | _ :: _, [], _, _ => by simp [PySem.W.alikeAll]
  | x :: xs, y :: ys, h1, h2 => by
    cases x <;> first | (simp [strsD] at h1; done) | skip
    cases y <;> first | (simp [strsD] at h2; done) | skip
    have := strsD_alike (xs := xs) (ys := ys) (by simpa [strsD] using h1) (by simpa [strsD] using h2)
    simp [PySem.W.alikeAll, PySem.W.alike, this]
theorem intsD_depth : ∀ {xs : List PyData}, intsD xs = true → PyData.depthAll xs = 0
  | [], _ => by simp [PyData.depthAll]
  | x :: xs, h => by
    cases x <;> first | (simp [intsD] at h; done) | skip
    have := intsD_depth (xs := xs) (by simpa [intsD] using h)
    simp [PyData.depthAll, PyData.depth, this]
theorem strsD_depth : ∀ {xs : List PyData}, strsD xs = true → PyData.depthAll xs = 0
  | [], _ => by simp [PyData.depthAll]
  | x :: xs, h => by
    cases x <;> first | (simp [strsD] at h; done) | skip
    have := strsD_depth (xs := xs) (by simpa [strsD] using h)
    simp [PyData.depthAll, PyData.depth, this]
/-- what a class says -/
inductive InC : Nat → PyData → Prop where
  | i (n : Int) : InC 0 (.int n)
  | s (x : Str) : InC 1 (.str x)
  | ti {x : PyData} {r : List PyData} (h : intsD (x :: r) = true) : InC 2 (.tuple (x :: r))
  | ts {x : PyData} {r : List PyData} (h : strsD (x :: r) = true) : InC 3 (.tuple (x :: r))
  | k {n : Int} {r : List PyData} (h : intsD r = true) : InC 4 (.tuple [.int n, .tuple r])
theorem clsD_in {n : Nat} {d : PyData} (h : clsD n d = true) : InC n d := by
  unfold clsD at h
  split at h
  · split at h
    · exact .i _
    · cases h
  · split at h
    · exact .s _
    · cases h
  · split at h
    · exact .ti h
    · cases h
  · split at h
    · exact .ts h
    · cases h
  · split at h
    · exact .k h
    · cases h
  · cases h
theorem InC.alike {n : Nat} {d d' : PyData} (h : InC n d) (h' : InC n d') : PySem.W.alike d d' = true := by
  cases h with
  | i a => cases h'; simp [PySem.W.alike]
  | s a => cases h'; simp [PySem.W.alike]
  | ti a => cases h' with
    | ti b => rw [PySem.W.alike]; exact intsD_alike a b
  | ts a => cases h' with
    | ts b => rw [PySem.W.alike]; exact strsD_alike a b
  | k a => cases h' with
    | k b => simp [PySem.W.alike, PySem.W.alikeAll, intsD_alike a b]
theorem InC.depth {n : Nat} {d : PyData} (h : InC n d) : d.depth ≤ 2 := by
  cases h with
  | i a => simp [PyData.depth]
  | s a => simp [PyData.depth]
  | ti a => rw [PyData.depth, intsD_depth a]; omega
  | ts a => rw [PyData.depth, strsD_depth a]; omega
  | k a => simp [PyData.depth, PyData.depthAll, intsD_depth a]
theorem sortOk_in {ds : List PyData} (h : sortOk ds = true) : ∃ n, ∀ d ∈ ds, InC n d := by
  have one : ∀ {n : Nat}, ds.all (clsD n) = true → ∀ d ∈ ds, InC n d := fun q d hd => clsD_in (List.all_eq_true.mp q d hd)
  unfold sortOk at h
  simp only [Bool.or_eq_true] at h
  rcases h with h | h | h | h | h
  · exact ⟨0, one h⟩
  · exact ⟨1, one h⟩
  · exact ⟨2, one h⟩
  · exact ⟨3, one h⟩
  · exact ⟨4, one h⟩
theorem in_sortable {ds : List PyData} {n : Nat} (h : ∀ d ∈ ds, InC n d) : PySem.W.Sortable ds := by
  by_cases hn : n = 0 ∨ n = 1
  · refine .inr fun d hd => ?_
    have q := h d hd
    rcases hn with rfl | rfl
    · cases q; exact ⟨by simp, by simp⟩
    · cases q; exact ⟨by simp, by simp⟩
  · refine .inl fun d hd => ?_
    have q := h d hd
    cases q with
    | i => exact absurd (.inl rfl) hn
    | s => exact absurd (.inr rfl) hn
    | ti => exact ⟨_, _, rfl⟩
    | ts => exact ⟨_, _, rfl⟩
    | k => exact ⟨_, _, rfl⟩
/-- what the items of a list that is sorted are known to stand for -/
def ItR (M : Mo) (c : Cf) (v : Value) (b : PyData × Val) : Prop := ∃ y, RV M c b.2 y ∧ RelV y v
theorem sort_each {pins : List (Addr × Obj)} {σ : St} {s : Shared} {c : Cf} {h : LHeap} {n : Nat} (hK : X.K = M.K) (I : Inv X pins σ c.H s) (R : RH M c h) : ∀ {xs : List Val} {ds : List PyData} {ys : List V} {its : List Value}, RVs M c xs ys → mapOpt (toD n h) xs = some ds → Vals ys its →
    PySem.W.EachIs (ItR M c) its (ds.zip xs) ∧ PySem.W.EachIs (fun v (b : PyData × Val) => ∃ as, Reads s.heap v b.1 as) its (ds.zip xs) ∧ ds.length = xs.length
  | [], ds, ys, its, r, e, v => by
    cases e
    cases r
    cases v
    exact ⟨.nil, .nil, rfl⟩
  | x :: xs, ds, ys, its, r, e, v => by
    cases r with
    | cons r1 r2 =>
      cases v with
      | cons v1 v2 =>
        unfold mapOpt at e
        cases q : toD n h x with
        | none => rw [q] at e; cases e
        | some d =>
          rw [q] at e
          dsimp only at e
          cases q2 : mapOpt (toD n h) xs with
          | none => rw [q2] at e; cases e
          | some ds2 =>
            rw [q2] at e
            cases e
            obtain ⟨a1, a2, a3⟩ := sort_each hK I R r2 q2 v2
            refine ⟨.cons ⟨_, r1, v1⟩ a1, .cons ?_ a2, by simp [a3]⟩
            exact Dp.reads I d _ _ (by rw [hK]; exact toD_dp n R r1 q) v1
theorem each_back {c : Cf} : ∀ {out : List Value} {bs : List (PyData × Val)}, PySem.W.EachIs (ItR M c) out bs → ∃ ys, Vals ys out ∧ RVs M c (bs.map (·.2)) ys
  | _, _, .nil => ⟨[], .nil, .nil⟩
  | _, _, .cons ⟨y, h1, h2⟩ t => by
    obtain ⟨ys, a, b⟩ := each_back t
    exact ⟨y :: ys, .cons h2 a, .cons h1 b⟩
def rSrt (M : Mo) : List V → Hp → VK → Prop := fun vs H Q => ∃ c h l xs ds, Has M c h H ∧ vs = [.ref (c.r l)] ∧ h.get l = some (.lst xs) ∧ mapOpt (toD 65 h) xs = some ds ∧ sortOk ds = true ∧
  ∀ ys p, RVs M c ((sortL leD (ds.zip xs)).map (·.2)) ys → H p = none → Q (.ref p) (upd H p (.lst ys))
theorem cr_srt (hK : X.K = M.K) (hu : X.A.units + 65 < cLine) : CallR X (.builtin "sorted") (rSrt M) := by
  intro pins s σ H vs us Q I r hr
  obtain ⟨c, h, l, xs, ds, ⟨rfl, R⟩, rfl, e1, e2, e3, q⟩ := hr
  obtain ⟨ys, hy, ry⟩ := R.lst e1
  obtain ⟨its, rv, hl, hz⟩ := I.list (.inl (.inl hy))
  rw [Vals.ref1 r]
  obtain ⟨a1, a2, a3⟩ := sort_each (n := 65) hK I R ry e2 rv
  obtain ⟨n, hc⟩ := sortOk_in e3
  have zl : (ds.zip xs).length = xs.length := by rw [List.length_zip, a3, Nat.min_self]
  have hf : (ds.zip xs).map (fun p : PyData × Val => p.1) = ds := List.map_fst_zip (by rw [a3]; exact Nat.le_refl _)
  have hxz : xs.length ≤ sizeLine := by rw [ry.length]; exact hz
  refine PySem.W.sorted_data (enc := fun p : PyData × Val => p.1) (R := ItR M c) (bs := ds.zip xs) hl.isList a1 a2 ?_ ?_ (by rw [zl]; exact hxz) (fun b hb => ?_) fun out ho eo => ?_
  · rw [hf]
    exact fun d hd d' hd' => (hc d hd).alike (hc d' hd')
  · rw [hf]
    exact in_sortable hc
  · have := (hc b.1 (by rw [← hf]; exact List.mem_map.mpr ⟨b, hb, rfl⟩)).depth
    omega
  · have em : (ds.zip xs).mergeSort (PySem.W.dataLe false fun p : PyData × Val => p.1) = sortL leD (ds.zip xs) := (sortL_merge leD_total _).symm
    rw [em] at eo
    obtain ⟨zs, vz, rz⟩ := each_back eo
    obtain ⟨ep, he'⟩ := PyProof.Rows.sortedAll_at s.heap its out.toArray
    have hlen : zs.length ≤ sizeLine := by rw [vz.length, ho, zl]; exact hxz
    exact ⟨.ref _, upd c.H (s.heap.objs.size + 1) (.lst zs), I.laid (t' := s.toks) (fun _ _ => PyProof.Rows.sortedAll_old) (Nat.le_succ _) ⟨hlen, out, ep, vz, he'⟩, rfl, q zs _ rz (I.hok.fresh (Nat.le_succ _))⟩
theorem se_srt (G : Gd M X N sc k W) (D : MdOk M md) {x : Str} {p : Pos} {a : Expr} {ma : E} (hf : freeN md sc x "sorted" = true) (hn : notStar a = true) (ha : PE X a (tEv M W (rc.e ma))) :
    PE X (.Call (.Name x p) [a] [] pos) (tEv M W (stepE cl calls rc (.srt ma))) := by
  obtain ⟨rfl, hg, hm⟩ := G.free D hf
  refine PE.of (pe_callB (cr_srt G.hK G.un) hg hm (by decide +kernel) (pa_cons ha pa_nil (notStar_each hn)) (by decide +kernel) (by decide +kernel) (notStar_each hn) (stars_plain (es := []) rfl)) fun σ H Q ⟨c, s, hh, ⟨ee, R, S⟩, g⟩ => ?_
  subst ee
  refine ⟨c, s, hh, ⟨rfl, R, S⟩, Go.bind g fun v h1 c1 w e1 R1 rx g1 => ?_⟩
  cases rx with
  | @ref l hl =>
    dsimp only at g1
    cases q : h1.get l with
    | none => rw [q] at g1; exact g1.elim
    | some ob =>
      rw [q] at g1
      cases ob with
      | lst xs =>
        dsimp only at g1
        cases qd : mapOpt (toD 65 h1) xs with
        | none => rw [qd] at g1; exact g1.elim
        | some ds =>
          rw [qd] at g1
          dsimp only at g1
          cases qs : sortOk ds with
          | false => rw [qs] at g1; exact g1.elim
          | true =>
            rw [qs] at g1
            exact ⟨c1, h1, l, xs, ds, ⟨rfl, R1⟩, rfl, q, qd, qs, fun ys p ry hp => go_alloc_lst R1 ry g1 p hp⟩
      | _ => exact g1.elim
  | _ => exact g1.elim
/-! ### {t: v}, t a tuple -/
def dspK (y z : Val) (h2 : LHeap) : Res Val := match y with
  | .tup ys => (match keysOf ys with
    | some ks => alloc (.dT [(ks, z)]) h2
    | none => .bad)
  | _ => .bad
theorem go_adopt_dT {c c0 : Cf} {h : LHeap} {Q : VK} {E : XK} {p : Addr} {xs : List (List Key × Val)} {ys : List (List Key × V)} (R : RH M c h) (e0 : Ext M c0 c) (hp : NT (c0.H p)) (lo : Loose (c.H p)) (un : ∀ l, l < c.n → c.nm l = true → c.r l ≠ p) (r : RK (List Key) M c xs ys)
    (g : Go M c0 (RV M) (alloc (.dT xs) h) Q E) : Q (.ref p) (upd c.H p (.dT ys)) := by
  unfold alloc at g
  have ex : Ex M c (c.push p (.dT ys)) := ⟨Nat.le_succ _, fun l hl => if_neg (Nat.ne_of_lt hl), fun a xs q => lo.sqT q⟩
  refine g (c.push p (.dT ys)) (.ref p) (e0.adopt hp) (R.adopt lo un (.dT upd_same (r.ex ex))) ?_
  have : RV M (c.push p (.dT ys)) (.ref c.n) (.ref ((c.push p (.dT ys)).r c.n)) := .ref (Nat.lt_succ_self _)
  rw [show (c.push p (.dT ys)).r c.n = p from if_pos rfl] at this
  rw [← R.n]
  exact this
theorem putK_one {K : Type} [DecidableEq K] (k : K) (v : V) : putK ([] : List (K × V)) k v = [(k, v)] := rfl
def tDspT (tk tv : TE) : TE := fun σ H Q => ∀ p, H p = none → tk σ (upd H p (.dT [])) fun x H1 => tv σ H1 fun y H2 => ∃ b ks, x = .ref b ∧ H2 p = some (.dT []) ∧ H2 b = some (.tup (ks.map kV)) ∧ Q (.ref p) (upd H2 p (.dT [(ks, y)]))
theorem pe_dspT {kx vx : Expr} {tk tv : TE} (hu : X.A.units + 2 < cLine) (hk : PE X kx tk) (hv : PE X vx tv) : PE X (.Dict [some kx] [vx] pos) (tDspT tk tv) := by
  refine ⟨fun pins s σ H Q I q => ?_⟩
  have hn := I.hok.fresh (Nat.le_refl s.heap.objs.size)
  have I1 := I.laid (a := s.heap.objs.size) (o := .dT []) (h' := s.heap.push { cls := .type "dict", data := .dict #[] }) (t' := s.toks) (fun _ _ q => Heap.get?_push_of_some _ q) (Nat.le_refl _) (dt_empty s.heap I.big)
  rw [arm_eval_Dict, zip_pairTrees [some kx] [vx] X.env pos rfl rfl, dictDisplay_pairs _ (by simp [pairTrees]) (by simp [pairTrees])]
  refine wpAny_bind (wpAny_standAt (wpAny_bind ?_))
  unfold subDict
  refine wpAny_bind (wpAny_alloc ?_)
  refine wpAny_bind (wpAny_holding ?_)
  rw [if_pos (by simp [pairTrees])]
  have run : wpAny (model X.prog X.w) X.A (evalPairs (pairTrees [some kx] [vx] X.env pos)) (fun vs s2 => ∃ u w2 x y H2, vs = [(u, w2)] ∧ Inv X pins σ H2 s2 ∧ RelV x u ∧ RelV y w2 ∧ ∃ b ks, x = .ref b ∧ H2 s.heap.objs.size = some (.dT []) ∧ H2 b = some (.tup (ks.map kV)) ∧ Q (.ref s.heap.objs.size) (upd H2 s.heap.objs.size (.dT [(ks, y)]))) X.xe { s with heap := s.heap.push { cls := .type "dict", data := .dict #[] } } :=
    pairTrees_cons_walk (thn (hk.run pins _ σ _ _ I1 (q _ hn)) fun u s1 ⟨x, H1, I2, rx, q1⟩ => thn (hv.run pins s1 σ H1 _ I2 q1) fun w2 s2 ⟨y, H2, I3, ry, q2⟩ => pairTrees_nil_walk ⟨u, w2, x, y, H2, rfl, I3, rx, ry, q2⟩)
  refine wpAny_bind (thn run fun vs s2 ⟨u, w2, x, y, H2, ev, I3, rx, ry, b, ks, ex, hp, hb, q2⟩ => ?_)
  subst ev ex
  cases (show u = Value.ref b from rx)
  refine wpAny_holding ?_
  obtain ⟨z, hd, xs, rel, dd⟩ := dt_of I3.hok hp
  cases rel
  rw [List.forIn_cons]
  refine wpAny_bind (wpAny_bind ?_)
  dsimp only
  refine wpAny_bind (wpAny_dictSet_heap (hsz := Nat.zero_le _) (knd := tupleKind (mixKind X.prog X.w)) (by show _ < cLine; first | exact (by omega : X.A.units < cLine) | (simp only [Around.in1] <;> omega)) (key_of I3.hok hb) dd fun h' dd' hs => wpAny_pure ?_)
  dsimp only
  rw [List.forIn_nil]
  refine wpAny_pure (wpAny_pure (wpAny_pure (wpAny_pure ⟨.ref s.heap.objs.size, upd H2 s.heap.objs.size (.dT [(ks, y)]), ?_, rfl, q2⟩)))
  obtain ⟨o, es, ep, hq, h2, h3, h4, _, h5⟩ := dd'
  refine d_write I3 (by rw [hp]; exact True.intro) hs ⟨o, hq⟩ ⟨?_, hd, _, ((KT.put (H := H2) (kvs := []) (xs := []) .nil ks hb ry)).keeps fun c ys ec => ?_, o, es, ep, hq, h2, h3, h4, h5⟩
  · rw [sizeLine_eq]; show 1 ≤ 16777216; decide
  · rw [upd_ne (ne_of ec hp (fun z => nomatch z))]
    exact ec
theorem se_dspT (G : Gd M X N sc k W) {kx vx : Expr} {mk mv : E} (hk : PE X kx (tEv M W (rc.e mk))) (hv : PE X vx (tEv M W (rc.e mv))) : PE X (.Dict [some kx] [vx] pos) (tEv M W (stepE cl calls rc (.dspT mk mv))) := by
  refine PE.of (pe_dspT (by have := G.un; omega) hk hv) fun σ H Q ⟨c, s, hh, ⟨ee, R, S⟩, g⟩ => ?_
  subst ee
  intro p hp
  obtain ⟨R', ex⟩ := R.side (u := .dT []) hp
  have nn : ∀ l, l < (c.upd p (.dT [])).n → (c.upd p (.dT [])).nm l = true → (c.upd p (.dT [])).r l ≠ p := R.new hp
  refine ⟨c.upd p (.dT []), s, hh, ⟨rfl, R', S.ext ex⟩, ?_⟩
  have g0 : Go M c (RV M) ((rc.e mk s hh).bind fun y h1 => (rc.e mv s h1).bind fun z h2 => dspK y z h2) Q (fun cls d H' => W cls d σ H') := g
  revert g0
  cases rc.e mk s hh with
  | bad => exact id
  | exc kk fs h2 => exact fun g0 c' cls d e R2 rx => g0 c' cls d (ex.trans e) R2 rx
  | ok y h1 =>
    intro g0 c1 w e1 R1 rx
    refine ⟨c1, s, h1, ⟨rfl, R1, (S.ext ex).ext e1⟩, ?_⟩
    have g1 : Go M c (RV M) ((rc.e mv s h1).bind fun z h2 => dspK y z h2) Q (fun cls d H' => W cls d σ H') := g0
    revert g1
    cases rc.e mv s h1 with
    | bad => exact id
    | exc kk fs h2 => exact fun g1 c' cls d e R2 rx => g1 c' cls d ((ex.trans e1).trans e) R2 rx
    | ok z h2 =>
      intro g1 c2 w2 e2 R2 rz
      have g2 : Go M c (RV M) (dspK y z h2) Q (fun cls d H' => W cls d σ H') := g1
      cases rx with
      | @tup ys b us hy ry =>
        unfold dspK at g2
        dsimp only at g2
        cases qk : keysOf ys with
        | none => rw [qk] at g2; exact g2.elim
        | some ks =>
          rw [qk] at g2
          have e02 : Ext M (c.upd p (.dT [])) c2 := e1.trans e2
          have hy2 := e2.x.t _ _ hy
          rw [keysOf_rv ry qk] at hy2
          have hp2 : c2.H p = some (.dT []) := e02.f p _ upd_same (fun ⟨_, z⟩ => nomatch z) nn
          refine ⟨b, ks, rfl, hp2, hy2, ?_⟩
          refine go_adopt_dT R2 (ex.trans e02) (NT.none hp) (by rw [hp2]; exact True.intro) ?_ (.cons rz .nil) g2
          intro l hl hm e
          by_cases ql : l < c.n
          · rw [e02.x.r l ql] at e
            rw [e02.m l ql] at hm
            exact nn l ql hm e
          · obtain ⟨ps, z⟩ := e02.fr l (Nat.le_of_not_lt ql) hl (.dT []) (by rw [e]; exact upd_same)
            cases z
      | _ => exact g2.elim
end
end Ev

set_option Elab.async false
set_option linter.all false
set_option maxRecDepth 100000
set_option maxHeartbeats 4000000
/-! sorted(xs, key=lambda x: (len(x), x)). -/
noncomputable section
namespace Ev
open PySem PySem.Spec PyProof.Rows L2
/-- what the scope of such a lambda must say -/
structure KeyS (scope : Scope) (a : Str) : Prop where
  kind : scope.kind = .function
  co : scope.isCoroutine = false
  gen : scope.isGenerator = false
  nc : ∀ y ∈ scope.names, y.2 ≠ .cell
  nf : ∀ y ∈ scope.names, y.2 ≠ .free
  la : scope.names.lookup a = some .local
  ll : scope.names.lookup ("len" : Str) = some .globalImplicit
abbrev keyBody (a : Str) (j : Nat) (p1 p2 p3 p4 p5 : Pos) : Expr := .Tuple [.Call (.Name "len" p1) [.Name a p2] [] p3, .Name a p4] j p5
/-- the call of lambda a: (len(a), a) with a tuple of data -/
theorem key_call {prog : Program} {w : World} {A : Around} {s : Shared} {f c' t : Addr} {q a : Str} {params : Arguments} {scope : Scope} {pm ctv : Value} {j : Nat} {p1 p2 p3 p4 p5 : Pos} {its : List Value} {ds : List PyData} {mg mb : Str → Option Value}
    (hroom : A.depth < recursionLimit) (lim : s.heap.NoLimit) (hf : s.heap.get? f = some (PySem.W.kla_obj "<lambda>" q params (keyBody a j p1 p2 p3 p4 p5) scope [] pm c' ctv)) (hcd : s.heap.CodeRec (.ref c') q)
    (hbind : ∀ v, bindArgs (PySem.W.kla_fn "<lambda>" q params (keyBody a j p1 p2 p3 p4 p5) scope [] pm (.ref c') ctv) ⟨[v], []⟩ = pure [(a, v)]) (S : KeyS scope a) (hda : (a == ("__debug__" : Str)) = false)
    (hg : s.heap.Ns mainGlobals mg) (hl : mg "len" = none) (hb : s.heap.Ns builtinsNs mb) (hbb : mb "len" = some (.builtin "len")) (ht : IsTup s.heap t its.toArray) (hz : its.length ≤ sizeLine) (rd : ReadsAll s.heap its ds []) :
    wpAny (model prog w) A (call (.ref f) [.ref t]) (PySem.W.KeyPure (.tuple [.int its.length, .tuple ds]) s) (fun _ _ => False) s := by
  refine wpAny_call (PySem.W.kla_callFunE hroom hf rfl S.co S.gen rfl hcd ?_)
  rw [hbind]
  refine wpAny_pure (wpAny_newFunctionEnv S.nc (fun y hy => ?_) (fun h₁ hns hsb => ⟨lim.fresh _ hsb, ?_⟩) S.kind)
  · rw [List.mem_singleton] at hy
    rw [hy]
    exact S.la
  have kp : ∀ b o, s.heap.get? b = some o → h₁.get? b = some o := fun b o e => hsb.extBut b o (Nat.ne_of_lt (Heap.lt_size e)) (Heap.get?_push_of_some _ e)
  show codeAny _ _ (.expr (keyBody a j p1 p2 p3 p4 p5) (PySem.W.envX q scope s.heap.objs.size f (.ref c') [])) _ _
  refine PySem.W.kla_codeExpr ?_
  have la : ∀ {A' : Around} {E' : Value → Shared → Prop} {tk : Nat} {p : Pos} {Q : Value → Shared → Prop}, Q (.ref t) { s with heap := h₁, toks := tk } → wpAny (model prog w) A' (eval (.Name a p) (PySem.W.envX q scope s.heap.objs.size f (.ref c') [])) Q E' { s with heap := h₁, toks := tk } :=
    fun {A' E' tk p Q} hq => wpAny_Name (wpAny_loadName_local S.kind S.la hns (by show ([(a, Value.ref t)] : List (Str × Value)).lookup a = _; simp) hq) hda
  refine wpAny_Tuple ?_
  show wpAny _ _ (spliced ((false, eval (.Call (.Name "len" p1) [.Name a p2] [] p3) _) :: (false, eval (.Name a p4) _) :: [])) _ _ _
  refine Calls.spliced_cons ?_
  refine wpAny_Call_Name_kw (Calls.Name_function_global S.kind S.ll (Calls.loadGlobal_builtin (hg.keeps kp) hl (hb.keeps kp) hbb ?_) (by decide))
  show wpAny _ _ (callWith p3 (.builtin "len") [] ((false, eval (.Name a p2) _) :: []) []) _ _ _
  refine Calls.callWith_builtin rfl (Calls.evalArgs_plain (Calls.spliced_cons (la (Calls.spliced_nil ?_))))
  have ht1 : IsTup h₁ t its.toArray := by
    obtain ⟨o, e, r⟩ := ht
    exact ⟨o, kp _ _ e, r⟩
  refine PyProof.Rows.len_tuple (items := its.toArray) ht1 (by rw [List.size_toArray]; rw [sizeLine_eq] at hz; omega) ?_
  refine Calls.spliced_cons (la (Calls.spliced_nil ⟨by show 2 ≤ sizeLine; rw [sizeLine_eq]; decide, ?_⟩))
  refine ⟨_, _, rfl, fun b o e => Heap.get?_push_of_some _ (kp b o e), ?_⟩
  obtain ⟨o, e, c1, n, d1⟩ := ht1
  refine Reads.tuple (vs := [Value.int its.length _, Value.ref t].toArray) (Heap.get?_push_size _ rfl) rfl rfl ?_
  exact .cons (.int _ _) (.cons (.tuple (Heap.get?_push_of_some _ e) c1 d1 (PyProof.Rows.ReadsAll.keeps (fun b o e => Heap.get?_push_of_some _ (kp b o e)) rd)) .nil)
section
variable {M : Mo} {X : Cx} {N : List Str} {sc : Scope} {k : Nat} {W : WX} {md : Md} {cl : Cl} {calls : Nat → List Val → LHeap → Res Val} {rc : Rec} {pos : Pos}
/-- c behind the making of a lambda -/
def Cf.lam (c : Cf) (H : Hp) : Cf := ⟨c.n, c.r, c.nm, H⟩
theorem ntb {o : HO} (h : ¬ Tb o) : ∀ ps, o ≠ .tbl ps := fun ps e => h ⟨ps, e⟩
theorem Ext.lam {c : Cf} {H : Hp} (e : LamX.ExtN c.H H) : Ext M c (c.lam H) :=
  ⟨⟨Nat.le_refl _, fun _ _ => rfl, fun a xs h => e a _ h (ntb ntTup)⟩, fun _ _ => rfl, fun a o h nt _ => e a o h (ntb nt), fun l h1 h2 => absurd h2 (Nat.not_lt.mpr h1), fun a o h nt => ⟨o, e a o h (ntb nt), nt⟩⟩
theorem RH.lam {c : Cf} {h : LHeap} {H : Hp} (R : RH M c h) (e : LamX.ExtN c.H H) (t : LamX.Tabs M.tb H) : RH M (c.lam H) h :=
  ⟨R.n, fun l o q => (R.o l o q).all (Ext.lam (M := M) e).x fun a o h nt => e a o h (ntb nt), R.inj, R.nm, R.mn, t⟩
/-- what is known of an item that is sorted by (len(x), x) -/
def KeyR (M : Mo) (c : Cf) (h : Heap) (v : Value) (b : PyData × Val) : Prop := ItR M c v b ∧ ∃ (t : Addr) (its : List Value) (ds : List PyData), v = .ref t ∧ IsTup h t its.toArray ∧ its.length ≤ sizeLine ∧ ReadsAll h its ds [] ∧ b.1 = .tuple [.int its.length, .tuple ds]
theorem ints_reads {pins : List (Addr × Obj)} {σ : St} {H : Hp} {s : Shared} (I : Inv X pins σ H s) : ∀ {xs : List V} {ds : List PyData} {its : List Value}, DpAll X.K H xs ds → intsD ds = true → Vals xs its → ReadsAll s.heap its ds []
  | [], _, _, .nil, _, v => by cases v; exact .nil
  | x :: xs, _, _, .cons (d := d) (ds := ds) h t, e, v => by
    cases v with
    | cons v1 v2 =>
      cases d <;> first | (simp [intsD] at e; done) | skip
      cases h
      obtain ⟨tk, rfl⟩ := v1
      exact .cons (as := []) (bs := []) (.int _ _) (ints_reads I t (by simpa [intsD] using e) v2)
theorem dpAll_length {K : PySem.W.Frag} {H : Hp} : ∀ {xs : List V} {ds : List PyData}, DpAll K H xs ds → xs.length = ds.length
  | _, _, .nil => rfl
  | _, _, .cons _ t => by simp [dpAll_length t]
theorem key_each {pins : List (Addr × Obj)} {σ : St} {s : Shared} {c : Cf} {h : LHeap} {n : Nat} (hK : X.K = M.K) (I : Inv X pins σ c.H s) (R : RH M c h) : ∀ {xs : List Val} {ds ks : List PyData} {ys : List V} {its : List Value}, RVs M c xs ys → mapOpt (toD n h) xs = some ds → mapOpt lenKey ds = some ks → Vals ys its →
    PySem.W.EachIs (KeyR M c s.heap) its (ks.zip xs) ∧ ks.length = xs.length ∧ ∀ d ∈ ks, InC 4 d
  | [], ds, ks, ys, its, r, e, e', v => by
    cases e
    cases e'
    cases r
    cases v
    exact ⟨.nil, rfl, fun d hd => nomatch hd⟩
  | x :: xs, ds, ks, ys, its, r, e, e', v => by
    cases r with
    | cons r1 r2 =>
      cases v with
      | cons v1 v2 =>
        unfold mapOpt at e
        cases q : toD n h x with
        | none => rw [q] at e; cases e
        | some d =>
          rw [q] at e
          dsimp only at e
          cases q2 : mapOpt (toD n h) xs with
          | none => rw [q2] at e; cases e
          | some ds2 =>
            rw [q2] at e
            cases e
            unfold mapOpt at e'
            cases q3 : lenKey d with
            | none => rw [q3] at e'; cases e'
            | some kd =>
              rw [q3] at e'
              dsimp only at e'
              cases q4 : mapOpt lenKey ds2 with
              | none => rw [q4] at e'; cases e'
              | some ks2 =>
                rw [q4] at e'
                cases e'
                obtain ⟨a1, a2, a3⟩ := key_each hK I R r2 q2 q4 v2
                have dp := toD_dp n R r1 q
                rw [← hK] at dp
                cases d with
                | tuple rr =>
                  unfold lenKey at q3
                  dsimp only at q3
                  cases qi : intsD rr with
                  | false => rw [qi] at q3; cases q3
                  | true =>
                    rw [qi] at q3
                    cases q3
                    cases dp with
                    | @tup t zs _ hs hz =>
                      obtain ⟨its', rv, ht, hl⟩ := I.tuple hs
                      obtain rfl : _ = Value.ref t := v1
                      refine ⟨.cons ⟨⟨_, r1, rfl⟩, t, its', rr, rfl, ht, by rw [← rv.length]; exact hl, ints_reads I hz qi rv, ?_⟩ a1, by simp [a2], fun d hd => ?_⟩
                      · show PyData.tuple [.int rr.length, .tuple rr] = _
                        rw [← rv.length, dpAll_length hz]
                      · rcases List.mem_cons.mp hd with z | z
                        · rw [z]; exact .k qi
                        · exact a3 d z
                | _ => cases q3
theorem se_srtK (G : Gd M X N sc k W) (D : MdOk M md) (LA : LamAt M X) {x a : Str} {p lpos kpos p1 p2 p3 p4 p5 : Pos} {j : Nat} {e : Expr} {me : E} {params : Arguments} {scope : Scope} (hf : freeN md sc x "sorted" = true) (hl : memS "len" md.free = true) (hn : notStar e = true) (KS : KeyS scope a) (hda : (a == ("__debug__" : Str)) = false)
    (hdef : defaultsOf params X.env = ([], [])) (hbind : ∀ q pm c' ctv v, bindArgs (PySem.W.kla_fn "<lambda>" q params (keyBody a j p1 p2 p3 p4 p5) scope [] pm (.ref c') ctv) ⟨[v], []⟩ = pure [(a, v)]) (he : PE X e (tEv M W (rc.e me))) :
    PE X (.Call (.Name x p) [e] [⟨some "key", .Lambda params (keyBody a j p1 p2 p3 p4 p5) scope lpos, kpos⟩] pos) (tEv M W (stepE cl calls rc (.srtK me))) := by
  obtain ⟨rfl, hg, hm⟩ := G.free D hf
  obtain ⟨cc, P, hcode, TB, hmT, huT⟩ := LA
  refine ⟨fun pins s σ H Q I h => ?_⟩
  obtain ⟨c, st, hh, ⟨rfl, R, S⟩, g⟩ := h
  refine wpAny_Call_Name_kw (ld_blt I hg hm (u := .builtin "sorted") (by decide +kernel) ?_ (by decide +kernel) (by decide +kernel))
  have ha := pa_cons he (pa_nil (X := X)) (notStar_each hn)
  refine PyProof.Rows.callWith_kw (thn (ha.run pos pins s σ c.H (fun vs H1 => ∃ c1 h1 v w, vs = [w] ∧ H1 = c1.H ∧ Ext M c c1 ∧ RH M c1 h1 ∧ RV M c1 v w ∧ Go M c1 (RV M) (match v with
    | .ref a => (match h1.get a with
      | some (.lst xs) => (match mapOpt (toD 65 h1) xs with
        | some ds => (match mapOpt lenKey ds with
          | some ks => alloc (.lst ((sortL leD (ks.zip xs)).map (·.2))) h1
          | none => .bad)
        | none => .bad)
      | _ => .bad)
    | _ => .bad) Q (fun cls d H' => W cls d σ H')) I ⟨c, st, hh, ⟨rfl, R, S⟩, Go.bind g fun v h1 c1 w e1 R1 rx g1 => ⟨c1, h1, v, w, rfl, rfl, e1, R1, rx, g1⟩⟩) fun us s1 ⟨vs, H1, I1, r1, c1, h1, v, w, ev, eH, e1, R1, rx, g1⟩ => ?_)
    (by rw [notStar_each hn]; rfl) (by rw [notStar_each hn]; rfl)
  subst ev eH
  obtain ⟨u, rfl, ru⟩ := r1.one
  show wpAny _ _ (evalAll ((do let v ← eval (.Lambda params (keyBody a j p1 p2 p3 p4 p5) scope lpos) X.env; standAt pos; pure v) :: [])) _ _ s1
  refine wpAny_evalAll_cons (wpAny_bind (LamX.lam_make2 I1 TB hcode hmT huT R1.tb hdef (fun y hy e => absurd e (KS.nf y hy)) fun f c' pm ctv H2 s2 I2 eN T2 hf2 hfn hfr hco => wpAny_bind (wpAny_standAt (wpAny_pure (wpAny_evalAll_nil ?_)))))
  have R2 := R1.lam eN T2
  have e2 : Ext M c1 (c1.lam H2) := Ext.lam eN
  have rx2 := rx.ext e2
  have g2 := Go.ext e2 g1
  cases rx2 with
  | @ref l hll =>
    dsimp only at g2
    cases q : h1.get l with
    | none => rw [q] at g2; exact g2.elim
    | some ob =>
      rw [q] at g2
      cases ob with
      | lst xs =>
        dsimp only at g2
        cases qd : mapOpt (toD 65 h1) xs with
        | none => rw [qd] at g2; exact g2.elim
        | some ds =>
          rw [qd] at g2
          dsimp only at g2
          cases qk : mapOpt lenKey ds with
          | none => rw [qk] at g2; exact g2.elim
          | some ks =>
            rw [qk] at g2
            dsimp only at g2
            obtain ⟨ys, hy, ry⟩ := R2.lst q
            have I2' : Inv X pins σ (c1.lam H2).H s2 := I2
            obtain ⟨its, rv, hli, hz⟩ := I2'.list (.inl (.inl hy))
            obtain rfl : u = Value.ref ((c1.lam H2).r l) := ru
            obtain ⟨a1, a2, a3⟩ := key_each (n := 65) G.hK I2' R2 ry qd qk rv
            have zl : (ks.zip xs).length = xs.length := by rw [List.length_zip, a2, Nat.min_self]
            have hfst : (ks.zip xs).map (fun p : PyData × Val => p.1) = ks := List.map_fst_zip (by rw [a2]; exact Nat.le_refl _)
            have hxz : xs.length ≤ sizeLine := by rw [ry.length]; exact hz
            have hcl : cloFrom X.env.cells scope.names [] = [] := by
              cases qc : cloFrom X.env.cells scope.names [] with
              | nil => rfl
              | cons z zs =>
                exfalso
                have hm := cloFrom_mem (cells := X.env.cells) (names := scope.names) (acc := []) (n := z.1) (c := z.2) (by rw [qc]; exact List.mem_cons_self ..)
                rcases hm with h0 | ⟨h0, _⟩
                · cases h0
                · exact KS.nf _ h0 rfl
            rw [hcl] at hf2
            obtain ⟨⟨oc, vs, tq, hoc, hdc, hvc⟩, _, _⟩ := I2.hok c' _ hco
            obtain ⟨mb, hb1, hb2⟩ := I2.mod.blt
            show wpAny _ _ (call (.builtin "sorted") [Value.ref ((c1.lam H2).r l)] [(Str.ofString "key", .ref f)]) _ _ s2
            refine PySem.W.sorted_key_data (R := KeyR M (c1.lam H2) s2.heap) (bs := ks.zip xs) (b := false) (f := .ref f) (fun b : PyData × Val => b.1) hli.isList a1 ?_ ?_ (by rw [zl]; exact hxz) (fun b hb => ?_) (PyProof.Rows.ksk_s1 _ _) (fun y => PyProof.Rows.ksk_l1 _ _) (fun y => PyProof.Rows.ksk_t1 _ _) (fun v b hR hb h tk kp => ?_) fun out cc h' tk kp fr hD ho eo => ?_
            · rw [hfst]; exact fun d hd d' hd' => (a3 d hd).alike (a3 d' hd')
            · rw [hfst]; exact in_sortable a3
            · have := (a3 b.1 (by rw [← hfst]; exact List.mem_map.mpr ⟨b, hb, rfl⟩)).depth
              have := G.un
              omega
            · obtain ⟨_, t, its2, ds2, rfl, ht, hz2, hrd, eb⟩ := hR
              rw [eb]
              refine key_call (s := { s2 with heap := h, toks := tk }) (mg := X.mg) (mb := mb) G.room.depth (I2.nolimit.keeps kp) (kp _ _ hf2) ⟨c', oc, vs, tq, rfl, kp _ _ hoc, hdc, hvc⟩ (fun v => hbind _ _ _ _ v) KS hda ((I2.mod.glob.keeps I2.bk).keeps kp) (by rw [G.hmg]; exact D.free _ hl) ((hb1.keeps I2.bk).keeps kp) ((hb2 _ (by decide +kernel)).trans (by decide +kernel)) ?_ hz2 (PyProof.Rows.ReadsAll.keeps kp hrd)
              obtain ⟨o, e, r⟩ := ht
              exact ⟨o, kp _ _ e, r⟩
            · have em : (ks.zip xs).mergeSort (PySem.W.dataLe false fun p : PyData × Val => p.1) = sortL leD (ks.zip xs) := (sortL_merge leD_total _).symm
              rw [em] at eo
              obtain ⟨zs, vz, rz⟩ := each_back (eo.mono fun v b h => h.1)
              have hlen : zs.length ≤ sizeLine := by rw [vz.length, ho, zl]; exact hxz
              exact ⟨.ref _, upd H2 (s2.heap.objs.size + 1) (.lst zs), I2.laid (t' := tk) kp (Nat.le_succ _) ⟨hlen, out, cc, vz, hD⟩, rfl, go_alloc_lst R2 rz g2 _ (I2.hok.fresh (Nat.le_succ _))⟩
      | _ => exact g2.elim
  | _ => exact g2.elim
end
end Ev

set_option Elab.async false
set_option linter.all false
set_option maxRecDepth 100000
set_option maxHeartbeats 2000000
/-! enumerate over a tuple. -/
noncomputable section
namespace Ev
open PySem PySem.Spec PyProof.Rows L2
/-- enumerate(t), t a tracked tuple: the items in new pairs -/
def ItE (a : Addr) : L2.It :=
  ⟨fun i H => ∃ (xs : List V) (x : V), H a = some (.tup xs) ∧ xs[i]? = some x, fun i H v H' => ∃ T x xs, v = .ref T ∧ H T = none ∧ H' = upd H T (.tup [.int (i : Nat), x]) ∧ H a = some (.tup xs) ∧ xs[i]? = some x, fun i H => ∃ xs : List V, H a = some (.tup xs) ∧ xs.length ≤ i⟩
theorem tup_at {X : Cx} {pins : List (Addr × Obj)} {σ : St} {H : Hp} {s : Shared} {a : Addr} {xs : List V} (I : Inv X pins σ H s) (h : H a = some (.tup xs)) : ∃ its : List Value, Vals xs its ∧ s.heap.IsTuple a its.toArray := by
  obtain ⟨its, rv, p, _⟩ := I.tuple (SqT.of h)
  exact ⟨its, rv, p⟩
theorem enumT_end {prog : Program} {w : World} {A : Around} {E : Value → Shared → Prop} {s : Shared} {e it a : Addr} {i : Nat} {k : Int} {vs : Array Value} {old : Value} {Q : Option Value → Shared → Prop} (hh : A.handled = none)
    (he : IsEnum s.heap e it k old) (hit : s.heap.IsTupleIter it a i) (ht : s.heap.IsTuple a vs) (hx : vs[i]? = none) (hQ : ∀ h2, Heap.ExtBut it s.heap h2 → Q none { s with heap := h2 }) : wpAny (model prog w) A (pyNext (.ref e)) Q E s := by
  have ty : s.TypeIs (.ref e) "enumerate" := ⟨_, he, rfl⟩
  unfold pyNext
  refine wpAny_bind (wpAny_attempt ?_)
  refine wpAny_callSpecial?_slot (name := Str.ofString "__next__") ty F.slot_enumerate_next ?_
  refine wpAny_call_entry F.slot_enumerate_next ty F.entry_enumerate_next ?_ (F.args_enumerate_next_1 _)
  show wpAny _ _ (field (.ref e) 2 >>= _) _ _ _
  refine wpAny_bind (wpAny_field he rfl (x := .ref it) rfl (wpAny_bind ?_))
  refine wpAny_nextOf_tuple_end hh hit ht hx fun h2 x2 k2 c2 => ?_
  obtain ⟨ox, hox, hcx⟩ := c2
  exact wpAny_bind (wpAny_isInstance (T := "StopIteration") (b := true) ⟨ox, hox, hcx⟩ isSubtype_stop (wpAny_pure (hQ h2 k2)))
theorem turn_enumT {P : Program} {w : World} {K : PySem.W.Frag} {elts : List Expr} {kk : Nat} {tpos : Pos} (a e it : Addr) :
    Turn P w K (.Tuple elts kk tpos) (ItE a) [e, it] e (fun i h => (∃ old, IsEnum h e it ((0 : Int) + ((i : Nat) : Int)) old) ∧ h.IsTupleIter it a i ∧ e ≠ it) where
  mem := by simp
  obj := fun i h st b hb => by
    obtain ⟨⟨old, he⟩, ⟨o, ho, hc, hd⟩, _⟩ := st
    rcases List.mem_cons.mp hb with z | z
    · subst z; exact ⟨_, he, fun v q => nomatch q⟩
    · have z' : b = it := by simpa using z
      subst z'; exact ⟨o, ho, fun v q => by rw [hd] at q; cases q⟩
  keep := fun i h h' st k => let ⟨⟨old, he⟩, hi, hne⟩ := st; ⟨⟨old, k e (by simp) _ he⟩, hi.at fun o q => k it (by simp) o q, hne⟩
  item := by
    intro X hP hw hK hc i pins s σ H E I hf st hg
    subst hP hw hK
    obtain ⟨he, hit, hne⟩ := st
    obtain ⟨xs, x, ht, hx⟩ := hg
    obtain ⟨its, rv, p⟩ := tup_at I ht
    have fe := hf e (by simp)
    have fi := hf it (by simp)
    have ai : a ≠ it := fun z => by rw [z, fi.1] at ht; cases ht
    have ae : a ≠ e := fun z => by rw [z, fe.1] at ht; cases ht
    have hh : X.A.in1.handled = none := I.ok.hd hc
    have Wk := WalksT.enumFrom (A := X.A) (0 : Int) (Draws.tuple (prog := X.prog) (w := X.w) hh it a ai its.toArray) e hne (by simp [hne, Ne.symm ae]) (by simp)
    obtain ⟨u, hu, ru⟩ := rv.get hx
    have hil : i < its.length := (List.getElem?_eq_some_iff.mp hu).1
    refine Wk.item i s _ E (by simpa using hil) ⟨he, hit, p⟩ fun T vals h1 tk pt hT htup mid hk => ⟨.ref T, rfl, ?_⟩
    refine Wk.go elts kk tpos i T { s with heap := h1, toks := tk } _ E mid fun h2 st2 hk2 => ?_
    obtain ⟨t, y, hy, rfl⟩ := pt
    have ey : y = u := by
      have e1 : its[i]? = some y := by simpa using hy
      rw [hu] at e1
      exact (Option.some.inj e1).symm
    subst ey
    have hTn : T ∉ [e, it] := Wk.apart i T h1 mid
    have new : ObjOk X.prog X.w (upd H T (.tup [.int (i : Nat), x])) h2 T (.tup [.int (i : Nat), x]) := by
      refine ⟨by show 2 ≤ sizeLine; decide, [.int ((0 : Int) + (i : Int)) t, y], .cons ⟨t, by simp⟩ (.cons ru .nil), ?_⟩
      obtain ⟨o, ho, hcl, n, hd⟩ := htup
      exact ⟨o, hk2 T o hTn ho, hcl, n, hd⟩
    have I1 : Inv X pins σ (upd H T (.tup [.int (i : Nat), x])) { s with heap := h2, toks := tk } :=
      I.turnedNew (ch := [e, it]) (fun b ob hb q => hk2 b ob hb (hk b ob hb q)) hf hT new
    refine ⟨.ref T, _, I1, rfl, ⟨T, x, xs, rfl, I.hok.fresh hT, rfl, ht, hx⟩, ⟨?_, st2.2.1, hne⟩, fun b hb => ?_⟩
    · obtain ⟨old, q⟩ := st2.1
      exact ⟨old, by simpa using q⟩
    · rw [upd_ne (fun z => hTn (by rw [← z]; exact hb))]
      exact (hf b hb).1
  done := by
    intro X hP hw hK hc i pins s σ H E I hf st hg
    subst hP hw hK
    obtain ⟨he, hit, hne⟩ := st
    obtain ⟨xs, ht, hx⟩ := hg
    obtain ⟨its, rv, p⟩ := tup_at I ht
    have hlen := rv.length
    have hT : s.TypeIs (.ref e) "enumerate" := by obtain ⟨old, q⟩ := he; exact ⟨_, q, rfl⟩
    have fi := hf it (by simp)
    have ai : a ≠ it := fun z => by rw [z, fi.1] at ht; cases ht
    obtain ⟨old, he⟩ := he
    refine enumT_end (I.ok.hd hc) he hit p (by simp; omega) fun h2 eb => ⟨rfl, I.turned (t' := s.toks) (fun b o hb q => eb b o hb q) fi.1 fi.2.1 fi.2.2.2.1 fi.2.2.2.2.1 fi.2.2.2.2.2⟩
  self := fun A i s Q E st h => let ⟨⟨_, he⟩, _⟩ := st; wpAny_pyIter_enum he h
/-! ### making it -/
theorem meets_enum1 {v : Value} {o : Obj} {G : Heap → Prop} (B : Begins v o G) :
    Meets (Builtin.«enumerate.__new__» ⟨[.type "enumerate", v], []⟩) (fun _ R s => G s.heap ∧
      R (.ok (.ret (.ref (s.heap.push o).objs.size))) { s with heap := (s.heap.push o).push { cls := .type "enumerate", data := .fields #[.none, .bool false, .ref s.heap.objs.size, rawInt 0, .none, .none] } }) :=
  .of_wp fun prog w A R s hs => by
    obtain ⟨hp, gs, dr, tk, os⟩ := s
    obtain ⟨b1, b2⟩ := hs
    have subE := sub_enumerate
    have itB : ∀ {A' : Around} {E : Value → Shared → Prop} {Q : Value → Shared → Prop}, Q (.ref hp.objs.size) ⟨hp.push o, gs, dr, tk, os⟩ → wpAny (model prog w) A' (pyIter v) Q E ⟨hp, gs, dr, tk, os⟩ :=
      fun q => B.iter prog w _ _ ⟨hp, gs, dr, tk, os⟩ _ b1 q
    wp_walk using itB
    refine wpAny_stack_any fun stk => wpAny_pure ?_
    split
    · rename_i cc _ _ _ _ _
      cases (cc == Value.type "enumerate") <;> (wp_walk using itB; exact ⟨_, rfl, b2⟩)
    · (wp_walk using itB; exact ⟨_, rfl, b2⟩)
theorem call_enum1 {prog : Program} {w : World} {A : Around} {E : Value → Shared → Prop} {s : Shared} {a : Addr} {vs : Array Value} {Q : Value → Shared → Prop} (ht : s.heap.IsTuple a vs)
    (hq : ∀ h2, IsEnum h2 (s.heap.objs.size + 1) s.heap.objs.size 0 .none → h2.IsTupleIter s.heap.objs.size a 0 → (∀ b o, s.heap.get? b = some o → h2.get? b = some o) → Q (.ref (s.heap.objs.size + 1)) { s with heap := h2 }) :
    wpAny (model prog w) A (call (.type "enumerate") [.ref a]) Q E s := by
  have B := begins_tuple a vs
  refine callType_new F.called_enumerate (by decide) (F.typeCall_enumerate_1 _) (F.newCall_enumerate_1 _) (fun ob => F.args_object_init_2 ob _) F.entry_enumerate_new (meets_enum1 B) ⟨ht, ?_⟩
  have z : (s.heap.push { cls := .type "tuple_iterator", data := .fields #[.ref a, .int 0 0] }).objs.size = s.heap.objs.size + 1 := Heap.size_push ..
  show _ ∧ _
  rw [z]
  have hE : IsEnum ((s.heap.push { cls := .type "tuple_iterator", data := .fields #[.ref a, .int 0 0] }).push { cls := .type "enumerate", data := .fields #[.none, .bool false, .ref s.heap.objs.size, rawInt 0, .none, .none] }) (s.heap.objs.size + 1) s.heap.objs.size 0 .none := by
    have q := Heap.get?_push_size (s.heap.push { cls := .type "tuple_iterator", data := .fields #[.ref a, .int 0 0] }) (o := { cls := .type "enumerate", data := .fields #[.none, .bool false, .ref s.heap.objs.size, rawInt 0, .none, .none] }) rfl
    rw [z] at q
    exact q
  refine ⟨⟨_, hE, rfl⟩, hq _ hE ⟨_, Heap.get?_push_of_some _ (Heap.get?_push_size _ rfl), rfl, rfl⟩ fun b o x => Heap.get?_push_of_some _ (Heap.get?_push_of_some _ x)⟩
/-- enumerate(e) of a tracked tuple -/
def iEnumT (ta : TA) : TI := fun σ H R => ta σ H fun vs H1 => ∃ a xs, vs = [.ref a] ∧ H1 a = some (.tup xs) ∧ R (ItE a) H1
theorem pi_enumT {X : Cx} {e : Expr} {ta : TA} {p pos tpos : Pos} {elts : List Expr} {kk : Nat} (hg : Gl X "enumerate") (hm : X.mg "enumerate" = none) (ha : PA X [e] ta) (hs : starEach [e] X.env = [(false, eval e X.env)]) :
    PI X (.Tuple elts kk tpos) (.Call (.Name "enumerate" p) [e] [] pos) (iEnumT ta) := by
  refine ⟨fun pins s σ H R I h => Call_ (ld_blt I hg hm boot_enumerate (PyProof.Rows.callWith_type1 (thn (ha.run pos pins s σ H _ I h) fun us s1 ⟨vs, H1, I1, r1, q1⟩ => ?_) hs rfl))⟩
  obtain ⟨a, xs, ex, ht, q⟩ := q1
  subst ex
  obtain ⟨u, rfl, ru⟩ := vals1 r1
  obtain rfl : u = Value.ref a := ru
  obtain ⟨its, rv, p'⟩ := tup_at I1 ht
  refine call_enum1 p' fun h2 he hit hk => wpAny_pyIter_enum he ?_
  refine ⟨s1.heap.objs.size + 1, [s1.heap.objs.size + 1, s1.heap.objs.size], _, _, H1, rfl, I1.kept (t' := s1.toks) hk, turn_enumT a (s1.heap.objs.size + 1) s1.heap.objs.size, ⟨⟨.none, by simpa using he⟩, hit, Nat.succ_ne_self _⟩, fun b hb => ?_, q⟩
  have hle : s1.heap.objs.size ≤ b := by
    rcases List.mem_cons.mp hb with z | z
    · rw [z]; exact Nat.le_succ _
    · have z' : b = s1.heap.objs.size := by simpa using z
      rw [z']; exact Nat.le_refl _
  exact I1.fpOk hle (I1.hok.fresh hle)
end Ev

set_option Elab.async false
set_option linter.all false
set_option maxRecDepth 100000
set_option maxHeartbeats 2000000
/-! What is walked, and targets. -/
noncomputable section
namespace Ev
open PySem PySem.Spec PyProof.Rows L2
/-- the iterator J yields what src tells, from the state c0 on -/
def ItOk (M : Mo) (c0 : Cf) (src : Src) (J : L2.It) : Prop := ∀ c h i, Ex M c0 c → RH M c h →
  (∀ x, itemAt src i h = some (some x) → J.go i c.H ∧ ∀ y H', J.yld i c.H y H' → ∃ c', c'.H = H' ∧ Ext M c c' ∧ RH M c' h ∧ RV M c' x y ∧ ∀ a o, c.H a = some o → H' a = some o) ∧ (itemAt src i h = some none → J.stop i c.H)
def tEvI (M : Mo) (W : WX) (m : LSt → LHeap → Res Src) : TI := fun σ H R => ∃ c s h, At M c s h σ H ∧ Go M c (fun c' src J => ItOk M c' src J) (m s h) R (fun cls d H' => W cls d σ H')
section
variable {M : Mo} {X : Cx} {N : List Str} {sc : Scope} {k : Nat} {W : WX} {md : Md} {cl : Cl} {calls : Nat → List Val → LHeap → Res Val} {rc : Rec} {pos : Pos} {tg : Expr}
theorem PI.of {e : Expr} {t t' : TI} (h : PI X tg e t) (hi : ∀ σ H Q, t' σ H Q → t σ H Q) : PI X tg e t' := ⟨fun pins s σ H Q I q => h.run pins s σ H Q I (hi σ H Q q)⟩
/-- a rule for each outcome of the evaluator -/
theorem PI.cases {e : Expr} {t' : TI} (h : ∀ σ H Q, t' σ H Q → ∃ t, PI X tg e t ∧ t σ H Q) : PI X tg e t' := ⟨fun pins s σ H Q I q => by
  obtain ⟨t, ht, q'⟩ := h σ H Q q
  exact ht.run pins s σ H Q I q'⟩
/-! ### the sources -/
theorem itOk_tup {c0 : Cf} {a : Addr} {xs : List Val} {ys : List V} (hK : X.K = M.K) (ht : c0.H a = some (.tup ys)) (r : RVs M c0 xs ys) : ItOk M c0 (.st xs) (Itt X.K a) := by
  intro c h i e R
  have ht' := e.t a ys ht
  have r' := r.ex e
  refine ⟨fun x hx => ?_, fun hx => ?_⟩
  · have hx' : Ev.nth xs i = some x := Option.some.inj hx
    obtain ⟨y, ey, ry⟩ := r'.nth hx'
    refine ⟨⟨ys, y, SqT.of ht', ey⟩, fun z H' q => ?_⟩
    obtain ⟨rfl, q⟩ := q
    have := q ys (SqT.of ht')
    rw [ey] at this
    cases this
    exact ⟨c, rfl, Ext.refl c, R, ry, fun _ _ q => q⟩
  · have hx' : Ev.nth xs i = none := Option.some.inj hx
    exact ⟨ys, SqT.of ht', r'.nth_none hx'⟩
theorem itOk_enumT {c0 : Cf} {a : Addr} {xs : List Val} {ys : List V} (ht : c0.H a = some (.tup ys)) (r : RVs M c0 xs ys) : ItOk M c0 (.st (enumL 0 xs)) (ItE a) := by
  have en : ∀ (xs : List Val) (k : Int) (i : Nat), Ev.nth (enumL k xs) i = (Ev.nth xs i).map fun x => .tup [.int (k + i), x] := by
    intro xs
    induction xs with
    | nil => intro k i; cases i <;> rfl
    | cons x xs ih =>
      intro k i
      cases i with
      | zero => show some (Val.tup [.int k, x]) = some (Val.tup [.int (k + ((0 : Nat) : Int)), x]); simp
      | succ i =>
        show Ev.nth (enumL (k + 1) xs) i = (Ev.nth xs i).map fun x => .tup [.int (k + ((i + 1 : Nat) : Int)), x]
        rw [ih, show k + 1 + (i : Int) = k + ((i + 1 : Nat) : Int) by omega]
  intro c h i e R
  have ht' := e.t a ys ht
  have r' := r.ex e
  refine ⟨fun x hx => ?_, fun hx => ?_⟩
  · have hx' : Ev.nth (enumL 0 xs) i = some x := Option.some.inj hx
    rw [en] at hx'
    cases q : Ev.nth xs i with
    | none => rw [q] at hx'; cases hx'
    | some v =>
      rw [q] at hx'
      cases hx'
      obtain ⟨y, ey, ry⟩ := r'.nth q
      refine ⟨⟨ys, y, ht', ey⟩, fun z H' q => ?_⟩
      obtain ⟨T, y', zs, rfl, hT, rfl, hz, hy⟩ := q
      rw [ht'] at hz
      cases hz
      rw [ey] at hy
      cases hy
      obtain ⟨R', ex⟩ := R.side (u := .tup [.int (i : Nat), y]) hT
      refine ⟨c.upd T (.tup [.int (i : Nat), y]), rfl, ex, R', .tup upd_same ?_, fun b o q => ?_⟩
      · rw [Int.zero_add]
        exact .cons (.int _) (.cons (ry.ext ex) .nil)
      · rw [upd_ne (fun z => by rw [z, hT] at q; cases q)]; exact q
  · have hx' : Ev.nth (enumL 0 xs) i = none := Option.some.inj hx
    rw [en] at hx'
    cases q : Ev.nth xs i with
    | some v => rw [q] at hx'; cases hx'
    | none => exact ⟨ys, ht', r'.nth_none q⟩
theorem itOk_zipT {c0 : Cf} {a b : Addr} {xs us : List Val} {ys ws : List V} (hK : X.K = M.K) (ht : c0.H a = some (.tup ys)) (r : RVs M c0 xs ys) (ht2 : c0.H b = some (.tup ws)) (r2 : RVs M c0 us ws) : ItOk M c0 (.st (zipL xs us)) (RZ.ItzT X.K a b) := by
  have zn : ∀ (xs us : List Val) (i : Nat), Ev.nth (zipL xs us) i = (match Ev.nth xs i, Ev.nth us i with | some x, some u => some (.tup [x, u]) | _, _ => none) := by
    intro xs
    induction xs with
    | nil => intro us i; cases us <;> cases i <;> rfl
    | cons x xs ih =>
      intro us i
      cases us with
      | nil => cases i with
        | zero => rfl
        | succ i => show none = _; cases Ev.nth (x :: xs) (i + 1) <;> rfl
      | cons u us =>
        cases i with
        | zero => rfl
        | succ i => exact ih us i
  intro c h i e R
  have h1 := e.t a ys ht
  have h2 := e.t b ws ht2
  have r1' := r.ex e
  have r2' := r2.ex e
  refine ⟨fun x hx => ?_, fun hx => ?_⟩
  · have hx' : Ev.nth (zipL xs us) i = some x := Option.some.inj hx
    rw [zn] at hx'
    cases q : Ev.nth xs i with
    | none => rw [q] at hx'; cases hx'
    | some v =>
      cases q2 : Ev.nth us i with
      | none => rw [q, q2] at hx'; cases hx'
      | some u =>
        rw [q, q2] at hx'
        cases hx'
        obtain ⟨y, ey, ry⟩ := r1'.nth q
        obtain ⟨z, ez, rz⟩ := r2'.nth q2
        refine ⟨⟨ys, ws, y, z, SqT.of h1, SqT.of h2, ey, ez⟩, fun v' H' q => ?_⟩
        obtain ⟨T, y', z', rfl, hT, rfl, hy, hz⟩ := q
        have e1 := hy ys (SqT.of h1)
        have e2 := hz ws (SqT.of h2)
        rw [ey] at e1
        rw [ez] at e2
        cases e1
        cases e2
        obtain ⟨R', ex⟩ := R.side (u := .tup [y, z]) hT
        exact ⟨c.upd T (.tup [y, z]), rfl, ex, R', .tup upd_same (.cons (ry.ext ex) (.cons (rz.ext ex) .nil)), fun b o q => by rw [upd_ne (fun z => by rw [z, hT] at q; cases q)]; exact q⟩
  · have hx' : Ev.nth (zipL xs us) i = none := Option.some.inj hx
    rw [zn] at hx'
    refine ⟨ys, ws, SqT.of h1, SqT.of h2, ?_⟩
    cases q : Ev.nth xs i with
    | none => exact .inl (r1'.nth_none q)
    | some v =>
      cases q2 : Ev.nth us i with
      | none => exact .inr (r2'.nth_none q2)
      | some u => rw [q, q2] at hx'; cases hx'
theorem itOk_rng {c0 : Cf} {lo : Int} {n : Nat} : ItOk M c0 (.st (rngL lo n)) (Itr lo n) := by
  have rn : ∀ (n : Nat) (lo : Int) (i : Nat), Ev.nth (rngL lo n) i = if i < n then some (.int (lo + i)) else none := by
    intro n
    induction n with
    | zero => intro lo i; cases i <;> rfl
    | succ n ih =>
      intro lo i
      cases i with
      | zero => show some (Val.int lo) = _; rw [if_pos (by omega)]; simp
      | succ i =>
        show Ev.nth (rngL (lo + 1) n) i = _
        rw [ih]
        by_cases hi : i < n
        · rw [if_pos hi, if_pos (by omega), show lo + 1 + (i : Int) = lo + ((i + 1 : Nat) : Int) by omega]
        · rw [if_neg hi, if_neg (by omega)]
  intro c h i e R
  refine ⟨fun x hx => ?_, fun hx => ?_⟩
  · have hx' : Ev.nth (rngL lo n) i = some x := Option.some.inj hx
    rw [rn] at hx'
    by_cases hi : i < n
    · rw [if_pos hi] at hx'
      cases hx'
      refine ⟨hi, fun z H' q => ?_⟩
      obtain ⟨rfl, rfl⟩ := q
      exact ⟨c, rfl, Ext.refl c, R, .int _, fun _ _ q => q⟩
    · rw [if_neg hi] at hx'; cases hx'
  · have hx' : Ev.nth (rngL lo n) i = none := Option.some.inj hx
    rw [rn] at hx'
    by_cases hi : i < n
    · rw [if_pos hi] at hx'; cases hx'
    · exact Nat.le_of_not_lt hi
theorem itOk_str {c0 : Cf} {t : Str} : ItOk M c0 (.st (t.cps.toList.map fun c => .str ⟨[c].toArray⟩)) (Its t) := by
  intro c h i e R
  have sn : ∀ (l : List Nat) (i : Nat), Ev.nth (l.map fun c => Val.str ⟨[c].toArray⟩) i = (l[i]?).map fun c => Val.str ⟨[c].toArray⟩ := by
    intro l i
    rw [nth_eq, List.getElem?_map]
  refine ⟨fun x hx => ?_, fun hx => ?_⟩
  · have hx' : Ev.nth (t.cps.toList.map fun c => Val.str ⟨[c].toArray⟩) i = some x := Option.some.inj hx
    rw [sn] at hx'
    cases q : t.cps.toList[i]? with
    | none => rw [q] at hx'; cases hx'
    | some d =>
      rw [q] at hx'
      cases hx'
      have q' : t.cps[i]? = some d := by simpa using q
      refine ⟨by have := (Array.getElem?_eq_some_iff.mp q').1; exact this, fun z H' qz => ?_⟩
      obtain ⟨rfl, d', e1, rfl⟩ := qz
      rw [q'] at e1
      cases e1
      exact ⟨c, rfl, Ext.refl c, R, .str _, fun _ _ q => q⟩
  · have hx' : Ev.nth (t.cps.toList.map fun c => Val.str ⟨[c].toArray⟩) i = none := Option.some.inj hx
    rw [sn] at hx'
    cases q : t.cps.toList[i]? with
    | some d => rw [q] at hx'; cases hx'
    | none =>
      have := List.getElem?_eq_none_iff.mp q
      show t.cps.size ≤ i
      simpa using this
theorem itOk_dyn {c0 : Cf} {l : Nat} (hK : X.K = M.K) (hl : l < c0.n) : ItOk M c0 (.dyn l) (Itl X.K (c0.r l)) := by
  intro c h i e R
  have hr : c.r l = c0.r l := e.r l hl
  have hlc : l < c.n := Nat.lt_of_lt_of_le hl e.le
  refine ⟨fun x hx => ?_, fun hx => ?_⟩
  · have hx' : (match itemsL h (.ref l) with
      | some xs => some (Ev.nth xs i)
      | none => none) = some (some x) := hx
    cases q : itemsL h (.ref l) with
    | none => rw [q] at hx'; cases hx'
    | some xs =>
      rw [q] at hx'
      obtain ⟨a, ys, ea, hs, r⟩ := R.itemsL (.ref hlc) q
      cases ea
      rw [hr] at hs
      rw [← hK] at hs
      obtain ⟨y, ey, ry⟩ := r.nth (Option.some.inj hx')
      refine ⟨⟨ys, y, hs, ey⟩, fun z H' qz => ?_⟩
      obtain ⟨rfl, qz⟩ := qz
      have := qz ys hs
      rw [ey] at this
      cases this
      exact ⟨c, rfl, Ext.refl c, R, ry, fun _ _ q => q⟩
  · have hx' : (match itemsL h (.ref l) with
      | some xs => some (Ev.nth xs i)
      | none => none) = some none := hx
    cases q : itemsL h (.ref l) with
    | none => rw [q] at hx'; cases hx'
    | some xs =>
      rw [q] at hx'
      obtain ⟨a, ys, ea, hs, r⟩ := R.itemsL (.ref hlc) q
      cases ea
      rw [hr] at hs
      rw [← hK] at hs
      exact ⟨ys, hs, r.nth_none (Option.some.inj hx')⟩
theorem itOk_dynE {c0 : Cf} {l : Nat} (hK : X.K = M.K) (hl : l < c0.n) : ItOk M c0 (.dynE l) (Ite X.K (c0.r l)) := by
  intro c h i e R
  have hr : c.r l = c0.r l := e.r l hl
  have hlc : l < c.n := Nat.lt_of_lt_of_le hl e.le
  have un : itemAt (.dynE l) i h = (match itemsL h (.ref l) with
    | some xs => (match Ev.nth xs i with
      | some x => some (some (.tup [.int i, x]))
      | none => some none)
    | none => none) := rfl
  refine ⟨fun x hx => ?_, fun hx => ?_⟩
  · rw [un] at hx
    cases q : itemsL h (.ref l) with
    | none => simp only [q] at hx; cases hx
    | some xs =>
      simp only [q] at hx
      obtain ⟨a, ys, ea, hs, r⟩ := R.itemsL (.ref hlc) q
      cases ea
      rw [hr] at hs
      rw [← hK] at hs
      cases q2 : Ev.nth xs i with
      | none => simp only [q2] at hx; cases hx
      | some v =>
        simp only [q2] at hx
        cases hx
        obtain ⟨y, ey, ry⟩ := r.nth q2
        refine ⟨⟨ys, y, hs, ey⟩, fun z H' qz => ?_⟩
        obtain ⟨T, y', rfl, hT, rfl, qz⟩ := qz
        have := qz ys hs
        rw [ey] at this
        cases this
        obtain ⟨R', ex⟩ := R.side (u := .tup [.int (i : Nat), y]) hT
        exact ⟨c.upd T (.tup [.int (i : Nat), y]), rfl, ex, R', .tup upd_same (.cons (.int _) (.cons (ry.ext ex) .nil)), fun b o q => by rw [upd_ne (fun z => by rw [z, hT] at q; cases q)]; exact q⟩
  · rw [un] at hx
    cases q : itemsL h (.ref l) with
    | none => simp only [q] at hx; cases hx
    | some xs =>
      simp only [q] at hx
      obtain ⟨a, ys, ea, hs, r⟩ := R.itemsL (.ref hlc) q
      cases ea
      rw [hr] at hs
      rw [← hK] at hs
      cases q2 : Ev.nth xs i with
      | some v => simp only [q2] at hx; cases hx
      | none => exact ⟨ys, hs, r.nth_none q2⟩
theorem itOk_dynZ {c0 : Cf} {l k : Nat} (hK : X.K = M.K) (hl : l < c0.n) (hk : k < c0.n) : ItOk M c0 (.dynZ l k) (Itz X.K (c0.r l) (c0.r k)) := by
  intro c h i e R
  have hr : c.r l = c0.r l := e.r l hl
  have hr2 : c.r k = c0.r k := e.r k hk
  have hlc : l < c.n := Nat.lt_of_lt_of_le hl e.le
  have hkc : k < c.n := Nat.lt_of_lt_of_le hk e.le
  have un : itemAt (.dynZ l k) i h = (match itemsL h (.ref l), itemsL h (.ref k) with
    | some xs, some ys => (match Ev.nth xs i, Ev.nth ys i with
      | some x, some y => some (some (.tup [x, y]))
      | _, _ => some none)
    | _, _ => none) := rfl
  cases q : itemsL h (.ref l) with
  | none =>
    rw [q] at un
    refine ⟨fun x hx => ?_, fun hx => ?_⟩
    · rw [un] at hx; cases hx
    · rw [un] at hx; cases hx
  | some xs =>
    cases p : itemsL h (.ref k) with
    | none =>
      rw [q, p] at un
      refine ⟨fun x hx => ?_, fun hx => ?_⟩
      · rw [un] at hx; cases hx
      · rw [un] at hx; cases hx
    | some us =>
      rw [q, p] at un
      dsimp only at un
      obtain ⟨a, ys, ea, hs, r⟩ := R.itemsL (.ref hlc) q
      cases ea
      rw [hr] at hs
      rw [← hK] at hs
      obtain ⟨b, ws, eb, hs2, r2⟩ := R.itemsL (.ref hkc) p
      cases eb
      rw [hr2] at hs2
      rw [← hK] at hs2
      refine ⟨fun x hx => ?_, fun hx => ?_⟩
      · rw [un] at hx
        cases q1 : Ev.nth xs i with
        | none => simp only [q1] at hx; cases hx
        | some v =>
          cases q2 : Ev.nth us i with
          | none => simp only [q1, q2] at hx; cases hx
          | some u =>
            simp only [q1, q2] at hx
            cases hx
            obtain ⟨y, ey, ry⟩ := r.nth q1
            obtain ⟨z, ez, rz⟩ := r2.nth q2
            refine ⟨⟨ys, ws, y, z, hs, hs2, ey, ez⟩, fun v' H' qz => ?_⟩
            obtain ⟨T, y', z', rfl, hT, rfl, hy, hz⟩ := qz
            have e1 := hy ys hs
            have e2 := hz ws hs2
            rw [ey] at e1
            rw [ez] at e2
            cases e1
            cases e2
            obtain ⟨R', ex⟩ := R.side (u := .tup [y, z]) hT
            exact ⟨c.upd T (.tup [y, z]), rfl, ex, R', .tup upd_same (.cons (ry.ext ex) (.cons (rz.ext ex) .nil)), fun b o q => by rw [upd_ne (fun z => by rw [z, hT] at q; cases q)]; exact q⟩
      · rw [un] at hx
        refine ⟨ys, ws, hs, hs2, ?_⟩
        cases q1 : Ev.nth xs i with
        | none => exact .inl (r.nth_none q1)
        | some v =>
          cases q2 : Ev.nth us i with
          | none => exact .inr (r2.nth_none q2)
          | some u => simp only [q1, q2] at hx; cases hx
end
end Ev

set_option Elab.async false
set_option linter.all false
set_option maxRecDepth 100000
set_option maxHeartbeats 2000000
/-! Rules for what is walked; targets. -/
noncomputable section
namespace Ev
open PySem PySem.Spec PyProof.Rows L2
section
variable {M : Mo} {X : Cx} {N : List Str} {sc : Scope} {k : Nat} {W : WX} {md : Md} {cl : Cl} {calls : Nat → List Val → LHeap → Res Val} {rc : Rec} {pos : Pos} {tg : Expr}
theorem si_val (G : Gd M X N sc k W) {e : Expr} {m : E} (he : PE X e (tEv M W (rc.e m))) : PI X tg e (tEvI M W (evIt rc (.val m))) := by
  refine PI.cases fun σ H R ⟨c, s, h, ⟨eH, Rh, S⟩, g⟩ => ?_
  subst eH
  have g0 : Go M c (fun c' src J => ItOk M c' src J) ((rc.e m s h).bind fun v h1 => optR (srcOf h1 v) h1) R (fun cls d H' => W cls d σ H') := g
  have no : ∀ v h1, rc.e m s h = .ok v h1 → srcOf h1 v = none → False := fun v h1 q z => by
    rw [q] at g0
    have g1 : Go M c (fun c' src J => ItOk M c' src J) (optR (srcOf h1 v) h1) R (fun cls d H' => W cls d σ H') := g0
    rw [z] at g1
    exact g1
  have hu : (∃ v h1, rc.e m s h = .ok v h1) ∨ ∀ v h1, rc.e m s h ≠ .ok v h1 := by
    cases rc.e m s h with
    | ok v h1 => exact .inl ⟨v, h1, rfl⟩
    | exc _ _ _ => exact .inr fun _ _ z => by cases z
    | bad => exact .inr fun _ _ z => by cases z
  rcases hu with ⟨v, h1, q⟩ | hn
  · cases v with
    | tup xs =>
      refine ⟨_, pi_tup he, c, s, h, ⟨rfl, Rh, S⟩, Go.bindE g0 fun v' h1' c1 y er e1 R1 rx g1 => ?_⟩
      rw [q] at er
      cases er
      cases rx with
      | @tup _ a ys ht r => exact ⟨a, rfl, ⟨ys, SqT.of ht⟩, go_val (RR := fun c' src J => ItOk M c' src J) R1 (itOk_tup G.hK ht r) g1⟩
    | str t =>
      refine ⟨_, pi_str he, c, s, h, ⟨rfl, Rh, S⟩, Go.bindE g0 fun v' h1' c1 y er e1 R1 rx g1 => ?_⟩
      rw [q] at er
      cases er
      cases rx with
      | str t => exact ⟨t, rfl, go_val (RR := fun c' src J => ItOk M c' src J) R1 itOk_str g1⟩
    | ref l =>
      refine ⟨_, pi_list he, c, s, h, ⟨rfl, Rh, S⟩, Go.bindE g0 fun v' h1' c1 y er e1 R1 rx g1 => ?_⟩
      rw [q] at er
      cases er
      cases rx with
      | ref hl =>
        have un : srcOf h1 (.ref l) = (match h1.get l with
          | some (.lst _) => some (.dyn l)
          | some (.frz _) => some (.dyn l)
          | _ => none) := rfl
        have two : (∃ xs, itemsL h1 (.ref l) = some xs) ∧ srcOf h1 (.ref l) = some (.dyn l) ∨ srcOf h1 (.ref l) = none := by
          rw [un]
          cases qg : h1.get l with
          | none => exact .inr rfl
          | some o =>
            cases o with
            | lst xs => exact .inl ⟨⟨xs, by show (match h1.get l with | some (.lst xs) => some xs | some (.frz xs) => some xs | _ => none) = _; rw [qg]⟩, rfl⟩
            | frz xs => exact .inl ⟨⟨xs, by show (match h1.get l with | some (.lst xs) => some xs | some (.frz xs) => some xs | _ => none) = _; rw [qg]⟩, rfl⟩
            | _ => exact .inr rfl
        rcases two with ⟨⟨xs, qi⟩, qs⟩ | z
        · rw [qs] at g1
          obtain ⟨a, ys, ea, hs, r⟩ := R1.itemsL (.ref hl) qi
          cases ea
          exact ⟨_, rfl, ⟨ys, by rw [G.hK]; exact hs⟩, go_val (RR := fun c' src J => ItOk M c' src J) R1 (itOk_dyn G.hK hl) g1⟩
        · exact (no _ _ q z).elim
    | non => exact (no _ _ q rfl).elim
    | bl _ => exact (no _ _ q rfl).elim
    | int _ => exact (no _ _ q rfl).elim
    | fn _ => exact (no _ _ q rfl).elim
  · exact ⟨_, pi_tup he, c, s, h, ⟨rfl, Rh, S⟩, Go.bindE g0 fun v' h1' c1 y er e1 R1 rx g1 => absurd er (hn _ _)⟩
theorem okR_ok {j : Int} (h : okR j = true) : -(2 ^ 62) ≤ j ∧ j < 2 ^ 62 := by
  unfold okR at h
  simp only [Bool.and_eq_true, decide_eq_true_eq] at h
  exact ⟨by omega, by omega⟩
theorem si_rng1 (G : Gd M X N sc k W) (D : MdOk M md) {x : Str} {a : Expr} {p : Pos} {ma : E} (hf : freeN md sc x "range" = true) (hn : notStar a = true) (ha : PE X a (tEv M W (rc.e ma))) : PI X tg (.Call (.Name x p) [a] [] pos) (tEvI M W (evIt rc (.rng1 ma))) := by
  obtain ⟨rfl, hg, hm⟩ := G.free D hf
  refine PI.of (pi_range1 hg hm (pa_cons ha pa_nil (notStar_each hn)) (by rw [notStar_each hn]; rfl)) fun σ H R ⟨c, s, h, ⟨eH, Rh, S⟩, g⟩ => ?_
  subst eH
  refine ⟨c, s, h, ⟨rfl, Rh, S⟩, Go.bind g fun v h1 c1 y e1 R1 rx g1 => ?_⟩
  cases rx with
  | int j =>
    cases q : okR j with
    | false => simp only [q] at g1; exact g1.elim
    | true =>
      simp only [q] at g1
      obtain ⟨b1, b2⟩ := okR_ok q
      exact ⟨j, rfl, b1, b2, go_val (RR := fun c' src J => ItOk M c' src J) R1 itOk_rng g1⟩
  | _ => exact g1.elim
theorem si_rng2 (G : Gd M X N sc k W) (D : MdOk M md) {x : Str} {a b : Expr} {p : Pos} {ma mb : E} (hf : freeN md sc x "range" = true) (hn : notStar a = true) (hn2 : notStar b = true) (ha : PE X a (tEv M W (rc.e ma))) (hb : PE X b (tEv M W (rc.e mb))) :
    PI X tg (.Call (.Name x p) [a, b] [] pos) (tEvI M W (evIt rc (.rng2 ma mb))) := by
  obtain ⟨rfl, hg, hm⟩ := G.free D hf
  refine PI.of (pi_range2 hg hm (pa_cons ha (pa_cons hb pa_nil (notStar_each hn2)) (notStar_each hn)) (by rw [notStar_each hn, notStar_each hn2]; rfl) (by rw [notStar_each hn2]; rfl)) fun σ H R ⟨c, s, h, ⟨eH, Rh, S⟩, g⟩ => ?_
  subst eH
  refine ⟨c, s, h, ⟨rfl, Rh, S⟩, Go.bind g fun v h1 c1 y e1 R1 rx g1 => ⟨c1, s, h1, ⟨rfl, R1, S.ext e1⟩, Go.bind g1 fun u h2 c2 z e2 R2 ru g2 => ?_⟩⟩
  cases rx with
  | int i =>
    cases ru with
    | int j =>
      cases q : okR i && okR j with
      | false => simp only [q] at g2; exact g2.elim
      | true =>
        simp only [q] at g2
        have q' := Bool.and_eq_true_iff.mp q
        obtain ⟨b1, b2⟩ := okR_ok q'.1
        obtain ⟨b3, b4⟩ := okR_ok q'.2
        exact ⟨i, j, rfl, ⟨b1, b2, b3, b4⟩, go_val (RR := fun c' src J => ItOk M c' src J) R2 itOk_rng g2⟩
    | _ => exact g2.elim
  | _ => cases ru <;> exact g2.elim
theorem si_enum (G : Gd M X N sc k W) (D : MdOk M md) {x : Str} {a : Expr} {p tp : Pos} {es : List Expr} {kk : Nat} {ma : E} (hf : freeN md sc x "enumerate" = true) (hn : notStar a = true) (ha : PE X a (tEv M W (rc.e ma))) :
    PI X (.Tuple es kk tp) (.Call (.Name x p) [a] [] pos) (tEvI M W (evIt rc (.enum ma))) := by
  obtain ⟨rfl, hg, hm⟩ := G.free D hf
  have st : starEach [a] X.env = [(false, eval a X.env)] := by rw [notStar_each hn]; rfl
  refine PI.cases fun σ H R ⟨c, s, h, ⟨eH, Rh, S⟩, g⟩ => ?_
  subst eH
  have hu : (∃ v h1, rc.e ma s h = .ok v h1) ∨ ∀ v h1, rc.e ma s h ≠ .ok v h1 := by
    cases rc.e ma s h with
    | ok v h1 => exact .inl ⟨v, h1, rfl⟩
    | exc _ _ _ => exact .inr fun _ _ z => by cases z
    | bad => exact .inr fun _ _ z => by cases z
  rcases hu with ⟨v, h1, q⟩ | hnn
  · cases v with
    | ref l =>
      refine ⟨_, pi_enum hg hm (pa_cons ha pa_nil (notStar_each hn)) st, c, s, h, ⟨rfl, Rh, S⟩, Go.bindE (r := rc.e ma s h) g fun v' h1' c1 y er e1 R1 rx g1 => ?_⟩
      rw [q] at er
      cases er
      cases rx with
      | ref hl =>
        have g2 : Go M c1 (fun c' src J => ItOk M c' src J) (match h1.get l with
          | some (.lst _) => .ok (.dynE l) h1
          | some (.frz _) => .ok (.dynE l) h1
          | _ => .bad) R (fun cls d H' => W cls d σ H') := g1
        cases qg : h1.get l with
        | none => rw [qg] at g2; exact g2.elim
        | some o =>
          rw [qg] at g2
          cases o with
          | lst xs =>
            obtain ⟨ys, hy, r⟩ := R1.lst qg
            exact ⟨_, ys, rfl, SqL.of hy, go_val (RR := fun c' src J => ItOk M c' src J) R1 (itOk_dynE G.hK hl) g2⟩
          | frz xs =>
            obtain ⟨ys, hy, r⟩ := R1.frz qg
            exact ⟨_, ys, rfl, by rw [G.hK]; exact hy.sq, go_val (RR := fun c' src J => ItOk M c' src J) R1 (itOk_dynE G.hK hl) g2⟩
          | _ => exact g2.elim
    | _ =>
      refine ⟨_, pi_enumT hg hm (pa_cons ha pa_nil (notStar_each hn)) st, c, s, h, ⟨rfl, Rh, S⟩, Go.bindE (r := rc.e ma s h) g fun v' h1' c1 y er e1 R1 rx g1 => ?_⟩
      rw [q] at er
      cases er
      first
        | (cases rx with
          | @tup xs a ys ht r => exact ⟨a, ys, rfl, ht, go_val (RR := fun c' src J => ItOk M c' src J) R1 (itOk_enumT ht r) g1⟩)
        | exact g1.elim
  · exact ⟨_, pi_enumT hg hm (pa_cons ha pa_nil (notStar_each hn)) st, c, s, h, ⟨rfl, Rh, S⟩, Go.bindE (r := rc.e ma s h) g fun v' h1' c1 y er e1 R1 rx g1 => absurd er (hnn _ _)⟩
theorem si_zip (G : Gd M X N sc k W) (D : MdOk M md) {x : Str} {a b : Expr} {p tp : Pos} {es : List Expr} {kk : Nat} {ma mb : E} (hf : freeN md sc x "zip" = true) (hn : notStar a = true) (hn2 : notStar b = true) (ha : PE X a (tEv M W (rc.e ma))) (hb : PE X b (tEv M W (rc.e mb))) :
    PI X (.Tuple es kk tp) (.Call (.Name x p) [a, b] [] pos) (tEvI M W (evIt rc (.zip ma mb))) := by
  obtain ⟨rfl, hg, hm⟩ := G.free D hf
  refine PI.of (RZ.pi_zipA hg hm (pa_cons ha (pa_cons hb pa_nil (notStar_each hn2)) (notStar_each hn)) (notStar_each hn) (stars_plain (es := [b]) (by rw [List.all_cons, hn2]; rfl))) fun σ H R ⟨c, s, h, ⟨eH, Rh, S⟩, g⟩ => ?_
  subst eH
  refine ⟨c, s, h, ⟨rfl, Rh, S⟩, Go.bind g fun v h1 c1 y e1 R1 rx g1 => ⟨c1, s, h1, ⟨rfl, R1, S.ext e1⟩, Go.bind g1 fun u h2 c2 z e2 R2 ru g2 => ?_⟩⟩
  have rx2 := rx.ext e2
  cases rx2 with
  | @tup xs a1 ys ht r =>
    cases ru with
    | @tup us b1 ws ht2 r2 => exact ⟨a1, b1, ys, ws, rfl, .inr ⟨SqT.of ht, SqT.of ht2, go_val (RR := fun c' src J => ItOk M c' src J) R2 (itOk_zipT G.hK ht r ht2 r2) g2⟩⟩
    | _ => exact g2.elim
  | @ref l hl =>
    cases ru with
    | @ref k hk =>
      dsimp only at g2
      cases q : h2.get l with
      | none => rw [q] at g2; exact g2.elim
      | some o =>
        cases o with
        | lst xs =>
          cases p : h2.get k with
          | none => rw [q, p] at g2; exact g2.elim
          | some o2 =>
            cases o2 with
            | lst us =>
              rw [q, p] at g2
              obtain ⟨ys, hy, ry⟩ := R2.lst q
              obtain ⟨ws, hw, rw'⟩ := R2.lst p
              exact ⟨_, _, ys, ws, rfl, .inl ⟨.inl (.inl hy), .inl (.inl hw), go_val (RR := fun c' src J => ItOk M c' src J) R2 (itOk_dynZ G.hK hl hk) g2⟩⟩
            | _ => rw [q, p] at g2; exact g2.elim
        | _ => rw [q] at g2; exact g2.elim
    | _ => exact g2.elim
  | _ => cases ru <;> exact g2.elim
/-! ### targets -/
def Tg.sl : Tg → List Nat
  | .name i => [i]
  | .tup is => is
def Off (is : List Nat) (σ σ' : St) : Prop := σ'.length = σ.length ∧ ∀ j, j ∉ is → σ'[j]? = σ[j]?
/-- a target's reading by the evaluator: the heap is as it was -/
def gEv (M : Mo) (t : Tg) : TG := fun y σ H Q => ∃ c s v s1, c.H = H ∧ RSl M c s σ ∧ RV M c v y ∧ t.put v s = some s1 ∧ ∀ σ1, RSl M c s1 σ1 → Off t.sl σ σ1 → Q σ1 H
theorem PG.of {e : Expr} {t t' : TG} (h : PG X e t) (hi : ∀ v σ H Q, t' v σ H Q → t v σ H Q) : PG X e t' := ⟨fun pins s σ H v u Q I r q => h.run pins s σ H v u Q I r (hi v σ H Q q)⟩
theorem Off.set {is : List Nat} {σ : St} {i : Nat} {o : Option V} (h : i ∈ is) : Off is σ (σ.set i o) := ⟨List.length_set, fun j hj => List.getElem?_set_ne (fun e => hj (by rw [← e]; exact h))⟩
theorem Off.trans {is : List Nat} {σ σ1 σ2 : St} (a : Off is σ σ1) (b : Off is σ1 σ2) : Off is σ σ2 := ⟨b.1.trans a.1, fun j hj => (b.2 j hj).trans (a.2 j hj)⟩
theorem sg_name {pk : Option NameKind → Bool} (G : Gd M X N sc k W) {sc2 : Scope} (F : FnP X sc2 pk) {x : Str} {i : Nat} {p : Pos} (h : nthS N i x = true) (hl : pk (look sc2.names x) = true) : PG X (.Name x p) (gEv M (.name i)) := by
  refine PG.of (pg_name (i := i) (by rw [G.hN]; exact G.nd) (by rw [G.hN]; exact nthS_eq h) (F x hl).1 (F x hl).2) fun y σ H Q ⟨c, s, v, s1, eH, S, r, e, q⟩ => ?_
  cases e
  exact q _ (S.set i r) (Off.set (by simp [Tg.sl]))
theorem sgs {pk : Option NameKind → Bool} (G : Gd M X N sc k W) {sc2 : Scope} (F : FnP X sc2 pk) : ∀ {es : List Expr} {is : List Nat}, ckTgs N pk sc2 es is = true → ∃ t, PGs X es t ∧ (assignEach es X.env).length = is.length ∧ (assignEach es X.env).findIdx? (·.1) = none ∧
    ∀ (all : List Nat) (c : Cf) (s s1 : LSt) (σ : St) (vs : List Val) (ys : List V) (Q : St → Hp → Prop), (∀ i ∈ is, i ∈ all) → RSl M c s σ → RVs M c vs ys → setAll is vs s = some s1 → (∀ σ1, RSl M c s1 σ1 → Off all σ σ1 → Q σ1 c.H) → t ys σ c.H Q
  | [], [], _ => ⟨gNil, pgs_nil, rfl, rfl, fun all c s s1 σ vs ys Q _ S r e q => by
      cases r with
      | nil => cases e; exact ⟨rfl, q σ S ⟨rfl, fun _ _ => rfl⟩⟩
      | cons _ _ => cases e⟩
  | [], _ :: _, h => by cases h
  | e :: es, is, h => by
    cases e with
    | Name x p =>
      cases is with
      | nil => cases h
      | cons i is =>
        have h' : (nthS N i x && pk (look sc2.names x) && ckTgs N pk sc2 es is) = true := h
        simp only [Bool.and_eq_true] at h'
        obtain ⟨t, ht, hl, hf, hq⟩ := sgs G F h'.2
        refine ⟨gCons (gName i) t, pgs_cons (pg_name (i := i) (by rw [G.hN]; exact G.nd) (by rw [G.hN]; exact nthS_eq h'.1.1) (F x h'.1.2).1 (F x h'.1.2).2) ht rfl, ?_, ?_, ?_⟩
        · show (assignEach es X.env).length + 1 = is.length + 1
          rw [hl]
        · show List.findIdx? (·.1) ((false, assign (.Name x p) X.env) :: assignEach es X.env) = none
          rw [List.findIdx?_cons, hf]
          rfl
        · intro all c s s1 σ vs ys Q ha S r e q
          cases r with
          | nil => cases e
          | cons r1 rt =>
            refine ⟨_, _, rfl, ?_⟩
            have e' : setAll is _ (setV s i _) = some s1 := e
            refine hq all c _ s1 (σ.set i (some _)) _ _ Q (fun j hj => ha j (List.mem_cons_of_mem _ hj)) (S.set i r1) rt e' fun σ1 S1 o1 => q σ1 S1 ((Off.set (ha i (List.mem_cons_self ..))).trans o1)
    | _ => cases is <;> cases h
theorem sg_tup {pk : Option NameKind → Bool} (G : Gd M X N sc k W) {sc2 : Scope} (F : FnP X sc2 pk) {es : List Expr} {is : List Nat} {j : Nat} {p : Pos} (h : ckTgs N pk sc2 es is = true) : PG X (.Tuple es j p) (gEv M (.tup is)) := by
  obtain ⟨t, ht, hl, hf, hq⟩ := sgs G F h
  refine PG.of (pg_tup (n := is.length) G.calm ht hl hf) fun y σ H Q ⟨c, s, v, s1, eH, S, r, e, q⟩ => ?_
  subst eH
  cases r with
  | @tup vs a ys hh rt =>
    have e' : setAll is vs s = some s1 := e
    have hlen : ∀ {is : List Nat} {vs : List Val} {s s1 : LSt}, setAll is vs s = some s1 → vs.length = is.length := by
      intro is
      induction is with
      | nil => intro vs s s1 e; cases vs with
        | nil => rfl
        | cons _ _ => cases e
      | cons i is ih => intro vs s s1 e; cases vs with
        | nil => cases e
        | cons v vs => exact congrArg (· + 1) (ih (show setAll is vs (setV s i v) = some s1 from e))
    exact ⟨a, ys, rfl, SqT.of hh, by rw [← rt.length]; exact hlen e', hq is c s s1 σ vs ys Q (fun _ hi => hi) S rt e' fun σ1 S1 o1 => q σ1 S1 o1⟩
  | _ => cases e
theorem sg {pk : Option NameKind → Bool} (G : Gd M X N sc k W) {sc2 : Scope} (F : FnP X sc2 pk) {e : Expr} {t : Tg} (h : ckTg N pk sc2 e t = true) : PG X e (gEv M t) := by
  cases t with
  | name i =>
    cases e with
    | Name x p =>
      have h' : (nthS N i x && pk (look sc2.names x)) = true := h
      simp only [Bool.and_eq_true] at h'
      exact sg_name G F h'.1 h'.2
    | _ => cases h
  | tup is =>
    cases e with
    | Tuple es j p => exact sg_tup G F h
    | _ => cases h
end
end Ev

set_option Elab.async false
set_option linter.all false
set_option maxRecDepth 100000
set_option maxHeartbeats 2000000
/-! Comprehensions. -/
noncomputable section
namespace Ev
open PySem PySem.Spec PyProof.Rows L2
section
variable {M : Mo} {X : Cx} {N : List Str} {sc : Scope} {k : Nat} {W : WX} {md : Md} {cl : Cl} {calls : Nat → List Val → LHeap → Res Val} {rc : Rec} {pos : Pos}
theorem bind_assoc {α β γ : Type} (r : Res α) (f : α → LHeap → Res β) (g : β → LHeap → Res γ) : (r.bind f).bind g = r.bind fun a h => (f a h).bind g := by cases r <;> rfl
theorem bind_ok {α β : Type} {r : Res α} {f : α → LHeap → Res β} {b : β} {h' : LHeap} (e : r.bind f = .ok b h') : ∃ a h, r = .ok a h ∧ f a h = .ok b h' := by
  cases r with
  | ok a h => exact ⟨a, h, rfl, e⟩
  | exc _ _ _ => cases e
  | bad => cases e
/-- what is left of a comprehension -/
def compRest (f : Val → LHeap → Res (Option Val)) (src : Src) (m i : Nat) (h : LHeap) (r : Res (List Val)) : Prop := match src with
  | .st xs => (xs.drop i).length = m ∧ r = compSt f (xs.drop i) h
  | src => r = compDyn f src m i h
theorem compRest_start (f : Val → LHeap → Res (Option Val)) (src : Src) (h : LHeap) : ∃ m, compRest f src m 0 h (compAll f src h) := by
  cases src with
  | st xs => exact ⟨_, rfl, rfl⟩
  | dyn l => exact ⟨_, rfl⟩
  | dynE l => exact ⟨_, rfl⟩
  | dynZ l k => exact ⟨_, rfl⟩
theorem compRest_dyn {f : Val → LHeap → Res (Option Val)} {src : Src} {m i : Nat} {h h' : LHeap} {zs : List Val} (e : compDyn f src m i h = .ok zs h') :
    (itemAt src i h = some none ∧ zs = [] ∧ h' = h) ∨ ∃ x m' o h1 zs', itemAt src i h = some (some x) ∧ m' < m ∧ f x h = .ok o h1 ∧ compDyn f src m' (i + 1) h1 = .ok zs' h' ∧ zs = (match o with | some y => y :: zs' | none => zs') := by
  cases m with
  | zero => cases e
  | succ m =>
    unfold compDyn at e
    cases q : itemAt src i h with
    | none => rw [q] at e; cases e
    | some o =>
      rw [q] at e
      cases o with
      | none => cases e; exact .inl ⟨rfl, rfl, rfl⟩
      | some x =>
        obtain ⟨o, h1, e1, e2⟩ := bind_ok e
        obtain ⟨zs', h2, e3, e4⟩ := bind_ok e2
        cases o with
        | none => cases e4; exact .inr ⟨x, m, none, h1, _, rfl, Nat.lt_succ_self m, e1, e3, rfl⟩
        | some y => cases e4; exact .inr ⟨x, m, some y, h1, zs', rfl, Nat.lt_succ_self m, e1, e3, rfl⟩
theorem drop_nth {xs : List Val} {i : Nat} {x : Val} {ys : List Val} (e : xs.drop i = x :: ys) : Ev.nth xs i = some x ∧ xs.drop (i + 1) = ys := by
  have h1 : xs[i]? = some x := by
    have := congrArg (fun l => l[0]?) e
    simpa using this
  refine ⟨by rw [nth_eq]; exact h1, ?_⟩
  have := congrArg (List.drop 1) e
  simpa [List.drop_drop, Nat.add_comm] using this
theorem drop_nth0 {xs : List Val} {i : Nat} (e : xs.drop i = []) : Ev.nth xs i = none := by
  have h1 : xs[i]? = none := by
    have := congrArg (fun l => l[0]?) e
    simpa using this
  rw [nth_eq]; exact h1
theorem compRest_step {f : Val → LHeap → Res (Option Val)} {src : Src} {m i : Nat} {h h' : LHeap} {zs : List Val} (e : compRest f src m i h (.ok zs h')) :
    (itemAt src i h = some none ∧ zs = [] ∧ h' = h) ∨ ∃ x m' o h1 zs', itemAt src i h = some (some x) ∧ m' < m ∧ f x h = .ok o h1 ∧ compRest f src m' (i + 1) h1 (.ok zs' h') ∧ zs = (match o with | some y => y :: zs' | none => zs') := by
  cases src with
  | st xs =>
    obtain ⟨hm, e⟩ := e
    cases q : xs.drop i with
    | nil =>
      rw [q] at e
      cases e
      exact .inl ⟨congrArg some (drop_nth0 q), rfl, rfl⟩
    | cons x ys =>
      rw [q] at e hm
      obtain ⟨hx, hd⟩ := drop_nth q
      have e' : (f x h).bind (fun o h1 => (compSt f ys h1).bind fun ys h2 => match o with
        | some y => .ok (y :: ys) h2
        | none => .ok ys h2) = .ok zs h' := e.symm
      obtain ⟨o, h1, e1, e2⟩ := bind_ok e'
      obtain ⟨zs', h2, e3, e4⟩ := bind_ok e2
      have hr : compRest f (.st xs) ys.length (i + 1) h1 (.ok zs' h2) := ⟨by rw [hd], by rw [hd]; exact e3.symm⟩
      have hlt : ys.length < m := by rw [← hm]; exact Nat.lt_succ_self _
      cases o with
      | none => cases e4; exact .inr ⟨x, ys.length, none, h1, _, congrArg some hx, hlt, e1, hr, rfl⟩
      | some y => cases e4; exact .inr ⟨x, ys.length, some y, h1, zs', congrArg some hx, hlt, e1, hr, rfl⟩
  | dyn l =>
    rcases compRest_dyn (show compDyn f (.dyn l) m i h = _ from e.symm) with z | ⟨x, m', o, h1, zs', a, b, c, d, g⟩
    · exact .inl z
    · exact .inr ⟨x, m', o, h1, zs', a, b, c, d.symm, g⟩
  | dynE l =>
    rcases compRest_dyn (show compDyn f (.dynE l) m i h = _ from e.symm) with z | ⟨x, m', o, h1, zs', a, b, c, d, g⟩
    · exact .inl z
    · exact .inr ⟨x, m', o, h1, zs', a, b, c, d.symm, g⟩
  | dynZ l k =>
    rcases compRest_dyn (show compDyn f (.dynZ l k) m i h = _ from e.symm) with z | ⟨x, m', o, h1, zs', a, b, c, d, g⟩
    · exact .inl z
    · exact .inr ⟨x, m', o, h1, zs', a, b, c, d.symm, g⟩
theorem noExc_go {α β γ : Type} {c : Cf} {RR : Cf → β → γ → Prop} {r : Res α} {kk : α → LHeap → Res β} {Q : γ → Hp → Prop} {E : XK} (g : Go M c RR ((noExc r).bind kk) Q E) : ∃ a h, r = .ok a h ∧ Go M c RR (kk a h) Q E := by
  cases r with
  | ok a h => exact ⟨a, h, rfl, g⟩
  | exc _ _ _ => exact g.elim
  | bad => exact g.elim
/-- D, named by none -/
def Unn (c : Cf) (D : Addr) : Prop := ∀ l, l < c.n → c.nm l = true → c.r l ≠ D
theorem Unn.ext {c c' : Cf} {D : Addr} {o : HO} (u : Unn c D) (h : c.H D = some o) (e : Ext M c c') (nt : ¬ Tb o := by exact fun ⟨_, z⟩ => nomatch z) : Unn c' D ∧ c'.H D = some o := by
  refine ⟨fun l hl hm z => ?_, e.f D o h nt u⟩
  by_cases q : l < c.n
  · rw [e.x.r l q] at z
    rw [e.m l q] at hm
    exact u l q hm z
  · exact nt (e.fr l (Nat.le_of_not_lt q) hl o (by rw [z]; exact h))
theorem wipe_at (σ : St) (j : Nat) : ∀ vs : List Nat, (wipe σ vs)[j]? = if j ∈ vs ∧ j < σ.length then some none else σ[j]?
  | [] => by simp [wipe]
  | v :: vs => by
    unfold wipe
    rw [List.getElem?_set, wipe_length, wipe_at σ j vs]
    by_cases e : v = j
    · subst e
      by_cases q : v < σ.length
      · simp [q]
      · simp [q]
    · rw [if_neg e]
      have : (j ∈ v :: vs ∧ j < σ.length) ↔ (j ∈ vs ∧ j < σ.length) := by
        simp only [List.mem_cons]
        constructor
        · rintro ⟨z | z, w⟩
          · exact absurd z.symm e
          · exact ⟨z, w⟩
        · rintro ⟨z, w⟩; exact ⟨.inr z, w⟩
      by_cases q : j ∈ vs ∧ j < σ.length
      · rw [if_pos q, if_pos (this.mpr q)]
      · rw [if_neg q, if_neg (fun z => q (this.mp z))]
theorem Off.wipe {is vs : List Nat} {σ σ2 : St} (o : Off is (wipe σ vs) σ2) (h : ∀ i ∈ is, i ∈ vs) : wipe σ2 vs = wipe σ vs := by
  refine List.ext_getElem? fun j => ?_
  rw [wipe_at σ2 j vs]
  have hl : σ2.length = σ.length := by rw [o.1, wipe_length]
  by_cases q : j ∈ vs
  · by_cases q2 : j < σ2.length
    · rw [if_pos ⟨q, q2⟩, wipe_at, if_pos ⟨q, by rw [← hl]; exact q2⟩]
    · rw [if_neg (fun z => q2 z.2), wipe_at, if_neg (fun z => q2 (by rw [hl]; exact z.2)), List.getElem?_eq_none (by simpa using q2), List.getElem?_eq_none (by rw [← hl]; simpa using q2)]
  · rw [if_neg (fun z => q z.1), o.2 j (fun z => q (h j z))]
theorem memN_mem {x : Nat} : ∀ {ys : List Nat}, memN x ys = true → x ∈ ys
  | [], h => by cases h
  | y :: ys, h => by
    unfold memN at h
    cases q : Nat.beq x y with
    | true => rw [Nat.eq_of_beq_eq_true q]; exact List.mem_cons_self
    | false => rw [q] at h; exact List.mem_cons_of_mem _ (memN_mem h)
theorem tgIn_mem {own : List Nat} {tg : Tg} (h : tgIn own tg = true) : ∀ i ∈ tg.sl, i ∈ own := by
  cases tg with
  | name j =>
    intro i hi
    have : i = j := by simpa [Tg.sl] using hi
    rw [this]
    exact memN_mem h
  | tup is =>
    intro i hi
    exact memN_mem (List.all_eq_true.mp (show (is.all fun i => memN i own) = true from h) i hi)
def W0 : WX := fun _ _ _ _ => False
def tCond (M : Mo) (rc : Rec) : Option E → TT
  | none => tYes
  | some mc => tEvT M W0 (rc.t mc)
/-- the heart: the reading of a comprehension from the evaluator's -/
theorem comp_read {own : List Nat} {tg : Tg} {it : It} {co : Option E} {elt : E} (hin : tgIn own tg = true) {σ : St} {H : Hp} {Q : VK} (h : tEv M W (stepE cl calls rc (.comp own tg it co elt)) σ H Q) :
    tLc (tEvI M W (evIt rc it)) (gEv M tg) (tCond M rc co) (tEv M W0 (rc.e elt)) own σ H Q := by
  obtain ⟨c, s, hh, ⟨rfl, R, S⟩, g⟩ := h
  have g : Go M c (RV M) ((evComp rc own tg it co elt s hh).bind fun ys h1 => match Nat.ble ys.length line with
    | true => alloc (.lst ys) h1
    | false => .bad) Q (fun cls d H' => W cls d σ H') := g
  unfold evComp at g
  rw [bind_assoc] at g
  refine ⟨c, s, hh, ⟨rfl, R, S⟩, Go.bind g fun src h1 c1 J e1 R1 hJ g1 D hD => ?_⟩
  obtain ⟨zs, h2, er, g2⟩ := noExc_go g1
  obtain ⟨m0, hm0⟩ := compRest_start (compOne rc own tg co elt s) src h1
  rw [er] at hm0
  have S1 := S.ext e1
  refine ⟨fun i m H' => ∃ c' hh' acc ys zs, c'.H = H' ∧ Ext M c1 c' ∧ Unn c' D ∧ RH M c' hh' ∧ c'.H D = some (.lst ys) ∧ RVs M c' acc ys ∧ compRest (compOne rc own tg co elt s) src m i hh' (.ok zs h2) ∧
    Go M c1 (RV M) (match Nat.ble (acc ++ zs).length line with
      | true => alloc (.lst (acc ++ zs)) h2
      | false => .bad) Q (fun cls d H' => W cls d σ H'), ⟨m0, ?_⟩, fun i m H' w => ?_⟩
  · obtain ⟨R', ex⟩ := R1.side (u := .lst []) hD
    exact ⟨c1.upd D (.lst []), h1, [], [], zs, rfl, ex, fun l hl hm => R1.new hD l hl hm, R', upd_same, .nil, hm0, g2⟩
  · obtain ⟨c', hh', acc, ys, zs, rfl, e', un, R', hDs, rvs, rest, g3⟩ := w
    have hlen : (acc ++ zs).length ≤ line := by
      cases q : Nat.ble (acc ++ zs).length line with
      | false => rw [q] at g3; exact g3.elim
      | true => exact ble_true q
    have g4 : Go M c1 (RV M) (alloc (.lst (acc ++ zs)) h2) Q (fun cls d H' => W cls d σ H') := by
      cases q : Nat.ble (acc ++ zs).length line with
      | false => rw [q] at g3; exact g3.elim
      | true => rw [q] at g3; exact g3
    rcases compRest_step rest with ⟨ei, rfl, rfl⟩ | ⟨x, m', o, h3, zs', ei, hm, ef, rest', rfl⟩
    · refine .inl ⟨(hJ c' _ i e'.x R').2 ei, ?_⟩
      rw [List.append_nil] at g4
      exact go_adopt_lst R' e' (NT.none hD) (by rw [hDs]; exact True.intro) un rvs hDs g4
    · obtain ⟨go, yl⟩ := (hJ c' hh' i e'.x R').1 x ei
      refine .inr ⟨go, fun H'' => ∃ m', m' < m ∧ ∃ c' hh' acc ys zs, c'.H = H'' ∧ Ext M c1 c' ∧ Unn c' D ∧ RH M c' hh' ∧ c'.H D = some (.lst ys) ∧ RVs M c' acc ys ∧ compRest (compOne rc own tg co elt s) src m' (i + 1) hh' (.ok zs h2) ∧
        Go M c1 (RV M) (match Nat.ble (acc ++ zs).length line with
          | true => alloc (.lst (acc ++ zs)) h2
          | false => .bad) Q (fun cls d H' => W cls d σ H'), fun _ z => z, fun y H3 yy => ?_⟩
      obtain ⟨c3, rfl, e3, R3, ry, _⟩ := yl y H3 yy
      obtain ⟨un3, hD3⟩ := un.ext hDs e3
      unfold compOne at ef
      cases qp : tg.put x (wipeL s own) with
      | none => rw [qp] at ef; cases ef
      | some s2 =>
        rw [qp] at ef
        refine ⟨c3, wipeL s own, x, s2, rfl, ((S1.ext e').ext e3).wipe own, ry, qp, fun σ2 S2 off => ⟨off.wipe (tgIn_mem hin), ?_⟩⟩
        -- the element, laid behind
        have fin : ∀ {c4 : Cf} {h4 : LHeap} {yy : Val}, Ext M c3 c4 → RH M c4 h4 → rc.e elt s2 h4 = .ok yy h3 → o = some yy → tEv M W0 (rc.e elt) σ2 c4.H fun y H4 => ∃ acc, H4 D = some (.lst acc) ∧ acc.length < sizeLine ∧ ∃ m', m' < m ∧ ∃ c' hh' acc' ys zs, c'.H = upd H4 D (.lst (acc ++ [y])) ∧ Ext M c1 c' ∧ Unn c' D ∧ RH M c' hh' ∧ c'.H D = some (.lst ys) ∧ RVs M c' acc' ys ∧ compRest (compOne rc own tg co elt s) src m' (i + 1) hh' (.ok zs h2) ∧
            Go M c1 (RV M) (match Nat.ble (acc' ++ zs).length line with
              | true => alloc (.lst (acc' ++ zs)) h2
              | false => .bad) Q (fun cls d H' => W cls d σ H') := by
          intro c4 h4 yv e4 R4 ee eo
          subst eo
          refine ⟨c4, s2, h4, ⟨rfl, R4, S2.ext e4⟩, ?_⟩
          rw [ee]
          intro c5 z e5 R5 rz
          obtain ⟨un4, hD4⟩ := un3.ext hD3 e4
          obtain ⟨un5, hD5⟩ := un4.ext hD4 e5
          have ex5 : Ext M c1 c5 := ((e'.trans e3).trans e4).trans e5
          have lo : Loose (c5.H D) := by rw [hD5]; exact True.intro
          obtain ⟨R6, x6⟩ := R5.side' (u := .lst (ys ++ [z])) lo fun l o q mo => un5 l (by rw [R5.n]; exact LHeap.get_lt q) (R5.mn l o q mo)
          have r5 := ((rvs.ext e3).ext e4).ext e5
          refine ⟨ys, hD5, ?_, m', hm, c5.upd D (.lst (ys ++ [z])), h3, acc ++ [yv], ys ++ [z], zs', rfl, ex5.side hD, un5, R6, upd_same, (r5.ex x6).append (.cons (rz.ex x6) .nil), rest', ?_⟩
          · have := rvs.length
            rw [List.length_append, List.length_cons] at hlen
            rw [← line_eq]
            omega
          · have ea : acc ++ [yv] ++ zs' = acc ++ yv :: zs' := by simp
            rw [ea]
            exact g3
        have skip : ∀ {c4 : Cf}, Ext M c3 c4 → RH M c4 h3 → o = none → ∃ m', m' < m ∧ ∃ c' hh' acc ys zs, c'.H = c4.H ∧ Ext M c1 c' ∧ Unn c' D ∧ RH M c' hh' ∧ c'.H D = some (.lst ys) ∧ RVs M c' acc ys ∧ compRest (compOne rc own tg co elt s) src m' (i + 1) hh' (.ok zs h2) ∧
            Go M c1 (RV M) (match Nat.ble (acc ++ zs).length line with
              | true => alloc (.lst (acc ++ zs)) h2
              | false => .bad) Q (fun cls d H' => W cls d σ H') := by
          intro c4 e4 R4 eo
          subst eo
          obtain ⟨un4, hD4⟩ := un3.ext hD3 e4
          exact ⟨m', hm, c4, h3, acc, ys, zs', rfl, (e'.trans e3).trans e4, un4, R4, hD4, (rvs.ext e3).ext e4, rest', g3⟩
        cases co with
        | none =>
          obtain ⟨yv, h4, ee, eo⟩ := bind_ok ef
          cases eo
          exact fin (Ext.refl c3) R3 ee rfl
        | some mc =>
          obtain ⟨b, h4, ee, eo⟩ := bind_ok ef
          refine ⟨c3, s2, hh', ⟨rfl, R3, S2⟩, ?_⟩
          rw [ee]
          intro c4 b' e4 R4 eb
          subst eb
          cases b with
          | true =>
            rw [if_pos rfl]
            obtain ⟨yv, h5, ee', eo'⟩ := bind_ok eo
            cases eo'
            exact fin e4 R4 ee' rfl
          | false =>
            rw [if_neg (by decide)]
            cases eo
            exact skip e4 R4 rfl
def CondOk (M : Mo) (rc : Rec) (X' : Cx) (ifs : List Expr) (co : Option E) : Prop := match co, ifs with
  | none, [] => True
  | some mc, [cc] => PT X' cc (tEvT M W0 (rc.t mc))
  | _, _ => False
theorem PTs.cond {X' : Cx} {ifs : List Expr} {co : Option E} (h : CondOk M rc X' ifs co) : PTs X' ifs (tCond M rc co) := by
  cases co with
  | none =>
    cases ifs with
    | nil => exact pts_nil
    | cons _ _ => exact h.elim
  | some mc =>
    cases ifs with
    | nil => exact h.elim
    | cons cc r =>
      cases r with
      | nil => exact pts_one h
      | cons _ _ => exact h.elim
/-- the block's context -/
theorem Gd.blk (G : Gd M X N sc k W) {scope : Scope} {own : List (Str × Nat)} (ok : BlkOk N sc scope own) (s : Shared) (H : Hp) (C : Addr) (cls : List (Str × Addr)) (fp : List Addr) : Gd M (X.blk s H scope (compEnvC scope cls C X.env) fp) N (relS scope sc) k W0 := by
  refine ⟨G.hP, G.hw, G.hK, G.hmg, G.hbase, G.hN, G.nd, ?_, ok.kind, G.calm, G.room, G.gu, takes0, fun h => G.lam h⟩
  rw [← G.hsc]; rfl
theorem rel_lookup {scope sc : Scope} {x : Str} {kd : NameKind} (hk : kd ≠ .free) (h : scope.names.lookup x = some kd) : (relS scope sc).names.lookup x = some kd := by
  show (scope.names.map fun (n, k) => if (k == .free && sc.kind == .function && sc.names.lookup n == some .cell) then (n, .cell) else (n, k)).lookup x = some kd
  revert h
  generalize scope.names = l
  induction l with
  | nil => intro h; cases h
  | cons p l ih =>
    obtain ⟨n, k1⟩ := p
    intro h
    rw [List.lookup_cons] at h
    rw [List.map_cons]
    cases q : x == n with
    | true =>
      rw [q] at h
      cases h
      have e : (kd == NameKind.free) = false := by cases kd <;> first | rfl | exact absurd rfl hk
      dsimp only
      rw [e]
      simp [List.lookup_cons, q]
    | false =>
      rw [q] at h
      dsimp only
      split
      · rw [List.lookup_cons, q]; exact ih h
      · rw [List.lookup_cons, q]; exact ih h
/-- in a block: its own names may be set -/
theorem FnP.blk (G : Gd M X N sc k W) {scope : Scope} (s : Shared) (H : Hp) (C : Addr) (cls : List (Str × Addr)) (fp : List Addr) : FnP (X.blk s H scope (compEnvC scope cls C X.env) fp) scope isLoc := fun x h => by
  have hs : (X.blk s H scope (compEnvC scope cls C X.env) fp).env.scope = relS scope sc := by rw [← G.hsc]; rfl
  rw [look_eq] at h
  cases e : scope.names.lookup x with
  | none => rw [e] at h; cases h
  | some kd =>
    rw [e] at h
    cases kd <;> first | (cases h; done) | skip
    · have z := rel_lookup (sc := sc) (by decide) e
      refine ⟨.inl (by rw [hs]; exact z), .inr (by rw [hs]; exact z)⟩
    · have z := rel_lookup (sc := sc) (by decide) e
      refine ⟨.inr (by rw [hs]; exact z), .inl ?_⟩
      show (scope.names.lookup x == some .cell) = true
      rw [e]; rfl
theorem se_comp (G : Gd M X N sc k W) {el t i : Expr} {ifs : List Expr} {scope : Scope} {own : List Nat} {tg : Tg} {it : It} {co : Option E} {elt : E} (hi : PI X t i (tEvI M W (evIt rc it))) (hin : tgIn own tg = true) (hb : blkC N sc scope (ownOf N own) = true) (ho : (ownOf N own).map (·.2) = own)
    (hg : ckTg N isLoc scope t tg = true) (hc : ∀ X', Gd M X' N (relS scope sc) k W0 → CondOk M rc X' ifs co) (he : ∀ X', Gd M X' N (relS scope sc) k W0 → PE X' el (tEv M W0 (rc.e elt))) (hs : ∀ x, foldedSetIterable i X.env x = pure x) :
    PE X (.ListComp el [⟨t, i, ifs, 0⟩] scope pos) (tEv M W (stepE cl calls rc (.comp own tg it co elt))) := by
  have ok := blkOk_by hb
  refine PE.of (pe_lc (own := ownOf N own) G.calm (by rw [G.hN]; exact G.nd) hi (by rw [G.hN, G.hsc]; exact ok) (fun s H C cs fp => sg (G.blk ok s H C cs fp) (FnP.blk G s H C cs fp) hg) (fun s H C cs fp => PTs.cond (hc _ (G.blk ok s H C cs fp))) (fun s H C cs fp => he _ (G.blk ok s H C cs fp)) hs) fun σ H Q h => ?_
  rw [ho]
  exact comp_read hin h
/-- name = [..] on one line -/
theorem ss_lc (G : Gd M X N sc k W) {el t i : Expr} {ifs : List Expr} {scope : Scope} {own : List Nat} {tg : Tg} {it : It} {co : Option E} {elt : E} {y : Str} {py spos : Pos} {j : Nat} (hy : nthS N j y = true) (hyl : isLc (look sc.names y) = true)
    (hsw : swapsWith (.ListComp el [⟨t, i, ifs, 0⟩] scope pos) (some (.Name y py)) spos.line X.env = pure true) (hi : PI X t i (tEvI M W (evIt rc it))) (hin : tgIn own tg = true) (hb : blkC N sc scope (ownOf N own) = true) (ho : (ownOf N own).map (·.2) = own)
    (hg : ckTg N isLoc scope t tg = true) (hc : ∀ X', Gd M X' N (relS scope sc) k W0 → CondOk M rc X' ifs co) (he : ∀ X', Gd M X' N (relS scope sc) k W0 → PE X' el (tEv M W0 (rc.e elt))) (hs : ∀ x, foldedSetIterable i X.env x = pure x) :
    PS X (.Assign [.Name y py] (.ListComp el [⟨t, i, ifs, 0⟩] scope pos) spos) (tAsg (tEv M W (stepE cl calls rc (.comp own tg it co elt))) (gName j)) := by
  have ok := blkOk_by hb
  have hl : X.env.scope.names.lookup y = some .local := by
    rw [look_eq] at hyl
    rw [G.hsc]
    cases e : sc.names.lookup y with
    | none => rw [e] at hyl; cases hyl
    | some kd => rw [e] at hyl; cases kd <;> first | rfl | cases hyl
  have z := ps_setLc (i := j) (own := ownOf N own) G.calm (by rw [G.hN]; exact G.nd) (by rw [G.hN]; exact nthS_eq hy) hl hsw hi (by rw [G.hN, G.hsc]; exact ok) (fun s H C cs fp => sg (G.blk ok s H C cs fp) (FnP.blk G s H C cs fp) hg) (fun s H C cs fp => PTs.cond (hc _ (G.blk ok s H C cs fp))) (fun s H C cs fp => he _ (G.blk ok s H C cs fp)) hs
  refine ⟨fun pins s σ H D I q => z.run pins s σ H D I ?_⟩
  have q' := comp_read hin q
  rw [ho]
  exact q'
end
end Ev

set_option Elab.async false
set_option linter.all false
set_option maxRecDepth 100000
set_option maxHeartbeats 4000000
/-! Walks that fold into a new thing: dict comprehensions, comprehensions with two clauses; stars in displays. -/
noncomputable section
namespace Ev
open PySem PySem.Spec PyProof.Rows L2
section
variable {A : Type} {f : Val → A → LHeap → Res A}
def foldRest (f : Val → A → LHeap → Res A) (src : Src) (m i : Nat) (a : A) (h : LHeap) (r : Res A) : Prop := match src with
  | .st xs => m = xs.length - i ∧ foldSt f (xs.drop i) a h = r
  | src => foldDyn f src m i a h = r
theorem foldRest_start (src : Src) (a : A) (h : LHeap) : ∃ m, foldRest f src m 0 a h (foldAll f src a h) := by
  cases src with
  | st xs => exact ⟨_, rfl, rfl⟩
  | dyn l => exact ⟨_, rfl⟩
  | dynE l => exact ⟨_, rfl⟩
  | dynZ l k => exact ⟨_, rfl⟩
theorem foldRest_dyn {src : Src} {m i : Nat} {a a2 : A} {h h2 : LHeap} (e : foldDyn f src m i a h = .ok a2 h2) : (itemAt src i h = some none ∧ a2 = a ∧ h2 = h) ∨ ∃ x m' a1 h1, itemAt src i h = some (some x) ∧ m' < m ∧ f x a h = .ok a1 h1 ∧ foldDyn f src m' (i + 1) a1 h1 = .ok a2 h2 := by
  cases m with
  | zero => cases e
  | succ m =>
    unfold foldDyn at e
    cases q : itemAt src i h with
    | none => rw [q] at e; cases e
    | some o =>
      rw [q] at e
      cases o with
      | none => cases e; exact .inl ⟨rfl, rfl, rfl⟩
      | some x =>
        obtain ⟨a1, h1, e1, e2⟩ := bind_ok e
        exact .inr ⟨x, m, a1, h1, rfl, Nat.lt_succ_self m, e1, e2⟩
theorem foldRest_step {src : Src} {m i : Nat} {a a2 : A} {h h2 : LHeap} (e : foldRest f src m i a h (.ok a2 h2)) : (itemAt src i h = some none ∧ a2 = a ∧ h2 = h) ∨ ∃ x m' a1 h1, itemAt src i h = some (some x) ∧ m' < m ∧ f x a h = .ok a1 h1 ∧ foldRest f src m' (i + 1) a1 h1 (.ok a2 h2) := by
  cases src with
  | st xs =>
    obtain ⟨hm, e⟩ := e
    cases q : xs.drop i with
    | nil =>
      rw [q] at e
      cases e
      exact .inl ⟨congrArg some (drop_nth0 q), rfl, rfl⟩
    | cons x ys =>
      rw [q] at e
      obtain ⟨e1, e2⟩ := drop_nth q
      obtain ⟨a1, h1, e3, e4⟩ := bind_ok e
      have hl : i < xs.length := by
        cases Nat.lt_or_ge i xs.length with
        | inl z => exact z
        | inr z => rw [List.drop_eq_nil_of_le z] at q; cases q
      exact .inr ⟨x, xs.length - (i + 1), a1, h1, congrArg some e1, by omega, e3, rfl, by rw [e2]; exact e4⟩
  | dyn l => exact foldRest_dyn e
  | dynE l => exact foldRest_dyn e
  | dynZ l k => exact foldRest_dyn e
end
section
variable {M : Mo} {X : Cx} {N : List Str} {sc : Scope} {k : Nat} {W : WX} {md : Md} {cl : Cl} {calls : Nat → List Val → LHeap → Res Val} {rc : Rec} {pos : Pos}
/-- a walk from c1 on that fills the thing at D, new since c0 -/
theorem walkD {A : Type} {f : Val → A → LHeap → Res A} {src : Src} {J : L2.It} {D : Addr} {c0 c1 : Cf} {h1 h2 : LHeap} {a0 a2 : A} {o1 : HO} (obj : Cf → A → HO → Prop) (nto : ∀ c a o, obj c a o → ¬ Tb o) (mono : ∀ c c' a o, Ex M c c' → obj c a o → obj c' a o)
    (hJ : ItOk M c1 src J) (e0 : Ext M c0 c1) (hD0 : c0.H D = none) (un : Unn c1 D) (R1 : RH M c1 h1) (hD : c1.H D = some o1) (ob : obj c1 a0 o1) (er : foldAll f src a0 h1 = .ok a2 h2)
    (Fin : Hp → Prop) (hfin : ∀ c' o', Ext M c0 c' → Ex M c1 c' → Unn c' D → RH M c' h2 → c'.H D = some o' → obj c' a2 o' → Fin c'.H) (B : V → Hp → (Hp → Prop) → Prop)
    (hB : ∀ c' h' x y a a' h3 o (Nx : Hp → Prop), Ext M c0 c' → Ex M c1 c' → Unn c' D → RH M c' h' → c'.H D = some o → obj c' a o → RV M c' x y → f x a h' = .ok a' h3 →
      (∀ c'' o'', Ext M c0 c'' → Ex M c1 c'' → Unn c'' D → RH M c'' h3 → c''.H D = some o'' → obj c'' a' o'' → Nx c''.H) → B y c'.H Nx) :
    ∃ Wf : Nat → Nat → Hp → Prop, (∃ m, Wf 0 m c1.H) ∧ ∀ i m H, Wf i m H → (J.stop i H ∧ Fin H) ∨ (J.go i H ∧ ∃ Nx : Hp → Prop, (∀ H', Nx H' → ∃ m', m' < m ∧ Wf (i + 1) m' H') ∧ ∀ y H', J.yld i H y H' → B y H' Nx) := by
  obtain ⟨m0, hm0⟩ := foldRest_start (f := f) src a0 h1
  rw [er] at hm0
  refine ⟨fun i m H' => ∃ c' h' a o, c'.H = H' ∧ Ext M c0 c' ∧ Ex M c1 c' ∧ Unn c' D ∧ RH M c' h' ∧ c'.H D = some o ∧ obj c' a o ∧ foldRest f src m i a h' (.ok a2 h2), ⟨m0, c1, h1, a0, o1, rfl, e0, Ex.refl c1, un, R1, hD, ob, hm0⟩, fun i m H' w => ?_⟩
  obtain ⟨c', h', a, o, rfl, e', x', un', R', hD', ob', rest⟩ := w
  rcases foldRest_step rest with ⟨ei, rfl, rfl⟩ | ⟨x, m', a1, h3, ei, hm, ef, rest'⟩
  · exact .inl ⟨(hJ c' _ i x' R').2 ei, hfin c' o e' x' un' R' hD' ob'⟩
  · obtain ⟨go, yl⟩ := (hJ c' h' i x' R').1 x ei
    refine .inr ⟨go, fun H'' => ∃ m', m' < m ∧ ∃ c' h' a o, c'.H = H'' ∧ Ext M c0 c' ∧ Ex M c1 c' ∧ Unn c' D ∧ RH M c' h' ∧ c'.H D = some o ∧ obj c' a o ∧ foldRest f src m' (i + 1) a h' (.ok a2 h2), fun _ z => z, fun y H3 yy => ?_⟩
    obtain ⟨c3, rfl, e3, R3, ry, _⟩ := yl y H3 yy
    obtain ⟨un3, hD3⟩ := un'.ext hD' e3 (nto _ _ _ ob')
    exact hB c3 h' x y a a1 h3 o _ (e'.trans e3) (x'.trans e3.x) un3 R3 hD3 (mono _ _ _ _ e3.x ob') ry ef fun c'' o'' q1 q2 q3 q4 q5 q6 => ⟨m', hm, c'', h3, a1, o'', rfl, q1, q2, q3, q4, q5, q6, rest'⟩
theorem cond_read {c : Cf} {h : LHeap} {σ : St} {s : LSt} {co : Option E} {Q : Bool → Hp → Prop} {b : Bool} {h1 : LHeap} (R : RH M c h) (S : RSl M c s σ) (e : condB rc co s h = .ok b h1) (hq : ∀ c', Ext M c c' → RH M c' h1 → Q b c'.H) : tCond M rc co σ c.H Q := by
  cases co with
  | none => cases e; exact hq c (Ext.refl c) R
  | some mc =>
    refine ⟨c, s, h, ⟨rfl, R, S⟩, ?_⟩
    have e : rc.t mc s h = .ok b h1 := e
    rw [e]
    intro c' b' ex R' eb
    subst eb
    exact hq c' ex R'
/-- an expression that ends well -/
theorem val_read {c : Cf} {h : LHeap} {σ : St} {s : LSt} {m : E} {Q : VK} {v : Val} {h1 : LHeap} (R : RH M c h) (S : RSl M c s σ) (e : rc.e m s h = .ok v h1) (hq : ∀ c' y, Ext M c c' → RH M c' h1 → RV M c' v y → Q y c'.H) : tEv M W0 (rc.e m) σ c.H Q := by
  refine ⟨c, s, h, ⟨rfl, R, S⟩, ?_⟩
  rw [e]
  exact fun c' y ex R' r => hq c' y ex R' r
theorem dcomp_read {own : List Nat} {tg : Tg} {it : It} {co : Option E} {ke ve : E} (hin : tgIn own tg = true) {σ : St} {H : Hp} {Q : VK} (h : tEv M W (stepE cl calls rc (.dcomp own tg it co ke ve)) σ H Q) :
    tDc (tEvI M W (evIt rc it)) (gEv M tg) (tCond M rc co) (tEv M W0 (rc.e ke)) (tEv M W0 (rc.e ve)) own σ H Q := by
  obtain ⟨c, s, hh, ⟨rfl, R, S⟩, g⟩ := h
  refine ⟨c, s, hh, ⟨rfl, R, S⟩, Go.bind g fun src h1 c1 J e1 R1 hJ g1 D hD => ?_⟩
  obtain ⟨kvs, h2, er, g2⟩ := noExc_go g1
  have S1 := S.ext e1
  obtain ⟨R', ex⟩ := R1.side (u := .dK []) hD
  refine walkD (c0 := c1) (c1 := c1.upd D (.dK [])) (fun c a o => ∃ ys, o = .dK ys ∧ RK Key M c a ys) (fun c a o ⟨ys, q, r⟩ => by rw [q]; exact fun ⟨_, z⟩ => nomatch z) (fun c c' a o e ⟨ys, q, r⟩ => ⟨ys, q, r.ex e⟩) ?_ ex hD (fun l hl hm => R1.new hD l hl hm) R' upd_same ⟨[], rfl, .nil⟩ er (fun H => Q (.ref D) H) (fun c' o' e' x' un' R2 hD' ob => ?_)
    (fun y H3 Nx => gEv M tg y (wipe σ own) H3 fun σ2 H2 => wipe σ2 own = wipe σ own ∧ tCond M rc co σ2 H2 fun b H3 => if b = true then tEv M W0 (rc.e ke) σ2 H3 fun y H4 => tEv M W0 (rc.e ve) σ2 H4 fun z H5 => ∃ kvs k, y = kV k ∧ H5 D = some (.dK kvs) ∧ kvs.length < sizeLine ∧ Nx (upd H5 D (.dK (putK kvs k z))) else Nx H3) ?_
  · exact fun c' h' i x R2 => hJ c' h' i (ex.x.trans x) R2
  · obtain ⟨ys, rfl, r⟩ := ob
    have eu : upd c'.H D (.dK ys) = c'.H := by
      funext b
      by_cases e : b = D
      · rw [e, upd_same, hD']
      · rw [upd_ne e]
    have z := go_adopt_dK R2 e' (NT.none hD) (by rw [hD']; exact True.intro) un' r g2
    rw [eu] at z
    exact z
  · intro c' h' x y a a' h3 o Nx e' x' un' R2 hD' ob ry ef hN
    obtain ⟨ys, rfl, r⟩ := ob
    unfold dcompOne at ef
    cases qp : tg.put x (wipeL s own) with
    | none => rw [qp] at ef; cases ef
    | some s2 =>
      rw [qp] at ef
      refine ⟨c', wipeL s own, x, s2, rfl, (S1.ex (ex.x.trans x')).wipe own, ry, qp, fun σ2 S2 off => ⟨off.wipe (tgIn_mem hin), ?_⟩⟩
      obtain ⟨b, h4, ec, eb⟩ := bind_ok ef
      refine cond_read R2 S2 ec fun c4 e4 R4 => ?_
      obtain ⟨un4, hD4⟩ := un'.ext hD' e4
      cases b with
      | false =>
        rw [if_neg (by decide)]
        cases eb
        exact hN c4 _ (e'.trans e4) (x'.trans e4.x) un4 R4 hD4 ⟨ys, rfl, r.ext e4⟩
      | true =>
        rw [if_pos rfl]
        obtain ⟨ky, h5, ek, eb⟩ := bind_ok eb
        obtain ⟨vz, h6, ev, eb⟩ := bind_ok eb
        refine val_read R4 (S2.ext e4) ek fun c5 y5 e5 R5 r5 => val_read R5 ((S2.ext e4).ext e5) ev fun c6 z6 e6 R6 r6 => ?_
        obtain ⟨un5, hD5⟩ := un4.ext hD4 e5
        obtain ⟨un6, hD6⟩ := un5.ext hD5 e6
        cases qk : keyOf ky with
        | none => rw [qk] at eb; cases eb
        | some kk =>
          rw [qk] at eb
          dsimp only at eb
          cases ql : Nat.blt a.length line with
          | false => rw [ql] at eb; cases eb
          | true =>
            rw [ql] at eb
            cases eb
            have lo : Loose (c6.H D) := by rw [hD6]; exact True.intro
            obtain ⟨R7, x7⟩ := R6.side' (u := .dK (putK ys kk z6)) lo fun l o q mo => un6 l (by rw [R6.n]; exact LHeap.get_lt q) (R6.mn l o q mo)
            have ra := ((r.ext e4).ext e5).ext e6
            refine ⟨ys, kk, keyOf_rv r5 qk, hD6, by rw [← ra.length, ← line_eq]; exact blt_true ql, ?_⟩
            exact hN (c6.upd D (.dK (putK ys kk z6))) _ ((((e'.trans e4).trans e5).trans e6).side hD) ((((x'.trans e4.x).trans e5.x).trans e6.x).trans x7) un6 R7 upd_same ⟨_, rfl, (putKV_rv r6 ra).ex x7⟩
theorem se_dcomp (G : Gd M X N sc k W) {ke ve t i : Expr} {ifs : List Expr} {scope : Scope} {own : List Nat} {tg : Tg} {it : It} {co : Option E} {mk mv : E} (hi : PI X t i (tEvI M W (evIt rc it))) (hin : tgIn own tg = true) (hb : blkC N sc scope (ownOf N own) = true) (ho : (ownOf N own).map (·.2) = own)
    (hg : ckTg N isLoc scope t tg = true) (hc : ∀ X', Gd M X' N (relS scope sc) k W0 → CondOk M rc X' ifs co) (hk : ∀ X', Gd M X' N (relS scope sc) k W0 → PE X' ke (tEv M W0 (rc.e mk))) (hv : ∀ X', Gd M X' N (relS scope sc) k W0 → PE X' ve (tEv M W0 (rc.e mv))) (hs : ∀ x, foldedSetIterable i X.env x = pure x) :
    PE X (.DictComp ke ve [⟨t, i, ifs, 0⟩] scope pos) (tEv M W (stepE cl calls rc (.dcomp own tg it co mk mv))) := by
  have ok := blkOk_by hb
  refine PE.of (pe_dc (own := ownOf N own) G.calm (by rw [G.hN]; exact G.nd) hi (by rw [G.hN, G.hsc]; exact ok) (fun s H C cs fp => sg (G.blk ok s H C cs fp) (FnP.blk G s H C cs fp) hg) (fun s H C cs fp => PTs.cond (hc _ (G.blk ok s H C cs fp))) (fun s H C cs fp => hk _ (G.blk ok s H C cs fp)) (fun s H C cs fp => hv _ (G.blk ok s H C cs fp)) hs) fun σ H Q h => ?_
  rw [ho]
  exact dcomp_read hin h
theorem comp2_read {own own1 : List Nat} {tg tg1 : Tg} {it it1 : It} {co co1 : Option E} {elt : E} (hin : tgIn own tg = true) (hin1 : tgIn own1 tg1 = true) {σ : St} {H : Hp} {Q : VK} (h : tEv M W (stepE cl calls rc (.comp2 own own1 tg it co tg1 it1 co1 elt)) σ H Q) :
    tLc2 (tEvI M W (evIt rc it)) (gEv M tg) (tCond M rc co) (tEvI M W0 (evIt rc it1)) (gEv M tg1) (tCond M rc co1) (tEv M W0 (rc.e elt)) own own1 σ H Q := by
  obtain ⟨c, s, hh, ⟨rfl, R, S⟩, g⟩ := h
  refine ⟨c, s, hh, ⟨rfl, R, S⟩, Go.bind g fun src h1 c1 J e1 R1 hJ g1 D hD => ?_⟩
  obtain ⟨zs, h2, er, g2⟩ := noExc_go g1
  have S1 := S.ext e1
  obtain ⟨R', ex⟩ := R1.side (u := .lst []) hD
  have nto : ∀ (c : Cf) (a : List Val) (o : HO), (∃ ys, o = HO.lst ys ∧ RVs M c a ys) → ¬ Tb o := fun c a o ⟨ys, q, r⟩ => by rw [q]; exact fun ⟨_, z⟩ => nomatch z
  have mono : ∀ (c c' : Cf) (a : List Val) (o : HO), Ex M c c' → (∃ ys, o = HO.lst ys ∧ RVs M c a ys) → ∃ ys, o = HO.lst ys ∧ RVs M c' a ys := fun c c' a o e ⟨ys, q, r⟩ => ⟨ys, q, r.ex e⟩
  refine walkD (c0 := c1) (c1 := c1.upd D (.lst [])) (fun c a o => ∃ ys, o = .lst ys ∧ RVs M c a ys) nto mono ?_ ex hD (fun l hl hm => R1.new hD l hl hm) R' upd_same ⟨[], rfl, .nil⟩ er (fun H => Q (.ref D) H) (fun c' o' e' x' un' R2 hD' ob => ?_)
    (fun y H3 Nx => gEv M tg y (wipe σ own) H3 fun σ2 H2 => wipe σ2 own = wipe σ own ∧ tCond M rc co σ2 H2 fun b H3 => if b = true then tEvI M W0 (evIt rc it1) σ2 H3 fun J1 H4 => ∃ W1 : Nat → Nat → Hp → Prop, (∃ m, W1 0 m H4) ∧ ∀ j k H, W1 j k H →
      (J1.stop j H ∧ Nx H) ∨ (J1.go j H ∧ ∃ Nx1 : Hp → Prop, (∀ H', Nx1 H' → ∃ k', k' < k ∧ W1 (j + 1) k' H') ∧ ∀ x H', J1.yld j H x H' → gEv M tg1 x (wipe σ2 own1) H' fun σ3 H5 => wipe σ3 own1 = wipe σ2 own1 ∧ tCond M rc co1 σ3 H5 fun b H6 =>
        if b = true then tEv M W0 (rc.e elt) σ3 H6 fun y H7 => ∃ acc, H7 D = some (.lst acc) ∧ acc.length < sizeLine ∧ Nx1 (upd H7 D (.lst (acc ++ [y]))) else Nx1 H6) else Nx H3) ?_
  · exact fun c' h' i x R2 => hJ c' h' i (ex.x.trans x) R2
  · obtain ⟨ys, rfl, r⟩ := ob
    exact go_adopt_lst R2 e' (NT.none hD) (by rw [hD']; exact True.intro) un' r hD' g2
  · intro c' h' x y a a' h3 o Nx e' x' un' R2 hD' ob ry ef hN
    unfold comp2One at ef
    cases qp : tg.put x (wipeL s own) with
    | none => rw [qp] at ef; cases ef
    | some s2 =>
      rw [qp] at ef
      refine ⟨c', wipeL s own, x, s2, rfl, (S1.ex (ex.x.trans x')).wipe own, ry, qp, fun σ2 S2 off => ⟨off.wipe (tgIn_mem hin), ?_⟩⟩
      obtain ⟨b, h4, ec, eb⟩ := bind_ok ef
      refine cond_read R2 S2 ec fun c4 e4 R4 => ?_
      obtain ⟨un4, hD4⟩ := un'.ext hD' e4 (nto _ _ _ ob)
      cases b with
      | false =>
        rw [if_neg (by decide)]
        cases eb
        exact hN c4 _ (e'.trans e4) (x'.trans e4.x) un4 R4 hD4 (mono _ _ _ _ e4.x ob)
      | true =>
        rw [if_pos rfl]
        obtain ⟨src1, h5, ei, ef1⟩ := bind_ok eb
        refine ⟨c4, s2, h4, ⟨rfl, R4, S2.ext e4⟩, ?_⟩
        rw [ei]
        intro c5 J1 e5 R5 hJ1
        obtain ⟨un5, hD5⟩ := un4.ext hD4 e5 (nto _ _ _ ob)
        have ob5 := mono _ _ _ _ e5.x (mono _ _ _ _ e4.x ob)
        refine walkD (c0 := c1) (c1 := c5) (fun c a o => ∃ ys, o = .lst ys ∧ RVs M c a ys) nto mono hJ1 ((e'.trans e4).trans e5) hD un5 R5 hD5 ob5 ef1 Nx (fun c6 o6 q1 q2 q3 q4 q5 q6 => hN c6 o6 q1 (((x'.trans e4.x).trans e5.x).trans q2) q3 q4 q5 q6)
          (fun x H' Nx1 => gEv M tg1 x (wipe σ2 own1) H' fun σ3 H5 => wipe σ3 own1 = wipe σ2 own1 ∧ tCond M rc co1 σ3 H5 fun b H6 => if b = true then tEv M W0 (rc.e elt) σ3 H6 fun y H7 => ∃ acc, H7 D = some (.lst acc) ∧ acc.length < sizeLine ∧ Nx1 (upd H7 D (.lst (acc ++ [y]))) else Nx1 H6) ?_
        intro c6 h6 x1 y1 b1 b2 h7 o6 Nx1 f1 f2 f3 f4 f5 f6 f7 f8 f9
        obtain ⟨ys, rfl, r⟩ := f6
        cases qp1 : tg1.put x1 (wipeL s2 own1) with
        | none => rw [qp1] at f8; cases f8
        | some s3 =>
          rw [qp1] at f8
          refine ⟨c6, wipeL s2 own1, x1, s3, rfl, (((S2.ext e4).ext e5).ex f2).wipe own1, f7, qp1, fun σ3 S3 off3 => ⟨off3.wipe (tgIn_mem hin1), ?_⟩⟩
          obtain ⟨bb, h8, ec1, eb1⟩ := bind_ok f8
          refine cond_read f4 S3 ec1 fun c7 e7 R7 => ?_
          obtain ⟨un7, hD7⟩ := f3.ext f5 e7
          cases bb with
          | false =>
            rw [if_neg (by decide)]
            cases eb1
            exact f9 c7 _ (f1.trans e7) (f2.trans e7.x) un7 R7 hD7 ⟨ys, rfl, r.ext e7⟩
          | true =>
            rw [if_pos rfl]
            obtain ⟨yv, h9, ee, eb2⟩ := bind_ok eb1
            refine val_read R7 (S3.ext e7) ee fun c8 z8 e8 R8 r8 => ?_
            obtain ⟨un8, hD8⟩ := un7.ext hD7 e8
            cases ql : Nat.blt b1.length line with
            | false => rw [ql] at eb2; cases eb2
            | true =>
              rw [ql] at eb2
              cases eb2
              have lo : Loose (c8.H D) := by rw [hD8]; exact True.intro
              obtain ⟨R9, x9⟩ := R8.side' (u := .lst (ys ++ [z8])) lo fun l o q mo => un8 l (by rw [R8.n]; exact LHeap.get_lt q) (R8.mn l o q mo)
              have ra := (r.ext e7).ext e8
              refine ⟨ys, hD8, by rw [← ra.length, ← line_eq]; exact blt_true ql, ?_⟩
              exact f9 (c8.upd D (.lst (ys ++ [z8]))) _ (((f1.trans e7).trans e8).side hD) (((f2.trans e7.x).trans e8.x).trans x9) un8 R9 upd_same ⟨_, rfl, (ra.ex x9).append (.cons (r8.ex x9) .nil)⟩
theorem se_comp2 (G : Gd M X N sc k W) {el t i t1 i1 : Expr} {ifs ifs1 : List Expr} {scope : Scope} {own own1 : List Nat} {tg tg1 : Tg} {it it1 : It} {co co1 : Option E} {elt : E} (hi : PI X t i (tEvI M W (evIt rc it))) (hin : tgIn own tg = true) (hin1 : tgIn own1 tg1 = true) (hv : ∀ j ∈ own1, j ∈ own) (hb : blkC N sc scope (ownOf N own) = true) (ho : (ownOf N own).map (·.2) = own)
    (hg : ckTg N isLoc scope t tg = true) (hc : ∀ X', Gd M X' N (relS scope sc) k W0 → CondOk M rc X' ifs co) (hi1 : ∀ X', Gd M X' N (relS scope sc) k W0 → PI X' t1 i1 (tEvI M W0 (evIt rc it1))) (hg1 : ckTg N isLoc scope t1 tg1 = true) (hc1 : ∀ X', Gd M X' N (relS scope sc) k W0 → CondOk M rc X' ifs1 co1)
    (he : ∀ X', Gd M X' N (relS scope sc) k W0 → PE X' el (tEv M W0 (rc.e elt))) (hs : ∀ x, foldedSetIterable i X.env x = pure x) (hs1 : ∀ env x, foldedSetIterable i1 env x = pure x) :
    PE X (.ListComp el [⟨t, i, ifs, 0⟩, ⟨t1, i1, ifs1, 0⟩] scope pos) (tEv M W (stepE cl calls rc (.comp2 own own1 tg it co tg1 it1 co1 elt))) := by
  have ok := blkOk_by hb
  refine PE.of (pe_lc2 (own := ownOf N own) (vs1 := own1) G.calm (by rw [G.hN]; exact G.nd) hi (by rw [G.hN, G.hsc]; exact ok) (by rw [ho]; exact hv) (fun s H C cs fp => sg (G.blk ok s H C cs fp) (FnP.blk G s H C cs fp) hg) (fun s H C cs fp => PTs.cond (hc _ (G.blk ok s H C cs fp))) (fun s H C cs fp => hi1 _ (G.blk ok s H C cs fp))
    (fun s H C cs fp => sg (G.blk ok s H C cs fp) (FnP.blk G s H C cs fp) hg1) (fun s H C cs fp => PTs.cond (hc1 _ (G.blk ok s H C cs fp))) (fun s H C cs fp => he _ (G.blk ok s H C cs fp)) hs hs1) fun σ H Q h => ?_
  rw [ho]
  exact comp2_read hin hin1 h
theorem ss_lc2 (G : Gd M X N sc k W) {el t i t1 i1 : Expr} {ifs ifs1 : List Expr} {scope : Scope} {own own1 : List Nat} {tg tg1 : Tg} {it it1 : It} {co co1 : Option E} {elt : E} {y : Str} {py spos : Pos} {j : Nat} (hy : nthS N j y = true) (hyl : isLc (look sc.names y) = true)
    (hsw : swapsWith (.ListComp el [⟨t, i, ifs, 0⟩, ⟨t1, i1, ifs1, 0⟩] scope pos) (some (.Name y py)) spos.line X.env = pure true) (hi : PI X t i (tEvI M W (evIt rc it))) (hin : tgIn own tg = true) (hin1 : tgIn own1 tg1 = true) (hv : ∀ j ∈ own1, j ∈ own) (hb : blkC N sc scope (ownOf N own) = true) (ho : (ownOf N own).map (·.2) = own)
    (hg : ckTg N isLoc scope t tg = true) (hc : ∀ X', Gd M X' N (relS scope sc) k W0 → CondOk M rc X' ifs co) (hi1 : ∀ X', Gd M X' N (relS scope sc) k W0 → PI X' t1 i1 (tEvI M W0 (evIt rc it1))) (hg1 : ckTg N isLoc scope t1 tg1 = true) (hc1 : ∀ X', Gd M X' N (relS scope sc) k W0 → CondOk M rc X' ifs1 co1)
    (he : ∀ X', Gd M X' N (relS scope sc) k W0 → PE X' el (tEv M W0 (rc.e elt))) (hs : ∀ x, foldedSetIterable i X.env x = pure x) (hs1 : ∀ env x, foldedSetIterable i1 env x = pure x) :
    PS X (.Assign [.Name y py] (.ListComp el [⟨t, i, ifs, 0⟩, ⟨t1, i1, ifs1, 0⟩] scope pos) spos) (tAsg (tEv M W (stepE cl calls rc (.comp2 own own1 tg it co tg1 it1 co1 elt))) (gName j)) := by
  have ok := blkOk_by hb
  have hl : X.env.scope.names.lookup y = some .local := by
    rw [look_eq] at hyl
    rw [G.hsc]
    cases e : sc.names.lookup y with
    | none => rw [e] at hyl; cases hyl
    | some kd => rw [e] at hyl; cases kd <;> first | rfl | cases hyl
  have z := ps_setLc2 (i := j) (own := ownOf N own) (vs1 := own1) G.calm (by rw [G.hN]; exact G.nd) (by rw [G.hN]; exact nthS_eq hy) hl hsw hi (by rw [G.hN, G.hsc]; exact ok) (by rw [ho]; exact hv) (fun s H C cs fp => sg (G.blk ok s H C cs fp) (FnP.blk G s H C cs fp) hg) (fun s H C cs fp => PTs.cond (hc _ (G.blk ok s H C cs fp))) (fun s H C cs fp => hi1 _ (G.blk ok s H C cs fp))
    (fun s H C cs fp => sg (G.blk ok s H C cs fp) (FnP.blk G s H C cs fp) hg1) (fun s H C cs fp => PTs.cond (hc1 _ (G.blk ok s H C cs fp))) (fun s H C cs fp => he _ (G.blk ok s H C cs fp)) hs hs1
  refine ⟨fun pins s σ H D I q => z.run pins s σ H D I ?_⟩
  have q' := comp2_read hin hin1 q
  rw [ho]
  exact q'
/-! ### stars in a display -/
theorem saS_star (G : Gd M X N sc k W) {e : Expr} {p : Pos} {es : List Expr} {m : E} {ms : List (Bool × E)} (ha : PE X e (tEv M W (rc.e m))) (hb : PA X es (tEvA M W (evsS rc ms))) : PA X (.Starred e p :: es) (tEvA M W (evsS rc ((true, m) :: ms))) :=
  PA.of (StX.pa_star ha hb) fun σ H Q ⟨c, s, h, ⟨ee, R, S⟩, g⟩ => by
    subst ee
    refine ⟨c, s, h, ⟨rfl, R, S⟩, Go.bind g fun v h1 c1 w e1 R1 rx g1 => ?_⟩
    dsimp only at g1
    cases q : items h1 v with
    | none => rw [q] at g1; exact g1.elim
    | some xs =>
      rw [q] at g1
      obtain ⟨a, ys, ew, hs, ry, _⟩ := R1.items rx q
      refine ⟨a, ys, ew, by rw [G.hK]; exact hs.symm, c1, s, h1, ⟨rfl, R1, S.ext e1⟩, Go.bind g1 fun vs h2 c2 zs e2 R2 rv g2 => ?_⟩
      exact go_val (RR := RVs M) R2 ((ry.ext e2).append rv) g2
theorem saS_cons {e : Expr} {es : List Expr} {m : E} {ms : List (Bool × E)} (hn : notStar e = true) (ha : PE X e (tEv M W (rc.e m))) (hb : PA X es (tEvA M W (evsS rc ms))) : PA X (e :: es) (tEvA M W (evsS rc ((false, m) :: ms))) :=
  PA.of (pa_cons ha hb (notStar_each hn)) fun σ H Q ⟨c, s, h, ⟨ee, R, S⟩, g⟩ => by
    subst ee
    refine ⟨c, s, h, ⟨rfl, R, S⟩, Go.bind g fun v h1 c1 w e1 R1 rx g1 => ⟨c1, s, h1, ⟨rfl, R1, S.ext e1⟩, Go.bind g1 fun vs h2 c2 zs e2 R2 rv g2 => ?_⟩⟩
    exact go_val (RR := RVs M) R2 (.cons (rx.ext e2) rv) g2
theorem saS_nil : PA X [] (tEvA M W (evsS rc [])) := PA.of pa_nil fun σ H Q ⟨c, s, hh, ⟨e, R, S⟩, g⟩ => by subst e; exact go_val (RR := RVs M) R .nil g
theorem se_tupS {es : List Expr} {j : Nat} {ms : List (Bool × E)} (ha : PA X es (tEvA M W (evsS rc ms))) : PE X (.Tuple es j pos) (tEv M W (stepE cl calls rc (.tupS ms))) :=
  PE.of (pe_tup ha) fun σ H Q ⟨c, s, hh, ⟨e, R, S⟩, g⟩ => by
    subst e
    refine ⟨c, s, hh, ⟨rfl, R, S⟩, Go.bind g fun vs h1 c1 ys e1 R1 rv g1 => ?_⟩
    cases q : Nat.ble vs.length line with
    | false => rw [q] at g1; exact g1.elim
    | true =>
      rw [q] at g1
      exact ⟨by rw [← rv.length, ← line_eq]; exact ble_true q, go_tup R1 rv g1⟩
end
end Ev

set_option Elab.async false
set_option linter.all false
set_option maxRecDepth 100000
set_option maxHeartbeats 2000000
/-! Statements, one construct at a time. -/
noncomputable section
namespace Ev
open PySem PySem.Spec PyProof.Rows L2
/-- from c, a statement's result -/
def GoS (M : Mo) (c : Cf) (r : RS) (D : Ends) (W : WX) : Prop := match r with
  | .ok f h => (match f with
    | .nx s => ∀ c' σ', Ext M c c' → RH M c' h → RSl M c' s σ' → D.nx σ' c'.H
    | .rt v => ∀ c' y, Ext M c c' → RH M c' h → RV M c' v y → D.rt y c'.H
    | .bk s => ∀ c' σ', Ext M c c' → RH M c' h → RSl M c' s σ' → D.bk σ' c'.H
    | .ct s => ∀ c' σ', Ext M c c' → RH M c' h → RSl M c' s σ' → D.ct σ' c'.H)
  | .exc k fs s h => ∀ c' cls d σ', Ext M c c' → RH M c' h → RSl M c' s σ' → RX M c' k fs cls d → W cls d σ' c'.H
  | .bad => False
def tEvS (M : Mo) (W : WX) (m : LSt → LHeap → RS) : TS := fun D σ H => ∃ c s h, At M c s h σ H ∧ GoS M c (m s h) D W
structure Gs (M : Mo) (X : Cx) (N : List Str) (sc : Scope) (k : Nat) (W : WX) : Prop where
  g : Gd M X N sc k W
  fl : FnP X sc isLoc
  po : PassesOwn (model X.prog X.w) X.A X.env X.xe
  st : X.stack = X.env :: X.outer
  fr : X.env.frame = some X.env.locals
section
variable {M : Mo} {X : Cx} {N : List Str} {sc : Scope} {k : Nat} {W : WX} {md : Md} {cl : Cl} {calls : Nat → List Val → LHeap → Res Val} {rc : Rec} {pos : Pos}
theorem PS.of {st : Stmt} {t t' : TS} (h : PS X st t) (hi : ∀ D σ H, t' D σ H → t D σ H) : PS X st t' := ⟨fun pins s σ H D I q => h.run pins s σ H D I (hi D σ H q)⟩
theorem PSs.of {st : List Stmt} {t t' : TS} (h : PSs X st t) (hi : ∀ D σ H, t' D σ H → t D σ H) : PSs X st t' := ⟨fun pins s σ H D I q => h.run pins s σ H D I (hi D σ H q)⟩
theorem PS.bad {st : Stmt} {m : LSt → LHeap → RS} (h : ∀ s hh, m s hh = .bad) : PS X st (tEvS M W m) := ⟨fun pins s σ H D I q => by
  obtain ⟨c, s, hh, a, g⟩ := q
  rw [h] at g
  exact g.elim⟩
theorem GoS.ext {c c1 : Cf} {r : RS} {D : Ends} (e : Ext M c c1) (g : GoS M c r D W) : GoS M c1 r D W := by
  cases r with
  | ok f h =>
    cases f with
    | nx s => exact fun c' σ' e' => g c' σ' (e.trans e')
    | rt v => exact fun c' y e' => g c' y (e.trans e')
    | bk s => exact fun c' σ' e' => g c' σ' (e.trans e')
    | ct s => exact fun c' σ' e' => g c' σ' (e.trans e')
  | exc kk fs s h => exact fun c' cls d σ' e' => g c' cls d σ' (e.trans e')
  | bad => exact g
/-- an expression ahead of a statement's end -/
theorem GoS.inS {α β : Type} {c : Cf} {σ : St} {RR : Cf → α → β → Prop} {r : Res α} {s : LSt} {kk : α → LHeap → RS} {D : Ends} {Q1 : β → Hp → Prop} (S : RSl M c s σ) (g : GoS M c (r.inS s kk) D W)
    (h1 : ∀ a h c1 b, Ext M c c1 → RH M c1 h → RR c1 a b → GoS M c1 (kk a h) D W → Q1 b c1.H) : Go M c RR r Q1 (fun cls d H' => W cls d σ H') := by
  cases r with
  | ok a h =>
    intro c1 b e R r
    exact h1 a h c1 b e R r (GoS.ext e (show GoS M c (kk a h) D W from g))
  | exc kk fs h => exact fun c' cls d e R x => g c' cls d σ e R (S.ext e) x
  | bad => exact g
theorem ss_nil : PSs X [] (tEvS M W (execs rc [])) := PSs.of pss_nil fun D σ H ⟨c, s, h, ⟨e, R, S⟩, g⟩ => by
  subst e
  exact g c σ (Ext.refl c) R S
theorem ss_cons {st : Stmt} {sts : List Stmt} {m : S} {ms : List S} (h1 : PS X st (tEvS M W (rc.s m))) (h2 : PSs X sts (tEvS M W (execs rc ms))) : PSs X (st :: sts) (tEvS M W (execs rc (m :: ms))) := PSs.of (pss_cons h1 h2) fun D σ H ⟨c, s, h, ⟨e, R, S⟩, g⟩ => by
  subst e
  refine ⟨c, s, h, ⟨rfl, R, S⟩, ?_⟩
  have g' : GoS M c (match rc.s m s h with
    | .ok (.nx s1) h1 => execs rc ms s1 h1
    | r => r) D W := g
  cases q : rc.s m s h with
  | ok f h1 =>
    rw [q] at g'
    cases f with
    | nx s1 => exact fun c1 σ1 e1 R1 S1 => ⟨c1, s1, h1, ⟨rfl, R1, S1⟩, GoS.ext e1 g'⟩
    | rt v => exact g'
    | bk s => exact g'
    | ct s => exact g'
  | exc kk fs s1 h1 => rw [q] at g'; exact g'
  | bad => rw [q] at g'; exact g'
theorem ss_pass : PS X (.Pass pos) (tEvS M W (stepS cl rc .pass)) := PS.of ps_pass fun D σ H ⟨c, s, h, ⟨e, R, S⟩, g⟩ => by subst e; exact g c σ (Ext.refl c) R S
theorem ss_brk : PS X (.Break pos) (tEvS M W (stepS cl rc .brk)) := PS.of ps_break fun D σ H ⟨c, s, h, ⟨e, R, S⟩, g⟩ => by subst e; exact g c σ (Ext.refl c) R S
theorem ss_cont : PS X (.Continue pos) (tEvS M W (stepS cl rc .cont)) := PS.of ps_continue fun D σ H ⟨c, s, h, ⟨e, R, S⟩, g⟩ => by subst e; exact g c σ (Ext.refl c) R S
theorem ss_doc {x : Str} {j : Nat} {p : Pos} : PS X (.Expr (.Constant (.str x) j p) pos) (tEvS M W (stepS cl rc .pass)) := PS.of ps_doc fun D σ H ⟨c, s, h, ⟨e, R, S⟩, g⟩ => by subst e; exact g c σ (Ext.refl c) R S
theorem ss_retN : PS X (.Return none pos) (tEvS M W (stepS cl rc .retN)) := PS.of ps_retN fun D σ H ⟨c, s, h, ⟨e, R, S⟩, g⟩ => by subst e; exact g c .non (Ext.refl c) R .non
theorem ss_ret {e : Expr} {m : E} (he : PE X e (tEv M W (rc.e m))) : PS X (.Return (some e) pos) (tEvS M W (stepS cl rc (.ret m))) := PS.of (ps_ret he) fun D σ H ⟨c, s, h, ⟨e, R, S⟩, g⟩ => by
  subst e
  exact ⟨c, s, h, ⟨rfl, R, S⟩, GoS.inS S g fun v h1 c1 y e1 R1 r g1 => g1 c1 y (Ext.refl c1) R1 r⟩
theorem notComp_swap {e : Expr} {tg : Option Expr} {n : Nat} {env : Env} (h : notComp e = true) : swapsWith e tg n env = pure false := by cases e <;> first | rfl | cases h
theorem ss_ex {e : Expr} {m : E} (hn : notComp e = true) (he : PE X e (tEv M W (rc.e m))) : PS X (.Expr e pos) (tEvS M W (stepS cl rc (.ex m))) := PS.of (ps_expr he (notComp_swap hn)) fun D σ H ⟨c, s, h, ⟨e, R, S⟩, g⟩ => by
  subst e
  exact ⟨c, s, h, ⟨rfl, R, S⟩, GoS.inS S g fun v h1 c1 y e1 R1 r g1 => g1 c1 σ (Ext.refl c1) R1 (S.ext e1)⟩
/-- what an assignment to a name reads -/
theorem set_read {i : Nat} {m : E} {D : Ends} {σ : St} {H : Hp} (h : tEvS M W (stepS cl rc (.set i m)) D σ H) : tAsg (tEv M W (rc.e m)) (gName i) D σ H := by
  obtain ⟨c, s, h, ⟨e, R, S⟩, g⟩ := h
  subst e
  exact ⟨c, s, h, ⟨rfl, R, S⟩, GoS.inS S g fun v h1 c1 y e1 R1 r g1 => g1 c1 _ (Ext.refl c1) R1 ((S.ext e1).set i r)⟩
theorem ss_set (G : Gs M X N sc k W) {x : Str} {p : Pos} {e : Expr} {i : Nat} {m : E} (hi : nthS N i x = true) (hl : isLoc (look sc.names x) = true) (he : PE X e (tEv M W (rc.e m))) (hs : swapsWith e (some (.Name x p)) pos.line X.env = pure false) :
    PS X (.Assign [.Name x p] e pos) (tEvS M W (stepS cl rc (.set i m))) :=
  PS.of (ps_set (i := i) (by rw [G.g.hN]; exact G.g.nd) (by rw [G.g.hN]; exact nthS_eq hi) (G.fl x hl).1 he hs (G.fl x hl).2) fun D σ H h => set_read h
theorem ss_setLc {st : Stmt} {i : Nat} {m : E} (h : PS X st (tAsg (tEv M W (rc.e m)) (gName i))) : PS X st (tEvS M W (stepS cl rc (.set i m))) := PS.of h fun D σ H h => set_read h
theorem nat_beq (a b : Nat) : (a == b) = Nat.beq a b := by
  cases h : Nat.beq a b with
  | true => rw [Nat.eq_of_beq_eq_true h]; simp
  | false => simp; exact Nat.ne_of_beq_eq_false h
/-- the compiler's turn of a comprehension and its name -/
def swB (sc scope : Scope) (t : Str) (l1 l2 : Nat) : Bool := isLc (look sc.names t) && Nat.beq l1 l2 && !(scope.names.any fun p => strEq p.1 t && isLoc (some p.2))
theorem swB_ok (G : Gd M X N sc k W) {el : Expr} {gs : List Comprehension} {scope : Scope} {t : Str} {p cp : Pos} {n : Nat} : swapsWith (.ListComp el gs scope cp) (some (.Name t p)) n X.env = pure (swB sc scope t p.line cp.line) := by
  show (pure (X.env.blockKind == .function && X.env.kindOf t == some .local && p.line == cp.line && !(scope.names.any fun (n, k) => n == t && (k == .local || k == .cell))) : Sem Bool) = _
  have hk : X.env.blockKind = .function := by unfold Env.blockKind; rw [G.hsc, G.kd]; rfl
  have e1 : (X.env.blockKind == ScopeKind.function) = true := by rw [hk]; rfl
  have e2 : (X.env.kindOf t == some NameKind.local) = isLc (look sc.names t) := by
    unfold Env.kindOf
    rw [G.hsc, look_eq]
    cases sc.names.lookup t with
    | none => rfl
    | some kd => cases kd <;> rfl
  have e3 : (p.line == cp.line) = Nat.beq p.line cp.line := nat_beq _ _
  have e4 : (scope.names.any fun (x : Str × NameKind) => x.1 == t && (x.2 == .local || x.2 == .cell)) = scope.names.any fun p => strEq p.1 t && isLoc (some p.2) := by
    congr 1
    funext ⟨x, kd⟩
    rw [strEq_beq]
    cases kd <;> rfl
  rw [e1, e2, e3]
  unfold swB
  rw [← e4]
  rfl
/-! ### targets of a tuple -/
theorem ss_unp (G : Gs M X N sc k W) {tg e : Expr} {is : List Nat} {m : E} (hg : ckTg N isLoc sc tg (.tup is) = true) (hn : notComp e = true) (he : PE X e (tEv M W (rc.e m))) (hw : swappedStores [tg] e X.env = pure none) : PS X (.Assign [tg] e pos) (tEvS M W (stepS cl rc (.unp is m))) := by
  have h1 : (assignEach [tg] X.env).map (·.2) = [assign tg X.env] := by
    cases tg <;> first | (cases hg; done) | rfl
  refine PS.of (ps_asg he (sg G.g G.fl hg) (notComp_swap hn) hw h1) fun D σ H ⟨c, s, h, ⟨e, R, S⟩, g⟩ => ?_
  subst e
  refine ⟨c, s, h, ⟨rfl, R, S⟩, GoS.inS S g fun v h1 c1 y e1 R1 r g1 => ?_⟩
  cases q : Tg.put (.tup is) v s with
  | none => rw [q] at g1; exact g1.elim
  | some s1 =>
    rw [q] at g1
    exact ⟨c1, s, v, s1, rfl, S.ext e1, r, q, fun σ1 S1 _ => g1 c1 σ1 (Ext.refl c1) R1 S1⟩
def notTup : Expr → Bool
  | .Tuple _ _ _ => false
  | _ => true
theorem swapped_notTup {tg e : Expr} {env : Env} (h : notTup e = true) : swappedStores [tg] e env = pure none := by
  cases tg <;> cases e <;> first | rfl | cases h
theorem swapped_folded {ts es : List Expr} {a b : Nat} {p q : Pos} {env : Env} (h : es.all (foldedForSure 8) = true) : swappedStores [.Tuple ts a p] (.Tuple es b q) env = pure none := by
  unfold swappedStores
  simp only [h, if_true]
  repeat (first | rfl | split)
def isStarE : Expr → Bool
  | .Starred _ _ => true
  | _ => false
theorem swapped_par (G : Gd M X N sc k W) {x y : Str} {px py pt p2 : Pos} {a b : Expr} {kt k2 : Nat} (hx : isLc (look sc.names x) = true) (hy : isLc (look sc.names y) = true) (hxy : strEq x y = false) (hp : Nat.beq py.line px.line = true) (ha : notStar a = true) (hb : notStar b = true)
    (hf : (foldedForSure 8 a && foldedForSure 8 b) = false) (hc : (constantsAlone 8 a && constantsAlone 8 b) = false) :
    swappedStores [.Tuple [.Name x px, .Name y py] kt pt] (.Tuple [a, b] k2 p2) X.env = pure (some [x, y]) := by
  have hk : X.env.blockKind = .function := by unfold Env.blockKind; rw [G.hsc, G.kd]; rfl
  have lc : ∀ {z : Str}, isLc (look sc.names z) = true → (X.env.kindOf z == some NameKind.local) = true := fun {z} h => by
    unfold Env.kindOf
    rw [G.hsc]
    rw [look_eq] at h
    cases e : sc.names.lookup z with
    | none => rw [e] at h; cases h
    | some kd => rw [e] at h; cases kd <;> first | rfl | cases h
  have sa : ∀ {e : Expr}, notStar e = true → (match e with | .Starred .. => true | _ => false) = false := fun {e} h => by cases e <;> first | rfl | cases h
  have hpe : (py.line == px.line) = true := by rw [nat_beq]; exact hp
  have hne : (x == y) = false := by rw [← strEq_beq]; exact hxy
  have hne' : (y == x) = false := by
    cases e : y == x with
    | false => rfl
    | true =>
      have := eq_of_beq e
      rw [this] at hne
      simp at hne
  have hst : ∀ f : Expr → Bool, (∀ e, notStar e = true → f e = false) → [a, b].any f = false := fun f hf => by
    rw [List.any_cons, List.any_cons, hf a ha, hf b hb]; rfl
  have hnm : ∀ f : Expr → Option Str, f (.Name x px) = some x → f (.Name y py) = some y → [Expr.Name x px, Expr.Name y py].filterMap f = [x, y] := fun f h1 h2 => by
    rw [List.filterMap_cons_some h1, List.filterMap_cons_some h2]; rfl
  have hdup : ([x, y].eraseDups.length != 2) = false := by
    simp [List.eraseDups_cons, hne']
  have hfo : [a, b].all (foldedForSure 8) = false := by simpa [List.all_cons] using hf
  have hco : [a, b].all (constantsAlone 8) = false := by simpa [List.all_cons] using hc
  unfold swappedStores
  dsimp only
  rw [if_neg (by rw [hk]; show ¬ (false = true); decide), if_neg (by rw [hst _ (fun e h => by cases e <;> first | rfl | cases h)]; decide)]
  rw [hnm _ (by show (if _ then _ else _) = _; rw [if_pos]; rw [lc hx]; simp; rfl) (by show (if _ then _ else _) = _; rw [if_pos]; rw [lc hy]; exact hpe)]
  rw [if_neg (by show ¬ ((false || ([x, y].eraseDups.length != 2)) = true); rw [hdup]; decide), if_neg (by rw [hfo]; decide), if_neg (by rw [hco]; decide)]
theorem ss_par (G : Gs M X N sc k W) {x y : Str} {px py pt p2 : Pos} {a b : Expr} {kt k2 i j : Nat} {ma mb : E} (hi : nthS N i x = true) (hj : nthS N j y = true) (hx : isLc (look sc.names x) = true) (hy : isLc (look sc.names y) = true) (hxy : strEq x y = false) (hp : Nat.beq py.line px.line = true) (ha : notStar a = true) (hb : notStar b = true)
    (hf : (foldedForSure 8 a && foldedForSure 8 b) = false) (hc : (constantsAlone 8 a && constantsAlone 8 b) = false) (pa : PE X a (tEv M W (rc.e ma))) (pb : PE X b (tEv M W (rc.e mb))) :
    PS X (.Assign [.Tuple [.Name x px, .Name y py] kt pt] (.Tuple [a, b] k2 p2) pos) (tEvS M W (stepS cl rc (.par i j ma mb))) := by
  have lc : ∀ {z : Str}, isLc (look sc.names z) = true → X.env.scope.names.lookup z = some .local := fun {z} h => by
    rw [G.g.hsc]
    rw [look_eq] at h
    cases e : sc.names.lookup z with
    | none => rw [e] at h; cases h
    | some kd => rw [e] at h; cases kd <;> first | rfl | cases h
  have hij : i ≠ j := fun z => by
    subst z
    have h1 := nthS_eq hi
    rw [nthS_eq hj] at h1
    have h2 := Option.some.inj h1
    rw [h2, strEq_iff.mpr rfl] at hxy
    cases hxy
  refine PS.of (ps_par (i := i) (j := j) G.g.calm (by rw [G.g.hN]; exact G.g.nd) (by rw [G.g.hN]; exact nthS_eq hi) (by rw [G.g.hN]; exact nthS_eq hj) hij (lc hx) (lc hy) (pa_cons pa (pa_cons pb pa_nil (notStar_each hb)) (notStar_each ha)) (swapped_par G.g hx hy hxy hp ha hb hf hc)) fun D σ H ⟨c, s, h, ⟨e, R, S⟩, g⟩ => ?_
  subst e
  refine ⟨c, s, h, ⟨rfl, R, S⟩, GoS.inS S g fun v h1 c1 y e1 R1 r g1 => ⟨c1, s, h1, ⟨rfl, R1, S.ext e1⟩, GoS.inS (S.ext e1) g1 fun u h2 c2 z e2 R2 r2 g2 => ⟨_, _, rfl, ?_⟩⟩⟩
  exact g2 c2 _ (Ext.refl c2) R2 ((((S.ext e1).ext e2).set i (r.ext e2)).set j r2)
theorem swapped_cell (G : Gd M X N sc k W) {ts es : List Expr} {a b : Nat} {p q : Pos} (h : ∃ x px, Expr.Name x px ∈ ts ∧ isLc (look sc.names x) = false) : swappedStores [.Tuple ts a p] (.Tuple es b q) X.env = pure none := by
  obtain ⟨x, px, hm, hl⟩ := h
  have nl : (X.env.kindOf x == some NameKind.local) = false := by
    unfold Env.kindOf
    rw [G.hsc]
    rw [look_eq] at hl
    cases e : sc.names.lookup x with
    | none => rfl
    | some kd => rw [e] at hl; cases kd <;> first | rfl | cases hl
  have short : ∀ (g : Expr → Option Str) (l : List Expr), Expr.Name x px ∈ l → g (.Name x px) = none → (l.filterMap g).length < l.length := by
    intro g l
    induction l with
    | nil => intro h; cases h
    | cons e l ih =>
      intro h hg
      rcases List.mem_cons.mp h with z | z
      · rw [← z, List.filterMap_cons_none hg, List.length_cons]
        exact Nat.lt_succ_of_le (List.length_filterMap_le _ _)
      · cases q : g e with
        | none => rw [List.filterMap_cons_none q, List.length_cons]; exact Nat.lt_succ_of_le (Nat.le_of_lt (ih z hg))
        | some y => rw [List.filterMap_cons_some q, List.length_cons, List.length_cons]; exact Nat.succ_lt_succ (ih z hg)
  unfold swappedStores
  dsimp only
  split
  · rfl
  · split
    · rfl
    · refine if_pos ?_
      · have := short (fun
          | .Name id pos => if X.env.kindOf id == some .local && pos.line == (ts.head?.map (·.pos.line)).getD 0 then some id else none
          | _ => none) ts hm (by dsimp only; rw [nl]; rfl)
        rw [Bool.or_eq_true]
        left
        exact bne_iff_ne.mpr (Nat.ne_of_lt this)
theorem swapped_par3 (G : Gd M X N sc k W) {x y z : Str} {px py pz pt p2 : Pos} {a b c : Expr} {kt k2 : Nat} (hx : isLc (look sc.names x) = true) (hy : isLc (look sc.names y) = true) (hz : isLc (look sc.names z) = true) (hxy : strEq x y = false) (hxz : strEq x z = false) (hyz : strEq y z = false) (hp : Nat.beq py.line px.line = true) (hp2 : Nat.beq pz.line px.line = true) (ha : notStar a = true) (hb : notStar b = true) (hc0 : notStar c = true)
    (hf : (foldedForSure 8 a && foldedForSure 8 b && foldedForSure 8 c) = false) (hc : (constantsAlone 8 a && constantsAlone 8 b && constantsAlone 8 c) = false) :
    swappedStores [.Tuple [.Name x px, .Name y py, .Name z pz] kt pt] (.Tuple [a, b, c] k2 p2) X.env = pure (some [x, y, z]) := by
  have hk : X.env.blockKind = .function := by unfold Env.blockKind; rw [G.hsc, G.kd]; rfl
  have lc : ∀ {z : Str}, isLc (look sc.names z) = true → (X.env.kindOf z == some NameKind.local) = true := fun {z} h => by
    unfold Env.kindOf
    rw [G.hsc]
    rw [look_eq] at h
    cases e : sc.names.lookup z with
    | none => rw [e] at h; cases h
    | some kd => rw [e] at h; cases kd <;> first | rfl | cases h
  have hpe : (py.line == px.line) = true := by rw [nat_beq]; exact hp
  have hpe2 : (pz.line == px.line) = true := by rw [nat_beq]; exact hp2
  have sy : ∀ {x y : Str}, strEq x y = false → (y == x) = false := fun {x y} h => by
    cases e : y == x with
    | false => rfl
    | true =>
      rw [eq_of_beq e, strEq_iff.mpr rfl] at h
      cases h
  have hst : ∀ f : Expr → Bool, (∀ e, notStar e = true → f e = false) → [a, b, c].any f = false := fun f hf => by
    rw [List.any_cons, List.any_cons, List.any_cons, hf a ha, hf b hb, hf c hc0]; rfl
  have hnm : ∀ f : Expr → Option Str, f (.Name x px) = some x → f (.Name y py) = some y → f (.Name z pz) = some z → [Expr.Name x px, Expr.Name y py, Expr.Name z pz].filterMap f = [x, y, z] := fun f h1 h2 h3 => by
    rw [List.filterMap_cons_some h1, List.filterMap_cons_some h2, List.filterMap_cons_some h3]; rfl
  have hdup : ([x, y, z].eraseDups.length != 3) = false := by
    simp [List.eraseDups_cons, sy hxy, sy hxz, sy hyz]
  have hfo : [a, b, c].all (foldedForSure 8) = false := by simpa [List.all_cons, Bool.and_assoc] using hf
  have hco : [a, b, c].all (constantsAlone 8) = false := by simpa [List.all_cons, Bool.and_assoc] using hc
  unfold swappedStores
  dsimp only
  rw [if_neg (by rw [hk]; show ¬ (false = true); decide), if_neg (by rw [hst _ (fun e h => by cases e <;> first | rfl | cases h)]; decide)]
  rw [hnm _ (by show (if _ then _ else _) = _; rw [if_pos]; rw [lc hx]; simp; rfl) (by show (if _ then _ else _) = _; rw [if_pos]; rw [lc hy]; exact hpe) (by show (if _ then _ else _) = _; rw [if_pos]; rw [lc hz]; exact hpe2)]
  rw [if_neg (by show ¬ ((false || ([x, y, z].eraseDups.length != 3)) = true); rw [hdup]; decide), if_neg (by rw [hfo]; decide), if_neg (by rw [hco]; decide)]
theorem ss_par3 (G : Gs M X N sc k W) {x y z : Str} {px py pz pt p2 : Pos} {a b c : Expr} {kt k2 i j l : Nat} {ma mb mc : E} (hi : nthS N i x = true) (hj : nthS N j y = true) (hl : nthS N l z = true) (hx : isLc (look sc.names x) = true) (hy : isLc (look sc.names y) = true) (hz : isLc (look sc.names z) = true) (hxy : strEq x y = false) (hxz : strEq x z = false) (hyz : strEq y z = false) (hp : Nat.beq py.line px.line = true) (hp2 : Nat.beq pz.line px.line = true) (ha : notStar a = true) (hb : notStar b = true) (hc0 : notStar c = true)
    (hf : (foldedForSure 8 a && foldedForSure 8 b && foldedForSure 8 c) = false) (hc : (constantsAlone 8 a && constantsAlone 8 b && constantsAlone 8 c) = false) (pa : PE X a (tEv M W (rc.e ma))) (pb : PE X b (tEv M W (rc.e mb))) (pc : PE X c (tEv M W (rc.e mc))) :
    PS X (.Assign [.Tuple [.Name x px, .Name y py, .Name z pz] kt pt] (.Tuple [a, b, c] k2 p2) pos) (tEvS M W (stepS cl rc (.par3 i j l ma mb mc))) := by
  have lc : ∀ {z : Str}, isLc (look sc.names z) = true → X.env.scope.names.lookup z = some .local := fun {z} h => by
    rw [G.g.hsc]
    rw [look_eq] at h
    cases e : sc.names.lookup z with
    | none => rw [e] at h; cases h
    | some kd => rw [e] at h; cases kd <;> first | rfl | cases h
  have ne : ∀ {x y : Str} {i j : Nat}, nthS N i x = true → nthS N j y = true → strEq x y = false → i ≠ j := fun {x y i j} hi hj hxy z => by
    subst z
    have h1 := nthS_eq hi
    rw [nthS_eq hj] at h1
    rw [Option.some.inj h1, strEq_iff.mpr rfl] at hxy
    cases hxy
  refine PS.of (ps_par3 (i := i) (j := j) (l := l) G.g.calm (by rw [G.g.hN]; exact G.g.nd) (by rw [G.g.hN]; exact nthS_eq hi) (by rw [G.g.hN]; exact nthS_eq hj) (by rw [G.g.hN]; exact nthS_eq hl) (ne hi hj hxy) (ne hi hl hxz) (ne hj hl hyz) (lc hx) (lc hy) (lc hz) (pa_cons pa (pa_cons pb (pa_cons pc pa_nil (notStar_each hc0)) (notStar_each hb)) (notStar_each ha)) (swapped_par3 G.g hx hy hz hxy hxz hyz hp hp2 ha hb hc0 hf hc)) fun D σ H ⟨c, s, h, ⟨e, R, S⟩, g⟩ => ?_
  subst e
  refine ⟨c, s, h, ⟨rfl, R, S⟩, GoS.inS S g fun v h1 c1 y e1 R1 r g1 => ⟨c1, s, h1, ⟨rfl, R1, S.ext e1⟩, GoS.inS (S.ext e1) g1 fun u h2 c2 z e2 R2 r2 g2 => ⟨c2, s, h2, ⟨rfl, R2, (S.ext e1).ext e2⟩, GoS.inS ((S.ext e1).ext e2) g2 fun w h3 c3 zz e3 R3 r3 g3 => ⟨_, _, _, rfl, ?_⟩⟩⟩⟩
  exact g3 c3 _ (Ext.refl c3) R3 ((((((S.ext e1).ext e2).ext e3).set i ((r.ext e2).ext e3)).set j (r2.ext e3)).set l r3)
theorem ss_ife {ce : Expr} {as bs : List Stmt} {mc : E} {ma mb : List S} (hc : PT X ce (tEvT M W (rc.t mc))) (ha : PSs X as (tEvS M W (execs rc ma))) (hb : PSs X bs (tEvS M W (execs rc mb))) : PS X (.If ce as bs pos) (tEvS M W (stepS cl rc (.ife mc ma mb))) :=
  PS.of (ps_if hc ha hb) fun D σ H ⟨c, s, h, ⟨e, R, S⟩, g⟩ => by
    subst e
    refine ⟨c, s, h, ⟨rfl, R, S⟩, GoS.inS S g fun b h1 c1 b' e1 R1 r g1 => ?_⟩
    subst r
    cases b with
    | true => exact ⟨c1, s, h1, ⟨rfl, R1, S.ext e1⟩, g1⟩
    | false => exact ⟨c1, s, h1, ⟨rfl, R1, S.ext e1⟩, g1⟩
/-! ### d[k] = v -/
theorem go_store_dK {l : Nat} {xs : List (Key × Val)} {ys : List (Key × V)} {c : Cf} {h : LHeap} {σ : St} {s : LSt} {D : Ends} {o : LObj} (R : RH M c h) (S : RSl M c s σ) (e : h.get l = some o) (mo : o.mut = true) (lo : Loose (c.H (c.r l))) (r : RK Key M c xs ys)
    (g : GoS M c ((store l (.dK xs) h ()).inS s fun _ h4 => .ok (.nx s) h4) D W) : D.nx σ (upd c.H (c.r l) (.dK ys)) := by
  unfold store at g
  have ex : Ext M c (c.upd (c.r l) (.dK ys)) := Cf.upd_ext lo (.inr ⟨l, by rw [R.n]; exact LHeap.get_lt e, R.mn l o e mo, rfl⟩)
  exact g (c.upd (c.r l) (.dK ys)) σ ex (R.put e mo rfl lo (.dK upd_same (r.ext ex))) (S.ext ex)
theorem go_store_dT {l : Nat} {xs : List (List Key × Val)} {ys : List (List Key × V)} {c : Cf} {h : LHeap} {σ : St} {s : LSt} {D : Ends} {o : LObj} (R : RH M c h) (S : RSl M c s σ) (e : h.get l = some o) (mo : o.mut = true) (lo : Loose (c.H (c.r l))) (r : RK (List Key) M c xs ys)
    (g : GoS M c ((store l (.dT xs) h ()).inS s fun _ h4 => .ok (.nx s) h4) D W) : D.nx σ (upd c.H (c.r l) (.dT ys)) := by
  unfold store at g
  have ex : Ext M c (c.upd (c.r l) (.dT ys)) := Cf.upd_ext lo (.inr ⟨l, by rw [R.n]; exact LHeap.get_lt e, R.mn l o e mo, rfl⟩)
  exact g (c.upd (c.r l) (.dT ys)) σ ex (R.put e mo rfl lo (.dT upd_same (r.ext ex))) (S.ext ex)
theorem ss_put (G : Gs M X N sc k W) {o i e : Expr} {p : Pos} {mo mi me : E} (hn : notComp e = true) (ho : PE X o (tEv M W (rc.e mo))) (hi : PE X i (tEv M W (rc.e mi))) (he : PE X e (tEv M W (rc.e me))) :
    PS X (.Assign [.Subscript o i p] e pos) (tEvS M W (stepS cl rc (.put mo mi me))) := by
  have hu : X.A.units + 1 < cLine := by have := G.g.un; omega
  refine PS.of (ps_dput hu ho hi he (notComp_swap hn)) fun D σ H ⟨c, s, h, ⟨e, R, S⟩, g⟩ => ?_
  subst e
  refine ⟨c, s, h, ⟨rfl, R, S⟩, GoS.inS S g fun v h1 c1 y1 e1 R1 r1 g1 => ⟨c1, s, h1, ⟨rfl, R1, S.ext e1⟩, GoS.inS (S.ext e1) g1 fun x h2 c2 y2 e2 R2 r2 g2 => ⟨c2, s, h2, ⟨rfl, R2, (S.ext e1).ext e2⟩, GoS.inS ((S.ext e1).ext e2) g2 fun y h3 c3 y3 e3 R3 r3 g3 => ?_⟩⟩⟩
  have S3 := ((S.ext e1).ext e2).ext e3
  have rx := r2.ext e3
  have rv := (r1.ext e2).ext e3
  cases rx with
  | @ref l hl =>
    have g4 := g3
    dsimp only at g4
    cases q : h3.get l with
    | none => rw [q] at g4; exact g4.elim
    | some ob =>
      rw [q] at g4
      cases ob with
      | dK kvs =>
        dsimp only at g4
        obtain ⟨ys, hy, rk⟩ := R3.dK q
        cases qk : keyOf y with
        | none => rw [qk] at g4; exact g4.elim
        | some kk =>
          rw [qk] at g4
          cases ql : Nat.blt kvs.length line with
          | false => rw [ql] at g4; exact g4.elim
          | true =>
            rw [ql] at g4
            have hz := keyOf_rv r3 qk
            subst hz
            exact ⟨_, _, rfl, .k hy (by rw [← rk.length, ← line_eq]; exact blt_true ql), go_store_dK R3 S3 q rfl (by rw [hy]; exact True.intro) (putKV_rv rv rk) g4⟩
      | dT kvs =>
        dsimp only at g4
        obtain ⟨ys, hy, rk⟩ := R3.dT q
        cases r3 with
        | @tup us a zs ht rr =>
          dsimp only at g4
          cases qk : keysOf us with
          | none => rw [qk] at g4; exact g4.elim
          | some kk =>
            rw [qk] at g4
            cases ql : Nat.blt kvs.length line with
            | false => rw [ql] at g4; exact g4.elim
            | true =>
              rw [ql] at g4
              have hz := keysOf_rv rr qk
              subst hz
              exact ⟨_, _, rfl, .t hy ht (by rw [← rk.length, ← line_eq]; exact blt_true ql), go_store_dT R3 S3 q rfl (by rw [hy]; exact True.intro) (putTV_rv rv rk) g4⟩
        | _ => exact g4.elim
      | _ => exact g4.elim
  | _ => exact g3.elim
/-! ### o.f = e -/
theorem swaps_attr {e o : Expr} {f : Str} {p : Pos} {n : Nat} {env : Env} : swapsWith e (some (.Attribute o f p)) n env = pure false := by cases e <;> rfl
theorem ss_setf (G : Gs M X N sc k W) (D : InsOk M cl) {o e : Expr} {f : Str} {p : Pos} {mo me : E} (ho : PE X o (tEv M W (rc.e mo))) (he : PE X e (tEv M W (rc.e me))) : PS X (.Assign [.Attribute o f p] e pos) (tEvS M W (stepS cl rc (.setf mo f me))) :=
  PS.of (ps_fld ho he swaps_attr) fun D' σ H ⟨c, s, h, ⟨ee, R, S⟩, g⟩ => by
    subst ee
    refine ⟨c, s, h, ⟨rfl, R, S⟩, GoS.inS S g fun v h1 c1 y e1 R1 r g1 => ⟨c1, s, h1, ⟨rfl, R1, S.ext e1⟩, GoS.inS (S.ext e1) g1 fun x h2 c2 w e2 R2 rx g2 => ?_⟩⟩
    cases rx with
    | @ref l hl =>
      dsimp only at g2
      cases q : h2.get l with
      | none => rw [q] at g2; exact g2.elim
      | some ob =>
        rw [q] at g2
        cases ob with
        | ins kc fs =>
          dsimp only at g2
          cases qi : inS f (cl.flds kc) && Nat.blt fs.length 1000 with
          | false => rw [qi] at g2; exact g2.elim
          | true =>
            rw [qi] at g2
            rw [Bool.and_eq_true] at qi
            obtain ⟨dx, gs, hh, rf⟩ := R2.ins q
            obtain ⟨C1, C2⟩ := D kc f qi.1
            have lo : Loose (c2.H (c2.r l)) := by rw [hh]; exact True.intro
            have ex : Ext M c2 (c2.upd (c2.r l) (.ins (M.cb kc) dx (putF f y gs))) := Cf.upd_ext lo (.inr ⟨l, hl, R2.mn l _ q rfl, rfl⟩)
            refine ⟨c2.r l, M.cb kc, dx, gs, rfl, hh, by rw [G.g.hK]; exact C1, by rw [G.g.hK]; exact C2, by rw [← rf.length]; exact blt_true qi.2, ?_⟩
            exact g2 (c2.upd (c2.r l) (.ins (M.cb kc) dx (putF f y gs))) σ ex (R2.put q rfl rfl lo (.ins upd_same (putFV_rv ((r.ext e2).ext ex) (rf.ext ex)))) (((S.ext e1).ext e2).ext ex)
        | _ => exact g2.elim
    | _ => exact g2.elim
end
end Ev

set_option Elab.async false
set_option linter.all false
set_option maxRecDepth 100000
set_option maxHeartbeats 2000000
/-! Loops. -/
noncomputable section
namespace Ev
open PySem PySem.Spec PyProof.Rows L2
section
variable {M : Mo} {X : Cx} {N : List Str} {sc : Scope} {k : Nat} {W : WX} {md : Md} {cl : Cl} {calls : Nat → List Val → LHeap → Res Val} {rc : Rec} {pos : Pos}
def loopRest (f : Val → LSt → LHeap → RS) (src : Src) (m i : Nat) (s : LSt) (h : LHeap) (r : RS) : Prop := match src with
  | .st xs => (xs.drop i).length = m ∧ r = loopSt f (xs.drop i) s h
  | src => r = loopDyn f src m i s h
theorem loopRest_start (f : Val → LSt → LHeap → RS) (src : Src) (s : LSt) (h : LHeap) : ∃ m, loopRest f src m 0 s h (loopAll f src s h) := by
  cases src with
  | st xs => exact ⟨_, rfl, rfl⟩
  | dyn l => exact ⟨_, rfl⟩
  | dynE l => exact ⟨_, rfl⟩
  | dynZ l k => exact ⟨_, rfl⟩
theorem loopDyn_step {f : Val → LSt → LHeap → RS} {src : Src} {m i : Nat} {s : LSt} {h : LHeap} (hb : loopDyn f src m i s h ≠ .bad) :
    (itemAt src i h = some none ∧ loopDyn f src m i s h = .ok (.nx s) h) ∨ ∃ x m', itemAt src i h = some (some x) ∧ m' < m ∧ loopDyn f src m i s h = turn (f x s h) (loopDyn f src m' (i + 1)) := by
  cases m with
  | zero => exact absurd rfl hb
  | succ m =>
    unfold loopDyn at hb ⊢
    cases q : itemAt src i h with
    | none => rw [q] at hb; exact absurd rfl hb
    | some o =>
      cases o with
      | none => exact .inl ⟨rfl, rfl⟩
      | some x => exact .inr ⟨x, m, rfl, Nat.lt_succ_self m, rfl⟩
theorem loopRest_step {f : Val → LSt → LHeap → RS} {src : Src} {m i : Nat} {s : LSt} {h : LHeap} {r : RS} (hr : loopRest f src m i s h r) (hb : r ≠ .bad) :
    (itemAt src i h = some none ∧ r = .ok (.nx s) h) ∨ ∃ x m' kk, itemAt src i h = some (some x) ∧ m' < m ∧ r = turn (f x s h) kk ∧ ∀ s1 h1, loopRest f src m' (i + 1) s1 h1 (kk s1 h1) := by
  cases src with
  | st xs =>
    obtain ⟨hm, e⟩ := hr
    cases q : xs.drop i with
    | nil =>
      rw [q] at e
      exact .inl ⟨congrArg some (drop_nth0 q), e⟩
    | cons x ys =>
      rw [q] at e hm
      obtain ⟨hx, hd⟩ := drop_nth q
      refine .inr ⟨x, ys.length, loopSt f ys, congrArg some hx, by rw [← hm]; exact Nat.lt_succ_self _, e, fun s1 h1 => ⟨by rw [hd], by rw [hd]⟩⟩
  | dyn l =>
    have e : r = loopDyn f (.dyn l) m i s h := hr
    subst e
    rcases loopDyn_step hb with z | ⟨x, m', a, b, c⟩
    · exact .inl z
    · exact .inr ⟨x, m', _, a, b, c, fun _ _ => rfl⟩
  | dynZ l k =>
    have e : r = loopDyn f (.dynZ l k) m i s h := hr
    subst e
    rcases loopDyn_step hb with z | ⟨x, m', a, b, c⟩
    · exact .inl z
    · exact .inr ⟨x, m', _, a, b, c, fun _ _ => rfl⟩
  | dynE l =>
    have e : r = loopDyn f (.dynE l) m i s h := hr
    subst e
    rcases loopDyn_step hb with z | ⟨x, m', a, b, c⟩
    · exact .inl z
    · exact .inr ⟨x, m', _, a, b, c, fun _ _ => rfl⟩
theorem GoS.nbad {c : Cf} {r : RS} {D : Ends} (g : GoS M c r D W) : r ≠ .bad := fun e => by rw [e] at g; exact g
/-- a turn's end -/
theorem GoS.turn {c : Cf} {r : RS} {kk : LSt → LHeap → RS} {D : Ends} {Nx : St → Hp → Prop} (g : GoS M c (turn r kk) D W) (h : ∀ s h1 c1 σ1, Ext M c c1 → RH M c1 h1 → RSl M c1 s σ1 → GoS M c1 (kk s h1) D W → Nx σ1 c1.H) :
    GoS M c r { D with nx := Nx, ct := Nx, bk := D.nx } W := by
  cases r with
  | ok f h1 =>
    cases f with
    | nx s => exact fun c1 σ1 e1 R1 S1 => h s h1 c1 σ1 e1 R1 S1 (GoS.ext e1 (show GoS M c (kk s h1) D W from g))
    | ct s => exact fun c1 σ1 e1 R1 S1 => h s h1 c1 σ1 e1 R1 S1 (GoS.ext e1 (show GoS M c (kk s h1) D W from g))
    | bk s => exact g
    | rt v => exact g
  | exc kk fs s h1 => exact g
  | bad => exact g
theorem ss_loop (G : Gs M X N sc k W) {t i : Expr} {body : List Stmt} {tg : Tg} {it : It} {mb : List S} (hi : PI X t i (tEvI M W (evIt rc it))) (hg : ckTg N isLoc sc t tg = true) (hb : PSs X body (tEvS M W (execs rc mb))) (hs : ∀ x, foldedSetIterable i X.env x = pure x) :
    PS X (.For t i body [] pos) (tEvS M W (stepS cl rc (.loop tg it mb))) := by
  refine PS.of (ps_for G.po G.g.calm hi (sg G.g G.fl hg) hb hs) fun D σ H ⟨c, s, h, ⟨e, R, S⟩, g⟩ => ?_
  subst e
  refine ⟨c, s, h, ⟨rfl, R, S⟩, GoS.inS S g fun src h1 c1 J e1 R1 hJ g1 => ?_⟩
  obtain ⟨m0, hm0⟩ := loopRest_start (loopOne rc tg mb) src s h1
  refine ⟨fun i m σ H => ∃ c' s' h' r, c'.H = H ∧ Ext M c1 c' ∧ RH M c' h' ∧ RSl M c' s' σ ∧ loopRest (loopOne rc tg mb) src m i s' h' r ∧ GoS M c' r D W, ⟨m0, c1, s, h1, _, rfl, Ext.refl c1, R1, S.ext e1, hm0, g1⟩, fun i m σ H w => ?_⟩
  obtain ⟨c', s', h', r, rfl, e', R', S', hr, g'⟩ := w
  rcases loopRest_step hr g'.nbad with ⟨ei, rfl⟩ | ⟨x, m', kk, ei, hm, rfl, hk⟩
  · exact .inl ⟨(hJ c' h' i e'.x R').2 ei, g' c' σ (Ext.refl c') R' S'⟩
  · obtain ⟨go, yl⟩ := (hJ c' h' i e'.x R').1 x ei
    refine .inr ⟨go, fun σ H => ∃ m', m' < m ∧ ∃ c' s' h' r, c'.H = H ∧ Ext M c1 c' ∧ RH M c' h' ∧ RSl M c' s' σ ∧ loopRest (loopOne rc tg mb) src m' (i + 1) s' h' r ∧ GoS M c' r D W, fun _ _ z => z, fun y H3 yy => ?_⟩
    obtain ⟨c3, rfl, e3, R3, ry, _⟩ := yl y H3 yy
    have g3 := GoS.ext e3 g'
    unfold loopOne at g3
    cases qp : tg.put x s' with
    | none => rw [qp] at g3; exact g3.elim
    | some s2 =>
      rw [qp] at g3
      exact ⟨c3, s', x, s2, rfl, S'.ext e3, ry, qp, fun σ2 S2 _ => ⟨c3, s2, h', ⟨rfl, R3, S2⟩, GoS.turn g3 fun s4 h4 c4 σ4 e4 R4 S4 g4 => ⟨m', hm, c4, s4, h4, _, rfl, (e'.trans e3).trans e4, R4, S4, hk s4 h4, g4⟩⟩⟩
/-! ### while -/
theorem PT.ex {ι : Type} {e : Expr} {t : ι → TT} (h : ∀ i, PT X e (t i)) : PT X e (fun σ H Q => ∃ i, t i σ H Q) := ⟨fun pins s σ H Q I ⟨i, q⟩ => (h i).run pins s σ H Q I q⟩
theorem PSs.ex {ι : Type} {st : List Stmt} {t : ι → TS} (h : ∀ i, PSs X st (t i)) : PSs X st (fun D σ H => ∃ i, t i D σ H) := ⟨fun pins s σ H D I ⟨i, q⟩ => (h i).run pins s σ H D I q⟩
theorem ss_whl (G : Gs M X N sc k W) {n : Nat} {ce : Expr} {body : List Stmt} {mc : E} {mb : List S} (hc : ∀ m, m < n → PT X ce (tEvT M W ((rec cl calls m).t mc))) (hb : ∀ m, m < n → PSs X body (tEvS M W (execs (rec cl calls m) mb))) :
    PS X (.While ce body [] pos) (tEvS M W (stepS cl (rec cl calls n) (.whl mc mb))) := by
  refine PS.of (ps_while G.po (PT.ex (ι := { m : Nat // m < n }) fun m => hc m.1 m.2) (PSs.ex (ι := { m : Nat // m < n }) fun m => hb m.1 m.2)) fun D σ H ⟨c, s, h, ⟨e, R, S⟩, g⟩ => ?_
  subst e
  have g : GoS M c ((rec cl calls n).w mc mb s h) D W := g
  refine ⟨fun m σ H => m ≤ n ∧ ∃ c' s' h', c'.H = H ∧ RH M c' h' ∧ RSl M c' s' σ ∧ GoS M c' ((rec cl calls m).w mc mb s' h') D W, ⟨n, Nat.le_refl n, c, s, h, rfl, R, S, g⟩, fun m σ H w => ?_⟩
  obtain ⟨hm, c', s', h', rfl, R', S', g'⟩ := w
  cases m with
  | zero => exact g'.elim
  | succ m =>
    have g' : GoS M c' (((rec cl calls m).t mc s' h').inS s' fun k h1 => match k with
      | true => turn (execs (rec cl calls m) mb s' h1) ((rec cl calls m).w mc mb)
      | false => .ok (.nx s') h1) D W := g'
    refine ⟨⟨m, hm⟩, c', s', h', ⟨rfl, R', S'⟩, GoS.inS S' g' fun b h1 c1 b' e1 R1 r g1 => ?_⟩
    subst r
    cases b with
    | false => exact g1 c1 σ (Ext.refl c1) R1 (S'.ext e1)
    | true =>
      refine ⟨fun σ H => m ≤ n ∧ ∃ c' s' h', c'.H = H ∧ RH M c' h' ∧ RSl M c' s' σ ∧ GoS M c' ((rec cl calls m).w mc mb s' h') D W, fun _ _ z => ⟨m, Nat.lt_succ_self m, z⟩, ⟨m, hm⟩, c1, s', h1, ⟨rfl, R1, S'.ext e1⟩, ?_⟩
      exact GoS.turn g1 fun s4 h4 c4 σ4 e4 R4 S4 g4 => ⟨Nat.le_of_succ_le hm, c4, s4, h4, rfl, R4, S4, g4⟩
end
end Ev

set_option Elab.async false
set_option linter.all false
set_option maxRecDepth 100000
set_option maxHeartbeats 2000000
/-! How a plain def's arguments bind; exceptions with an own __init__. -/
noncomputable section
namespace Ev
open PySem PySem.Spec PyProof.Rows L2
theorem zip_has {k : Str} : ∀ {ks : List Str} {us : List Value}, k ∈ ks → us.length = ks.length → ((ks.zip us).lookup k).isSome = true
  | [], _, h, _ => by cases h
  | a :: ks, [], _, e => by cases e
  | a :: ks, u :: us, h, e => by
    rw [List.zip_cons_cons, List.lookup_cons]
    cases q : k == a with
    | true => rfl
    | false =>
      rcases List.mem_cons.mp h with z | z
      · rw [z] at q; simp at q
      · exact zip_has z (by simpa using e)
theorem zip_all : ∀ (ks : List Str) (us : List Value), ks.Nodup → us.length = ks.length → (ks.filterMap fun n => ((ks.zip us).lookup n).map fun v => (n, v)) = ks.zip us := by
  intro ks us nd hl
  have key : ∀ (pre : List Str) (ps : List Value) (ks : List Str) (us : List Value), pre.length = ps.length → us.length = ks.length → (pre ++ ks).Nodup → (ks.filterMap fun n => (((pre ++ ks).zip (ps ++ us)).lookup n).map fun v => (n, v)) = ks.zip us := by
    intro pre ps ks
    induction ks generalizing pre ps with
    | nil => intro us _ _ _; simp
    | cons k ks ih =>
      intro us hp hl nd
      cases us with
      | nil => cases hl
      | cons u us =>
        have e : pre ++ k :: ks = (pre ++ [k]) ++ ks := by simp
        have e2 : ps ++ u :: us = (ps ++ [u]) ++ us := by simp
        have hk : ((pre ++ k :: ks).zip (ps ++ u :: us)).lookup k = some u := by
          have nk : k ∉ pre := by
            intro hk
            have := (List.nodup_append.mp nd).2.2 k hk k (by simp)
            exact this rfl
          have : ∀ (pre : List Str) (ps : List Value), pre.length = ps.length → k ∉ pre → ((pre ++ k :: ks).zip (ps ++ u :: us)).lookup k = some u := by
            intro pre
            induction pre with
            | nil => intro ps hp _; cases ps with
              | nil => simp
              | cons _ _ => cases hp
            | cons a pre ih2 => intro ps hp hk; cases ps with
              | nil => cases hp
              | cons p ps =>
                rw [List.cons_append, List.cons_append, List.zip_cons_cons, List.lookup_cons]
                have : (k == a) = false := by simp at hk ⊢; exact fun z => hk.1 z
                rw [this]
                exact ih2 ps (by simpa using hp) (fun z => hk (List.mem_cons_of_mem _ z))
          exact this pre ps hp nk
        rw [List.filterMap_cons_some (b := (k, u)) (by rw [hk]; rfl), List.zip_cons_cons]
        congr 1
        rw [e, e2]
        exact ih (pre ++ [k]) (ps ++ [u]) us (by simp [hp]) (by simpa using hl) (by rw [← e]; exact nd)
  exact key [] [] ks us rfl hl nd
theorem bind_plain (fd : FuncData) (us : List Value) (h1 : fd.params.posonlyargs = []) (h2 : fd.params.kwonlyargs = []) (h3 : fd.params.vararg = none) (h4 : fd.params.kwarg = none) (h5 : fd.defaults = .none) (hl : us.length = fd.params.args.length) (nd : (fd.params.args.map (·.arg)).Nodup) :
    bindArgs fd ⟨us, []⟩ = pure ((fd.params.args.map (·.arg)).zip us) := by
  have hm : ((fd.params.args.map (·.arg)).filter fun n => (((fd.params.args.map (·.arg)).zip us).lookup n).isNone) = [] := by
    rw [List.filter_eq_nil_iff]
    intro a ha
    have := zip_has (us := us) ha (by simpa using hl)
    cases q : ((fd.params.args.map (·.arg)).zip us).lookup a with
    | none => rw [q] at this; cases this
    | some v => simp
  have hf := zip_all (fd.params.args.map (·.arg)) us nd (by simpa using hl)
  have hsq : seqItems? .none = (pure none : Sem (Option (Array Value))) := rfl
  unfold bindArgs
  simp only [h1, h2, h3, h4, h5, hsq, List.map_nil, List.nil_append, List.append_nil, List.length_map, hl, List.forIn_nil, pure_bind, Option.getD_none, List.drop_nil, List.length_nil, Nat.sub_zero, List.zip_nil_right, gt_iff_lt, Nat.lt_irrefl, decide_false, Bool.false_and, Bool.false_eq_true, if_false, Option.isNone_none]
  have ht : List.take fd.params.args.length (fd.params.args.map (·.arg)) = fd.params.args.map (·.arg) := List.take_of_length_le (by simp)
  rw [if_neg (by rw [ht, hm]; decide), if_neg (by decide), hf]
section
open PySem.W PySem.HandSPX Builtin Builtin.ObjectAttr
variable {prog : Program} {w : World} {A : Around} {E : Value → Shared → Prop} {R : Result → Shared → Prop} {hp : Heap} {g : Array GenState} {d : Drawn} {t : Nat} {os : OsState}
/-- a first field of an exception, whatever its base -/
theorem fld_first {K : W.Frag} {B : String} {bmB : List Value} {name : Str} {v : Value} {x C : Addr} {fv : Array Value} {cd : ClassData} {Q : Unit → Shared → Prop} (SF : StoreFacts B bmB "object.__setattr__" "object")
    (X : K.In hp) (hx : hp.get? x = some { cls := .ref C, data := .fields fv }) (hcd : W.clsIn K C = some cd) (ho : excOver K C bmB = true) (hh : cd.hasDict = true) (ha : W.findIn K (.ref C) name = some none)
    (sa : W.findIn K (.ref C) "__setattr__" = some (some (.builtin "object.__setattr__")))
    (hq : ∀ h' tk' dx, (∀ b o, b ≠ x → hp.get? b = some o → h'.get? b = some o) → hp.objs.size ≤ dx → dx ≠ x → h'.get? x = some { cls := .ref C, dict := some dx, data := .fields fv } →
      h'.Ns1 dx (fun y => if y = name then some v else none) → Q () ⟨h', g, d, tk', os⟩) : wpAny (model prog w) A (setAttr (.ref x) name v) Q E ⟨hp, g, d, t, os⟩ := by
  have I : W.InstAt hp x { cls := .ref C, data := .fields fv } C none := ⟨hx, rfl, rfl, trivial⟩
  have hxs : x ≠ hp.objs.size := Nat.ne_of_lt (Heap.lt_size hx)
  have hcls : W.Looks (model prog w) hp (classData C) cd := W.looks_clsIn X hcd
  refine W.set_plain X I sa (osa_openX SF X I ho (r := none) (by unfold takerIn; rw [ha]; rfl) fun b => ?_)
  show wpAny _ _ (storeInOwnDict (.ref x) (.ref C) (.str name t) name v b) _ _ _
  obtain ⟨nm, bs, mro, ns, qn, hd, sn, sb, ab, col, del⟩ := cd
  dsimp only at hh
  subst hh
  unfold storeInOwnDict ownDictForStores
  repeat (first | with_reducible refine store_in_new ?_ ?_ | with_reducible refine wpAny_loadPart_at hx ?_ | with_reducible refine hcls.at ?_ | wp_step)
  · exact ⟨_, #[], _, (Heap.get?_update_ne _ _ _ _ hxs.symm).trans (Heap.get?_push_at rfl rfl), rfl, fun e he => absurd he (by simp), fun _ => rfl⟩
  · intro h' tk' hn' hs
    have hx₁ : (hp.push { cls := .type "dict", data := .dict #[] }).get? x = some { cls := .ref C, data := .fields fv } := Heap.get?_push_of_some _ hx
    exact hq h' tk' hp.objs.size (fun b o hb ho => (hs.2 b (Nat.ne_of_lt (Heap.lt_size ho))).trans ((Heap.get?_update_ne _ _ _ _ hb).trans (Heap.get?_push_of_some _ ho))) (Nat.le_refl _) hxs.symm ((hs.2 x hxs).trans (Heap.get?_update_self _ hx₁ rfl)) hn'
/-- .. a further field -/
theorem fld_more {K : W.Frag} {B : String} {bmB : List Value} {name : Str} {v : Value} {x C dx : Addr} {fv : Array Value} {cd : ClassData} {m0 : Str → Option Value} {nl : List Str} {Q : Unit → Shared → Prop} (SF : StoreFacts B bmB "object.__setattr__" "object")
    (X : K.In hp) (hx : hp.get? x = some { cls := .ref C, dict := some dx, data := .fields fv }) (hns : hp.Ns1 dx m0) (hw : Within m0 nl) (hz : nl.length ≤ 1000) (hcd : W.clsIn K C = some cd) (ho : excOver K C bmB = true) (hh : cd.hasDict = true) (ha : W.findIn K (.ref C) name = some none)
    (sa : W.findIn K (.ref C) "__setattr__" = some (some (.builtin "object.__setattr__")))
    (hq : ∀ h' tk', (∀ b o, b ≠ dx → hp.get? b = some o → h'.get? b = some o) → h'.Ns1 dx (fun y => if y = name then some v else m0 y) → Q () ⟨h', g, d, tk', os⟩) : wpAny (model prog w) A (setAttr (.ref x) name v) Q E ⟨hp, g, d, t, os⟩ := by
  obtain ⟨oD, esD, epD, hoD, hdD, _⟩ := hns.count hw
  have I : W.InstAt hp x { cls := .ref C, dict := some dx, data := .fields fv } C (some oD) := ⟨hx, rfl, rfl, hoD⟩
  have hcls : W.Looks (model prog w) hp (classData C) cd := W.looks_clsIn X hcd
  refine W.set_plain X I sa (osa_openX SF X I ho (r := none) (by unfold takerIn; rw [ha]; rfl) fun b => ?_)
  show wpAny _ _ (storeInOwnDict (.ref x) (.ref C) (.str name t) name v b) _ _ _
  obtain ⟨nm, bs, mro, ns, qn, hd, sn, sb, ab, col, del⟩ := cd
  dsimp only at hh
  subst hh
  unfold storeInOwnDict ownDictForStores
  repeat (first | with_reducible refine PySem.ESX.store_in_old hns hw hz ?_ | with_reducible refine wpAny_loadPart_at hx ?_ | with_reducible refine hcls.at ?_ | wp_step)
  intro h' tk' hn' hs
  exact hq h' tk' (fun b o hb ho => (hs.2 b hb).trans ho) hn'
/-- super().__init__(..) bound, called -/
theorem call_sup {B newId initId : String} {bmB : List Value} {K : W.Frag} {u e t0 C : Addr} {rest : List Value} {Q : Value → Shared → Prop} (FB : ExcBaseFacts B newId initId bmB) (X : K.In hp) (q : excInitIn K C bmB newId = true)
    (he : hp.get? e = some (W.excObj C t0 none .none)) (hu : hp.get? u = some (kxs_mw initId e)) (hz : rest.length ≤ sizeLine)
    (hq : ∀ h' t1, (∀ b o, b ≠ e → hp.get? b = some o → h'.get? b = some o) → h'.get? e = some (W.excObj C t1 none .none) → Q .none ⟨h', g, d, t, os⟩) : wpAny (model prog w) A (call (.ref u) rest) Q E ⟨hp, g, d, t, os⟩ := by
  obtain ⟨nm, N', qn, bs, bm, hdct, sn, sub, ab, col, dd, k0, k1, k2, k3, k5, hC, hT⟩ := excInit_of X q
  refine wpAny_call (codeAny_of_tree ?_)
  show wpAny _ A.in1 (callAny (.ref u) ⟨rest, []⟩) _ _ _
  simp only [callAny]
  refine wpAny_bind (wpAny_load hu ?_)
  simp only [kxs_mw, show (Value.type "method-wrapper" == Value.type "method" || Value.type "method-wrapper" == Value.type "builtin_function_or_method" || Value.type "method-wrapper" == Value.type "method-wrapper") = true by decide, if_true]
  refine KFB.if_so (by decide) (wpAny_bind (check_bound_init FB.toExcCallFacts hC he rfl (wpAny_bind (wpAny_pure (wpAny_pure ⟨plainId_quiet FB.init.plain _, codeAny_builtin FB.initEntry ?_⟩)))))
  exact exc_init_tree (cls := .ref C) (t0 := t0) (dv := none) (c2 := .none) (c3 := .none) (b4 := .bool false) he hz fun h' k e' _ => hq h' _ k e'
end
end Ev

set_option Elab.async false
set_option linter.all false
set_option maxRecDepth 100000
set_option maxHeartbeats 2000000
/-! An own exception class: its __init__ walked, its call. -/
noncomputable section
namespace Ev
open PySem PySem.Spec PyProof.Rows L2
/-- self.f = f, one after the other -/
def fldSts : List Stmt → Str → List Str → Bool
  | [], _, [] => true
  | .Assign [.Attribute (.Name s _) f _] (.Name y _) _ :: sts, self, x :: xs => strEq s self && strEq f x && strEq y x && fldSts sts self xs
  | _, _, _ => false
section
open PySem.W
variable {prog : Program} {w : World} {A : Around} {E : Value → Shared → Prop} {g : Array GenState} {d : Drawn} {os : OsState} {K : W.Frag} {B newId initId : String} {bmB : List Value} {C e L a : Addr} {cd : ClassData} {fd : FuncData} {self : Str} {m : Str → Option Value} {fv : Array Value}
theorem st_shape {sts : List Stmt} {self x : Str} {xs : List Str} (h : fldSts sts self (x :: xs) = true) : ∃ p1 p2 p3 p4 sts', sts = .Assign [.Attribute (.Name self p1) x p2] (.Name x p3) p4 :: sts' ∧ fldSts sts' self xs = true := by
  unfold fldSts at h
  split at h
  · rename_i heq; cases heq
  · rename_i s p1 f p2 y p3 p4 sts' x' xs' heq
    cases heq
    simp only [Bool.and_eq_true] at h
    obtain ⟨⟨⟨h1, h2⟩, h3⟩, h4⟩ := h
    have e1 := strEq_iff.mp h1
    have e2 := strEq_iff.mp h2
    have e3 := strEq_iff.mp h3
    subst e1 e2 e3
    exact ⟨p1, p2, p3, p4, sts', rfl, h4⟩
  · cases h
/-- what is known of the class -/
structure ClsX (K : W.Frag) (B : String) (bmB : List Value) (C : Addr) (cd : ClassData) : Prop where
  SF : StoreFacts B bmB "object.__setattr__" "object"
  hcd : W.clsIn K C = some cd
  ho : excOver K C bmB = true
  hh : cd.hasDict = true
  sa : W.findIn K (.ref C) "__setattr__" = some (some (.builtin "object.__setattr__"))
/-- what is known of the def's names -/
structure ScX (fd : FuncData) (slf : Str) (fs : List Str) : Prop where
  kd : fd.scope.kind = .function
  sf : fd.scope.names.lookup slf = some .local
  sd : (slf == ("__debug__" : Str)) = false
  fl : ∀ f ∈ fs, fd.scope.names.lookup f = some .local ∧ (f == ("__debug__" : Str)) = false
theorem flds_go (Y : ClsX K B bmB C cd) {dx : Addr} (hLd : L ≠ dx) (hed : e ≠ dx) (ms : m self = some (.ref e)) : ∀ (fs : List Str) (sts : List Stmt) (us : List Value) (ws : List V) (gs : List (Str × V)) (h : Heap) (m0 : Str → Option Value) (tk : Nat), ScX fd self fs → fldSts sts self fs = true → Vals ws us → fs.length = us.length →
    (∀ p ∈ fs.zip us, m p.1 = some p.2) → (∀ f ∈ fs, W.findIn K (.ref C) f = some none) → K.In h → h.Ns L m → h.get? e = some { cls := .ref C, dict := some dx, data := .fields fv } → h.Ns1 dx m0 → (∀ f, RelO (gs.lookup f) (m0 f)) → gs.length + fs.length ≤ 900 → ∀ Q : Flow → Shared → Prop,
    (∀ h' tk' m', (∀ b o, b ≠ dx → h.get? b = some o → h'.get? b = some o) → h'.Ns1 dx m' → (∀ f, RelO (((fs.zip ws).reverse ++ gs).lookup f) (m' f)) → Q .next ⟨h', g, d, tk', os⟩) →
    K.lookup dx = none → wpAny (model prog w) A (PySem.execs sts (callEnv fd L a)) Q E ⟨h, g, d, tk, os⟩
  | [], sts, us, ws, gs, h, m0, tk, S, hs, hv, hl, hm, hn, X, nL, he, nd, rel, hz, Q, hq, hk => by
    cases sts with
    | nil => exact wpAny_execs_nil (hq h tk m0 (fun _ _ _ z => z) nd (by cases hv with
      | nil => exact rel
      | cons _ _ => cases hl))
    | cons st sts => unfold fldSts at hs; split at hs <;> simp_all
  | x :: xs, sts, us, ws, gs, h, m0, tk, S, hs, hv, hl, hm, hn, X, nL, he, nd, rel, hz, Q, hq, hk => by
    obtain ⟨p1, p2, p3, p4, sts', rfl, hs'⟩ := st_shape hs
    cases hv with
    | nil => cases hl
    | @cons y u ws us ry rest =>
      refine wpAny_execs_cons (plainObj_wpAny_Assign_Attribute (ldc S.kd (S.fl x (by simp)).1 nL (hm (x, u) (by simp)) (ldc S.kd S.sf nL ms (fld_more Y.SF X he nd (within_of rel) (by rw [List.length_map]; simp at hz; omega) Y.hcd Y.ho Y.hh (hn x (by simp)) Y.sa fun h' tk' k nd' => ?_) S.sd) (S.fl x (by simp)).2))
      obtain ⟨oL, es, ep, hL, r⟩ := nL
      have X' : K.In h' := fun b o z => k b o (fun q => by rw [q, hk] at z; cases z) (X b o z)
      refine flds_go Y hLd hed ms xs sts' us ws ((x, y) :: gs) h' _ tk' ⟨S.kd, S.sf, S.sd, fun f hf => S.fl f (List.mem_cons_of_mem _ hf)⟩ hs' rest (by simpa using hl) (fun p hp => hm p (by rw [List.zip_cons_cons]; exact List.mem_cons_of_mem _ hp)) (fun f hf => hn f (List.mem_cons_of_mem _ hf)) X' ⟨oL, es, ep, k _ _ hLd hL, r⟩ (k _ _ hed he) nd' (relO_put ry rel) (by simp at hz ⊢; omega) Q (fun h2 tk2 m2 k2 nd2 rel2 => hq h2 tk2 m2 (fun b o hb z => k2 b o hb (k b o hb z)) nd2 ?_) hk
      rw [List.zip_cons_cons, List.reverse_cons, List.append_assoc]
      exact rel2
theorem lookup_nodup {α : Type} {p : Str × α} : ∀ {l : List (Str × α)}, (l.map (·.1)).Nodup → p ∈ l → l.lookup p.1 = some p.2
  | [], _, h => by cases h
  | q :: l, nd, h => by
    rw [List.map_cons, List.nodup_cons] at nd
    rw [show (q :: l) = (q.1, q.2) :: l from rfl, List.lookup_cons]
    rcases List.mem_cons.mp h with z | z
    · subst z; simp
    · have : (p.1 == q.1) = false := by
        simp
        intro y
        exact nd.1 (by rw [← y]; exact List.mem_map_of_mem z)
      rw [this]
      exact lookup_nodup nd.2 z
theorem sup_eval {o : Expr} {x ms : Str} {p2 p3 p4 : Pos} {j : Nat} {env : Env} (hl : (p2.endLine == p4.line) = true) : eval (.Call (.Attribute o x p2) [.Constant (.str ms) j p3] [] p4) env = (do
      let ov ← attributeBase o x env (eval o env)
      standAt p2.atName
      let (f, first) ← holding [ov] (getMethod ov x (do return (← importBound o env).getD true))
      callWith p4 f first (backTo p4 (starEach [.Constant (.str ms) j p3] env)) []) := by
  show (do
    let ov ← attributeBase o x env (eval o env)
    standAt p2.atName
    methodCall o x p2 p4 env ov 1 (backTo p4 (starEach [.Constant (.str ms) j p3] env)) (backToKw p4 (keywordEach [] env))) = _
  congr 1
  funext ov
  congr 1
  funext _
  unfold methodCall
  have e1 : methodCallForm 1 (backTo p4 (starEach [.Constant (.str ms) j p3] env)) (backToKw p4 (keywordEach [] env)) = true := rfl
  rw [e1]
  have e2 : methodCallPos true o env p2 p4 = pure p4 := by unfold methodCallPos; rw [hl]; rfl
  rw [e2]
  rfl
/-- the whole of such an __init__ -/
theorem init_go {fI cda cc : Addr} {slf ms : Str} {fs : List Str} {sts : List Stmt} {p0 p1 p2 p3 p4 p5 : Pos} {j : Nat} {us : List Value} {ws : List V} {hp : Heap} {t0 : Addr} {tk : Nat} {oc ccl cl : Value} {od cdd cld : Option Addr} {osl ccs csl : Array (Option Value)} {vs : Array Value} {tf : Tok} {mg mb : Str → Option Value} {R : Result → Shared → Prop} {ar : Arg} {args : List Arg} {file : Str}
    (Y : ClsX K B bmB C cd) (FB : ExcBaseFacts B newId initId bmB) (KF : KxsFacts B initId) (hq0 : excInitIn K C bmB newId = true) (hop : nsIn K cStatics "thirdparty.any" = some none) (hsu : ks_superIn K C C "__init__" = some (some (.builtin initId))) (hB : subIn K (.ref C) (.type B) = some true) (hCC : mroIn K C (.ref C) = some true)
    (X : K.In hp) (hroom : A.depth < recursionLimit) (hlim : hp.NoLimit) (hg : hp.Ns mainGlobals mg) (hgs : mg "super" = none) (hbn : hp.Ns builtinsNs mb) (hbs : mb "super" = some (.type "super"))
    (lf : K.lookup fI = some ⟨oc, od, .func fd, osl⟩) (hcode : fd.code = .ref cda) (lcd : K.lookup cda = some ⟨ccl, cdd, .fields vs, ccs⟩) (hcin : codeIn K fd.code fd.qualname = true) (hvs : vs[2]? = some (.str file tf)) (hfile : ((prog.main.file : Str) == file) = true) (htop : (prog.main.scope.names.lookup ("super" : Str)).isSome = false)
    (hbody : fd.body = .stmts (.Expr (.Call (.Attribute (.Call (.Name "super" p0) [] [] p1) "__init__" p2) [.Constant (.str ms) j p3] [] p4) p5 :: sts)) (hcl : fd.closure = [((("__class__" : Str)), cc)]) (lcc : K.lookup cc = some ⟨cl, cld, .cell (some (.ref C)), csl⟩)
    (hgl : fd.globals = mainGlobals) (hbl : fd.builtins = builtinsNs) (a1 : fd.params.posonlyargs = []) (a2 : fd.params.kwonlyargs = []) (a3 : fd.params.vararg = none) (a4 : fd.params.kwarg = none) (a5 : fd.defaults = .none) (a6 : fd.params.args = ar :: args) (a7 : ar.arg = slf) (a8 : args.map (·.arg) = fs) (nd : (slf :: fs).Nodup)
    (S : ScX fd slf fs) (hcell : ∀ x ∈ fd.scope.names, x.2 ≠ .cell) (hks : fd.scope.names.lookup ("super" : Str) = some .globalImplicit) (hkc : fd.scope.names.lookup ("__class__" : Str) = some .free) (hco : fd.scope.isCoroutine = false) (hge : fd.scope.isGenerator = false) (hst : fldSts sts slf fs = true) (hfs : fs ≠ []) (hnf : ∀ f ∈ fs, W.findIn K (.ref C) f = some none)
    (hline : (p2.endLine == p4.line) = true) (hlen : fs.length = us.length) (hl9 : fs.length ≤ 800) (rv : Vals ws us) (he : hp.get? e = some (excObj C t0 none .none)) (hKe : K.lookup e = none)
    (hR : ∀ h' tk' t1 dx m', (∀ b o, b ≠ e → hp.get? b = some o → h'.get? b = some o) → hp.objs.size ≤ dx → h'.get? e = some (excObj C t1 (some dx) .none) → h'.Ns1 dx m' → (∀ f, RelO (((fs.zip ws).reverse).lookup f) (m' f)) → R (.ok (.ret .none)) ⟨h', g, d, tk', os⟩) :
    codeAny (model prog w) A (.call (.ref fI) ⟨.ref e :: us, []⟩) R ⟨hp, g, d, tk, os⟩ := by
  have hps : fd.params.args.map (·.arg) = slf :: fs := by rw [a6, List.map_cons, a7, a8]
  have hb := bind_plain fd (.ref e :: us) a1 a2 a3 a4 a5 (by rw [a6, List.length_cons, List.length_cons, ← hlen, ← a8, List.length_map]) (by rw [hps]; exact nd)
  rw [hps] at hb
  have hloc : ∀ x ∈ (slf :: fs).zip (Value.ref e :: us), fd.scope.names.lookup x.1 = some .local := fun x hx => by
    have := (List.of_mem_zip (show (x.1, x.2) ∈ _ from hx)).1
    rcases List.mem_cons.mp this with z | z
    · rw [z]; exact S.sf
    · exact (S.fl x.1 z).1
  refine ks_codeAny_call_defAt (fd := fd) hroom (X _ _ lf) rfl hlim (codeRec_of X hcin) hbody (.of_eq hb) hcell hloc (fun h₀ hns hk₀ => ?_) hco hge S.kd
  generalize hL : hp.objs.size = L at hns ⊢
  generalize hm : (fun x => ((slf :: fs).zip (Value.ref e :: us)).reverse.lookup x) = m at hns
  have X0 : K.In h₀ := X.keeps hk₀
  have e0 := hk₀ _ _ he
  have lookm : ∀ p ∈ (slf :: fs).zip (Value.ref e :: us), m p.1 = some p.2 := fun p hp => by
    rw [← hm]
    refine lookup_nodup ?_ (List.mem_reverse.mpr hp)
    rw [List.map_reverse, List.map_fst_zip (by simp [hlen])]
    exact List.pairwise_reverse.mpr (nd.imp fun z => Ne.symm z)
  have S0 : ScX fd slf fs := S
  obtain ⟨oC, hoC, hdC⟩ : ∃ oC, K.lookup C = some oC ∧ oC.data = .cls cd := by
    have := Y.hcd
    unfold clsIn at this
    split at this
    · rename_i c d cd' sl ho
      cases this
      exact ⟨_, ho, rfl⟩
    · cases this
  refine ks_wpAt_execs_cons (ks_wpAt_Expr_any (ks_wpAt_MethodCall (ks_wpAt_super_base (env := callEnv fd L fI) (f := fI) (cc := cda) (ar := ar) hks hkc (by decide) rfl (X0 _ _ lf) rfl (by rw [a1, a6]; rfl) hcode (X0 _ _ lcd) rfl hvs hfile htop ?_) (sup_eval hline)) (by show (fd.scope.kind == ScopeKind.module && _) = false; rw [S.kd]; rfl))
  have gl : (callEnv fd L fI).globals = mainGlobals := hgl
  have bl : (callEnv fd L fI).builtins = builtinsNs := hbl
  refine ks_loadName_global S.kd hks (Calls.loadGlobal_builtin (by rw [gl]; exact hg.keeps hk₀) hgs (by rw [bl]; exact hbn.keeps hk₀) hbs ⟨rfl, ?_⟩)
  refine wpAny_loadName_free S.kd hkc (by show List.lookup _ fd.closure = some cc; rw [hcl]; rfl) ⟨_, X0 _ _ lcc, rfl⟩ ?_
  refine wpAny_loadName_local S.kd (by rw [a7]; exact S.sf) hns (by rw [a7]; exact lookm (slf, .ref e) (by simp)) ?_
  refine ks_wpAny_isType_cls (X0 _ _ hoC) hdC ⟨rfl, ?_⟩
  refine ks_wpAny_call_super (X0 _ _ hoC) hdC e0 rfl (fun c z => by cases z) (looks_mroIn X0 hCC) (fun h1 eso k1 => ?_)
  have X1 : K.In h1 := X0.keeps k1
  have I1 : InstAt h1 e (excObj C t0 none .none) C none := ⟨k1 _ _ e0, rfl, rfl, trivial⟩
  refine kxs_getMethod KF eso (looks_opaque X1 hop) (l₀ := cd.mro) (fun A Q E s k q => wpAny_bind ((looks_clsIn X1 Y.hcd) A _ E s k (wpAny_pure q))) rfl X1 (by unfold ks_superIn at hsu; rw [Y.hcd] at hsu; exact hsu) (I1.type.andThen (looks_subIn X1 hB)) (ks_ne X1 I1 Y.hcd) (by decide) ?_
  generalize hq : h1.objs.size = q
  have hu : (h1.push (kxs_mw initId e)).get? q = some (kxs_mw initId e) := by rw [← hq]; exact Heap.get?_push_at rfl rfl
  have k2 : ∀ b o, h1.get? b = some o → (h1.push (kxs_mw initId e)).get? b = some o := fun b o z => Heap.get?_push_of_some _ z
  refine kxs_callWith (i := initId) (x := e) rfl (Calls.evalArgs_plain (Calls.spliced_cons (Calls.Constant_str (k := j) (pos := p3) (Calls.spliced_nil ⟨hu, ?_⟩))))
  have nL : L ≠ e := fun z => by
    have := Heap.lt_size he
    rw [← z, ← hL] at this
    exact absurd this (Nat.lt_irrefl _)
  refine call_sup FB (X1.keeps k2) hq0 (k2 _ _ (k1 _ _ e0)) hu (by show 1 ≤ sizeLine; rw [sizeLine_eq]; omega) fun h3 t3 k3 e3 => ?_
  have X3 : K.In h3 := fun b o z => k3 b o (fun y => by rw [y, hKe] at z; cases z) (k2 _ _ (X1 _ _ z))
  obtain ⟨oL, es, ep, hLg, r⟩ := hns
  have n3 : h3.Ns L m := ⟨oL, es, ep, k3 _ _ nL (k2 _ _ (k1 _ _ hLg)), r⟩
  show PySem.wpAt _ _ _ (PySem.execs sts (callEnv fd L fI)) _ _ _
  refine PySem.wpAt_of_wpAny ?_
  cases fs with
  | nil => exact absurd rfl hfs
  | cons x xs =>
    obtain ⟨q1, q2, q3, q4, sts', rfl, hs'⟩ := st_shape hst
    cases rv with
    | nil => cases hlen
    | @cons y u ws us ry rest =>
      refine wpAny_execs_cons (plainObj_wpAny_Assign_Attribute (ldc S.kd (S.fl x (by simp)).1 n3 (lookm (x, u) (by simp)) (ldc S.kd S.sf n3 (lookm (slf, .ref e) (by simp)) (fld_first Y.SF X3 e3 Y.hcd Y.ho Y.hh (hnf x (by simp)) Y.sa fun h4 tk4 dx k4 hsz hne e4 nd4 => ?_) S.sd) (S.fl x (by simp)).2))
      have lt3 : ∀ {b : Addr} {o : Obj}, h3.get? b = some o → b ≠ dx := fun {b o} z => Nat.ne_of_lt (Nat.lt_of_lt_of_le (Heap.lt_size z) hsz)
      have hpdx : hp.objs.size ≤ dx := by
        rw [hL]
        exact Nat.le_of_lt (Nat.lt_of_lt_of_le (Heap.lt_size (k3 _ _ nL (k2 _ _ (k1 _ _ hLg)))) hsz)
      have kdx : K.lookup dx = none := by
        cases z : K.lookup dx with
        | none => rfl
        | some o => exact absurd rfl (lt3 (X3 _ _ z))
      have X4 : K.In h4 := fun b o z => k4 b o (fun y => by rw [y, hKe] at z; cases z) (X3 _ _ z)
      have n4 : h4.Ns L m := ⟨oL, es, ep, k4 _ _ nL (k3 _ _ nL (k2 _ _ (k1 _ _ hLg))), r⟩
      refine flds_go Y (lt3 (k3 _ _ nL (k2 _ _ (k1 _ _ hLg)))) (Ne.symm hne) (lookm (slf, .ref e) (by simp)) xs sts' us ws [(x, y)] h4 _ tk4 ⟨S.kd, S.sf, S.sd, fun f hf => S.fl f (List.mem_cons_of_mem _ hf)⟩ hs' rest (by simpa using hlen) (fun p hp => lookm p (by rw [List.zip_cons_cons, List.zip_cons_cons]; exact List.mem_cons_of_mem _ (List.mem_cons_of_mem _ hp))) (fun f hf => hnf f (List.mem_cons_of_mem _ hf)) X4 n4 e4 nd4 (relO_put (fs := []) ry fun g => True.intro) (by simp at hl9 ⊢; omega) _ (fun h5 tk5 m5 k5 nd5 rel5 => ?_) kdx
      refine hR h5 tk5 t3 dx m5 (fun b o hb z => ?_) hpdx (k5 _ _ (Ne.symm hne) e4) nd5 ?_
      · have z3 := k3 b o hb (k2 _ _ (k1 _ _ (hk₀ _ _ z)))
        exact k5 b o (lt3 z3) (k4 b o hb z3)
      · rw [List.zip_cons_cons, List.reverse_cons]
        exact rel5
end
end Ev

set_option Elab.async false
set_option linter.all false
set_option maxRecDepth 100000
set_option maxHeartbeats 2000000
/-! raise C(..), C an own exception class. -/
noncomputable section
namespace Ev
open PySem PySem.Spec PyProof.Rows L2
inductive XB where
  | ve
  | oe
  | te
def XB.B : XB → String
  | .ve => "ValueError"
  | .oe => "OverflowError"
  | .te => "TypeError"
def XB.newId : XB → String
  | .ve => "ValueError.__new__"
  | .oe => "OverflowError.__new__"
  | .te => "TypeError.__new__"
def XB.initId : XB → String
  | .ve => "ValueError.__init__"
  | .oe => "OverflowError.__init__"
  | .te => "TypeError.__init__"
def XB.tail : XB → List Value
  | .ve => [.type "ValueError", .type "Exception", .type "BaseException", .type "object"]
  | .oe => [.type "OverflowError", .type "ArithmeticError", .type "Exception", .type "BaseException", .type "object"]
  | .te => [.type "TypeError", .type "Exception", .type "BaseException", .type "object"]
theorem XB.FB (b : XB) : ExcBaseFacts b.B b.newId b.initId b.tail := by
  cases b
  · exact F.excBase_ValueError
  · exact F.excBase_OverflowError
  · exact F.excBase_TypeError
theorem XB.SF (b : XB) : StoreFacts b.B b.tail "object.__setattr__" "object" := by
  cases b
  · exact F.store_ValueError
  · exact F.store_OverflowError
  · exact F.store_TypeError
theorem XB.KF (b : XB) : W.KxsFacts b.B b.initId := by
  cases b
  · exact W.kxs_ValueError
  · exact W.kxs_OverflowError
  · exact W.kxs_TypeError
open PySem.W
def optB (o : Option Bool) : Bool := match o with
  | some true => true
  | _ => false
def eqOO (a b : Option (Option Value)) : Bool := decide (a = b)
def nodupS : List Str → Bool
  | [] => true
  | x :: xs => !memS x xs && nodupS xs
def strsEq : List Str → List Str → Bool
  | [], [] => true
  | x :: xs, y :: ys => strEq x y && strsEq xs ys
  | _, _ => false
def isFr : Option NameKind → Bool
  | some .free => true
  | _ => false
def isFun : ScopeKind → Bool
  | .function => true
  | _ => false
def noCell (ns : List (Str × NameKind)) : Bool := ns.all fun p => match p.2 with
  | .cell => false
  | _ => true
def locB (ns : List (Str × NameKind)) (f : Str) : Bool := isLc (look ns f) && !strEq f sDebug
def sSuper : Str := "super"
def sInit : Str := "__init__"
def sClass : Str := "__class__"
/-- the def of such an __init__ -/
def initFn (K : Frag) (file : Str) (C : Addr) (fs : List Str) (fd : FuncData) : Bool := match fd.body with
  | .stmts (.Expr (.Call (.Attribute (.Call (.Name su _) [] [] _) ini p2) [.Constant (.str _) _ _] [] p4) _ :: sts) => strEq su sSuper && strEq ini sInit && (p2.endLine == p4.line) &&
    (match fd.closure with
      | [(cn, cc)] => strEq cn sClass && (match K.lookup cc with
        | some ⟨_, _, .cell (some (.ref D)), _⟩ => D == C
        | _ => false)
      | _ => false) &&
    (match fd.code with
      | .ref cda => (match K.lookup cda with
        | some ⟨_, _, .fields vs, _⟩ => (match vs[2]? with
          | some (Value.str fl _) => fl == file
          | _ => false)
        | _ => false)
      | _ => false) && codeIn K fd.code fd.qualname &&
    (match fd.defaults with
      | .none => true
      | _ => false) && (fd.globals == mainGlobals) && (fd.builtins == builtinsNs) && fd.params.posonlyargs.isEmpty && fd.params.kwonlyargs.isEmpty && fd.params.vararg.isNone && fd.params.kwarg.isNone &&
    (match fd.params.args with
      | ar :: args => strsEq (args.map (·.arg)) fs && nodupS (ar.arg :: fs) && fldSts sts ar.arg fs && locB fd.scope.names ar.arg
      | _ => false) && fs.all (locB fd.scope.names) && noCell fd.scope.names && isGl (look fd.scope.names sSuper) && isFr (look fd.scope.names sClass) && isFun fd.scope.kind && !fd.scope.isCoroutine && !fd.scope.isGenerator
  | _ => false
/-- the class -/
def clsB (K : Frag) (file : Str) (C : Addr) (fs : List Str) (b : XB) : Bool :=
  excInitIn K C b.tail b.newId && excOver K C b.tail && hasDictIn K C && eqOO (findIn K (.ref C) "__setattr__") (some (some (.builtin "object.__setattr__"))) && keepIn K (.ref C) && optB (subIn K (.ref C) (.type "BaseException")) && optB (subIn K (.ref C) (.type b.B)) &&
    (typeIn K (.ref C) == some (.type "type")) && fs.all (fun f => eqOO (findIn K (.ref C) f) (some none)) && eqOO (nsIn K cStatics "thirdparty.any") (some none) && optB (mroIn K C (.ref C)) && eqOO (ks_superIn K C C "__init__") (some (some (.builtin b.initId))) && Nat.ble 1 fs.length && Nat.ble fs.length 800 &&
    (match findIn K (.ref C) "__init__" with
      | some (some (.ref fI)) => (match K.lookup fI with
        | some ⟨oc, _, .func fd, _⟩ => (oc == .type "function") && initFn K file C fs fd
        | _ => false)
      | _ => false)
theorem optB_ok {o : Option Bool} (h : optB o = true) : o = some true := by
  cases o with
  | none => cases h
  | some b => cases b <;> first | rfl | cases h
theorem eqOO_ok {a b : Option (Option Value)} (h : eqOO a b = true) : a = b := of_decide_eq_true h
theorem memS_mem {x : Str} : ∀ {ys : List Str}, memS x ys = false → x ∉ ys
  | [], _ => by simp
  | y :: ys, h => by
    unfold memS at h
    cases q : strEq x y with
    | true => rw [q] at h; cases h
    | false =>
      rw [q] at h
      have ne : x ≠ y := fun z => by rw [strEq_iff.mpr z] at q; cases q
      simp only [List.mem_cons, not_or]
      exact ⟨ne, memS_mem h⟩
theorem nodupS_ok : ∀ {xs : List Str}, nodupS xs = true → xs.Nodup
  | [], _ => List.nodup_nil
  | x :: xs, h => by
    unfold nodupS at h
    simp only [Bool.and_eq_true, Bool.not_eq_true'] at h
    exact List.nodup_cons.mpr ⟨memS_mem h.1, nodupS_ok h.2⟩
theorem strsEq_ok : ∀ {xs ys : List Str}, strsEq xs ys = true → xs = ys
  | [], [], _ => rfl
  | [], _ :: _, h => by cases h
  | _ :: _, [], h => by cases h
  | x :: xs, y :: ys, h => by
    unfold strsEq at h
    simp only [Bool.and_eq_true] at h
    rw [strEq_iff.mp h.1, strsEq_ok h.2]
theorem locB_ok {ns : List (Str × NameKind)} {f : Str} (h : locB ns f = true) : ns.lookup f = some .local ∧ (f == ("__debug__" : Str)) = false := by
  unfold locB at h
  simp only [Bool.and_eq_true] at h
  refine ⟨?_, not_eq h.2⟩
  have h1 := h.1
  rw [look_eq] at h1
  cases e : ns.lookup f with
  | none => rw [e] at h1; cases h1
  | some kd => rw [e] at h1; cases kd <;> first | rfl | cases h1
theorem isGl_ok {o : Option NameKind} (h : isGl o = true) : o = some .globalImplicit := by
  cases o with
  | none => cases h
  | some k => cases k <;> first | rfl | cases h
theorem isFr_ok {o : Option NameKind} (h : isFr o = true) : o = some .free := by
  cases o with
  | none => cases h
  | some k => cases k <;> first | rfl | cases h
theorem isFun_ok {o : ScopeKind} (h : isFun o = true) : o = .function := by cases o <;> first | rfl | cases h
theorem noCell_ok {ns : List (Str × NameKind)} (h : noCell ns = true) : ∀ x ∈ ns, x.2 ≠ .cell := fun x hx z => by
  have := List.all_eq_true.mp h x hx
  rw [z] at this
  cases this
/-- the module's side -/
structure SupOk (M : Mo) (file : Str) : Prop where
  mg : M.mg "super" = none
  file : ((M.P.main.file : Str) == file) = true
  top : (M.P.main.scope.names.lookup ("super" : Str)).isSome = false
def tMkX (C : Addr) (fs : List Str) (ta : TA) : St → Hp → XK → Prop := fun σ H Q => ta σ H fun vs H1 => vs.length = fs.length ∧ ∀ d, H1 d = none → Q (.ref C) (some d) (upd H1 d (.xd (fs.zip vs).reverse))
section
variable {M : Mo} {X : Cx} {N : List Str} {sc : Scope} {k : Nat} {W : WX} {pos : Pos}
theorem make_ok {K : Frag} {file : Str} {C : Addr} {fs : List Str} {b : XB} {pins : List (Addr × Obj)} {σ : St} {H1 : Hp} {s1 : Shared} {us : List Value} {vs : List V} {Q : XK} (hK : X.K = K) (hx : clsB K file C fs b = true) (hS : X.mg "super" = none) (hF : ((X.prog.main.file : Str) == file) = true) (hT : (X.prog.main.scope.names.lookup ("super" : Str)).isSome = false)
    (hr : Room k X.A) (I1 : Inv X pins σ H1 s1) (r1 : Vals vs us) (hl : vs.length = fs.length) (q1 : ∀ d, H1 d = none → Q (.ref C) (some d) (upd H1 d (.xd (fs.zip vs).reverse))) :
    wpAny (model X.prog X.w) X.A (call (.ref C) us) (MkP X pins σ Q) X.xe s1 := by
  subst hK
  unfold clsB at hx
  simp only [Bool.and_eq_true] at hx
  obtain ⟨⟨⟨⟨⟨⟨⟨⟨⟨⟨⟨⟨⟨⟨hq0, hov⟩, hhd⟩, hsa⟩, hkp⟩, hbe⟩, hbB⟩, hty⟩, hnf⟩, hop⟩, hCC⟩, hsu⟩, hl1⟩, hl8⟩, hfn⟩ := hx
  cases e1 : findIn X.K (.ref C) "__init__" with
  | none => rw [e1] at hfn; cases hfn
  | some o1 =>
    rw [e1] at hfn
    cases o1 with
    | none => cases hfn
    | some v1 =>
      cases v1 with
      | ref fI =>
        dsimp only at hfn
        cases e2 : X.K.lookup fI with
        | none => rw [e2] at hfn; cases hfn
        | some o2 =>
          rw [e2] at hfn
          obtain ⟨oc, od, dt, osl⟩ := o2
          cases dt with
          | func fd =>
            dsimp only at hfn
            simp only [Bool.and_eq_true] at hfn
            obtain ⟨hoc, hfn⟩ := hfn
            have hoc := eq_of_beq hoc
            subst hoc
            unfold initFn at hfn
            split at hfn
            · rename_i su p0 p1 ini p2 ms j p3 p4 p5 sts hbody
              simp only [Bool.and_eq_true] at hfn
              obtain ⟨⟨⟨⟨⟨⟨⟨⟨⟨⟨⟨⟨⟨⟨⟨⟨⟨⟨⟨⟨c1, c2⟩, c3⟩, c4⟩, c5⟩, c6⟩, c7⟩, c8⟩, c9⟩, c10⟩, c11⟩, c12⟩, c13⟩, c14⟩, c15⟩, c16⟩, c17⟩, c18⟩, c19⟩, c20⟩, c21⟩ := hfn
              have z1 := strEq_iff.mp c1
              have z2 := strEq_iff.mp c2
              subst z1 z2
              obtain ⟨cc, cl, cld, csl, hcl, lcc⟩ : ∃ cc cl cld csl, fd.closure = [((("__class__" : Str)), cc)] ∧ X.K.lookup cc = some ⟨cl, cld, .cell (some (.ref C)), csl⟩ := by
                split at c4
                · rename_i cn cc hc
                  simp only [Bool.and_eq_true] at c4
                  have y1 := strEq_iff.mp c4.1
                  subst y1
                  have c4' := c4.2
                  split at c4'
                  · rename_i a1 a2 D a3 lk
                    have := eq_of_beq c4'
                    subst this
                    exact ⟨cc, _, _, _, hc, lk⟩
                  · cases c4'
                · cases c4
              obtain ⟨cda, ccl, cdd, ws, ccs, tf, hco, lcd, hvs⟩ : ∃ cda ccl cdd ws ccs tf, fd.code = .ref cda ∧ X.K.lookup cda = some ⟨ccl, cdd, .fields ws, ccs⟩ ∧ ws[2]? = some (.str file tf) := by
                split at c5
                · rename_i cda hc
                  split at c5
                  · rename_i a1 a2 ws a3 lk
                    split at c5
                    · rename_i fl tf hv
                      have := eq_of_beq c5
                      subst this
                      exact ⟨cda, _, _, ws, _, tf, hc, lk, hv⟩
                    · cases c5
                  · cases c5
                · cases c5
              have hdf : fd.defaults = .none := by
                split at c7
                · assumption
                · cases c7
              obtain ⟨ar, args, ha6, d1, d2, d3, d4⟩ : ∃ ar args, fd.params.args = ar :: args ∧ strsEq (args.map (·.arg)) fs = true ∧ nodupS (ar.arg :: fs) = true ∧ fldSts sts ar.arg fs = true ∧ locB fd.scope.names ar.arg = true := by
                split at c14
                · rename_i ar args he
                  simp only [Bool.and_eq_true] at c14
                  exact ⟨ar, args, he, c14.1.1.1, c14.1.1.2, c14.1.2, c14.2⟩
                · cases c14
              obtain ⟨cd, hcd, hh⟩ : ∃ cd, clsIn X.K C = some cd ∧ cd.hasDict = true := by
                unfold hasDictIn at hhd
                cases e : clsIn X.K C with
                | none => rw [e] at hhd; cases hhd
                | some cd => rw [e] at hhd; exact ⟨cd, rfl, hhd⟩
              have Y : ClsX X.K b.B b.tail C cd := ⟨b.SF, hcd, hov, hh, eqOO_ok hsa⟩
              obtain ⟨nm, N', qn, bs, bm, hdct, sn, sub, ab, col, dd, k0, k1, k2, k3, k5, hC, hTl⟩ := excInit_of I1.kIn hq0
              obtain ⟨hp, g, dr, tk, os⟩ := s1
              have lus : us.length = fs.length := by rw [← r1.length]; exact hl
              have hl8 := Nat.le_of_ble_eq_true hl8
              have hl1 := Nat.le_of_ble_eq_true hl1
              have kk : ∀ b o, hp.get? b = some o → ((hp.push (kdv_tup us)).push (PySem.HandSPX.excO C hp.objs.size)).get? b = some o := fun b o e => Heap.get?_push_of_some _ (Heap.get?_push_of_some _ e)
              have hget : ((hp.push (kdv_tup us)).push (PySem.HandSPX.excO C hp.objs.size)).get? (hp.objs.size + 1) = some (excObj C hp.objs.size none .none) := by
                have z := Heap.get?_push_size (hp.push (kdv_tup us)) (o := PySem.HandSPX.excO C hp.objs.size) rfl
                rw [Heap.size_push] at z
                exact z
              obtain ⟨mb, hmb, hmv⟩ := I1.mod.blt
              have bk : ∀ b o, X.base.get? b = some o → ((hp.push (kdv_tup us)).push (PySem.HandSPX.excO C hp.objs.size)).get? b = some o := fun b o e => kk b o (I1.bk b o e)
              refine wpAny_call (PySem.HandSPX.call_own b.FB hTl hC (looks_findIn I1.kIn e1) (fun sf => exc_bind (I1.kIn _ _ e2) rfl sf) (by rw [lus, sizeLine_eq]; omega) ?_)
              refine init_go (fs := fs) (us := us) (ws := vs) (e := hp.objs.size + 1) (t0 := hp.objs.size) (mg := X.mg) (mb := mb) (ar := ar) (args := args) (file := file) Y b.FB b.KF hq0 (eqOO_ok hop) (eqOO_ok hsu) (optB_ok hbB) (optB_ok hCC) (I1.kIn.keeps kk) (by rw [make_depth]; have := hr.dp; omega) (I1.mod.nolimit.keeps bk) (I1.mod.glob.keeps bk) hS (hmb.keeps bk)
                ((hmv "super" (by decide)).trans (by decide +kernel)) e2 hco lcd c6 hvs hF hT hbody hcl lcc (eq_of_beq c8) (eq_of_beq c9) (List.isEmpty_iff.mp c10) (List.isEmpty_iff.mp c11) (Option.isNone_iff_eq_none.mp c12) (Option.isNone_iff_eq_none.mp c13) hdf ha6 rfl (strsEq_ok d1) (nodupS_ok d2)
                ⟨isFun_ok c19, (locB_ok d4).1, (locB_ok d4).2, fun f hf => locB_ok (List.all_eq_true.mp c15 f hf)⟩ (noCell_ok c16) (by rw [← look_eq]; exact isGl_ok c17) (by rw [← look_eq]; exact isFr_ok c18) (by simpa using c20) (by simpa using c21) d3 (fun z => by rw [z] at hl1; simp at hl1) (fun f hf => eqOO_ok (List.all_eq_true.mp hnf f hf)) c3 lus.symm hl8 r1 hget ?_ ?_
              · cases z : X.K.lookup (hp.objs.size + 1) with
                | none => rfl
                | some o => exact absurd (Heap.lt_size (I1.kIn _ _ z)) (by simp)
              · intro h' tk' t1 dx m' kp hsz he' nd' rel
                have hsz' : hp.objs.size + 2 ≤ dx := by rw [Heap.size_push, Heap.size_push] at hsz; exact hsz
                obtain ⟨Gh, g1', g2'⟩ := restrict h' fun b => decide (b ≠ hp.objs.size + 1)
                have gk : ∀ b, b ≠ hp.objs.size + 1 → Gh.get? b = h'.get? b := fun b hb => g1' b (decide_eq_true hb)
                have ge : Gh.get? (hp.objs.size + 1) = none := g2' _ (by simp)
                have keep : ∀ b u, hp.get? b = some u → Gh.get? b = some u := fun b u z => by
                  have nb : b ≠ hp.objs.size + 1 := fun y => absurd (Heap.lt_size z) (by rw [y]; simp)
                  rw [gk b nb]
                  exact kp b u nb (kk b u z)
                have J : Inv X pins σ (upd H1 dx (.xd (fs.zip vs).reverse)) ⟨Gh, g, dr, tk', os⟩ := I1.laid (t' := tk') (h' := Gh) keep (show hp.objs.size ≤ dx by omega) ⟨m', nd'.at fun o y => (gk dx (by omega)).trans y, rel⟩
                have hdx : H1 dx = none := I1.hok.fresh (show hp.objs.size ≤ dx by omega)
                refine ⟨rfl, ⟨hp.objs.size + 1, _, _, ⟨Gh, g, dr, tk', os⟩, _, .ref C, some dx, rfl, J, fun b o z => ?_, ge, he', ⟨rfl, rfl⟩, rfl, rfl, ?_, rfl, I1.bare, raises_own (optB_ok hbe) (eq_of_beq hty), q1 dx hdx⟩⟩
                · by_cases y : b = hp.objs.size + 1
                  · rw [y, ge] at z; cases z
                  · rw [← gk b y]; exact z
                · rw [upd_ne (show hp.objs.size + 1 ≠ dx by omega)]
                  exact I1.hok.fresh (show hp.objs.size ≤ hp.objs.size + 1 by omega)
            · cases hfn
          | _ => cases hfn
      | _ => cases hfn
/-- what a module says of its exception classes -/
structure ExcsOk (M : Mo) (md : Md) (file : Str) : Prop where
  sup : SupOk M file
  one : ∀ c x n, excIs x n md.excs c = true → M.mg x = some (.ref (M.ca c)) ∧ ∃ fs b, clsB M.K file (M.ca c) fs b = true ∧ fs.length = n
  keep : ∀ c fs b, clsB M.K file (M.ca c) fs b = true → PySem.W.keepIn M.K (.ref (M.ca c)) = true
theorem clsB_keep {K : Frag} {file : Str} {C : Addr} {fs : List Str} {b : XB} (h : clsB K file C fs b = true) : PySem.W.keepIn K (.ref C) = true := by
  unfold clsB at h
  simp only [Bool.and_eq_true] at h
  exact h.1.1.1.1.1.1.1.1.1.1.2
theorem pmk_x (G : Gd M X N sc k W) {x file : Str} {C : Addr} {fs : List Str} {b : XB} {p : Pos} {a : Expr} {as : List Expr} {ta : TA} (S : SupOk M file) (hm : M.mg x = some (.ref C)) (hx : clsB M.K file C fs b = true) (hg : isGl (look sc.names x) = true) (hd : (!strEq x sDebug) = true) (hn : (a :: as).all notStar = true) (ha : PA X (a :: as) ta) :
    PMk X (.Call (.Name x p) (a :: as) [] pos) (tMkX C fs ta) := by
  intro pins s σ H Q I h
  rw [List.all_cons, Bool.and_eq_true] at hn
  refine wpAny_Call_Name_kw (ld_glob I (G.gl hg) (by rw [G.hmg]; exact hm) ?_ (not_eq hd))
  refine PySem.W.callWith_K (h₀ := X.base) I.ok.mod.kin (by rw [G.hK]; exact clsB_keep hx) (thn (ha.run pos pins s σ H _ I h) fun us s1 ⟨vs, H1, I1, r1, hl, q1⟩ => ⟨I1.kIn, ?_⟩) (notStar_each hn.1) (stars_plain hn.2)
  exact make_ok G.hK hx (by rw [G.hmg]; exact S.mg) (by rw [G.hP]; exact S.file) (by rw [G.hP]; exact S.top) G.room I1 r1 hl q1
theorem rf_of {c : Cf} : ∀ {fs : List Str} {us : List Val} {vs : List V}, RVs M c us vs → RF M c (fs.zip us) (fs.zip vs)
  | [], _, _, _ => .nil
  | _ :: _, _, _, .nil => .nil
  | _ :: _, _, _, .cons h t => .cons h (rf_of t)
theorem RF.append {c : Cf} : ∀ {xs : List (Str × Val)} {ys : List (Str × V)} {us : List (Str × Val)} {vs : List (Str × V)}, RF M c xs ys → RF M c us vs → RF M c (xs ++ us) (ys ++ vs)
  | _, _, _, _, .nil, q => q
  | _, _, _, _, .cons h t, q => .cons h (RF.append t q)
theorem RF.reverse {c : Cf} : ∀ {xs : List (Str × Val)} {ys : List (Str × V)}, RF M c xs ys → RF M c xs.reverse ys.reverse
  | _, _, .nil => .nil
  | _, _, .cons h t => by simp only [List.reverse_cons]; exact RF.append (RF.reverse t) (.cons h .nil)
theorem ss_raise {cl : Cl} {rc : Rec} (G : Gs M X N sc k W) {x file : Str} {c : Nat} {fs : List Str} {b : XB} {p : Pos} {a : Expr} {as : List Expr} {ms : List E} (S : SupOk M file) (hm : M.mg x = some (.ref (M.ca c))) (hx : clsB M.K file (M.ca c) fs b = true) (hfs : cl.fields c = fs) (hg : isGl (look sc.names x) = true) (hd : (!strEq x sDebug) = true)
    (hn : (a :: as).all notStar = true) (ha : PA X (a :: as) (tEvA M W (evs rc ms))) {p2 : Pos} : PS X (.Raise (some (.Call (.Name x p) (a :: as) [] p2)) none pos) (tEvS M W (stepS cl rc (.raise c ms))) := by
  refine PS.of (ps_raise G.g.calm G.g.tk (pmk_x G.g S hm hx hg hd hn ha)) fun D σ H ⟨c0, s, h, ⟨e, R, S⟩, g⟩ => ?_
  subst e
  refine ⟨c0, s, h, ⟨rfl, R, S⟩, GoS.inS S g fun us h1 c1 vs e1 R1 r g1 => ?_⟩
  rw [hfs] at g1
  cases q : Nat.beq us.length fs.length with
  | false => rw [q] at g1; exact g1.elim
  | true =>
    rw [q] at g1
    refine ⟨by rw [← r.length]; exact Nat.eq_of_beq_eq_true q, fun d hd => ?_⟩
    obtain ⟨R2, x2⟩ := R1.side (u := .xd (fs.zip vs).reverse) hd
    exact g1 (c1.upd d (.xd (fs.zip vs).reverse)) (.ref (M.ca c)) (some d) σ x2 R2 ((S.ext e1).ext x2) ⟨rfl, d, _, rfl, upd_same, (rf_of (r.ext x2)).reverse⟩
end
end Ev

set_option Elab.async false
set_option linter.all false
set_option maxRecDepth 100000
set_option maxHeartbeats 4000000
/-! try with several clauses 'except C as n'. -/
noncomputable section
namespace Ev
open PySem PySem.Spec PyProof.Rows L2
abbrev HTs : Type := Value × (Addr → Value → Option Addr → TS)
/-- what the clauses wish, one after the other: slot i is n's -/
def wAll (K : PySem.W.Frag) (i : Nat) (Wo : WX) (D : Ends) : List HTs → WX
  | [] => Wo
  | q :: r => wAs K q.1 i q.2 (wAll K i Wo D r) D
inductive HdsA (X : Cx) (n : Str) : List ExceptHandler → List HTs → Prop where
  | nil : HdsA X n [] []
  | cons {x : Str} {c : Value} {ts : Addr → Value → Option Addr → TS} {st : Stmt} {np p : Pos} {hds : List ExceptHandler} {l : List HTs} (hc : Names X x c)
      (hsu : ∀ (a : Addr) (oe : Obj) (cls : Value) (d : Option Addr) (pn : List (Addr × Obj)), Zc cls d oe → (∃ vs, oe.data = .fields vs) → PSs (X.suite a ((a, oe) :: pn)) [st] (ts a cls d)) (r : HdsA X n hds l) :
      HdsA X n (.ExceptHandler (some (.Name x np)) (some n) [st] p :: hds) ((c, ts) :: l)
section
variable {X : Cx} {n : Str} {i : Nat} {body : List Stmt} {h0 : ExceptHandler} {hds : List ExceptHandler} {l : List HTs} {pos : Pos} {tb : WX → TS} {Wo : WX}
theorem ps_try_all (hs : X.stack = X.env :: X.outer) (hf : X.env.frame = some X.env.locals) (hN : X.N.Nodup) (hi : X.N[i]? = some n) (hln : X.env.kindOf n = some .local) (tk : Takes X Wo)
    (hb : ∀ (W : WX) (pn : List (Addr × Obj)) (xe : Value → Shared → Prop), Takes (X.tr pn xe) W → PassesOwn (model X.prog X.w) X.A X.env xe → PSs (X.tr pn xe) body (tb W)) (hh : HdsA X n (h0 :: hds) l) :
    PS X (.Try body (h0 :: hds) [] [] pos) (fun D σ H => tb (wAll X.K i Wo D l) D σ H) := by
  refine ⟨fun pins s σ H D I h => ?_⟩
  have fr : X.A.frames = some (X.env :: X.outer) := by rw [I.ok.frames, hs]
  have I0 := I.ok
  refine wpAny_Try_except (wpAny_mono ((hb (wAll X.K i Wo D l) (X.pn ++ pins) (fun e s1 => wpAny (model X.prog X.w) X.A (noteFrame e X.env) (fun _ s2 => wpAny (model X.prog X.w) X.A (setFlight e none) (fun _ s3 => wpAny (model X.prog X.w) X.A (handleBy e X.env (h0 :: hds)) (SP X pins D) X.xe s3) X.xe s2) X.xe s1) (fun u s1 xx => ?_) PassesOwn.looking).run [] s σ H D (I.toTry _) h) (fun f s1 q => ?_) fun e s1 z => z)
  · obtain ⟨a, B, sI, _, σ1, H1, cls, d, rfl, J1, nb, up, sky, na, os, ag, w⟩ := xx
    have J : Inv X pins σ1 H1 sI := J1.ofTry I0
    rw [hs] at sky
    refine Sky.land Zc.steady fr hf sky fun h3 fl up3 => ?_
    have J3 : Inv X pins σ1 H1 { s1 with heap := h3 } := J.landed nb fl.1 (up.trans up3) os ag
    obtain ⟨oe, vs, he, hz, hd⟩ := fl.there
    have nfr : a ∉ frs (X.env :: X.outer) := fun z => by
      obtain ⟨_, o, e, q⟩ := fl.2.2.1.mem z
      rw [he] at e
      cases e
      exact q _ hd
    have nL : a ≠ X.env.locals := fun z => nfr (List.mem_filterMap.mpr ⟨X.env, List.mem_cons_self, by rw [hf, z]⟩)
    have nF : a ∉ X.fs := fun z => by
      obtain ⟨e, he, q⟩ := List.mem_filterMap.mp z
      exact nfr (List.mem_filterMap.mpr ⟨e, List.mem_cons_of_mem _ he, q⟩)
    have S3 := J3.suite he hd na nL nF
    have each : ∀ {hs' : List ExceptHandler} {l' : List HTs}, HdsA X n hs' l' → wAll X.K i Wo D l' cls d σ1 H1 → wpAny (model X.prog X.w) X.A (handleBy (.ref a) X.env hs') (SP X pins D) X.xe { s1 with heap := h3 } := by
      intro hs' l' hk
      induction hk with
      | nil =>
        intro w
        refine wpAny_handleBy_nil ?_
        obtain ⟨_, _, _, oe', vs', T, oT, tt, he', hz', hd', h1, hr⟩ := id fl
        have out : wpAny (model X.prog X.w) X.A (setFlight (.ref a) X.env.frame) (fun _ s4 => wpAny (model X.prog X.w) X.A (throw (.ref a) : Sem Flow) (SP X pins D) X.xe s4) X.xe { s1 with heap := h3 } := by
          rw [hf]
          exact HandSPX.setFlight_upZ fl fun h4 hh4 up4 => wpAny_throw (tk _ _ ⟨a, B, sI, pins, σ1, H1, cls, d, rfl, J, nb, (up.trans up3).trans up4, .inr (.inr (by rw [hs]; exact hh4)), na, os, ag, w⟩)
        unfold PySem.passOn
        refine wpAny_bind (wpAny_field he' hd' h1 ?_)
        rw [if_neg (show ¬ ((Value.ref T == Value.none) = true) from by simp)]
        first
          | exact wpAny_bind (wpAny_pure (wpAny_bind out))
          | exact wpAny_bind out
      | @cons x c ts st np p hds2 l2 hc hsu r ih =>
        intro w
        obtain ⟨b, hb1, yes, no⟩ := w
        refine wpAny_handleBy_cons (codeAny_handlers_test ?_) (by intro q; cases q)
        have L1 : PySem.W.Looks (model X.prog X.w) h3 (typeOf (.ref a)) cls := fun A Q E s k q => wpAny_typeOf_ref (k _ _ he) (by rw [hz.1]; exact q)
        have L2 := PySem.W.exm_one (M := model X.prog X.w) J3.kIn L1 hb1
        have name : ∀ {Q : Value → Shared → Prop} {E : Value → Shared → Prop}, Q c { s1 with heap := h3 } → wpAny (model X.prog X.w) (X.A.mark (some (.ref a))) (eval (.Name x np) X.env) Q E { s1 with heap := h3 } := fun {Q E} q => by
          obtain ⟨g1, g2, g3 | ⟨g3, g4, g5⟩⟩ := hc
          · exact ld_glob (X := X.suite a ((a, oe) :: (X.pn ++ pins))) S3 g1 g3 q g2
          · exact ld_blt (X := X.suite a ((a, oe) :: (X.pn ++ pins))) S3 g1 g3 g4 q g5 g2
        refine name (L2.here ?_)
        cases b with
        | false => exact ih (no rfl)
        | true =>
          refine codeAny_handlers_suite_as (HandSPX.lands_againZ fl fun h4 fl4 up4 => ?_)
          have J4 : Inv X pins σ1 H1 { s1 with heap := h4 } := J.landed nb fl4.1 ((up.trans up3).trans up4) os ag
          obtain ⟨oe4, vs4, he4, hz4, hd4⟩ := fl4.there
          refine store_ok (X := X.suite a ((a, oe4) :: (X.pn ++ pins))) (v := .ref a) (J4.suite he4 hd4 na nL nF) hN hi (.inl hln) rfl (fun s5 S5 => ?_) (.inr hln)
          refine wpAny_mono ((hsu a oe4 cls d (X.pn ++ pins) hz4 ⟨_, hd4⟩).run [] s5 _ H1 _ S5 (yes rfl a na)) (fun f s6 q => ?_) fun _ _ z => False.elim z
          have fin : ∀ {σ6 : St} {H6 : Hp} {Q : Shared → Prop}, Inv (X.suite a ((a, oe4) :: (X.pn ++ pins))) [] σ6 H6 s6 → (∀ s7, Inv X pins (σ6.set i none) H6 s7 → Q s7) →
              wpAny (model X.prog X.w) X.A (do bindName X.env n .none; unbindBehindTheSuite X.env n p) (fun _ s7 => Q s7) X.xe s6 := fun {σ6 H6 Q} S6 hq => gone_ok (S6.unsuite I0) hN hi hln hq
          cases f with
          | ret u =>
            obtain ⟨v, σ6, H6, S6, r6, q6⟩ := q
            exact fin S6 fun s7 J7 => ⟨_, _, _, J7, r6, q6⟩
          | next =>
            obtain ⟨σ6, H6, S6, q6⟩ := q
            exact fin S6 fun s7 J7 => ⟨_, _, J7, q6⟩
          | brk =>
            obtain ⟨σ6, H6, S6, q6⟩ := q
            exact fin S6 fun s7 J7 => ⟨_, _, J7, q6⟩
          | cont =>
            obtain ⟨σ6, H6, S6, q6⟩ := q
            exact fin S6 fun s7 J7 => ⟨_, _, J7, q6⟩
    exact each hh w
  · cases f with
    | ret u =>
      obtain ⟨v, σ1, H1, J1, r, q⟩ := q
      exact ⟨v, σ1, H1, J1.ofTry I0, r, q⟩
    | next =>
      obtain ⟨σ1, H1, J1, q⟩ := q
      exact wpAny_execs_nil ⟨σ1, H1, J1.ofTry I0, q⟩
    | brk =>
      obtain ⟨σ1, H1, J1, q⟩ := q
      exact ⟨σ1, H1, J1.ofTry I0, q⟩
    | cont =>
      obtain ⟨σ1, H1, J1, q⟩ := q
      exact ⟨σ1, H1, J1.ofTry I0, q⟩
end
end Ev

set_option Elab.async false
set_option linter.all false
set_option maxRecDepth 100000
set_option maxHeartbeats 2000000
/-! try / except C as e. -/
noncomputable section
namespace Ev
open PySem PySem.Spec PyProof.Rows L2
structure ClOk (M : Mo) (cl : Cl) : Prop where
  cat : ∀ c d b, cl.cat c d = some b → PySem.W.exmOne M.K (.ref (M.ca c)) (.ref (M.ca d)) = some b
  fld : ∀ c f, inS f (cl.fields c) = true → XfC M.K (M.ca c) ∧ PySem.W.findIn M.K (.ref (M.ca c)) f = some none
section
variable {M : Mo} {X : Cx} {N : List Str} {sc : Scope} {k : Nat} {W : WX} {md : Md} {cl : Cl} {rc : Rec} {pos : Pos} {a : Addr} {i : Nat} {cls : Value} {d : Option Addr} {oe : Obj} {pn : List (Addr × Obj)}
/-- the state in a suite -/
structure HotAt (M : Mo) (a : Addr) (i : Nat) (cls : Value) (d : Option Addr) (c : Cf) (h : LHeap) (s : LSt) (kx : Nat) (fs : List (Str × Val)) (σ : St) (H : Hp) : Prop where
  H : c.H = H
  h : RH M c h
  x : RX M c kx fs cls d
  e : σ[i]? = some (some (.ref a))
  s : RSl M c s σ
def tHE (M : Mo) (cl : Cl) (a : Addr) (i : Nat) (cls : Value) (d : Option Addr) (e : HE) : TE := fun σ H Q => ∃ c h s kx fs v, HotAt M a i cls d c h s kx fs σ H ∧ hotE cl kx fs s e = some v ∧ ∀ y, RV M c v y → Q y H
theorem PE.cases {e : Expr} {t' : TE} (h : ∀ σ H Q, t' σ H Q → ∃ t, PE X e t ∧ t σ H Q) : PE X e t' := ⟨fun pins s σ H Q I q => by
  obtain ⟨t, ht, q'⟩ := h σ H Q q
  exact ht.run pins s σ H Q I q'⟩
theorem he_fld (G : Gd M X N sc k W) (L : ClOk M cl) {n f : Str} {p : Pos} (hi : nthS N i n = true) (hv : isVis (look sc.names n) = true) (hd : (!strEq n sDebug) = true) (hc : (!strEq n sClassdict) = true) (hz : Zc cls d oe) (hf : ∃ vs, oe.data = .fields vs) :
    PE (X.suite a ((a, oe) :: pn)) (.Attribute (.Name n p) f pos) (tHE M cl a i cls d (.fld f)) := by
  refine PE.cases fun σ H Q ⟨c, h, s, kx, fs, v, A, ev, q⟩ => ?_
  have ev : (match inS f (cl.fields kx) with
    | true => lookF f fs
    | false => none) = some v := ev
  cases qi : inS f (cl.fields kx) with
  | false => rw [qi] at ev; cases ev
  | true =>
    rw [qi] at ev
    obtain ⟨T, hno⟩ := L.fld kx f qi
    obtain ⟨dx, gs, e1, e2, e3⟩ := A.x.d
    obtain ⟨y, ey, ry⟩ := lookF_rv e3 ev
    refine ⟨_, pe_xf (X := X) (C := M.ca kx) (n := f) (by rw [G.hK]; exact T) (by rw [G.hK]; exact hno) hz hf (pe_var (X := X.suite a ((a, oe) :: pn)) (i := i) (by show X.N[i]? = some n; rw [G.hN]; exact nthS_eq hi) (G.vis hv) (not_eq hd) (not_eq hc)), ?_⟩
    refine ⟨.ref a, A.e, rfl, A.x.cls, dx, gs, y, e1, ?_, ey, q y ry⟩
    rw [← A.H]
    exact e2
theorem he_lit {cst : Const} {j : Nat} {v : Val} (h : litEq cst v = true) : PE (X.suite a ((a, oe) :: pn)) (.Constant cst j pos) (tHE M cl a i cls d (.lit v)) := by
  cases cst <;> cases v <;> first | (cases h; done) | skip
  · exact PE.of pe_non fun σ H Q ⟨c, hh, s, kx, fs, v, A, ev, q⟩ => by cases ev; exact q _ .non
  · rename_i x y
    have e : x = y := by simpa [litEq] using h
    subst e
    exact PE.of pe_bl fun σ H Q ⟨c, hh, s, kx, fs, v, A, ev, q⟩ => by cases ev; exact q _ (.bl _)
  · rename_i x y
    have e : x = y := by simpa [litEq] using h
    subst e
    exact PE.of pe_int fun σ H Q ⟨c, hh, s, kx, fs, v, A, ev, q⟩ => by cases ev; exact q _ (.int _)
  · rename_i x y
    have e : x = y := strEq_iff.mp h
    subst e
    exact PE.of pe_str fun σ H Q ⟨c, hh, s, kx, fs, v, A, ev, q⟩ => by cases ev; exact q _ (.str _)
theorem he_glb (G : Gd M X N sc k W) (D : MdOk M md) {x y : Str} {v : Val} (hg : isGl (look sc.names x) = true) (hc : constIs x v md.consts = true) (hd : (!strEq x sDebug) = true) : PE (X.suite a ((a, oe) :: pn)) (.Name x pos) (tHE M cl a i cls d (.glb y v)) := by
  obtain ⟨u, z, e1, r, hr⟩ := D.const x v hc
  exact PE.of (pe_glob (X := X.suite a ((a, oe) :: pn)) (G.gl hg) (by show X.mg x = some u; rw [G.hmg]; exact e1) r (not_eq hd)) fun σ H Q ⟨c, hh, s, kx, fs, v, A, ev, q⟩ => by cases ev; exact q _ (hr c)
theorem he_var (G : Gd M X N sc k W) {x : Str} {j : Nat} (h : nthS N j x = true) (hv : isVis (look sc.names x) = true) (hd : (!strEq x sDebug) = true) (hc : (!strEq x sClassdict) = true) : PE (X.suite a ((a, oe) :: pn)) (.Name x pos) (tHE M cl a i cls d (.var j)) := by
  refine PE.of (pe_var (X := X.suite a ((a, oe) :: pn)) (i := j) (by show X.N[j]? = some x; rw [G.hN]; exact nthS_eq h) (G.vis hv) (not_eq hd) (not_eq hc)) fun σ H Q ⟨c, hh, s, kx, fs, v, A, ev, q⟩ => ?_
  obtain ⟨u, e1, r⟩ := A.s.at_ j v ev
  exact ⟨u, e1, q u r⟩
def tHL (M : Mo) (cl : Cl) (a : Addr) (i : Nat) (cls : Value) (d : Option Addr) (es : List HE) : TA := fun σ H Q => ∃ c h s kx fs vs, HotAt M a i cls d c h s kx fs σ H ∧ hotL cl kx fs s es = some vs ∧ ∀ ys, RVs M c vs ys → Q ys H
theorem hl_nil : PA (X.suite a ((a, oe) :: pn)) [] (tHL M cl a i cls d []) := PA.of pa_nil fun σ H Q ⟨c, h, s, kx, fs, vs, A, ev, q⟩ => by cases ev; exact q _ .nil
theorem hl_cons {e : Expr} {es : List Expr} {m : HE} {ms : List HE} (hn : notStar e = true) (he : PE (X.suite a ((a, oe) :: pn)) e (tHE M cl a i cls d m)) (hs : PA (X.suite a ((a, oe) :: pn)) es (tHL M cl a i cls d ms)) : PA (X.suite a ((a, oe) :: pn)) (e :: es) (tHL M cl a i cls d (m :: ms)) :=
  PA.of (pa_cons he hs (notStar_each hn)) fun σ H Q ⟨c, h, s, kx, fs, vs, A, ev, q⟩ => by
    unfold hotL at ev
    cases q1 : hotE cl kx fs s m with
    | none => rw [q1] at ev; cases ev
    | some v =>
      rw [q1] at ev
      cases q2 : hotL cl kx fs s ms with
      | none => rw [q2] at ev; cases ev
      | some ws =>
        rw [q2] at ev
        cases ev
        exact ⟨c, h, s, kx, fs, v, A, q1, fun y r => ⟨c, h, s, kx, fs, ws, A, q2, fun ys rs => q _ (.cons r rs)⟩⟩
/-- a suite's reading -/
def tHB (M : Mo) (cl : Cl) (a : Addr) (i : Nat) (cls : Value) (d : Option Addr) (b : HB) : TS := fun D σ H => ∃ c h s kx fs, HotAt M a i cls d c h s kx fs σ H ∧ GoS M c (hotB cl kx fs s h b) D W0
theorem hb_set {pk : Option NameKind → Bool} (G : Gs M X N sc k W) {x : Str} {p : Pos} {e : Expr} {j : Nat} {m : HE} (hi : nthS N j x = true) (hl : isLoc (look sc.names x) = true) (hn : notComp e = true) (he : PE (X.suite a ((a, oe) :: pn)) e (tHE M cl a i cls d m)) :
    PSs (X.suite a ((a, oe) :: pn)) [.Assign [.Name x p] e pos] (tHB M cl a i cls d (.set1 j m)) := by
  refine PSs.of (pss_one (ps_set (X := X.suite a ((a, oe) :: pn)) (i := j) (by show X.N.Nodup; rw [G.g.hN]; exact G.g.nd) (by show X.N[j]? = some x; rw [G.g.hN]; exact nthS_eq hi) (G.fl x hl).1 he (notComp_swap hn) (G.fl x hl).2)) fun D σ H ⟨c, h, s, kx, fs, A, g⟩ => ?_
  have g : GoS M c (match hotE cl kx fs s m with
    | some v => .ok (.nx (setV s j v)) h
    | none => .bad) D W0 := g
  cases q : hotE cl kx fs s m with
  | none => rw [q] at g; exact g.elim
  | some v =>
    rw [q] at g
    refine ⟨c, h, s, kx, fs, v, A, q, fun y r => ?_⟩
    have := g c _ (Ext.refl c) A.h (A.s.set j r)
    rw [A.H] at this
    exact this
theorem hb_ret {e : Expr} {m : HE} (he : PE (X.suite a ((a, oe) :: pn)) e (tHE M cl a i cls d m)) : PSs (X.suite a ((a, oe) :: pn)) [.Return (some e) pos] (tHB M cl a i cls d (.ret1 m)) := by
  refine PSs.of (pss_one (ps_ret he)) fun D σ H ⟨c, h, s, kx, fs, A, g⟩ => ?_
  have g : GoS M c (match hotE cl kx fs s m with
    | some v => .ok (.rt v) h
    | none => .bad) D W0 := g
  cases q : hotE cl kx fs s m with
  | none => rw [q] at g; exact g.elim
  | some v =>
    rw [q] at g
    refine ⟨c, h, s, kx, fs, v, A, q, fun y r => ?_⟩
    have := g c _ (Ext.refl c) A.h r
    rw [A.H] at this
    exact this
theorem hb_retT {es : List Expr} {j : Nat} {p : Pos} {ms : List HE} (he : PA (X.suite a ((a, oe) :: pn)) es (tHL M cl a i cls d ms)) : PSs (X.suite a ((a, oe) :: pn)) [.Return (some (.Tuple es j p)) pos] (tHB M cl a i cls d (.retT ms)) := by
  refine PSs.of (pss_one (ps_ret (pe_tup he))) fun D σ H ⟨c, h, s, kx, fs, A, g⟩ => ?_
  have g : GoS M c (match hotL cl kx fs s ms with
    | some vs => (match Nat.ble vs.length line with
      | true => .ok (.rt (.tup vs)) h
      | false => .bad)
    | none => .bad) D W0 := g
  cases q : hotL cl kx fs s ms with
  | none => rw [q] at g; exact g.elim
  | some vs =>
    rw [q] at g
    dsimp only at g
    cases ql : Nat.ble vs.length line with
    | false => rw [ql] at g; exact g.elim
    | true =>
      rw [ql] at g
      refine ⟨c, h, s, kx, fs, vs, A, q, fun ys r => ⟨by rw [← r.length, ← line_eq]; exact ble_true ql, fun p hp => ?_⟩⟩
      rw [← A.H] at hp ⊢
      obtain ⟨R', ex⟩ := A.h.side (u := .tup ys) hp
      exact g (c.upd p (.tup ys)) (.ref p) ex R' (.tup upd_same (r.ext ex))
theorem RSl.over {c : Cf} {s : LSt} {σ : St} (S : RSl M c s σ) (i : Nat) (v : V) : RSl M c (unV s i) (σ.set i (some v)) := by
  refine ⟨by rw [length_unV, List.length_set]; exact S.len, fun j u e => ?_⟩
  rw [getV_unV] at e
  by_cases q : j = i
  · rw [if_pos q] at e; cases e
  · rw [if_neg q] at e
    obtain ⟨y, e1, r⟩ := S.at_ j u e
    exact ⟨y, by rw [List.getElem?_set_ne (Ne.symm q)]; exact e1, r⟩
theorem gone_go {c : Cf} {r : RS} {D : Ends} (g : GoS M c (gone i r) D W) : GoS M c r { nx := fun σ' H' => D.nx (σ'.set i none) H', rt := D.rt, bk := fun σ' H' => D.bk (σ'.set i none) H', ct := fun σ' H' => D.ct (σ'.set i none) H' } W0 := by
  cases r with
  | ok f h =>
    cases f with
    | nx s => exact fun c' σ' e R S => g c' (σ'.set i none) e R (S.un i)
    | rt v => exact g
    | bk s => exact g.elim
    | ct s => exact g.elim
  | exc _ _ _ _ => exact g.elim
  | bad => exact g.elim
/-- the clauses of a try, one by one -/
inductive HdsM (M : Mo) (X : Cx) (cl : Cl) (sc : Scope) (n : Str) (i : Nat) : List ExceptHandler → List (Nat × Nat × HB) → Prop where
  | nil : HdsM M X cl sc n i [] []
  | cons {x : Str} {np p : Pos} {st : Stmt} {ci : Nat} {hb : HB} {hds : List ExceptHandler} {hs : List (Nat × Nat × HB)} (hx : M.mg x = some (.ref (M.ca ci))) (hg : isGl (look sc.names x) = true) (hd : (!strEq x sDebug) = true)
      (hsu : ∀ (a : Addr) (oe : Obj) (cls : Value) (d : Option Addr) (pn : List (Addr × Obj)), Zc cls d oe → (∃ vs, oe.data = .fields vs) → PSs (X.suite a ((a, oe) :: pn)) [st] (tHB M cl a i cls d hb)) (r : HdsM M X cl sc n i hds hs) :
      HdsM M X cl sc n i (.ExceptHandler (some (.Name x np)) (some n) [st] p :: hds) ((ci, i, hb) :: hs)
def hTs (M : Mo) (cl : Cl) (i : Nat) (p : Nat × Nat × HB) : HTs := (.ref (M.ca p.1), fun a cls d => tHB M cl a i cls d p.2.2)
theorem HdsM.to (G : Gd M X N sc k W) {n : Str} {i : Nat} {hds : List ExceptHandler} {hs : List (Nat × Nat × HB)} (h : HdsM M X cl sc n i hds hs) : HdsA X n hds (hs.map (hTs M cl i)) := by
  induction h with
  | nil => exact .nil
  | cons hx hg hd hsu r ih => exact .cons ⟨G.gl hg, not_eq hd, .inl (by rw [G.hmg]; exact hx)⟩ hsu ih
theorem HdsM.wish (G : Gd M X N sc k W) (L : ClOk M cl) {n : Str} {i : Nat} {D : Ends} {c1 : Cf} {kx : Nat} {fs : List (Str × Val)} {s1 : LSt} {h1 : LHeap} {σ1 : St} {cls : Value} {d : Option Addr} (R1 : RH M c1 h1) (S1 : RSl M c1 s1 σ1) (x1 : RX M c1 kx fs cls d) {hds : List ExceptHandler} {hs : List (Nat × Nat × HB)} (h : HdsM M X cl sc n i hds hs)
    (g1 : GoS M c1 (handle cl kx fs s1 h1 hs) D W) : wAll X.K i W D (hs.map (hTs M cl i)) cls d σ1 c1.H := by
  induction h with
  | nil => exact g1 c1 cls d σ1 (Ext.refl c1) R1 S1 x1
  | @cons x np p st ci hb hds hs hx hg hd hsu r ih =>
    unfold handle at g1
    dsimp only at g1
    cases qc : cl.cat kx ci with
    | none => rw [qc] at g1; exact g1.elim
    | some b =>
      rw [qc] at g1
      refine ⟨b, by rw [G.hK, x1.cls]; exact L.cat kx ci b qc, fun hb1 a ha => ?_, fun hb1 => ?_⟩
      · subst hb1
        dsimp only at g1
        cases ql : Nat.blt i s1.length with
        | false => rw [ql] at g1; exact g1.elim
        | true =>
          rw [ql] at g1
          exact ⟨c1, h1, unV s1 i, kx, fs, ⟨rfl, R1, x1, List.getElem?_set_self (by rw [← S1.len]; exact blt_true ql), S1.over i _⟩, gone_go g1⟩
      · subst hb1
        exact ih g1
theorem ss_tryAs (G : Gs M X N sc k W) (L : ClOk M cl) {n : Str} {i : Nat} {body : List Stmt} {mb : List S} {h0 : ExceptHandler} {hds : List ExceptHandler} {hs : List (Nat × Nat × HB)} (hi : nthS N i n = true) (hl : isLc (look sc.names n) = true)
    (hbody : ∀ (W' : WX) (pn : List (Addr × Obj)) (xe : Value → Shared → Prop), Takes (X.tr pn xe) W' → PassesOwn (model X.prog X.w) X.A X.env xe → PSs (X.tr pn xe) body (tEvS M W' (execs rc mb)))
    (hh : HdsM M X cl sc n i (h0 :: hds) hs) : PS X (.Try body (h0 :: hds) [] [] pos) (tEvS M W (stepS cl rc (.tri mb hs))) := by
  have hln : X.env.kindOf n = some .local := (by
    unfold Env.kindOf
    rw [look_eq] at hl
    rw [G.g.hsc]
    cases e : sc.names.lookup n with
    | none => rw [e] at hl; cases hl
    | some kd => rw [e] at hl; cases kd <;> first | rfl | cases hl)
  refine PS.of (ps_try_all (i := i) (tb := fun W' => tEvS M W' (execs rc mb)) G.st G.fr (by rw [G.g.hN]; exact G.g.nd) (by rw [G.g.hN]; exact nthS_eq hi) hln G.g.tk hbody (hh.to G.g)) fun D σ H ⟨c, s, h, ⟨e, R, S⟩, g⟩ => ?_
  subst e
  refine ⟨c, s, h, ⟨rfl, R, S⟩, ?_⟩
  have g' : GoS M c (match execs rc mb s h with
    | .exc c fs s1 h1 => handle cl c fs s1 h1 hs
    | r => r) D W := g
  cases q : execs rc mb s h with
  | ok f h1 => rw [q] at g'; exact g'
  | bad => rw [q] at g'; exact g'
  | exc kx fs s1 h1 =>
    rw [q] at g'
    intro c1 cls d σ1 e1 R1 S1 x1
    exact hh.wish G.g L R1 S1 x1 (GoS.ext e1 g')
end
end Ev

set_option Elab.async false
set_option linter.all false
set_option maxRecDepth 100000
set_option maxHeartbeats 4000000
/-! A lambda without parameters, or with one that has a default, handed to a def that calls it. -/
noncomputable section
namespace Ev
open PySem PySem.Spec PyProof.Rows L2 LamX
/-- the names of such a lambda: captured ones, globals, a parameter that is no name of the maker -/
structure LamP (N : List Str) (sc scope : Scope) : Prop where
  kind : scope.kind = .function
  co : scope.isCoroutine = false
  gen : scope.isGenerator = false
  own : ∀ y ∈ scope.names, y.2 = .local → y.1 ∉ N
  nc : ∀ y ∈ scope.names, y.2 ≠ .cell
  free : ∀ y ∈ scope.names, y.2 = .free → sc.names.lookup y.1 = some .cell ∨ sc.names.lookup y.1 = some .free
section
variable {X : Cx} {pins : List (Addr × Obj)} {σ : L2.St} {H HZ : Hp} {s s1 : Shared}
theorem LamP.has {N : List Str} {scope : Scope} (L : LamP N X.env.scope scope) (ok : X.Ok) : ∀ y ∈ scope.names, y.2 = .free → ∃ c, X.env.cells.lookup y.1 = some c := fun y hy e => (L.free y hy e).elim (fun k => ok.has _ (.inl k)) fun k => ok.has _ (.inr k)
abbrev lamO (X : Cx) (params : Arguments) (body : Expr) (scope : Scope) (dV doc pm : Value) (c' : Addr) (ctv : Value) : Obj := PySem.W.kdv_obj "<lambda>" (X.env.qual ++ "<lambda>") params (.expr body) scope (cloFrom X.env.cells scope.names []) dV doc pm c' ctv
theorem newFr (I : Inv X pins σ H s) (f : Addr) (hf : s.heap.objs.size ≤ f) : f ∉ frs X.stack := fun z => by
  rcases List.mem_cons.mp (I.stkSub _ z) with e | e
  · have := I.lt
    rw [← e] at this
    exact absurd this (Nat.not_lt.mpr hf)
  · exact I.nofs hf e
/-- the making, behind the defaults -/
theorem lam_tail {T : List (Addr × Str)} {c P : Addr} {params : Arguments} {body : Expr} {scope : Scope} {pos : Pos} {dV : Value} {E : Value → Shared → Prop} {Q : Value → Shared → Prop} (I : Inv X pins σ H s) (TB : TabB X.base X.mg c P) (hcode : X.env.code = .ref c)
    (hm : (P, X.env.qual ++ "<lambda>") ∈ T) (hu : ∀ p ∈ T, p.1 = P → p.2 = X.env.qual ++ "<lambda>") (hT : Tabs T H) (hfree : ∀ y ∈ scope.names, y.2 = .free → ∃ c, X.env.cells.lookup y.1 = some c)
    (h : ∀ (f c' : Addr) (doc pm ctv : Value) (H1 : Hp) (s' : Shared), Inv X pins σ H1 s' → ExtN H H1 → Tabs T H1 → s'.heap.get? f = some (lamO X params body scope dV doc pm c' ctv) → H1 f = none → f ∉ frs X.stack → H1 c' = some (CodeO c' (X.env.qual ++ "<lambda>")) →
      (∀ b o, s.heap.get? b = some o → H b = none → s'.heap.get? b = some o ∧ H1 b = none) → Q (.ref f) s') :
    wpAny (model X.prog X.w) X.A (makeTail "<lambda>" (X.env.qual ++ "<lambda>") params (.expr body) scope X.env dV .none none pos pos.line) Q E s := by
  obtain ⟨ps, hP, ht, ha⟩ := hT _ hm
  have atP : s.heap.get? P = some { cls := .none, data := .fields ps } := I.hok P _ hP
  have bm : s.heap.BuiltinsAt X.mg P := TB.bm.keeps I.bk
  cases q : codeAmong pos ps.toList with
  | some cv =>
    obtain ⟨c', rfl, hco⟩ := ha pos cv q
    refine PySem.W.kdv_makeTailHit (mg := X.mg) (c := c) (P := P) (ps := ps) (closure_ok hfree) I.ok.glob (I.mod.glob.keeps I.bk) hcode (TB.code.keeps I.bk) atP ht q bm fun ctv doc h' tk kp sz => ?_
    exact h h'.objs.size c' doc ((X.mg "__name__").getD .none) ctv H _ (I.kept fun b o e => Heap.get?_push_of_some _ (kp b o e)) (ExtN.refl H) hT (Heap.get?_push_size _ rfl) (I.hok.fresh sz) (newFr I _ sz) hco fun b o e n => ⟨Heap.get?_push_of_some _ (kp b o e), n⟩
  | none =>
    refine PySem.W.kdv_makeTail (mg := X.mg) (c := c) (P := P) (ps := ps) (closure_ok hfree) I.ok.glob (I.mod.glob.keeps I.bk) hcode (TB.code.keeps I.bk) atP ht q TB.gP bm fun c' ctv doc h' tk hx ge lt hrec tb => ?_
    obtain ⟨c2, oc, vs, t, e2, hoc, hd, hv⟩ := hrec
    cases e2
    have sz : s.heap.objs.size ≤ h'.objs.size := Nat.le_trans ge (Nat.le_of_lt lt)
    have nC : H c' = none := I.hok.fresh ge
    have kpO : ∀ b o, b ≠ P → s.heap.get? b = some o → (h'.push (lamO X params body scope dV doc ((X.mg "__name__").getD .none) c' ctv)).get? b = some o := fun b o hb e => Heap.get?_push_of_some _ (hx b o hb e)
    have I1 := inv_table (t' := tk) (more := #[rawInt pos.line, rawInt pos.col, .ref c']) I hP kpO (Heap.get?_push_of_some _ tb) ge ⟨oc, vs, t, Heap.get?_push_of_some _ hoc, hd, hv⟩
    have eN : ExtN H (upd (upd H P (.tbl (ps ++ #[rawInt pos.line, rawInt pos.col, .ref c']))) c' (CodeO c' (X.env.qual ++ "<lambda>"))) := fun b o e n => by
      rw [upd_ne (ne_of_none e nC), upd_ne (fun z => n ps (Option.some.inj (e.symm.trans (by rw [z]; exact hP))))]
      exact e
    have eL : (ps ++ #[rawInt pos.line, rawInt pos.col, .ref c']).toList = ps.toList ++ [rawInt pos.line, rawInt pos.col, .ref c'] := by simp
    refine h h'.objs.size c' doc ((X.mg "__name__").getD .none) ctv _ _ I1 eN (fun p hp => ?_) (Heap.get?_push_size _ rfl) ?_ (newFr I _ sz) upd_same fun b o e n => ?_
    · by_cases hb : p.1 = P
      · rw [hu p hp hb, hb]
        refine ⟨_, by rw [upd_ne (ne_of_none hP nC), upd_same], by rw [eL]; exact PySem.TriplesOk_snoc _ _ _ _ ht, fun p' cv hcv => ?_⟩
        rw [eL] at hcv
        rcases among_app _ ht hcv with z | z
        · obtain ⟨c0, e1, e2⟩ := ha p' cv z
          exact ⟨c0, e1, eN _ _ e2 codeO_ne⟩
        · exact ⟨c', z, upd_same⟩
      · obtain ⟨ps', a1, a2, a3⟩ := hT p hp
        refine ⟨ps', by rw [upd_ne (ne_of_none a1 nC), upd_ne hb]; exact a1, a2, fun p' cv hcv => ?_⟩
        obtain ⟨c0, e1, e2⟩ := a3 p' cv hcv
        exact ⟨c0, e1, eN _ _ e2 codeO_ne⟩
    · rw [upd_ne (Nat.ne_of_gt lt), upd_ne (Nat.ne_of_gt (Nat.lt_of_lt_of_le (Heap.lt_size atP) sz))]
      exact I.hok.fresh sz
    · have nP : b ≠ P := fun z => by rw [z, hP] at n; cases n
      have nc : b ≠ c' := Nat.ne_of_lt (Nat.lt_of_lt_of_le (Heap.lt_size e) ge)
      exact ⟨kpO b o nP e, by rw [upd_ne nc, upd_ne nP]; exact n⟩
/-- what a call without arguments binds -/
structure LamB (s : Shared) (fd : FuncData) (scope : Scope) : Prop where
  to : ∃ binds, BindsTo s fd ⟨[], []⟩ binds ∧ ∀ y ∈ binds, scope.names.lookup y.1 = some .local
/-- the context of the lambda's body -/
theorem lam_enter {A : Around} {outer : List Env} {E : XK} {scope : Scope} {f c' : Addr} {h1 : Heap} {tk : Nat} {m : Str → Option Value} (I : Inv X pins σ H s) (L : LamP X.N X.env.scope scope) (e0 : Env0 X.prog X.w X.K X.mg X.base A outer s1 HZ) (hd : A.handled = none)
    (un : Un (frs X.stack) [] H HZ s.heap s1.heap) (hns : h1.Ns s1.heap.objs.size m) (kp : ∀ b o, s1.heap.get? b = some o → h1.get? b = some o) :
    Inv (lamCx X A outer s1 HZ E scope f c') [] σ HZ { s1 with heap := h1, toks := tk } := by
  have hfree := L.has I.ok
  have down : ∀ {y c}, (cloFrom X.env.cells scope.names []).lookup y = some c → X.env.cells.lookup y = some c := fun {y c} e => by
    rcases cloFrom_mem (PySem.mem_of_lookup e) with hm | ⟨g1, g2⟩
    · cases hm
    · obtain ⟨c1, hc⟩ := hfree _ g1 rfl
      have hc : X.env.cells.lookup y = some c1 := hc
      have : c = c1 := by rw [g2, hc] <;> rfl
      rw [this]
      exact hc
  have up : ∀ {y}, scope.names.lookup y = some .free → ∃ c, (cloFrom X.env.cells scope.names []).lookup y = some c := fun {y} hl => mem_lookup (cloFrom_has (cells := X.env.cells) (acc := []) (PySem.mem_of_lookup hl))
  have cell : ∀ {c : Addr} {v : Option Value}, H c = none → s.heap.IsCell c v → h1.IsCell c v := fun {c v} n ⟨o, ho, hd⟩ => by
    obtain ⟨sl, q⟩ := un.any ho n (by simp)
    exact ⟨_, kp _ _ q, hd⟩
  have no : ∀ b : Addr, b ∉ (lamCx X A outer s1 HZ E scope f c').ex := fun b z => absurd (show b ∈ ([] : List Addr) from z) (by simp)
  refine ⟨⟨e0.mod, L.kind, rfl, rfl, Nat.le_refl _, fun y z c e1 e2 => I.ok.inj y z c (down e1) (down e2), fun y hy => ?_, fun y c z _ => (nomatch (show false = true from z)), fun _ => hd, Around.frames_deeper e0.frames, .inr ⟨rfl, rfl⟩, fun b z => absurd z (no b), e0.bs, e0.bsz, fun b _ _ => no b, fun b z => absurd z (no b), e0.funs, e0.frf⟩,
    rfl, e0.bare, Un.kept kp, ⟨_, hns, fun i y v e1 e2 e3 => ?_⟩, fun y c e => ?_, e0.hok.fresh (Nat.le_refl _), fun y c e => ?_, fun q hq => absurd (show q ∈ ([] : List (Addr × Obj)) ++ [] from hq) (by simp), e0.hok.kept kp, I.len⟩
  · rcases (show scope.names.lookup y = some .cell ∨ scope.names.lookup y = some .free from hy) with hy | hy
    · exact absurd rfl (L.nc _ (PySem.mem_of_lookup hy))
    · exact up hy
  · rcases (show Vis scope y from e3) with g | g | g
    · exact absurd (List.mem_of_getElem? (show X.N[i]? = some y from e1)) (L.own _ (PySem.mem_of_lookup g) rfl)
    · exact absurd rfl (L.nc _ (PySem.mem_of_lookup g))
    · obtain ⟨m', hn, hl⟩ := I.loc
      have hv : Vis X.env.scope y := (L.free _ (PySem.mem_of_lookup g) rfl).elim (fun z => .inr (.inl z)) fun z => .inr (.inr z)
      obtain ⟨u, r, q⟩ := hl i y v e1 e2 hv
      obtain ⟨c2, h2⟩ := up g
      refine ⟨u, r, .inr ⟨.inr g, c2, h2, ?_⟩⟩
      rcases q with ⟨z, _⟩ | ⟨_, c3, e', z⟩
      · have z : X.env.scope.names.lookup y = some .local := z
        rcases L.free _ (PySem.mem_of_lookup g) rfl with k2 | k2 <;> rw [show X.env.scope.names.lookup y = _ from k2] at z <;> cases z
      · rw [down h2] at e'
        cases e'
        exact cell (I.freeC y _ (down h2)) z
  · obtain ⟨u, z⟩ := I.cell y c (down e)
    exact ⟨u, cell (I.freeC y c (down e)) z⟩
  · obtain ⟨v, o, ho, hd⟩ := I.cell y c (down e)
    exact un.free c o ho (I.freeC y c (down e)) (by simp)
/-- a(), in the def that got the lambda -/
theorem lam_act {CXg : CXT} {Eg : XK} {Ng : List Str} {qg : Str} {sg : Scope} {g f c' : Addr} {cdg doc pm ctv dV : Value} {params : Arguments} {body : Expr} {scope : Scope} {k i : Nat} {a : Str} {pn : List (Addr × Obj)} {xe : Value → Shared → Prop} {W : WX} {tb : XK → TE} {p1 p2 : Pos}
    (I : Inv X pins σ H s) (L : LamP X.N X.env.scope scope) (hf : s.heap.get? f = some (lamO X params body scope dV doc pm c' ctv)) (hfn : H f = none) (hfr : f ∉ frs X.stack)
    (hbind : ∀ sZ : Shared, (∀ b o, s.heap.get? b = some o → H b = none → b ∉ frs X.stack → sZ.heap.get? b = some o) → LamB sZ (PySem.W.kdv_fn "<lambda>" (X.env.qual ++ "<lambda>") params (.expr body) scope (cloFrom X.env.cells scope.names []) dV doc pm (.ref c') ctv) scope)
    (tk : Takes ((cxOf CXg X.prog X.w X.K X.mg X.base Ng qg sg g cdg X.A X.stack s H Eg).tr pn xe) W) (hr : Room (k + 1) (X.A.deeper (envOfC qg sg s.heap.objs.size g cdg))) (gu : X.A.guards = some [])
    (hbody : ∀ (A : Around) (outer : List Env) (s : Shared) (H : Hp) (E : XK), Room k (A.deeper (lamEnv X scope s.heap.objs.size f c')) → A.guards = some [] → PE (lamCx X A outer s H E scope f c') body (tb E))
    (hN : Ng[i]? = some a) (hv : Vis sg a) (hd : (a == ("__debug__" : Str)) = false) (hcd : (a == ("__classdict__" : Str)) = false) :
    PE ((cxOf CXg X.prog X.w X.K X.mg X.base Ng qg sg g cdg X.A X.stack s H Eg).tr pn xe) (.Call (.Name a p1) [] [] p2)
      (fun σZ HZ Q => σZ[i]? = some (some (.ref f)) ∧ HZ c' = some (CodeO c' (X.env.qual ++ "<lambda>")) ∧ tb (fun cls d H' => W cls d σZ H') σ HZ Q) := by
  refine ⟨fun pinsZ sZ σZ HZ Q IZ h => ?_⟩
  obtain ⟨hs, hc, ht⟩ := h
  refine wpAny_Call_Name_kw (thn ((pe_var (pos := p1) (i := i) hN hv hd hcd).run pinsZ sZ σZ HZ (fun v H1 => v = .ref f ∧ H1 = HZ) IZ ⟨.ref f, hs, rfl, rfl⟩) fun u s1 ⟨v, H1, I1, r1, q1⟩ => ?_)
  obtain ⟨ev, eH⟩ := q1
  subst ev
  rw [eH] at I1
  obtain rfl : u = Value.ref f := r1
  have keep : ∀ b o, s.heap.get? b = some o → H b = none → b ∉ frs X.stack → s1.heap.get? b = some o := fun b o e n nf => I1.base.keep b o e n nf (fun z => nomatch (show b ∈ ([] : List Addr) from z))
  have of1 := keep f _ hf hfn hfr
  refine PySem.W.callWith_F0 ⟨_, _, _, _, of1⟩ ?_
  obtain ⟨⟨oc, vs, t, hoc, hdc, hvc⟩, _, _⟩ := I1.hok c' _ hc
  have run : codeAny (model X.prog X.w) (X.A.deeper (envOfC qg sg s.heap.objs.size g cdg)) (.call (.ref f) ⟨[], []⟩) (CR (L2.CX X.prog X.w) (envOfC qg sg s.heap.objs.size g cdg :: X.stack) X.prog X.w HZ s1 Q (fun cls d H' => W cls d σZ H')) s1 := by
    obtain ⟨binds, hb, hloc⟩ := (hbind s1 keep).to
    refine PySem.W.kla_callFunE hr.depth of1 rfl L.co L.gen rfl ⟨c', oc, vs, t, rfl, hoc, hdc, hvc⟩ (hb _ _ _ _ ?_)
    refine wpAny_newFunctionEnv (fun y hy => L.nc y hy) hloc (fun h1 hns hsb => ⟨I1.nolimit.fresh _ hsb, ?_⟩) L.kind
    show codeAny _ _ (.expr body (lamEnv X scope s1.heap.objs.size f c')) _ _
    have kp : ∀ b o, s1.heap.get? b = some o → h1.get? b = some o := fun b o e => hsb.extBut b o (Nat.ne_of_lt (Heap.lt_size e)) (Heap.get?_push_of_some _ e)
    refine PySem.W.kla_codeExpr (wpAny_mono ((hbody _ _ s1 HZ _ (hr.deeper _) gu).run [] _ _ HZ Q (lam_enter I L I1.env0 hr.hd I1.base hns kp) ht) (fun v s' q => ?_) fun e s' q => q)
    obtain ⟨y, H', J, rv, q⟩ := q
    exact ⟨y, H', J.os, J.bare, J.base, J.hok, rv, q⟩
  refine wpAny_call (codeAny_mono run fun r s' q => ?_)
  cases r with
  | error e => exact tk e s' (XE.of_call I1 (fun cls d H' h => h) q)
  | ok fl =>
    cases fl with
    | ret u => exact I1.after q
    | _ => exact False.elim q
end
end Ev

set_option Elab.async false
set_option linter.all false
set_option maxRecDepth 100000
set_option maxHeartbeats 4000000
/-! x(lambda: e), x a def that tries it. -/
noncomputable section
namespace Ev
open PySem PySem.Spec PyProof.Rows L2 LamX
section
variable {X : Cx} {pins : List (Addr × Obj)} {σ : L2.St} {H : Hp} {s : Shared}
theorem lam_any {T : List (Addr × Str)} {c P : Addr} {params : Arguments} {body : Expr} {scope : Scope} {pos : Pos} {E : Value → Shared → Prop} {Q : Value → Shared → Prop} (I : Inv X pins σ H s) (TB : TabB X.base X.mg c P) (hcode : X.env.code = .ref c)
    (hm : (P, X.env.qual ++ "<lambda>") ∈ T) (hu : ∀ p ∈ T, p.1 = P → p.2 = X.env.qual ++ "<lambda>") (hT : Tabs T H) (hfree : ∀ y ∈ scope.names, y.2 = .free → ∃ c, X.env.cells.lookup y.1 = some c) (hp : lamPar params scope = true)
    (h : ∀ (f c' : Addr) (dV doc pm ctv : Value) (H1 : Hp) (s' : Shared), Inv X pins σ H1 s' → ExtN H H1 → Tabs T H1 → s'.heap.get? f = some (lamO X params body scope dV doc pm c' ctv) → H1 f = none → f ∉ frs X.stack → H1 c' = some (CodeO c' (X.env.qual ++ "<lambda>")) →
      (∀ sZ : Shared, (∀ b o, s'.heap.get? b = some o → H1 b = none → b ∉ frs X.stack → sZ.heap.get? b = some o) → LamB sZ (PySem.W.kdv_fn "<lambda>" (X.env.qual ++ "<lambda>") params (.expr body) scope (cloFrom X.env.cells scope.names []) dV doc pm (.ref c') ctv) scope) → Q (.ref f) s') :
    wpAny (model X.prog X.w) X.A (eval (.Lambda params body scope pos) X.env) Q E s := by
  unfold lamPar at hp
  split at hp
  · refine PySem.W.kla_eval rfl ?_
    rw [makeFunction_eq]
    simp only [List.zip_nil_right, List.filterMap_nil, List.isEmpty_nil, if_true, pure_bind]
    exact lam_tail I TB hcode hm hu hT hfree fun f c' doc pm ctv H1 s' I1 e1 e2 e3 e4 e5 e6 e7 => h f c' .none doc pm ctv H1 s' I1 e1 e2 e3 e4 e5 e6 fun sZ kp => ⟨[], BindsTo.of_eq rfl, fun y hy => absurd hy (by simp)⟩
  · rename_i x i j p
    refine PySem.W.kdv_lam rfl rfl (PySem.W.kdv_all1 (thn ((pe_int (X := X) (i := i) (j := j) (pos := p)).run pins s σ H (fun v H1 => v = .int i ∧ H1 = H) I ⟨rfl, rfl⟩) fun u s1 ⟨v, H1, I1, r, e1, e2⟩ => PySem.W.kdv_all0 ?_))
    subst e1 e2
    rw [makeFunction_eq]
    simp only [List.zip_nil_right, List.filterMap_nil, List.isEmpty_nil, List.isEmpty_cons, Bool.false_eq_true, if_false, if_true, pure_bind]
    refine wpAny_bind (wpAny_newTextTuple ?_)
    have I2 := I1.kept (t' := s1.toks) fun b o e => Heap.get?_push_of_some { cls := .type "tuple", data := .seq [u].toArray } e
    refine lam_tail I2 TB hcode hm hu hT hfree fun f c' doc pm ctv H1 s' I3 e1 e2 e3 e4 e5 e6 e7 => h f c' (.ref s1.heap.objs.size) doc pm ctv H1 s' I3 e1 e2 e3 e4 e5 e6 fun sZ kp => ?_
    obtain ⟨t1, t2⟩ := e7 s1.heap.objs.size _ (Heap.get?_push_size _ rfl) (I1.hok.fresh (Nat.le_refl _))
    have t3 := kp _ _ t1 t2 (newFr I1 _ (Nat.le_refl _))
    obtain ⟨xa, ann, xp⟩ := x
    rw [Bool.and_eq_true] at hp
    obtain ⟨hx, hp⟩ := hp
    dsimp only at hx hp
    obtain rfl := strEq_iff.mp hx
    refine ⟨[("_law_x", u)], BindsTo.of_defaults (T := s1.heap.objs.size) rfl t3 rfl rfl rfl, fun y hy => ?_⟩
    rw [List.mem_singleton] at hy
    rw [hy]
    rw [look_eq] at hp
    show scope.names.lookup ("_law_x" : Str) = _
    cases e : scope.names.lookup ("_law_x" : Str) with
    | none => rw [e] at hp; cases hp
    | some kd => rw [e] at hp; cases kd <;> first | rfl | cases hp
  · cases hp
end
/-! ### the module with other lists of lambdas -/
section
variable {M M' : Mo}
structure MoE (M M' : Mo) : Prop where
  K : M'.K = M.K
  fa : M'.fa = M.fa
  ca : M'.ca = M.ca
  cb : M'.cb = M.cb
  tb : M'.tb = M.tb
theorem MoE.symm (E : MoE M M') : MoE M' M := ⟨E.K.symm, E.fa.symm, E.ca.symm, E.cb.symm, E.tb.symm⟩
mutual
theorem RV.mo (E : MoE M M') {c : Cf} : ∀ {v : Val} {y : V}, RV M c v y → RV M' c v y
  | _, _, .non => .non
  | _, _, .bl b => .bl b
  | _, _, .int i => .int i
  | _, _, .str s => .str s
  | _, _, .tup h r => .tup h (RVs.mo E r)
  | _, _, .ref h => .ref h
  | _, _, .fn i => by rw [← E.fa]; exact .fn i
theorem RVs.mo (E : MoE M M') {c : Cf} : ∀ {v : List Val} {y : List V}, RVs M c v y → RVs M' c v y
  | _, _, .nil => .nil
  | _, _, .cons h t => .cons (RV.mo E h) (RVs.mo E t)
end
theorem RF.mo (E : MoE M M') {c : Cf} : ∀ {v : List (Str × Val)} {y : List (Str × V)}, RF M c v y → RF M' c v y
  | _, _, .nil => .nil
  | _, _, .cons h t => .cons (h.mo E) (RF.mo E t)
theorem RK.mo {κ : Type} (E : MoE M M') {c : Cf} : ∀ {v : List (κ × Val)} {y : List (κ × V)}, RK κ M c v y → RK κ M' c v y
  | _, _, .nil => .nil
  | _, _, .cons h t => .cons (h.mo E) (RK.mo E t)
theorem RO.mo (E : MoE M M') {c : Cf} {o : LObj} {a : Addr} (r : RO M c o a) : RO M' c o a := by
  cases r with
  | lst h r => exact .lst h (r.mo E)
  | frz h r => exact .frz (by rw [E.K]; exact h) (r.mo E)
  | dK h r => exact .dK h (r.mo E)
  | dT h r => exact .dT h (r.mo E)
  | ins h r => exact .ins (by rw [E.cb]; exact h) (r.mo E)
  | exc h hc hd hf hx r => exact .exc h (by rw [E.ca]; exact hc) hd hf hx (r.mo E)
theorem RH.mo (E : MoE M M') {c : Cf} {h : LHeap} (R : RH M c h) : RH M' c h := ⟨R.n, fun l o q => (R.o l o q).mo E, R.inj, R.nm, R.mn, by rw [E.tb]; exact R.tb⟩
theorem Ext.mo {c c' : Cf} (e : Ext M c c') : Ext M' c c' := ⟨⟨e.x.le, e.x.r, e.x.t⟩, e.m, e.f, e.fr, e.tr⟩
theorem RSl.mo (E : MoE M M') {c : Cf} {s : LSt} {σ : St} (r : RSl M c s σ) : RSl M' c s σ := ⟨r.len, fun i v h => let ⟨u, a, b⟩ := r.at_ i v h; ⟨u, a, b.mo E⟩⟩
theorem RX.mo (E : MoE M M') {c : Cf} {k : Nat} {fs : List (Str × Val)} {cls : Value} {d : Option Addr} (r : RX M c k fs cls d) : RX M' c k fs cls d := ⟨by rw [E.ca]; exact r.cls, by
  obtain ⟨a, gs, h1, h2, h3⟩ := r.d
  exact ⟨a, gs, h1, h2, h3.mo E⟩⟩
theorem Go.mo (E : MoE M M') {c : Cf} {r : Res Val} {Q : VK} {W : XK} (g : Go M c (RV M) r Q W) : Go M' c (RV M') r Q W := by
  cases r with
  | bad => exact g
  | ok v h => exact fun c' y e R r => g c' y e.mo (R.mo E.symm) (r.mo E.symm)
  | exc k fs h => exact fun c' cls d e R x => g c' cls d e.mo (R.mo E.symm) (x.mo E.symm)
theorem tEv_mo (E : MoE M M') {W : WX} {m : LSt → LHeap → Res Val} {σ : St} {H : Hp} {Q : VK} (h : tEv M W m σ H Q) : tEv M' W m σ H Q := by
  obtain ⟨c, s, hh, ⟨e, R, S⟩, g⟩ := h
  exact ⟨c, s, hh, ⟨e, R.mo E, S.mo E⟩, g.mo E⟩
end
/-- what is known of the def x that tries what it got, with the clauses hs -/
inductive SaidOk (M : Mo) (cl : Cl) (x : Str) (hs : List (Nat × Nat × HB)) : Prop where
  | mk {g : Addr} {oc kV doc pm cdv ct : Value} {od an : Option Addr} {osl : Array (Option Value)} {name qual a n : Str} {pg : Arguments} {sg : Scope} {h0 : ExceptHandler} {hds : List ExceptHandler} {p1 p2 p3 p4 p5 : Pos}
      (hm : M.mg x = some (.ref g)) (hk : PySem.W.keepIn M.K (.ref g) = true)
      (lk : M.K.lookup g = some ⟨oc, od, .func (PySem.W.fnOf name qual pg [.Try [.Return (some (.List [.Call (.Name a p1) [] [] p2] p3)) p4] (h0 :: hds) [] [] p5] sg .none kV doc pm an cdv ct), osl⟩) (hcd : PySem.W.codeIn M.K cdv qual = true)
      (hb : Binds M.K (PySem.W.fnOf name qual pg [.Try [.Return (some (.List [.Call (.Name a p1) [] [] p2] p3)) p4] (h0 :: hds) [] [] p5] sg .none kV doc pm an cdv ct) [a] []) (S : FnScope [a, n] [a] sg)
      (va : isVis (look sg.names a) = true) (vn : isLc (look sg.names n) = true) (da : (!strEq a sDebug) = true) (dc : (!strEq a sClassdict) = true) (nl : memLL [a, n] M.lam = false)
      (hh : ∀ (Z : Cx) (k : Nat) (W : WX), Gs M Z [a, n] sg k W → HdsM M Z cl sg n 1 (h0 :: hds) hs) : SaidOk M cl x hs
section
variable {M : Mo} {X : Cx} {N : List Str} {sc : Scope} {k : Nat} {W : WX} {md : Md} {cl : Cl} {calls : Nat → List Val → LHeap → Res Val} {rc : Rec} {pos : Pos}
theorem vis_of {sc : Scope} {a : Str} (h : isVis (look sc.names a) = true) : Vis sc a := by
  rw [look_eq] at h
  show sc.names.lookup a = _ ∨ _
  cases e : sc.names.lookup a with
  | none => rw [e] at h; cases h
  | some kd =>
    rw [e] at h
    cases kd <;> first | exact .inl rfl | exact .inr (.inl rfl) | exact .inr (.inr rfl) | cases h
theorem se_said (G : Gd M X N sc k W) (hlam : memLL N M.lam = true) (CO : ClOk M cl) {x : Str} {j : Nat} (SO : SaidOk M cl x (cl.said j)) {params : Arguments} {body : Expr} {scope : Scope} {p lpos : Pos} {mb : E} (hg : isGl (look sc.names x) = true) (hd : (!strEq x sDebug) = true)
    (hp : lamPar params scope = true) (L : LamP N sc scope) (hbody : ∀ (X' : Cx) (W' : WX), Gd { M with lam := [] } X' N scope k W' → PE X' body (tEv M W' (rc.e mb))) :
    PE X (.Call (.Name x p) [.Lambda params body scope lpos] [] pos) (tEv M W (stepE cl calls rc (.said j mb))) := by
  refine ⟨fun pins s σ H Q I h => ?_⟩
  obtain ⟨c, st, hh, ⟨rfl, R, S⟩, g⟩ := h
  obtain ⟨hm, hk, lk, hcd, hb, Sg, va, vn, da, dc, nl, HH⟩ := SO
  rename_i ga oc kV doc0 pm0 cdv ct od an osl name qual a n pg sg h0 hds p1 p2 p3 p4 p5
  obtain ⟨⟨cc, P, hcode, TB, hmT, huT⟩, hr⟩ := G.lam hlam
  have L' : LamP X.N X.env.scope scope := by rw [G.hN, G.hsc]; exact L
  refine wpAny_Call_Name_kw (ld_glob I (G.gl hg) (by rw [G.hmg]; exact hm) ?_ (not_eq hd))
  refine PySem.W.callWith_K (h₀ := X.base) I.ok.mod.kin (by rw [G.hK]; exact hk) ?_ (by rfl) (by rfl)
  show wpAny _ _ (spliced ((false, eval (.Lambda params body scope lpos) X.env) :: backTo pos (starEach [] X.env))) _ _ s
  refine Calls.spliced_cons (lam_any I TB hcode hmT huT R.tb (L'.has I.ok) hp fun f c' dV doc pm ctv H1 s' I1 eN T1 hf hfn hfr hco hbd => Calls.spliced_nil ⟨I1.kIn, ?_⟩)
  have R1 : RH M (c.lam H1) hh := R.lam eN T1
  have e1 : Ext M c (c.lam H1) := Ext.lam eN
  have S1 := S.ext e1
  have g1 := Go.ext e1 g
  have nab : [a, n].Nodup := Sg.nd
  have hln : sg.names.lookup n = some .local := by
    rw [look_eq] at vn
    cases e : sg.names.lookup n with
    | none => rw [e] at vn; cases vn
    | some kd => rw [e] at vn; cases kd <;> first | rfl | cases vn
  have run : codeAny (model X.prog X.w) X.A (.call (.ref ga) ⟨[.ref f], []⟩) (CR (L2.CX X.prog X.w) X.stack X.prog X.w H1 s' Q (fun _ _ _ => False)) s' := by
    have hb' := hb s' [.ref f] (by rw [← G.hK]; exact I1.kIn) rfl
    refine run_ofS (N := [a, n]) (ps := [a]) (us := [.ref f]) (vs := [.ref f]) (k := k + 2) (by rw [G.hK]; exact lk) (by rw [G.hK]; exact hcd) Sg hr I1.env0 hb' (.cons rfl .nil) rfl fun hr' => ?_
    obtain ⟨Z, eZ⟩ : ∃ Z, Z = cxOf (L2.CX X.prog X.w) X.prog X.w X.K X.mg X.base [a, n] qual sg ga cdv X.A X.stack s' H1 (fun _ _ _ => False) := ⟨_, rfl⟩
    have GZ : Gs M Z [a, n] sg k (fun _ _ _ _ => False) := by
      subst eZ
      refine ⟨⟨G.hP, G.hw, G.hK, G.hmg, G.hbase, rfl, nab, rfl, Sg.kind, rfl, hr'.mono (Nat.le_succ _), G.gu, takes_of rfl rfl rfl rfl, fun h => by rw [nl] at h; cases h⟩, fun y hy => ⟨?_, .inl rfl⟩, passes_of rfl, rfl, rfl⟩
      rw [look_eq] at hy
      cases e : sg.names.lookup y with
      | none => rw [e] at hy; cases hy
      | some kd => rw [e] at hy; cases kd <;> first | (exact .inl e) | (exact .inr e) | cases hy
    have HZ := HH Z k _ GZ
    have body1 : ∀ (W' : WX) (pn : List (Addr × Obj)) (xe : Value → Shared → Prop), Takes (Z.tr pn xe) W' → PassesOwn (model Z.prog Z.w) Z.A Z.env xe → PSs (Z.tr pn xe) [.Return (some (.List [.Call (.Name a p1) [] [] p2] p3)) p4]
        (fun D σZ HZ => ∃ c1 h1, c1.H = HZ ∧ RH M c1 h1 ∧ RSl M c1 st σ ∧ σZ[0]? = some (some (.ref f)) ∧ HZ c' = some (CodeO c' (X.env.qual ++ "<lambda>")) ∧
          Go M c1 (RV M) (rc.e mb st h1) (fun y H' => ∀ q, H' q = none → D.rt (.ref q) (upd H' q (.lst [y]))) (fun cls d H' => W' cls d σZ H')) := by
      intro W' pn xe tk po
      subst eZ
      have act := lam_act (i := 0) (p1 := p1) (p2 := p2) (k := k + 1) (tb := fun E => tEv M (fun cls d _ H => E cls d H) (rc.e mb)) I1 L' hf hfn hfr hbd tk hr' G.gu (fun A outer s H E r gu => ?_) (show [a, n][0]? = some a from rfl) (vis_of va) (not_eq da) (not_eq dc)
      · refine PSs.of (pss_one (ps_ret (pe_lst (pa_cons act pa_nil rfl)))) fun D σZ HZ ⟨c1, h1, eH, R2, S2, g0, gc, gg⟩ => ?_
        subst eH
        exact ⟨g0, gc, c1, st, h1, ⟨rfl, R2, S2⟩, gg.imp fun y H' q => ⟨by show 1 ≤ sizeLine; rw [sizeLine_eq]; decide, q⟩⟩
      · exact hbody _ _ ⟨G.hP, G.hw, G.hK, G.hmg, G.hbase, G.hN, G.nd, rfl, L.kind, rfl, r, gu, takes_of rfl rfl rfl rfl, fun h => nomatch h⟩
    refine ⟨_, by rw [← eZ]; exact pss_one (ps_try_all (i := 1) (n := n) (Wo := fun _ _ _ _ => False) GZ.st GZ.fr (by rw [GZ.g.hN]; exact nab) (by rw [GZ.g.hN]; rfl) (by unfold Env.kindOf; rw [GZ.g.hsc]; exact hln) GZ.g.tk body1 (HZ.to GZ.g)), ?_⟩
    refine ⟨c.lam H1, hh, rfl, R1, S1, rfl, hco, ?_⟩
    have g2 : Go M (c.lam H1) (RV M) (match rc.e mb st hh with
      | .ok v h1 => alloc (.lst [v]) h1
      | .exc c fs h1 => (match handle cl c fs [none, none] h1 (cl.said j) with
        | .ok (.rt v) h2 => .ok v h2
        | _ => .bad)
      | .bad => .bad) Q (fun cls d H' => W cls d σ H') := g1
    cases q : rc.e mb st hh with
    | bad => rw [q] at g2; exact g2.elim
    | ok v h2 =>
      rw [q] at g2
      intro c2 y e2 R2 rv
      exact go_alloc_lst R2 (.cons rv .nil) (Go.ext e2 g2)
    | exc kx fs h2 =>
      rw [q] at g2
      dsimp only at g2
      intro c2 cls d e2 R2 x2
      refine HZ.wish GZ.g CO (s1 := [none, none]) R2 ⟨rfl, fun i v e => ?_⟩ x2 ?_
      · cases i with
        | zero => cases e
        | succ i => cases i <;> cases e
      · have g3 := Go.ext e2 g2
        cases qh : handle cl kx fs [none, none] h2 (cl.said j) with
        | bad => rw [qh] at g3; exact g3.elim
        | exc _ _ _ _ => rw [qh] at g3; exact g3.elim
        | ok fl h3 =>
          rw [qh] at g3
          cases fl with
          | rt v => exact fun c' y e R r => g3 c' y e R r
          | _ => exact g3.elim
  refine wpAny_call (codeAny_mono run fun r s2 q => ?_)
  cases r with
  | error e =>
    obtain ⟨_, _, _, _, _, _, _, _, _, _, _, _, z⟩ := q
    exact z.elim
  | ok fl =>
    cases fl with
    | ret u => exact I1.after q
    | _ => exact False.elim q
end
end Ev

set_option Elab.async false
set_option linter.all false
set_option maxRecDepth 100000
set_option maxHeartbeats 4000000
/-! Dicts of the module's top; join; displays with computed keys. -/
noncomputable section
namespace Ev
open PySem PySem.Spec PyProof.Rows L2
def ginB (neg b : Bool) : Bool := match neg with
  | true => !b
  | false => b
/-- g names a dict of texts, its entries as tbl tells -/
structure GdOk (M : Mo) (g : Str) (tbl : List (Str × Str)) : Prop where
  ex : ∃ a es n, M.mg g = some (.ref a) ∧ KDict M.K M.w a es n ∧ ∀ z, match lookS z tbl with
    | some v => ∃ t, PySem.W.nsIn M.K a z = some (some (.str v t))
    | none => PySem.W.nsIn M.K a z = some none
section
variable {M : Mo} {X : Cx} {N : List Str} {sc : Scope} {k : Nat} {W : WX} {md : Md} {cl : Cl} {calls : Nat → List Val → LHeap → Res Val} {rc : Rec} {pos : Pos}
theorem se_gsub (G : Gd M X N sc k W) {g : Str} {j : Nat} {p : Pos} {i : Expr} {mi : E} (O : GdOk M g (cl.gds j)) (hg : isGl (look sc.names g) = true) (hd : (!strEq g sDebug) = true) (hs : notSlice i = true) (hi : PE X i (tEv M W (rc.e mi))) :
    PE X (.Subscript (.Name g p) i pos) (tEv M W (stepE cl calls rc (.gsub j mi))) := by
  obtain ⟨a, es, n, hm, D, ht⟩ := O.ex
  refine PE.of (pe_ix (ix_kdict (X := X)) (pe_glob (v := .ref a) (G.gl hg) (by rw [G.hmg]; exact hm) rfl (not_eq hd)) hi (notSlice_plain hs)) fun σ H Q ⟨c, s, hh, ⟨e, R, S⟩, g⟩ => ?_
  subst e
  refine ⟨c, s, hh, ⟨rfl, R, S⟩, Go.bind g fun x h1 c1 bx e1 R1 rx g1 => ?_⟩
  cases rx with
  | str z =>
    dsimp only at g1
    have hz := ht z
    cases q : lookS z (cl.gds j) with
    | none => rw [q] at g1; exact g1.elim
    | some v =>
      rw [q] at g1 hz
      obtain ⟨t, hn⟩ := hz
      exact ⟨a, z, .str v, rfl, rfl, ⟨es, n, .str v t, by rw [G.hK]; exact D.at_, by rw [G.hw]; exact D.lit, by rw [G.hK]; exact hn, ⟨t, rfl⟩⟩, go_val (RR := RV M) R1 (.str v) g1⟩
  | _ => exact g1.elim
theorem gin_read (G : Gd M X N sc k W) {j : Nat} {neg : Bool} {a : Addr} {ma : E} {σ : St} {H : Hp} {Q : VK} (ht : ∀ z, match lookS z (cl.gds j) with
    | some v => ∃ t, PySem.W.nsIn M.K a z = some (some (.str v t))
    | none => PySem.W.nsIn M.K a z = some none) (h : tEv M W (stepE cl calls rc (.gin neg j ma)) σ H Q) :
    tOp (fun x y H Q => ∃ (z : Str) (r : Option Value), x = .str z ∧ y = .ref a ∧ PySem.W.nsIn X.K a z = some r ∧ Q (.bl (ginB neg r.isSome)) H) (tEv M W (rc.e ma)) (tC (.ref a)) σ H Q := by
  obtain ⟨c, s, hh, ⟨e, R, S⟩, g⟩ := h
  subst e
  refine ⟨c, s, hh, ⟨rfl, R, S⟩, Go.bind g fun x h1 c1 bx e1 R1 rx g1 => ?_⟩
  cases rx with
  | str z =>
    dsimp only at g1
    have hz := ht z
    cases q : lookS z (cl.gds j) with
    | none =>
      rw [q] at g1 hz
      refine ⟨z, none, rfl, rfl, by rw [G.hK]; exact hz, ?_⟩
      have := go_val (RR := RV M) R1 (.bl neg) g1
      cases neg <;> exact this
    | some v =>
      rw [q] at g1 hz
      obtain ⟨t, hn⟩ := hz
      refine ⟨z, some (.str v t), rfl, rfl, by rw [G.hK]; exact hn, ?_⟩
      have := go_val (RR := RV M) R1 (.bl (!neg)) g1
      cases neg <;> exact this
  | _ => exact g1.elim
theorem op_gin (G : Gd M X N sc k W) {neg : Bool} {a : Addr} {es : Array DictEntry} {n : Nat} {op : CmpOp} (D : KDict M.K M.w a es n) (ho : opIn op neg = true) : OpR X (compareOp op) (fun x y H Q => ∃ (z : Str) (r : Option Value), x = .str z ∧ y = .ref a ∧ PySem.W.nsIn X.K a z = some r ∧ Q (.bl (ginB neg r.isSome)) H) := by
  have D' : KDict X.K X.w a es n := by rw [G.hK, G.hw]; exact D
  cases op <;> first | (cases ho; done) | skip
  · cases neg with
    | true => cases ho
    | false => exact op_in_kd D'
  · cases neg with
    | false => cases ho
    | true => exact op_notIn_kd D'
theorem se_gin (G : Gd M X N sc k W) {g : Str} {j : Nat} {neg : Bool} {p : Pos} {a : Expr} {op : CmpOp} {ma : E} (O : GdOk M g (cl.gds j)) (hg : isGl (look sc.names g) = true) (hd : (!strEq g sDebug) = true) (ho : opIn op neg = true) (ha : PE X a (tEv M W (rc.e ma))) :
    PE X (.Compare a [op] [.Name g p] pos) (tEv M W (stepE cl calls rc (.gin neg j ma))) := by
  obtain ⟨ad, es, n, hm, D, ht⟩ := O.ex
  exact PE.of (pe_cmpR (op_gin G D ho) ha (pe_glob (v := .ref ad) (G.gl hg) (by rw [G.hmg]; exact hm) rfl (not_eq hd)) (notSet_mark rfl)) fun σ H Q h => gin_read G ht h
theorem st_gin (G : Gd M X N sc k W) {g : Str} {j : Nat} {neg : Bool} {p : Pos} {a : Expr} {op : CmpOp} {ma : E} (O : GdOk M g (cl.gds j)) (hg : isGl (look sc.names g) = true) (hd : (!strEq g sDebug) = true) (ho : opIn op neg = true) (ha : PE X a (tEv M W (rc.e ma))) :
    PT X (.Compare a [op] [.Name g p] pos) (tEvT M W fun s hh => (stepE cl calls rc (.gin neg j ma) s hh).bind toB) := by
  obtain ⟨ad, es, n, hm, D, ht⟩ := O.ex
  exact PT.of (pt_cmpR (op_gin G D ho) ha (pe_glob (v := .ref ad) (G.gl hg) (by rw [G.hmg]; exact hm) rfl (not_eq hd)) (notSet_mark rfl)) fun σ H Q h => gin_read G ht (toB_read h)
/-! ### join -/
theorem strs_rv {c : Cf} : ∀ {vs : List Val} {zs : List V} {ys : List Str}, RVs M c vs zs → strsV vs = some ys → zs = ys.map V.str
  | [], _, ys, .nil, h => by cases h; rfl
  | v :: vs, _, ys, .cons r t, h => by
    unfold strsV at h
    cases r with
    | str x =>
      dsimp only at h
      cases q : strsV vs with
      | none => rw [q] at h; cases h
      | some xs =>
        rw [q] at h
        cases h
        rw [strs_rv t q]
        rfl
    | _ => cases h
theorem se_join (G : Gd M X N sc k W) {o e : Expr} {ap : Pos} {ma mb : E} (hn : notStar e = true) (h0 : notCall0 o = true) (hl : (ap.endLine == pos.line) = true) (ho : PE X o (tEv M W (rc.e ma))) (he : PE X e (tEv M W (rc.e mb))) :
    PE X (.Call (.Attribute o "join" ap) [e] [] pos) (tEv M W (stepE cl calls rc (.join ma mb))) := by
  refine PE.of (pe_join ho he (notStar_each hn) (notCall0_base h0) hl) fun σ H Q ⟨c, s, hh, ⟨ee, R, S⟩, g⟩ => ?_
  subst ee
  refine ⟨c, s, hh, ⟨rfl, R, S⟩, Go.bind g fun x h1 c1 bx e1 R1 rx g1 => ?_⟩
  cases rx with
  | str u =>
    refine ⟨⟨u, rfl⟩, c1, s, h1, ⟨rfl, R1, S.ext e1⟩, Go.bind g1 fun y h2 c2 z e2 R2 ry g2 => ?_⟩
    cases q : seqV h2 y with
    | none => rw [q] at g2; exact g2.elim
    | some vs =>
      rw [q] at g2
      dsimp only at g2
      cases q2 : strsV vs with
      | none => rw [q2] at g2; exact g2.elim
      | some ys =>
        rw [q2] at g2
        dsimp only at g2
        cases q3 : Nat.ble ((ys.map (·.length)).sum + ys.length * u.length) 16777216 with
        | false => rw [q3] at g2; exact g2.elim
        | true =>
          rw [q3] at g2
          have ej : (⟨⟨TL.joinL u.cps.toList (ys.map fun y => y.cps.toList)⟩⟩ : Str) = Str.join u ys := TL.ext_tl (TL.tl_join u ys).symm
          rw [ej] at g2
          have fin := go_val (RR := RV M) R2 (.str (Str.join u ys)) g2
          rw [← TL.join_eq] at fin
          cases ry with
          | @tup xs a zs ha r =>
            cases q
            rw [strs_rv r q2] at ha
            exact ⟨u, a, ys, rfl, rfl, .inr (SqT.of ha), ble_true q3, fin⟩
          | @ref l hl =>
            unfold seqV at q
            dsimp only at q
            cases q4 : h2.get l with
            | none => rw [q4] at q; cases q
            | some ob =>
              rw [q4] at q
              cases ob with
              | lst xs =>
                cases q
                obtain ⟨zs, hz, r⟩ := R2.lst q4
                rw [strs_rv r q2] at hz
                exact ⟨u, _, ys, rfl, rfl, .inl (.inl (.inl hz)), ble_true q3, fin⟩
              | _ => cases q
          | _ => cases q
  | _ => exact g1.elim
/-! ### displays with computed keys -/
inductive KEsOk (M : Mo) (X : Cx) (W : WX) (rc : Rec) (pos : Pos) : List (Option Expr) → List Expr → List (E × E) → Prop where
  | nil : KEsOk M X W rc pos [] [] []
  | cons {k v : Expr} {mk mv : E} {ks : List (Option Expr)} {vs : List Expr} {ps : List (E × E)} (hk : PE X k (tEv M W (rc.e mk))) (hv : PE X v (tEv M W (rc.e mv))) (t : KEsOk M X W rc pos ks vs ps) : KEsOk M X W rc pos (some k :: ks) (v :: vs) ((mk, mv) :: ps)
theorem KEsOk.run {ks : List (Option Expr)} {vs : List Expr} {ps : List (E × E)} (h : KEsOk M X W rc pos ks vs ps) : PPs X pos ks vs (ps.map fun p => (tEv M W (rc.e p.1), tEv M W (rc.e p.2))) ∧ ks.all (·.isSome) = true ∧ ks.length = vs.length ∧ ks.length = ps.length := by
  induction h with
  | nil => exact ⟨pps_nil, rfl, rfl, rfl⟩
  | cons hk hv t ih => exact ⟨pps_cons hk hv ih.1, by rw [List.all_cons, ih.2.1]; rfl, by simp [ih.2.2.1], by simp [ih.2.2.2]⟩
theorem pairsE_go {σ : St} {s : LSt} {Q : List (V × V) → Hp → Prop} : ∀ {ps : List (E × E)} {c : Cf} {h : LHeap} {Q0 : List (Key × V) → Hp → Prop}, RH M c h → RSl M c s σ →
    Go M c (RK Key M) (evKE rc ps s h) Q0 (fun cls d H' => W cls d σ H') → (∀ kvs H, Q0 kvs H → Q (kvs.map fun kv => (kV kv.1, kv.2)) H) →
    tPairs (ps.map fun p => (tEv M W (rc.e p.1), tEv M W (rc.e p.2))) σ c.H Q
  | [], c, h, Q0, R, S, g, hq => hq [] _ (go_val (RR := RK Key M) R .nil g)
  | (mk, mv) :: ps, c, h, Q0, R, S, g, hq => by
    refine ⟨c, s, h, ⟨rfl, R, S⟩, Go.bind g fun kv h0 c0 kw e0 R0 rk g0 => ?_⟩
    cases rk with
    | str x =>
      refine ⟨c0, s, h0, ⟨rfl, R0, S.ext e0⟩, Go.bind g0 fun v h1 c1 w e1 R1 rx g1 => ?_⟩
      refine pairsE_go (Q0 := fun kvs H => Q0 ((.inr x, w) :: kvs) H) R1 ((S.ext e0).ext e1) (Go.bind g1 fun us h2 c2 ys e2 R2 ru g2 => go_val (RR := RK Key M) R2 (.cons (rx.ext e2) ru) g2) fun kvs H q => ?_
      exact hq ((.inr x, w) :: kvs) H q
    | _ => exact g0.elim
theorem se_dspE {ks : List (Option Expr)} {vs : List Expr} {kvs : List (E × E)} (h : KEsOk M X W rc pos ks vs kvs) (h1 : 1 ≤ ks.length) (h15 : ks.length ≤ 15) : PE X (.Dict ks vs pos) (tEv M W (stepE cl calls rc (.dspE kvs))) := by
  obtain ⟨pp, ha, hl, hl2⟩ := h.run
  refine PE.of (pe_disp pp ha hl (fun e => by rw [e] at h1; simp at h1) h15) fun σ H Q ⟨c, s, hh, ⟨ee, R, S⟩, g⟩ => ?_
  subst ee
  intro p hp
  obtain ⟨R', ex⟩ := R.side (u := .dK []) hp
  have nn : ∀ l, l < (c.upd p (.dK [])).n → (c.upd p (.dK [])).nm l = true → (c.upd p (.dK [])).r l ≠ p := R.new hp
  refine pairsE_go (Q0 := fun kv H => H p = some (.dK []) ∧ kv.length ≤ 15 ∧ Q (.ref p) (L2.upd H p (.dK (mergeK [] kv)))) R' (S.ext ex) ?_ fun kv H q => ⟨q.1, kv, rfl, q.2.1, q.2.2⟩
  have g0 : Go M c (RV M) ((evKE rc kvs s hh).bind fun ps h1 => match Nat.ble ps.length 15 with
      | true => alloc (.dK (mergeL [] ps)) h1
      | false => .bad) Q (fun cls d H' => W cls d σ H') := g
  revert g0
  cases evKE rc kvs s hh with
  | bad => exact id
  | exc kk fs h2 => exact fun g0 c' cls d e R2 rx => g0 c' cls d (ex.trans e) R2 rx
  | ok ps h2 =>
    intro g0 c2 ys e2 R2 rp
    have g2 : Go M c (RV M) (match Nat.ble ps.length 15 with
      | true => alloc (.dK (mergeL [] ps)) h2
      | false => .bad) Q (fun cls d H' => W cls d σ H') := g0
    have hp2 : c2.H p = some (.dK []) := e2.f p _ upd_same (fun ⟨_, z⟩ => nomatch z) nn
    cases q : Nat.ble ps.length 15 with
    | false => rw [q] at g2; exact g2.elim
    | true =>
      rw [q] at g2
      have hb := ble_true q
      rw [rp.length] at hb
      refine ⟨hp2, hb, go_adopt_dK R2 (ex.trans e2) (NT.none hp) (by rw [hp2]; exact True.intro) ?_ (mergeL_rv rp .nil) g2⟩
      intro l hl hm e
      by_cases ql : l < c.n
      · rw [e2.x.r l ql] at e
        rw [e2.m l ql] at hm
        exact nn l ql hm e
      · obtain ⟨ps, z⟩ := e2.fr l (Nat.le_of_not_lt ql) hl (.dK []) (by rw [e]; exact upd_same)
        cases z
end
end Ev

set_option Elab.async false
set_option linter.all false
set_option maxRecDepth 100000
set_option maxHeartbeats 2000000
/-! dict(zip(a, b)), a and b tuples. -/
noncomputable section
namespace Ev
open PySem PySem.Spec PyProof.Rows L2 PySem.W RZ
section
variable {prog : Program} {w : World} {A : Around} {E : Value → Shared → Prop} {st : Shared}
/-- what a zip of two tuples needs, its last pair still out -/
structure ZHeld (h : Heap) (z TI TO T i1 i2 l1 l2 : Addr) (k : Nat) (f : Bool) (xs ys : Array Value) : Prop where
  z : IsZipHeld h z TI TO T f
  t : ∃ oT, h.get? T = some oT
  p : IsPair h TI (.ref i1) (.ref i2)
  a : h.IsTupleIter i1 l1 k
  b : h.IsTupleIter i2 l2 k
  x : h.IsTuple l1 xs
  y : h.IsTuple l2 ys
variable {z TI TO T i1 i2 l1 l2 : Addr} {k : Nat} {f : Bool} {xs ys : Array Value}
theorem zh_item {x y : Value} {Q : Value → Shared → Prop} (D : ZipApart z TI TO i1 i2 l1 l2) (Z : ZHeld st.heap z TI TO T i1 i2 l1 l2 k f xs ys) (hx : xs[k]? = some x) (hy : ys[k]? = some y)
    (hQ : ∀ g, IsZipHeld g z TI TO T true → g.IsTupleIter i1 l1 (k + 1) → g.IsTupleIter i2 l2 (k + 1) → IsPair g st.heap.objs.size x y → (∀ c o, c ≠ z → c ≠ i1 → c ≠ i2 → st.heap.get? c = some o → g.get? c = some o) → Q (.ref st.heap.objs.size) { st with heap := g }) :
    wpAny (model prog w) A (Builtin.«zip.__next__» ⟨[.ref z], []⟩) (fun fin s' => ∃ v, fin = .done (.ret v) ∧ Q v s') E st := by
  obtain ⟨oT, hT⟩ := Z.t
  show wpAny _ _ (field (.ref z) 2 >>= _) _ _ st
  refine wpAny_bind (wpAny_field Z.z rfl (x := .bool false) rfl (show wpAny _ _ (field (.ref z) 3 >>= _) _ _ st from wpAny_bind (wpAny_field Z.z rfl (x := .ref TI) rfl (wpAny_bind (wpAny_seqItems Z.p rfl ?_)))))
  show wpAny _ _ (Builtin.SmallTypes.ownedTupleIsFree (.ref z) >>= _) _ _ st
  refine wpAny_bind (wpAny_tupleHeld_zip Z.z hT fun g1 z1 s1 => ?_)
  simp only [Bool.false_eq_true, if_false]
  refine wpAny_bind ?_
  rw [← Array.forIn_toList]
  simp only [List.forIn_cons, List.forIn_nil]
  refine wpAny_bind (wpAny_bind (wpAny_holding (show wpAny _ _ (Builtin.SmallTypes.nextOf (.ref i1) >>= _) _ _ _ from wpAny_bind (nextOf_tuple_item (s := { st with heap := g1 }) (Z.a.extBut s1.extBut D.i1z) (Z.x.extBut s1.extBut D.l1z) hx fun g2 a2 s2 => wpAny_pure (wpAny_pure ?_)))))
  refine wpAny_bind (wpAny_bind (wpAny_holding (show wpAny _ _ (Builtin.SmallTypes.nextOf (.ref i2) >>= _) _ _ _ from wpAny_bind (nextOf_tuple_item (s := { st with heap := g2 }) ((Z.b.extBut s1.extBut D.i2z).extBut s2.extBut D.i12.symm) ((Z.y.extBut s1.extBut D.l2z).extBut s2.extBut D.l2i1) hy fun g3 b3 s3 => wpAny_pure (wpAny_pure (wpAny_pure ?_))))))
  show wpAny _ _ (newTuple [x, y] >>= _) _ _ _
  refine wpAny_bind (wpAny_newTuple (wpAny_pure ⟨_, rfl, ?_⟩))
  show Q (.ref g3.objs.size) _
  have sz : g3.objs.size = st.heap.objs.size := by rw [s3.1, s2.1, s1.1]
  have pr : IsPair (g3.push { cls := .type "tuple", data := .seq #[x, y] }) g3.objs.size x y := Heap.get?_push_size _ rfl
  rw [sz] at pr ⊢
  exact hQ _ (Heap.get?_push_of_some _ (s3.extBut _ _ D.i2z.symm (s2.extBut _ _ D.i1z.symm z1))) ((a2.extBut s3.extBut D.i12).at fun o e => Heap.get?_push_of_some _ e) (b3.at fun o e => Heap.get?_push_of_some _ e) pr
    fun c o n1 n2 n3 e => Heap.get?_push_of_some _ (s3.extBut _ _ n3 (s2.extBut _ _ n2 (s1.extBut _ _ n1 e)))
theorem zh_end {Q : Fin → Shared → Prop} (hh : A.handled = none) (D : ZipApart z TI TO i1 i2 l1 l2) (Z : ZHeld st.heap z TI TO T i1 i2 l1 l2 k f xs ys) (hend : xs[k]? = none ∨ ys[k]? = none)
    (hE : ∀ g e, (∀ c o, c ≠ z → c ≠ i1 → c ≠ i2 → st.heap.get? c = some o → g.get? c = some o) → (∃ o, g.get? e = some o ∧ o.cls = .type "StopIteration") → E (.ref e) { st with heap := g }) :
    wpAny (model prog w) A (Builtin.«zip.__next__» ⟨[.ref z], []⟩) Q E st := by
  obtain ⟨oT, hT⟩ := Z.t
  show wpAny _ _ (field (.ref z) 2 >>= _) _ _ st
  refine wpAny_bind (wpAny_field Z.z rfl (x := .bool false) rfl (show wpAny _ _ (field (.ref z) 3 >>= _) _ _ st from wpAny_bind (wpAny_field Z.z rfl (x := .ref TI) rfl (wpAny_bind (wpAny_seqItems Z.p rfl ?_)))))
  show wpAny _ _ (Builtin.SmallTypes.ownedTupleIsFree (.ref z) >>= _) _ _ st
  refine wpAny_bind (wpAny_tupleHeld_zip Z.z hT fun g1 z1 s1 => ?_)
  simp only [Bool.false_eq_true, if_false]
  refine wpAny_bind ?_
  rw [← Array.forIn_toList]
  simp only [List.forIn_cons, List.forIn_nil]
  refine wpAny_bind (wpAny_bind (wpAny_holding ?_))
  show wpAny _ _ (Builtin.SmallTypes.nextOf (.ref i1) >>= _) _ _ _
  cases hx : xs[k]? with
  | none => exact wpAny_bind (nextOf_tuple_end (s := { st with heap := g1 }) hh (Z.a.extBut s1.extBut D.i1z) (Z.x.extBut s1.extBut D.l1z) hx fun g2 e s2 he => hE g2 e (fun c o n1 n2 _ q => s2 _ _ n2 (s1.extBut _ _ n1 q)) he)
  | some x =>
    have hy : ys[k]? = none := hend.elim (fun q => by rw [hx] at q; cases q) id
    refine wpAny_bind (nextOf_tuple_item (s := { st with heap := g1 }) (Z.a.extBut s1.extBut D.i1z) (Z.x.extBut s1.extBut D.l1z) hx fun g2 a2 s2 => wpAny_pure (wpAny_pure ?_))
    refine wpAny_bind (wpAny_bind (wpAny_holding (show wpAny _ _ (Builtin.SmallTypes.nextOf (.ref i2) >>= _) _ _ _ from wpAny_bind (nextOf_tuple_end (s := { st with heap := g2 }) hh ((Z.b.extBut s1.extBut D.i2z).extBut s2.extBut D.i12.symm) ((Z.y.extBut s1.extBut D.l2z).extBut s2.extBut D.l2i1) hy fun g3 e s3 he => ?_))))
    exact hE g3 e (fun c o n1 n2 n3 q => s3 _ _ n3 (s2.extBut _ _ n2 (s1.extBut _ _ n1 q))) he
/-- the state of the zip at turn i: at the start, or with a pair out -/
def ZAt (z TI TO i1 i2 l1 l2 d : Addr) (xs ys : Array Value) (i : Nat) (h : Heap) : Prop := IsPair h TI (.ref i1) (.ref i2) ∧ h.IsTupleIter i1 l1 i ∧ h.IsTupleIter i2 l2 i ∧ h.IsTuple l1 xs ∧ h.IsTuple l2 ys ∧
  ((IsZip h z TI TO .none ∧ ∃ a b, IsPair h TO a b) ∨ ∃ T f oT, IsZipHeld h z TI TO T f ∧ h.get? T = some oT ∧ T ≠ z ∧ T ≠ i1 ∧ T ≠ i2 ∧ T ≠ d)
theorem pairArg_zipT (z TI TO i1 i2 l1 l2 : Addr) (D : ZipApart z TI TO i1 i2 l1 l2) (xs ys : Array Value) : PairArg prog w "zip" z [z, TI, TO, i1, i2, l1, l2] [z, TO, i1, i2] (min xs.size ys.size) (fun i key v => xs[i]? = some key ∧ ys[i]? = some v)
    (fun h => IsZip h z TI TO .none ∧ IsPair h TI (.ref i1) (.ref i2) ∧ (∃ a b, IsPair h TO a b) ∧ h.IsTupleIter i1 l1 0 ∧ h.IsTupleIter i2 l2 0 ∧ h.IsTuple l1 xs ∧ h.IsTuple l2 ys) := by
  refine ⟨fun s ok => ⟨_, ok.1, rfl⟩, by decide, fun h h' ⟨o1, o2, ⟨a, b, o3⟩, o4, o5, o6, o7⟩ kp => ⟨kp _ _ o1, kp _ _ o2, ⟨a, b, kp _ _ o3⟩, o4.at fun o e => kp _ o e, o5.at fun o e => kp _ o e, o6.at fun o e => kp _ o e, o7.at fun o e => kp _ o e⟩, fun h ok b hb => ?_, fun b hb => ?_,
    fun A s Q E hA ok h => getAttrOr_miss_zip ok.1 rfl rfl rfl zip_no_keys (by decide +kernel) hA h, fun A s d Q E hA ok hd hdf h => ?_⟩
  · obtain ⟨o1, o2, ⟨a, c, o3⟩, ⟨u4, o4, _⟩, ⟨u5, o5, _⟩, ⟨u6, o6, _⟩, ⟨u7, o7, _⟩⟩ := ok
    simp only [List.mem_cons, List.not_mem_nil, or_false] at hb
    rcases hb with rfl | rfl | rfl | rfl | rfl | rfl | rfl
    · exact ⟨_, o1⟩
    · exact ⟨_, o2⟩
    · exact ⟨_, o3⟩
    · exact ⟨_, o4⟩
    · exact ⟨_, o5⟩
    · exact ⟨_, o6⟩
    · exact ⟨_, o7⟩
  · simp only [List.mem_cons, List.not_mem_nil, or_false] at hb ⊢
    rcases hb with e | e | e | e <;> simp [e]
  · obtain ⟨o1, o2, ⟨a, b, o3⟩, o4, o5, o6, o7⟩ := ok
    simp only [List.mem_cons, List.not_mem_nil, or_false, not_or] at hdf
    obtain ⟨dz, dTI, dTO, di1, di2, dl1, dl2⟩ := hdf
    refine wpAny_pyIter_zip o1 (h z [z, TO, i1, i2] (ZAt z TI TO i1 i2 l1 l2 d xs ys) s.heap s.toks ⟨?_, ?_, ?_, ?_⟩ ⟨o2, o4, o5, o6, o7, .inl ⟨o1, a, b, o3⟩⟩ (fun _ _ e => e) fun b hb => .inl hb)
    · simp only [List.mem_cons, List.not_mem_nil, or_false, not_or]
      exact ⟨dz, dTO, di1, di2⟩
    · rintro i h₁ h₂ ⟨p2, p4, p5, p6, p7, pz⟩ kp
      refine ⟨kp _ _ (Ne.symm dTI) p2, p4.at fun o e => kp _ o (Ne.symm di1) e, p5.at fun o e => kp _ o (Ne.symm di2) e, p6.at fun o e => kp _ o (Ne.symm dl1) e, p7.at fun o e => kp _ o (Ne.symm dl2) e, pz.imp ?_ ?_⟩
      · rintro ⟨q1, a, b, q3⟩; exact ⟨kp _ _ (Ne.symm dz) q1, a, b, kp _ _ (Ne.symm dTO) q3⟩
      · rintro ⟨T, f, oT, q1, q2, r1, r2, r3, r4⟩; exact ⟨T, f, oT, kp _ _ (Ne.symm dz) q1, kp _ _ r4 q2, r1, r2, r3, r4⟩
    · rintro i s₁ Q₁ E₁ hi ⟨p2, p4, p5, p6, p7, pz⟩ hds hQ
      have ex := Array.getElem?_eq_getElem (Nat.lt_of_lt_of_le hi (Nat.min_le_left ..))
      have ey := Array.getElem?_eq_getElem (Nat.lt_of_lt_of_le hi (Nat.min_le_right ..))
      have lt : ∀ {c o}, s₁.heap.get? c = some o → s₁.heap.objs.size ≠ c := fun e => Nat.ne_of_gt (Heap.lt_size e)
      have n1 : s₁.heap.objs.size ≠ i1 := by obtain ⟨_, e, _⟩ := id p4; exact lt e
      have n2 : s₁.heap.objs.size ≠ i2 := by obtain ⟨_, e, _⟩ := id p5; exact lt e
      rcases pz with ⟨q1, a, b, q3⟩ | ⟨T, f, oT, q1, q2, r1, r2, r3, r4⟩
      · refine pyNext_zipT_item D q1 p2 q3 p4 p5 p6 p7 ex ey fun g b1 b2 b3 b4 b5 b6 kp => hQ s₁.heap.objs.size _ _ g s₁.toks ⟨ex, ey⟩ (.inl ⟨_, b5, rfl, _, rfl⟩) ?_ ?_
        · exact ⟨kp _ _ D.TIz D.TITO D.TIi1 D.TIi2 p2, b3, b4, p6.at fun o e => kp _ o D.l1z D.l1TO D.l1i1 D.l1i2 e, p7.at fun o e => kp _ o D.l2z D.l2TO D.l2i1 D.l2i2 e, .inr ⟨s₁.heap.objs.size, false, _, b1, b5, lt q1, n1, n2, Nat.ne_of_gt hds⟩⟩
        · intro c o hc e
          simp only [List.mem_cons, List.not_mem_nil, or_false, not_or] at hc
          exact kp c o hc.1 hc.2.1 hc.2.2.1 hc.2.2.2 e
      · have hTy : s₁.TypeIs (.ref z) "zip" := ⟨_, q1, rfl⟩
        unfold pyNext
        refine wpAny_bind (wpAny_attempt (wpAny_callSpecial?_slot (name := Str.ofString "__next__") hTy F.slot_zip_next (wpAny_call_entry F.slot_zip_next hTy F.entry_zip_next (zh_item D ⟨q1, ⟨oT, q2⟩, p2, p4, p5, p6, p7⟩ ex ey fun g b1 b3 b4 b5 kp => wpAny_pure ?_) (F.args_zip_next_1 _))))
        refine hQ s₁.heap.objs.size _ _ g s₁.toks ⟨ex, ey⟩ (.inl ⟨_, b5, rfl, _, rfl⟩) ?_ ?_
        · exact ⟨kp _ _ D.TIz D.TIi1 D.TIi2 p2, b3, b4, p6.at fun o e => kp _ o D.l1z D.l1i1 D.l1i2 e, p7.at fun o e => kp _ o D.l2z D.l2i1 D.l2i2 e, .inr ⟨T, true, oT, b1, kp _ _ r1 r2 r3 q2, r1, r2, r3, r4⟩⟩
        · intro c o hc e
          simp only [List.mem_cons, List.not_mem_nil, or_false, not_or] at hc
          exact kp c o hc.1 hc.2.2.1 hc.2.2.2 e
    · rintro s₁ Q₁ E₁ ⟨p2, p4, p5, p6, p7, pz⟩ hQ
      have hend : xs[min xs.size ys.size]? = none ∨ ys[min xs.size ys.size]? = none := (Nat.le_total xs.size ys.size).imp (fun q => Array.getElem?_eq_none (by rw [Nat.min_eq_left q]; exact Nat.le_refl _)) fun q => Array.getElem?_eq_none (by rw [Nat.min_eq_right q]; exact Nat.le_refl _)
      rcases pz with ⟨q1, a, b, q3⟩ | ⟨T, f, oT, q1, q2, r1, r2, r3, r4⟩
      · refine pyNext_zipT_end hA D q1 p2 q3 p4 p5 p6 p7 hend fun g kp => hQ g s₁.toks fun c o hc e => ?_
        simp only [List.mem_cons, List.not_mem_nil, or_false, not_or] at hc
        exact kp c o hc.1 hc.2.1 hc.2.2.1 hc.2.2.2 e
      · have hTy : s₁.TypeIs (.ref z) "zip" := ⟨_, q1, rfl⟩
        unfold pyNext
        refine wpAny_bind (wpAny_attempt (wpAny_callSpecial?_slot (name := Str.ofString "__next__") hTy F.slot_zip_next (wpAny_call_entry F.slot_zip_next hTy F.entry_zip_next (zh_end hA D ⟨q1, ⟨oT, q2⟩, p2, p4, p5, p6, p7⟩ hend fun g e kp he => ?_) (F.args_zip_next_1 _))))
        obtain ⟨o, ho, hc⟩ := he
        refine wpAny_bind (wpAny_isInstance (T := "StopIteration") (b := true) ⟨o, ho, hc⟩ isSubtype_stop (wpAny_pure (hQ _ s₁.toks fun c o hc e => ?_)))
        simp only [List.mem_cons, List.not_mem_nil, or_false, not_or] at hc
        exact kp c o hc.1 hc.2.2.1 hc.2.2.2 e
end
section
variable {M : Mo} {X : Cx} {N : List Str} {sc : Scope} {k : Nat} {W : WX} {md : Md} {cl : Cl} {calls : Nat → List Val → LHeap → Res Val} {rc : Rec} {pos : Pos}
theorem pairs_ex {P : Program} {w : World} {c : Cf} : ∀ {xs us : List Val} {ps : List (Key × Val)} {ys ws : List V} {its its2 : List Value}, kvsOf xs us = some ps → RVs M c xs ys → RVs M c us ws → Vals ys its → Vals ws its2 →
    ∃ (qs : List (Key × V)) (kvs : List (Key × Value)), RK Key M c ps qs ∧ KV qs kvs ∧ kvs.length = min its.length its2.length ∧ ∀ (i : Nat) (key v : Value), its[i]? = some key → its2[i]? = some v → ∃ kk, kvs[i]? = some (kk, v) ∧ (mixKind P w).is kk key = true
  | [], us, ps, _, _, _, _, e, .nil, _, .nil, _ => by
    have : ps = [] := by cases us <;> (cases e; rfl)
    subst this
    exact ⟨[], [], .nil, .nil, by simp, fun i key v h => by simp at h⟩
  | x :: xs, [], ps, _, _, _, _, e, _, .nil, _, .nil => by
    cases e
    exact ⟨[], [], .nil, .nil, by simp, fun i key v _ h => by simp at h⟩
  | x :: xs, u :: us, ps, _, _, _, _, e, .cons rx rxs, .cons ru rus, .cons vx vxs, .cons vu vus => by
    unfold kvsOf at e
    cases q : keyOf x with
    | none => rw [q] at e; cases e
    | some kk =>
      rw [q] at e
      dsimp only at e
      cases q2 : kvsOf xs us with
      | none => rw [q2] at e; cases e
      | some r =>
        rw [q2] at e
        cases e
        obtain ⟨qs, kvs, r1, r2, r3, r4⟩ := pairs_ex (P := P) (w := w) q2 rxs rus vxs vus
        refine ⟨(kk, _) :: qs, (kk, _) :: kvs, .cons ru r1, .cons ⟨rfl, vu⟩ r2, by simp [r3], fun i key v h1 h2 => ?_⟩
        cases i with
        | zero =>
          simp at h1 h2
          subst h1 h2
          have hz := keyOf_rv rx q
          subst hz
          exact ⟨kk, rfl, kV_is vx⟩
        | succ i => simpa using r4 i key v (by simpa using h1) (by simpa using h2)
theorem se_dzip (G : Gd M X N sc k W) (D : MdOk M md) {x y : Str} {a b : Expr} {p p1 p2 : Pos} {ma mb : E} (hx : freeN md sc x "dict" = true) (hy : freeN md sc y "zip" = true) (hn : notStar a = true) (hn2 : notStar b = true) (ha : PE X a (tEv M W (rc.e ma))) (hb : PE X b (tEv M W (rc.e mb))) :
    PE X (.Call (.Name x p) [.Call (.Name y p1) [a, b] [] p2] [] pos) (tEv M W (stepE cl calls rc (.dzip ma mb))) := by
  obtain ⟨rfl, hg, hm⟩ := G.free D hx
  obtain ⟨rfl, hg2, hm2⟩ := G.free D hy
  have pa : PA X [a, b] (tCons (tEv M W (rc.e ma)) (tCons (tEv M W (rc.e mb)) tNil)) := pa_cons ha (pa_cons hb pa_nil (notStar_each hn2)) (notStar_each hn)
  refine ⟨fun pins s σ H Q I h => ?_⟩
  refine wpAny_Call_Name_kw (ld_blt I hg hm PyProof.Rows.boot_dict ?_)
  refine PyProof.Rows.callWith_type1 (Calls.spliced_cons (wpAny_Call_Name_kw (ld_blt I hg2 hm2 PyProof.Rows.boot_zip (PyProof.Rows.callWith_type1 (thn (pa.run p2 pins s σ H (fun vs H1 => ∃ c1 h1 xs us A1 B1 ys ws ps, c1.H = H1 ∧ vs = [.ref A1, .ref B1] ∧ RH M c1 h1 ∧ c1.H A1 = some (.tup ys) ∧ c1.H B1 = some (.tup ws) ∧ RVs M c1 xs ys ∧ RVs M c1 us ws ∧ kvsOf xs us = some ps ∧ Go M c1 (RV M) (alloc (.dK (mergeL [] ps)) h1) Q (fun cls d H' => W cls d σ H')) I ?_) fun us s1 hh => ?_) (notStar_each hn) (stars_plain (es := [b]) (by rw [List.all_cons, hn2]; rfl)))))) rfl rfl
  · obtain ⟨c, s, hh, ⟨e, R, S⟩, g⟩ := h
    subst e
    refine ⟨c, s, hh, ⟨rfl, R, S⟩, Go.bind g fun v h1 c1 y e1 R1 rx g1 => ⟨c1, s, h1, ⟨rfl, R1, S.ext e1⟩, Go.bind g1 fun u h2 c2 z e2 R2 ru g2 => ?_⟩⟩
    have rx2 := rx.ext e2
    cases rx2 with
    | @tup xs a1 ys ht r =>
      cases ru with
      | @tup us b1 ws ht2 r2 =>
        dsimp only at g2
        cases q : kvsOf xs us with
        | none => rw [q] at g2; exact g2.elim
        | some ps => rw [q] at g2; exact ⟨c2, h2, xs, us, a1, b1, ys, ws, ps, rfl, rfl, R2, ht, ht2, r, r2, q, g2⟩
      | _ => exact g2.elim
    | _ => cases ru <;> exact g2.elim
  · obtain ⟨vs, H1, I1, r1, c1, h1, xs, us', A1, B1, ys, ws, ps, rfl, ev, R1, hA, hB, rx, ru, ek, g1⟩ := hh
    subst ev
    cases r1 with
    | cons ra rr =>
      cases rr with
      | cons rb rr =>
        cases rr
        cases ra
        cases rb
        obtain ⟨its, rv, t1, z1⟩ := I1.tuple (SqT.of hA)
        obtain ⟨its2, rv2, t2, z2⟩ := I1.tuple (SqT.of hB)
        obtain ⟨oa, hoa, _⟩ := id t1
        obtain ⟨ob, hob, _⟩ := id t2
        obtain ⟨qs, kvs, p1', p2', p3', p4'⟩ := pairs_ex (P := X.prog) (w := X.w) ek rx ru rv rv2
        refine call_zipT (show s1.heap.IsTuple A1 its.toArray from t1) (show s1.heap.IsTuple B1 its2.toArray from t2) fun h' hz hTI hTO i1 i2 hsz hk => Calls.spliced_nil ?_
        have ln : kvs.length = min its.toArray.size its2.toArray.size := by simpa using p3'
        refine PySem.call_dict_pairs (knd := mixKind X.prog X.w) (kvs := kvs) (s := { s1 with heap := h' }) (pairArg_zipT _ _ _ _ _ _ _ (PySem.W.ktu_apart s1.heap.objs.size A1 B1 (Heap.lt_size hoa) (Heap.lt_size hob)) its.toArray its2.toArray) (I.ok.hd G.calm) ⟨hz, hTI, ⟨_, _, hTO⟩, i1, i2, (show s1.heap.IsTuple A1 its.toArray from t1).at fun o e => hk _ o e, (show s1.heap.IsTuple B1 its2.toArray from t2).at fun o e => hk _ o e⟩
          ⟨ln, fun i key v hr => p4' i key v (by simpa using hr.1) (by simpa using hr.2)⟩ (by have := rv.length; simp; omega) fun h'' tk hd' kp => ?_
        have keep : ∀ b o, s1.heap.get? b = some o → h''.get? b = some o := fun b o e => by
          have lt := Heap.lt_size e
          refine kp b o ?_ (hk b o e)
          simp only [List.mem_cons, List.not_mem_nil, or_false, not_or]
          refine ⟨?_, ?_, ?_, ?_⟩ <;> (intro q; exact absurd lt (by rw [q]; simp))
        have hsz' : s1.heap.objs.size ≤ h'.objs.size := by rw [hsz]; omega
        have hmm : (h'.objs.size == sysModules) = false := beq_eq_false_iff_ne.mpr (Nat.ne_of_gt (Nat.lt_of_lt_of_le I1.big hsz'))
        have hlen : (mergeK [] qs).length ≤ sizeLine := by
          refine Nat.le_trans (length_mergeK qs []) ?_
          have := rv.length
          rw [List.length_nil, Nat.zero_add, p2'.length, p3']
          omega
        have J : Inv X pins σ (upd c1.H h'.objs.size (.dK (mergeK [] qs))) { s1 with heap := h'', toks := tk } := I1.laid (t' := tk) keep hsz' (show ObjOk X.prog X.w _ _ _ (.dK (mergeK [] qs)) from ⟨hlen, hmm, merged [] kvs, KV.merge p2' .nil, hd'⟩)
        exact ⟨.ref h'.objs.size, _, J, rfl, go_alloc_dK R1 (mergeL_rv p1' .nil) g1 _ (I1.hok.fresh hsz')⟩
end
end Ev

set_option Elab.async false
set_option linter.all false
set_option maxRecDepth 100000
set_option maxHeartbeats 4000000
/-! The statement checker, the checker with fuel, and that both are right. -/
noncomputable section
namespace Ev
open PySem PySem.Spec PyProof.Rows L2
section
variable (md : Md) (N : List Str) (rc : Ck)
def ckB (sc : Scope) : List Stmt → List S → Bool
  | [], [] => true
  | st :: sts, m :: ms => rc.s sc st m && ckB sc sts ms
  | _, _ => false
def clsIs (x : Str) : List (Str × List Str) → Nat → Bool
  | [], _ => false
  | p :: _, 0 => strEq x p.1
  | _ :: ps, f + 1 => clsIs x ps f
def ckHE (i : Nat) (sc : Scope) (e : Expr) (m : HE) : Bool := match m with
  | .fld f => (match e with
    | .Attribute (.Name n _) g _ => strEq g f && nthS N i n && isVis (look sc.names n) && !strEq n sDebug && !strEq n sClassdict
    | _ => false)
  | .lit v => (match e with
    | .Constant c _ _ => litEq c v
    | _ => false)
  | .glb y v => (match e with
    | .Name x _ => isGl (look sc.names x) && constIs x v md.consts && !strEq x sDebug
    | _ => false)
  | .var j => (match e with
    | .Name x _ => nthS N j x && isVis (look sc.names x) && !strEq x sDebug && !strEq x sClassdict
    | _ => false)
def ckHEs (i : Nat) (sc : Scope) : List Expr → List HE → Bool
  | [], [] => true
  | e :: es, m :: ms => notStar e && ckHE md N i sc e m && ckHEs i sc es ms
  | _, _ => false
def ckHB (i : Nat) (sc : Scope) (st : Stmt) (b : HB) : Bool := match b with
  | .set1 j m => (match st with
    | .Assign [.Name x _] e _ => nthS N j x && isLoc (look sc.names x) && notComp e && ckHE md N i sc e m
    | _ => false)
  | .ret1 m => (match st with
    | .Return (some e) _ => ckHE md N i sc e m
    | _ => false)
  | .retT ms => (match st with
    | .Return (some (.Tuple es _ _)) _ => ckHEs md N i sc es ms
    | _ => false)
def ckHds (i : Nat) (n : Str) (sc : Scope) : List ExceptHandler → List (Nat × Nat × HB) → Bool
  | [], [] => true
  | .ExceptHandler (some (.Name x _)) (some n') [st] _ :: hds, p :: hs => strEq n' n && Nat.beq p.2.1 i && clsIs x md.excs p.1 && isGl (look sc.names x) && !strEq x sDebug && ckHB md N i sc st p.2.2 && ckHds i n sc hds hs
  | _, _ => false
def hasCell (sc : Scope) (ts : List Expr) : Bool := ts.any fun t => match t with
  | .Name x _ => !isLc (look sc.names x)
  | _ => false
def swOk (sc : Scope) (tg e : Expr) : Bool := match e with
  | .Tuple es _ _ => (match tg with
    | .Tuple ts _ _ => es.all (foldedForSure 8) || hasCell sc ts
    | _ => false)
  | _ => true
theorem hasCell_ok {sc : Scope} {ts : List Expr} (h : hasCell sc ts = true) : ∃ x px, Expr.Name x px ∈ ts ∧ isLc (look sc.names x) = false := by
  obtain ⟨t, ht, q⟩ := List.any_eq_true.mp h
  cases t with
  | Name x px => exact ⟨x, px, ht, by simpa using q⟩
  | _ => cases q
def isLcomp : Expr → Bool
  | .ListComp _ _ _ _ => true
  | _ => false
def ckS (sc : Scope) (st : Stmt) (m : S) : Bool := match m with
  | .set i e => (match st with
    | .Assign [.Name x p] ex _ => nthS N i x && isLoc (look sc.names x) && (match ex with
      | .ListComp el gs scope cp => (match swB sc scope x p.line cp.line with
        | true => isLc (look sc.names x) && ckE md N rc sc (.ListComp el gs scope cp) e
        | false => rc.e sc (.ListComp el gs scope cp) e)
      | ex => notComp ex && rc.e sc ex e)
    | _ => false)
  | .par i j ma mb => (match st with
    | .Assign [.Tuple [.Name x px, .Name y py] _ _] (.Tuple [a, b] _ _) _ => nthS N i x && nthS N j y && isLc (look sc.names x) && isLc (look sc.names y) && !strEq x y && Nat.beq py.line px.line && notStar a && notStar b &&
        !(foldedForSure 8 a && foldedForSure 8 b) && !(constantsAlone 8 a && constantsAlone 8 b) && rc.e sc a ma && rc.e sc b mb
    | _ => false)
  | .par3 i j l ma mb mc => (match st with
    | .Assign [.Tuple [.Name x px, .Name y py, .Name z pz] _ _] (.Tuple [a, b, c] _ _) _ => nthS N i x && nthS N j y && nthS N l z && isLc (look sc.names x) && isLc (look sc.names y) && isLc (look sc.names z) && !strEq x y && !strEq x z && !strEq y z && Nat.beq py.line px.line && Nat.beq pz.line px.line && notStar a && notStar b && notStar c &&
        !(foldedForSure 8 a && foldedForSure 8 b && foldedForSure 8 c) && !(constantsAlone 8 a && constantsAlone 8 b && constantsAlone 8 c) && rc.e sc a ma && rc.e sc b mb && rc.e sc c mc
    | _ => false)
  | .unp is e => (match st with
    | .Assign [tg] ex _ => ckTg N isLoc sc tg (.tup is) && notComp ex && rc.e sc ex e && swOk sc tg ex
    | _ => false)
  | .ex e => (match st with
    | .Expr ex _ => notComp ex && rc.e sc ex e
    | _ => false)
  | .ret e => (match st with
    | .Return (some ex) _ => rc.e sc ex e
    | _ => false)
  | .retN => (match st with
    | .Return none _ => true
    | _ => false)
  | .ife c a b => (match st with
    | .If ce as bs _ => rc.t sc ce c && ckB rc sc as a && ckB rc sc bs b
    | _ => false)
  | .whl c b => (match st with
    | .While ce bs [] _ => rc.t sc ce c && ckB rc sc bs b
    | _ => false)
  | .loop tg it b => (match st with
    | .For t i bs [] _ => ckIt md rc sc t i it && ckTg N isLoc sc t tg && notSet i && ckB rc sc bs b
    | _ => false)
  | .put o i e => (match st with
    | .Assign [.Subscript oe ie _] ex _ => notComp ex && rc.e sc oe o && rc.e sc ie i && rc.e sc ex e
    | _ => false)
  | .setf o f e => (match st with
    | .Assign [.Attribute oe x _] ex _ => strEq x f && rc.e sc oe o && rc.e sc ex e
    | _ => false)
  | .raise c es => (match st with
    | .Raise (some (.Call (.Name x _) (a :: as) [] _)) none _ => excIs x es.length md.excs c && isGl (look sc.names x) && !strEq x sDebug && ckEs rc sc (a :: as) es
    | _ => false)
  | .tri b hs => (match st with
    | .Try bs (.ExceptHandler ty (some n) su hp :: hds) [] [] _ => (match hs with
      | q :: _ => ckB rc sc bs b && nthS N q.2.1 n && isLc (look sc.names n) && ckHds md N q.2.1 n sc (.ExceptHandler ty (some n) su hp :: hds) hs
      | [] => false)
    | _ => false)
  | .rest _ _ _ => false
  | .pass => (match st with
    | .Pass _ => true
    | .Expr (.Constant (.str _) _ _) _ => true
    | _ => false)
  | .brk => (match st with
    | .Break _ => true
    | _ => false)
  | .cont => (match st with
    | .Continue _ => true
    | _ => false)
end
def ckNo : Ck := ⟨fun _ _ _ => false, fun _ _ _ => false, fun _ _ _ => false, fun _ _ _ => false⟩
def chkL (l : Nat → Scope → Expr → E → Bool) (md : Md) (N : List Str) (d : Nat) : Ck := Nat.rec ckNo (fun d r => ⟨l d, ckE md N r, ckT md r, ckS md N r⟩) d
theorem chk_succ (l : Nat → Scope → Expr → E → Bool) (md : Md) (N : List Str) (d : Nat) : chkL l md N (d + 1) = ⟨l d, ckE md N (chkL l md N d), ckT md (chkL l md N d), ckS md N (chkL l md N d)⟩ := rfl
/-- the module as a lambda's body sees it: no further lambdas -/
def Md.no (md : Md) : Md := { md with lam := [], said := [] }
def lNo : Nat → Scope → Expr → E → Bool := fun _ _ _ _ => false
def lIn (md : Md) (N : List Str) : Nat → Scope → Expr → E → Bool := fun d => (chkL lNo md.no N d).e
abbrev chk (md : Md) (N : List Str) (d : Nat) : Ck := chkL (lIn md N) md N d
def isBoolOp : Expr → Bool
  | .BoolOp _ _ _ => true
  | _ => false
/-- all that is known of the module -/
structure Env1 (M : Mo) (md : Md) (cl : Cl) (k : Nat) (calls : Nat → List Val → LHeap → Res Val) : Prop where
  mdo : MdOk M md
  call : CallsOk M md k calls
  clo : ClOk M cl
  ins : InsOk M cl
  sup : ∃ file, SupOk M file ∧ (∀ c x n, 1 ≤ n → excIs x n md.excs c = true → ∃ b, clsB M.K file (M.ca c) (cl.fields c) b = true)
  cls : ∀ c x, clsIs x md.excs c = true → M.mg x = some (.ref (M.ca c))
  lam : md.lam = M.lam
  said : ∀ j x, nthS md.said j x = true → SaidOk M cl x (cl.said j)
  gds : ∀ j x, nthS md.gds j x = true → GdOk M x (cl.gds j)
section
variable {l : Nat → Scope → Expr → E → Bool} {M : Mo} {N : List Str} {k : Nat} {md : Md} {cl : Cl} {calls : Nat → List Val → LHeap → Res Val}
structure Good (l : Nat → Scope → Expr → E → Bool) (M : Mo) (N : List Str) (k : Nat) (md : Md) (cl : Cl) (calls : Nat → List Val → LHeap → Res Val) (n d : Nat) : Prop where
  e : ∀ (X : Cx) (sc : Scope) (W : WX) (ex : Expr) (m : E), Gd M X N sc k W → (chkL l md N d).e sc ex m = true → PE X ex (tEv M W ((rec cl calls n).e m))
  t : ∀ (X : Cx) (sc : Scope) (W : WX) (ex : Expr) (m : E), Gd M X N sc k W → (chkL l md N d).t sc ex m = true → PT X ex (tEvT M W ((rec cl calls n).t m)) ∧ (isBoolOp ex = true → PW X ex (tEvT M W ((rec cl calls n).t m)))
  s : ∀ (X : Cx) (sc : Scope) (W : WX) (st : Stmt) (m : S), Gs M X N sc k W → (chkL l md N d).s sc st m = true → PS X st (tEvS M W ((rec cl calls n).s m))
variable {X : Cx} {sc : Scope} {W : WX} {n d : Nat}
def LOk (l : Nat → Scope → Expr → E → Bool) (M : Mo) (N : List Str) (k : Nat) (cl : Cl) (calls : Nat → List Val → LHeap → Res Val) : Prop := ∀ (n d : Nat) (X : Cx) (sc : Scope) (W : WX) (ex : Expr) (m : E), Gd { M with lam := [] } X N sc k W → l d sc ex m = true → PE X ex (tEv M W ((rec cl calls n).e m))
theorem lamPB_ok {N : List Str} {sc scope : Scope} (h : lamPB N sc scope = true) : LamP N sc scope := by
  unfold lamPB at h
  simp only [Bool.and_eq_true] at h
  obtain ⟨⟨⟨h1, h2⟩, h3⟩, h4⟩ := h
  refine ⟨?_, by simpa using h2, by simpa using h3, fun y hy z w => ?_, fun y hy z => ?_, fun y hy z => ?_⟩
  · cases e : scope.kind <;> rw [e] at h1 <;> first | rfl | cases h1
  · have := List.all_eq_true.mp h4 y hy
    rw [z] at this
    dsimp only at this
    rw [memS_of w] at this
    cases this
  · have := List.all_eq_true.mp h4 y hy
    rw [z] at this
    cases this
  · have := List.all_eq_true.mp h4 y hy
    rw [z] at this
    dsimp only at this
    rw [look_eq] at this
    cases e : sc.names.lookup y.1 with
    | none => rw [e] at this; cases this
    | some kd => rw [e] at this; cases kd <;> first | (exact .inl rfl) | (exact .inr rfl) | cases this
where memS_of : ∀ {x : Str} {ys : List Str}, x ∈ ys → memS x ys = true
  | x, [], h => by cases h
  | x, y :: ys, h => by
    unfold memS
    cases q : strEq x y with
    | true => rfl
    | false =>
      rcases List.mem_cons.mp h with e | e
      · rw [e, strEq_iff.mpr rfl] at q; cases q
      · exact memS_of e
theorem boolop1 {op : BoolOp} {a : Expr} {pos : Pos} {t : TE} (h : PE X a t) : PE X (.BoolOp op [a] pos) t := ⟨fun pins s σ H Q I q => h.run pins s σ H Q I q⟩
theorem keySc_ok {s : Scope} {a : Str} (h : keySc s a "len" = true) : KeyS s a := by
  unfold keySc at h
  simp only [Bool.and_eq_true] at h
  obtain ⟨⟨⟨⟨⟨h1, h2⟩, h3⟩, h4⟩, h5⟩, h6⟩ := h
  refine ⟨?_, by simpa using h2, by simpa using h3, fun y hy z => ?_, fun y hy z => ?_, ?_, ?_⟩
  · cases e : s.kind <;> rw [e] at h1 <;> first | rfl | cases h1
  · have := List.all_eq_true.mp h4 y hy
    rw [z] at this
    cases this
  · have := List.all_eq_true.mp h4 y hy
    rw [z] at this
    cases this
  · rw [look_eq] at h5
    cases e : s.names.lookup a with
    | none => rw [e] at h5; cases h5
    | some k => rw [e] at h5; cases k <;> first | rfl | cases h5
  · rw [look_eq] at h6
    cases e : s.names.lookup ("len" : Str) with
    | none => rw [e] at h6; cases h6
    | some k => rw [e] at h6; cases k <;> first | rfl | cases h6
theorem keyPar_ok {p : Arguments} {a : Str} {env : Env} (h : keyPar p a = true) : defaultsOf p env = ([], []) ∧ ∀ (fd : FuncData) (v : Value), fd.params = p → fd.defaults = .none → bindArgs fd ⟨[v], []⟩ = pure [(a, v)] := by
  unfold keyPar at h
  split at h
  · rename_i x
    obtain rfl := strEq_iff.mp h
    exact ⟨rfl, fun fd v e e' => by
      have := bind_plain fd [v] (by rw [e]) (by rw [e]) (by rw [e]) (by rw [e]) e' (by rw [e]; rfl) (by rw [e]; simp)
      rw [e] at this
      exact this⟩
  · cases h
theorem ckEs_ok (G0 : Good l M N k md cl calls n d) (G : Gd M X N sc k W) : ∀ {es : List Expr} {ms : List E}, ckEs (chkL l md N d) sc es ms = true → PA X es (tEvA M W (evs (rec cl calls n) ms)) ∧ es.all notStar = true ∧ es.length = ms.length
  | [], [], _ => ⟨sa_nil, rfl, rfl⟩
  | [], _ :: _, h => by cases h
  | _ :: _, [], h => by cases h
  | e :: es, m :: ms, h => by
    unfold ckEs at h
    simp only [Bool.and_eq_true] at h
    obtain ⟨h1, h2, h3⟩ := ckEs_ok G0 G h.2
    exact ⟨sa_cons h.1.1 (G0.e X sc W e m G h.1.2) h1, by rw [List.all_cons, h.1.1, h2]; rfl, by simp [h3]⟩
theorem ckEsS_ok (G0 : Good l M N k md cl calls n d) (G : Gd M X N sc k W) : ∀ {es : List Expr} {ms : List (Bool × E)}, ckEsS (chkL l md N d) sc es ms = true → PA X es (tEvA M W (evsS (rec cl calls n) ms))
  | es, ms, h => by
    unfold ckEsS at h
    split at h
    · exact saS_nil
    · simp only [Bool.and_eq_true] at h
      exact saS_star G (G0.e X sc W _ _ G h.1) (ckEsS_ok G0 G h.2)
    · simp only [Bool.and_eq_true] at h
      exact saS_cons h.1.1 (G0.e X sc W _ _ G h.1.2) (ckEsS_ok G0 G h.2)
    · cases h
theorem ckIt_notSet {rc' : Ck} {t i : Expr} {it : It} (h : ckIt md rc' sc t i it = true) : notSet i = true := by
  unfold ckIt at h
  split at h
  · rw [Bool.and_eq_true] at h; exact h.1
  all_goals (split at h; rfl; cases h)
theorem ckOpt_ok (G0 : Good l M N k md cl calls n d) (G : Gd M X N sc k W) {o : Option Expr} {m : Option E} (h : ckOpt (chkL l md N d) sc o m = true) : PO X o (tEvO M W (evOpt (rec cl calls n) m)) := by
  cases o with
  | none => cases m with
    | none => exact so_none
    | some _ => cases h
  | some e => cases m with
    | none => cases h
    | some m => exact so_some (G0.e X sc W e m G h)
theorem ckKVs_ok (V : Env1 M md cl k calls) (G0 : Good l M N k md cl calls n d) (G : Gd M X N sc k W) {pos : Pos} : ∀ {ks : List (Option Expr)} {vs : List Expr} {ps : List (Str × E)}, ckKVs md (chkL l md N d) sc ks vs ps = true → KVsOk M X W (rec cl calls n) pos ks vs ps
  | ks, vs, ps, h => by
    unfold ckKVs at h
    split at h
    · exact .nil
    · rename_i x j p ks v vs q ps
      simp only [Bool.and_eq_true] at h
      obtain ⟨y, m⟩ := q
      have e := strEq_iff.mp h.1.1
      have e' : x = y := e
      subst e'
      exact .cons (G0.e X sc W v m G h.1.2) (ckKVs_ok V G0 G h.2)
    · rename_i x p ks v vs q ps
      simp only [Bool.and_eq_true] at h
      obtain ⟨y, m⟩ := q
      obtain ⟨u, z, e1, r, hr⟩ := V.mdo.const x _ h.1.1.1.2
      have hz : z = .str y := by
        have := hr ⟨0, fun _ => 0, fun _ => false, fun _ => none⟩
        cases this
        rfl
      subst hz
      exact .glb (pe_glob (G.gl h.1.1.1.1) (by rw [G.hmg]; exact e1) r (not_eq h.1.1.2)) (G0.e X sc W v m G h.1.2) (ckKVs_ok V G0 G h.2)
    · cases h
theorem ckKE_ok (G0 : Good l M N k md cl calls n d) (G : Gd M X N sc k W) {pos : Pos} : ∀ {ks : List (Option Expr)} {vs : List Expr} {ps : List (E × E)}, ckKE (chkL l md N d) sc ks vs ps = true → KEsOk M X W (rec cl calls n) pos ks vs ps
  | [], [], [], _ => .nil
  | [], [], _ :: _, h => by simp [ckKE] at h
  | [], _ :: _, _, h => by simp [ckKE] at h
  | none :: _, _, _, h => by simp [ckKE] at h
  | some _ :: _, [], _, h => by simp [ckKE] at h
  | some _ :: _, _ :: _, [], h => by simp [ckKE] at h
  | some e :: ks, v :: vs, p :: ps, h => by
    unfold ckKE at h
    simp only [Bool.and_eq_true] at h
    exact .cons (G0.e X sc W _ _ G h.1.1) (G0.e X sc W _ _ G h.1.2) (ckKE_ok G0 G h.2)
theorem ckIt_ok (V : Env1 M md cl k calls) (G0 : Good l M N k md cl calls n d) (G : Gd M X N sc k W) {t i : Expr} {it : It} (h : ckIt md (chkL l md N d) sc t i it = true) : PI X t i (tEvI M W (evIt (rec cl calls n) it)) ∧ notSet i = true := by
  cases it with
  | val m =>
    have h' : (notSet i && (chkL l md N d).e sc i m) = true := h
    simp only [Bool.and_eq_true] at h'
    exact ⟨si_val G (G0.e X sc W i m G h'.2), h'.1⟩
  | rng1 ma =>
    dsimp only [ckIt] at h
    split at h
    · simp only [Bool.and_eq_true] at h
      exact ⟨si_rng1 G V.mdo h.1.1 h.1.2 (G0.e X sc W _ _ G h.2), rfl⟩
    · cases h
  | rng2 ma mb =>
    dsimp only [ckIt] at h
    split at h
    · simp only [Bool.and_eq_true] at h
      exact ⟨si_rng2 G V.mdo h.1.1.1.1 h.1.1.1.2 h.1.1.2 (G0.e X sc W _ _ G h.1.2) (G0.e X sc W _ _ G h.2), rfl⟩
    · cases h
  | enum ma =>
    dsimp only [ckIt] at h
    split at h
    · simp only [Bool.and_eq_true] at h
      cases t with
      | Tuple es kk tp => exact ⟨si_enum G V.mdo h.1.1.1 h.1.1.2 (G0.e X sc W _ _ G h.1.2), rfl⟩
      | _ => cases h.2
    · cases h
  | zip ma mb =>
    dsimp only [ckIt] at h
    split at h
    · simp only [Bool.and_eq_true] at h
      cases t with
      | Tuple es kk tp => exact ⟨si_zip G V.mdo h.1.1.1.1.1 h.1.1.1.1.2 h.1.1.1.2 (G0.e X sc W _ _ G h.1.1.2) (G0.e X sc W _ _ G h.1.2), rfl⟩
      | _ => cases h.2
    · cases h
theorem notSet_fold {i : Expr} {env : Env} (h : notSet i = true) : ∀ x, foldedSetIterable i env x = pure x := by
  intro x
  cases i <;> first | rfl | cases h
theorem ckE_ok (V : Env1 M md cl k calls) (HL : LOk l M N k cl calls) (G0 : Good l M N k md cl calls n d) (G1 : Good l M N k md cl calls (n + 1) d) (G : Gd M X N sc k W) {ex : Expr} {m : E} (h : ckE md N (chkL l md N d) sc ex m = true) : PE X ex (tEv M W (stepE cl calls (rec cl calls n) m)) := by
  have one : ∀ {op : BoolOp} {a : Expr} {pos : Pos} {m : E}, (chkL l md N d).e sc a m = true → PE X (.BoolOp op [a] pos) (tEv M W (stepE cl calls (rec cl calls n) m)) := fun h => boolop1 (G1.e X sc W _ _ G h)
  cases m with
  | var i =>
    dsimp only [ckE] at h
    split at h
    · simp only [Bool.and_eq_true] at h
      exact se_var G h.1.1.1 h.1.1.2 h.1.2 h.2
    · exact one h
    · cases h
  | lit v =>
    dsimp only [ckE] at h
    split at h
    · exact se_lit h
    · exact one h
    · cases h
  | glb y v =>
    dsimp only [ckE] at h
    split at h
    · simp only [Bool.and_eq_true] at h
      exact se_glb G V.mdo h.1.1.2 h.1.2 h.2
    · exact one h
    · cases h
  | bin o ma mb =>
    dsimp only [ckE] at h
    split at h
    · simp only [Bool.and_eq_true] at h
      rw [binEq_ok h.1.1]
      exact se_bin G (G0.e X sc W _ _ G h.1.2) (G0.e X sc W _ _ G h.2)
    · exact one h
    · cases h
  | neg ma =>
    dsimp only [ckE] at h
    split at h
    · exact se_neg (G0.e X sc W _ _ G h)
    · exact one h
    · cases h
  | cmp o ma mb =>
    dsimp only [ckE] at h
    split at h
    · simp only [Bool.and_eq_true] at h
      rw [cmpEq_ok h.1.1.1]
      exact se_cmp G h.1.1.2 (G0.e X sc W _ _ G h.1.2) (G0.e X sc W _ _ G h.2)
    · exact one h
    · cases h
  | cmp2 o o' ma mb mc =>
    dsimp only [ckE] at h
    split at h
    · simp only [Bool.and_eq_true] at h
      obtain ⟨⟨⟨⟨⟨⟨h1, h2⟩, h3⟩, h4⟩, h5⟩, h6⟩, h7⟩ := h
      rw [cmpEq_ok h1, cmpEq_ok h2]
      exact se_cmp2 G h4 (G0.e X sc W _ _ G h5) (G0.e X sc W _ _ G h6) (G0.e X sc W _ _ G h7)
    · exact one h
    · cases h
  | and ma mb =>
    dsimp only [ckE] at h
    split at h
    · simp only [Bool.and_eq_true] at h
      exact se_and (G0.e X sc W _ _ G h.1) (G0.e X sc W _ _ G h.2)
    · exact one h
    · cases h
  | or ma mb =>
    dsimp only [ckE] at h
    split at h
    · simp only [Bool.and_eq_true] at h
      exact se_or (G0.e X sc W _ _ G h.1) (G0.e X sc W _ _ G h.2)
    · exact one h
    · cases h
  | not ma =>
    dsimp only [ckE] at h
    split at h
    · exact se_not (G0.e X sc W _ _ G h)
    · exact one h
    · cases h
  | ife mc ma mb =>
    dsimp only [ckE] at h
    split at h
    · simp only [Bool.and_eq_true] at h
      exact se_ife (G0.t X sc W _ _ G h.1.1).1 (G0.e X sc W _ _ G h.1.2) (G0.e X sc W _ _ G h.2)
    · exact one h
    · cases h
  | tup ms =>
    dsimp only [ckE] at h
    split at h
    · exact se_tup (ckEs_ok G0 G h).1
    · cases h
  | lst ms =>
    dsimp only [ckE] at h
    split at h
    · exact se_lst (ckEs_ok G0 G h).1
    · cases h
  | sub ma mi =>
    dsimp only [ckE] at h
    split at h
    · simp only [Bool.and_eq_true] at h
      exact se_sub G h.1.1 (G0.e X sc W _ _ G h.1.2) (G0.e X sc W _ _ G h.2)
    · exact one h
    · cases h
  | slc ma lo hi =>
    dsimp only [ckE] at h
    split at h
    · simp only [Bool.and_eq_true] at h
      exact se_slc G (G0.e X sc W _ _ G h.1.1) (ckOpt_ok G0 G h.1.2) (ckOpt_ok G0 G h.2)
    · cases h
  | rev ma =>
    dsimp only [ckE] at h
    split at h
    · exact se_rev G (G0.e X sc W _ _ G h)
    · cases h
  | call f ms =>
    dsimp only [ckE] at h
    split at h
    · simp only [Bool.and_eq_true] at h
      obtain ⟨a1, a2, a3⟩ := ckEs_ok G0 G h.2
      exact se_call G V.call h.1.1.1 h.1.1.2 h.1.2 a2 a1 a3
    · exact one h
    · cases h
  | pcall f ms =>
    dsimp only [ckE] at h
    split at h
    · simp only [Bool.and_eq_true] at h
      obtain ⟨a1, a2, a3⟩ := ckEs_ok G0 G h.2
      exact se_pcall G V.call h.1.1.1 h.1.1.2 h.1.2 a2 a1 a3
    · exact one h
    · cases h
  | bi b ms =>
    dsimp only [ckE] at h
    split at h
    · simp only [Bool.and_eq_true] at h
      obtain ⟨a1, a2, a3⟩ := ckEs_ok G0 G h.2
      exact se_bi G V.mdo h.1 a2 a1
    · exact one h
    · cases h
  | isi ma t =>
    dsimp only [ckE] at h
    split at h
    · simp only [Bool.and_eq_true] at h
      have h2 := h.2
      split at h2
      · rename_i z hz
        exact se_isi G V.mdo h.1.1.1 h.1.1.2 (G0.e X sc W _ _ G h.1.2) hz h2
      · cases h2
    · exact one h
    · cases h
  | comp own tg it co elt =>
    dsimp only [ckE] at h
    split at h
    · rename_i el t i ifs scope pos
      simp only [Bool.and_eq_true] at h
      obtain ⟨⟨⟨⟨⟨⟨h1, h2⟩, h3⟩, h4⟩, h5⟩, h6⟩, h7⟩ := h
      obtain ⟨p1, p2⟩ := ckIt_ok V G0 G h1
      refine se_comp G p1 h3 h4 (of_decide_eq_true h5) h2 (fun X' G' => ?_) (fun X' G' => G0.e X' _ W0 _ _ G' h7) (notSet_fold p2)
      unfold CondOk
      split at h6
      · exact True.intro
      · exact (G0.t X' _ W0 _ _ G' h6).1
      · cases h6
    · cases h
  | dcomp own tg it co mk mv =>
    dsimp only [ckE] at h
    split at h
    · simp only [Bool.and_eq_true] at h
      obtain ⟨⟨⟨⟨⟨⟨⟨h1, h2⟩, h3⟩, h4⟩, h5⟩, h6⟩, h7⟩, h8⟩ := h
      obtain ⟨p1, p2⟩ := ckIt_ok V G0 G h1
      refine se_dcomp G p1 h3 h4 (of_decide_eq_true h5) h2 (fun X' G' => ?_) (fun X' G' => G0.e X' _ W0 _ _ G' h7) (fun X' G' => G0.e X' _ W0 _ _ G' h8) (notSet_fold p2)
      unfold CondOk
      split at h6
      · exact True.intro
      · exact (G0.t X' _ W0 _ _ G' h6).1
      · cases h6
    · cases h
  | comp2 own own1 tg it co tg1 it1 co1 elt =>
    dsimp only [ckE] at h
    split at h
    · simp only [Bool.and_eq_true] at h
      obtain ⟨⟨⟨⟨⟨⟨⟨⟨⟨⟨⟨h1, h2⟩, h3⟩, h4⟩, h5⟩, h6⟩, h7⟩, h8⟩, h9⟩, h10⟩, h11⟩, h12⟩ := h
      obtain ⟨p1, p2⟩ := ckIt_ok V G0 G h1
      have p3 : ∀ env x, foldedSetIterable _ env x = pure x := fun env => notSet_fold (ckIt_notSet h9)
      refine se_comp2 G p1 h3 h4 (fun j hj => memN_mem (List.all_eq_true.mp h5 j hj)) h6 (of_decide_eq_true h7) h2 (fun X' G' => ?_) (fun X' G' => (ckIt_ok V G0 G' h9).1) h10 (fun X' G' => ?_) (fun X' G' => G0.e X' _ W0 _ _ G' h12) (notSet_fold p2) p3
      · unfold CondOk
        split at h8
        · exact True.intro
        · exact (G0.t X' _ W0 _ _ G' h8).1
        · cases h8
      · unfold CondOk
        split at h11
        · exact True.intro
        · exact (G0.t X' _ W0 _ _ G' h11).1
        · cases h11
    · cases h
  | tupS ms =>
    dsimp only [ckE] at h
    split at h
    · exact se_tupS (ckEsS_ok G0 G h)
    · cases h
  | dsp kvs =>
    dsimp only [ckE] at h
    split at h
    · simp only [Bool.and_eq_true] at h
      exact se_dsp (ckKVs_ok V G0 G h.1.1) (ble_true h.1.2) (ble_true h.2)
    · cases h
  | dnewK =>
    dsimp only [ckE] at h
    split at h
    · exact se_dnewK
    · cases h
  | dnewT =>
    dsimp only [ckE] at h
    split at h
    · exact se_dnewT
    · cases h
  | dzip ma mb =>
    dsimp only [ckE] at h
    split at h
    · simp only [Bool.and_eq_true] at h
      exact se_dzip G V.mdo h.1.1.1.1.1 h.1.1.1.1.2 h.1.1.1.2 h.1.1.2 (G0.e X sc W _ _ G h.1.2) (G0.e X sc W _ _ G h.2)
    · cases h
  | get1 md' mk =>
    dsimp only [ckE] at h
    split at h
    · simp only [Bool.and_eq_true] at h
      obtain ⟨⟨⟨⟨⟨h1, h2⟩, h3⟩, h4⟩, h5⟩, h6⟩ := h
      rw [strEq_iff.mp h1]
      exact se_get1 G h2 h3 h4 (G0.e X sc W _ _ G h5) (G0.e X sc W _ _ G h6)
    · cases h
  | app ml me =>
    dsimp only [ckE] at h
    split at h
    · simp only [Bool.and_eq_true] at h
      obtain ⟨⟨⟨⟨⟨h1, h2⟩, h3⟩, h4⟩, h5⟩, h6⟩ := h
      rw [strEq_iff.mp h1]
      exact se_app G h2 h3 h4 (G0.e X sc W _ _ G h5) (G0.e X sc W _ _ G h6)
    · cases h
  | fld mo f =>
    dsimp only [ckE] at h
    split at h
    · simp only [Bool.and_eq_true] at h
      rw [strEq_iff.mp h.1.1]
      exact se_fld G V.ins h.1.2 (G0.e X sc W _ mo G h.2)
    · exact one h
    · cases h
  | meth c f x mo ms =>
    dsimp only [ckE] at h
    split at h
    · simp only [Bool.and_eq_true] at h
      obtain ⟨⟨⟨⟨⟨⟨h1, h2⟩, h3⟩, h4⟩, h5⟩, h6⟩, h7⟩ := h
      obtain ⟨a1, a2, a3⟩ := ckEs_ok G0 G h7
      rw [← strEq_iff.mp h1]
      exact se_meth G V.call h2 h3 h4 (blt_true h5) (G0.e X sc W _ mo G h6) a2 a1 a3
    · exact one h
    · cases h
  | rpr ma =>
    dsimp only [ckE] at h
    split at h
    · simp only [Bool.and_eq_true] at h
      exact se_rpr G V.mdo h.1.1 h.1.2 (G0.e X sc W _ ma G h.2)
    · exact one h
    · cases h
  | idx ml me =>
    dsimp only [ckE] at h
    split at h
    · simp only [Bool.and_eq_true] at h
      rw [strEq_iff.mp h.1.1.1.1.1]
      exact se_idx G h.1.1.1.1.2 h.1.1.1.2 h.1.1.2 (G0.e X sc W _ ml G h.1.2) (G0.e X sc W _ me G h.2)
    · cases h
  | lrng tp ma mb =>
    dsimp only [ckE] at h
    split at h
    · rename_i y p1 x p2 as p3 p4
      simp only [Bool.and_eq_true] at h
      have he : PRg X (.Call (.Name x p2) as [] p3) (tEvR M W (evRg (rec cl calls n) ma mb)) := by
        have h2 := h.2
        split at h2
        · simp only [Bool.and_eq_true] at h2
          exact sr_1 G V.mdo h.1.2 h2.1 (G0.e X sc W _ mb G h2.2)
        · simp only [Bool.and_eq_true] at h2
          exact sr_2 G V.mdo h.1.2 h2.1.1.1 h2.1.1.2 (G0.e X sc W _ _ G h2.1.2) (G0.e X sc W _ mb G h2.2)
        · cases h2
      cases tp with
      | true => exact se_lrngT G V.mdo h.1.1 rfl he
      | false => exact se_lrngL G V.mdo h.1.1 rfl he
    · cases h
  | srtK ma =>
    dsimp only [ckE] at h
    split at h
    · rename_i x p a kw params l p1 a1 p2 p3 a2 p4 j p5 scope lpos kpos pos
      simp only [Bool.and_eq_true] at h
      obtain ⟨⟨⟨⟨⟨⟨⟨⟨⟨⟨h1, h2⟩, h3⟩, h4⟩, h5⟩, h6⟩, h7⟩, h8⟩, h9⟩, h10⟩, h11⟩ := h
      obtain rfl := strEq_iff.mp h5
      obtain rfl := strEq_iff.mp h6
      obtain rfl := strEq_iff.mp h7
      obtain ⟨hd, hb⟩ := keyPar_ok (env := X.env) h9
      exact se_srtK G V.mdo (G.lam (by rw [← V.lam]; exact h1)).1 h2 h3 h4 (keySc_ok h10) (by rw [← strEq_beq]; simpa [sDebug] using h8) hd (fun q pm c' ctv v => hb _ v rfl rfl) (G0.e X sc W _ ma G h11)
    · cases h
  | gsub j mi =>
    dsimp only [ckE] at h
    split at h
    · simp only [Bool.and_eq_true] at h
      exact se_gsub G (V.gds j _ h.1.1.1.1) h.1.1.1.2 h.1.1.2 h.1.2 (G0.e X sc W _ _ G h.2)
    · cases h
  | gin neg j ma =>
    dsimp only [ckE] at h
    split at h
    · simp only [Bool.and_eq_true] at h
      exact se_gin G (V.gds j _ h.1.1.1.2) h.1.1.2 h.1.2 h.1.1.1.1 (G0.e X sc W _ _ G h.2)
    · cases h
  | join ma mb =>
    dsimp only [ckE] at h
    split at h
    · simp only [Bool.and_eq_true] at h
      rw [strEq_iff.mp h.1.1.1.1.1]
      exact se_join G h.1.1.1.1.2 h.1.1.1.2 h.1.1.2 (G0.e X sc W _ _ G h.1.2) (G0.e X sc W _ _ G h.2)
    · cases h
  | dspE kvs =>
    dsimp only [ckE] at h
    split at h
    · simp only [Bool.and_eq_true] at h
      exact se_dspE (ckKE_ok G0 G h.1.1) (ble_true h.1.2) (ble_true h.2)
    · cases h
  | said j mb =>
    dsimp only [ckE] at h
    split at h
    · simp only [Bool.and_eq_true] at h
      obtain ⟨⟨⟨⟨⟨⟨h1, h2⟩, h3⟩, h4⟩, h5⟩, h6⟩, h7⟩ := h
      refine se_said G (by rw [← V.lam]; exact h4) V.clo (V.said j _ h1) h2 h3 h5 (lamPB_ok h6) fun X' W' G' => ?_
      cases d with
      | zero => cases h7
      | succ d => exact HL n d X' _ W' _ _ G' h7
    · cases h
  | srt ma =>
    dsimp only [ckE] at h
    split at h
    · simp only [Bool.and_eq_true] at h
      exact se_srt G V.mdo h.1.1 h.1.2 (G0.e X sc W _ ma G h.2)
    · cases h
  | dspT mk mv =>
    dsimp only [ckE] at h
    split at h
    · simp only [Bool.and_eq_true] at h
      exact se_dspT G (G0.e X sc W _ mk G h.1) (G0.e X sc W _ mv G h.2)
    · cases h
  | ext ml me =>
    dsimp only [ckE] at h
    split at h
    · simp only [Bool.and_eq_true] at h
      rw [strEq_iff.mp h.1.1.1.1.1]
      exact se_ext G h.1.1.1.1.2 h.1.1.1.2 h.1.1.2 (G0.e X sc W _ ml G h.1.2) (G0.e X sc W _ me G h.2)
    · cases h
  | pop ml =>
    dsimp only [ckE] at h
    split at h
    · simp only [Bool.and_eq_true] at h
      rw [strEq_iff.mp h.1.1.1]
      exact se_pop G h.1.1.2 h.1.2 (G0.e X sc W _ ml G h.2)
    · cases h
  | popAt ml me =>
    dsimp only [ckE] at h
    split at h
    · simp only [Bool.and_eq_true] at h
      rw [strEq_iff.mp h.1.1.1.1.1]
      exact se_popAt G h.1.1.1.1.2 h.1.1.1.2 h.1.1.2 (G0.e X sc W _ ml G h.1.2) (G0.e X sc W _ me G h.2)
    · cases h
  | vals mo =>
    dsimp only [ckE] at h
    split at h
    · simp only [Bool.and_eq_true] at h
      rw [strEq_iff.mp h.1.1.1.2]
      exact se_vals G V.mdo h.1.1.1.1 h.1.1.2 h.1.2 (G0.e X sc W _ mo G h.2)
    · cases h
  | make c f ms =>
    dsimp only [ckE] at h
    split at h
    · simp only [Bool.and_eq_true] at h
      obtain ⟨⟨⟨⟨h1, h2⟩, h3⟩, h4⟩, h5⟩ := h
      obtain ⟨a1, a2, a3⟩ := ckEs_ok G0 G h5
      exact se_make G V.call h1 h2 h3 h4 a2 a1 a3
    · cases h
theorem ckT_ok (V : Env1 M md cl k calls) (Gm : ∀ m, m ≤ n → Good l M N k md cl calls m d) (G1 : Good l M N k md cl calls (n + 1) d) (G : Gd M X N sc k W) {ex : Expr} {m : E} (h : ckT md (chkL l md N d) sc ex m = true) :
    PT X ex (tEvT M W (stepT (rec cl calls n) m)) ∧ (isBoolOp ex = true → PW X ex (tEvT M W (stepT (rec cl calls n) m))) := by
  have G0 := Gm n (Nat.le_refl n)
  unfold ckT at h
  split at h
  · split at h
    · simp only [Bool.and_eq_true] at h
      have w := st_and (G0.t X sc W _ _ G h.1).1 ((G0.t X sc W _ _ G h.2).2 rfl)
      exact ⟨w.pt, fun _ => w⟩
    · cases h
  · split at h
    · simp only [Bool.and_eq_true] at h
      have w := st_or (G0.t X sc W _ _ G h.1).1 ((G0.t X sc W _ _ G h.2).2 rfl)
      exact ⟨w.pt, fun _ => w⟩
    · cases h
  · rename_i op a pos
    have p := (G1.t X sc W _ _ G h).1
    cases op with
    | And => exact ⟨(pw_and1 p).pt, fun _ => pw_and1 p⟩
    | Or => exact ⟨(pw_or1 p).pt, fun _ => pw_or1 p⟩
  · split at h
    · exact ⟨st_not (G0.t X sc W _ _ G h).1, fun z => by cases z⟩
    · cases h
  · split at h
    · rename_i o ma mb
      simp only [Bool.and_eq_true] at h
      refine ⟨?_, fun z => by cases z⟩
      cases n with
      | zero => exact PT.bad fun _ _ => rfl
      | succ n =>
        have Gn := Gm n (Nat.le_succ n)
        rw [cmpEq_ok h.1.1.1]
        exact st_cmp (cl := cl) (calls := calls) (rc := rec cl calls n) G h.1.1.2 (Gn.e X sc W _ _ G h.1.2) (Gn.e X sc W _ _ G h.2)
    · rename_i neg j ma
      rw [Bool.and_eq_true] at h
      obtain ⟨h1, h2⟩ := h
      split at h2
      · simp only [Bool.and_eq_true] at h2
        refine ⟨?_, fun z => by cases z⟩
        cases n with
        | zero => exact PT.bad fun _ _ => rfl
        | succ n =>
          have Gn := Gm n (Nat.le_succ n)
          exact st_gin (cl := cl) (calls := calls) (rc := rec cl calls n) G (V.gds j _ h2.1.1.1) h2.1.1.2 h2.1.2 h1 (Gn.e X sc W _ _ G h2.2)
      · cases h2
    · cases h
  · split at h
    · rename_i o o' ma mb mc
      simp only [Bool.and_eq_true] at h
      obtain ⟨⟨⟨⟨⟨⟨h1, h2⟩, h3⟩, h4⟩, h5⟩, h6⟩, h7⟩ := h
      refine ⟨?_, fun z => by cases z⟩
      cases n with
      | zero => exact PT.bad fun _ _ => rfl
      | succ n =>
        have Gn := Gm n (Nat.le_succ n)
        rw [cmpEq_ok h1, cmpEq_ok h2]
        exact st_cmp2 (cl := cl) (calls := calls) (rc := rec cl calls n) G h4 (Gn.e X sc W _ _ G h5) (Gn.e X sc W _ _ G h6) (Gn.e X sc W _ _ G h7)
    · cases h
  · simp only [Bool.and_eq_true] at h
    obtain ⟨h1, h2⟩ := h
    refine ⟨?_, fun z => ?_⟩
    · split at h2
      · cases h2
      · cases h2
      · cases h2
      · rename_i m1 n1 n2 n3
        have p := st_val h1 (G0.e X sc W _ _ G h2)
        cases m <;> first | exact p | exact absurd rfl (n1 _ _) | exact absurd rfl (n2 _ _) | exact absurd rfl (n3 _)
    · cases ex <;> first | (cases z; done) | cases h1
theorem ckB_ok (G0 : Good l M N k md cl calls n d) (G : Gs M X N sc k W) : ∀ {sts : List Stmt} {ms : List S}, ckB (chkL l md N d) sc sts ms = true → PSs X sts (tEvS M W (execs (rec cl calls n) ms))
  | [], [], _ => ss_nil
  | [], _ :: _, h => by cases h
  | _ :: _, [], h => by cases h
  | st :: sts, m :: ms, h => by
    unfold ckB at h
    simp only [Bool.and_eq_true] at h
    exact ss_cons (G0.s X sc W st m G h.1) (ckB_ok G0 G h.2)
theorem ckHE_ok (D : MdOk M md) (CO : ClOk M cl) (G : Gd M X N sc k W) {a : Addr} {i : Nat} {cls : Value} {dd : Option Addr} {oe : Obj} {pn : List (Addr × Obj)} (hz : Zc cls dd oe) (hf : ∃ vs, oe.data = .fields vs) {e : Expr} {m : HE} (h : ckHE md N i sc e m = true) :
    PE (X.suite a ((a, oe) :: pn)) e (tHE M cl a i cls dd m) := by
  cases m with
  | fld f =>
    dsimp only [ckHE] at h
    split at h
    · simp only [Bool.and_eq_true] at h
      obtain ⟨⟨⟨⟨h1, h2⟩, h3⟩, h4⟩, h5⟩ := h
      rw [strEq_iff.mp h1]
      exact he_fld G CO h2 h3 h4 h5 hz hf
    · cases h
  | lit v =>
    dsimp only [ckHE] at h
    split at h
    · exact he_lit h
    · cases h
  | glb y v =>
    dsimp only [ckHE] at h
    split at h
    · simp only [Bool.and_eq_true] at h
      exact he_glb G D h.1.1 h.1.2 h.2
    · cases h
  | var j =>
    dsimp only [ckHE] at h
    split at h
    · simp only [Bool.and_eq_true] at h
      exact he_var G h.1.1.1 h.1.1.2 h.1.2 h.2
    · cases h
theorem ckHEs_ok (D : MdOk M md) (CO : ClOk M cl) (G : Gd M X N sc k W) {a : Addr} {i : Nat} {cls : Value} {dd : Option Addr} {oe : Obj} {pn : List (Addr × Obj)} (hz : Zc cls dd oe) (hf : ∃ vs, oe.data = .fields vs) : ∀ {es : List Expr} {ms : List HE}, ckHEs md N i sc es ms = true →
    PA (X.suite a ((a, oe) :: pn)) es (tHL M cl a i cls dd ms)
  | [], [], _ => hl_nil
  | [], _ :: _, h => by cases h
  | _ :: _, [], h => by cases h
  | e :: es, m :: ms, h => by
    unfold ckHEs at h
    simp only [Bool.and_eq_true] at h
    exact hl_cons h.1.1 (ckHE_ok D CO G hz hf h.1.2) (ckHEs_ok D CO G hz hf h.2)
theorem ckHB_ok (D : MdOk M md) (CO : ClOk M cl) (G : Gs M X N sc k W) {a : Addr} {i : Nat} {cls : Value} {dd : Option Addr} {oe : Obj} {pn : List (Addr × Obj)} (hz : Zc cls dd oe) (hf : ∃ vs, oe.data = .fields vs) {st : Stmt} {b : HB} (h : ckHB md N i sc st b = true) :
    PSs (X.suite a ((a, oe) :: pn)) [st] (tHB M cl a i cls dd b) := by
  cases b with
  | set1 j m =>
    dsimp only [ckHB] at h
    split at h
    · simp only [Bool.and_eq_true] at h
      exact hb_set (pk := isLoc) G h.1.1.1 h.1.1.2 h.1.2 (ckHE_ok D CO G.g hz hf h.2)
    · cases h
  | ret1 m =>
    dsimp only [ckHB] at h
    split at h
    · exact hb_ret (ckHE_ok D CO G.g hz hf h)
    · cases h
  | retT ms =>
    dsimp only [ckHB] at h
    split at h
    · exact hb_retT (ckHEs_ok D CO G.g hz hf h)
    · cases h
theorem ckHds_ok (D : MdOk M md) (CO : ClOk M cl) (hcls : ∀ c x, clsIs x md.excs c = true → M.mg x = some (.ref (M.ca c))) (G : Gs M X N sc k W) {i : Nat} {n : Str} : ∀ {hds : List ExceptHandler} {hs : List (Nat × Nat × HB)}, ckHds md N i n sc hds hs = true → HdsM M X cl sc n i hds hs
  | [], [], _ => .nil
  | [], _ :: _, h => by simp [ckHds] at h
  | _ :: _, [], h => by simp [ckHds] at h
  | e :: hds, p :: hs, h => by
    unfold ckHds at h
    split at h
    · rename_i e1 e2
      cases e1
    · rename_i x q n' st q' hds' p' hs' e1 e2
      cases e1
      cases e2
      simp only [Bool.and_eq_true] at h
      obtain ⟨⟨⟨⟨⟨⟨h1, h2⟩, h3⟩, h4⟩, h5⟩, h6⟩, h7⟩ := h
      obtain rfl := strEq_iff.mp h1
      obtain ⟨ci, j, hb⟩ := p
      obtain rfl : j = i := Nat.eq_of_beq_eq_true h2
      exact .cons (hcls ci _ h3) h4 h5 (fun a oe cls dd pn hz hf => ckHB_ok D CO G hz hf h6) (ckHds_ok D CO hcls G h7)
    · cases h
theorem excIs_cls {x : Str} {nn : Nat} : ∀ {l : List (Str × List Str)} {c : Nat}, excIs x nn l c = true → clsIs x l c = true
  | [], _, h => by cases h
  | p :: ps, 0, h => by
    unfold excIs at h
    simp only [Bool.and_eq_true] at h
    exact h.1
  | p :: ps, c + 1, h => excIs_cls (l := ps) (c := c) h
theorem notComp_of {e : Expr} (h : ∀ el gs scope cp, e ≠ .ListComp el gs scope cp) (h2 : notComp e = true) : notComp e = true := h2
theorem ckS_ok (V : Env1 M md cl k calls) (Gm : ∀ m, m ≤ n → Good l M N k md cl calls m d) (G : Gs M X N sc k W) {st : Stmt} {m : S} (h : ckS md N (chkL l md N d) sc st m = true) : PS X st (tEvS M W (stepS cl (rec cl calls n) m)) := by
  have G0 := Gm n (Nat.le_refl n)
  cases m with
  | set i e =>
    dsimp only [ckS] at h
    split at h
    · rename_i x p ex pos
      simp only [Bool.and_eq_true] at h
      obtain ⟨⟨h1, h2⟩, h3⟩ := h
      split at h3
      · rename_i el gs scope cp
        cases q : swB sc scope x p.line cp.line with
        | false =>
          rw [q] at h3
          exact ss_set G h1 h2 (G0.e X sc W _ _ G.g h3) (by rw [swB_ok G.g, q])
        | true =>
          rw [q] at h3
          simp only [Bool.and_eq_true] at h3
          obtain ⟨h4, h5⟩ := h3
          cases n with
          | zero => exact PS.bad fun _ _ => rfl
          | succ n =>
            have Gn := Gm n (Nat.le_succ n)
            cases e with
            | comp own tg it co elt =>
              dsimp only [ckE] at h5
              split at h5
              · rename_i el' t i' ifs scope' pos' heq
                cases heq
                simp only [Bool.and_eq_true] at h5
                obtain ⟨⟨⟨⟨⟨⟨g1, g2⟩, g3⟩, g4⟩, g5⟩, g6⟩, g7⟩ := h5
                obtain ⟨p1, p2⟩ := ckIt_ok V Gn G.g g1
                refine ss_setLc (cl := cl) (rc := rec cl calls (n + 1)) (m := .comp own tg it co elt) (ss_lc (cl := cl) (calls := calls) (rc := rec cl calls n) G.g h1 h4 (by rw [swB_ok G.g, q]) p1 g3 g4 (of_decide_eq_true g5) g2 (fun X' G' => ?_) (fun X' G' => Gn.e X' _ W0 _ _ G' g7) (notSet_fold p2))
                unfold CondOk
                split at g6
                · exact True.intro
                · exact (Gn.t X' _ W0 _ _ G' g6).1
                · cases g6
              · cases h5
            | comp2 own own1 tg it co tg1 it1 co1 elt =>
              dsimp only [ckE] at h5
              split at h5
              · rename_i heq
                cases heq
                simp only [Bool.and_eq_true] at h5
                obtain ⟨⟨⟨⟨⟨⟨⟨⟨⟨⟨⟨g1, g2⟩, g3⟩, g4⟩, g5⟩, g6⟩, g7⟩, g8⟩, g9⟩, g10⟩, g11⟩, g12⟩ := h5
                obtain ⟨p1, p2⟩ := ckIt_ok V Gn G.g g1
                have p3 : ∀ env x, foldedSetIterable _ env x = pure x := fun env => notSet_fold (ckIt_notSet g9)
                refine ss_setLc (cl := cl) (rc := rec cl calls (n + 1)) (m := .comp2 own own1 tg it co tg1 it1 co1 elt) (ss_lc2 (cl := cl) (calls := calls) (rc := rec cl calls n) G.g h1 h4 (by rw [swB_ok G.g, q]) p1 g3 g4 (fun j hj => memN_mem (List.all_eq_true.mp g5 j hj)) g6 (of_decide_eq_true g7) g2 (fun X' G' => ?_) (fun X' G' => (ckIt_ok V Gn G' g9).1) g10 (fun X' G' => ?_) (fun X' G' => Gn.e X' _ W0 _ _ G' g12) (notSet_fold p2) p3)
                · unfold CondOk
                  split at g8
                  · exact True.intro
                  · exact (Gn.t X' _ W0 _ _ G' g8).1
                  · cases g8
                · unfold CondOk
                  split at g11
                  · exact True.intro
                  · exact (Gn.t X' _ W0 _ _ G' g11).1
                  · cases g11
              · cases h5
            | _ => first | (cases h5; done) | (dsimp only [ckE] at h5; cases h5)
      · simp only [Bool.and_eq_true] at h3
        exact ss_set G h1 h2 (G0.e X sc W _ _ G.g h3.2) (notComp_swap h3.1)
    · cases h
  | par i j ma mb =>
    dsimp only [ckS] at h
    split at h
    · simp only [Bool.and_eq_true, Bool.not_eq_true'] at h
      obtain ⟨⟨⟨⟨⟨⟨⟨⟨⟨⟨⟨h1, h2⟩, h3⟩, h4⟩, h5⟩, h6⟩, h7⟩, h8⟩, h9⟩, h10⟩, h11⟩, h12⟩ := h
      exact ss_par G h1 h2 h3 h4 h5 h6 h7 h8 h9 h10 (G0.e X sc W _ _ G.g h11) (G0.e X sc W _ _ G.g h12)
    · cases h
  | par3 i j l ma mb mc =>
    dsimp only [ckS] at h
    split at h
    · simp only [Bool.and_eq_true, Bool.not_eq_true'] at h
      obtain ⟨⟨⟨⟨⟨⟨⟨⟨⟨⟨⟨⟨⟨⟨⟨⟨⟨⟨h1, h2⟩, h3⟩, h4⟩, h5⟩, h6⟩, h7⟩, h8⟩, h9⟩, h10⟩, h11⟩, h12⟩, h13⟩, h14⟩, h15⟩, h16⟩, h17⟩, h18⟩, h19⟩ := h
      exact ss_par3 G h1 h2 h3 h4 h5 h6 h7 h8 h9 h10 h11 h12 h13 h14 h15 h16 (G0.e X sc W _ _ G.g h17) (G0.e X sc W _ _ G.g h18) (G0.e X sc W _ _ G.g h19)
    · cases h
  | unp is e =>
    dsimp only [ckS] at h
    split at h
    · rename_i tg ex pos
      simp only [Bool.and_eq_true] at h
      obtain ⟨⟨⟨h1, h2⟩, h3⟩, h4⟩ := h
      refine ss_unp G h1 h2 (G0.e X sc W _ _ G.g h3) ?_
      unfold swOk at h4
      split at h4
      · split at h4
        · rw [Bool.or_eq_true] at h4
          rcases h4 with h4 | h4
          · exact swapped_folded h4
          · exact swapped_cell G.g (hasCell_ok h4)
        · cases h4
      · rename_i hh
        exact swapped_notTup (by cases ex <;> first | rfl | exact absurd rfl (hh _ _ _))
    · cases h
  | ex e =>
    dsimp only [ckS] at h
    split at h
    · simp only [Bool.and_eq_true] at h
      exact ss_ex h.1 (G0.e X sc W _ _ G.g h.2)
    · cases h
  | ret e =>
    dsimp only [ckS] at h
    split at h
    · exact ss_ret (G0.e X sc W _ _ G.g h)
    · cases h
  | retN =>
    dsimp only [ckS] at h
    split at h
    · exact ss_retN
    · cases h
  | ife c a b =>
    dsimp only [ckS] at h
    split at h
    · simp only [Bool.and_eq_true] at h
      exact ss_ife (G0.t X sc W _ _ G.g h.1.1).1 (ckB_ok G0 G h.1.2) (ckB_ok G0 G h.2)
    · cases h
  | whl c b =>
    dsimp only [ckS] at h
    split at h
    · simp only [Bool.and_eq_true] at h
      exact ss_whl G (fun m hm => ((Gm m (Nat.le_of_lt hm)).t X sc W _ _ G.g h.1).1) fun m hm => ckB_ok (Gm m (Nat.le_of_lt hm)) G h.2
    · cases h
  | loop tg it b =>
    dsimp only [ckS] at h
    split at h
    · simp only [Bool.and_eq_true] at h
      exact ss_loop G (ckIt_ok V G0 G.g h.1.1.1).1 h.1.1.2 (ckB_ok G0 G h.2) (notSet_fold h.1.2)
    · cases h
  | put o i e =>
    dsimp only [ckS] at h
    split at h
    · simp only [Bool.and_eq_true] at h
      exact ss_put G h.1.1.1 (G0.e X sc W _ _ G.g h.1.1.2) (G0.e X sc W _ _ G.g h.1.2) (G0.e X sc W _ _ G.g h.2)
    · cases h
  | setf o f e =>
    dsimp only [ckS] at h
    split at h
    · simp only [Bool.and_eq_true] at h
      rw [strEq_iff.mp h.1.1]
      exact ss_setf G V.ins (G0.e X sc W _ o G.g h.1.2) (G0.e X sc W _ e G.g h.2)
    · cases h
  | raise c es =>
    dsimp only [ckS] at h
    split at h
    · simp only [Bool.and_eq_true] at h
      obtain ⟨⟨⟨h1, h2⟩, h3⟩, h4⟩ := h
      obtain ⟨a1, a2, a3⟩ := ckEs_ok G0 G.g h4
      obtain ⟨file, sup, hc⟩ := V.sup
      obtain ⟨b, hb⟩ := hc c _ _ (by rw [← a3]; simp) h1
      exact ss_raise G sup (V.cls c _ (excIs_cls h1)) hb rfl h2 h3 a2 a1
    · cases h
  | rest i dead b => cases h
  | tri b hs =>
    dsimp only [ckS] at h
    split at h
    · split at h
      · simp only [Bool.and_eq_true] at h
        obtain ⟨⟨⟨h1, h2⟩, h3⟩, h4⟩ := h
        exact ss_tryAs G V.clo h2 h3 (fun W' pn xe tk po => ckB_ok (X := X.tr pn xe) (W := W') G0 ⟨⟨G.g.hP, G.g.hw, G.g.hK, G.g.hmg, G.g.hbase, G.g.hN, G.g.nd, G.g.hsc, G.g.kd, G.g.calm, G.g.room, G.g.gu, tk, fun h => G.g.lam h⟩, G.fl, po, G.st, G.fr⟩ h1) (ckHds_ok V.mdo V.clo V.cls G h4)
      · cases h
    · cases h
  | pass =>
    dsimp only [ckS] at h
    split at h
    · exact ss_pass
    · exact ss_doc
    · cases h
  | brk =>
    dsimp only [ckS] at h
    split at h
    · exact ss_brk
    · cases h
  | cont =>
    dsimp only [ckS] at h
    split at h
    · exact ss_cont
    · cases h
theorem good_zero : Good l M N k md cl calls 0 d := ⟨fun _ _ _ _ _ _ _ => PE.bad fun _ _ => rfl, fun _ _ _ _ _ _ _ => ⟨PT.bad fun _ _ => rfl, fun _ => PW.bad fun _ _ => rfl⟩, fun _ _ _ _ _ _ _ => PS.bad fun _ _ => rfl⟩
theorem good_allL (V : Env1 M md cl k calls) (HL : LOk l M N k cl calls) : ∀ n d, Good l M N k md cl calls n d := by
  intro n
  induction n using Nat.strongRecOn with
  | ind n ih =>
    cases n with
    | zero => exact fun d => good_zero
    | succ n =>
      intro d
      induction d with
      | zero => exact ⟨(fun _ _ _ _ _ _ h => by cases h), (fun _ _ _ _ _ _ h => by cases h), (fun _ _ _ _ _ _ h => by cases h)⟩
      | succ d ihd =>
        have Gm : ∀ m, m ≤ n → Good l M N k md cl calls m d := fun m hm => ih m (Nat.lt_succ_of_le hm) d
        exact ⟨fun X sc W ex m G h => ckE_ok V HL (Gm n (Nat.le_refl n)) ihd G h, fun X sc W ex m G h => ckT_ok V Gm ihd G h, fun X sc W st m G h => ckS_ok V Gm G h⟩
theorem Env1.no (V : Env1 M md cl k calls) : Env1 { M with lam := [] } md.no cl k calls := by
  have E : MoE M { M with lam := [] } := ⟨rfl, rfl, rfl, rfl, rfl⟩
  have sp : ∀ {n : Nat} {C : List Val → LHeap → Res Val} {vs : List L2.V} {H : Hp} {Q : VK} {W : XK}, spOf { M with lam := [] } n C vs H Q W → spOf M n C vs H Q W := fun {n C vs H Q W} ⟨c, h, us, ⟨e, R⟩, r, l, g⟩ => ⟨c, h, us, ⟨e, R.mo E.symm⟩, r.mo E.symm, l, g.mo E.symm⟩
  have fg : ∀ {n : Nat} {C : List Val → LHeap → Res Val} {f : Addr} {fd : FuncData} {ps : List Str}, FnG M.P M.w M.K M.mg M.base k f fd ps (spOf M n C) → FnG M.P M.w M.K M.mg M.base k f fd ps (spOf { M with lam := [] } n C) := fun F => ⟨fun vs H Q W q => F.len vs H Q W (sp q), fun A outer s H args us vs Q W hr gu he hb hv q => F.run A outer s H args us vs Q W hr gu he hb hv (sp q)⟩
  refine ⟨⟨V.mdo.free, fun x v h => ?_⟩, ⟨fun f x n h => ?_, fun f c x n h => ?_, V.call.n⟩, ⟨V.clo.cat, V.clo.fld⟩, V.ins, (let ⟨f, a, b⟩ := V.sup; ⟨f, ⟨a.1, a.2, a.3⟩, b⟩), V.cls, rfl, (fun j x h => by cases h), fun j x h => ⟨(V.gds j x h).ex⟩⟩
  · obtain ⟨u, y, e1, e2, e3⟩ := V.mdo.const x v h
    exact ⟨u, y, e1, e2, fun c => (e3 c).mo E⟩
  · obtain ⟨a1, a2, fd, ps, F, B⟩ := V.call.f f x n h
    exact ⟨a1, a2, fd, ps, fg F, B⟩
  · obtain ⟨a1, a2, fd, ps, F, B⟩ := V.call.m f c x n h
    exact ⟨a1, a2, fd, ps, fg F, B⟩
theorem lIn_ok (V : Env1 M md cl k calls) : LOk (lIn md N) M N k cl calls := fun n d X sc W ex m G h => by
  have E : MoE { M with lam := [] } M := ⟨rfl, rfl, rfl, rfl, rfl⟩
  exact PE.of ((good_allL (N := N) (l := lNo) V.no (fun _ _ _ _ _ _ _ _ h => by cases h) n d).e X sc W ex m G h) fun σ H Q q => tEv_mo E.symm q
theorem good_all (V : Env1 M md cl k calls) : ∀ n d, Good (lIn md N) M N k md cl calls n d := good_allL V (lIn_ok V)
end
end Ev

set_option Elab.async false
set_option linter.all false
set_option maxRecDepth 100000
set_option maxHeartbeats 4000000
/-! The rest of a def by itself. -/
noncomputable section
namespace Ev
open PySem PySem.Spec PyProof.Rows L2
mutual
theorem sameV_ok : ∀ {a b : Val}, sameV a b = true → a = b
  | .non, b, h => by cases b <;> first | rfl | (simp [sameV] at h)
  | .bl x, b, h => by cases b <;> first | (simp [sameV] at h; done) | (simp [sameV] at h; rw [h])
  | .int x, b, h => by cases b <;> first | (simp [sameV] at h; done) | (simp [sameV] at h; rw [h])
  | .str x, b, h => by cases b <;> first | (simp [sameV] at h; done) | (unfold sameV at h; rw [strEq_iff.mp h])
  | .tup xs, b, h => by cases b <;> first | (simp [sameV] at h; done) | (unfold sameV at h; rw [sameVs_ok h])
  | .fn x, b, h => by cases b <;> first | (simp [sameV] at h; done) | (unfold sameV at h; rw [Nat.eq_of_beq_eq_true h])
  | .ref l, b, h => by cases b <;> simp [sameV] at h
theorem sameVs_ok : ∀ {a b : List Val}, sameVs a b = true → a = b
  | [], b, h => by cases b <;> first | rfl | (simp [sameVs] at h)
  | x :: xs, [], h => by simp [sameVs] at h
  | x :: xs, y :: ys, h => by
    unfold sameVs at h
    cases q : sameV x y with
    | false => rw [q] at h; cases h
    | true => rw [q] at h; rw [sameV_ok q, sameVs_ok h]
end
theorem dropS_len : ∀ s : LSt, (dropS s).length = s.length
  | [] => rfl
  | o :: s => by simp [dropS, dropS_len s]
theorem dropS_get : ∀ {s : LSt} {j : Nat} {v : Val}, getV (dropS s) j = some v → getV s j = some v ∧ pureV v = true
  | [], j, v, h => by simp [dropS, getV] at h
  | o :: s, 0, v, h => by
    cases o with
    | none => simp [dropS, getV] at h
    | some u =>
      cases q : pureV u with
      | false => simp [dropS, getV, q] at h
      | true =>
        simp [dropS, getV, q] at h
        rw [← h]
        exact ⟨rfl, q⟩
  | o :: s, j + 1, v, h => dropS_get (s := s) (j := j) (by simpa [dropS, getV] using h)
section
variable {M : Mo} {c c' : Cf} {h : LHeap}
/-- a thing that is not at p is as it was -/
theorem RO.off {o : LObj} {a p : Addr} (r : RO M c o a) (e : Ex M c c') (l : Loose (c.H p)) (hH : ∀ a o, a ≠ p → c.H a = some o → ¬ Tb o → c'.H a = some o) (ne : o.mut = true → a ≠ p) : RO M c' o a := by
  cases r with
  | lst hh r => exact .lst (hH _ _ (ne rfl) hh (fun ⟨_, z⟩ => nomatch z)) (r.ex e)
  | frz hh r =>
    refine .frz (hh.imp (fun ⟨o, h⟩ => ⟨o, hH _ _ (fun z => ?_) h (fun ⟨_, z⟩ => nomatch z)⟩) id) (r.ex e)
    rw [← z, h] at l
    exact l
  | dK hh r => exact .dK (hH _ _ (ne rfl) hh (fun ⟨_, z⟩ => nomatch z)) (r.ex e)
  | dT hh r => exact .dT (hH _ _ (ne rfl) hh (fun ⟨_, z⟩ => nomatch z)) (r.ex e)
  | ins hh r => exact .ins (hH _ _ (ne rfl) hh (fun ⟨_, z⟩ => nomatch z)) (r.ex e)
  | @exc k fs a dx gs oe vs hh hc hd hf hx r =>
    have hdp : dx ≠ p := fun z => by subst z; rw [hx] at l; exact l
    exact .exc (hH _ _ (ne rfl) hh (fun ⟨_, z⟩ => nomatch (show exV _ _ = HO.tbl _ from z))) hc hd hf (hH _ _ hdp hx (fun ⟨_, z⟩ => nomatch z)) (r.ex e)
/-- a thing that may go along -/
def Goes : LObj → Prop
  | .lst xs => pureVs xs = true
  | .dK [] => True
  | _ => False
theorem RO.goes {o : LObj} {a : Addr} (g : Goes o) (hH : ∀ b ys, c.H b = some (.tup ys) → c'.H b = some (.tup ys)) (ha : c'.H a = c.H a) (r : RO M c o a) : RO M c' o a := by
  cases r with
  | lst hh r => exact .lst (by rw [ha]; exact hh) (RVs.pure hH g r)
  | @dK kvs a ys hh r =>
    cases r with
    | nil => exact .dK (by rw [ha]; exact hh) .nil
    | cons _ _ => exact g.elim
  | _ => exact g.elim
theorem goes_loose {o : LObj} {a : Addr} (g : Goes o) (r : RO M c o a) : Loose (c.H a) := by
  cases r with
  | lst hh r => rw [hh]; trivial
  | dK hh r => rw [hh]; trivial
  | _ => exact g.elim
theorem goes_mut {o : LObj} (g : Goes o) : o.mut = true := by cases o <;> first | rfl | exact g.elim
theorem canonO_ok {v : Option Val} {o : LObj} (e : canonO h v = some (some o)) : ∃ l, v = some (.ref l) ∧ h.get l = some o ∧ Goes o := by
  unfold canonO at e
  split at e
  · rename_i l
    split at e
    · rename_i xs q
      cases p : pureVs xs with
      | false => rw [p] at e; cases e
      | true => rw [p] at e; cases e; exact ⟨l, rfl, q, p⟩
    · rename_i q
      cases e
      exact ⟨l, rfl, q, trivial⟩
    · cases e
  · cases e
theorem sameO_ok {o : LObj} {h2 : LHeap} (e : sameO (some o) h2 = true) : h2.get 0 = some o := by
  unfold sameO at e
  split at e
  · rename_i z
    cases z
  · rename_i xs z
    cases z
    split at e
    · rename_i ys q
      rw [q, sameVs_ok e]
    · cases e
  · rename_i z
    cases z
    split at e
    · rename_i q
      exact q
    · cases e
  · cases e
theorem rest_at {i : Nat} {s : LSt} {σ : St} {o : Option LObj} (R : RH M c h) (S : RSl M c s σ) (e : canonO h (getV s i) = some o) : ∃ c1, c1.H = c.H ∧ RH M c1 (heap1 o) ∧ RSl M c1 (slots1 s i o) σ ∧
    ∀ c2 h2, Ext M c1 c2 → RH M c2 h2 → sameO o h2 = true → Ext M c (c.as c2) ∧ RH M (c.as c2) h := by
  have drop : ∀ c1 : Cf, c1.H = c.H → RSl M c1 (dropS s) σ := fun c1 hc => ⟨by rw [dropS_len]; exact S.len, fun j v ev => by
    obtain ⟨g1, g2⟩ := dropS_get ev
    obtain ⟨u, e1, r⟩ := S.at_ j v g1
    exact ⟨u, e1, RV.pure (fun _ _ z => by rw [hc]; exact z) g2 r⟩⟩
  cases o with
  | none => exact ⟨c.none, rfl, rh_none R, drop c.none rfl, fun c2 h2 e2 R2 _ => ⟨e2.as, R.as e2 R2⟩⟩
  | some o =>
    obtain ⟨l, ev, eg, go⟩ := canonO_ok e
    have mo := goes_mut go
    have hl : l < c.n := by rw [R.n]; exact LHeap.get_lt eg
    have ro := R.o l o eg
    have lo := goes_loose go ro
    obtain ⟨c1, ec⟩ : ∃ c1 : Cf, c1 = ⟨1, fun _ => c.r l, fun _ => true, c.H⟩ := ⟨_, rfl⟩
    have g0 : ∀ k, (heapE.push o).get k = if k = 0 then some o else none := fun k => by
      rw [LHeap.get_push]
      show (if k = 0 then some o else heapE.get k) = _
      by_cases z : k = 0
      · rw [if_pos z, if_pos z]
      · rw [if_neg z, if_neg z]
        exact LHeap.get_ge (show heapE.n ≤ k from Nat.zero_le k)
    refine ⟨c1, by rw [ec], ⟨by rw [ec]; rfl, fun k u q => ?_, fun k j u1 u2 q1 q2 m1 m2 er => ?_, fun k hk hm => ?_, fun k u q m => by rw [ec], by rw [ec]; exact R.tb⟩, ?_, fun c2 h2 e2 R2 sm => ?_⟩
    · show RO M c1 u (c1.r k)
      have q : (heapE.push o).get k = some u := q
      rw [g0] at q
      by_cases z : k = 0
      · rw [if_pos z] at q
        cases q
        rw [ec]
        exact RO.goes (c := c) (c' := ⟨1, fun _ => c.r l, fun _ => true, c.H⟩) go (fun _ _ z => z) rfl ro
      · rw [if_neg z] at q; cases q
    · have q1 : (heapE.push o).get k = some u1 := q1
      have q2 : (heapE.push o).get j = some u2 := q2
      rw [g0] at q1 q2
      by_cases z : k = 0
      · by_cases w : j = 0
        · rw [z, w]
        · rw [if_neg w] at q2; cases q2
      · rw [if_neg z] at q1; cases q1
    · rw [ec] at hk
      have : k = 0 := by have : k < 1 := hk; omega
      exact ⟨o, by show (heapE.push o).get k = _; rw [g0, if_pos this], mo⟩
    · have D := drop c1 (by rw [ec])
      refine ⟨by show (setV (dropS s) i (.ref 0)).length = _; rw [length_setV]; exact D.len, fun j v ev' => ?_⟩
      have ev' : getV (setV (dropS s) i (.ref 0)) j = some v := ev'
      rw [getV_setV] at ev'
      by_cases z : j = i ∧ i < (dropS s).length
      · rw [if_pos z] at ev'
        cases ev'
        obtain ⟨u, e1, r⟩ := S.at_ i (.ref l) ev
        cases r
        refine ⟨_, by rw [z.1]; exact e1, ?_⟩
        have : RV M c1 (.ref 0) (.ref (c1.r 0)) := .ref (by rw [ec]; exact Nat.zero_lt_one)
        rw [ec] at this ⊢
        exact this
      · rw [if_neg z] at ev'
        exact D.at_ j v ev'
    · have hr : c2.r 0 = c.r l := by
        rw [e2.x.r 0 (by rw [ec]; exact Nat.zero_lt_one), ec]
      have other : ∀ a u, a ≠ c.r l → c.H a = some u → ¬ Tb u → c2.H a = some u := fun a u na hu nt => e2.f a u (by rw [ec]; exact hu) nt fun k hk _ z => na (by rw [← z, ec])
      have hx : Ex M c (c.as c2) := ⟨Nat.le_refl _, fun _ _ => rfl, fun a xs z => e2.x.t a xs (by rw [ec]; exact z)⟩
      refine ⟨⟨hx, fun _ _ => rfl, fun a u hu nt hn => other a u (fun z => hn l hl (R.mn l o eg mo) z.symm) hu nt, fun k h1 h2 => absurd h2 (Nat.not_lt.mpr h1), fun a u hu nt => e2.tr a u (by rw [ec]; exact hu) nt⟩, R.n, fun k u q => ?_, R.inj, R.nm, R.mn, R2.tb⟩
      show RO M (c.as c2) u (c.r k)
      by_cases z : k = l
      · subst z
        rw [eg] at q
        cases q
        have r2 := R2.o 0 o (sameO_ok sm)
        rw [hr] at r2
        exact RO.goes (c := c2) (c' := c.as c2) go (fun _ _ z => z) rfl r2
      · exact (R.o k u q).off hx lo other fun m er => z (R.inj k l u o q eg m mo er)
end
theorem RSl.dead {M : Mo} {c : Cf} {s : LSt} {σ : St} (r : RSl M c s σ) : ∀ vs : List Nat, RSl M c (wipeL s vs) σ
  | [] => r
  | v :: vs => by
    have q := RSl.dead r vs
    refine ⟨by show (unV (wipeL s vs) v).length = _; rw [length_unV]; exact q.len, fun j w e => ?_⟩
    have e : getV (unV (wipeL s vs) v) j = some w := e
    rw [getV_unV] at e
    by_cases z : j = v
    · rw [if_pos z] at e; cases e
    · rw [if_neg z] at e; exact q.at_ j w e
/-- statements, then the rest by itself, if there is one: read by inner -/
def ckTopW (rc : Ck) (sc : Scope) (inner : List Stmt → List S → Bool) : List Stmt → List S → Bool
  | [], [] => true
  | st :: sts, m :: ms => (match m with
    | .rest _ _ b => (match ms with
      | [] => inner (st :: sts) b
      | _ :: _ => false)
    | m => rc.s sc st m && ckTopW rc sc inner sts ms)
  | _, _ => false
/-- the body of a def, with k rests one in another -/
def ckTop (rc : Ck) (sc : Scope) : Nat → List Stmt → List S → Bool
  | 0 => ckTopW rc sc (ckB rc sc)
  | k + 1 => ckTopW rc sc (ckTop rc sc k)
section
variable {M : Mo} {N : List Str} {k : Nat} {md : Md} {cl : Cl} {calls : Nat → List Val → LHeap → Res Val} {X : Cx} {sc : Scope} {W : WX} {n d : Nat}
theorem ss_rest {i : Nat} {dead : List Nat} {b : List S} {sts : List Stmt} (h : PSs X sts (tEvS M W (execs (rec cl calls n) b))) : PSs X sts (tEvS M W (execs (rec cl calls (n + 1)) [.rest i dead b])) := by
  refine PSs.of h fun D σ H ⟨c, s, hh, ⟨e, R, S⟩, g⟩ => ?_
  subst e
  have g : GoS M c (match (match canonO hh (getV (wipeL s dead) i) with
    | some o => (match execs (rec cl calls n) b (slots1 (wipeL s dead) i o) (heap1 o) with
      | .ok (.rt v) h2 => (match pureV v && sameO o h2 with
        | true => RS.ok (.rt v) hh
        | false => .bad)
      | _ => .bad)
    | none => .bad) with
    | .ok (.nx s1) h1 => RS.ok (.nx s1) h1
    | r => r) D W := g
  have S' := S.dead dead
  revert g S'
  generalize wipeL s dead = s2
  intro g S'
  cases q : canonO hh (getV s2 i) with
  | none => rw [q] at g; exact g.elim
  | some o =>
    rw [q] at g
    dsimp only at g
    obtain ⟨c1, e1, R1, S1, back⟩ := rest_at R S' q
    refine ⟨c1, slots1 s2 i o, heap1 o, ⟨e1, R1, S1⟩, ?_⟩
    cases qe : execs (rec cl calls n) b (slots1 s2 i o) (heap1 o) with
    | bad => rw [qe] at g; exact g.elim
    | exc _ _ _ _ => rw [qe] at g; exact g.elim
    | ok fl h2 =>
      rw [qe] at g
      cases fl with
      | rt v =>
        dsimp only at g
        cases qp : pureV v && sameO o h2 with
        | false => rw [qp] at g; exact g.elim
        | true =>
          rw [qp] at g
          rw [Bool.and_eq_true] at qp
          intro c2 y e2 R2 rv
          obtain ⟨b1, b2⟩ := back c2 h2 e2 R2 qp.2
          exact g (c.as c2) y b1 b2 (RV.pure (c := c2) (c' := c.as c2) (fun _ _ z => z) qp.1 rv)
      | _ => exact g.elim
theorem ckTopW_ok (V : Env1 M md cl k calls) (G : Gs M X N sc k W) {inner : List Stmt → List S → Bool} (hin : ∀ sts ms, inner sts ms = true → PSs X sts (tEvS M W (execs (rec cl calls n) ms))) : ∀ {sts : List Stmt} {ms : List S}, ckTopW (chk md N d) sc inner sts ms = true → PSs X sts (tEvS M W (execs (rec cl calls (n + 1)) ms))
  | [], [], _ => ckB_ok (good_all (N := N) V (n + 1) d) G rfl
  | [], _ :: _, h => by simp [ckTopW] at h
  | _ :: _, [], h => by simp [ckTopW] at h
  | st :: sts, m :: ms, h => by
    have plain : ((chk md N d).s sc st m && ckTopW (chk md N d) sc inner sts ms) = true → PSs X (st :: sts) (tEvS M W (execs (rec cl calls (n + 1)) (m :: ms))) := fun h => by
      rw [Bool.and_eq_true] at h
      exact ss_cons ((good_all (N := N) V (n + 1) d).s X sc W st m G h.1) (ckTopW_ok V G hin h.2)
    unfold ckTopW at h
    cases m with
    | rest i dead b =>
      dsimp only at h
      cases ms with
      | nil => exact ss_rest (hin _ _ h)
      | cons _ _ => cases h
    | _ => exact plain h
theorem ckTop_ok (V : Env1 M md cl k calls) (G : Gs M X N sc k W) : ∀ (j n : Nat) {sts : List Stmt} {ms : List S}, ckTop (chk md N d) sc j sts ms = true → PSs X sts (tEvS M W (execs (rec cl calls (n + j + 1)) ms))
  | 0, n, sts, ms, h => ckTopW_ok V G (fun sts ms h => ckB_ok (good_all (N := N) V n d) G h) h
  | j + 1, n, sts, ms, h => ckTopW_ok V G (fun sts ms h => ckTop_ok V G j n h) h
end
end Ev

set_option Elab.async false
set_option linter.all false
set_option maxRecDepth 100000
set_option maxHeartbeats 4000000
/-! Defs, modules, the end. -/
noncomputable section
namespace Ev
open PySem PySem.Spec PyProof.Rows L2
/-- one def: its name, its names by slot, what it does -/
structure Df where
  cl : Option Nat
  x : Str
  N : List Str
  fn : Fn
def isNone0 : Value → Bool
  | .none => true
  | _ => false
def parLoc (ns : List (Str × NameKind)) : List Str → Bool
  | [] => true
  | x :: xs => isLoc (look ns x) && parLoc ns xs
def noFree (ns : List (Str × NameKind)) : Bool := ns.all fun p => match p.2 with
  | .free => false
  | _ => true
/-- a def's head: its parameters are the first ps of its names N -/
def hdFd (K : PySem.W.Frag) (N : List Str) (ps : Nat) (fd : FuncData) : Bool := (fd.globals == mainGlobals) && (fd.builtins == builtinsNs) && fd.closure.isEmpty && isNone0 fd.defaults && PySem.W.codeIn K fd.code fd.qualname &&
  fd.params.posonlyargs.isEmpty && fd.params.kwonlyargs.isEmpty && fd.params.vararg.isNone && fd.params.kwarg.isNone &&
  strsEq (fd.params.args.map (·.arg)) (N.take ps) && Nat.ble ps N.length && nodupS N && parLoc fd.scope.names (N.take ps) && noFree fd.scope.names &&
  isFun fd.scope.kind && !fd.scope.isCoroutine && !fd.scope.isGenerator
def dfFd (md : Md) (K : PySem.W.Frag) (d : Df) (fd : FuncData) : Bool := (match fd.body with
    | .stmts b => ckTop (chk md d.N 60) fd.scope 4 b d.fn.body
    | _ => false) && hdFd K d.N d.fn.ps fd && Nat.beq d.N.length d.fn.ns
def dfB (md : Md) (K : PySem.W.Frag) (f : Addr) (d : Df) : Bool := match K.lookup f with
  | some ⟨_, _, .func fd, _⟩ => dfFd md K d fd
  | _ => false
theorem startL_len : ∀ (vs : List Val) (n : Nat), (startL vs n).length = n
  | _, 0 => rfl
  | [], n + 1 => by simp [startL, startL_len [] n]
  | v :: vs, n + 1 => by simp [startL, startL_len vs n]
theorem startL_get : ∀ (vs : List Val) (n i : Nat) (v : Val), getV (startL vs n) i = some v → Ev.nth vs i = some v
  | _, 0, _, _, h => by simp [startL, getV] at h
  | [], n + 1, 0, _, h => by simp [startL, getV] at h
  | [], n + 1, i + 1, v, h => by
    have := startL_get [] n i v (by simpa [startL, getV] using h)
    cases i <;> simp [Ev.nth] at this
  | u :: vs, n + 1, 0, v, h => by simpa [startL, getV, Ev.nth] using h
  | u :: vs, n + 1, i + 1, v, h => startL_get vs n i v (by simpa [startL, getV] using h)
theorem rsl_start {M : Mo} {c : Cf} {us : List Val} {vs : List V} {N : List Str} (r : RVs M c us vs) (h : vs.length ≤ N.length) : RSl M c (startL us N.length) (start N vs) := by
  refine ⟨?_, fun i v e => ?_⟩
  · rw [startL_len]
    unfold L2.start
    rw [List.length_append, List.length_map, List.length_replicate]
    omega
  · obtain ⟨y, e1, r1⟩ := r.nth (startL_get us N.length i v e)
    refine ⟨y, ?_, r1⟩
    unfold L2.start
    have hi : i < vs.length := (List.getElem?_eq_some_iff.mp e1).1
    rw [List.getElem?_append_left (by simpa using hi), List.getElem?_map, e1]
    rfl
/-- a def by its body -/
theorem fnG_of {P : Program} {w : World} {K : PySem.W.Frag} {mg : Str → Option Value} {base : Heap} {k : Nat} {f : Addr} {nm qual : Str} {pa : Arguments} {body : List Stmt} {scope : Scope} {dV kV doc pm cdv ct oc : Value} {an od : Option Addr} {osl : Array (Option Value)} {N ps : List Str} {sp : Sp}
    (lk : K.lookup f = some ⟨oc, od, .func (PySem.W.fnOf nm qual pa body scope dV kV doc pm an cdv ct), osl⟩) (hcd : PySem.W.codeIn K cdv qual = true) (S : FnScope N ps scope) (len : ∀ vs H Q E, sp vs H Q E → vs.length = ps.length)
    (hbody : ∀ (A : Around) (outer : List Env) (s : Shared) (H : Hp) (vs : List V) (Q : VK) (E : XK), Room k (A.deeper (envOfC qual scope s.heap.objs.size f cdv)) → A.guards = some [] → sp vs H Q E →
      ∃ t, PSs (cxOf (L2.CX P w) P w K mg base N qual scope f cdv A outer s H E) body t ∧ t { nx := fun _ H' => Q .non H', rt := Q } (L2.start N vs) H) :
    FnG P w K mg base (k + 1) f (PySem.W.fnOf nm qual pa body scope dV kV doc pm an cdv ct) ps sp := by
  refine ⟨len, fun A outer s H args us vs Q E hr gu e0 hb r hsp => ?_⟩
  have kept : ∀ b o, base.get? b = some o → s.heap.get? b = some o := fun b o e => (e0.bs b o e).1
  have KX : K.In s.heap := e0.mod.kin.keeps kept
  have lim : s.heap.NoLimit := e0.mod.nolimit.keeps kept
  obtain ⟨t, ht, hq⟩ := hbody A outer s H vs Q E (hr.deeper _) gu hsp
  refine codeAny_call_function hr.depth (KX _ _ lk) rfl S.co S.gen rfl (PySem.W.codeRec_of KX hcd) (hb _ _ _ _ (wpAny_newFunctionEnv_cells S.kind (fun ⟨n, v⟩ hy => ?_) fun env he s1 x => ?_))
  · rcases S.par n (List.of_mem_zip hy).1 with q | q
    · exact .inl q
    · exact .inr ⟨q, PySem.W.cellsFrom_some _ _ _ (.inl q)⟩
  · subst he
    refine ⟨lim.keeps x.toInCall.keep, codeAny_func (wpAny_mono (ht.run [] s1 (L2.start N vs) H _ (inv_start S hr.hd e0 (len _ _ _ _ hsp) r x) hq) (fun fl s' hs => ?_) fun e s' hs => hs)⟩
    cases fl with
    | ret u =>
      obtain ⟨v, σ', H', J, rv, q⟩ := hs
      exact ⟨v, H', J.os, J.bare, J.base, J.hok, rv, q⟩
    | next =>
      obtain ⟨σ', H', J, q⟩ := hs
      exact ⟨.non, H', J.os, J.bare, J.base, J.hok, rfl, q⟩
    | _ =>
      obtain ⟨_, _, _, q⟩ := hs
      exact q.elim
section
variable {M : Mo} {md : Md} {cl : Cl} {fns : Nat → Option Fn}
theorem hd_parts {K : PySem.W.Frag} {N : List Str} {ps : Nat} {fd : FuncData} {body : List Stmt} (hbd : fd.body = .stmts body) (hb : hdFd K N ps fd = true) : ∃ (name qual : Str) (params : Arguments) (scope : Scope) (kV doc pm : Value) (an : Option Addr) (cdv ct : Value), fd = PySem.W.fnOf name qual params body scope .none kV doc pm an cdv ct ∧
    PySem.W.codeIn K cdv qual = true ∧ params.posonlyargs = [] ∧ params.kwonlyargs = [] ∧ params.vararg = none ∧ params.kwarg = none ∧ params.args.map (·.arg) = N.take ps ∧ ps ≤ N.length ∧ FnScope N (N.take ps) scope := by
  unfold hdFd at hb
  simp only [Bool.and_eq_true] at hb
  obtain ⟨⟨⟨⟨⟨⟨⟨⟨⟨⟨⟨⟨⟨⟨⟨⟨h2, h3⟩, h4⟩, h5⟩, h6⟩, h7⟩, h8⟩, h9⟩, h10⟩, h11⟩, h13⟩, h14⟩, h15⟩, h16⟩, h17⟩, h18⟩, h19⟩ := hb
  obtain ⟨name, qual, params, bodyF, scope, globals, closure, dV, kV, doc, pm, an, cdv, ct, bns⟩ := fd
  dsimp only at hbd h2 h3 h4 h5 h6 h7 h8 h9 h10 h11 h15 h16 h17 h18 h19
  subst hbd
  obtain rfl : globals = mainGlobals := eq_of_beq h2
  obtain rfl : bns = builtinsNs := eq_of_beq h3
  obtain rfl : closure = [] := List.isEmpty_iff.mp h4
  have hdV : dV = .none := by cases dV <;> first | rfl | cases h5
  subst hdV
  have hle : ps ≤ N.length := ble_true h13
  have nd : N.Nodup := nodupS_ok h14
  have hpl : (N.take ps).length = ps := by rw [List.length_take]; omega
  refine ⟨name, qual, params, scope, kV, doc, pm, an, cdv, ct, rfl, h6, List.isEmpty_iff.mp h7, List.isEmpty_iff.mp h8, ?_, ?_, strsEq_ok h11, hle, isFun_ok h17, by simpa using h18, by simpa using h19, nd, by rw [hpl], fun x hx => ?_, fun y hy z => ?_⟩
  · cases e : params.vararg with
    | none => rfl
    | some a => rw [e] at h9; cases h9
  · cases e : params.kwarg with
    | none => rfl
    | some a => rw [e] at h10; cases h10
  · have : ∀ {l : List Str}, parLoc scope.names l = true → x ∈ l → isLoc (look scope.names x) = true := fun {l} => by
      induction l with
      | nil => intro _ q; cases q
      | cons a l ih =>
        intro p q
        unfold parLoc at p
        rw [Bool.and_eq_true] at p
        rcases List.mem_cons.mp q with e | e
        · rw [e]; exact p.1
        · exact ih p.2 e
    have q := this h15 hx
    rw [look_eq] at q
    cases e : scope.names.lookup x with
    | none => rw [e] at q; cases q
    | some kd => rw [e] at q; cases kd <;> first | (exact .inl rfl) | (exact .inr rfl) | cases q
  · have := List.all_eq_true.mp h16 y hy
    rw [z] at this
    cases this
theorem hd_binds {K : PySem.W.Frag} {N : List Str} {ps : Nat} {fd : FuncData} {body : List Stmt} (hbd : fd.body = .stmts body) (hb : hdFd K N ps fd = true) (us : List Value) (hl : us.length = ps) : bindArgs fd ⟨us, []⟩ = pure ((N.take ps).zip us) := by
  obtain ⟨name, qual, params, scope, kV, doc, pm, an, cdv, ct, rfl, h6, h7, h8, h9, h10, hps, hle, S⟩ := hd_parts hbd hb
  have hpl : (N.take ps).length = ps := by rw [List.length_take]; omega
  have hl2 : us.length = params.args.length := by
    have := congrArg List.length hps
    rw [List.length_map, hpl] at this
    rw [hl, this]
  rw [← hps]
  refine bind_plain _ us h7 h8 h9 h10 rfl hl2 ?_
  show (params.args.map (·.arg)).Nodup
  rw [hps]
  exact S.nd.sublist (List.take_sublist _ _)
theorem df_parts {K : PySem.W.Frag} {d : Df} {fd : FuncData} (hb : dfFd md K d fd = true) : ∃ (name qual : Str) (params : Arguments) (body : List Stmt) (scope : Scope) (kV doc pm : Value) (an : Option Addr) (cdv ct : Value), fd = PySem.W.fnOf name qual params body scope .none kV doc pm an cdv ct ∧
    ckTop (chk md d.N 60) scope 4 body d.fn.body = true ∧ PySem.W.codeIn K cdv qual = true ∧ hdFd K d.N d.fn.ps fd = true ∧ d.N.length = d.fn.ns ∧ d.fn.ps ≤ d.fn.ns ∧ FnScope d.N (d.N.take d.fn.ps) scope := by
  unfold dfFd at hb
  simp only [Bool.and_eq_true] at hb
  obtain ⟨⟨h1, h2⟩, h3⟩ := hb
  split at h1
  · rename_i b q
    obtain ⟨name, qual, params, scope, kV, doc, pm, an, cdv, ct, rfl, h6, h7, h8, h9, h10, hps, hle, S⟩ := hd_parts q h2
    have hn : d.N.length = d.fn.ns := Nat.eq_of_beq_eq_true h3
    exact ⟨name, qual, params, b, scope, kV, doc, pm, an, cdv, ct, rfl, h1, h6, h2, hn, by rw [← hn]; exact hle, S⟩
  · cases h1
theorem df_binds {K : PySem.W.Frag} {d : Df} {fd : FuncData} (hb : dfFd md K d fd = true) (us : List Value) (hl : us.length = d.fn.ps) : bindArgs fd ⟨us, []⟩ = pure ((d.N.take d.fn.ps).zip us) := by
  obtain ⟨name, qual, params, body, scope, kV, doc, pm, an, cdv, ct, rfl, h1, h6, h7, hN, hle, S⟩ := df_parts hb
  exact hd_binds rfl h7 us hl
/-- a def with a lambda: its code object, the table -/
def LamD (M : Mo) (d : Df) (fd : FuncData) : Prop := memLL d.N M.lam = true → ∃ c P, fd.code = .ref c ∧ LamX.TabB M.base M.mg c P ∧ (P, fd.qualname ++ ".<locals>." ++ "<lambda>") ∈ M.tb ∧ ∀ p ∈ M.tb, p.1 = P → p.2 = fd.qualname ++ ".<locals>." ++ "<lambda>"
theorem df_fnok {k j i : Nat} {f : Addr} {d : Df} {fd : FuncData} (V : Env1 M md cl k (callN cl fns j)) (lk : ∃ oc od osl, M.K.lookup f = some ⟨oc, od, .func fd, osl⟩) (hb : dfFd md M.K d fd = true) (hf : fns i = some d.fn) (hlam : LamD M d fd) :
    FnG M.P M.w M.K M.mg M.base (k + 4) f fd (d.N.take d.fn.ps) (spOf M d.fn.ps (callN cl fns (j + 1) i)) := by
  obtain ⟨oc, od, osl, lk⟩ := lk
  obtain ⟨name, qual, params, body, scope, kV, doc, pm, an, cdv, ct, rfl, h1, h6, h7, hN, hle, S⟩ := df_parts hb
  have hpl : (d.N.take d.fn.ps).length = d.fn.ps := by rw [List.length_take]; omega
  refine fnG_of lk h6 S (fun vs H Q E q => ?_) fun A outer s H vs Q E hr gu q => ?_
  · obtain ⟨c, h, us, _, r, hl, _⟩ := q
    rw [hpl, ← r.length, hl]
  · obtain ⟨c, h, us, ⟨rfl, R⟩, r, hl, g⟩ := q
    refine ⟨tEvS M (fun cls d _ H => E cls d H) (execs (rec cl (callN cl fns j) fuel) d.fn.body), ckTop_ok (sc := scope) (k := k) V ?_ 4 99995 h1, ?_⟩
    · refine ⟨⟨rfl, rfl, rfl, rfl, rfl, rfl, S.nd, rfl, S.kind, rfl, hr.mono (by omega), gu, takes_of rfl rfl rfl rfl, fun h => ⟨hlam h, hr⟩⟩, fun x hx => ?_, passes_of rfl, rfl, rfl⟩
      refine ⟨?_, .inl rfl⟩
      rw [look_eq] at hx
      cases e : scope.names.lookup x with
      | none => rw [e] at hx; cases hx
      | some kd => rw [e] at hx; cases kd <;> first | (exact .inl e) | (exact .inr e) | cases hx
    · refine ⟨c, startL us d.fn.ns, h, ⟨rfl, R, by rw [← hN]; exact rsl_start r (by rw [← r.length, hl]; omega)⟩, ?_⟩
      rw [callN_succ, hf] at g
      have g : Go M c (RV M) (runFn cl (callN cl fns j) d.fn us h) Q E := g
      unfold runFn at g
      rw [show Nat.beq us.length d.fn.ps = true by rw [hl]; exact Nat.beq_refl _] at g
      dsimp only at g
      cases qe : execs (rec cl (callN cl fns j) fuel) d.fn.body (startL us d.fn.ns) h with
      | ok fl h1 =>
        rw [qe] at g
        cases fl with
        | nx s1 => exact fun c' σ' e' R' S' => g c' .non e' R' .non
        | rt v => exact fun c' y e' R' r' => g c' y e' R' r'
        | bk s1 => exact g.elim
        | ct s1 => exact g.elim
      | exc kx fs s1 h1 =>
        rw [qe] at g
        exact fun c' cls dd σ' e' R' S' x' => g c' cls dd e' R' x'
      | bad => rw [qe] at g; exact g.elim
theorem df_fnk {k j i : Nat} {f : Addr} {d : Df} (V : Env1 M md cl k (callN cl fns j)) (hb : dfB md M.K f d = true) (hf : fns i = some d.fn) (hm : M.mg d.x = some (.ref f)) (hlam : ∀ oc od fd osl, M.K.lookup f = some ⟨oc, od, .func fd, osl⟩ → LamD M d fd) : FnK M (k + 4) f d.x d.fn.ps (callN cl fns (j + 1) i) := by
  unfold dfB at hb
  split at hb
  case h_2 => cases hb
  case h_1 oc od fd osl lk =>
  have hpl : (d.N.take d.fn.ps).length = d.fn.ps := by
    obtain ⟨name, qual, params, body, scope, kV, doc, pm, an, cdv, ct, rfl, h1, h6, h7, hN, hle, S⟩ := df_parts hb
    rw [List.length_take]; omega
  refine ⟨hm, ?_, fd, d.N.take d.fn.ps, df_fnok V ⟨oc, od, osl, lk⟩ hb hf (hlam _ _ _ _ lk), .all fun us hl => df_binds hb us (by rw [hl, hpl])⟩
  unfold PySem.W.keepIn
  dsimp only
  rw [lk]
theorem df_mthk {k j i : Nat} {C f : Addr} {d : Df} (V : Env1 M md cl k (callN cl fns j)) (hb : dfB md M.K f d = true) (hf : fns i = some d.fn) (hc : Cls M.K C) (hm : Meth M.K C d.x f) (hlam : ∀ oc od fd osl, M.K.lookup f = some ⟨oc, od, .func fd, osl⟩ → LamD M d fd) : MthK M (k + 4) C f d.x d.fn.ps (callN cl fns (j + 1) i) := by
  unfold dfB at hb
  split at hb
  case h_2 => cases hb
  case h_1 oc od fd osl lk =>
  have hpl : (d.N.take d.fn.ps).length = d.fn.ps := by
    obtain ⟨name, qual, params, body, scope, kV, doc, pm, an, cdv, ct, rfl, h1, h6, h7, hN, hle, S⟩ := df_parts hb
    rw [List.length_take]; omega
  exact ⟨hc, hm, fd, d.N.take d.fn.ps, df_fnok V ⟨oc, od, osl, lk⟩ hb hf (hlam _ _ _ _ lk), .all fun us hl => df_binds hb us (by rw [hl, hpl])⟩
end
end Ev

set_option Elab.async false
set_option linter.all false
set_option maxRecDepth 100000
set_option maxHeartbeats 4000000
/-! A module: its description, the look at the heap, what follows. -/
noncomputable section
namespace Ev
open PySem PySem.Spec PyProof.Rows L2
structure Mod where
  dfs : List Df
  clss : List (Str × List Str)
  consts : List (Str × Val)
  free : List Str
  excs : List (Str × List Str × XB)
  cat : List (List Bool)
  file : Str
  lam : List (List Str) := []
  said : List (Str × List (Nat × Nat × HB)) := []
  gds : List (Str × List (Str × Str)) := []
def Mod.md (m : Mod) : Md := ⟨m.dfs.map fun d => (d.cl, d.x, d.fn.ps), m.clss.map (·.1), m.consts, m.free, m.excs.map fun p => (p.1, p.2.1), m.lam, m.said.map (·.1), m.gds.map (·.1)⟩
def Mod.cl (m : Mod) : Cl := ⟨fun c => match nth m.excs c with
  | some p => p.2.1
  | none => [], fun c => match nth m.clss c with
  | some p => p.2
  | none => [], fun _ _ => false, fun c d => match nth m.cat c with
  | some r => nth r d
  | none => none, fun j => match nth m.said j with
  | some p => p.2
  | none => [], fun j => match nth m.gds j with
  | some p => p.2
  | none => []⟩
def Mod.fns (m : Mod) (i : Nat) : Option Fn := match nth m.dfs i with
  | some d => some d.fn
  | none => none
def Mod.cAd (m : Mod) (K : PySem.W.Frag) (c : Nat) : Addr := match nth m.clss c with
  | some p => He.ga K p.1
  | none => 0
def Mod.dAd (m : Mod) (K : PySem.W.Frag) (d : Df) : Addr := match d.cl with
  | none => He.ga K d.x
  | some c => He.ma K (m.cAd K c) d.x
/-- the defs with lambdas -/
def Mod.lamD (m : Mod) : List Df := m.dfs.filter fun d => memLL d.N m.lam
def fdAt (K : PySem.W.Frag) (f : Addr) : Option FuncData := match K.lookup f with
  | some ⟨_, _, .func fd, _⟩ => some fd
  | _ => none
def codeA (v : Value) : Addr := match v with
  | .ref c => c
  | _ => 0
def Mod.tb1 (m : Mod) (K : PySem.W.Frag) (d : Df) : Addr × Str := match fdAt K (m.dAd K d) with
  | some fd => (He.tabOf K (codeA fd.code), fd.qualname ++ ".<locals>." ++ "<lambda>")
  | none => (0, "")
def Mod.tb (m : Mod) (K : PySem.W.Frag) : List (Addr × Str) := m.lamD.map (m.tb1 K)
def Mod.cs1 (m : Mod) (K : PySem.W.Frag) (d : Df) : Addr × Addr := match fdAt K (m.dAd K d) with
  | some fd => (codeA fd.code, He.tabOf K (codeA fd.code))
  | none => (0, 0)
def Mod.cs (m : Mod) (K : PySem.W.Frag) : List (Addr × Addr) := m.lamD.map (m.cs1 K)
def Mod.mo (m : Mod) (P : Program) (w : World) (K : PySem.W.Frag) (mg : Str → Option Value) (base : Heap) : Mo := ⟨P, w, K, mg, base, fun i => match nth m.dfs i with
  | some d => m.dAd K d
  | none => 0, fun c => match nth m.excs c with
  | some p => He.ga K p.1
  | none => 0, m.cAd K, m.tb K, m.lam⟩
def gloB (K : PySem.W.Frag) (x : Str) : Bool := match PySem.W.nsIn K mainGlobals x with
  | some (some (.ref _)) => true
  | _ => false
def freeB (K : PySem.W.Frag) (x : Str) : Bool := match PySem.W.nsIn K mainGlobals x with
  | some none => true
  | _ => false
def constB (K : PySem.W.Frag) (p : Str × Val) : Bool := match PySem.W.nsIn K mainGlobals p.1 with
  | some (some (.int j _)) => (match p.2 with
    | .int i => decide (j = i)
    | _ => false)
  | some (some (.str y _)) => (match p.2 with
    | .str z => strEq y z
    | _ => false)
  | _ => false
def excB (K : PySem.W.Frag) (file : Str) (p : Str × List Str × XB) : Bool := gloB K p.1 && (match p.2.1 with
  | [] => true
  | _ :: _ => clsB K file (He.ga K p.1) p.2.1 p.2.2 && L2.xfB K (He.ga K p.1) && p.2.1.all fun f => eqOO (PySem.W.findIn K (.ref (He.ga K p.1)) f) (some none))
def catR (K : PySem.W.Frag) (C : Addr) : List (Str × List Str × XB) → List Bool → Bool
  | _, [] => true
  | [], _ :: _ => false
  | p :: ps, b :: bs => decide (PySem.W.exmOne K (.ref C) (.ref (He.ga K p.1)) = some b) && catR K C ps bs
def catB (K : PySem.W.Frag) (all : List (Str × List Str × XB)) : List (Str × List Str × XB) → List (List Bool) → Bool
  | _, [] => true
  | [], _ :: _ => false
  | p :: ps, r :: rs => catR K (He.ga K p.1) all r && catB K all ps rs
def clB (K : PySem.W.Frag) (p : Str × List Str) : Bool := gloB K p.1 && PySem.W.plainGet K (He.ga K p.1) Str.empty && PySem.W.hasDictIn K (He.ga K p.1) && PySem.W.plainOver K (He.ga K p.1) && eqOO (PySem.W.findIn K (.ref (He.ga K p.1)) "__setattr__") (some (some (.builtin "object.__setattr__"))) &&
  PySem.W.makesIn K (He.ga K p.1) && PySem.W.keepIn K (.ref (He.ga K p.1)) && p.2.all fun f => eqOO (PySem.W.findIn K (.ref (He.ga K p.1)) f) (some none)
def mtB (K : PySem.W.Frag) (C f : Addr) (x : Str) : Bool := eqOO (PySem.W.findIn K (.ref C) x) (some (some (.ref f))) && PySem.W.isFn K (.ref f) && PySem.W.keepIn K (.ref f)
def Mod.dOk (m : Mod) (K : PySem.W.Frag) (d : Df) : Bool := (match d.cl with
  | none => gloB K d.x
  | some c => (nth m.clss c).isSome && mtB K (m.cAd K c) (m.dAd K d) d.x) && dfB m.md K (m.dAd K d) d
/-- a def that tries what it got -/
def saidFd (md : Md) (K : PySem.W.Frag) (hs : List (Nat × Nat × HB)) (fd : FuncData) : Bool := match fd.body with
  | .stmts [.Try [.Return (some (.List [.Call (.Name a _) [] [] _] _)) _] (.ExceptHandler ty (some n) su hp :: hds) [] [] _] => hdFd K [a, n] 1 fd && isVis (look fd.scope.names a) && isLc (look fd.scope.names n) && !strEq a sDebug && !strEq a sClassdict && !memLL [a, n] md.lam &&
      ckHds md [a, n] 1 n fd.scope (.ExceptHandler ty (some n) su hp :: hds) hs
  | _ => false
def saidB (md : Md) (K : PySem.W.Frag) (p : Str × List (Nat × Nat × HB)) : Bool := gloB K p.1 && (match K.lookup (He.ga K p.1) with
  | some ⟨_, _, .func fd, _⟩ => saidFd md K p.2 fd
  | _ => false)
/-- a dict of texts, entry by entry -/
def entB : List DictEntry → List (Str × Str) → Bool
  | [], [] => true
  | e :: es, p :: ps => (match e.key, e.val with
    | .str x _, .str v _ => strEq x p.1 && strEq v p.2
    | _, _ => false) && entB es ps
  | _, _ => false
def gdB (K : PySem.W.Frag) (p : Str × List (Str × Str)) : Bool := gloB K p.1 && (match K.lookup (He.ga K p.1) with
  | some ⟨_, _, .dict es _, _⟩ => entB es.toList p.2
  | _ => false)
def Mod.ok (m : Mod) (K : PySem.W.Frag) : Bool := m.free.all (freeB K) && freeB K sSuper && m.consts.all (constB K) && m.clss.all (clB K) && m.dfs.all (m.dOk K) && m.excs.all (excB K m.file) && catB K m.excs m.excs m.cat && m.said.all (saidB m.md K) && m.gds.all (gdB K)
def isRefV : Value → Bool
  | .ref _ => true
  | _ => false
def Mod.tab1 (m : Mod) (g : Addr → Option Obj) (K : PySem.W.Frag) (d : Df) : Bool := match fdAt K (m.dAd K d) with
  | some fd => isRefV fd.code && PySem.W.codeHdIn K (codeA fd.code) (He.tabOf K (codeA fd.code)) && (match g (He.tabOf K (codeA fd.code)) with
      | some o => He.emptyTab o
      | none => false) && (m.tb K).all fun p => match Nat.beq p.1 (He.tabOf K (codeA fd.code)) with
      | true => strEq p.2 (fd.qualname ++ ".<locals>." ++ "<lambda>")
      | false => true
  | none => false
def Mod.tabs (m : Mod) (g : Addr → Option Obj) (K : PySem.W.Frag) : Bool := m.lamD.all (m.tab1 g K)
/-- what is known of a def with lambdas -/
structure TabAt (m : Mod) (h : Heap) (K : PySem.W.Frag) (d : Df) (fd : FuncData) (c P : Addr) : Prop where
  at_ : fdAt K (m.dAd K d) = some fd
  code : fd.code = .ref c
  tab : He.tabOf K c = P
  hd : PySem.W.codeHdIn K c P = true
  no : K.lookup P = none
  get : h.get? P = some { cls := .none, data := .fields #[] }
  uni : ∀ p ∈ m.tb K, p.1 = P → p.2 = fd.qualname ++ ".<locals>." ++ "<lambda>"
theorem tab1_ok {m : Mod} {h : Heap} {as : List Addr} {d : Df} (e : m.tab1 h.get? (He.frT h.get? as) d = true) : ∃ fd c P, TabAt m h (He.frT h.get? as) d fd c P := by
  unfold Mod.tab1 at e
  split at e
  · rename_i fd q
    simp only [Bool.and_eq_true] at e
    obtain ⟨⟨⟨e1, e2⟩, e3⟩, e4⟩ := e
    have hc : ∃ c, fd.code = .ref c := by
      cases z : fd.code <;> rw [z] at e1 <;> first | (exact ⟨_, rfl⟩) | cases e1
    obtain ⟨c, hc⟩ := hc
    have hA : codeA fd.code = c := by rw [hc]; rfl
    rw [hA] at e2 e3 e4
    split at e3
    · rename_i o ho
      refine ⟨fd, c, _, q, hc, rfl, e2, He.frT_none ho e3, by rw [ho, He.emptyTab_eq e3], fun p hp z => ?_⟩
      have := List.all_eq_true.mp e4 p hp
      rw [z, Nat.beq_refl] at this
      exact strEq_iff.mp this
    · cases e3
  · cases e
theorem TabAt.keeps {m : Mod} {h h' : Heap} {K : PySem.W.Frag} {d : Df} {fd : FuncData} {c P : Addr} (T : TabAt m h K d fd c P) (k : ∀ b o, h.get? b = some o → h'.get? b = some o) : TabAt m h' K d fd c P := ⟨T.at_, T.code, T.tab, T.hd, T.no, k _ _ T.get, T.uni⟩
theorem TabAt.cs {m : Mod} {h : Heap} {K : PySem.W.Frag} {d : Df} {fd : FuncData} {c P : Addr} (T : TabAt m h K d fd c P) : m.cs1 K d = (c, P) := by
  unfold Mod.cs1
  rw [T.at_]
  show (codeA fd.code, He.tabOf K (codeA fd.code)) = _
  rw [T.code]
  show (c, He.tabOf K c) = _
  rw [T.tab]
theorem TabAt.tb {m : Mod} {h : Heap} {K : PySem.W.Frag} {d : Df} {fd : FuncData} {c P : Addr} (T : TabAt m h K d fd c P) : m.tb1 K d = (P, fd.qualname ++ ".<locals>." ++ "<lambda>") := by
  unfold Mod.tb1
  rw [T.at_]
  show (He.tabOf K (codeA fd.code), _) = _
  rw [T.code]
  show (He.tabOf K c, _) = _
  rw [T.tab]
theorem Mod.lamD_mem {m : Mod} {d : Df} (hd : d ∈ m.dfs) (h : memLL d.N m.lam = true) : d ∈ m.lamD := List.mem_filter.mpr ⟨hd, h⟩
theorem TabAt.lamD {m : Mod} {P : Program} {w : World} {h base : Heap} {mg : Str → Option Value} {K : PySem.W.Frag} {d : Df} {fd fd' : FuncData} {c T : Addr} (A : TabAt m h K d fd c T) (hd : d ∈ m.lamD) (TB : ∀ p ∈ m.cs K, LamX.TabB base mg p.1 p.2) {oc : Value} {od : Option Addr} {osl : Array (Option Value)} (lk : K.lookup (m.dAd K d) = some ⟨oc, od, .func fd', osl⟩) : LamD (m.mo P w K mg base) d fd' := by
  have e : fd' = fd := by
    have := A.at_
    unfold fdAt at this
    rw [lk] at this
    exact Option.some.inj this
  subst e
  intro _
  refine ⟨c, T, A.code, ?_, ?_, A.uni⟩
  · have := TB (m.cs1 K d) (List.mem_map.mpr ⟨d, hd, rfl⟩)
    rw [A.cs] at this
    exact this
  · show _ ∈ m.tb K
    rw [← A.tb]
    exact List.mem_map.mpr ⟨d, hd, rfl⟩
theorem gloB_ok {K : PySem.W.Frag} {h : Heap} {mg : Str → Option Value} {x : Str} (X : K.In h) (G : h.Ns mainGlobals mg) (b : gloB K x = true) : mg x = some (.ref (He.ga K x)) := by
  unfold gloB at b
  split at b
  · rename_i a e
    have : He.ga K x = a := by unfold He.ga; rw [e]
    rw [this]
    exact PySem.W.mg_of X G e
  · cases b
theorem freeB_ok {K : PySem.W.Frag} {h : Heap} {mg : Str → Option Value} {x : Str} (X : K.In h) (G : h.Ns mainGlobals mg) (b : freeB K x = true) : mg x = none := by
  unfold freeB at b
  split at b
  · rename_i e
    exact PySem.W.mg_none_of X G e
  · cases b
theorem memS_in {x : Str} : ∀ {ys : List Str}, memS x ys = true → x ∈ ys
  | [], h => by cases h
  | y :: ys, h => by
    unfold memS at h
    cases q : strEq x y with
    | true => rw [strEq_iff.mp q]; exact List.mem_cons_self
    | false => rw [q] at h; exact List.mem_cons_of_mem _ (memS_in h)
theorem valEq_ok {a b : Val} (h : valEq a b = true) : a = b := by
  cases a <;> cases b <;> first | rfl | (cases h; done) | skip
  · simp [valEq] at h; rw [h]
  · simp [valEq] at h; rw [h]
  · rw [strEq_iff.mp h]
theorem constIs_in {x : Str} {v : Val} : ∀ {l : List (Str × Val)}, constIs x v l = true → (x, v) ∈ l
  | [], h => by cases h
  | p :: ps, h => by
    unfold constIs at h
    cases q : strEq x p.1 && valEq p.2 v with
    | true =>
      rw [Bool.and_eq_true] at q
      rw [strEq_iff.mp q.1, ← valEq_ok q.2]
      exact List.mem_cons_self
    | false => rw [q] at h; exact List.mem_cons_of_mem _ (constIs_in h)
theorem constB_ok {M : Mo} {K : PySem.W.Frag} {h : Heap} {mg : Str → Option Value} {x : Str} {v : Val} (X : K.In h) (G : h.Ns mainGlobals mg) (b : constB K (x, v) = true) : ∃ u y, mg x = some u ∧ RelV y u ∧ ∀ c, RV M c v y := by
  unfold constB at b
  dsimp only at b
  split at b
  · rename_i j t e
    cases v <;> first | (cases b; done) | skip
    rename_i i
    obtain rfl : j = i := of_decide_eq_true b
    exact ⟨_, .int j, PySem.W.mg_of X G e, ⟨_, rfl⟩, fun c => .int j⟩
  · rename_i y t e
    cases v <;> first | (cases b; done) | skip
    rename_i z
    obtain rfl : y = z := strEq_iff.mp b
    exact ⟨_, .str y, PySem.W.mg_of X G e, ⟨_, rfl⟩, fun c => .str y⟩
  · cases b
theorem fnIs_nth {x : Str} {n : Nat} : ∀ {l : List Df} {f : Nat}, fnIs x n (l.map fun d => (d.cl, d.x, d.fn.ps)) f = true → ∃ d, nth l f = some d ∧ d.cl = none ∧ d.x = x ∧ d.fn.ps = n ∧ d ∈ l
  | [], _, h => by cases h
  | d :: l, 0, h => by
    rw [List.map_cons] at h
    unfold fnIs at h
    dsimp only at h
    cases q : d.cl with
    | some c => rw [q] at h; cases h
    | none =>
      rw [q] at h
      simp only [Bool.and_eq_true] at h
      exact ⟨d, rfl, q, (strEq_iff.mp h.1).symm, (Nat.eq_of_beq_eq_true h.2).symm, List.mem_cons_self⟩
  | d :: l, f + 1, h => by
    obtain ⟨e, a, a', b, c, m⟩ := fnIs_nth (l := l) (f := f) h
    exact ⟨e, a, a', b, c, List.mem_cons_of_mem _ m⟩
theorem mthIs_nth {c : Nat} {x : Str} {n : Nat} : ∀ {l : List Df} {f : Nat}, mthIs c x n (l.map fun d => (d.cl, d.x, d.fn.ps)) f = true → ∃ d, nth l f = some d ∧ d.cl = some c ∧ d.x = x ∧ d.fn.ps = n + 1 ∧ d ∈ l
  | [], _, h => by cases h
  | d :: l, 0, h => by
    rw [List.map_cons] at h
    unfold mthIs at h
    dsimp only at h
    cases q : d.cl with
    | none => rw [q] at h; cases h
    | some c' =>
      rw [q] at h
      simp only [Bool.and_eq_true] at h
      exact ⟨d, rfl, by rw [q, Nat.eq_of_beq_eq_true h.1.1], (strEq_iff.mp h.1.2).symm, (Nat.eq_of_beq_eq_true h.2).symm, List.mem_cons_self⟩
  | d :: l, f + 1, h => by
    obtain ⟨e, a, a', b, c, m⟩ := mthIs_nth (l := l) (f := f) h
    exact ⟨e, a, a', b, c, List.mem_cons_of_mem _ m⟩
theorem clsNm_nth {x : Str} : ∀ {l : List (Str × List Str)} {c : Nat}, clsNm x (l.map (·.1)) c = true → ∃ p, nth l c = some p ∧ p.1 = x ∧ p ∈ l
  | [], _, h => by cases h
  | d :: l, 0, h => ⟨d, rfl, (strEq_iff.mp h).symm, List.mem_cons_self⟩
  | d :: l, f + 1, h => by
    obtain ⟨e, a, b, m⟩ := clsNm_nth (l := l) (c := f) h
    exact ⟨e, a, b, List.mem_cons_of_mem _ m⟩
theorem clB_ok {K : PySem.W.Frag} {p : Str × List Str} (h : clB K p = true) : L2.Cls K (He.ga K p.1) ∧ (∀ f, f ∈ p.2 → L2.NoAttr K (He.ga K p.1) f) ∧ PySem.W.makesIn K (He.ga K p.1) = true ∧ PySem.W.keepIn K (.ref (He.ga K p.1)) = true ∧ gloB K p.1 = true := by
  unfold clB at h
  simp only [Bool.and_eq_true] at h
  obtain ⟨⟨⟨⟨⟨⟨⟨h1, h2⟩, h3⟩, h4⟩, h5⟩, h6⟩, h7⟩, h8⟩ := h
  exact ⟨⟨h2, h3, h4, eqOO_ok h5⟩, fun f hf => eqOO_ok (List.all_eq_true.mp h8 f hf), h6, h7, h1⟩
theorem mtB_ok {K : PySem.W.Frag} {C f : Addr} {x : Str} (h : mtB K C f x = true) : L2.Meth K C x f := by
  unfold mtB at h
  simp only [Bool.and_eq_true] at h
  exact ⟨eqOO_ok h.1.1, h.1.2, h.2⟩
theorem excIs_nth {x : Str} {n : Nat} : ∀ {l : List (Str × List Str × XB)} {c : Nat}, excIs x n (l.map fun p => (p.1, p.2.1)) c = true → ∃ p, nth l c = some p ∧ p.1 = x ∧ p.2.1.length = n ∧ p ∈ l
  | [], _, h => by cases h
  | d :: l, 0, h => by
    rw [List.map_cons] at h
    unfold excIs at h
    rw [Bool.and_eq_true] at h
    exact ⟨d, rfl, (strEq_iff.mp h.1).symm, (Nat.eq_of_beq_eq_true h.2).symm, List.mem_cons_self⟩
  | d :: l, f + 1, h => by
    obtain ⟨e, a, b, c, m⟩ := excIs_nth (l := l) (c := f) h
    exact ⟨e, a, b, c, List.mem_cons_of_mem _ m⟩
theorem clsIs_nth {x : Str} : ∀ {l : List (Str × List Str × XB)} {c : Nat}, clsIs x (l.map fun p => (p.1, p.2.1)) c = true → ∃ p, nth l c = some p ∧ p.1 = x ∧ p ∈ l
  | [], _, h => by cases h
  | d :: l, 0, h => ⟨d, rfl, (strEq_iff.mp h).symm, List.mem_cons_self⟩
  | d :: l, f + 1, h => by
    obtain ⟨e, a, b, m⟩ := clsIs_nth (l := l) (c := f) h
    exact ⟨e, a, b, List.mem_cons_of_mem _ m⟩
theorem nth_mem {α : Type} : ∀ {l : List α} {i : Nat} {a : α}, nth l i = some a → a ∈ l
  | [], _, _, h => by cases h
  | x :: l, 0, a, h => by cases h; exact List.mem_cons_self
  | x :: l, i + 1, a, h => List.mem_cons_of_mem _ (nth_mem (show nth l i = some a from h))
theorem catR_nth {K : PySem.W.Frag} {C : Addr} : ∀ {ps : List (Str × List Str × XB)} {bs : List Bool} {d : Nat} {b : Bool}, catR K C ps bs = true → nth bs d = some b → ∃ p, nth ps d = some p ∧ PySem.W.exmOne K (.ref C) (.ref (He.ga K p.1)) = some b
  | _, [], _, _, _, h => by cases h
  | [], _ :: _, _, _, h, _ => by cases h
  | p :: ps, a :: bs, 0, b, h, e => by
    unfold catR at h
    rw [Bool.and_eq_true] at h
    cases e
    exact ⟨p, rfl, of_decide_eq_true h.1⟩
  | p :: ps, a :: bs, d + 1, b, h, e => by
    unfold catR at h
    rw [Bool.and_eq_true] at h
    exact catR_nth (ps := ps) (bs := bs) (d := d) h.2 e
theorem catB_nth {K : PySem.W.Frag} {all : List (Str × List Str × XB)} : ∀ {ps : List (Str × List Str × XB)} {rs : List (List Bool)} {c : Nat} {r : List Bool}, catB K all ps rs = true → nth rs c = some r → ∃ p, nth ps c = some p ∧ catR K (He.ga K p.1) all r = true
  | _, [], _, _, _, h => by cases h
  | [], _ :: _, _, _, h, _ => by cases h
  | p :: ps, a :: rs, 0, r, h, e => by
    unfold catB at h
    rw [Bool.and_eq_true] at h
    cases e
    exact ⟨p, rfl, h.1⟩
  | p :: ps, a :: rs, c + 1, r, h, e => by
    unfold catB at h
    rw [Bool.and_eq_true] at h
    exact catB_nth (ps := ps) (rs := rs) (c := c) h.2 e
theorem inS_in {x : Str} : ∀ {ys : List Str}, inS x ys = true → x ∈ ys
  | [], h => by cases h
  | y :: ys, h => by
    unfold inS at h
    cases q : strEq x y with
    | true => rw [strEq_iff.mp q]; exact List.mem_cons_self
    | false => rw [q] at h; exact List.mem_cons_of_mem _ (inS_in h)
theorem gds_nth {x : Str} : ∀ {l : List (Str × List (Str × Str))} {c : Nat}, nthS (l.map (·.1)) c x = true → ∃ p, nth l c = some p ∧ p.1 = x ∧ p ∈ l
  | [], _, h => by cases h
  | d :: l, 0, h => ⟨d, rfl, (strEq_iff.mp h).symm, List.mem_cons_self⟩
  | d :: l, f + 1, h => by
    obtain ⟨e, a, b, m⟩ := gds_nth (l := l) (c := f) h
    exact ⟨e, a, b, List.mem_cons_of_mem _ m⟩
theorem ent_find (z : Str) : ∀ {es : List DictEntry} {tbl : List (Str × Str)}, entB es tbl = true → (match lookS z tbl with
    | some v => ∃ e t, es.find? (·.key.isStr z) = some e ∧ e.val = .str v t
    | none => es.find? (·.key.isStr z) = none) ∧ es.any (·.refKey) = false
  | [], [], _ => ⟨rfl, rfl⟩
  | [], _ :: _, h => by cases h
  | _ :: _, [], h => by cases h
  | e :: es, p :: ps, h => by
    unfold entB at h
    rw [Bool.and_eq_true] at h
    obtain ⟨h1, h2⟩ := h
    split at h1
    · rename_i x t v t2 ek ev
      rw [Bool.and_eq_true] at h1
      obtain ⟨i1, i2⟩ := ent_find z h2
      have hx := strEq_iff.mp h1.1
      have hv := strEq_iff.mp h1.2
      have er : e.refKey = false := by unfold DictEntry.refKey; rw [ek]
      refine ⟨?_, by rw [List.any_cons, er, i2]; rfl⟩
      unfold lookS
      rw [List.find?_cons]
      have es' : e.key.isStr z = strEq p.1 z := by rw [ek, ← hx, strEq_beq]; rfl
      rw [es']
      cases q : strEq p.1 z with
      | true => exact ⟨e, t2, rfl, by rw [ev, hv]⟩
      | false => exact i1
    · cases h1
theorem ns_ent {K : PySem.W.Frag} {a : Addr} {oc : Value} {od : Option Addr} {es : Array DictEntry} {n : Nat} {sl : Array (Option Value)} {tbl : List (Str × Str)} (hl : K.lookup a = some ⟨oc, od, .dict es n, sl⟩) (h : entB es.toList tbl = true) (z : Str) : match lookS z tbl with
    | some v => ∃ t, PySem.W.nsIn K a z = some (some (.str v t))
    | none => PySem.W.nsIn K a z = some none := by
  obtain ⟨h1, h2⟩ := ent_find z h
  unfold PySem.W.nsIn
  rw [hl]
  dsimp only
  cases q : lookS z tbl with
  | none =>
    rw [q] at h1
    dsimp only at h1 ⊢
    rw [h1, h2]
    rfl
  | some v =>
    rw [q] at h1
    obtain ⟨e, t, e1, e2⟩ := h1
    exact ⟨t, by rw [e1]; show some (some e.val) = _; rw [e2]⟩
theorem said_nth {x : Str} : ∀ {l : List (Str × List (Nat × Nat × HB))} {c : Nat}, nthS (l.map (·.1)) c x = true → ∃ p, nth l c = some p ∧ p.1 = x ∧ p ∈ l
  | [], _, h => by cases h
  | d :: l, 0, h => ⟨d, rfl, (strEq_iff.mp h).symm, List.mem_cons_self⟩
  | d :: l, f + 1, h => by
    obtain ⟨e, a, b, m⟩ := said_nth (l := l) (c := f) h
    exact ⟨e, a, b, List.mem_cons_of_mem _ m⟩
theorem saidB_ok {M : Mo} {md : Md} {cl : Cl} {h : Heap} {p : Str × List (Nat × Nat × HB)} (X : M.K.In h) (G : h.Ns mainGlobals M.mg) (D : MdOk M md) (CO : ClOk M cl) (hcls : ∀ c x, clsIs x md.excs c = true → M.mg x = some (.ref (M.ca c))) (b : saidB md M.K p = true) (hl : md.lam = M.lam) : SaidOk M cl p.1 p.2 := by
  unfold saidB at b
  rw [Bool.and_eq_true] at b
  obtain ⟨b1, b2⟩ := b
  split at b2
  · rename_i oc od fd osl lk
    unfold saidFd at b2
    split at b2
    · rename_i a p1 p2 p3 p4 ty n su hp hds p5 q
      simp only [Bool.and_eq_true] at b2
      obtain ⟨⟨⟨⟨⟨⟨c1, c2⟩, c3⟩, c4⟩, c5⟩, c6⟩, c7⟩ := b2
      obtain ⟨name, qual, params, scope, kV, doc, pm, an, cdv, ct, rfl, h6, h7, h8, h9, h10, hps, hle, S⟩ := hd_parts q c1
      have bd : ∀ us : List Value, us.length = 1 → bindArgs (PySem.W.fnOf name qual params _ scope .none kV doc pm an cdv ct) ⟨us, []⟩ = pure ([a].zip us) := fun us hl => hd_binds q c1 us hl
      refine .mk (gloB_ok X G b1) ?_ lk h6 (.all fun us hl => bd us hl) S c2 c3 c4 c5 (by rw [← hl]; simpa using c6) fun Z k W GZ => ckHds_ok D CO hcls GZ c7
      unfold PySem.W.keepIn
      dsimp only
      rw [lk]
    · cases b2
  · cases b2
def fd0 : FuncData := PySem.W.fnOf "" "" ⟨[], [], none, [], [], none, []⟩ [] ⟨.function, [], false, false, []⟩ .none .none .none .none none .none .none
theorem mod_env (m : Mod) {P : Program} {w : World} {K : PySem.W.Frag} {h base : Heap} {mg : Str → Option Value} (X : K.In h) (G : h.Ns mainGlobals mg) (b : m.ok K = true) (hfile : ((P.main.file : Str) == m.file) = true) (htop : (P.main.scope.names.lookup ("super" : Str)).isSome = false) (htab : ∀ d ∈ m.dfs, ∀ oc od fd osl, K.lookup (m.dAd K d) = some ⟨oc, od, .func fd, osl⟩ → LamD (m.mo P w K mg base) d fd) (hgd : ∀ p ∈ m.gds, ∃ es n, KDict K w (He.ga K p.1) es n) :
    ∀ k, Env1 (m.mo P w K mg base) m.md m.cl (4 * k) (callN m.cl m.fns k) := by
  unfold Mod.ok at b
  simp only [Bool.and_eq_true] at b
  obtain ⟨⟨⟨⟨⟨⟨⟨⟨b1, b2⟩, b3⟩, b7⟩, b4⟩, b5⟩, b6⟩, b8⟩, b9⟩ := b
  have hcb : ∀ c p, nth m.clss c = some p → (m.mo P w K mg base).cb c = He.ga K p.1 := fun c p e => by
    show m.cAd K c = _
    unfold Mod.cAd
    rw [e]
  have hins : InsOk (m.mo P w K mg base) m.cl := by
    intro c f e
    have e : inS f (match nth m.clss c with
      | some p => p.2
      | none => []) = true := e
    cases q : nth m.clss c with
    | none => rw [q] at e; cases e
    | some p =>
      rw [q] at e
      obtain ⟨h1, h2, _⟩ := clB_ok (List.all_eq_true.mp b7 p (nth_mem q))
      rw [hcb c p q]
      exact ⟨h1, h2 f (inS_in e)⟩
  have hnm : ∀ c x, clsNm x m.md.clss c = true → (m.mo P w K mg base).mg x = some (.ref ((m.mo P w K mg base).cb c)) ∧ PySem.W.makesIn (m.mo P w K mg base).K ((m.mo P w K mg base).cb c) = true ∧ PySem.W.keepIn (m.mo P w K mg base).K (.ref ((m.mo P w K mg base).cb c)) = true := by
    intro c x e
    obtain ⟨p, e1, e2, e3⟩ := clsNm_nth e
    obtain ⟨_, _, h3, h4, h5⟩ := clB_ok (List.all_eq_true.mp b7 p e3)
    rw [hcb c p e1, ← e2]
    exact ⟨gloB_ok X G h5, h3, h4⟩
  have hfa : ∀ i d, nth m.dfs i = some d → (m.mo P w K mg base).fa i = m.dAd K d := fun i d e => by
    show (match nth m.dfs i with
      | some d => m.dAd K d
      | none => 0) = _
    rw [e]
  have hfn : ∀ i d, nth m.dfs i = some d → m.fns i = some d.fn := fun i d e => by
    show (match nth m.dfs i with
      | some d => some d.fn
      | none => none) = some d.fn
    rw [e]
  have hkeep : ∀ d, dfB m.md K (m.dAd K d) d = true → PySem.W.keepIn K (.ref (m.dAd K d)) = true := fun d hb => by
    unfold dfB at hb
    unfold PySem.W.keepIn
    dsimp only
    split at hb
    · rename_i lk
      rw [lk]
    · cases hb
  have hpl : ∀ d, d ∈ m.dfs → d.cl = none → mg d.x = some (.ref (m.dAd K d)) ∧ dfB m.md K (m.dAd K d) d = true := fun d hd e => by
    have hb := List.all_eq_true.mp b4 d hd
    unfold Mod.dOk at hb
    rw [Bool.and_eq_true] at hb
    refine ⟨?_, hb.2⟩
    have hb1 := hb.1
    unfold Mod.dAd
    rw [e] at hb1 ⊢
    exact gloB_ok X G hb1
  have hmt : ∀ d c, d ∈ m.dfs → d.cl = some c → L2.Cls K ((m.mo P w K mg base).cb c) ∧ L2.Meth K ((m.mo P w K mg base).cb c) d.x (m.dAd K d) ∧ dfB m.md K (m.dAd K d) d = true := fun d c hd e => by
    have hb := List.all_eq_true.mp b4 d hd
    unfold Mod.dOk at hb
    rw [Bool.and_eq_true] at hb
    have hb1 := hb.1
    rw [e] at hb1
    rw [Bool.and_eq_true] at hb1
    obtain ⟨p, hp⟩ := Option.isSome_iff_exists.mp hb1.1
    refine ⟨?_, mtB_ok hb1.2, hb.2⟩
    rw [hcb c p hp]
    exact (clB_ok (List.all_eq_true.mp b7 p (nth_mem hp))).1
  have hmd : MdOk (m.mo P w K mg base) m.md := by
    refine ⟨fun x hx => freeB_ok X G (List.all_eq_true.mp b1 x (memS_in hx)), fun x v hx => constB_ok X G (List.all_eq_true.mp b3 (x, v) (constIs_in hx))⟩
  have hcl : ClOk (m.mo P w K mg base) m.cl := by
    refine ⟨fun c d bb e => ?_, fun c f e => ?_⟩
    · have e : (match nth m.cat c with
        | some r => nth r d
        | none => none) = some bb := e
      cases q : nth m.cat c with
      | none => rw [q] at e; cases e
      | some r =>
        rw [q] at e
        obtain ⟨p, e1, e2⟩ := catB_nth b6 q
        obtain ⟨p2, e3, e4⟩ := catR_nth e2 e
        show PySem.W.exmOne K (.ref (match nth m.excs c with
          | some p => He.ga K p.1
          | none => 0)) (.ref (match nth m.excs d with
          | some p => He.ga K p.1
          | none => 0)) = some bb
        rw [e1, e3]
        exact e4
    · have e : inS f (match nth m.excs c with
        | some p => p.2.1
        | none => []) = true := e
      cases q : nth m.excs c with
      | none => rw [q] at e; cases e
      | some p =>
        rw [q] at e
        have hb := List.all_eq_true.mp b5 p (nth_mem q)
        unfold excB at hb
        rw [Bool.and_eq_true] at hb
        have hb2 := hb.2
        show L2.XfC K (match nth m.excs c with
          | some p => He.ga K p.1
          | none => 0) ∧ PySem.W.findIn K (.ref (match nth m.excs c with
          | some p => He.ga K p.1
          | none => 0)) f = some none
        rw [q]
        dsimp only at e ⊢
        cases q2 : p.2.1 with
        | nil => rw [q2] at e; cases e
        | cons a l =>
          rw [q2] at hb2 e
          simp only [Bool.and_eq_true] at hb2
          exact ⟨L2.xfB_ok hb2.1.2, eqOO_ok (List.all_eq_true.mp hb2.2 f (inS_in e))⟩
  have hsup : ∃ file, SupOk (m.mo P w K mg base) file ∧ (∀ c x n, 1 ≤ n → excIs x n m.md.excs c = true → ∃ bb, clsB (m.mo P w K mg base).K file ((m.mo P w K mg base).ca c) (m.cl.fields c) bb = true) := by
    refine ⟨m.file, ⟨freeB_ok X G b2, hfile, htop⟩, fun c x n hn e => ?_⟩
    obtain ⟨p, e1, e2, e3, e4⟩ := excIs_nth e
    have hb := List.all_eq_true.mp b5 p e4
    unfold excB at hb
    rw [Bool.and_eq_true] at hb
    have hb2 := hb.2
    show ∃ bb, clsB K m.file (match nth m.excs c with
      | some p => He.ga K p.1
      | none => 0) (match nth m.excs c with
      | some p => p.2.1
      | none => []) bb = true
    rw [e1]
    dsimp only
    cases q2 : p.2.1 with
    | nil => rw [q2] at e3; rw [← e3] at hn; simp at hn
    | cons a l =>
      rw [q2] at hb2
      simp only [Bool.and_eq_true] at hb2
      exact ⟨p.2.2, hb2.1.1⟩
  have hcls : ∀ c x, clsIs x m.md.excs c = true → (m.mo P w K mg base).mg x = some (.ref ((m.mo P w K mg base).ca c)) := by
    intro c x e
    obtain ⟨p, e1, e2, e3⟩ := clsIs_nth e
    have hb := List.all_eq_true.mp b5 p e3
    unfold excB at hb
    rw [Bool.and_eq_true] at hb
    show mg x = some (.ref (match nth m.excs c with
      | some p => He.ga K p.1
      | none => 0))
    rw [e1, ← e2]
    exact gloB_ok X G hb.1
  have hsaid : ∀ j x, nthS m.md.said j x = true → SaidOk (m.mo P w K mg base) m.cl x (m.cl.said j) := by
    intro j x e
    obtain ⟨p, e1, e2, e3⟩ := said_nth e
    have hb := List.all_eq_true.mp b8 p e3
    have eq : m.cl.said j = p.2 := by
      show (match nth m.said j with
        | some p => p.2
        | none => []) = _
      rw [e1]
    rw [eq, ← e2]
    exact saidB_ok X G hmd hcl hcls hb rfl
  have hgds : ∀ j x, nthS m.md.gds j x = true → GdOk (m.mo P w K mg base) x (m.cl.gds j) := by
    intro j x e
    obtain ⟨p, e1, e2, e3⟩ := gds_nth e
    have eq : m.cl.gds j = p.2 := by
      show (match nth m.gds j with
        | some p => p.2
        | none => []) = _
      rw [e1]
    rw [eq, ← e2]
    have hb := List.all_eq_true.mp b9 p e3
    unfold gdB at hb
    rw [Bool.and_eq_true] at hb
    obtain ⟨es, n, D⟩ := hgd p e3
    refine ⟨He.ga K p.1, es, n, gloB_ok X G hb.1, D, fun z => ?_⟩
    have hb2 := hb.2
    rw [D.at_] at hb2
    exact ns_ent D.at_ hb2 z
  intro k
  induction k with
  | zero =>
    have vac : ∀ n i, FnG P w K mg base 0 ((m.mo P w K mg base).fa i) fd0 [] (spOf (m.mo P w K mg base) n (callN m.cl m.fns 0 i)) := fun n i => ⟨fun vs H Q E q => by
      obtain ⟨c, hh, us, _, _, _, g⟩ := q
      exact g.elim, fun A outer s H args us vs Q E _ _ _ _ _ q => by
      obtain ⟨c, hh, us, _, _, _, g⟩ := q
      exact g.elim⟩
    have bnd : Binds K fd0 [] [] := .all fun us hl => bind_plain fd0 us rfl rfl rfl rfl rfl hl List.nodup_nil
    refine ⟨hmd, ⟨fun f x n e => ?_, fun f c x n e => ?_, hnm⟩, hcl, hins, hsup, hcls, rfl, hsaid, hgds⟩
    · obtain ⟨d, e1, e0, e2, e3, e4⟩ := fnIs_nth e
      obtain ⟨g1, g2⟩ := hpl d e4 e0
      refine ⟨?_, ?_, fd0, [], vac n f, bnd⟩
      · rw [hfa f d e1, ← e2]; exact g1
      · rw [hfa f d e1]; exact hkeep d g2
    · obtain ⟨d, e1, e0, e2, e3, e4⟩ := mthIs_nth e
      obtain ⟨g1, g2, g3⟩ := hmt d c e4 e0
      refine ⟨g1, ?_, fd0, [], vac (n + 1) f, bnd⟩
      rw [hfa f d e1, ← e2]
      exact g2
  | succ k ih =>
    refine ⟨hmd, ⟨fun f x n e => ?_, fun f c x n e => ?_, hnm⟩, hcl, hins, hsup, hcls, rfl, hsaid, hgds⟩
    · obtain ⟨d, e1, e0, e2, e3, e4⟩ := fnIs_nth e
      obtain ⟨g1, g2⟩ := hpl d e4 e0
      rw [hfa f d e1, ← e2, ← e3]
      exact df_fnk ih g2 (hfn f d e1) g1 (htab d e4)
    · obtain ⟨d, e1, e0, e2, e3, e4⟩ := mthIs_nth e
      obtain ⟨g1, g2, g3⟩ := hmt d c e4 e0
      rw [hfa f d e1, ← e2, ← e3]
      exact df_mthk ih g3 (hfn f d e1) g1 g2 (htab d e4)
end Ev

set_option Elab.async false
set_option linter.all false
set_option maxRecDepth 100000
set_option maxHeartbeats 4000000
/-! The head and the end of a law over the evaluator. -/
noncomputable section
namespace Ev
open PySem PySem.Spec PyProof.Rows L2
/-! ### what the module's names reach -/
inductive Sg where
  | nil
  | node (b : Bool) (l r : Sg)
def Sg.has : Nat → Sg → Nat → Bool
  | 0, _, _ => false
  | f + 1, t, a => match t with
    | .nil => false
    | .node b l r => match a with
      | 0 => b
      | a + 1 => match Nat.beq (a % 2) 0 with
        | true => Sg.has f l (a / 2)
        | false => Sg.has f r (a / 2)
def Sg.add : Nat → Sg → Nat → Sg
  | 0, t, _ => t
  | f + 1, t, a => match t with
    | .nil => (match a with
      | 0 => .node true .nil .nil
      | a + 1 => match Nat.beq (a % 2) 0 with
        | true => .node false (Sg.add f .nil (a / 2)) .nil
        | false => .node false .nil (Sg.add f .nil (a / 2)))
    | .node b l r => (match a with
      | 0 => .node true l r
      | a + 1 => match Nat.beq (a % 2) 0 with
        | true => .node b (Sg.add f l (a / 2)) r
        | false => .node b l (Sg.add f r (a / 2)))
/-- one level: what is new, what it names -/
def level (g : Addr → Option Obj) : List Addr → Sg → List Addr → List Addr → Sg × List Addr × List Addr
  | [], s, acc, nx => (s, acc, nx)
  | a :: as, s, acc, nx => match Sg.has 40 s a with
    | true => level g as s acc nx
    | false => match g a with
      | some o => level g as (Sg.add 40 s a) (a :: acc) (He.refsD o ++ nx)
      | none => level g as (Sg.add 40 s a) acc nx
def reach (g : Addr → Option Obj) : Nat → List Addr → Sg → List Addr → List Addr
  | 0, _, _, acc => acc.reverse
  | n + 1, as, s, acc => match level g as s acc [] with
    | (s, acc, nx) => reach g n nx s acc
def fragE (g : Addr → Option Obj) : PySem.W.Frag := He.frT g (reach g 7 [mainGlobals, cStatics] .nil [])
def lookE (m : Mod) (g : Addr → Option Obj) (K : PySem.W.Frag) : Bool := m.ok K && m.tabs g K
abbrev AlE : Type := Bool × List (Option (List (Option (Str × Int))))
def obsE (m : Mod) (g : Addr → Option Obj) (K : PySem.W.Frag) : AlE := (lookE m g K, m.gds.map fun p => He.dicW K (He.ga K p.1))
def hookE (m : Mod) : PySem.W.Hook where
  α := AlE
  obs := fun s => obsE m s.heap.get? (fragE s.heap.get?)
  val := fun w => (true, m.gds.map fun p => some (He.keysIn w.params (p.2.map (·.1))))
  says := fun w h => ∃ K : PySem.W.Frag, K.In h ∧ m.ok K = true ∧ (∀ d ∈ m.lamD, ∃ fd c P, TabAt m h K d fd c P) ∧ ∀ p ∈ m.gds, ∃ es n, L2.KDict K w (He.ga K p.1) es n
  of := fun _ _ e => by
    have e1 : lookE m _ _ = true := congrArg (fun z : AlE => z.1) e
    have e2 : (m.gds.map fun p => He.dicW _ (He.ga _ p.1)) = m.gds.map fun p => some (He.keysIn _ (p.2.map (·.1))) := congrArg (fun z : AlE => z.2) e
    unfold lookE at e1
    rw [Bool.and_eq_true] at e1
    exact ⟨_, He.frT_in, e1.1, fun d hd => tab1_ok (List.all_eq_true.mp e1.2 d hd), fun p hp => He.dicW_ok (List.map_inj_left.mp e2 p hp)⟩
  keeps := fun _ _ _ ⟨K, hK, c, t, d⟩ k => ⟨K, PySem.W.Frag.In.keeps hK k, c, fun d hd => by
    obtain ⟨fd, c, P, T⟩ := t d hd
    exact ⟨fd, c, P, T.keeps k⟩, d⟩
def obE (m : Mod) (s : PySem.W.SharedT) : AlE := obsE m (HandSHeadRun.getT s) (fragE (HandSHeadRun.getT s))
theorem obE_eq (m : Mod) (s : PySem.W.SharedT) : obE m s = (hookE m).obs s.abs := by
  have e : HandSHeadRun.getT s = s.abs.heap.get? := funext (HandSHeadRun.getT_eq s)
  unfold obE
  rw [e]
  rfl
/-! ### the start -/
def heap0 (ns : List Int) : LHeap := ⟨1, Tr.set 2 .nil 0 (.frz (ns.map Val.int))⟩
theorem heap0_get (ns : List Int) (l : Nat) : (heap0 ns).get l = if l = 0 then some (.frz (ns.map Val.int)) else none := by
  by_cases h : l = 0
  · subst h; rfl
  · rw [if_neg h]; exact LHeap.get_ge (show 1 ≤ l by omega)
theorem rvs_ints {M : Mo} {c : Cf} : ∀ ns : List Int, RVs M c (ns.map Val.int) (ns.map V.int)
  | [] => .nil
  | i :: ns => .cons (.int i) (rvs_ints ns)
/-- nothing but the script and empty tables -/
def OnlyT (H : Hp) : Prop := ∀ b, H b = none ∨ H b = some (.tbl #[]) ∨ ∃ o xs, H b = some (.frz o (.lst xs))
theorem start_has {M : Mo} {H : Hp} {a : Addr} {ns : List Int} (htb : ∀ p ∈ M.tb, H p.1 = some (.tbl #[])) (hO : OnlyT H) (hS : SqL M.K H a (ns.map V.int)) : ∃ c, Has M c (heap0 ns) H ∧ RVs M c [.ref 0] [.ref a] := by
  have fz : FzL M.K H a (ns.map V.int) := by
    rcases hS with (h | ⟨o, h⟩) | h
    · rcases hO a with z | z | ⟨o, xs, z⟩
      · rw [z] at h; cases h
      · rw [z] at h; cases h
      · rw [z] at h; cases h
    · exact .inl ⟨o, h⟩
    · exact .inr h
  refine ⟨⟨1, fun _ => a, fun _ => false, H⟩, ⟨rfl, ⟨rfl, fun l o e => ?_, fun l k o u e1 e2 m1 _ _ => ?_, fun l _ h => ?_, fun l o e m => ?_, fun p hp => ⟨#[], htb p hp, trivial, fun pos cv z => by cases z⟩⟩⟩, .cons (.ref (l := 0) (Nat.zero_lt_one)) .nil⟩
  · rw [heap0_get] at e
    split at e
    · cases e; exact .frz fz (rvs_ints ns)
    · cases e
  · rw [heap0_get] at e1
    split at e1
    · cases e1; cases m1
    · cases e1
  · cases h
  · rw [heap0_get] at e
    split at e
    · cases e; cases m
    · cases e
/-! ### the end -/
theorem FnG.imp {P : Program} {w : World} {K : PySem.W.Frag} {mg : Str → Option Value} {base : Heap} {k : Nat} {f : Addr} {fd : FuncData} {ps : List Str} {sp sp' : Sp} (F : FnG P w K mg base k f fd ps sp) (h : ∀ vs H Q E, sp' vs H Q E → sp vs H Q E) : FnG P w K mg base k f fd ps sp' :=
  ⟨fun vs H Q E q => F.len vs H Q E (h _ _ _ _ q), fun A outer s H args us vs Q E hr gu he hb hv hs => F.run A outer s H args us vs Q E hr gu he hb hv (h _ _ _ _ hs)⟩
/-- the law's call, from its promise; cs, the code objects and their tables -/
theorem lawG {P : Program} {w : World} {K : PySem.W.Frag} {mg mb : Str → Option Value} {k : Nat} {fa a : Addr} {cs : List (Addr × Addr)} {fd : FuncData} {x : Str} {sp : Sp} {s1 : Shared} {vs : List Value} {ns : List Int}
    (KX : K.In s1.heap) (hns : s1.heap.Ns mainGlobals mg) (hb : s1.heap.Ns builtinsNs mb) (hbb : ∀ x : Str, x ≠ "__name__" → mb x = bootBuiltins x) (hlim : s1.heap.NoLimit) (hg : s1.gens = #[])
    (hT : ∀ p ∈ cs, s1.heap.get? p.2 = some { cls := .none, data := .fields #[] }) (nT : ∀ p ∈ cs, K.lookup p.2 = none) (C : ∀ p ∈ cs, PySem.W.CodeHd s1.heap p.1 p.2)
    (hbm : ∃ (bm : Addr) (ob : Obj), mg "__builtins__" = some (.ref bm) ∧ bm ≠ builtinsNs ∧ s1.heap.get? bm = some ob ∧ ob.cls = .type "module" ∧ ob.dict = some builtinsNs ∧ ob.data = .plain)
    (ha : s1.heap.get? a = some { cls := .type "list", data := .seq vs.toArray }) (hi : IntsAre vs ns) (hl : ns.length ≤ sizeLine) (hr : Room k callerA)
    (F : ∀ base : Heap, K.In base → base.Ns mainGlobals mg → (∀ p ∈ cs, LamX.TabB base mg p.1 p.2) → FnG P w K mg base k fa fd [x] sp) (hbind : ∀ (s : Shared) (u : Value), BindsTo s fd ⟨[u], []⟩ [(x, u)])
    (hsp : ∀ H : Hp, OnlyT H → (∀ p ∈ cs, H p.2 = some (.tbl #[])) → SqL K H a (ns.map V.int) → sp [.ref a] H (fun v _ => v = .bl true) fun _ _ _ => False) :
    codeAny (model P w) callerA (.call (.ref fa) ⟨[.ref a], []⟩) (fun r s' => r = .ok (.ret (.bool true)) ∧ OldK s1.heap s'.heap ∧ s'.os = s1.os ∧ AllBare s'.gens) s1 := by
  have isT : ∀ b : Addr, b ∈ cs.map (·.2) → s1.heap.get? b = some { cls := .none, data := .fields #[] } := fun b hb => by
    obtain ⟨p, hp, e⟩ := List.mem_map.mp hb
    rw [← e]
    exact hT p hp
  have aT : a ∉ cs.map (·.2) := fun z => by
    have q := isT a z
    rw [ha] at q
    exact nomatch (show Data.seq vs.toArray _ = Data.fields #[] from congrArg Obj.data (Option.some.inj q))
  have memT : ∀ p ∈ cs, p.2 ∈ cs.map (·.2) := fun p hp => List.mem_map.mpr ⟨p, hp, rfl⟩
  have key : ∀ H : Hp, (∀ b, H b = none ∨ (b ∈ cs.map (·.2) ∧ H b = some (.tbl #[])) ∨ ∃ o xs, H b = some (.frz o (.lst xs))) → (∀ p ∈ cs, H p.2 = some (.tbl #[])) → SqL K H a (ns.map V.int) → HOk P w H s1.heap → (∀ b, H b ≠ none → b = a ∨ b ∈ cs.map (·.2)) → (H a ≠ none → K.lookup a = none) →
      codeAny (model P w) callerA (.call (.ref fa) ⟨[.ref a], []⟩) (fun r s' => r = .ok (.ret (.bool true)) ∧ OldK s1.heap s'.heap ∧ s'.os = s1.os ∧ AllBare s'.gens) s1 := by
    intro H hO hH hS ho hA hK
    have noD : ∀ {b : Addr} {o : Obj}, s1.heap.get? b = some o → (∀ vs n, o.data ≠ .seq vs n) → o.data ≠ .fields #[] → H b = none := fun {b o} e h1 h2 => by
      cases q : H b with
      | none => rfl
      | some u =>
        rcases hA b (by rw [q]; simp) with z | z
        · rw [z, ha] at e
          cases e
          exact (h1 _ _ rfl).elim
        · rw [isT b z] at e
          cases e
          exact (h2 rfl).elim
    have nd : ∀ {b : Addr} {o : Obj} {es : Array DictEntry} {ep : Nat}, s1.heap.get? b = some o → o.data = .dict es ep → H b = none := fun {b o es ep} e d =>
      noD e (fun vs n z => nomatch (show Data.dict es ep = Data.seq vs n from d.symm.trans z)) fun z => nomatch (show Data.dict es ep = Data.fields #[] from d.symm.trans z)
    have nsK : ∀ {b : Addr} {m : Str → Option Value}, s1.heap.Ns b m → (hidT s1.heap H).Ns b m := fun {b m} ⟨o, es, ep, e, d, r⟩ => ⟨o, es, ep, hidT_get e (nd e d), d, r⟩
    have inK : K.In (hidT s1.heap H) := fun b o e => hidT_get (KX b o e) (by
      cases q : H b with
      | none => rfl
      | some u =>
        rcases hA b (by rw [q]; simp) with z | z
        · rw [z] at e q
          rw [hK (by rw [q]; simp)] at e
          cases e
        · obtain ⟨p, hp, ep⟩ := List.mem_map.mp z
          rw [← ep, nT p hp] at e
          cases e)
    have TB : ∀ p ∈ cs, LamX.TabB (hidT s1.heap H) mg p.1 p.2 := fun p hp => by
      have hTp := hT p hp
      refine ⟨?_, ?_, fun z => ?_⟩
      · obtain ⟨o, us, file, tf, flags, tg, inF, text, tt, e1, r1, r2, r3, r4, r5, r6, r7, r8, hne⟩ := C p hp
        refine ⟨o, us, file, tf, flags, tg, inF, text, tt, hidT_get e1 (noD e1 (fun vs n z => ?_) fun z => ?_), r1, r2, r3, r4, r5, r6, r7, r8, hne⟩
        · rw [r2] at z
          cases z
        · rw [r2] at z
          cases z
          simp at r3
      · obtain ⟨bm, ob, b1, b2, b3, b4, b5, b6⟩ := hbm
        have nG : bm ≠ mainGlobals := fun q => by
          obtain ⟨o, es, ep, e, hd, _⟩ := hns
          rw [q, e] at b3
          cases b3
          rw [hd] at b6
          cases b6
        have nP : bm ≠ p.2 := fun q => by
          rw [q, hTp] at b3
          cases b3
          cases b6
        refine ⟨bm, ob, b1, b2, nG, nP, hidT_get b3 (noD b3 (fun vs n z => ?_) fun z => ?_), b4, b5, b6⟩
        · rw [b6] at z
          cases z
        · rw [b6] at z
          cases z
      · obtain ⟨o, es, ep, e, hd, _⟩ := hns
        rw [z, hTp] at e
        cases e
        cases hd
    obtain ⟨mc, l1, l2⟩ := hlim
    have env : Env0 P w K mg (hidT s1.heap H) callerA [] s1 H := ⟨rfl, ⟨inK, nsK hns, ⟨mb, nsK hb, hbb⟩, ⟨mc, nsK l1, l2⟩⟩, fun b o e => of_hidT e, Nat.le_of_eq (hidT_size _ _), trivial, fun b z => absurd (show b ∈ ([] : List Addr) from z) (by simp), ho, .of_eq hg⟩
    have hOT : OnlyT H := fun b => by
      rcases hO b with z | ⟨_, z⟩ | z
      · exact .inl z
      · exact .inr (.inl z)
      · exact .inr (.inr z)
    refine codeAny_mono ((F _ inK (nsK hns) TB).run callerA [] s1 H ⟨[.ref a], []⟩ [.ref a] [.ref a] _ _ hr rfl env (hbind s1 (.ref a)) (.cons rfl .nil) (hsp H hOT hH hS)) fun r s' h => ?_
    cases r with
    | error e =>
      obtain ⟨_, _, _, _, _, _, _, _, _, _, _, _, z⟩ := h
      exact z.elim
    | ok fl =>
      cases fl with
      | ret u =>
        obtain ⟨v, H', os, bare, un, ho', r', q⟩ := h
        obtain rfl : v = .bl true := q
        obtain rfl : u = Value.bool true := r'
        have kk : ∀ b o, b ∉ cs.map (·.2) → s1.heap.get? b = some o → s'.heap.get? b = some o := fun b o nb e => by
          cases qb : H b with
          | none => exact un.keep b o e qb (fun z => absurd (show b ∈ ([] : List Addr) from z) (by simp)) (by simp)
          | some u =>
            rcases hO b with z | ⟨z, _⟩ | ⟨ob, xs, z⟩
            · rw [qb] at z; cases z
            · exact absurd z nb
            · obtain ⟨e1, _⟩ := ho b _ z
              obtain ⟨e2, _⟩ := ho' b _ (un.frzs b ob _ z)
              rw [e] at e1
              cases e1
              exact e2
        have grown : ∀ p ∈ cs, ∃ more : Array Value, s'.heap.get? p.2 = some { cls := .none, data := .fields more } := fun p hp => by
          obtain ⟨more, z⟩ := un.tbls p.2 #[] (hH p hp)
          exact ⟨_, ho' p.2 _ z⟩
        refine ⟨rfl, ⟨fun b o e => ?_, fun b o e => ?_⟩, os, bare⟩
        · by_cases hb : b ∈ cs.map (·.2)
          · obtain ⟨p, hp, ep⟩ := List.mem_map.mp hb
            obtain ⟨more, hm⟩ := grown p hp
            rw [← ep] at e ⊢
            rw [hT p hp] at e
            cases e
            exact .inr (.inl ⟨((C p hp).tab (hT p hp)).isCodeTable, rfl, #[], more, rfl, by rw [Array.empty_append]; exact hm⟩)
          · exact .inl (kk b o hb e)
        · by_cases hb : b ∈ cs.map (·.2)
          · obtain ⟨p, hp, ep⟩ := List.mem_map.mp hb
            obtain ⟨more, hm⟩ := grown p hp
            rw [← ep]
            exact ⟨_, hm⟩
          · exact ⟨o, kk b o hb e⟩
      | _ => exact False.elim h
  have rv := vals_ints hi
  obtain ⟨T, eT⟩ : ∃ T : Hp, T = fun b => if b ∈ cs.map (·.2) then some (.tbl #[]) else none := ⟨_, rfl⟩
  have t1 : ∀ b, b ∈ cs.map (·.2) → T b = some (.tbl #[]) := fun b hb => by rw [eT]; exact if_pos hb
  have t2 : ∀ b, b ∉ cs.map (·.2) → T b = none := fun b hb => by rw [eT]; exact if_neg hb
  cases hk : K.lookup a with
  | some o =>
    have e := KX a o hk
    rw [ha] at e
    cases e
    refine key T (fun b => ?_) (fun p hp => t1 _ (memT p hp)) (.inr ⟨_, vs.toArray, _, hk, rfl, rfl, rfl, by rw [List.size_toArray, hi.length]; exact hl, by simpa using rv⟩) (fun b u z => ?_) (fun b z => ?_) fun z => absurd (t2 a aT) z
    · by_cases hb : b ∈ cs.map (·.2)
      · exact .inr (.inl ⟨hb, t1 b hb⟩)
      · exact .inl (t2 b hb)
    · by_cases hb : b ∈ cs.map (·.2)
      · rw [t1 b hb] at z
        cases z
        exact isT b hb
      · rw [t2 b hb] at z; cases z
    · by_cases hb : b ∈ cs.map (·.2)
      · exact .inr hb
      · exact absurd (t2 b hb) z
  | none =>
    obtain ⟨H, eH⟩ : ∃ H : Hp, H = fun b => if b = a then some (.frz { cls := .type "list", data := .seq vs.toArray } (.lst (ns.map V.int))) else T b := ⟨_, rfl⟩
    have at1 : H a = some (.frz { cls := .type "list", data := .seq vs.toArray } (.lst (ns.map V.int))) := by rw [eH]; exact if_pos rfl
    have at2 : ∀ b, b ≠ a → H b = T b := fun b z => by rw [eH]; exact if_neg z
    have nea : ∀ b, b ∈ cs.map (·.2) → b ≠ a := fun b hb z => aT (by rw [← z]; exact hb)
    refine key H (fun b => ?_) (fun p hp => by rw [at2 _ (nea _ (memT p hp))]; exact t1 _ (memT p hp)) (.inl (.inr ⟨_, at1⟩)) (fun b u z => ?_) (fun b z => ?_) fun _ => hk
    · by_cases q : b = a
      · rw [q]; exact .inr (.inr ⟨_, _, at1⟩)
      · rw [at2 b q]
        by_cases hb : b ∈ cs.map (·.2)
        · exact .inr (.inl ⟨hb, t1 b hb⟩)
        · exact .inl (t2 b hb)
    · by_cases q : b = a
      · rw [q, at1] at z
        cases z
        rw [q]
        exact ⟨ha, by rw [List.length_map]; exact hl, vs, _, rv, ha⟩
      · rw [at2 b q] at z
        by_cases hb : b ∈ cs.map (·.2)
        · rw [t1 b hb] at z
          cases z
          exact isT b hb
        · rw [t2 b hb] at z; cases z
    · by_cases q : b = a
      · exact .inl q
      · rw [at2 b q] at z
        by_cases hb : b ∈ cs.map (·.2)
        · exact .inr hb
        · exact absurd (t2 b hb) z
/-- what is known of the law's promise at the head's heap h -/
def LawP (l : PySem.W.OpenLaw) (w : World) (k n : Nat) (x : Str) (mg : Str → Option Value) (fa : Addr) (h : Heap) : Prop :=
  ∃ (K : PySem.W.Frag) (fd : FuncData) (cs : List (Addr × Addr)) (sp : Sp), K.In h ∧ (∀ p ∈ cs, h.get? p.2 = some { cls := .none, data := .fields #[] }) ∧ (∀ p ∈ cs, K.lookup p.2 = none) ∧ (∀ p ∈ cs, PySem.W.CodeHd h p.1 p.2) ∧ (∀ (s : Shared) (u : Value), BindsTo s fd ⟨[u], []⟩ [(x, u)]) ∧
    (∀ (H : Hp) (a : Addr) (ns : List Int), ns.length ≤ n → OnlyT H → (∀ p ∈ cs, H p.2 = some (.tbl #[])) → SqL K H a (ns.map V.int) → sp [.ref a] H (fun v _ => v = .bl true) fun _ _ _ => False) ∧
    ∀ base : Heap, K.In base → base.Ns mainGlobals mg → (∀ p ∈ cs, LamX.TabB base mg p.1 p.2) → FnG l.prog w K mg base k fa fd [x] sp
theorem walk_ev {l : PySem.W.OpenLaw} {n k : Nat} {q : Program} {loose : List Str} {XP : (Str → Option Value) → Heap → Prop} {YP : World → Heap → Prop} {d : DefRec} {x : Str}
    (hn : l.most = some n) (hn2 : n ≤ sizeLine) (hdf : d.params.defaults = []) (hr : Room k callerA)
    (F : ∀ (w : World) (mg : Str → Option Value) (fa : Addr) (h : Heap), YP w h → h.Ns mainGlobals mg → mg d.name = some (.ref fa) → LawP l w k n x mg fa h) :
    PySem.W.WalkO q loose XP YP l.row.toRowW d [] (fun f vs => PySem.call f vs) := by
  refine Att.attach_call hn hdf fun w s₀ s₁ mg mb fa o pm cd doc a vs ns G Y ho hd hcd hmg hobj hints hlen hg => ?_
  obtain ⟨K, fd, cs, sp, KX, hT, nT, C, hb, hsp, hF⟩ := F w mg fa _ Y G.T.g hmg
  exact lawG KX G.T.g G.T.b G.T.builtins G.T.nolimit hg hT nT C G.T.bmain hobj hints (Nat.le_trans hlen hn2) hr hF hb (fun H hO hH hS => hsp H a ns hlen hO hH hS)
/-- F of walk_ev, from the run of the evaluator -/
theorem law_at (m : Mod) {l : PySem.W.OpenLaw} {n k i : Nat} {dL : Df} {x : Str} (hi : nth m.dfs i = some dL) (hcl : dL.cl = none) (hps : dL.fn.ps = 1) (hN : dL.N.take 1 = [x]) (hfile : ((l.prog.main.file : Str) == m.file) = true) (htop : (l.prog.main.scope.names.lookup ("super" : Str)).isSome = false)
    (run : ∀ ns : List Int, ns.length ≤ n → ∃ h', callN m.cl m.fns (k + 1) i [.ref 0] (heap0 ns) = .ok (.bl true) h')
    (w : World) (mg : Str → Option Value) (fa : Addr) (h : Heap) (Y : (hookE m).says w h) (G : h.Ns mainGlobals mg) (hm : mg dL.x = some (.ref fa)) : LawP l w (4 * k + 4) n x mg fa h := by
  obtain ⟨K, KX, ok, tabs, gdk⟩ := Y
  have hdL : gloB K dL.x = true ∧ dfB m.md K (He.ga K dL.x) dL = true := by
    have ok' := ok
    unfold Mod.ok at ok'
    simp only [Bool.and_eq_true] at ok'
    obtain ⟨⟨⟨⟨⟨_, b4⟩, _⟩, _⟩, _⟩, _⟩ := ok'
    rw [List.all_eq_true] at b4
    have := b4 dL (nth_mem hi)
    unfold Mod.dOk Mod.dAd at this
    rw [hcl] at this
    rw [Bool.and_eq_true] at this
    exact this
  have hfa : fa = He.ga K dL.x := by
    have := gloB_ok KX G hdL.1
    rw [hm] at this
    cases this
    rfl
  have hf : m.fns i = some dL.fn := by
    show (match nth m.dfs i with
      | some d => some d.fn
      | none => none) = some dL.fn
    rw [hi]
  have htab : ∀ base : Heap, (∀ p ∈ m.cs K, LamX.TabB base mg p.1 p.2) → ∀ d ∈ m.dfs, ∀ oc od fd osl, K.lookup (m.dAd K d) = some ⟨oc, od, .func fd, osl⟩ → LamD (m.mo l.prog w K mg base) d fd := fun base TB d hd oc od fd osl lk hl => by
    have hl' : memLL d.N m.lam = true := hl
    obtain ⟨fd', c, T, A⟩ := tabs d (Mod.lamD_mem hd hl')
    exact A.lamD (Mod.lamD_mem hd hl') TB lk hl
  have key : ∃ fd : FuncData, (∀ (s : Shared) (u : Value), BindsTo s fd ⟨[u], []⟩ [(x, u)]) ∧ ∀ base : Heap, K.In base → base.Ns mainGlobals mg → (∀ p ∈ m.cs K, LamX.TabB base mg p.1 p.2) → FnG l.prog w K mg base (4 * k + 4) fa fd [x] (spOf (m.mo l.prog w K mg base) 1 (callN m.cl m.fns (k + 1) i)) := by
    subst hfa
    have hb := hdL.2
    have key2 : ∀ (base : Heap) (_ : ∀ p ∈ m.cs K, LamX.TabB base mg p.1 p.2) (kk : Nat), Env1 (m.mo l.prog w K mg base) m.md m.cl (4 * kk) (callN m.cl m.fns kk) := fun base TB kk => mod_env m (h := h) KX G ok hfile htop (htab base TB) gdk kk
    obtain ⟨fd, hfd, hbd⟩ : ∃ fd : FuncData, (∃ oc od osl, K.lookup (He.ga K dL.x) = some ⟨oc, od, .func fd, osl⟩) ∧ dfFd m.md K dL fd = true := by
      unfold dfB at hb
      split at hb
      · rename_i oc od fd osl lk
        exact ⟨fd, ⟨oc, od, osl, lk⟩, hb⟩
      · cases hb
    have F : ∀ base : Heap, (∀ p ∈ m.cs K, LamX.TabB base mg p.1 p.2) → FnG l.prog w K mg base (4 * k + 4) (He.ga K dL.x) fd (dL.N.take dL.fn.ps) (spOf (m.mo l.prog w K mg base) dL.fn.ps (callN m.cl m.fns (k + 1) i)) := fun base TB => df_fnok (key2 base TB k) hfd hbd hf (by
      obtain ⟨oc, od, osl, lk⟩ := hfd
      have e : m.dAd K dL = He.ga K dL.x := by unfold Mod.dAd; rw [hcl]
      exact htab base TB dL (nth_mem hi) oc od fd osl (by rw [e]; exact lk))
    rw [hps, hN] at F
    exact ⟨fd, fun s u => BindsTo.of_eq (by
      have := df_binds hbd [u] (by rw [hps]; rfl)
      rw [hps, hN] at this
      exact this), fun base _ _ TB => F base TB⟩
  obtain ⟨fd, hbd, hF⟩ := key
  have inCs : ∀ p ∈ m.cs K, ∃ d fd c T, d ∈ m.lamD ∧ p = (c, T) ∧ TabAt m h K d fd c T := fun p hp => by
    obtain ⟨d, hd, e⟩ := List.mem_map.mp hp
    obtain ⟨fd, c, T, A⟩ := tabs d hd
    exact ⟨d, fd, c, T, hd, by rw [← e, A.cs], A⟩
  refine ⟨K, fd, m.cs K, fun vs H Q E => ∀ base, spOf (m.mo l.prog w K mg base) 1 (callN m.cl m.fns (k + 1) i) vs H Q E, KX, fun p hp => ?_, fun p hp => ?_, fun p hp => ?_, hbd, fun H a ns hl hO hH hS base => ?_, fun base hKb hGb TB => FnG.imp (hF base hKb hGb TB) fun vs H Q E q => q base⟩
  · obtain ⟨d, fd, c, T, _, rfl, A⟩ := inCs p hp
    exact A.get
  · obtain ⟨d, fd, c, T, _, rfl, A⟩ := inCs p hp
    exact A.no
  · obtain ⟨d, fd, c, T, _, rfl, A⟩ := inCs p hp
    exact PySem.W.codeHd_of_K KX A.hd
  obtain ⟨c, hs, rs⟩ := start_has (M := m.mo l.prog w K mg base) (fun p hp => by
    obtain ⟨d, hd, e⟩ := List.mem_map.mp (show p ∈ m.lamD.map (m.tb1 K) from hp)
    obtain ⟨fd, c, T, A⟩ := tabs d hd
    rw [← e, A.tb]
    have := hH (m.cs1 K d) (List.mem_map.mpr ⟨d, hd, rfl⟩)
    rw [A.cs] at this
    exact this) hO hS
  obtain ⟨h', e⟩ := run ns hl
  refine ⟨c, heap0 ns, [.ref 0], hs, rs, rfl, ?_⟩
  rw [e]
  intro c' y _ _ r
  cases r
  rfl
end Ev

set_option Elab.async false
set_option linter.all false
set_option maxRecDepth 100000
set_option maxHeartbeats 1000000
/-! Stepping the evaluator by equations. -/
noncomputable section
namespace Ev
open PySem
section
variable {cl : Cl} {C : Nat → List Val → LHeap → Res Val} {n : Nat} {s : LSt} {h : LHeap}
def RS.next (r : RS) (k : LSt → LHeap → RS) : RS := match r with
  | .ok (.nx s1) h1 => k s1 h1
  | r => r
theorem execs_nil {rc : Rec} : execs rc [] s h = .ok (.nx s) h := rfl
theorem execs_cons {rc : Rec} {x : S} {xs : List S} : execs rc (x :: xs) s h = (rc.s x s h).next (execs rc xs) := rfl
theorem next_nx {s1 : LSt} {h1 : LHeap} {k : LSt → LHeap → RS} : (RS.ok (.nx s1) h1).next k = k s1 h1 := rfl
theorem next_rt {v : Val} {h1 : LHeap} {k : LSt → LHeap → RS} : (RS.ok (.rt v) h1).next k = .ok (.rt v) h1 := rfl
theorem next_bk {s1 : LSt} {h1 : LHeap} {k : LSt → LHeap → RS} : (RS.ok (.bk s1) h1).next k = .ok (.bk s1) h1 := rfl
theorem next_ct {s1 : LSt} {h1 : LHeap} {k : LSt → LHeap → RS} : (RS.ok (.ct s1) h1).next k = .ok (.ct s1) h1 := rfl
theorem next_exc {c : Nat} {fs : List (Str × Val)} {s1 : LSt} {h1 : LHeap} {k : LSt → LHeap → RS} : (RS.exc c fs s1 h1).next k = .exc c fs s1 h1 := rfl
theorem bind_okE {α β : Type} {a : α} {k : α → LHeap → Res β} : (Res.ok a h).bind k = k a h := rfl
theorem bind_excE {α β : Type} {c : Nat} {fs : List (Str × Val)} {k : α → LHeap → Res β} : (Res.exc c fs h : Res α).bind k = .exc c fs h := rfl
theorem inS_okE {α : Type} {a : α} {k : α → LHeap → RS} : (Res.ok a h).inS s k = k a h := rfl
theorem inS_excE {α : Type} {c : Nat} {fs : List (Str × Val)} {k : α → LHeap → RS} : (Res.exc c fs h : Res α).inS s k = .exc c fs s h := rfl
theorem optR_some {α : Type} {a : α} : optR (some a) h = .ok a h := rfl
theorem evs_nilE {rc : Rec} : evs rc [] s h = .ok [] h := rfl
theorem evs_consE {rc : Rec} {e : E} {es : List E} : evs rc (e :: es) s h = (rc.e e s h).bind fun v h1 => (evs rc es s h1).bind fun vs h2 => .ok (v :: vs) h2 := rfl
theorem e_var {i : Nat} : (rec cl C (n + 1)).e (.var i) s h = optR (getV s i) h := rfl
theorem e_lit {v : Val} : (rec cl C (n + 1)).e (.lit v) s h = .ok v h := rfl
theorem e_glb {x : Str} {v : Val} : (rec cl C (n + 1)).e (.glb x v) s h = .ok v h := rfl
theorem e_bin {o : BOp} {a b : E} : (rec cl C (n + 1)).e (.bin o a b) s h = ((rec cl C n).e a s h).bind fun x h1 => ((rec cl C n).e b s h1).bind fun y h2 => binOp o x y h2 := rfl
theorem e_cmp {o : COp} {a b : E} : (rec cl C (n + 1)).e (.cmp o a b) s h = ((rec cl C n).e a s h).bind fun x h1 => ((rec cl C n).e b s h1).bind fun y h2 => (optR (cmpOp o x y h2) h2).bind fun c h3 => .ok (.bl c) h3 := rfl
theorem e_not {a : E} : (rec cl C (n + 1)).e (.not a) s h = ((rec cl C n).e a s h).bind fun x h1 => match x with
    | .bl c => .ok (.bl (!c)) h1
    | _ => .bad := rfl
theorem e_tup {es : List E} : (rec cl C (n + 1)).e (.tup es) s h = (evs (rec cl C n) es s h).bind fun vs h1 => match Nat.ble vs.length line with
    | true => .ok (.tup vs) h1
    | false => .bad := rfl
theorem e_lst {es : List E} : (rec cl C (n + 1)).e (.lst es) s h = (evs (rec cl C n) es s h).bind fun vs h1 => match Nat.ble vs.length line with
    | true => alloc (.lst vs) h1
    | false => .bad := rfl
theorem e_sub {a i : E} : (rec cl C (n + 1)).e (.sub a i) s h = ((rec cl C n).e a s h).bind fun x h1 => ((rec cl C n).e i s h1).bind fun y h2 => optR (subVal h2 x y) h2 := rfl
theorem e_slc {a : E} {lo hi : Option E} : (rec cl C (n + 1)).e (.slc a lo hi) s h = ((rec cl C n).e a s h).bind fun x h1 => (evOpt (rec cl C n) lo s h1).bind fun l h2 => (evOpt (rec cl C n) hi s h2).bind fun r h3 => sliceVal h3 x l r := rfl
theorem evOpt_none {rc : Rec} : evOpt rc none s h = .ok none h := rfl
theorem evOpt_some {rc : Rec} {e : E} : evOpt rc (some e) s h = (rc.e e s h).bind fun v h1 => match v with
    | .int i => .ok (some i) h1
    | _ => .bad := rfl
theorem e_call {f : Nat} {es : List E} : (rec cl C (n + 1)).e (.call f es) s h = (evs (rec cl C n) es s h).bind fun vs h1 => C f vs h1 := rfl
theorem e_pcall {f : Nat} {es : List E} : (rec cl C (n + 1)).e (.pcall f es) s h = (evs (rec cl C n) es s h).bind fun vs h1 => match pureVs vs with
    | true => sand (C f vs heapE) h1
    | false => .bad := rfl
theorem e_bi {b : Bi} {es : List E} : (rec cl C (n + 1)).e (.bi b es) s h = (evs (rec cl C n) es s h).bind fun vs h1 => biCall b vs h1 := rfl
theorem e_comp {own : List Nat} {tg : Tg} {it : It} {c : Option E} {elt : E} : (rec cl C (n + 1)).e (.comp own tg it c elt) s h = (evComp (rec cl C n) own tg it c elt s h).bind fun ys h1 => match Nat.ble ys.length line with
    | true => alloc (.lst ys) h1
    | false => .bad := rfl
theorem e_dsp {kvs : List (Str × E)} : (rec cl C (n + 1)).e (.dsp kvs) s h = (evKVs (rec cl C n) kvs s h).bind fun ps h1 => match Nat.ble ps.length 15 with
    | true => alloc (.dK (mergeL [] ps)) h1
    | false => .bad := rfl
theorem evKVs_nilE {rc : Rec} : evKVs rc [] s h = .ok [] h := rfl
theorem evKVs_consE {rc : Rec} {p : Str × E} {ps : List (Str × E)} : evKVs rc (p :: ps) s h = (rc.e p.2 s h).bind fun v h1 => (evKVs rc ps s h1).bind fun vs h2 => .ok ((.inr p.1, v) :: vs) h2 := rfl
theorem t_and {a b : E} : (rec cl C (n + 1)).t (.and a b) s h = ((rec cl C n).t a s h).bind fun x h1 => match x with
    | true => (rec cl C n).t b s h1
    | false => .ok false h1 := rfl
theorem t_or {a b : E} : (rec cl C (n + 1)).t (.or a b) s h = ((rec cl C n).t a s h).bind fun x h1 => match x with
    | true => .ok true h1
    | false => (rec cl C n).t b s h1 := rfl
theorem t_not {a : E} : (rec cl C (n + 1)).t (.not a) s h = ((rec cl C n).t a s h).bind fun x h1 => .ok (!x) h1 := rfl
theorem t_cmp {o : COp} {a b : E} : (rec cl C (n + 1)).t (.cmp o a b) s h = ((rec cl C n).e (.cmp o a b) s h).bind toB := rfl
theorem t_call {f : Nat} {es : List E} : (rec cl C (n + 1)).t (.call f es) s h = ((rec cl C n).e (.call f es) s h).bind toB := rfl
theorem t_pcall {f : Nat} {es : List E} : (rec cl C (n + 1)).t (.pcall f es) s h = ((rec cl C n).e (.pcall f es) s h).bind toB := rfl
theorem s_set {i : Nat} {e : E} : (rec cl C (n + 1)).s (.set i e) s h = ((rec cl C n).e e s h).inS s fun v h1 => .ok (.nx (setV s i v)) h1 := rfl
theorem s_ex {e : E} : (rec cl C (n + 1)).s (.ex e) s h = ((rec cl C n).e e s h).inS s fun _ h1 => .ok (.nx s) h1 := rfl
theorem s_ret {e : E} : (rec cl C (n + 1)).s (.ret e) s h = ((rec cl C n).e e s h).inS s fun v h1 => .ok (.rt v) h1 := rfl
theorem s_ife {c : E} {a b : List S} : (rec cl C (n + 1)).s (.ife c a b) s h = ((rec cl C n).t c s h).inS s fun k h1 => match k with
    | true => execs (rec cl C n) a s h1
    | false => execs (rec cl C n) b s h1 := rfl
theorem s_whl {c : E} {b : List S} : (rec cl C (n + 1)).s (.whl c b) s h = (rec cl C n).w c b s h := rfl
theorem s_loop {tg : Tg} {it : It} {b : List S} : (rec cl C (n + 1)).s (.loop tg it b) s h = (evIt (rec cl C n) it s h).inS s fun src h1 => loopAll (loopOne (rec cl C n) tg b) src s h1 := rfl
theorem w_step {c : E} {b : List S} : (rec cl C (n + 1)).w c b s h = ((rec cl C n).t c s h).inS s fun k h1 => match k with
  | true => turn (execs (rec cl C n) b s h1) ((rec cl C n).w c b)
  | false => .ok (.nx s) h1 := rfl
/-- d[k] = v, d a dict with text keys -/
theorem s_put {o i e : E} : (rec cl C (n + 1)).s (.put o i e) s h = ((rec cl C n).e e s h).inS s fun v h1 => ((rec cl C n).e o s h1).inS s fun x h2 => ((rec cl C n).e i s h2).inS s fun y h3 => match x with
    | .ref l => (match h3.get l with
      | some (.dK kvs) => (match keyOf y with
        | some k => (match Nat.blt kvs.length line with
          | true => (store l (.dK (putKV k v kvs)) h3 ()).inS s fun _ h4 => .ok (.nx s) h4
          | false => .bad)
        | none => .bad)
      | some (.dT kvs) => (match y with
        | .tup ys => (match keysOf ys with
          | some k => (match Nat.blt kvs.length line with
            | true => (store l (.dT (putTV k v kvs)) h3 ()).inS s fun _ h4 => .ok (.nx s) h4
            | false => .bad)
          | none => .bad)
        | _ => .bad)
      | _ => .bad)
    | _ => .bad := rfl
theorem evIt_val {rc : Rec} {e : E} : evIt rc (.val e) s h = (rc.e e s h).bind fun v h1 => optR (srcOf h1 v) h1 := rfl
theorem evComp_eq {rc : Rec} {own : List Nat} {tg : Tg} {it : It} {c : Option E} {elt : E} : evComp rc own tg it c elt s h = (evIt rc it s h).bind fun src h1 => noExc (compAll (compOne rc own tg c elt s) src h1) := rfl
theorem loopAll_dyn {f : Val → LSt → LHeap → RS} {l : Nat} : loopAll f (.dyn l) s h = loopDyn f (.dyn l) 100000 0 s h := rfl
theorem loopAll_st {f : Val → LSt → LHeap → RS} {xs : List Val} : loopAll f (.st xs) s h = loopSt f xs s h := rfl
theorem compAll_dyn {f : Val → LHeap → Res (Option Val)} {l : Nat} : compAll f (.dyn l) h = compDyn f (.dyn l) 100000 0 h := rfl
theorem compAll_st {f : Val → LHeap → Res (Option Val)} {xs : List Val} : compAll f (.st xs) h = compSt f xs h := rfl
theorem turn_nx {s1 : LSt} {h1 : LHeap} {k : LSt → LHeap → RS} : turn (RS.ok (.nx s1) h1) k = k s1 h1 := rfl
theorem turn_rt {v : Val} {h1 : LHeap} {k : LSt → LHeap → RS} : turn (RS.ok (.rt v) h1) k = .ok (.rt v) h1 := rfl
end
/-! ### heaps -/
theorem get_push_same {h : LHeap} {o : LObj} : (h.push o).get h.n = some o := by rw [LHeap.get_push, if_pos rfl]
theorem get_push_old {h : LHeap} {o : LObj} {a : Nat} (l : a < h.n) : (h.push o).get a = h.get a := by rw [LHeap.get_push, if_neg (Nat.ne_of_lt l)]
theorem push_n {h : LHeap} {o : LObj} : (h.push o).n = h.n + 1 := by obtain ⟨n, t⟩ := h; rfl
theorem put_n {h : LHeap} {a : Nat} {o : LObj} : (h.put a o).n = h.n := rfl
theorem get_put_same {h : LHeap} {o : LObj} {a : Nat} (l : a < h.n) : (h.put a o).get a = some o := by rw [LHeap.get_put l, if_pos rfl]
theorem get_put_ne {h : LHeap} {o : LObj} {a b : Nat} (l : a < h.n) (ne : b ≠ a) : (h.put a o).get b = h.get b := by rw [LHeap.get_put l, if_neg ne]
theorem get_push_some {h : LHeap} {o u : LObj} {a : Nat} (e : h.get a = some u) : (h.push o).get a = some u := by rw [get_push_old (LHeap.get_lt e)]; exact e
theorem sub_dK {h : LHeap} {l : Nat} {kvs : List (Key × Val)} {y : Val} {k : Key} (e : h.get l = some (.dK kvs)) (hk : keyOf y = some k) : subVal h (.ref l) y = lookK k kvs := by
  unfold subVal isDict dget
  dsimp only
  rw [e]
  dsimp only
  rw [hk]
  dsimp only
  cases lookK k kvs <;> rfl
theorem sub_lst {h : LHeap} {l : Nat} {xs : List Val} {i : Int} (e : h.get l = some (.lst xs)) : subVal h (.ref l) (.int i) = match ix xs.length i with
    | some j => nth xs j
    | none => none := by
  unfold subVal isDict items
  dsimp only
  rw [e] <;> rfl
theorem sub_tup {h : LHeap} {xs : List Val} {i : Int} : subVal h (.tup xs) (.int i) = match ix xs.length i with
    | some j => nth xs j
    | none => none := rfl
theorem slice_lst {h : LHeap} {l : Nat} {xs : List Val} {lo hi : Option Int} (e : h.get l = some (.lst xs)) : sliceVal h (.ref l) lo hi = alloc (.lst (cut xs lo hi)) h := by
  unfold sliceVal
  dsimp only
  rw [e]
theorem add_lst {h : LHeap} {l k : Nat} {xs ys : List Val} (e1 : h.get l = some (.lst xs)) (e2 : h.get k = some (.lst ys)) (hl : xs.length + ys.length ≤ 16777216) : binOp .add (.ref l) (.ref k) h = alloc (.lst (xs ++ ys)) h := by
  unfold binOp
  dsimp only
  rw [e1, e2]
  dsimp only
  rw [show Nat.ble (xs.length + ys.length) line = true from Nat.ble_eq_true_of_le hl]
/-! ### data -/
theorem toD_ints {m : Nat} {h : LHeap} : ∀ xs : List Int, mapOpt (toD (m + 1) h) (xs.map Val.int) = some (xs.map PyData.int)
  | [] => rfl
  | x :: xs => by
    rw [List.map_cons, List.map_cons]
    unfold mapOpt
    rw [show toD (m + 1) h (.int x) = some (.int x) from rfl, toD_ints xs]
theorem lay_ints : ∀ xs : List Int, PyData.canLayAll0 (xs.map PyData.int) = true
  | [] => rfl
  | x :: xs => by rw [List.map_cons]; simp [PyData.canLayAll0, PyData.canLay0, lay_ints xs]
theorem depth_ints : ∀ xs : List Int, PyData.depthAll (xs.map PyData.int) = 0
  | [] => rfl
  | x :: xs => by rw [List.map_cons]; simp [PyData.depthAll, PyData.depth, depth_ints xs]
theorem shaped_ints (xs : List Int) : SeqAt.shaped (.list (xs.map PyData.int)) = true := by
  simp [SeqAt.shaped, PyData.canLay0, lay_ints, PyData.depth, depth_ints]
/-! ### walks over a list that stays -/
theorem nth_len {α : Type} : ∀ {xs : List α} {i : Nat}, i < xs.length → ∃ x, nth xs i = some x ∧ x ∈ xs
  | [], _, h => by simp at h
  | x :: xs, 0, _ => ⟨x, rfl, List.mem_cons_self⟩
  | x :: xs, i + 1, h => by
    obtain ⟨y, e, m⟩ := nth_len (xs := xs) (i := i) (by simpa using h)
    exact ⟨y, e, List.mem_cons_of_mem _ m⟩
theorem nth_ge {α : Type} : ∀ {xs : List α} {i : Nat}, xs.length ≤ i → nth xs i = none
  | [], _, _ => rfl
  | x :: xs, 0, h => by simp at h
  | x :: xs, i + 1, h => nth_ge (xs := xs) (i := i) (by simpa using h)
theorem itemAt_dyn {h : LHeap} {l i : Nat} {xs : List Val} (e : itemsL h (.ref l) = some xs) : itemAt (.dyn l) i h = some (nth xs i) := by
  unfold itemAt
  dsimp only
  rw [e]
theorem loopDyn_keep {f : Val → LSt → LHeap → RS} {l : Nat} {h : LHeap} {xs : List Val} (hx : itemsL h (.ref l) = some xs) (P : LSt → Prop) (step : ∀ x s, x ∈ xs → P s → ∃ s', f x s h = .ok (.nx s') h ∧ P s') :
    ∀ (m i : Nat) (s : LSt), xs.length - i < m → P s → ∃ s', loopDyn f (.dyn l) m i s h = .ok (.nx s') h ∧ P s'
  | 0, i, s, hm, p => absurd hm (Nat.not_lt_zero _)
  | m + 1, i, s, hm, p => by
    unfold loopDyn
    rw [itemAt_dyn hx]
    by_cases hi : i < xs.length
    · obtain ⟨x, e, hm'⟩ := nth_len hi
      rw [e]
      obtain ⟨s', e', p'⟩ := step x s hm' p
      dsimp only
      rw [e', turn_nx]
      exact loopDyn_keep hx P step m (i + 1) s' (by omega) p'
    · rw [nth_ge (Nat.le_of_not_lt hi)]
      exact ⟨s, rfl, p⟩
theorem compDyn_keep {f : Val → LHeap → Res (Option Val)} {l : Nat} {h : LHeap} {xs : List Val} (hx : itemsL h (.ref l) = some xs) (Q : Val → Prop) (step : ∀ x, x ∈ xs → ∃ o, f x h = .ok o h ∧ ∀ y, o = some y → Q y) :
    ∀ (m i : Nat), xs.length - i < m → ∃ ys, compDyn f (.dyn l) m i h = .ok ys h ∧ ys.length ≤ xs.length - i ∧ ∀ y ∈ ys, Q y
  | 0, i, hm => absurd hm (Nat.not_lt_zero _)
  | m + 1, i, hm => by
    unfold compDyn
    rw [itemAt_dyn hx]
    by_cases hi : i < xs.length
    · obtain ⟨x, e, hm'⟩ := nth_len hi
      rw [e]
      obtain ⟨o, e', q⟩ := step x hm'
      obtain ⟨ys, e2, l2, q2⟩ := compDyn_keep hx Q step m (i + 1) (by omega)
      dsimp only
      rw [e', bind_okE, e2, bind_okE]
      cases o with
      | none => exact ⟨ys, rfl, by omega, q2⟩
      | some y =>
        refine ⟨y :: ys, rfl, by rw [List.length_cons]; omega, fun z hz => ?_⟩
        rcases List.mem_cons.mp hz with e | e
        · rw [e]; exact q y rfl
        · exact q2 z e
    · rw [nth_ge (Nat.le_of_not_lt hi)]
      exact ⟨[], rfl, Nat.zero_le _, fun _ h => by cases h⟩
theorem ints_of : ∀ {ys : List Val}, (∀ y ∈ ys, ∃ i, y = Val.int i) → ∃ is : List Int, ys = is.map Val.int
  | [], _ => ⟨[], rfl⟩
  | y :: ys, h => by
    obtain ⟨i, e⟩ := h y List.mem_cons_self
    obtain ⟨is, e2⟩ := ints_of (ys := ys) fun z hz => h z (List.mem_cons_of_mem _ hz)
    exact ⟨i :: is, by rw [e, e2]; rfl⟩
end Ev

set_option Elab.async false
set_option linter.all false
set_option maxRecDepth 100000
set_option maxHeartbeats 1000000
/-! The laws' own draws: _law_begun, _law_draw. -/
noncomputable section
namespace Ev
open PySem
abbrev kGreat : Str := ⟨⟨[103, 114, 101, 97, 116]⟩⟩
abbrev kSeed : Str := ⟨⟨[115, 101, 101, 100]⟩⟩
abbrev kTurns : Str := ⟨⟨[116, 117, 114, 110, 115]⟩⟩
def fBegun : Fn := ⟨1, 3, [(.set 1 (.lit (.int 11))), (.loop (.name 2) (.val (.var 0)) [(.set 1 (.bin .mod (.bi .int [(.bin .add (.bin .add (.bin .mul (.var 1) (.lit (.int 69621))) (.bin .mod (.bi .int [(.var 2)]) (.lit (.int 2147483629)))) (.lit (.int 7)))]) (.lit (.int 2147483647))))]), (.ret (.dsp [(kGreat, (.comp [2] (.name 2) (.val (.var 0)) (some (.cmp .ge (.var 2) (.bin .pow (.lit (.int 10)) (.lit (.int 18))))) (.var 2))), (kSeed, (.var 1)), (kTurns, (.lit (.int 0)))]))]⟩
def gE : E := .sub (.var 0) (.lit (.str kGreat))
def tE : E := .sub (.var 0) (.lit (.str kTurns))
def condE : E := .and (.cmp .ne gE (.lst [])) (.cmp .eq (.sub gE (.lit (.int 0))) (.lit (.int 0)))
def bodyE : List S := [.put (.var 0) (.lit (.str kGreat)) (.slc gE (some (.lit (.int 1))) none)]
def fDraw : Fn := ⟨2, 4, [(.whl condE bodyE), (.ife (.cmp .ne gE (.lst [])) [(.set 3 (.sub gE (.lit (.int 0)))), (.put (.var 0) (.lit (.str kGreat)) (.bin .add (.lst [(.bin .fdiv (.var 3) (.var 1))]) (.slc gE (some (.lit (.int 1))) none))), (.ret (.bin .mod (.bi .int [(.var 3)]) (.var 1)))] []),
  (.put (.var 0) (.lit (.str kTurns)) (.bin .add tE (.lit (.int 1)))), (.set 2 (.bin .mod (.bi .int [(.bin .add (.bin .add (.bin .mul (.sub (.var 0) (.lit (.str kSeed))) (.lit (.int 48271))) (.bin .mul (.bin .mul tE tE) (.lit (.int 16807)))) tE)]) (.lit (.int 2147483647)))),
  (.set 2 (.bin .mod (.bi .int [(.bin .add (.bin .mul (.var 2) (.lit (.int 69621))) (.lit (.int 12345)))]) (.lit (.int 2147483629)))), (.ret (.bin .mod (.bin .fdiv (.bin .mod (.bi .int [(.bin .add (.bin .mul (.var 2) (.lit (.int 40014))) tE)]) (.lit (.int 2147483563))) (.lit (.int 64))) (.var 1)))]⟩
/-- the dict of the draws -/
abbrev mD (g : Nat) (sd t : Int) : LObj := .dK [(.inr kGreat, .ref g), (.inr kSeed, .int sd), (.inr kTurns, .int t)]
structure Mat (h : LHeap) (l g : Nat) (xs : List Int) (sd t : Int) : Prop where
  d : h.get l = some (mD g sd t)
  g : h.get g = some (.lst (xs.map Val.int))
/-- what the draws lean on: at most T draws so far -/
def Mst (h : LHeap) (l T : Nat) : Prop := ∃ g xs sd t, Mat h l g xs sd t ∧ xs.length ≤ 63 ∧ 0 ≤ t ∧ t ≤ T
/-- what draws leave as it was -/
structure Kp (l : Nat) (h h' : LHeap) : Prop where
  n : h.n ≤ h'.n
  o : ∀ a, a < h.n → a ≠ l → h'.get a = h.get a
theorem Kp.refl (l : Nat) (h : LHeap) : Kp l h h := ⟨Nat.le_refl _, fun _ _ _ => rfl⟩
theorem Kp.trans {l : Nat} {h h' h'' : LHeap} (a : Kp l h h') (b : Kp l h' h'') : Kp l h h'' := ⟨Nat.le_trans a.n b.n, fun x hx ne => (b.o x (Nat.lt_of_lt_of_le hx a.n) ne).trans (a.o x hx ne)⟩
theorem Kp.push (l : Nat) (h : LHeap) (o : LObj) : Kp l h (h.push o) := ⟨by rw [push_n]; omega, fun a ha _ => get_push_old ha⟩
theorem Kp.put {l : Nat} {h : LHeap} (o : LObj) (hl : l < h.n) : Kp l h (h.put l o) := ⟨Nat.le_refl _, fun a _ ne => get_put_ne hl ne⟩
section
variable {cl : Cl} {C : Nat → List Val → LHeap → Res Val} {n : Nat} {s : LSt} {h : LHeap} {l g : Nat} {xs : List Int} {sd t : Int}
theorem Mat.push (m : Mat h l g xs sd t) (o : LObj) : Mat (h.push o) l g xs sd t := ⟨get_push_some m.d, get_push_some m.g⟩
theorem Mat.sub_g (m : Mat h l g xs sd t) : subVal h (.ref l) (.str kGreat) = some (.ref g) := (sub_dK m.d rfl).trans rfl
theorem Mat.sub_s (m : Mat h l g xs sd t) : subVal h (.ref l) (.str kSeed) = some (.int sd) := (sub_dK m.d rfl).trans rfl
theorem Mat.sub_t (m : Mat h l g xs sd t) : subVal h (.ref l) (.str kTurns) = some (.int t) := (sub_dK m.d rfl).trans rfl
theorem gE_ok (m : Mat h l g xs sd t) (hs : getV s 0 = some (.ref l)) : (rec cl C (n + 2)).e gE s h = .ok (.ref g) h := by
  unfold gE
  rw [e_sub, e_var, hs, optR_some, bind_okE, e_lit, bind_okE, m.sub_g, optR_some]
theorem tE_ok (m : Mat h l g xs sd t) (hs : getV s 0 = some (.ref l)) : (rec cl C (n + 2)).e tE s h = .ok (.int t) h := by
  unfold tE
  rw [e_sub, e_var, hs, optR_some, bind_okE, e_lit, bind_okE, m.sub_t, optR_some]
theorem gNe_ok (m : Mat h l g xs sd t) (hs : getV s 0 = some (.ref l)) : (rec cl C (n + 3)).e (.cmp .ne gE (.lst [])) s h = .ok (.bl (!xs.isEmpty)) (h.push (.lst [])) := by
  rw [e_cmp, gE_ok m hs, bind_okE, e_lst, evs_nilE, bind_okE]
  show (Res.ok (Val.ref h.n) (h.push (.lst []))).bind _ = _
  rw [bind_okE]
  have e : cmpOp .ne (.ref g) (.ref h.n) (h.push (.lst [])) = some (!xs.isEmpty) := by
    show optNot (eqD (h.push (.lst [])) (.ref g) (.ref h.n)) = _
    have e1 : toD 66 (h.push (.lst [])) (.ref g) = some (.list (xs.map PyData.int)) := by
      show (match (h.push (.lst [])).get g with
        | some (.lst xs) => (match mapOpt (toD 65 (h.push (.lst []))) xs with
          | some ds => some (PyData.list ds)
          | none => none)
        | some (.frz xs) => (match mapOpt (toD 65 (h.push (.lst []))) xs with
          | some ds => some (PyData.list ds)
          | none => none)
        | _ => none) = _
      rw [get_push_some m.g]
      dsimp only
      rw [toD_ints]
    have e2 : toD 66 (h.push (.lst [])) (.ref h.n) = some (.list []) := by
      show (match (h.push (.lst [])).get h.n with
        | some (.lst xs) => (match mapOpt (toD 65 (h.push (.lst []))) xs with
          | some ds => some (PyData.list ds)
          | none => none)
        | some (.frz xs) => (match mapOpt (toD 65 (h.push (.lst []))) xs with
          | some ds => some (PyData.list ds)
          | none => none)
        | _ => none) = _
      rw [get_push_same]
      rfl
    unfold eqD
    rw [e1, e2]
    dsimp only
    rw [shaped_ints, show SeqAt.shaped (.list []) = true by decide]
    cases xs <;> rfl
  rw [e, optR_some, bind_okE]
theorem g0_ok {x : Int} (m : Mat h l g (x :: xs) sd t) (hs : getV s 0 = some (.ref l)) : (rec cl C (n + 3)).e (.sub gE (.lit (.int 0))) s h = .ok (.int x) h := by
  rw [e_sub, gE_ok m hs, bind_okE, e_lit, bind_okE]
  have e : subVal h (.ref g) (.int 0) = some (.int x) := by
    rw [sub_lst m.g]
    have e : ix (Val.int x :: xs.map Val.int).length 0 = some 0 := by
      unfold ix
      rw [show decide ((0 : Int) ≤ 0) = true from rfl]
      dsimp only
      rw [decide_eq_true (by rw [List.length_cons]; omega)]
      rfl
    rw [show (x :: xs).map Val.int = Val.int x :: xs.map Val.int from rfl, e]
    rfl
  rw [e, optR_some]
theorem gTl_ok {x : Int} (m : Mat h l g (x :: xs) sd t) (hs : getV s 0 = some (.ref l)) : (rec cl C (n + 3)).e (.slc gE (some (.lit (.int 1))) none) s h = .ok (.ref h.n) (h.push (.lst (xs.map Val.int))) := by
  rw [e_slc, gE_ok m hs, bind_okE, evOpt_some, e_lit, bind_okE, bind_okE, evOpt_none, bind_okE]
  rw [slice_lst m.g]
  show alloc (.lst (cut (Val.int x :: xs.map Val.int) (some 1) none)) h = _
  have e : cut (Val.int x :: xs.map Val.int) (some 1) none = xs.map Val.int := by
    unfold cut bnd
    simp
    exact List.take_of_length_le (by simp)
  rw [e]
  rfl
theorem put_great {v : Nat} (m : Mat h l g xs sd t) : putKV (.inr kGreat) (.ref v) [(.inr kGreat, .ref g), (.inr kSeed, .int sd), (.inr kTurns, .int t)] = [(.inr kGreat, .ref v), (.inr kSeed, .int sd), (.inr kTurns, .int t)] := rfl
theorem put_turns {v : Int} : putKV (.inr kTurns) (.int v) [(.inr kGreat, .ref g), (.inr kSeed, .int sd), (.inr kTurns, .int t)] = [(.inr kGreat, .ref g), (.inr kSeed, .int sd), (.inr kTurns, .int v)] := rfl
/-- d["great"] = e, e a new list at v -/
theorem setg_ok {e : E} {v : Nat} {h1 : LHeap} (m : Mat h1 l g xs sd t) (hs : getV s 0 = some (.ref l)) (he : (rec cl C (n + 1)).e e s h = .ok (.ref v) h1) : (rec cl C (n + 2)).s (.put (.var 0) (.lit (.str kGreat)) e) s h = .ok (.nx s) (h1.put l (mD v sd t)) := by
  rw [s_put, he, inS_okE, e_var, hs, optR_some, inS_okE, e_lit, inS_okE]
  dsimp only
  rw [m.d]
  rfl
theorem sett_ok {e : E} {v : Int} {h1 : LHeap} (m : Mat h1 l g xs sd t) (hs : getV s 0 = some (.ref l)) (he : (rec cl C (n + 1)).e e s h = .ok (.int v) h1) : (rec cl C (n + 2)).s (.put (.var 0) (.lit (.str kTurns)) e) s h = .ok (.nx s) (h1.put l (mD g sd v)) := by
  rw [s_put, he, inS_okE, e_var, hs, optR_some, inS_okE, e_lit, inS_okE]
  dsimp only
  rw [m.d]
  rfl
/-- noughts ahead are dropped -/
theorem drop_ok (hs : getV s 0 = some (.ref l)) : ∀ (xs : List Int) (g n : Nat) (h : LHeap), xs.length ≤ n → Mat h l g xs sd t → ∃ g' xs' h', (rec cl C (n + 8)).w condE bodyE s h = .ok (.nx s) h' ∧ Mat h' l g' xs' sd t ∧ xs'.length ≤ xs.length ∧ Kp l h h'
  | [], g, n, h, hn, m => by
    refine ⟨g, [], h.push (.lst []), ?_, m.push _, Nat.le_refl _, Kp.push l h _⟩
    rw [w_step]
    unfold condE
    rw [t_and, t_cmp, gNe_ok m hs]
    rfl
  | x :: xs, g, n, h, hn, m => by
    have m1 := m.push (.lst [])
    by_cases hx : x = 0
    · have m2 : Mat ((h.push (.lst [])).push (.lst (xs.map Val.int))) l g (x :: xs) sd t := m1.push _
      have hl : l < ((h.push (.lst [])).push (.lst (xs.map Val.int))).n := LHeap.get_lt m2.d
      have ne : l ≠ (h.push (.lst [])).n := by have := LHeap.get_lt m1.d; omega
      have m3 : Mat (((h.push (.lst [])).push (.lst (xs.map Val.int))).put l (mD (h.push (.lst [])).n sd t)) l (h.push (.lst [])).n xs sd t := ⟨get_put_same hl, by rw [get_put_ne hl (Ne.symm ne)]; exact get_push_same⟩
      have hn' : xs.length + 1 ≤ n := hn
      obtain ⟨g', xs', h', e, m4, l4, k4⟩ := drop_ok hs xs _ (n - 1) _ (by omega) m3
      refine ⟨g', xs', h', ?_, m4, by rw [List.length_cons]; omega, ((Kp.push l h _).trans (Kp.push l _ _)).trans ((Kp.put _ hl).trans k4)⟩
      have en : n + 8 = (n - 1 + 8) + 1 := by omega
      rw [en, w_step]
      unfold condE
      rw [t_and, t_cmp, gNe_ok m hs]
      show ((rec cl C (n - 1 + 7)).t (.cmp .eq (.sub gE (.lit (.int 0))) (.lit (.int 0))) s (h.push (.lst []))).inS s _ = _
      rw [t_cmp, e_cmp, g0_ok m1 hs, bind_okE, e_lit, bind_okE, hx]
      show turn (execs (rec cl C (n - 1 + 8)) bodyE s (h.push (.lst []))) ((rec cl C (n - 1 + 8)).w condE bodyE) = _
      unfold bodyE
      rw [execs_cons, setg_ok m2 hs (gTl_ok m1 hs), next_nx, execs_nil, turn_nx]
      exact e
    · refine ⟨g, x :: xs, h.push (.lst []), ?_, m1, Nat.le_refl _, Kp.push l h _⟩
      rw [w_step]
      unfold condE
      rw [t_and, t_cmp, gNe_ok m hs]
      show ((rec cl C (n + 6)).t (.cmp .eq (.sub gE (.lit (.int 0))) (.lit (.int 0))) s (h.push (.lst []))).inS s _ = _
      rw [t_cmp, e_cmp, g0_ok m1 hs, bind_okE, e_lit, bind_okE]
      have e : cmpOp .eq (.int x) (.int 0) (h.push (.lst [])) = some false := by
        show some (decide (x = 0)) = _
        rw [decide_eq_false hx]
      rw [e]
      rfl
end
theorem fuel_eq : ∃ n, fuel = n + 200 := ⟨99800, rfl⟩
theorem small_lt {i : Int} (a : 0 ≤ i) (b : i < 18446744073709551616) : small i = true := by
  unfold small
  rw [decide_eq_true (by omega), decide_eq_true (by omega)]
  rfl
theorem draw_ok {cl : Cl} {C : Nat → List Val → LHeap → Res Val} {h : LHeap} {l T : Nat} {lim : Int} (M : Mst h l T) (h0 : 0 < lim) (h1 : lim < 1073741824) (hT : T < 1152921504606846976) :
    ∃ d h', runFn cl C fDraw [.ref l, .int lim] h = .ok (.int d) h' ∧ 0 ≤ d ∧ d < lim ∧ Mst h' l (T + 1) ∧ Kp l h h' := by
  obtain ⟨g, xs, sd, t, m, hl, t0, t1⟩ := M
  obtain ⟨n, hn⟩ := fuel_eq
  have key : ∃ d h', execs (rec cl C fuel) fDraw.body [some (.ref l), some (.int lim), none, none] h = .ok (.rt (.int d)) h' ∧ 0 ≤ d ∧ d < lim ∧ Mst h' l (T + 1) ∧ Kp l h h' := by
    rw [hn]
    have hs : getV [some (.ref l), some (.int lim), none, none] 0 = some (.ref l) := rfl
    obtain ⟨g', xs', h', e, m', l', k'⟩ := drop_ok (cl := cl) (C := C) hs xs g (n + 191) h (by omega) m
    show ∃ d h', execs (rec cl C (n + 200)) ((.whl condE bodyE) :: _) _ h = _ ∧ _
    rw [execs_cons, s_whl, e, next_nx, execs_cons, s_ife, t_cmp, gNe_ok m' hs]
    cases xs' with
    | nil =>
      show ∃ d h'', (execs (rec cl C (n + 199)) [] _ (h'.push (.lst []))).next _ = _ ∧ _
      rw [execs_nil, next_nx, execs_cons]
      have m2 := m'.push (.lst [])
      have hl2 : l < (h'.push (.lst [])).n := LHeap.get_lt m2.d
      have ne : g' ≠ l := fun z => by
        have := m2.g
        rw [z, m2.d] at this
        cases this
      have m3 : Mat ((h'.push (.lst [])).put l (mD g' sd (t + 1))) l g' [] sd (t + 1) := ⟨get_put_same hl2, by rw [get_put_ne hl2 ne]; exact m2.g⟩
      have ea : (rec cl C (n + 199)).e (.bin .add tE (.lit (.int 1))) [some (.ref l), some (.int lim), none, none] (h'.push (.lst [])) = .ok (.int (t + 1)) (h'.push (.lst [])) := by
        rw [e_bin, tE_ok m2 hs, bind_okE, e_lit, bind_okE]
        rfl
      rw [sett_ok m2 hs ea, next_nx]
      refine ⟨((((((sd * 48271 + (t + 1) * (t + 1) * 16807 + (t + 1)) % 2147483647 * 69621 + 12345) % 2147483629 * 40014 + (t + 1)) % 2147483563) / 64) % lim), (h'.push (.lst [])).put l (mD g' sd (t + 1)), ?_, ?_, ?_, ⟨g', [], sd, t + 1, m3, Nat.zero_le _, by omega, by omega⟩, k'.trans ((Kp.push l _ _).trans (Kp.put _ hl2))⟩
      rotate_left 1
      · exact Int.emod_nonneg _ (by omega)
      · exact Int.emod_lt_of_pos _ h0
      · have sm : small (t + 1) = true := small_lt (by omega) (by omega)
        have hs1 : ∀ v, getV [some (.ref l), some (.int lim), some v, none] 0 = some (.ref l) := fun _ => rfl
        have es : ∀ (k : Nat) (s : LSt), getV s 0 = some (.ref l) → (rec cl C (k + 2)).e (.sub (.var 0) (.lit (.str kSeed))) s ((h'.push (.lst [])).put l (mD g' sd (t + 1))) = .ok (.int sd) ((h'.push (.lst [])).put l (mD g' sd (t + 1))) := fun k s q => by
          rw [e_sub, e_var, q, optR_some, bind_okE, e_lit, bind_okE, m3.sub_s, optR_some]
        generalize hH : (h'.push (.lst [])).put l (mD g' sd (t + 1)) = H at *
        have b1 : binOp .mul (.int sd) (.int 48271) H = .ok (.int (sd * 48271)) H := by
          show (match small sd || small 48271 with
            | true => Res.ok (Val.int (sd * 48271)) H
            | false => .bad) = _
          rw [show small 48271 = true from rfl, Bool.or_true]
        have b2 : binOp .mul (.int (t + 1)) (.int (t + 1)) H = .ok (.int ((t + 1) * (t + 1))) H := by
          show (match small (t + 1) || small (t + 1) with
            | true => Res.ok (Val.int ((t + 1) * (t + 1))) H
            | false => .bad) = _
          rw [sm]; rfl
        have b3 : ∀ (x c : Int), small c = true → binOp .mul (.int x) (.int c) H = .ok (.int (x * c)) H := fun x c hc => by
          show (match small x || small c with
            | true => Res.ok (Val.int (x * c)) H
            | false => .bad) = _
          rw [hc, Bool.or_true]
        have b4 : ∀ (x y : Int), binOp .add (.int x) (.int y) H = .ok (.int (x + y)) H := fun _ _ => rfl
        have b5 : ∀ (x y : Int), 0 < y → binOp .mod (.int x) (.int y) H = .ok (.int (x % y)) H := fun x y q => by
          show (match decide (0 < y) with
            | true => Res.ok (Val.int (x % y)) H
            | false => .bad) = _
          rw [decide_eq_true q]
        have b6 : ∀ (x : Int), binOp .fdiv (.int x) (.int 64) H = .ok (.int (x / 64)) H := fun _ => rfl
        have b7 : ∀ (x : Int), biCall .int [.int x] H = .ok (.int x) H := fun _ => rfl
        simp only [execs_cons, s_set, s_ret, execs_nil, e_bin, e_bi, evs_consE, evs_nilE, es _ _ hs, tE_ok m3 hs, e_lit, bind_okE, b1, b2, b3 _ 16807 rfl, b4, b7, b5 _ 2147483647 (by decide), inS_okE, next_nx, setV]
        simp only [execs_cons, s_set, s_ret, execs_nil, e_bin, e_bi, evs_consE, evs_nilE, e_var, getV, optR_some, e_lit, bind_okE, b3 _ 69621 rfl, b4, b7, b5 _ 2147483629 (by decide), inS_okE, next_nx, setV]
        simp only [execs_cons, s_set, s_ret, execs_nil, e_bin, e_bi, evs_consE, evs_nilE, e_var, getV, optR_some, e_lit, bind_okE, tE_ok m3 (hs1 _), b3 _ 40014 rfl, b4, b7, b5 _ 2147483563 (by decide), b6, b5 _ lim h0, inS_okE, next_rt, setV]
    | cons x xs' =>
      show ∃ d h'', (execs (rec cl C (n + 199)) _ _ (h'.push (.lst []))).next _ = _ ∧ _
      have m2 := m'.push (.lst [])
      refine ⟨x % lim, ((((h'.push (.lst [])).push (.lst [.int (x / lim)])).push (.lst (xs'.map Val.int))).push (.lst ((x / lim :: xs').map Val.int))).put l (mD (((h'.push (.lst [])).push (.lst [.int (x / lim)])).push (.lst (xs'.map Val.int))).n sd t), ?_, Int.emod_nonneg _ (by omega), Int.emod_lt_of_pos _ h0, ?_, ?_⟩
      · rw [execs_cons, s_set, g0_ok m2 hs, inS_okE, next_nx, execs_cons]
        have hs2 : getV (setV [some (.ref l), some (.int lim), none, none] 3 (.int x)) 0 = some (.ref l) := rfl
        have m3 := m2.push (.lst [.int (x / lim)])
        have ea : (rec cl C (n + 198)).e (.bin .add (.lst [(.bin .fdiv (.var 3) (.var 1))]) (.slc gE (some (.lit (.int 1))) none)) (setV [some (.ref l), some (.int lim), none, none] 3 (.int x)) (h'.push (.lst [])) =
            .ok (.ref (((h'.push (.lst [])).push (.lst [.int (x / lim)])).push (.lst (xs'.map Val.int))).n) ((((h'.push (.lst [])).push (.lst [.int (x / lim)])).push (.lst (xs'.map Val.int))).push (.lst ((x / lim :: xs').map Val.int))) := by
          have b : binOp .fdiv (.int x) (.int lim) (h'.push (.lst [])) = .ok (.int (x / lim)) (h'.push (.lst [])) := by
            show (match decide (0 < lim) && decide (lim < 18446744073709551616) with
              | true => Res.ok (Val.int (x / lim)) (h'.push (.lst []))
              | false => .bad) = _
            rw [decide_eq_true h0, decide_eq_true (by omega)]; rfl
          rw [e_bin, e_lst, evs_consE, e_bin, e_var, show getV (setV [some (.ref l), some (.int lim), none, none] 3 (.int x)) 3 = some (.int x) from rfl, optR_some, bind_okE, e_var, show getV (setV [some (.ref l), some (.int lim), none, none] 3 (.int x)) 1 = some (.int lim) from rfl, optR_some, bind_okE]
          rw [b, bind_okE, evs_nilE, bind_okE, bind_okE]
          show (Res.ok (Val.ref (h'.push (.lst [])).n) ((h'.push (.lst [])).push (.lst [.int (x / lim)]))).bind _ = _
          rw [bind_okE, gTl_ok m3 hs2, bind_okE]
          rw [add_lst (get_push_some (get_push_same)) get_push_same (by
            rw [List.length_map, List.length_singleton]
            rw [List.length_cons] at l'
            omega)]
          rfl
        have m5 : Mat ((((h'.push (.lst [])).push (.lst [.int (x / lim)])).push (.lst (xs'.map Val.int))).push (.lst ((x / lim :: xs').map Val.int))) l g' (x :: xs') sd t := (m3.push _).push _
        rw [setg_ok m5 hs2 ea, next_nx]
        generalize (((((h'.push (.lst [])).push (.lst [.int (x / lim)])).push (.lst (xs'.map Val.int))).push (.lst ((x / lim :: xs').map Val.int))).put l (mD (((h'.push (.lst [])).push (.lst [.int (x / lim)])).push (.lst (xs'.map Val.int))).n sd t)) = H
        have b : binOp .mod (.int x) (.int lim) H = .ok (.int (x % lim)) H := by
          show (match decide (0 < lim) with
            | true => Res.ok (Val.int (x % lim)) H
            | false => .bad) = _
          rw [decide_eq_true h0]
        have b7 : biCall .int [.int x] H = .ok (.int x) H := rfl
        simp only [execs_cons, execs_nil, s_ret, e_bin, e_bi, evs_consE, evs_nilE, e_var, getV, setV, optR_some, bind_okE, b7, b, inS_okE, next_rt]
      · have m5 : Mat ((((h'.push (.lst [])).push (.lst [.int (x / lim)])).push (.lst (xs'.map Val.int))).push (.lst ((x / lim :: xs').map Val.int))) l g' (x :: xs') sd t := ((m2.push _).push _).push _
        have hl5 := LHeap.get_lt m5.d
        have ne : l ≠ (((h'.push (.lst [])).push (.lst [.int (x / lim)])).push (.lst (xs'.map Val.int))).n := by
          have := LHeap.get_lt ((m2.push (.lst [.int (x / lim)])).push (.lst (xs'.map Val.int))).d
          omega
        refine ⟨_, x / lim :: xs', sd, t, ⟨get_put_same hl5, by rw [get_put_ne hl5 (Ne.symm ne)]; exact get_push_same⟩, ?_, t0, by omega⟩
        rw [List.length_cons] at l' ⊢
        omega
      · have m5 : Mat ((((h'.push (.lst [])).push (.lst [.int (x / lim)])).push (.lst (xs'.map Val.int))).push (.lst ((x / lim :: xs').map Val.int))) l g' (x :: xs') sd t := ((m2.push _).push _).push _
        exact k'.trans ((((Kp.push l _ _).trans (Kp.push l _ _)).trans ((Kp.push l _ _).trans (Kp.push l _ _))).trans (Kp.put _ (LHeap.get_lt m5.d)))
  obtain ⟨d, h', e, r⟩ := key
  refine ⟨d, h', ?_, r⟩
  show (match execs (rec cl C fuel) fDraw.body [some (.ref l), some (.int lim), none, none] h with
    | .ok (.nx _) h1 => Res.ok Val.non h1
    | .ok (.rt v) h1 => .ok v h1
    | .ok _ _ => .bad
    | .exc c fs _ h1 => .exc c fs h1
    | .bad => .bad) = _
  rw [e]
theorem heap0_items (ns : List Int) : itemsL (heap0 ns) (.ref 0) = some (ns.map Val.int) := by
  unfold itemsL
  dsimp only
  rw [heap0_get, if_pos rfl]
theorem begun_ok {cl : Cl} {C : Nat → List Val → LHeap → Res Val} {ns : List Int} (hl : ns.length ≤ 63) : ∃ h', runFn cl C fBegun [.ref 0] (heap0 ns) = .ok (.ref 2) h' ∧ Mst h' 2 0 ∧ Kp 2 (heap0 ns) h' := by
  obtain ⟨n, hn⟩ := fuel_eq
  have hsrc : srcOf (heap0 ns) (.ref 0) = some (.dyn 0) := by
    unfold srcOf
    dsimp only
    rw [heap0_get, if_pos rfl]
  have b3 : ∀ (x c : Int) (H : LHeap), small c = true → binOp .mul (.int x) (.int c) H = .ok (.int (x * c)) H := fun x c H hc => by
    show (match small x || small c with
      | true => Res.ok (Val.int (x * c)) H
      | false => .bad) = _
    rw [hc, Bool.or_true]
  have b4 : ∀ (x y : Int) (H : LHeap), binOp .add (.int x) (.int y) H = .ok (.int (x + y)) H := fun _ _ _ => rfl
  have b5 : ∀ (x y : Int) (H : LHeap), 0 < y → binOp .mod (.int x) (.int y) H = .ok (.int (x % y)) H := fun x y H q => by
    show (match decide (0 < y) with
      | true => Res.ok (Val.int (x % y)) H
      | false => .bad) = _
    rw [decide_eq_true q]
  have b7 : ∀ (x : Int) (H : LHeap), biCall .int [.int x] H = .ok (.int x) H := fun _ _ => rfl
  have b8 : ∀ H : LHeap, binOp .pow (.int 10) (.int 18) H = .ok (.int 1000000000000000000) H := fun _ => rfl
  have key : ∃ h', execs (rec cl C fuel) fBegun.body [some (.ref 0), none, none] (heap0 ns) = .ok (.rt (.ref 2)) h' ∧ Mst h' 2 0 ∧ Kp 2 (heap0 ns) h' := by
    rw [hn]
    show ∃ h', execs (rec cl C (n + 200)) ((.set 1 (.lit (.int 11))) :: _) _ _ = _ ∧ _
    rw [execs_cons, s_set, e_lit, inS_okE, next_nx, execs_cons, s_loop, evIt_val, e_var, show getV (setV [some (Val.ref 0), none, none] 1 (.int 11)) 0 = some (.ref 0) from rfl, optR_some, bind_okE, hsrc, optR_some, inS_okE, loopAll_dyn]
    obtain ⟨s', e, sd, u, rfl⟩ := loopDyn_keep (f := loopOne (rec cl C (n + 199)) (.name 2) [(.set 1 (.bin .mod (.bi .int [(.bin .add (.bin .add (.bin .mul (.var 1) (.lit (.int 69621))) (.bin .mod (.bi .int [(.var 2)]) (.lit (.int 2147483629)))) (.lit (.int 7)))]) (.lit (.int 2147483647))))]) (heap0_items ns) (fun s => ∃ sd u, s = [some (.ref 0), some (.int sd), u]) (fun x s hx p => by
      obtain ⟨sd, u, rfl⟩ := p
      obtain ⟨i, _, rfl⟩ := List.mem_map.mp hx
      refine ⟨[some (.ref 0), some (.int ((sd * 69621 + i % 2147483629 + 7) % 2147483647)), some (.int i)], ?_, _, _, rfl⟩
      show execs (rec cl C (n + 199)) _ [some (.ref 0), some (.int sd), some (.int i)] _ = _
      simp only [execs_cons, execs_nil, s_set, e_bin, e_bi, evs_consE, evs_nilE, e_var, getV, setV, optR_some, e_lit, bind_okE, b3 _ 69621 _ rfl, b4, b7, b5 _ 2147483629 _ (by decide), b5 _ 2147483647 _ (by decide), inS_okE, next_nx]) 100000 0 [some (.ref 0), some (.int 11), none] (by rw [List.length_map]; omega) ⟨_, _, rfl⟩
    rw [show setV [some (Val.ref 0), none, none] 1 (.int 11) = [some (.ref 0), some (.int 11), none] from rfl, e, next_nx, execs_cons, s_ret, e_dsp, evKVs_consE]
    obtain ⟨ys, e2, l2, q2⟩ := compDyn_keep (f := compOne (rec cl C (n + 197)) [2] (.name 2) (some (.cmp .ge (.var 2) (.bin .pow (.lit (.int 10)) (.lit (.int 18))))) (.var 2) [some (.ref 0), some (.int sd), u]) (heap0_items ns) (fun y => ∃ i, y = Val.int i) (fun x hx => by
      obtain ⟨i, _, rfl⟩ := List.mem_map.mp hx
      show ∃ o, ((rec cl C (n + 197)).t (.cmp .ge (.var 2) (.bin .pow (.lit (.int 10)) (.lit (.int 18)))) [some (.ref 0), some (.int sd), some (.int i)] (heap0 ns)).bind (fun b h1 => match b with
        | true => ((rec cl C (n + 197)).e (.var 2) [some (.ref 0), some (.int sd), some (.int i)] h1).bind fun y h2 => .ok (some y) h2
        | false => .ok none h1) = .ok o (heap0 ns) ∧ _
      simp only [t_cmp, e_cmp, e_bin, e_var, e_lit, getV, optR_some, bind_okE, b8]
      show ∃ o, (match decide ((1000000000000000000 : Int) ≤ i) with
        | true => Res.ok (some (Val.int i)) (heap0 ns)
        | false => .ok none (heap0 ns)) = _ ∧ _
      cases decide ((1000000000000000000 : Int) ≤ i) with
      | true => exact ⟨some (.int i), rfl, fun y q => ⟨i, (Option.some.inj q).symm⟩⟩
      | false => exact ⟨none, rfl, fun y q => by cases q⟩) 100000 0 (by rw [List.length_map]; omega)
    obtain ⟨is, rfl⟩ := ints_of q2
    rw [List.length_map, List.length_map] at l2
    have ec : (rec cl C (n + 198)).e (.comp [2] (.name 2) (.val (.var 0)) (some (.cmp .ge (.var 2) (.bin .pow (.lit (.int 10)) (.lit (.int 18))))) (.var 2)) [some (.ref 0), some (.int sd), u] (heap0 ns) = .ok (.ref 1) ((heap0 ns).push (.lst (is.map Val.int))) := by
      rw [e_comp, evComp_eq, evIt_val, e_var, show getV [some (Val.ref 0), some (.int sd), u] 0 = some (.ref 0) from rfl, optR_some, bind_okE, hsrc, optR_some, bind_okE, compAll_dyn]
      rw [show compDyn (compOne (rec cl C (n + 197)) [2] (.name 2) (some (.cmp .ge (.var 2) (.bin .pow (.lit (.int 10)) (.lit (.int 18))))) (.var 2) [some (.ref 0), some (.int sd), u]) (.dyn 0) 100000 0 (heap0 ns) = .ok (is.map Val.int) (heap0 ns) from ?_]
      · show (Res.ok (is.map Val.int) (heap0 ns)).bind _ = _
        rw [bind_okE, show Nat.ble (is.map Val.int).length line = true from Nat.ble_eq_true_of_le (by rw [List.length_map]; show _ ≤ 16777216; omega)]
        rfl
      · exact e2
    rw [ec, bind_okE]
    simp only [evKVs_consE, evKVs_nilE, e_var, e_lit, getV, optR_some, bind_okE, inS_okE]
    refine ⟨((heap0 ns).push (.lst (is.map Val.int))).push (mD 1 sd 0), rfl, ⟨1, is, sd, 0, ⟨get_push_same, get_push_some get_push_same⟩, by omega, Int.le_refl _, Int.le_refl _⟩, (Kp.push 2 _ _).trans (Kp.push 2 _ _)⟩
  obtain ⟨h', e, r⟩ := key
  refine ⟨h', ?_, r⟩
  show (match execs (rec cl C fuel) fBegun.body [some (.ref 0), none, none] (heap0 ns) with
    | .ok (.nx _) h1 => Res.ok Val.non h1
    | .ok (.rt v) h1 => .ok v h1
    | .ok _ _ => .bad
    | .exc c fs _ h1 => .exc c fs h1
    | .bad => .bad) = _
  rw [e]
end Ev

set_option Elab.async false
set_option linter.all false
set_option maxRecDepth 100000
set_option maxHeartbeats 1000000
/-! The laws' own draws: _law_begun, _law_draw. -/
noncomputable section
namespace Ev
open PySem
namespace D2
def fBegun : Fn := ⟨1, 3, [(.set 1 (.lit (.int 20231))), (.loop (.name 2) (.val (.var 0)) [(.set 1 (.bin .mod (.bi .int [(.bin .add (.bin .add (.bin .mul (.var 1) (.lit (.int 6364136223846793005))) (.var 2)) (.lit (.int 1442695040888963407)))]) (.lit (.int 18446744073709551616))))]), (.ret (.dsp [(kGreat, (.comp [2] (.name 2) (.val (.var 0)) (some (.cmp .ge (.var 2) (.bin .pow (.lit (.int 10)) (.lit (.int 18))))) (.var 2))), (kSeed, (.var 1))]))]⟩
def sE : E := .sub (.var 0) (.lit (.str kSeed))
def fDraw : Fn := ⟨2, 3, [(.whl condE bodyE), (.ife (.cmp .ne gE (.lst [])) [(.set 2 (.sub gE (.lit (.int 0)))), (.put (.var 0) (.lit (.str kGreat)) (.bin .add (.lst [(.bin .fdiv (.var 2) (.var 1))]) (.slc gE (some (.lit (.int 1))) none))), (.ret (.bin .mod (.bi .int [(.var 2)]) (.var 1)))] []),
  (.put (.var 0) (.lit (.str kSeed)) (.bin .mod (.bi .int [(.bin .add (.bin .mul sE (.lit (.int 6364136223846793005))) (.lit (.int 1442695040888963407)))]) (.lit (.int 18446744073709551616)))), (.ret (.bin .mod (.bi .int [(.bin .fdiv sE (.lit (.int 8589934592)))]) (.var 1)))]⟩
/-- the dict of the draws -/
abbrev mD (g : Nat) (sd : Int) : LObj := .dK [(.inr kGreat, .ref g), (.inr kSeed, .int sd)]
structure Mat (h : LHeap) (l g : Nat) (xs : List Int) (sd : Int) : Prop where
  d : h.get l = some (mD g sd)
  g : h.get g = some (.lst (xs.map Val.int))
/-- what the draws lean on -/
def Mst (h : LHeap) (l : Nat) : Prop := ∃ g xs sd, Mat h l g xs sd ∧ xs.length ≤ 63
section
variable {cl : Cl} {C : Nat → List Val → LHeap → Res Val} {n : Nat} {s : LSt} {h : LHeap} {l g : Nat} {xs : List Int} {sd : Int}
theorem Mat.push (m : Mat h l g xs sd) (o : LObj) : Mat (h.push o) l g xs sd := ⟨get_push_some m.d, get_push_some m.g⟩
theorem Mat.sub_g (m : Mat h l g xs sd) : subVal h (.ref l) (.str kGreat) = some (.ref g) := (sub_dK m.d rfl).trans rfl
theorem Mat.sub_s (m : Mat h l g xs sd) : subVal h (.ref l) (.str kSeed) = some (.int sd) := (sub_dK m.d rfl).trans rfl
theorem gE_ok (m : Mat h l g xs sd) (hs : getV s 0 = some (.ref l)) : (rec cl C (n + 2)).e gE s h = .ok (.ref g) h := by
  unfold gE
  rw [e_sub, e_var, hs, optR_some, bind_okE, e_lit, bind_okE, m.sub_g, optR_some]
theorem sE_ok (m : Mat h l g xs sd) (hs : getV s 0 = some (.ref l)) : (rec cl C (n + 2)).e sE s h = .ok (.int sd) h := by
  unfold sE
  rw [e_sub, e_var, hs, optR_some, bind_okE, e_lit, bind_okE, m.sub_s, optR_some]
theorem gNe_ok (m : Mat h l g xs sd) (hs : getV s 0 = some (.ref l)) : (rec cl C (n + 3)).e (.cmp .ne gE (.lst [])) s h = .ok (.bl (!xs.isEmpty)) (h.push (.lst [])) := by
  rw [e_cmp, gE_ok m hs, bind_okE, e_lst, evs_nilE, bind_okE]
  show (Res.ok (Val.ref h.n) (h.push (.lst []))).bind _ = _
  rw [bind_okE]
  have e : cmpOp .ne (.ref g) (.ref h.n) (h.push (.lst [])) = some (!xs.isEmpty) := by
    show optNot (eqD (h.push (.lst [])) (.ref g) (.ref h.n)) = _
    have e1 : toD 66 (h.push (.lst [])) (.ref g) = some (.list (xs.map PyData.int)) := by
      show (match (h.push (.lst [])).get g with
        | some (.lst xs) => (match mapOpt (toD 65 (h.push (.lst []))) xs with
          | some ds => some (PyData.list ds)
          | none => none)
        | some (.frz xs) => (match mapOpt (toD 65 (h.push (.lst []))) xs with
          | some ds => some (PyData.list ds)
          | none => none)
        | _ => none) = _
      rw [get_push_some m.g]
      dsimp only
      rw [toD_ints]
    have e2 : toD 66 (h.push (.lst [])) (.ref h.n) = some (.list []) := by
      show (match (h.push (.lst [])).get h.n with
        | some (.lst xs) => (match mapOpt (toD 65 (h.push (.lst []))) xs with
          | some ds => some (PyData.list ds)
          | none => none)
        | some (.frz xs) => (match mapOpt (toD 65 (h.push (.lst []))) xs with
          | some ds => some (PyData.list ds)
          | none => none)
        | _ => none) = _
      rw [get_push_same]
      rfl
    unfold eqD
    rw [e1, e2]
    dsimp only
    rw [shaped_ints, show SeqAt.shaped (.list []) = true by decide]
    cases xs <;> rfl
  rw [e, optR_some, bind_okE]
theorem g0_ok {x : Int} (m : Mat h l g (x :: xs) sd) (hs : getV s 0 = some (.ref l)) : (rec cl C (n + 3)).e (.sub gE (.lit (.int 0))) s h = .ok (.int x) h := by
  rw [e_sub, gE_ok m hs, bind_okE, e_lit, bind_okE]
  have e : subVal h (.ref g) (.int 0) = some (.int x) := by
    rw [sub_lst m.g]
    have e : ix (Val.int x :: xs.map Val.int).length 0 = some 0 := by
      unfold ix
      rw [show decide ((0 : Int) ≤ 0) = true from rfl]
      dsimp only
      rw [decide_eq_true (by rw [List.length_cons]; omega)]
      rfl
    rw [show (x :: xs).map Val.int = Val.int x :: xs.map Val.int from rfl, e]
    rfl
  rw [e, optR_some]
theorem gTl_ok {x : Int} (m : Mat h l g (x :: xs) sd) (hs : getV s 0 = some (.ref l)) : (rec cl C (n + 3)).e (.slc gE (some (.lit (.int 1))) none) s h = .ok (.ref h.n) (h.push (.lst (xs.map Val.int))) := by
  rw [e_slc, gE_ok m hs, bind_okE, evOpt_some, e_lit, bind_okE, bind_okE, evOpt_none, bind_okE]
  rw [slice_lst m.g]
  show alloc (.lst (cut (Val.int x :: xs.map Val.int) (some 1) none)) h = _
  have e : cut (Val.int x :: xs.map Val.int) (some 1) none = xs.map Val.int := by
    unfold cut bnd
    simp
    exact List.take_of_length_le (by simp)
  rw [e]
  rfl
/-- d["great"] = e, e a new list at v -/
theorem setg_ok {e : E} {v : Nat} {h1 : LHeap} (m : Mat h1 l g xs sd) (hs : getV s 0 = some (.ref l)) (he : (rec cl C (n + 1)).e e s h = .ok (.ref v) h1) : (rec cl C (n + 2)).s (.put (.var 0) (.lit (.str kGreat)) e) s h = .ok (.nx s) (h1.put l (mD v sd)) := by
  rw [s_put, he, inS_okE, e_var, hs, optR_some, inS_okE, e_lit, inS_okE]
  dsimp only
  rw [m.d]
  rfl
theorem sets_ok {e : E} {v : Int} {h1 : LHeap} (m : Mat h1 l g xs sd) (hs : getV s 0 = some (.ref l)) (he : (rec cl C (n + 1)).e e s h = .ok (.int v) h1) : (rec cl C (n + 2)).s (.put (.var 0) (.lit (.str kSeed)) e) s h = .ok (.nx s) (h1.put l (mD g v)) := by
  rw [s_put, he, inS_okE, e_var, hs, optR_some, inS_okE, e_lit, inS_okE]
  dsimp only
  rw [m.d]
  rfl
/-- noughts ahead are dropped -/
theorem drop_ok (hs : getV s 0 = some (.ref l)) : ∀ (xs : List Int) (g n : Nat) (h : LHeap), xs.length ≤ n → Mat h l g xs sd → ∃ g' xs' h', (rec cl C (n + 8)).w condE bodyE s h = .ok (.nx s) h' ∧ Mat h' l g' xs' sd ∧ xs'.length ≤ xs.length ∧ Kp l h h'
  | [], g, n, h, hn, m => by
    refine ⟨g, [], h.push (.lst []), ?_, m.push _, Nat.le_refl _, Kp.push l h _⟩
    rw [w_step]
    unfold condE
    rw [t_and, t_cmp, gNe_ok m hs]
    rfl
  | x :: xs, g, n, h, hn, m => by
    have m1 := m.push (.lst [])
    by_cases hx : x = 0
    · have m2 : Mat ((h.push (.lst [])).push (.lst (xs.map Val.int))) l g (x :: xs) sd := m1.push _
      have hl : l < ((h.push (.lst [])).push (.lst (xs.map Val.int))).n := LHeap.get_lt m2.d
      have ne : l ≠ (h.push (.lst [])).n := by have := LHeap.get_lt m1.d; omega
      have m3 : Mat (((h.push (.lst [])).push (.lst (xs.map Val.int))).put l (mD (h.push (.lst [])).n sd)) l (h.push (.lst [])).n xs sd := ⟨get_put_same hl, by rw [get_put_ne hl (Ne.symm ne)]; exact get_push_same⟩
      have hn' : xs.length + 1 ≤ n := hn
      obtain ⟨g', xs', h', e, m4, l4, k4⟩ := drop_ok hs xs _ (n - 1) _ (by omega) m3
      refine ⟨g', xs', h', ?_, m4, by rw [List.length_cons]; omega, ((Kp.push l h _).trans (Kp.push l _ _)).trans ((Kp.put _ hl).trans k4)⟩
      have en : n + 8 = (n - 1 + 8) + 1 := by omega
      rw [en, w_step]
      unfold condE
      rw [t_and, t_cmp, gNe_ok m hs]
      show ((rec cl C (n - 1 + 7)).t (.cmp .eq (.sub gE (.lit (.int 0))) (.lit (.int 0))) s (h.push (.lst []))).inS s _ = _
      rw [t_cmp, e_cmp, g0_ok m1 hs, bind_okE, e_lit, bind_okE, hx]
      show turn (execs (rec cl C (n - 1 + 8)) bodyE s (h.push (.lst []))) ((rec cl C (n - 1 + 8)).w condE bodyE) = _
      unfold bodyE
      rw [execs_cons, setg_ok m2 hs (gTl_ok m1 hs), next_nx, execs_nil, turn_nx]
      exact e
    · refine ⟨g, x :: xs, h.push (.lst []), ?_, m1, Nat.le_refl _, Kp.push l h _⟩
      rw [w_step]
      unfold condE
      rw [t_and, t_cmp, gNe_ok m hs]
      show ((rec cl C (n + 6)).t (.cmp .eq (.sub gE (.lit (.int 0))) (.lit (.int 0))) s (h.push (.lst []))).inS s _ = _
      rw [t_cmp, e_cmp, g0_ok m1 hs, bind_okE, e_lit, bind_okE]
      have e : cmpOp .eq (.int x) (.int 0) (h.push (.lst [])) = some false := by
        show some (decide (x = 0)) = _
        rw [decide_eq_false hx]
      rw [e]
      rfl
end
theorem draw_ok {cl : Cl} {C : Nat → List Val → LHeap → Res Val} {h : LHeap} {l : Nat} {lim : Int} (M : Mst h l) (h0 : 0 < lim) (h1 : lim < 1073741824) :
    ∃ d h', runFn cl C fDraw [.ref l, .int lim] h = .ok (.int d) h' ∧ 0 ≤ d ∧ d < lim ∧ Mst h' l ∧ Kp l h h' := by
  obtain ⟨g, xs, sd, m, hl⟩ := M
  obtain ⟨n, hn⟩ := fuel_eq
  have key : ∃ d h', execs (rec cl C fuel) fDraw.body [some (.ref l), some (.int lim), none] h = .ok (.rt (.int d)) h' ∧ 0 ≤ d ∧ d < lim ∧ Mst h' l ∧ Kp l h h' := by
    rw [hn]
    have hs : getV [some (.ref l), some (.int lim), none] 0 = some (.ref l) := rfl
    obtain ⟨g', xs', h', e, m', l', k'⟩ := drop_ok (cl := cl) (C := C) hs xs g (n + 191) h (by omega) m
    show ∃ d h', execs (rec cl C (n + 200)) ((.whl condE bodyE) :: _) _ h = _ ∧ _
    rw [execs_cons, s_whl, e, next_nx, execs_cons, s_ife, t_cmp, gNe_ok m' hs]
    cases xs' with
    | nil =>
      show ∃ d h'', (execs (rec cl C (n + 199)) [] _ (h'.push (.lst []))).next _ = _ ∧ _
      rw [execs_nil, next_nx, execs_cons]
      have m2 := m'.push (.lst [])
      have hl2 : l < (h'.push (.lst [])).n := LHeap.get_lt m2.d
      have ne : g' ≠ l := fun z => by
        have := m2.g
        rw [z, m2.d] at this
        cases this
      have b3 : ∀ (x c : Int) (H : LHeap), small c = true → binOp .mul (.int x) (.int c) H = .ok (.int (x * c)) H := fun x c H hc => by
        show (match small x || small c with
          | true => Res.ok (Val.int (x * c)) H
          | false => .bad) = _
        rw [hc, Bool.or_true]
      have b4 : ∀ (x y : Int) (H : LHeap), binOp .add (.int x) (.int y) H = .ok (.int (x + y)) H := fun _ _ _ => rfl
      have b5 : ∀ (x y : Int) (H : LHeap), 0 < y → binOp .mod (.int x) (.int y) H = .ok (.int (x % y)) H := fun x y H q => by
        show (match decide (0 < y) with
          | true => Res.ok (Val.int (x % y)) H
          | false => .bad) = _
        rw [decide_eq_true q]
      have b6 : ∀ (x : Int) (H : LHeap), binOp .fdiv (.int x) (.int 8589934592) H = .ok (.int (x / 8589934592)) H := fun _ _ => rfl
      have b7 : ∀ (x : Int) (H : LHeap), biCall .int [.int x] H = .ok (.int x) H := fun _ _ => rfl
      have m3 : Mat ((h'.push (.lst [])).put l (mD g' ((sd * 6364136223846793005 + 1442695040888963407) % 18446744073709551616))) l g' [] ((sd * 6364136223846793005 + 1442695040888963407) % 18446744073709551616) := ⟨get_put_same hl2, by rw [get_put_ne hl2 ne]; exact m2.g⟩
      have ea : (rec cl C (n + 199)).e (.bin .mod (.bi .int [(.bin .add (.bin .mul sE (.lit (.int 6364136223846793005))) (.lit (.int 1442695040888963407)))]) (.lit (.int 18446744073709551616))) [some (.ref l), some (.int lim), none] (h'.push (.lst [])) = .ok (.int ((sd * 6364136223846793005 + 1442695040888963407) % 18446744073709551616)) (h'.push (.lst [])) := by
        simp only [e_bin, e_bi, evs_consE, evs_nilE, sE_ok m2 hs, e_lit, bind_okE, b3 _ 6364136223846793005 _ rfl, b4, b7, b5 _ 18446744073709551616 _ (by decide)]
      rw [sets_ok m2 hs ea, next_nx]
      refine ⟨(((sd * 6364136223846793005 + 1442695040888963407) % 18446744073709551616) / 8589934592) % lim, (h'.push (.lst [])).put l (mD g' ((sd * 6364136223846793005 + 1442695040888963407) % 18446744073709551616)), ?_, Int.emod_nonneg _ (by omega), Int.emod_lt_of_pos _ h0, ⟨g', [], _, m3, Nat.zero_le _⟩, k'.trans ((Kp.push l _ _).trans (Kp.put _ hl2))⟩
      simp only [execs_cons, s_ret, execs_nil, e_bin, e_bi, evs_consE, evs_nilE, sE_ok m3 hs, e_var, getV, optR_some, e_lit, bind_okE, b6, b7, b5 _ lim _ h0, inS_okE, next_rt]
    | cons x xs' =>
      show ∃ d h'', (execs (rec cl C (n + 199)) _ _ (h'.push (.lst []))).next _ = _ ∧ _
      have m2 := m'.push (.lst [])
      refine ⟨x % lim, ((((h'.push (.lst [])).push (.lst [.int (x / lim)])).push (.lst (xs'.map Val.int))).push (.lst ((x / lim :: xs').map Val.int))).put l (mD (((h'.push (.lst [])).push (.lst [.int (x / lim)])).push (.lst (xs'.map Val.int))).n sd), ?_, Int.emod_nonneg _ (by omega), Int.emod_lt_of_pos _ h0, ?_, ?_⟩
      · rw [execs_cons, s_set, g0_ok m2 hs, inS_okE, next_nx, execs_cons]
        have hs2 : getV (setV [some (.ref l), some (.int lim), none] 2 (.int x)) 0 = some (.ref l) := rfl
        have m3 := m2.push (.lst [.int (x / lim)])
        have ea : (rec cl C (n + 198)).e (.bin .add (.lst [(.bin .fdiv (.var 2) (.var 1))]) (.slc gE (some (.lit (.int 1))) none)) (setV [some (.ref l), some (.int lim), none] 2 (.int x)) (h'.push (.lst [])) =
            .ok (.ref (((h'.push (.lst [])).push (.lst [.int (x / lim)])).push (.lst (xs'.map Val.int))).n) ((((h'.push (.lst [])).push (.lst [.int (x / lim)])).push (.lst (xs'.map Val.int))).push (.lst ((x / lim :: xs').map Val.int))) := by
          have b : binOp .fdiv (.int x) (.int lim) (h'.push (.lst [])) = .ok (.int (x / lim)) (h'.push (.lst [])) := by
            show (match decide (0 < lim) && decide (lim < 18446744073709551616) with
              | true => Res.ok (Val.int (x / lim)) (h'.push (.lst []))
              | false => .bad) = _
            rw [decide_eq_true h0, decide_eq_true (by omega)]; rfl
          rw [e_bin, e_lst, evs_consE, e_bin, e_var, show getV (setV [some (.ref l), some (.int lim), none] 2 (.int x)) 2 = some (.int x) from rfl, optR_some, bind_okE, e_var, show getV (setV [some (.ref l), some (.int lim), none] 2 (.int x)) 1 = some (.int lim) from rfl, optR_some, bind_okE]
          rw [b, bind_okE, evs_nilE, bind_okE, bind_okE]
          show (Res.ok (Val.ref (h'.push (.lst [])).n) ((h'.push (.lst [])).push (.lst [.int (x / lim)]))).bind _ = _
          rw [bind_okE, gTl_ok m3 hs2, bind_okE]
          rw [add_lst (get_push_some (get_push_same)) get_push_same (by
            rw [List.length_map, List.length_singleton]
            rw [List.length_cons] at l'
            omega)]
          rfl
        have m5 : Mat ((((h'.push (.lst [])).push (.lst [.int (x / lim)])).push (.lst (xs'.map Val.int))).push (.lst ((x / lim :: xs').map Val.int))) l g' (x :: xs') sd := (m3.push _).push _
        rw [setg_ok m5 hs2 ea, next_nx]
        generalize (((((h'.push (.lst [])).push (.lst [.int (x / lim)])).push (.lst (xs'.map Val.int))).push (.lst ((x / lim :: xs').map Val.int))).put l (mD (((h'.push (.lst [])).push (.lst [.int (x / lim)])).push (.lst (xs'.map Val.int))).n sd)) = H
        have b : binOp .mod (.int x) (.int lim) H = .ok (.int (x % lim)) H := by
          show (match decide (0 < lim) with
            | true => Res.ok (Val.int (x % lim)) H
            | false => .bad) = _
          rw [decide_eq_true h0]
        have b7 : biCall .int [.int x] H = .ok (.int x) H := rfl
        simp only [execs_cons, execs_nil, s_ret, e_bin, e_bi, evs_consE, evs_nilE, e_var, getV, setV, optR_some, bind_okE, b7, b, inS_okE, next_rt]
      · have m5 : Mat ((((h'.push (.lst [])).push (.lst [.int (x / lim)])).push (.lst (xs'.map Val.int))).push (.lst ((x / lim :: xs').map Val.int))) l g' (x :: xs') sd := ((m2.push _).push _).push _
        have hl5 := LHeap.get_lt m5.d
        have ne : l ≠ (((h'.push (.lst [])).push (.lst [.int (x / lim)])).push (.lst (xs'.map Val.int))).n := by
          have := LHeap.get_lt ((m2.push (.lst [.int (x / lim)])).push (.lst (xs'.map Val.int))).d
          omega
        refine ⟨_, x / lim :: xs', sd, ⟨get_put_same hl5, by rw [get_put_ne hl5 (Ne.symm ne)]; exact get_push_same⟩, ?_⟩
        rw [List.length_cons] at l' ⊢
        omega
      · have m5 : Mat ((((h'.push (.lst [])).push (.lst [.int (x / lim)])).push (.lst (xs'.map Val.int))).push (.lst ((x / lim :: xs').map Val.int))) l g' (x :: xs') sd := ((m2.push _).push _).push _
        exact k'.trans ((((Kp.push l _ _).trans (Kp.push l _ _)).trans ((Kp.push l _ _).trans (Kp.push l _ _))).trans (Kp.put _ (LHeap.get_lt m5.d)))
  obtain ⟨d, h', e, r⟩ := key
  refine ⟨d, h', ?_, r⟩
  show (match execs (rec cl C fuel) fDraw.body [some (.ref l), some (.int lim), none] h with
    | .ok (.nx _) h1 => Res.ok Val.non h1
    | .ok (.rt v) h1 => .ok v h1
    | .ok _ _ => .bad
    | .exc c fs _ h1 => .exc c fs h1
    | .bad => .bad) = _
  rw [e]
theorem begun_ok {cl : Cl} {C : Nat → List Val → LHeap → Res Val} {ns : List Int} (hl : ns.length ≤ 63) : ∃ h', runFn cl C fBegun [.ref 0] (heap0 ns) = .ok (.ref 2) h' ∧ Mst h' 2 ∧ Kp 2 (heap0 ns) h' := by
  obtain ⟨n, hn⟩ := fuel_eq
  have hsrc : srcOf (heap0 ns) (.ref 0) = some (.dyn 0) := by
    unfold srcOf
    dsimp only
    rw [heap0_get, if_pos rfl]
  have b3 : ∀ (x c : Int) (H : LHeap), small c = true → binOp .mul (.int x) (.int c) H = .ok (.int (x * c)) H := fun x c H hc => by
    show (match small x || small c with
      | true => Res.ok (Val.int (x * c)) H
      | false => .bad) = _
    rw [hc, Bool.or_true]
  have b4 : ∀ (x y : Int) (H : LHeap), binOp .add (.int x) (.int y) H = .ok (.int (x + y)) H := fun _ _ _ => rfl
  have b5 : ∀ (x y : Int) (H : LHeap), 0 < y → binOp .mod (.int x) (.int y) H = .ok (.int (x % y)) H := fun x y H q => by
    show (match decide (0 < y) with
      | true => Res.ok (Val.int (x % y)) H
      | false => .bad) = _
    rw [decide_eq_true q]
  have b7 : ∀ (x : Int) (H : LHeap), biCall .int [.int x] H = .ok (.int x) H := fun _ _ => rfl
  have b8 : ∀ H : LHeap, binOp .pow (.int 10) (.int 18) H = .ok (.int 1000000000000000000) H := fun _ => rfl
  have key : ∃ h', execs (rec cl C fuel) fBegun.body [some (.ref 0), none, none] (heap0 ns) = .ok (.rt (.ref 2)) h' ∧ Mst h' 2 ∧ Kp 2 (heap0 ns) h' := by
    rw [hn]
    show ∃ h', execs (rec cl C (n + 200)) ((.set 1 (.lit (.int 20231))) :: _) _ _ = _ ∧ _
    rw [execs_cons, s_set, e_lit, inS_okE, next_nx, execs_cons, s_loop, evIt_val, e_var, show getV (setV [some (Val.ref 0), none, none] 1 (.int 20231)) 0 = some (.ref 0) from rfl, optR_some, bind_okE, hsrc, optR_some, inS_okE, loopAll_dyn]
    obtain ⟨s', e, sd, u, rfl⟩ := loopDyn_keep (f := loopOne (rec cl C (n + 199)) (.name 2) [(.set 1 (.bin .mod (.bi .int [(.bin .add (.bin .add (.bin .mul (.var 1) (.lit (.int 6364136223846793005))) (.var 2)) (.lit (.int 1442695040888963407)))]) (.lit (.int 18446744073709551616))))]) (heap0_items ns) (fun s => ∃ sd u, s = [some (.ref 0), some (.int sd), u]) (fun x s hx p => by
      obtain ⟨sd, u, rfl⟩ := p
      obtain ⟨i, _, rfl⟩ := List.mem_map.mp hx
      refine ⟨[some (.ref 0), some (.int ((sd * 6364136223846793005 + i + 1442695040888963407) % 18446744073709551616)), some (.int i)], ?_, _, _, rfl⟩
      show execs (rec cl C (n + 199)) _ [some (.ref 0), some (.int sd), some (.int i)] _ = _
      simp only [execs_cons, execs_nil, s_set, e_bin, e_bi, evs_consE, evs_nilE, e_var, getV, setV, optR_some, e_lit, bind_okE, b3 _ 6364136223846793005 _ rfl, b4, b7, b5 _ 18446744073709551616 _ (by decide), inS_okE, next_nx]) 100000 0 [some (.ref 0), some (.int 20231), none] (by rw [List.length_map]; omega) ⟨_, _, rfl⟩
    rw [show setV [some (Val.ref 0), none, none] 1 (.int 20231) = [some (.ref 0), some (.int 20231), none] from rfl, e, next_nx, execs_cons, s_ret, e_dsp, evKVs_consE]
    obtain ⟨ys, e2, l2, q2⟩ := compDyn_keep (f := compOne (rec cl C (n + 197)) [2] (.name 2) (some (.cmp .ge (.var 2) (.bin .pow (.lit (.int 10)) (.lit (.int 18))))) (.var 2) [some (.ref 0), some (.int sd), u]) (heap0_items ns) (fun y => ∃ i, y = Val.int i) (fun x hx => by
      obtain ⟨i, _, rfl⟩ := List.mem_map.mp hx
      show ∃ o, ((rec cl C (n + 197)).t (.cmp .ge (.var 2) (.bin .pow (.lit (.int 10)) (.lit (.int 18)))) [some (.ref 0), some (.int sd), some (.int i)] (heap0 ns)).bind (fun b h1 => match b with
        | true => ((rec cl C (n + 197)).e (.var 2) [some (.ref 0), some (.int sd), some (.int i)] h1).bind fun y h2 => .ok (some y) h2
        | false => .ok none h1) = .ok o (heap0 ns) ∧ _
      simp only [t_cmp, e_cmp, e_bin, e_var, e_lit, getV, optR_some, bind_okE, b8]
      show ∃ o, (match decide ((1000000000000000000 : Int) ≤ i) with
        | true => Res.ok (some (Val.int i)) (heap0 ns)
        | false => .ok none (heap0 ns)) = _ ∧ _
      cases decide ((1000000000000000000 : Int) ≤ i) with
      | true => exact ⟨some (.int i), rfl, fun y q => ⟨i, (Option.some.inj q).symm⟩⟩
      | false => exact ⟨none, rfl, fun y q => by cases q⟩) 100000 0 (by rw [List.length_map]; omega)
    obtain ⟨is, rfl⟩ := ints_of q2
    rw [List.length_map, List.length_map] at l2
    have ec : (rec cl C (n + 198)).e (.comp [2] (.name 2) (.val (.var 0)) (some (.cmp .ge (.var 2) (.bin .pow (.lit (.int 10)) (.lit (.int 18))))) (.var 2)) [some (.ref 0), some (.int sd), u] (heap0 ns) = .ok (.ref 1) ((heap0 ns).push (.lst (is.map Val.int))) := by
      rw [e_comp, evComp_eq, evIt_val, e_var, show getV [some (Val.ref 0), some (.int sd), u] 0 = some (.ref 0) from rfl, optR_some, bind_okE, hsrc, optR_some, bind_okE, compAll_dyn]
      rw [show compDyn (compOne (rec cl C (n + 197)) [2] (.name 2) (some (.cmp .ge (.var 2) (.bin .pow (.lit (.int 10)) (.lit (.int 18))))) (.var 2) [some (.ref 0), some (.int sd), u]) (.dyn 0) 100000 0 (heap0 ns) = .ok (is.map Val.int) (heap0 ns) from ?_]
      · show (Res.ok (is.map Val.int) (heap0 ns)).bind _ = _
        rw [bind_okE, show Nat.ble (is.map Val.int).length line = true from Nat.ble_eq_true_of_le (by rw [List.length_map]; show _ ≤ 16777216; omega)]
        rfl
      · exact e2
    rw [ec, bind_okE]
    simp only [evKVs_consE, evKVs_nilE, e_var, e_lit, getV, optR_some, bind_okE, inS_okE]
    refine ⟨((heap0 ns).push (.lst (is.map Val.int))).push (mD 1 sd), rfl, ⟨1, is, sd, ⟨get_push_same, get_push_some get_push_same⟩, by omega⟩, (Kp.push 2 _ _).trans (Kp.push 2 _ _)⟩
  obtain ⟨h', e, r⟩ := key
  refine ⟨h', ?_, r⟩
  show (match execs (rec cl C fuel) fBegun.body [some (.ref 0), none, none] (heap0 ns) with
    | .ok (.nx _) h1 => Res.ok Val.non h1
    | .ok (.rt v) h1 => .ok v h1
    | .ok _ _ => .bad
    | .exc c fs _ h1 => .exc c fs h1
    | .bad => .bad) = _
  rw [e]
end D2
end Ev

set_option Elab.async false
set_option linter.all false
set_option maxRecDepth 100000
set_option maxHeartbeats 1000000
/-! What the laws by hand share. -/
noncomputable section
namespace Ev
open PySem
def isT (r : Res Val) : Bool := match r with
  | .ok (.bl true) _ => true
  | _ => false
theorem isT_ok {r : Res Val} (h : isT r = true) : ∃ h', r = .ok (.bl true) h' := by
  unfold isT at h
  split at h
  · exact ⟨_, rfl⟩
  · cases h
theorem sand_ok {r : Res Val} (e : isT r = true) (h : LHeap) : sand r h = .ok (.bl true) h := by
  obtain ⟨h', rfl⟩ := isT_ok e
  rfl
/-- the rest by itself gives True, and the thing that went along is as it was -/
def isRest (o : Option LObj) (r : RS) : Bool := match r with
  | .ok (.rt (.bl true)) h => sameO o h
  | _ => false
section
variable {cl : Cl} {C : Nat → List Val → LHeap → Res Val} {n : Nat} {s : LSt} {h : LHeap}
theorem e_and {a b : E} : (rec cl C (n + 1)).e (.and a b) s h = ((rec cl C n).e a s h).bind fun x h1 => match x with
    | .bl true => (rec cl C n).e b s h1
    | .bl false => .ok (.bl false) h1
    | _ => .bad := rfl
theorem s_unp {is : List Nat} {e : E} : (rec cl C (n + 1)).s (.unp is e) s h = ((rec cl C n).e e s h).inS s fun v h1 => match Tg.put (.tup is) v s with
    | some s1 => .ok (.nx s1) h1
    | none => .bad := rfl
theorem s_par {i j : Nat} {a b : E} : (rec cl C (n + 1)).s (.par i j a b) s h = ((rec cl C n).e a s h).inS s fun v h1 => ((rec cl C n).e b s h1).inS s fun u h2 => .ok (.nx (setV (setV s i v) j u)) h2 := rfl
theorem e_dnewK : (rec cl C (n + 1)).e .dnewK s h = .ok (.ref h.n) (h.push (.dK [])) := rfl
theorem s_rest {i : Nat} {dead : List Nat} {b : List S} {o : Option LObj} (hc : canonO h (getV (wipeL s dead) i) = some o) (hr : isRest o (execs (rec cl C n) b (slots1 (wipeL s dead) i o) (heap1 o)) = true) : (rec cl C (n + 1)).s (.rest i dead b) s h = .ok (.rt (.bl true)) h := by
  show (match canonO h (getV (wipeL s dead) i) with
    | some o => (match execs (rec cl C n) b (slots1 (wipeL s dead) i o) (heap1 o) with
      | .ok (.rt v) h2 => (match pureV v && sameO o h2 with
        | true => RS.ok (.rt v) h
        | false => .bad)
      | _ => .bad)
    | none => .bad) = _
  rw [hc]
  dsimp only
  unfold isRest at hr
  split at hr
  · rename_i h2 q
    rw [q]
    dsimp only
    rw [hr]
    rfl
  · cases hr
/-! ### a run in parts -/
def sameSt : LSt → LSt → Bool
  | [], [] => true
  | none :: s, none :: t => sameSt s t
  | some v :: s, some u :: t => (match sameV v u with
    | true => sameSt s t
    | false => false)
  | _, _ => false
theorem sameSt_ok : ∀ {s t : LSt}, sameSt s t = true → s = t
  | [], [], _ => rfl
  | none :: s, none :: t, h => by rw [sameSt_ok (show sameSt s t = true from h)]
  | some v :: s, some u :: t, h => by
    unfold sameSt at h
    cases q : sameV v u with
    | false => rw [q] at h; cases h
    | true => rw [q] at h; rw [sameV_ok q, sameSt_ok h]
  | [], _ :: _, h => by cases h
  | _ :: _, [], h => by simp [sameSt] at h
  | none :: _, some _ :: _, h => by simp [sameSt] at h
  | some _ :: _, none :: _, h => by simp [sameSt] at h
/-- the first part ends well: nothing of the heap goes along, the slots are as told, what went along is as it was -/
def ready (o : Option LObj) (i : Nat) (dead : List Nat) (t : LSt) (r : RS) : Bool := match r with
  | .ok (.nx s) h => (match canonO h (getV (wipeL s dead) i) with
    | some none => sameSt (dropS (wipeL s dead)) t && sameO o h
    | _ => false)
  | _ => false
theorem execs_app {rc : Rec} : ∀ (a b : List S) (s : LSt) (h : LHeap), execs rc (a ++ b) s h = (execs rc a s h).next (execs rc b)
  | [], b, s, h => rfl
  | x :: a, b, s, h => by
    show (rc.s x s h).next (execs rc (a ++ b)) = ((rc.s x s h).next (execs rc a)).next (execs rc b)
    cases rc.s x s h with
    | ok f h1 =>
      cases f with
      | nx s1 => exact execs_app a b s1 h1
      | _ => rfl
    | exc _ _ _ _ => rfl
    | bad => rfl
theorem parts {o : Option LObj} {i : Nat} {dead : List Nat} {a b : List S} {t : LSt} (ha : ready o i dead t (execs (rec cl C (n + 1)) a s h) = true) (hb : isRest none (execs (rec cl C n) b t heapE) = true) : isRest o (execs (rec cl C (n + 1)) (a ++ [.rest i dead b]) s h) = true := by
  unfold ready at ha
  split at ha
  · rename_i s1 h1 q
    split at ha
    · rename_i qc
      rw [Bool.and_eq_true] at ha
      rw [execs_app, q, next_nx, execs_cons, s_rest (o := none) qc (by
        show isRest none (execs (rec cl C n) b (dropS (wipeL s1 dead)) heapE) = true
        rw [sameSt_ok ha.1]
        exact hb), next_rt]
      exact ha.2
    · cases ha
  · cases ha
theorem loopSt_keep {f : Val → LSt → LHeap → RS} (P : LSt → Prop) (I : LHeap → Prop) (step : ∀ x s h, P s → I h → ∃ s' h', f x s h = .ok (.nx s') h' ∧ P s' ∧ I h') : ∀ (xs : List Val) (s : LSt) (h : LHeap), P s → I h → ∃ s' h', loopSt f xs s h = .ok (.nx s') h' ∧ P s' ∧ I h'
  | [], s, h, p, i => ⟨s, h, rfl, p, i⟩
  | x :: xs, s, h, p, i => by
    obtain ⟨s1, h1, e, p1, i1⟩ := step x s h p i
    obtain ⟨s2, h2, e2, p2, i2⟩ := loopSt_keep P I step xs s1 h1 p1 i1
    refine ⟨s2, h2, ?_, p2, i2⟩
    unfold loopSt
    rw [e, turn_nx]
    exact e2
end
/-! ### the second kind of draws -/
namespace D2
/-- _law_of, fd the number of _law_draw -/
def fOf (fd : Nat) : Fn := ⟨2, 2, [(.ret (.sub (.var 1) (.call fd [(.var 0), (.bi .len [(.var 1)])])))]⟩
/-- what a call of _law_draw gives -/
def Draws (C : Nat → List Val → LHeap → Res Val) (fd l : Nat) : Prop := ∀ (h : LHeap) (lim : Int), Mst h l → 0 < lim → lim < 1073741824 → ∃ d h', C fd [.ref l, .int lim] h = .ok (.int d) h' ∧ 0 ≤ d ∧ d < lim ∧ Mst h' l ∧ Kp l h h'
theorem of_ok {cl : Cl} {C : Nat → List Val → LHeap → Res Val} {fd l a : Nat} {h : LHeap} {xs : List Val} (D : Draws C fd l) (m : Mst h l) (e : h.get a = some (.lst xs)) (h0 : 0 < xs.length) (h1 : xs.length < 1000) (ne : a ≠ l) :
    ∃ x h', runFn cl C (fOf fd) [.ref l, .ref a] h = .ok x h' ∧ x ∈ xs ∧ Mst h' l ∧ Kp l h h' := by
  obtain ⟨d, h', ed, d0, d1, m', k⟩ := D h xs.length m (by omega) (by omega)
  have e' : h'.get a = some (.lst xs) := by rw [k.o a (LHeap.get_lt e) ne]; exact e
  have hd : d.toNat < xs.length := by omega
  obtain ⟨x, ex, hx⟩ := nth_len hd
  obtain ⟨n, hn⟩ := fuel_eq
  refine ⟨x, h', ?_, hx, m', k⟩
  have key : execs (rec cl C fuel) (fOf fd).body [some (.ref l), some (.ref a)] h = .ok (.rt x) h' := by
    rw [hn]
    show execs (rec cl C (n + 200)) [(.ret (.sub (.var 1) (.call fd [(.var 0), (.bi .len [(.var 1)])])))] _ _ = _
    rw [execs_cons, s_ret, e_sub, e_var, show getV [some (Val.ref l), some (.ref a)] 1 = some (.ref a) from rfl, optR_some, bind_okE, e_call, evs_consE, e_var, show getV [some (Val.ref l), some (.ref a)] 0 = some (.ref l) from rfl, optR_some, bind_okE, evs_consE, e_bi, evs_consE, e_var,
      show getV [some (Val.ref l), some (.ref a)] 1 = some (.ref a) from rfl, optR_some, bind_okE, evs_nilE, bind_okE, bind_okE]
    have hlen : biCall .len [.ref a] h = .ok (.int xs.length) h := by
      unfold biCall
      dsimp only
      rw [e]
    rw [hlen, bind_okE, evs_nilE, bind_okE, bind_okE, bind_okE, ed, bind_okE, sub_lst e']
    have hix : ix xs.length d = some d.toNat := by
      unfold ix
      simp [d0, d1]
      try omega
    rw [hix]
    dsimp only
    rw [ex, optR_some, inS_okE, next_rt]
  show (match execs (rec cl C fuel) (fOf fd).body [some (.ref l), some (.ref a)] h with
    | .ok (.nx _) h1 => Res.ok Val.non h1
    | .ok (.rt v) h1 => .ok v h1
    | .ok _ _ => .bad
    | .exc c fs _ h1 => .exc c fs h1
    | .bad => .bad) = _
  rw [key]
end D2
end Ev

set_option Elab.async false
set_option linter.all false
set_option maxRecDepth 100000
/-! The evaluator again, for the kernel: each node of the program is looked at once, all by recursors whose cases are closed. -/
noncomputable section
namespace Ev
open PySem
abbrev Calls := Nat → List Val → LHeap → Res Val
/-! ### results -/
def bVV (r : Res Val) : (Val → LHeap → Res Val) → Res Val := Res.rec (motive := fun _ => (Val → LHeap → Res Val) → Res Val) (fun a h k => k a h) (fun c fs h _ => .exc c fs h) (fun _ => .bad) r
theorem bVV_eq (r : Res Val) (k : Val → LHeap → Res Val) : bVV r k = r.bind k := by cases r <;> rfl
def bLV (r : Res (List Val)) : (List Val → LHeap → Res Val) → Res Val := Res.rec (motive := fun _ => (List Val → LHeap → Res Val) → Res Val) (fun a h k => k a h) (fun c fs h _ => .exc c fs h) (fun _ => .bad) r
theorem bLV_eq (r : Res (List Val)) (k : List Val → LHeap → Res Val) : bLV r k = r.bind k := by cases r <;> rfl
def bVL (r : Res Val) : (Val → LHeap → Res (List Val)) → Res (List Val) := Res.rec (motive := fun _ => (Val → LHeap → Res (List Val)) → Res (List Val)) (fun a h k => k a h) (fun c fs h _ => .exc c fs h) (fun _ => .bad) r
theorem bVL_eq (r : Res Val) (k : Val → LHeap → Res (List Val)) : bVL r k = r.bind k := by cases r <;> rfl
def bLL (r : Res (List Val)) : (List Val → LHeap → Res (List Val)) → Res (List Val) := Res.rec (motive := fun _ => (List Val → LHeap → Res (List Val)) → Res (List Val)) (fun a h k => k a h) (fun c fs h _ => .exc c fs h) (fun _ => .bad) r
theorem bLL_eq (r : Res (List Val)) (k : List Val → LHeap → Res (List Val)) : bLL r k = r.bind k := by cases r <;> rfl
def bBV (r : Res Bool) : (Bool → LHeap → Res Val) → Res Val := Res.rec (motive := fun _ => (Bool → LHeap → Res Val) → Res Val) (fun a h k => k a h) (fun c fs h _ => .exc c fs h) (fun _ => .bad) r
theorem bBV_eq (r : Res Bool) (k : Bool → LHeap → Res Val) : bBV r k = r.bind k := by cases r <;> rfl
def bVB (r : Res Val) : (Val → LHeap → Res Bool) → Res Bool := Res.rec (motive := fun _ => (Val → LHeap → Res Bool) → Res Bool) (fun a h k => k a h) (fun c fs h _ => .exc c fs h) (fun _ => .bad) r
theorem bVB_eq (r : Res Val) (k : Val → LHeap → Res Bool) : bVB r k = r.bind k := by cases r <;> rfl
def bBB (r : Res Bool) : (Bool → LHeap → Res Bool) → Res Bool := Res.rec (motive := fun _ => (Bool → LHeap → Res Bool) → Res Bool) (fun a h k => k a h) (fun c fs h _ => .exc c fs h) (fun _ => .bad) r
theorem bBB_eq (r : Res Bool) (k : Bool → LHeap → Res Bool) : bBB r k = r.bind k := by cases r <;> rfl
def bVO (r : Res Val) : (Val → LHeap → Res (Option Val)) → Res (Option Val) := Res.rec (motive := fun _ => (Val → LHeap → Res (Option Val)) → Res (Option Val)) (fun a h k => k a h) (fun c fs h _ => .exc c fs h) (fun _ => .bad) r
theorem bVO_eq (r : Res Val) (k : Val → LHeap → Res (Option Val)) : bVO r k = r.bind k := by cases r <;> rfl
def bBO (r : Res Bool) : (Bool → LHeap → Res (Option Val)) → Res (Option Val) := Res.rec (motive := fun _ => (Bool → LHeap → Res (Option Val)) → Res (Option Val)) (fun a h k => k a h) (fun c fs h _ => .exc c fs h) (fun _ => .bad) r
theorem bBO_eq (r : Res Bool) (k : Bool → LHeap → Res (Option Val)) : bBO r k = r.bind k := by cases r <;> rfl
def bOL (r : Res (Option Val)) : (Option Val → LHeap → Res (List Val)) → Res (List Val) := Res.rec (motive := fun _ => (Option Val → LHeap → Res (List Val)) → Res (List Val)) (fun a h k => k a h) (fun c fs h _ => .exc c fs h) (fun _ => .bad) r
theorem bOL_eq (r : Res (Option Val)) (k : Option Val → LHeap → Res (List Val)) : bOL r k = r.bind k := by cases r <;> rfl
def iV (r : Res Val) : LSt → (Val → LHeap → RS) → RS := Res.rec (motive := fun _ => LSt → (Val → LHeap → RS) → RS) (fun a h _ k => k a h) (fun c fs h s _ => .exc c fs s h) (fun _ _ => .bad) r
theorem iV_eq (r : Res Val) (s : LSt) (k : Val → LHeap → RS) : iV r s k = r.inS s k := by cases r <;> rfl
def iB (r : Res Bool) : LSt → (Bool → LHeap → RS) → RS := Res.rec (motive := fun _ => LSt → (Bool → LHeap → RS) → RS) (fun a h _ k => k a h) (fun c fs h s _ => .exc c fs s h) (fun _ _ => .bad) r
theorem iB_eq (r : Res Bool) (s : LSt) (k : Bool → LHeap → RS) : iB r s k = r.inS s k := by cases r <;> rfl
def optV (o : Option Val) : LHeap → Res Val := Option.rec (motive := fun _ => LHeap → Res Val) (fun _ => .bad) (fun v h => .ok v h) o
theorem optV_eq (o : Option Val) (h : LHeap) : optV o h = optR o h := by cases o <;> rfl
def optC (o : Option Bool) : LHeap → Res Val := Option.rec (motive := fun _ => LHeap → Res Val) (fun _ => .bad) (fun c h => .ok (.bl c) h) o
theorem optC_eq (o : Option Bool) (h : LHeap) : optC o h = (optR o h).bind fun c h3 => .ok (.bl c) h3 := by cases o <;> rfl
/-! ### slots -/
def getV2 (s : LSt) : Nat → Option Val := List.rec (motive := fun _ => Nat → Option Val) (fun _ => none) (fun x _ ih i => Nat.rec (motive := fun _ => Option Val) x (fun j _ => ih j) i) s
theorem getV2_eq : ∀ (s : LSt) (i : Nat), getV2 s i = getV s i
  | [], _ => rfl
  | x :: s, 0 => rfl
  | x :: s, i + 1 => getV2_eq s i
def setV2 (s : LSt) : Nat → Val → LSt := List.rec (motive := fun _ => Nat → Val → LSt) (fun _ _ => []) (fun x xs ih i v => Nat.rec (motive := fun _ => LSt) (some v :: xs) (fun j _ => x :: ih j v) i) s
theorem setV2_eq : ∀ (s : LSt) (i : Nat) (v : Val), setV2 s i v = setV s i v
  | [], _, _ => rfl
  | x :: s, 0, _ => rfl
  | x :: s, i + 1, v => by
    show x :: setV2 s i v = x :: setV s i v
    rw [setV2_eq s i v]
def unV2 (s : LSt) : Nat → LSt := List.rec (motive := fun _ => Nat → LSt) (fun _ => []) (fun x xs ih i => Nat.rec (motive := fun _ => LSt) (none :: xs) (fun j _ => x :: ih j) i) s
theorem unV2_eq : ∀ (s : LSt) (i : Nat), unV2 s i = unV s i
  | [], _ => rfl
  | x :: s, 0 => rfl
  | x :: s, i + 1 => by
    show x :: unV2 s i = x :: unV s i
    rw [unV2_eq s i]
def wipe2 (vs : List Nat) : LSt → LSt := List.rec (motive := fun _ => LSt → LSt) (fun s => s) (fun v _ ih s => unV2 (ih s) v) vs
theorem wipe2_eq (s : LSt) : ∀ vs : List Nat, wipe2 vs s = wipeL s vs
  | [] => rfl
  | v :: vs => by
    show unV2 (wipe2 vs s) v = unV (wipeL s vs) v
    rw [unV2_eq, wipe2_eq s vs]
def setAll2 (is : List Nat) : List Val → LSt → Option LSt := List.rec (motive := fun _ => List Val → LSt → Option LSt)
  (fun vs s => List.rec (motive := fun _ => Option LSt) (some s) (fun _ _ _ => none) vs)
  (fun i _ ih vs s => List.rec (motive := fun _ => Option LSt) none (fun v vs _ => ih vs (setV2 s i v)) vs) is
theorem setAll2_eq : ∀ (is : List Nat) (vs : List Val) (s : LSt), setAll2 is vs s = setAll is vs s
  | [], [], _ => rfl
  | [], _ :: _, _ => rfl
  | _ :: _, [], _ => rfl
  | i :: is, v :: vs, s => by
    show setAll2 is vs (setV2 s i v) = setAll is vs (setV s i v)
    rw [setV2_eq, setAll2_eq]
def tupOf (v : Val) : Option (List Val) := Val.rec (motive_1 := fun _ => Option (List Val)) (motive_2 := fun _ => Unit) none (fun _ => none) (fun _ => none) (fun _ => none) (fun xs _ => some xs) (fun _ => none) (fun _ => none) () (fun _ _ _ _ => ()) v
def put2 (t : Tg) : Val → LSt → Option LSt := Tg.rec (motive := fun _ => Val → LSt → Option LSt) (fun i v s => some (setV2 s i v)) (fun is v s => Option.rec (motive := fun _ => Option LSt) none (fun vs => setAll2 is vs s) (tupOf v)) t
theorem put2_eq (t : Tg) (v : Val) (s : LSt) : put2 t v s = t.put v s := by
  cases t with
  | name i => show some (setV2 s i v) = some (setV s i v); rw [setV2_eq]
  | tup is =>
    cases v with
    | tup vs => exact setAll2_eq is vs s
    | _ => rfl
/-! ### the heap -/
def trGet (t : Tr) : Nat → Option LObj := Tr.rec (motive := fun _ => Nat → Option LObj) (fun _ => none) (fun v _ _ il ir a => Nat.rec (motive := fun _ => Option LObj) v (fun b _ => Bool.rec (motive := fun _ => Option LObj) (ir (Nat.div b 2)) (il (Nat.div b 2)) (Nat.beq (Nat.mod b 2) 0)) a) t
theorem trGet_eq : ∀ (t : Tr) (a : Nat), trGet t a = t.get a
  | .nil, _ => by unfold Tr.get; rfl
  | .node v l r, 0 => rfl
  | .node v l r, a + 1 => by
    show Bool.rec (motive := fun _ => Option LObj) (trGet r (a / 2)) (trGet l (a / 2)) (Nat.beq (a % 2) 0) = _
    rw [trGet_eq l, trGet_eq r]
    show _ = (match Nat.beq (a % 2) 0 with
      | true => l.get (a / 2)
      | false => r.get (a / 2))
    cases Nat.beq (a % 2) 0 <;> rfl
def trSet (f : Nat) : Tr → Nat → LObj → Tr := Nat.rec (motive := fun _ => Tr → Nat → LObj → Tr) (fun t _ _ => t) (fun _ ih t a o =>
  Tr.rec (motive := fun _ => Tr)
    (Nat.rec (motive := fun _ => Tr) (.node (some o) .nil .nil) (fun b _ => Bool.rec (motive := fun _ => Tr) (.node none .nil (ih .nil (Nat.div b 2) o)) (.node none (ih .nil (Nat.div b 2) o) .nil) (Nat.beq (Nat.mod b 2) 0)) a)
    (fun v l r _ _ => Nat.rec (motive := fun _ => Tr) (.node (some o) l r) (fun b _ => Bool.rec (motive := fun _ => Tr) (.node v l (ih r (Nat.div b 2) o)) (.node v (ih l (Nat.div b 2) o) r) (Nat.beq (Nat.mod b 2) 0)) a) t) f
theorem trSet_eq : ∀ (f : Nat) (t : Tr) (a : Nat) (o : LObj), trSet f t a o = Tr.set f t a o
  | 0, _, _, _ => rfl
  | f + 1, .nil, 0, o => rfl
  | f + 1, .nil, a + 1, o => by
    show Bool.rec (motive := fun _ => Tr) (Tr.node none .nil (trSet f .nil (a / 2) o)) (.node none (trSet f .nil (a / 2) o) .nil) (Nat.beq (a % 2) 0) = _
    rw [trSet_eq f]
    show _ = (match Nat.beq (a % 2) 0 with
        | true => Tr.node none (Tr.set f .nil (a / 2) o) .nil
        | false => .node none .nil (Tr.set f .nil (a / 2) o))
    cases Nat.beq (a % 2) 0 <;> rfl
  | f + 1, .node v l r, 0, o => rfl
  | f + 1, .node v l r, a + 1, o => by
    show Bool.rec (motive := fun _ => Tr) (Tr.node v l (trSet f r (a / 2) o)) (.node v (trSet f l (a / 2) o) r) (Nat.beq (a % 2) 0) = _
    rw [trSet_eq f, trSet_eq f]
    show _ = (match Nat.beq (a % 2) 0 with
        | true => Tr.node v (Tr.set f l (a / 2) o) r
        | false => .node v l (Tr.set f r (a / 2) o))
    cases Nat.beq (a % 2) 0 <;> rfl
def hGet (h : LHeap) (a : Nat) : Option LObj := Bool.rec (motive := fun _ => Option LObj) none (trGet h.t a) (Nat.blt a h.n)
theorem hGet_eq (h : LHeap) (a : Nat) : hGet h a = h.get a := by
  unfold hGet LHeap.get
  rw [trGet_eq]
  cases Nat.blt a h.n <;> rfl
def hPut (h : LHeap) (a : Nat) (o : LObj) : LHeap := ⟨h.n, trSet (Nat.add a 2) h.t a o⟩
theorem hPut_eq (h : LHeap) (a : Nat) (o : LObj) : hPut h a o = h.put a o := by
  unfold hPut LHeap.put
  rw [trSet_eq]
def hPush (h : LHeap) (o : LObj) : LHeap := ⟨Nat.add h.n 1, trSet (Nat.add h.n 2) h.t h.n o⟩
theorem hPush_eq (h : LHeap) (o : LObj) : hPush h o = h.push o := by
  obtain ⟨n, t⟩ := h
  show (⟨n + 1, trSet (n + 2) t n o⟩ : LHeap) = ⟨n + 1, Tr.set (n + 2) t n o⟩
  rw [trSet_eq]
def alloc2 (o : LObj) (h : LHeap) : Res Val := .ok (.ref h.n) (hPush h o)
theorem alloc2_eq (o : LObj) (h : LHeap) : alloc2 o h = alloc o h := by unfold alloc2 alloc; rw [hPush_eq]

/-! ### values -/
def vRec {M : Type} (n : M) (b : Bool → M) (i : Int → M) (s : Str → M) (t : List Val → M) (r : Nat → M) (f : Nat → M) (v : Val) : M :=
  Val.rec (motive_1 := fun _ => M) (motive_2 := fun _ => Unit) n b i s (fun xs _ => t xs) r f () (fun _ _ _ _ => ()) v
def nth2 (xs : List Val) : Nat → Option Val := List.rec (motive := fun _ => Nat → Option Val) (fun _ => none) (fun x _ ih i => Nat.rec (motive := fun _ => Option Val) (some x) (fun j _ => ih j) i) xs
theorem nth2_eq : ∀ (xs : List Val) (i : Nat), nth2 xs i = nth xs i
  | [], _ => rfl
  | x :: xs, 0 => rfl
  | x :: xs, i + 1 => nth2_eq xs i
def len2 {A : Type} (xs : List A) : Nat := List.rec (motive := fun _ => Nat) 0 (fun _ _ ih => Nat.succ ih) xs
theorem len2_eq {A : Type} : ∀ xs : List A, len2 xs = xs.length
  | [] => rfl
  | x :: xs => congrArg Nat.succ (len2_eq xs)
def idxL (xs : List Val) (k : Int) : Option Val := Int.rec (motive := fun _ => Option Val) (fun m => nth2 xs m) (fun m => Bool.rec (motive := fun _ => Option Val) none (nth2 xs (Nat.sub (len2 xs) (Nat.succ m))) (Nat.ble (Nat.succ m) (len2 xs))) k
theorem nth_geF {A : Type} : ∀ {xs : List A} {i : Nat}, xs.length ≤ i → nth xs i = none
  | [], _, _ => rfl
  | x :: xs, 0, h => by simp at h
  | x :: xs, i + 1, h => nth_geF (xs := xs) (i := i) (by simpa using h)
theorem idxL_eq (xs : List Val) (k : Int) : idxL xs k = (match ix xs.length k with
    | some j => nth xs j
    | none => none) := by
  cases k with
  | ofNat m =>
    show nth2 xs m = _
    unfold ix
    rw [nth2_eq, show decide (0 ≤ Int.ofNat m) = true from decide_eq_true (Int.natCast_nonneg m)]
    dsimp only
    by_cases h : m < xs.length
    · rw [show decide (Int.ofNat m < (xs.length : Int)) = true from decide_eq_true (Int.ofNat_lt.mpr h)]
      rfl
    · rw [show decide (Int.ofNat m < (xs.length : Int)) = false from decide_eq_false (fun q => h (Int.ofNat_lt.mp q))]
      exact nth_geF (Nat.le_of_not_lt h)
  | negSucc m =>
    show Bool.rec (motive := fun _ => Option Val) none (nth2 xs (len2 xs - (m + 1))) (Nat.ble (m + 1) (len2 xs)) = _
    unfold ix
    rw [nth2_eq, len2_eq, show decide (0 ≤ Int.negSucc m) = false from decide_eq_false (by omega)]
    dsimp only
    by_cases h : m + 1 ≤ xs.length
    · rw [show Nat.ble (m + 1) xs.length = true from Nat.ble_eq_true_of_le h, show decide (-(xs.length : Int) ≤ Int.negSucc m) = true from decide_eq_true (by omega)]
      dsimp only
      rw [show (Int.negSucc m + (xs.length : Int)).toNat = xs.length - (m + 1) by omega]
    · rw [show Nat.ble (m + 1) xs.length = false from by
        cases q : Nat.ble (m + 1) xs.length with
        | false => rfl
        | true => exact absurd (Nat.le_of_ble_eq_true q) h, show decide (-(xs.length : Int) ≤ Int.negSucc m) = false from decide_eq_false (by omega)]
def subL (xs : List Val) (i : Val) : Option Val := vRec none (fun _ => none) (fun k => idxL xs k) (fun _ => none) (fun _ => none) (fun _ => none) (fun _ => none) i
def oRec {M : Type} (n : M) (l : List Val → M) (f : List Val → M) (k : List (Key × Val) → M) (t : List (List Key × Val) → M) (i : Nat → List (Str × Val) → M) (e : Nat → List (Str × Val) → M) (o : Option LObj) : M :=
  Option.rec (motive := fun _ => M) n (fun o => LObj.rec (motive := fun _ => M) l f k t i e o) o
def keyO (v : Val) : Option Key := vRec none (fun _ => none) (fun i => some (.inl i)) (fun s => some (.inr s)) (fun _ => none) (fun _ => none) (fun _ => none) v
theorem keyO_eq (v : Val) : keyO v = keyOf v := by cases v <;> rfl
def keysO (xs : List Val) : Option (List Key) := List.rec (motive := fun _ => Option (List Key)) (some []) (fun x _ ih => Option.rec (motive := fun _ => Option (List Key)) none (fun k => Option.rec (motive := fun _ => Option (List Key)) none (fun ks => some (k :: ks)) ih) (keyO x)) xs
theorem keysO_eq : ∀ xs : List Val, keysO xs = keysOf xs
  | [] => rfl
  | x :: xs => by
    show Option.rec (motive := fun _ => Option (List Key)) none (fun k => Option.rec (motive := fun _ => Option (List Key)) none (fun ks => some (k :: ks)) (keysO xs)) (keyO x) = mapOpt keyOf (x :: xs)
    rw [keyO_eq, keysO_eq xs]
    unfold keysOf
    rw [mapOpt]
    cases keyOf x with
    | none => rfl
    | some k => cases mapOpt keyOf xs <;> rfl
def joinO (o : Option (Option Val)) : Option Val := Option.rec (motive := fun _ => Option Val) none (fun o => o) o
def dgK (kvs : List (Key × Val)) (y : Val) : Option (Option Val) := Option.rec (motive := fun _ => Option (Option Val)) none (fun k => some (lookK k kvs)) (keyO y)
def dgT (kvs : List (List Key × Val)) (y : Val) : Option (Option Val) := Option.rec (motive := fun _ => Option (Option Val)) none (fun ys => Option.rec (motive := fun _ => Option (Option Val)) none (fun k => some (lookT k kvs)) (keysO ys)) (tupOf y)
theorem dgK_eq {h : LHeap} {l : Nat} {kvs : List (Key × Val)} {y : Val} (e : h.get l = some (.dK kvs)) : dget h (.ref l) y = dgK kvs y := by
  unfold dget dgK
  dsimp only
  rw [e, keyO_eq]
  dsimp only
  cases keyOf y <;> rfl
theorem dgT_eq {h : LHeap} {l : Nat} {kvs : List (List Key × Val)} {y : Val} (e : h.get l = some (.dT kvs)) : dget h (.ref l) y = dgT kvs y := by
  unfold dget dgT
  dsimp only
  rw [e]
  dsimp only
  cases y with
  | tup ys =>
    show _ = Option.rec (motive := fun _ => Option (Option Val)) none (fun k => some (lookT k kvs)) (keysO ys)
    rw [keysO_eq]
    dsimp only
    cases keysOf ys <;> rfl
  | _ => rfl
def sub2 (a i : Val) (h : LHeap) : Option Val := vRec (M := Val → LHeap → Option Val) (fun i h => subVal h .non i) (fun b i h => subVal h (.bl b) i) (fun b i h => subVal h (.int b) i) (fun b i h => subVal h (.str b) i) (fun xs i _ => subL xs i)
  (fun l i h => oRec (M := Val → Option Val) (fun _ => none) (fun xs i => subL xs i) (fun xs i => subL xs i) (fun kvs i => joinO (dgK kvs i)) (fun kvs i => joinO (dgT kvs i)) (fun _ _ _ => none) (fun _ _ _ => none) (hGet h l) i) (fun b i h => subVal h (.fn b) i) a i h
theorem subL_of {h : LHeap} {a : Val} {xs : List Val} (i : Val) (hd : isDict h a = false) (hi : items h a = some xs) (hs : ∀ s, a ≠ .str s) : subVal h a i = subL xs i := by
  unfold subVal
  rw [hd]
  dsimp only
  cases i with
  | int k =>
    dsimp only
    cases a with
    | str s => exact absurd rfl (hs s)
    | _ =>
      dsimp only
      rw [hi]
      dsimp only
      exact (idxL_eq xs k).symm
  | _ => rfl
theorem sub2_eq (a i : Val) (h : LHeap) : sub2 a i h = subVal h a i := by
  cases a with
  | tup xs => exact (subL_of i rfl rfl (fun s => by simp)).symm
  | ref l =>
    show oRec (M := Val → Option Val) (fun _ => none) (fun xs i => subL xs i) (fun xs i => subL xs i) (fun kvs i => joinO (dgK kvs i)) (fun kvs i => joinO (dgT kvs i)) (fun _ _ _ => none) (fun _ _ _ => none) (hGet h l) i = _
    rw [hGet_eq]
    cases e : h.get l with
    | none =>
      unfold subVal isDict items
      dsimp only
      rw [e]
      dsimp only
      cases i <;> rfl
    | some o =>
      cases o with
      | lst xs => exact (subL_of i (by unfold isDict; dsimp only; rw [e]) (by unfold items; dsimp only; rw [e]) (fun s => by simp)).symm
      | frz xs => exact (subL_of i (by unfold isDict; dsimp only; rw [e]) (by unfold items; dsimp only; rw [e]) (fun s => by simp)).symm
      | dK kvs =>
        unfold subVal
        rw [show isDict h (.ref l) = true by unfold isDict; dsimp only; rw [e]]
        dsimp only
        rw [dgK_eq e]
        show joinO (dgK kvs i) = _
        cases dgK kvs i with
        | none => rfl
        | some x => cases x <;> rfl
      | dT kvs =>
        unfold subVal
        rw [show isDict h (.ref l) = true by unfold isDict; dsimp only; rw [e]]
        dsimp only
        rw [dgT_eq e]
        show joinO (dgT kvs i) = _
        cases dgT kvs i with
        | none => rfl
        | some x => cases x <;> rfl
      | ins c fs =>
        unfold subVal isDict items
        dsimp only
        rw [e]
        dsimp only
        cases i <;> rfl
      | exc c fs =>
        unfold subVal isDict items
        dsimp only
        rw [e]
        dsimp only
        cases i <;> rfl
  | _ => rfl

/-! ### comparing -/
def eq2 (a b : Val) (h : LHeap) : Option Bool := vRec (M := Val → LHeap → Option Bool)
  (fun b h => vRec (M := LHeap → Option Bool) (fun _ => some true) (fun _ _ => some false) (fun _ _ => some false) (fun _ _ => some false) (fun ys h => eqD h .non (.tup ys)) (fun l h => eqD h .non (.ref l)) (fun l h => eqD h .non (.fn l)) b h)
  (fun x b h => vRec (M := Bool → LHeap → Option Bool) (fun _ _ => some false) (fun y x _ => some (decide (x = y))) (fun j x h => eqD h (.bl x) (.int j)) (fun _ _ _ => some false) (fun ys x h => eqD h (.bl x) (.tup ys)) (fun l x h => eqD h (.bl x) (.ref l)) (fun l x h => eqD h (.bl x) (.fn l)) b x h)
  (fun i b h => vRec (M := Int → LHeap → Option Bool) (fun _ _ => some false) (fun y i h => eqD h (.int i) (.bl y)) (fun j i _ => some (decide (i = j))) (fun _ _ _ => some false) (fun ys x h => eqD h (.int x) (.tup ys)) (fun l x h => eqD h (.int x) (.ref l)) (fun l x h => eqD h (.int x) (.fn l)) b i h)
  (fun x b h => vRec (M := Str → LHeap → Option Bool) (fun _ _ => some false) (fun _ _ _ => some false) (fun _ _ _ => some false) (fun y x _ => some (strEq x y)) (fun ys x h => eqD h (.str x) (.tup ys)) (fun l x h => eqD h (.str x) (.ref l)) (fun l x h => eqD h (.str x) (.fn l)) b x h)
  (fun xs b h => eqD h (.tup xs) b) (fun l b h => eqD h (.ref l) b) (fun l b h => eqD h (.fn l) b) a b h
theorem eq2_eq (a b : Val) (h : LHeap) : eq2 a b h = eqVal h a b := by cases a <;> cases b <;> rfl
def isS (o : Option (Option Val)) : Option Bool := Option.rec (motive := fun _ => Option Bool) none (fun o => Option.rec (motive := fun _ => Option Bool) (some false) (fun _ => some true) o) o
def flat2 (v : Val) : Bool := vRec true (fun _ => true) (fun _ => true) (fun _ => true) (fun _ => false) (fun _ => false) (fun _ => false) v
theorem flat2_eq (v : Val) : flat2 v = flat v := by cases v <;> rfl
def allFlat2 (xs : List Val) : Bool := List.rec (motive := fun _ => Bool) true (fun x _ ih => Bool.rec (motive := fun _ => Bool) false ih (flat2 x)) xs
theorem allFlat2_eq : ∀ xs : List Val, allFlat2 xs = allFlat xs
  | [] => rfl
  | x :: xs => by
    show Bool.rec (motive := fun _ => Bool) false (allFlat2 xs) (flat2 x) = _
    rw [allFlat, flat2_eq, allFlat2_eq xs]
    cases flat x <;> rfl
def eqFlat2 (a b : Val) : Bool := vRec (M := Val → Bool) (fun b => eqFlat .non b) (fun x b => eqFlat (.bl x) b)
  (fun i b => vRec (M := Int → Bool) (fun _ => false) (fun y i => eqFlat (.int i) (.bl y)) (fun j i => i == j) (fun _ _ => false) (fun _ _ => false) (fun _ _ => false) (fun _ _ => false) b i)
  (fun x b => vRec (M := Str → Bool) (fun _ => false) (fun _ _ => false) (fun _ _ => false) (fun y x => strEq x y) (fun _ _ => false) (fun _ _ => false) (fun _ _ => false) b x) (fun xs b => eqFlat (.tup xs) b) (fun l b => eqFlat (.ref l) b) (fun l b => eqFlat (.fn l) b) a b
theorem eqFlat2_eq (a b : Val) : eqFlat2 a b = eqFlat a b := by cases a <;> cases b <;> rfl
def anyEq2 (ys : List Val) : Val → Bool := List.rec (motive := fun _ => Val → Bool) (fun _ => false) (fun y _ ih x => Bool.rec (motive := fun _ => Bool) (ih x) true (eqFlat2 y x)) ys
theorem anyEq2_eq (x : Val) : ∀ ys : List Val, anyEq2 ys x = anyEq x ys
  | [] => rfl
  | y :: ys => by
    show Bool.rec (motive := fun _ => Bool) (anyEq2 ys x) true (eqFlat2 y x) = _
    rw [anyEq, eqFlat2_eq, anyEq2_eq x ys]
    cases eqFlat y x <;> rfl
def inL (ys : List Val) (x : Val) (h : LHeap) : Option Bool := Bool.rec (motive := fun _ => Option Bool) (inDeep h x ys) (some (anyEq2 ys x)) (Bool.rec (motive := fun _ => Bool) false (allFlat2 ys) (flat2 x))
theorem inL_eq (ys : List Val) (x : Val) (h : LHeap) : inL ys x h = (match flat x && allFlat ys with
        | true => some (anyEq x ys)
        | false => inDeep h x ys) := by
  unfold inL
  rw [allFlat2_eq, flat2_eq, anyEq2_eq]
  cases flat x <;> cases allFlat ys <;> rfl
def in2 (x y : Val) (h : LHeap) : Option Bool := vRec (M := Val → LHeap → Option Bool) (fun x h => inVal h x .non) (fun b x h => inVal h x (.bl b)) (fun b x h => inVal h x (.int b)) (fun b x h => inVal h x (.str b)) (fun ys x h => inL ys x h)
  (fun l x h => oRec (M := Val → LHeap → Option Bool) (fun _ _ => none) (fun xs x h => inL xs x h) (fun xs x h => inL xs x h) (fun kvs x _ => isS (dgK kvs x)) (fun kvs x _ => isS (dgT kvs x)) (fun _ _ _ _ => none) (fun _ _ _ _ => none) (hGet h l) x h) (fun b x h => inVal h x (.fn b)) y x h
theorem in2_eq (x y : Val) (h : LHeap) : in2 x y h = inVal h x y := by
  cases y with
  | tup ys => exact inL_eq ys x h
  | ref l =>
    show oRec (M := Val → LHeap → Option Bool) (fun _ _ => none) (fun xs x h => inL xs x h) (fun xs x h => inL xs x h) (fun kvs x _ => isS (dgK kvs x)) (fun kvs x _ => isS (dgT kvs x)) (fun _ _ _ _ => none) (fun _ _ _ _ => none) (hGet h l) x h = _
    rw [hGet_eq]
    unfold inVal
    dsimp only
    cases e : h.get l with
    | none =>
      rw [show isDict h (.ref l) = false by unfold isDict; dsimp only; rw [e]]
      dsimp only
      rw [show items h (.ref l) = none by unfold items; dsimp only; rw [e]]
      rfl
    | some o =>
      cases o with
      | lst xs =>
        rw [show isDict h (.ref l) = false by unfold isDict; dsimp only; rw [e]]
        dsimp only
        rw [show items h (.ref l) = some xs by unfold items; dsimp only; rw [e]]
        exact inL_eq xs x h
      | frz xs =>
        rw [show isDict h (.ref l) = false by unfold isDict; dsimp only; rw [e]]
        dsimp only
        rw [show items h (.ref l) = some xs by unfold items; dsimp only; rw [e]]
        exact inL_eq xs x h
      | dK kvs =>
        rw [show isDict h (.ref l) = true by unfold isDict; dsimp only; rw [e]]
        dsimp only
        rw [dgK_eq e]
        show isS (dgK kvs x) = _
        cases dgK kvs x with
        | none => rfl
        | some x => cases x <;> rfl
      | dT kvs =>
        rw [show isDict h (.ref l) = true by unfold isDict; dsimp only; rw [e]]
        dsimp only
        rw [dgT_eq e]
        show isS (dgT kvs x) = _
        cases dgT kvs x with
        | none => rfl
        | some x => cases x <;> rfl
      | ins c fs =>
        rw [show isDict h (.ref l) = false by unfold isDict; dsimp only; rw [e]]
        dsimp only
        rw [show items h (.ref l) = none by unfold items; dsimp only; rw [e]]
        rfl
      | exc c fs =>
        rw [show isDict h (.ref l) = false by unfold isDict; dsimp only; rw [e]]
        dsimp only
        rw [show items h (.ref l) = none by unfold items; dsimp only; rw [e]]
        rfl
  | _ => rfl
def not2 (o : Option Bool) : Option Bool := Option.rec (motive := fun _ => Option Bool) none (fun b => some (Bool.rec (motive := fun _ => Bool) true false b)) o
theorem not2_eq (o : Option Bool) : not2 o = optNot o := by
  cases o with
  | none => rfl
  | some b => cases b <;> rfl
structure Bc where
  f : Val → Val → LHeap → Option Bool
def bc (o : COp) : Bc := match o with
  | .eq => ⟨eq2⟩
  | .ne => ⟨fun x y h => not2 (eq2 x y h)⟩
  | .inn => ⟨in2⟩
  | .nin => ⟨fun x y h => not2 (in2 x y h)⟩
  | .lt => ⟨cmpOp .lt⟩
  | .le => ⟨cmpOp .le⟩
  | .gt => ⟨cmpOp .gt⟩
  | .ge => ⟨cmpOp .ge⟩
  | .isb => ⟨cmpOp .isb⟩
  | .nsb => ⟨cmpOp .nsb⟩
theorem bc_eq (o : COp) (x y : Val) (h : LHeap) : (bc o).f x y h = cmpOp o x y h := by
  cases o with
  | eq => exact eq2_eq x y h
  | ne => show not2 (eq2 x y h) = optNot (eqVal h x y); rw [eq2_eq, not2_eq]
  | inn => exact in2_eq x y h
  | nin => show not2 (in2 x y h) = optNot (inVal h x y); rw [in2_eq, not2_eq]
  | _ => rfl
end Ev

set_option Elab.async false
set_option linter.all false
set_option maxRecDepth 100000
/-! The evaluator again, for the kernel: walks and steps. -/
noncomputable section
namespace Ev
open PySem
def evs2 (es : List E) : Rec → LSt → LHeap → Res (List Val) := List.rec (motive := fun _ => Rec → LSt → LHeap → Res (List Val)) (fun _ _ h => .ok [] h) (fun e _ ih rc s h => bVL (rc.e e s h) fun v h1 => bLL (ih rc s h1) fun vs h2 => .ok (v :: vs) h2) es
theorem evs2_eq (rc : Rec) : ∀ (es : List E) (s : LSt) (h : LHeap), evs2 es rc s h = evs rc es s h
  | [], s, h => rfl
  | e :: es, s, h => by
    show bVL (rc.e e s h) (fun v h1 => bLL (evs2 es rc s h1) fun vs h2 => .ok (v :: vs) h2) = (rc.e e s h).bind fun v h1 => (evs rc es s h1).bind fun vs h2 => .ok (v :: vs) h2
    rw [bVL_eq]
    congr 1
    funext v h1
    rw [bLL_eq, evs2_eq rc es]
def src2 (v : Val) (h : LHeap) : Option Src := vRec (M := LHeap → Option Src) (fun h => srcOf h .non) (fun b h => srcOf h (.bl b)) (fun b h => srcOf h (.int b)) (fun b h => srcOf h (.str b)) (fun xs _ => some (.st xs))
  (fun l h => oRec (M := Option Src) none (fun _ => some (.dyn l)) (fun _ => some (.dyn l)) (fun _ => none) (fun _ => none) (fun _ _ => none) (fun _ _ => none) (hGet h l)) (fun b h => srcOf h (.fn b)) v h
theorem src2_eq (v : Val) (h : LHeap) : src2 v h = srcOf h v := by
  cases v with
  | ref l =>
    show oRec (M := Option Src) none (fun _ => some (.dyn l)) (fun _ => some (.dyn l)) (fun _ => none) (fun _ => none) (fun _ _ => none) (fun _ _ => none) (hGet h l) = _
    rw [hGet_eq]
    unfold srcOf
    dsimp only
    cases h.get l with
    | none => rfl
    | some o => cases o <;> rfl
  | _ => rfl
def optS (o : Option Src) : LHeap → Res Src := Option.rec (motive := fun _ => LHeap → Res Src) (fun _ => .bad) (fun v h => .ok v h) o
theorem optS_eq (o : Option Src) (h : LHeap) : optS o h = optR o h := by cases o <;> rfl
def bVS (r : Res Val) : (Val → LHeap → Res Src) → Res Src := Res.rec (motive := fun _ => (Val → LHeap → Res Src) → Res Src) (fun a h k => k a h) (fun c fs h _ => .exc c fs h) (fun _ => .bad) r
theorem bVS_eq (r : Res Val) (k : Val → LHeap → Res Src) : bVS r k = r.bind k := by cases r <;> rfl
def bSL (r : Res Src) : (Src → LHeap → Res (List Val)) → Res (List Val) := Res.rec (motive := fun _ => (Src → LHeap → Res (List Val)) → Res (List Val)) (fun a h k => k a h) (fun c fs h _ => .exc c fs h) (fun _ => .bad) r
theorem bSL_eq (r : Res Src) (k : Src → LHeap → Res (List Val)) : bSL r k = r.bind k := by cases r <;> rfl
def iS (r : Res Src) : LSt → (Src → LHeap → RS) → RS := Res.rec (motive := fun _ => LSt → (Src → LHeap → RS) → RS) (fun a h _ k => k a h) (fun c fs h s _ => .exc c fs s h) (fun _ _ => .bad) r
theorem iS_eq (r : Res Src) (s : LSt) (k : Src → LHeap → RS) : iS r s k = r.inS s k := by cases r <;> rfl
structure Bi2 where
  f : Rec → LSt → LHeap → Res Src
def bit (it : It) : Bi2 := match it with
  | .val e => ⟨fun rc s h => bVS (rc.e e s h) fun v h1 => optS (src2 v h1) h1⟩
  | .rng1 a => ⟨fun rc s h => evIt rc (.rng1 a) s h⟩
  | .rng2 a b => ⟨fun rc s h => evIt rc (.rng2 a b) s h⟩
  | .enum a => ⟨fun rc s h => evIt rc (.enum a) s h⟩
  | .zip a b => ⟨fun rc s h => evIt rc (.zip a b) s h⟩
theorem bit_eq (it : It) (rc : Rec) (s : LSt) (h : LHeap) : (bit it).f rc s h = evIt rc it s h := by
  cases it with
  | val e =>
    show bVS (rc.e e s h) (fun v h1 => optS (src2 v h1) h1) = (rc.e e s h).bind fun v h1 => optR (srcOf h1 v) h1
    rw [bVS_eq]
    congr 1
    funext v h1
    rw [optS_eq, src2_eq]
  | _ => rfl
def item2 (src : Src) (i : Nat) (h : LHeap) : Option (Option Val) := Src.rec (motive := fun _ => Nat → LHeap → Option (Option Val)) (fun xs i _ => some (nth2 xs i)) (fun l i h => oRec (M := Nat → Option (Option Val)) (fun _ => none) (fun xs i => some (nth2 xs i)) (fun xs i => some (nth2 xs i)) (fun _ _ => none) (fun _ _ => none) (fun _ _ _ => none) (fun _ _ _ => none) (hGet h l) i) (fun l i h => itemAt (.dynE l) i h) (fun l k i h => itemAt (.dynZ l k) i h) src i h
theorem item2_eq (src : Src) (i : Nat) (h : LHeap) : item2 src i h = itemAt src i h := by
  cases src with
  | st xs => show some (nth2 xs i) = _; rw [nth2_eq]; rfl
  | dyn l =>
    show oRec (M := Nat → Option (Option Val)) (fun _ => none) (fun xs i => some (nth2 xs i)) (fun xs i => some (nth2 xs i)) (fun _ _ => none) (fun _ _ => none) (fun _ _ _ => none) (fun _ _ _ => none) (hGet h l) i = _
    rw [hGet_eq]
    unfold itemAt itemsL
    dsimp only
    cases h.get l with
    | none => rfl
    | some o =>
      cases o with
      | lst xs => show some (nth2 xs i) = _; rw [nth2_eq]
      | frz xs => show some (nth2 xs i) = _; rw [nth2_eq]
      | _ => rfl
  | _ => rfl
def okO (y : Option Val) (ys : List Val) (h : LHeap) : Res (List Val) := Option.rec (motive := fun _ => Res (List Val)) (.ok ys h) (fun y => .ok (y :: ys) h) y
def compSt2 (xs : List Val) : (Val → LHeap → Res (Option Val)) → LHeap → Res (List Val) := List.rec (motive := fun _ => (Val → LHeap → Res (Option Val)) → LHeap → Res (List Val)) (fun _ h => .ok [] h) (fun x _ ih f h => bOL (f x h) fun o h1 => bLL (ih f h1) fun ys h2 => okO o ys h2) xs
theorem compSt2_eq (f : Val → LHeap → Res (Option Val)) : ∀ (xs : List Val) (h : LHeap), compSt2 xs f h = compSt f xs h
  | [], h => rfl
  | x :: xs, h => by
    show bOL (f x h) (fun o h1 => bLL (compSt2 xs f h1) fun ys h2 => okO o ys h2) = _
    rw [compSt, bOL_eq]
    congr 1
    funext o h1
    rw [bLL_eq, compSt2_eq f xs]
    congr 1
    funext ys h2
    cases o <;> rfl
def compDyn2 (n : Nat) : (Val → LHeap → Res (Option Val)) → Src → Nat → LHeap → Res (List Val) := Nat.rec (motive := fun _ => (Val → LHeap → Res (Option Val)) → Src → Nat → LHeap → Res (List Val)) (fun _ _ _ _ => .bad)
  (fun _ ih f src i h => Option.rec (motive := fun _ => Res (List Val)) .bad (fun o => Option.rec (motive := fun _ => Res (List Val)) (.ok [] h) (fun x => bOL (f x h) fun o h1 => bLL (ih f src (Nat.succ i) h1) fun ys h2 => okO o ys h2) o) (item2 src i h)) n
theorem compDyn2_eq (f : Val → LHeap → Res (Option Val)) (src : Src) : ∀ (n i : Nat) (h : LHeap), compDyn2 n f src i h = compDyn f src n i h
  | 0, i, h => rfl
  | n + 1, i, h => by
    show Option.rec (motive := fun _ => Res (List Val)) .bad (fun o => Option.rec (motive := fun _ => Res (List Val)) (.ok [] h) (fun x => bOL (f x h) fun o h1 => bLL (compDyn2 n f src (i + 1) h1) fun ys h2 => okO o ys h2) o) (item2 src i h) = _
    rw [compDyn, item2_eq]
    cases itemAt src i h with
    | none => rfl
    | some o =>
      cases o with
      | none => rfl
      | some x =>
        dsimp only
        rw [bOL_eq]
        congr 1
        funext o h1
        rw [bLL_eq, compDyn2_eq f src n]
        congr 1
        funext ys h2
        cases o <;> rfl
def compAll2 (src : Src) (f : Val → LHeap → Res (Option Val)) (h : LHeap) : Res (List Val) := Src.rec (motive := fun _ => (Val → LHeap → Res (Option Val)) → LHeap → Res (List Val)) (fun xs f h => compSt2 xs f h) (fun l f h => compDyn2 100000 f (.dyn l) 0 h) (fun l f h => compDyn2 100000 f (.dynE l) 0 h) (fun l k f h => compDyn2 100000 f (.dynZ l k) 0 h) src f h
theorem compAll2_eq (src : Src) (f : Val → LHeap → Res (Option Val)) (h : LHeap) : compAll2 src f h = compAll f src h := by
  cases src with
  | st xs => exact compSt2_eq f xs h
  | dyn l => show compDyn2 100000 f (.dyn l) 0 h = _; rw [compDyn2_eq]; rfl
  | dynE l => show compDyn2 100000 f (.dynE l) 0 h = _; rw [compDyn2_eq]; rfl
  | dynZ l k => show compDyn2 100000 f (.dynZ l k) 0 h = _; rw [compDyn2_eq]; rfl
def someO (r : Res Val) : Res (Option Val) := bVO r fun y h2 => .ok (some y) h2
def compOne2 (rc : Rec) (own : List Nat) (tg : Tg) (c : Option E) (elt : E) (s : LSt) (x : Val) (h : LHeap) : Res (Option Val) :=
  Option.rec (motive := fun _ => Res (Option Val)) .bad (fun s2 => Option.rec (motive := fun _ => Res (Option Val)) (someO (rc.e elt s2 h)) (fun c => bBO (rc.t c s2 h) fun b h1 => Bool.rec (motive := fun _ => Res (Option Val)) (.ok none h1) (someO (rc.e elt s2 h1)) b) c) (put2 tg x (wipe2 own s))
theorem compOne2_eq (rc : Rec) (own : List Nat) (tg : Tg) (c : Option E) (elt : E) (s : LSt) (x : Val) (h : LHeap) : compOne2 rc own tg c elt s x h = compOne rc own tg c elt s x h := by
  unfold compOne2 compOne
  rw [wipe2_eq, put2_eq]
  cases tg.put x (wipeL s own) with
  | none => rfl
  | some s2 =>
    cases c with
    | none => show bVO _ _ = _; rw [bVO_eq]
    | some c =>
      dsimp only
      rw [bBO_eq]
      congr 1
      funext b h1
      cases b with
      | true => show bVO _ _ = _; rw [bVO_eq]
      | false => rfl
def noExc2 (r : Res (List Val)) : Res (List Val) := Res.rec (motive := fun _ => Res (List Val)) (fun a h => .ok a h) (fun _ _ _ => .bad) .bad r
theorem noExc2_eq (r : Res (List Val)) : noExc2 r = noExc r := by cases r <;> rfl
/-! ### loops -/
def fl2 (f : Fl) : LHeap → (LSt → LHeap → RS) → RS := Fl.rec (motive := fun _ => LHeap → (LSt → LHeap → RS) → RS) (fun s h k => k s h) (fun v h _ => .ok (.rt v) h) (fun s h _ => .ok (.bk s) h) (fun s h _ => .ok (.ct s) h) f
def nx2 (r : RS) : (LSt → LHeap → RS) → RS := RS.rec (motive := fun _ => (LSt → LHeap → RS) → RS) (fun f h k => fl2 f h k) (fun c fs s h _ => .exc c fs s h) (fun _ => .bad) r
def execs2 (xs : List S) : Rec → LSt → LHeap → RS := List.rec (motive := fun _ => Rec → LSt → LHeap → RS) (fun _ s h => .ok (.nx s) h) (fun x _ ih rc s h => nx2 (rc.s x s h) (ih rc)) xs
theorem execs2_eq (rc : Rec) : ∀ (xs : List S) (s : LSt) (h : LHeap), execs2 xs rc s h = execs rc xs s h
  | [], s, h => rfl
  | x :: xs, s, h => by
    show nx2 (rc.s x s h) (execs2 xs rc) = _
    rw [execs]
    cases rc.s x s h with
    | ok f h1 =>
      cases f with
      | nx s1 => exact execs2_eq rc xs s1 h1
      | _ => rfl
    | _ => rfl
def fl3 (f : Fl) : LHeap → (LSt → LHeap → RS) → RS := Fl.rec (motive := fun _ => LHeap → (LSt → LHeap → RS) → RS) (fun s h k => k s h) (fun v h _ => .ok (.rt v) h) (fun s h _ => .ok (.nx s) h) (fun s h k => k s h) f
def turn2 (r : RS) : (LSt → LHeap → RS) → RS := RS.rec (motive := fun _ => (LSt → LHeap → RS) → RS) (fun f h k => fl3 f h k) (fun c fs s h _ => .exc c fs s h) (fun _ => .bad) r
theorem turn2_eq (r : RS) (k : LSt → LHeap → RS) : turn2 r k = turn r k := by
  cases r with
  | ok f h => cases f <;> rfl
  | _ => rfl
def loopOne2 (rc : Rec) (tg : Tg) (b : List S) (x : Val) (s : LSt) (h : LHeap) : RS := Option.rec (motive := fun _ => RS) .bad (fun s1 => execs2 b rc s1 h) (put2 tg x s)
theorem loopOne2_eq (rc : Rec) (tg : Tg) (b : List S) (x : Val) (s : LSt) (h : LHeap) : loopOne2 rc tg b x s h = loopOne rc tg b x s h := by
  unfold loopOne2 loopOne
  rw [put2_eq]
  cases tg.put x s with
  | none => rfl
  | some s1 => exact execs2_eq rc b s1 h
def loopSt2 (xs : List Val) : (Val → LSt → LHeap → RS) → LSt → LHeap → RS := List.rec (motive := fun _ => (Val → LSt → LHeap → RS) → LSt → LHeap → RS) (fun _ s h => .ok (.nx s) h) (fun x _ ih f s h => turn2 (f x s h) (ih f)) xs
theorem loopSt2_eq (f : Val → LSt → LHeap → RS) : ∀ (xs : List Val), loopSt2 xs f = loopSt f xs
  | [] => rfl
  | x :: xs => by
    funext s h
    show turn2 (f x s h) (loopSt2 xs f) = _
    rw [loopSt, turn2_eq, loopSt2_eq f xs]
def loopDyn2 (n : Nat) : (Val → LSt → LHeap → RS) → Src → Nat → LSt → LHeap → RS := Nat.rec (motive := fun _ => (Val → LSt → LHeap → RS) → Src → Nat → LSt → LHeap → RS) (fun _ _ _ _ _ => .bad)
  (fun _ ih f src i s h => Option.rec (motive := fun _ => RS) .bad (fun o => Option.rec (motive := fun _ => RS) (.ok (.nx s) h) (fun x => turn2 (f x s h) (ih f src (Nat.succ i))) o) (item2 src i h)) n
theorem loopDyn2_eq (f : Val → LSt → LHeap → RS) (src : Src) : ∀ (n i : Nat), loopDyn2 n f src i = loopDyn f src n i
  | 0, i => rfl
  | n + 1, i => by
    funext s h
    show Option.rec (motive := fun _ => RS) .bad (fun o => Option.rec (motive := fun _ => RS) (.ok (.nx s) h) (fun x => turn2 (f x s h) (loopDyn2 n f src (i + 1))) o) (item2 src i h) = _
    rw [loopDyn, item2_eq, loopDyn2_eq f src n]
    cases itemAt src i h with
    | none => rfl
    | some o =>
      cases o with
      | none => rfl
      | some x =>
        dsimp only
        rw [turn2_eq]
def loopAll2 (src : Src) (f : Val → LSt → LHeap → RS) (s : LSt) (h : LHeap) : RS := Src.rec (motive := fun _ => (Val → LSt → LHeap → RS) → LSt → LHeap → RS) (fun xs f s h => loopSt2 xs f s h) (fun l f s h => loopDyn2 100000 f (.dyn l) 0 s h) (fun l f s h => loopDyn2 100000 f (.dynE l) 0 s h) (fun l k f s h => loopDyn2 100000 f (.dynZ l k) 0 s h) src f s h
theorem loopAll2_eq (src : Src) (f : Val → LSt → LHeap → RS) (s : LSt) (h : LHeap) : loopAll2 src f s h = loopAll f src s h := by
  cases src with
  | st xs => show loopSt2 xs f s h = _; rw [loopSt2_eq]; rfl
  | dyn l => show loopDyn2 100000 f (.dyn l) 0 s h = _; rw [loopDyn2_eq]; rfl
  | dynE l => show loopDyn2 100000 f (.dynE l) 0 s h = _; rw [loopDyn2_eq]; rfl
  | dynZ l k => show loopDyn2 100000 f (.dynZ l k) 0 s h = _; rw [loopDyn2_eq]; rfl

/-! ### objects -/
def lookF2 (fs : List (Str × Val)) : Str → Option Val := List.rec (motive := fun _ => Str → Option Val) (fun _ => none) (fun p _ ih f => Bool.rec (motive := fun _ => Option Val) (ih f) (some p.2) (strEq p.1 f)) fs
theorem lookF2_eq (f : Str) : ∀ fs : List (Str × Val), lookF2 fs f = lookF f fs
  | [] => rfl
  | p :: fs => by
    show Bool.rec (motive := fun _ => Option Val) (lookF2 fs f) (some p.2) (strEq p.1 f) = _
    rw [lookF, lookF2_eq f fs]
    cases strEq p.1 f <;> rfl
def putF2 (fs : List (Str × Val)) : Str → Val → List (Str × Val) := List.rec (motive := fun _ => Str → Val → List (Str × Val)) (fun f v => [(f, v)]) (fun p ps ih f v => Bool.rec (motive := fun _ => List (Str × Val)) (p :: ih f v) ((p.1, v) :: ps) (strEq p.1 f)) fs
theorem putF2_eq (f : Str) (v : Val) : ∀ fs : List (Str × Val), putF2 fs f v = putFV f v fs
  | [] => rfl
  | p :: fs => by
    show Bool.rec (motive := fun _ => List (Str × Val)) (p :: putF2 fs f v) ((p.1, v) :: fs) (strEq p.1 f) = _
    rw [putFV, putF2_eq f v fs]
    cases strEq p.1 f <;> rfl
/-- what a ref is, and where -/
def obj2 (x : Val) (h : LHeap) : Option LObj := vRec (M := LHeap → Option LObj) (fun _ => none) (fun _ _ => none) (fun _ _ => none) (fun _ _ => none) (fun _ _ => none) (fun l h => hGet h l) (fun _ _ => none) x h
def fldK (f : Str) (cl : Cl) (x : Val) (h : LHeap) : Res Val := oRec (M := Res Val) .bad (fun _ => .bad) (fun _ => .bad) (fun _ => .bad) (fun _ => .bad) (fun c fs => Bool.rec (motive := fun _ => Res Val) .bad (optV (lookF2 fs f) h) (inS f (cl.flds c))) (fun _ _ => .bad) (obj2 x h)
theorem fld_eq (f : Str) (cl : Cl) (x : Val) (h : LHeap) : fldK f cl x h = (match x with
    | .ref a => (match h.get a with
      | some (.ins c fs) => (match inS f (cl.flds c) with
        | true => optR (lookF f fs) h
        | false => .bad)
      | _ => .bad)
    | _ => .bad) := by
  cases x with
  | ref a =>
    show oRec (M := Res Val) .bad (fun _ => .bad) (fun _ => .bad) (fun _ => .bad) (fun _ => .bad) (fun c fs => Bool.rec (motive := fun _ => Res Val) .bad (optV (lookF2 fs f) h) (inS f (cl.flds c))) (fun _ _ => .bad) (hGet h a) = _
    rw [hGet_eq]
    dsimp only
    cases h.get a with
    | none => rfl
    | some o =>
      cases o with
      | ins c fs =>
        show Bool.rec (motive := fun _ => Res Val) .bad (optV (lookF2 fs f) h) (inS f (cl.flds c)) = _
        rw [optV_eq, lookF2_eq]
        dsimp only
        cases inS f (cl.flds c) <;> rfl
      | _ => rfl
  | _ => rfl
def methK (calls : Calls) (rc : Rec) (c f : Nat) (m : Str) (es : List E) (s : LSt) (x : Val) (h : LHeap) : Res Val := oRec (M := Res Val) .bad (fun _ => .bad) (fun _ => .bad) (fun _ => .bad) (fun _ => .bad) (fun c' fs => Bool.rec (motive := fun _ => Res Val) .bad (Option.rec (motive := fun _ => Res Val) (bLV (evs2 es rc s h) fun vs h2 => calls f (x :: vs) h2) (fun _ => .bad) (lookF2 fs m)) (Nat.beq c' c)) (fun _ _ => .bad) (obj2 x h)
theorem meth_eq (calls : Calls) (rc : Rec) (c f : Nat) (m : Str) (es : List E) (s : LSt) (x : Val) (h : LHeap) : methK calls rc c f m es s x h = (match x with
    | .ref a => (match h.get a with
      | some (.ins c' fs) => (match Nat.beq c' c with
        | true => (match lookF m fs with
          | none => (evs rc es s h).bind fun vs h2 => calls f (.ref a :: vs) h2
          | some _ => .bad)
        | false => .bad)
      | _ => .bad)
    | _ => .bad) := by
  cases x with
  | ref a =>
    show oRec (M := Res Val) .bad (fun _ => .bad) (fun _ => .bad) (fun _ => .bad) (fun _ => .bad) (fun c' fs => Bool.rec (motive := fun _ => Res Val) .bad (Option.rec (motive := fun _ => Res Val) (bLV (evs2 es rc s h) fun vs h2 => calls f (.ref a :: vs) h2) (fun _ => .bad) (lookF2 fs m)) (Nat.beq c' c)) (fun _ _ => .bad) (hGet h a) = _
    rw [hGet_eq]
    dsimp only
    cases h.get a with
    | none => rfl
    | some o =>
      cases o with
      | ins c' fs =>
        show Bool.rec (motive := fun _ => Res Val) .bad (Option.rec (motive := fun _ => Res Val) (bLV (evs2 es rc s h) fun vs h2 => calls f (.ref a :: vs) h2) (fun _ => .bad) (lookF2 fs m)) (Nat.beq c' c) = _
        rw [lookF2_eq, bLV_eq, evs2_eq]
        dsimp only
        cases Nat.beq c' c with
        | false => rfl
        | true =>
          dsimp only
          cases lookF m fs <;> rfl
      | _ => rfl
  | _ => rfl
/-! ### built-ins -/
def bools2 (xs : List Val) : Option (List Bool) := List.rec (motive := fun _ => Option (List Bool)) (some []) (fun x _ ih => vRec (M := Option (List Bool)) none (fun b => Option.rec (motive := fun _ => Option (List Bool)) none (fun bs => some (b :: bs)) ih) (fun _ => none) (fun _ => none) (fun _ => none) (fun _ => none) (fun _ => none) x) xs
theorem bools2_eq : ∀ xs : List Val, bools2 xs = bools xs
  | [] => rfl
  | x :: xs => by
    show vRec (M := Option (List Bool)) none (fun b => Option.rec (motive := fun _ => Option (List Bool)) none (fun bs => some (b :: bs)) (bools2 xs)) (fun _ => none) (fun _ => none) (fun _ => none) (fun _ => none) (fun _ => none) x = _
    rw [bools2_eq xs]
    cases x with
    | bl b => rw [bools]; show Option.rec (motive := fun _ => Option (List Bool)) none (fun bs => some (b :: bs)) (bools xs) = _; cases bools xs <;> rfl
    | _ => rfl
def itemsL2 (v : Val) (h : LHeap) : Option (List Val) := oRec (M := Option (List Val)) none (fun xs => some xs) (fun xs => some xs) (fun _ => none) (fun _ => none) (fun _ _ => none) (fun _ _ => none) (obj2 v h)
theorem itemsL2_eq (v : Val) (h : LHeap) : itemsL2 v h = itemsL h v := by
  cases v with
  | ref l =>
    show oRec (M := Option (List Val)) none (fun xs => some xs) (fun xs => some xs) (fun _ => none) (fun _ => none) (fun _ _ => none) (fun _ _ => none) (hGet h l) = _
    rw [hGet_eq]
    unfold itemsL
    dsimp only
    cases h.get l with
    | none => rfl
    | some o => cases o <;> rfl
  | _ => rfl
def allB2 (bs : List Bool) : Bool := List.rec (motive := fun _ => Bool) true (fun b _ ih => Bool.rec (motive := fun _ => Bool) false ih b) bs
theorem allB2_eq : ∀ bs : List Bool, allB2 bs = allB bs
  | [] => rfl
  | b :: bs => by
    show Bool.rec (motive := fun _ => Bool) false (allB2 bs) b = _
    rw [allB2_eq bs]
    cases b <;> rfl
def anyB2 (bs : List Bool) : Bool := List.rec (motive := fun _ => Bool) false (fun b _ ih => Bool.rec (motive := fun _ => Bool) ih true b) bs
theorem anyB2_eq : ∀ bs : List Bool, anyB2 bs = anyB bs
  | [] => rfl
  | b :: bs => by
    show Bool.rec (motive := fun _ => Bool) (anyB2 bs) true b = _
    rw [anyB2_eq bs]
    cases b <;> rfl
/-- of one argument -/
def one2 (vs : List Val) (k : Val → Option (Res Val)) : Option (Res Val) := List.rec (motive := fun _ => Option (Res Val)) none (fun v vs _ => List.rec (motive := fun _ => Option (Res Val)) (k v) (fun _ _ _ => none) vs) vs
def all2 (vs : List Val) (h : LHeap) : Res Val := List.rec (motive := fun _ => Res Val) .bad (fun v vs _ => List.rec (motive := fun _ => Res Val) (Option.rec (motive := fun _ => Res Val) .bad (fun xs => Option.rec (motive := fun _ => Res Val) .bad (fun bs => .ok (.bl (allB2 bs)) h) (bools2 xs)) (itemsL2 v h)) (fun _ _ _ => .bad) vs) vs
theorem all2_eq (vs : List Val) (h : LHeap) : all2 vs h = biCall .all vs h := by
  match vs with
  | [] => rfl
  | [v] =>
    show Option.rec (motive := fun _ => Res Val) .bad (fun xs => Option.rec (motive := fun _ => Res Val) .bad (fun bs => .ok (.bl (allB2 bs)) h) (bools2 xs)) (itemsL2 v h) = _
    unfold biCall
    dsimp only
    rw [itemsL2_eq]
    cases itemsL h v with
    | none => rfl
    | some xs =>
      dsimp only
      rw [bools2_eq]
      cases bools xs with
      | none => rfl
      | some bs => show Res.ok (Val.bl (allB2 bs)) h = _; rw [allB2_eq]
  | _ :: _ :: _ => rfl
def any2 (vs : List Val) (h : LHeap) : Res Val := List.rec (motive := fun _ => Res Val) .bad (fun v vs _ => List.rec (motive := fun _ => Res Val) (Option.rec (motive := fun _ => Res Val) .bad (fun xs => Option.rec (motive := fun _ => Res Val) .bad (fun bs => .ok (.bl (anyB2 bs)) h) (bools2 xs)) (itemsL2 v h)) (fun _ _ _ => .bad) vs) vs
theorem any2_eq (vs : List Val) (h : LHeap) : any2 vs h = biCall .any vs h := by
  match vs with
  | [] => rfl
  | [v] =>
    show Option.rec (motive := fun _ => Res Val) .bad (fun xs => Option.rec (motive := fun _ => Res Val) .bad (fun bs => .ok (.bl (anyB2 bs)) h) (bools2 xs)) (itemsL2 v h) = _
    unfold biCall
    dsimp only
    rw [itemsL2_eq]
    cases itemsL h v with
    | none => rfl
    | some xs =>
      dsimp only
      rw [bools2_eq]
      cases bools xs with
      | none => rfl
      | some bs => show Res.ok (Val.bl (anyB2 bs)) h = _; rw [anyB2_eq]
  | _ :: _ :: _ => rfl
structure Bb where
  f : List Val → LHeap → Res Val
def bb (b : Bi) : Bb := match b with
  | .len => ⟨biCall .len⟩
  | .all => ⟨all2⟩
  | .any => ⟨any2⟩
  | .max => ⟨biCall .max⟩
  | .min => ⟨biCall .min⟩
  | .int => ⟨biCall .int⟩
  | .tuple => ⟨biCall .tuple⟩
  | .list => ⟨biCall .list⟩
  | .sum => ⟨biCall .sum⟩
theorem bb_eq (b : Bi) (vs : List Val) (h : LHeap) : (bb b).f vs h = biCall b vs h := by
  cases b with
  | all => exact all2_eq vs h
  | any => exact any2_eq vs h
  | _ => rfl
structure Bo where
  f : Val → Val → LHeap → Res Val
def bo (b : BOp) : Bo := match b with
  | .add => ⟨binOp .add⟩
  | .sub => ⟨binOp .sub⟩
  | .mul => ⟨binOp .mul⟩
  | .fdiv => ⟨binOp .fdiv⟩
  | .mod => ⟨binOp .mod⟩
  | .pow => ⟨binOp .pow⟩
theorem bo_eq (b : BOp) : (bo b).f = binOp b := by cases b <;> rfl
/-! ### steps -/
def vBl (x : Val) : (Bool → LHeap → Res Val) → LHeap → Res Val := vRec (M := (Bool → LHeap → Res Val) → LHeap → Res Val) (fun _ _ => .bad) (fun b k h => k b h) (fun _ _ _ => .bad) (fun _ _ _ => .bad) (fun _ _ _ => .bad) (fun _ _ _ => .bad) (fun _ _ _ => .bad) x
def vBt (x : Val) : LHeap → Res Bool := vRec (M := LHeap → Res Bool) (fun _ => .bad) (fun b h => .ok b h) (fun _ _ => .bad) (fun _ _ => .bad) (fun _ _ => .bad) (fun _ _ => .bad) (fun _ _ => .bad) x
structure Bx where
  f : Cl → Calls → Rec → LSt → LHeap → Res Val
def bx (e : E) : Bx := match e with
  | .var i => ⟨fun _ _ _ s h => optV (getV2 s i) h⟩
  | .lit v => ⟨fun _ _ _ _ h => .ok v h⟩
  | .glb _ v => ⟨fun _ _ _ _ h => .ok v h⟩
  | .bin o a b => ⟨fun _ _ rc s h => bVV (rc.e a s h) fun x h1 => bVV (rc.e b s h1) fun y h2 => (bo o).f x y h2⟩
  | .cmp o a b => ⟨fun _ _ rc s h => bVV (rc.e a s h) fun x h1 => bVV (rc.e b s h1) fun y h2 => optC ((bc o).f x y h2) h2⟩
  | .and a b => ⟨fun _ _ rc s h => bVV (rc.e a s h) fun x h1 => vBl x (fun c h1 => Bool.rec (motive := fun _ => Res Val) (.ok (.bl false) h1) (rc.e b s h1) c) h1⟩
  | .or a b => ⟨fun _ _ rc s h => bVV (rc.e a s h) fun x h1 => vBl x (fun c h1 => Bool.rec (motive := fun _ => Res Val) (rc.e b s h1) (.ok (.bl true) h1) c) h1⟩
  | .not a => ⟨fun _ _ rc s h => bVV (rc.e a s h) fun x h1 => vBl x (fun c h1 => .ok (.bl (Bool.rec (motive := fun _ => Bool) true false c)) h1) h1⟩
  | .ife c a b => ⟨fun _ _ rc s h => bBV (rc.t c s h) fun k h1 => Bool.rec (motive := fun _ => Res Val) (rc.e b s h1) (rc.e a s h1) k⟩
  | .tup es => ⟨fun _ _ rc s h => bLV (evs2 es rc s h) fun vs h1 => Bool.rec (motive := fun _ => Res Val) .bad (.ok (.tup vs) h1) (Nat.ble (len2 vs) 16777216)⟩
  | .lst es => ⟨fun _ _ rc s h => bLV (evs2 es rc s h) fun vs h1 => Bool.rec (motive := fun _ => Res Val) .bad (alloc2 (.lst vs) h1) (Nat.ble (len2 vs) 16777216)⟩
  | .sub a i => ⟨fun _ _ rc s h => bVV (rc.e a s h) fun x h1 => bVV (rc.e i s h1) fun y h2 => optV (sub2 x y h2) h2⟩
  | .call f es => ⟨fun _ calls rc s h => bLV (evs2 es rc s h) fun vs h1 => calls f vs h1⟩
  | .bi b es => ⟨fun _ _ rc s h => bLV (evs2 es rc s h) fun vs h1 => (bb b).f vs h1⟩
  | .comp own tg it c elt => ⟨fun _ _ rc s h => bLV (bSL ((bit it).f rc s h) fun src h1 => noExc2 (compAll2 src (compOne2 rc own tg c elt s) h1)) fun ys h1 => Bool.rec (motive := fun _ => Res Val) .bad (alloc2 (.lst ys) h1) (Nat.ble (len2 ys) 16777216)⟩
  | .fld o f => ⟨fun cl _ rc s h => bVV (rc.e o s h) (fldK f cl)⟩
  | .meth c f m o es => ⟨fun _ calls rc s h => bVV (rc.e o s h) (methK calls rc c f m es s)⟩
  | e => ⟨fun cl calls rc s h => stepE cl calls rc e s h⟩
theorem ev1_comp_eq (rc : Rec) (own : List Nat) (tg : Tg) (it : It) (c : Option E) (elt : E) (s : LSt) (h : LHeap) : bLV (bSL ((bit it).f rc s h) fun src h1 => noExc2 (compAll2 src (compOne2 rc own tg c elt s) h1)) (fun ys h1 => Bool.rec (motive := fun _ => Res Val) .bad (alloc2 (.lst ys) h1) (Nat.ble (len2 ys) 16777216)) = ev1_comp rc own tg it c elt s h := by
  unfold ev1_comp evComp
  rw [bLV_eq, bSL_eq, bit_eq]
  congr 1
  · congr 1
    funext src h1
    rw [noExc2_eq, compAll2_eq]
    congr 2
    funext x h
    exact compOne2_eq rc own tg c elt s x h
  · funext ys h1
    rw [len2_eq, alloc2_eq]
    show _ = (match Nat.ble ys.length 16777216 with
      | true => alloc (.lst ys) h1
      | false => .bad)
    cases Nat.ble ys.length 16777216 <;> rfl
theorem bx_eq (e : E) (cl : Cl) (calls : Calls) (rc : Rec) : (bx e).f cl calls rc = stepE cl calls rc e := by
  funext s h
  cases e with
  | var i => show optV (getV2 s i) h = optR (getV s i) h; rw [optV_eq, getV2_eq]
  | bin o a b =>
    show bVV (rc.e a s h) (fun x h1 => bVV (rc.e b s h1) fun y h2 => (bo o).f x y h2) = (rc.e a s h).bind fun x h1 => (rc.e b s h1).bind fun y h2 => binOp o x y h2
    simp only [bVV_eq, bo_eq]
  | cmp o a b =>
    show bVV (rc.e a s h) (fun x h1 => bVV (rc.e b s h1) fun y h2 => optC ((bc o).f x y h2) h2) = (rc.e a s h).bind fun x h1 => (rc.e b s h1).bind fun y h2 => (optR (cmpOp o x y h2) h2).bind fun c h3 => .ok (.bl c) h3
    simp only [bVV_eq, bc_eq, optC_eq]
  | and a b =>
    show bVV (rc.e a s h) _ = Res.bind (rc.e a s h) _
    rw [bVV_eq]
    congr 1
    funext x h1
    cases x with
    | bl c => cases c <;> rfl
    | _ => rfl
  | or a b =>
    show bVV (rc.e a s h) _ = Res.bind (rc.e a s h) _
    rw [bVV_eq]
    congr 1
    funext x h1
    cases x with
    | bl c => cases c <;> rfl
    | _ => rfl
  | not a =>
    show bVV (rc.e a s h) _ = Res.bind (rc.e a s h) _
    rw [bVV_eq]
    congr 1
    funext x h1
    cases x with
    | bl c => cases c <;> rfl
    | _ => rfl
  | ife c a b =>
    show bBV (rc.t c s h) _ = Res.bind (rc.t c s h) _
    rw [bBV_eq]
    congr 1
    funext k h1
    cases k <;> rfl
  | tup es =>
    show bLV (evs2 es rc s h) _ = Res.bind (evs rc es s h) _
    rw [bLV_eq, evs2_eq]
    congr 1
    funext vs h1
    rw [len2_eq]
    show _ = (match Nat.ble vs.length 16777216 with
      | true => Res.ok (Val.tup vs) h1
      | false => .bad)
    cases Nat.ble vs.length 16777216 <;> rfl
  | lst es =>
    show bLV (evs2 es rc s h) _ = Res.bind (evs rc es s h) _
    rw [bLV_eq, evs2_eq]
    congr 1
    funext vs h1
    rw [len2_eq, alloc2_eq]
    show _ = (match Nat.ble vs.length 16777216 with
      | true => alloc (.lst vs) h1
      | false => .bad)
    cases Nat.ble vs.length 16777216 <;> rfl
  | sub a i =>
    show bVV (rc.e a s h) (fun x h1 => bVV (rc.e i s h1) fun y h2 => optV (sub2 x y h2) h2) = (rc.e a s h).bind fun x h1 => (rc.e i s h1).bind fun y h2 => optR (subVal h2 x y) h2
    simp only [bVV_eq, optV_eq, sub2_eq]
  | call f es =>
    show bLV (evs2 es rc s h) _ = Res.bind (evs rc es s h) _
    rw [bLV_eq, evs2_eq]
  | bi b es =>
    show bLV (evs2 es rc s h) (fun vs h1 => (bb b).f vs h1) = Res.bind (evs rc es s h) fun vs h1 => biCall b vs h1
    simp only [bLV_eq, evs2_eq, bb_eq]
  | comp own tg it c elt => exact ev1_comp_eq rc own tg it c elt s h
  | fld o f =>
    show bVV (rc.e o s h) (fldK f cl) = Res.bind (rc.e o s h) _
    rw [bVV_eq]
    congr 1
    funext x h1
    exact fld_eq f cl x h1
  | meth c f m o es =>
    show bVV (rc.e o s h) (methK calls rc c f m es s) = Res.bind (rc.e o s h) _
    rw [bVV_eq]
    congr 1
    funext x h1
    exact meth_eq calls rc c f m es s x h1
  | _ => rfl
structure Bt where
  f : Rec → LSt → LHeap → Res Bool
def bt (e : E) : Bt := match e with
  | .and a b => ⟨fun rc s h => bBB (rc.t a s h) fun x h1 => Bool.rec (motive := fun _ => Res Bool) (.ok false h1) (rc.t b s h1) x⟩
  | .or a b => ⟨fun rc s h => bBB (rc.t a s h) fun x h1 => Bool.rec (motive := fun _ => Res Bool) (rc.t b s h1) (.ok true h1) x⟩
  | .not a => ⟨fun rc s h => bBB (rc.t a s h) fun x h1 => .ok (Bool.rec (motive := fun _ => Bool) true false x) h1⟩
  | e => ⟨fun rc s h => bVB (rc.e e s h) vBt⟩
theorem bt_eq (e : E) (rc : Rec) : (bt e).f rc = stepT rc e := by
  funext s h
  have other : ∀ e : E, bVB (rc.e e s h) vBt = (rc.e e s h).bind fun v h1 => match v with
    | .bl b => .ok b h1
    | _ => .bad := fun e => by
      rw [bVB_eq]
      congr 1
      funext v h1
      cases v <;> rfl
  cases e with
  | and a b =>
    show bBB (rc.t a s h) _ = Res.bind (rc.t a s h) _
    rw [bBB_eq]
    congr 1
    funext x h1
    cases x <;> rfl
  | or a b =>
    show bBB (rc.t a s h) _ = Res.bind (rc.t a s h) _
    rw [bBB_eq]
    congr 1
    funext x h1
    cases x <;> rfl
  | not a =>
    show bBB (rc.t a s h) _ = Res.bind (rc.t a s h) _
    rw [bBB_eq]
    congr 1
    funext x h1
    cases x <;> rfl
  | _ => exact other _

def storeK (kvs : List (Key × Val)) (y v : Val) (l : Nat) (s : LSt) (h : LHeap) : RS := Option.rec (motive := fun _ => RS) .bad (fun k => Bool.rec (motive := fun _ => RS) .bad (.ok (.nx s) (hPut h l (.dK (putKV k v kvs)))) (Nat.blt (len2 kvs) 16777216)) (keyO y)
def storeT (kvs : List (List Key × Val)) (y v : Val) (l : Nat) (s : LSt) (h : LHeap) : RS := Option.rec (motive := fun _ => RS) .bad (fun ys => Option.rec (motive := fun _ => RS) .bad (fun k => Bool.rec (motive := fun _ => RS) .bad (.ok (.nx s) (hPut h l (.dT (putTV k v kvs)))) (Nat.blt (len2 kvs) 16777216)) (keysO ys)) (tupOf y)
def putK (v x y : Val) (s : LSt) (h : LHeap) : RS := vRec (M := RS) .bad (fun _ => .bad) (fun _ => .bad) (fun _ => .bad) (fun _ => .bad) (fun l => oRec (M := RS) .bad (fun _ => .bad) (fun _ => .bad) (fun kvs => storeK kvs y v l s h) (fun kvs => storeT kvs y v l s h) (fun _ _ => .bad) (fun _ _ => .bad) (hGet h l)) (fun _ => .bad) x
theorem putK_eq (v x y : Val) (s : LSt) (h3 : LHeap) : putK v x y s h3 = (match x with
    | .ref l => (match h3.get l with
      | some (.dK kvs) => (match keyOf y with
        | some k => (match Nat.blt kvs.length line with
          | true => (store l (.dK (putKV k v kvs)) h3 ()).inS s fun _ h4 => .ok (.nx s) h4
          | false => .bad)
        | none => .bad)
      | some (.dT kvs) => (match y with
        | .tup ys => (match keysOf ys with
          | some k => (match Nat.blt kvs.length line with
            | true => (store l (.dT (putTV k v kvs)) h3 ()).inS s fun _ h4 => .ok (.nx s) h4
            | false => .bad)
          | none => .bad)
        | _ => .bad)
      | _ => .bad)
    | _ => .bad) := by
  cases x with
  | ref l =>
    show oRec (M := RS) .bad (fun _ => .bad) (fun _ => .bad) (fun kvs => storeK kvs y v l s h3) (fun kvs => storeT kvs y v l s h3) (fun _ _ => .bad) (fun _ _ => .bad) (hGet h3 l) = _
    rw [hGet_eq]
    dsimp only
    cases h3.get l with
    | none => rfl
    | some o =>
      cases o with
      | dK kvs =>
        show storeK kvs y v l s h3 = _
        unfold storeK
        rw [keyO_eq, len2_eq]
        dsimp only
        cases keyOf y with
        | none => rfl
        | some k =>
          dsimp only
          rw [hPut_eq]
          show _ = (match Nat.blt kvs.length 16777216 with
            | true => (store l (.dK (putKV k v kvs)) h3 ()).inS s fun _ h4 => RS.ok (.nx s) h4
            | false => .bad)
          cases Nat.blt kvs.length 16777216 <;> rfl
      | dT kvs =>
        show storeT kvs y v l s h3 = _
        unfold storeT
        rw [len2_eq]
        dsimp only
        cases y with
        | tup ys =>
          show Option.rec (motive := fun _ => RS) .bad (fun k => Bool.rec (motive := fun _ => RS) .bad (.ok (.nx s) (hPut h3 l (.dT (putTV k v kvs)))) (Nat.blt kvs.length 16777216)) (keysO ys) = _
          rw [keysO_eq]
          dsimp only
          cases keysOf ys with
          | none => rfl
          | some k =>
            dsimp only
            rw [hPut_eq]
            show _ = (match Nat.blt kvs.length 16777216 with
              | true => (store l (.dT (putTV k v kvs)) h3 ()).inS s fun _ h4 => RS.ok (.nx s) h4
              | false => .bad)
            cases Nat.blt kvs.length 16777216 <;> rfl
        | _ => rfl
      | _ => rfl
  | _ => rfl
structure Bs where
  f : Cl → Rec → LSt → LHeap → RS
def bs (st : S) : Bs := match st with
  | .set i e => ⟨fun _ rc s h => iV (rc.e e s h) s fun v h1 => .ok (.nx (setV2 s i v)) h1⟩
  | .ex e => ⟨fun _ rc s h => iV (rc.e e s h) s fun _ h1 => .ok (.nx s) h1⟩
  | .ret e => ⟨fun _ rc s h => iV (rc.e e s h) s fun v h1 => .ok (.rt v) h1⟩
  | .ife c a b => ⟨fun _ rc s h => iB (rc.t c s h) s fun k h1 => Bool.rec (motive := fun _ => RS) (execs2 b rc s h1) (execs2 a rc s h1) k⟩
  | .whl c b => ⟨fun _ rc s h => rc.w c b s h⟩
  | .loop tg it b => ⟨fun _ rc s h => iS ((bit it).f rc s h) s fun src h1 => loopAll2 src (loopOne2 rc tg b) s h1⟩
  | .put o i e => ⟨fun _ rc s h => iV (rc.e e s h) s fun v h1 => iV (rc.e o s h1) s fun x h2 => iV (rc.e i s h2) s fun y h3 => putK v x y s h3⟩
  | .par i j a b => ⟨fun _ rc s h => iV (rc.e a s h) s fun v h1 => iV (rc.e b s h1) s fun u h2 => .ok (.nx (setV2 (setV2 s i v) j u)) h2⟩
  | st => ⟨fun cl rc s h => stepS cl rc st s h⟩
theorem bs_eq (st : S) (cl : Cl) (rc : Rec) : (bs st).f cl rc = stepS cl rc st := by
  funext s h
  cases st with
  | set i e =>
    show iV (rc.e e s h) s (fun v h1 => .ok (.nx (setV2 s i v)) h1) = (rc.e e s h).inS s fun v h1 => .ok (.nx (setV s i v)) h1
    simp only [iV_eq, setV2_eq]
  | ex e =>
    show iV (rc.e e s h) s _ = (rc.e e s h).inS s _
    rw [iV_eq]
  | ret e =>
    show iV (rc.e e s h) s _ = (rc.e e s h).inS s _
    rw [iV_eq]
  | ife c a b =>
    show iB (rc.t c s h) s _ = (rc.t c s h).inS s _
    rw [iB_eq]
    congr 1
    funext k h1
    cases k with
    | true => exact execs2_eq rc a s h1
    | false => exact execs2_eq rc b s h1
  | loop tg it b =>
    show iS ((bit it).f rc s h) s _ = (evIt rc it s h).inS s _
    rw [iS_eq, bit_eq]
    congr 1
    funext src h1
    rw [loopAll2_eq]
    congr 1
    funext x s h
    exact loopOne2_eq rc tg b x s h
  | put o i e =>
    show iV (rc.e e s h) s _ = (rc.e e s h).inS s _
    rw [iV_eq]
    congr 1
    funext v h1
    rw [iV_eq]
    congr 1
    funext x h2
    rw [iV_eq]
    congr 1
    funext y h3
    exact putK_eq v x y s h3
  | par i j a b =>
    show iV (rc.e a s h) s (fun v h1 => iV (rc.e b s h1) s fun u h2 => .ok (.nx (setV2 (setV2 s i v) j u)) h2) = (rc.e a s h).inS s fun v h1 => (rc.e b s h1).inS s fun u h2 => .ok (.nx (setV (setV s i v) j u)) h2
    simp only [iV_eq, setV2_eq]
  | _ => rfl
def stepW2 (rc : Rec) (c : E) (b : List S) (s : LSt) (h : LHeap) : RS := iB (rc.t c s h) s fun k h1 => Bool.rec (motive := fun _ => RS) (.ok (.nx s) h1) (turn2 (execs2 b rc s h1) (rc.w c b)) k
theorem stepW2_eq (rc : Rec) : stepW2 rc = stepW rc := by
  funext c b s h
  show iB (rc.t c s h) s _ = (rc.t c s h).inS s _
  rw [iB_eq]
  congr 1
  funext k h1
  cases k with
  | true => show turn2 (execs2 b rc s h1) (rc.w c b) = _; rw [turn2_eq, execs2_eq]
  | false => rfl
/-! ### levels -/
def rec2 (cl : Cl) (calls : Calls) (n : Nat) : Rec := Nat.rec recBad (fun _ r => ⟨fun e s h => (bx e).f cl calls r s h, fun e s h => (bt e).f r s h, fun e s h => (bs e).f cl r s h, stepW2 r⟩) n
theorem rec2_eq (cl : Cl) (calls : Calls) : ∀ n : Nat, rec2 cl calls n = rec cl calls n
  | 0 => rfl
  | n + 1 => by
    show (⟨fun e s h => (bx e).f cl calls (rec2 cl calls n) s h, fun e s h => (bt e).f (rec2 cl calls n) s h, fun e s h => (bs e).f cl (rec2 cl calls n) s h, stepW2 (rec2 cl calls n)⟩ : Rec) = _
    rw [rec_succ, rec2_eq cl calls n, stepW2_eq]
    simp only [bx_eq, bt_eq, bs_eq]
def start2 (n : Nat) : List Val → LSt := Nat.rec (motive := fun _ => List Val → LSt) (fun _ => []) (fun _ ih vs => List.rec (motive := fun _ => LSt) (none :: ih []) (fun v vs _ => some v :: ih vs) vs) n
theorem start2_eq : ∀ (n : Nat) (vs : List Val), start2 n vs = startL vs n
  | 0, vs => by rw [startL]; rfl
  | n + 1, [] => by show none :: start2 n [] = _; rw [start2_eq n, startL]
  | n + 1, v :: vs => by show some v :: start2 n vs = _; rw [start2_eq n, startL]
def endFl (f : Fl) : LHeap → Res Val := Fl.rec (motive := fun _ => LHeap → Res Val) (fun _ h => .ok .non h) (fun v h => .ok v h) (fun _ _ => .bad) (fun _ _ => .bad) f
def endR (r : RS) : Res Val := RS.rec (motive := fun _ => Res Val) (fun f h => endFl f h) (fun c fs _ h => .exc c fs h) .bad r
def runFn2 (cl : Cl) (calls : Calls) (f : Fn) (vs : List Val) (h : LHeap) : Res Val := Bool.rec (motive := fun _ => Res Val) .bad (endR (execs2 f.body (rec2 cl calls 100000) (start2 f.ns vs) h)) (Nat.beq (len2 vs) f.ps)
theorem runFn2_eq (cl : Cl) (calls : Calls) (f : Fn) (vs : List Val) (h : LHeap) : runFn2 cl calls f vs h = runFn cl calls f vs h := by
  unfold runFn2 runFn
  rw [len2_eq, execs2_eq, start2_eq, rec2_eq]
  show _ = (match Nat.beq vs.length f.ps with
  | true => (match execs (rec cl calls 100000) f.body (startL vs f.ns) h with
    | .ok (.nx _) h1 => Res.ok Val.non h1
    | .ok (.rt v) h1 => .ok v h1
    | .ok _ _ => .bad
    | .exc c fs _ h1 => .exc c fs h1
    | .bad => .bad)
  | false => .bad)
  cases Nat.beq vs.length f.ps with
  | false => rfl
  | true =>
    dsimp only
    cases execs (rec cl calls 100000) f.body (startL vs f.ns) h with
    | ok f h1 => cases f <;> rfl
    | _ => rfl
structure Bf where
  f : Cl → Calls → List Val → LHeap → Res Val
def bf (o : Option Fn) : Bf := match o with
  | some fn => ⟨fun cl c vs h => runFn2 cl c fn vs h⟩
  | none => ⟨fun _ _ _ _ => .bad⟩
def callN2 (cl : Cl) (fns : Nat → Option Fn) (k : Nat) : Calls := Nat.rec (fun _ _ _ => .bad) (fun _ c f vs h => (bf (fns f)).f cl c vs h) k
theorem callN2_eq (cl : Cl) (fns : Nat → Option Fn) : ∀ k : Nat, callN2 cl fns k = callN cl fns k
  | 0 => rfl
  | k + 1 => by
    funext f vs h
    show (bf (fns f)).f cl (callN2 cl fns k) vs h = _
    rw [callN2_eq cl fns k, callN_succ]
    cases fns f with
    | none => rfl
    | some fn => exact runFn2_eq cl _ fn vs h
end Ev

set_option Elab.async false
set_option linter.all false
set_option maxRecDepth 100000
set_option maxHeartbeats 0
noncomputable section
namespace Ev.Law
open PySem
def f_is_word : Fn := ⟨1, 2, [(.ife (.or (.not (.isi (.var 0) .str)) (.not (.cmp2 .le .le (.lit (.int 1)) (.bi .len [(.var 0)]) (.glb (⟨⟨[77, 79, 83, 84, 95, 76, 69, 84, 84, 69, 82, 83]⟩⟩) (.int 6))))) [(.ret (.lit (.bl false)))] []), (.ret (.bi .all [(.comp [1] (.name 1) (.val (.var 0)) none (.cmp .inn (.var 1) (.glb (⟨⟨[76, 69, 84, 84, 69, 82, 83]⟩⟩) (.str (⟨⟨[97, 98, 99, 100, 101, 102, 103, 104, 105, 106, 107, 108, 109, 110, 111, 112, 113, 114, 115, 116, 117, 118, 119, 120, 121, 122]⟩⟩)))))]))]⟩
def d_is_word : Df := ⟨none, ⟨⟨[105, 115, 95, 119, 111, 114, 100]⟩⟩, [⟨⟨[116, 104, 105, 110, 103]⟩⟩, ⟨⟨[108, 101, 116, 116, 101, 114]⟩⟩], f_is_word⟩
def f_names_fault : Fn := ⟨1, 3, [(.ife (.or (.not (.isi (.var 0) .tuple)) (.not (.cmp2 .le .le (.lit (.int 1)) (.bi .len [(.var 0)]) (.glb (⟨⟨[77, 79, 83, 84, 95, 78, 65, 77, 69, 83]⟩⟩) (.int 8))))) [(.ret (.lst [(.lit .non)]))] []), (.loop (.tup [1, 2]) (.enum (.var 0)) [(.ife (.or (.not (.call 0 [(.var 2)])) (.and (.cmp .gt (.var 1) (.lit (.int 0))) (.cmp .le (.var 2) (.sub (.var 0) (.bin .sub (.var 1) (.lit (.int 1))))))) [(.ret (.lst [(.var 1)]))] [])]), (.ret (.lst []))]⟩
def d_names_fault : Df := ⟨none, ⟨⟨[110, 97, 109, 101, 115, 95, 102, 97, 117, 108, 116]⟩⟩, [⟨⟨[116, 104, 105, 110, 103]⟩⟩, ⟨⟨[110, 117, 109, 98, 101, 114]⟩⟩, ⟨⟨[110, 97, 109, 101]⟩⟩], f_names_fault⟩
def f_need_names : Fn := ⟨1, 2, [(.loop (.name 1) (.val (.call 1 [(.var 0)])) [(.raise 1 [(.var 1)])]), (.ret (.var 0))]⟩
def d_need_names : Df := ⟨none, ⟨⟨[110, 101, 101, 100, 95, 110, 97, 109, 101, 115]⟩⟩, [⟨⟨[116, 104, 105, 110, 103]⟩⟩, ⟨⟨[110, 117, 109, 98, 101, 114]⟩⟩], f_need_names⟩
def f_extent : Fn := ⟨2, 4, [(.ife (.isi (.var 1) .str) [(.ret (.ife (.cmp .inn (.var 1) (.var 0)) (.tup [(.lit (.int 1)), (.lit (.int 1))]) (.lit .non)))] []), (.ife (.or (.not (.isi (.var 1) .tuple)) (.or (.cmp .ne (.bi .len [(.var 1)]) (.lit (.int 3))) (.not (.isi (.sub (.var 1) (.lit (.int 0))) .str)))) [(.ret (.lit .non))] []), (.ife (.cmp .nin (.sub (.var 1) (.lit (.int 0))) (.tup [(.glb (⟨⟨[77, 69, 84]⟩⟩) (.str (⟨⟨[109, 101, 116]⟩⟩))), (.glb (⟨⟨[74, 79, 73, 78, 69, 68]⟩⟩) (.str (⟨⟨[106, 111, 105, 110, 101, 100]⟩⟩)))])) [(.ret (.lit .non))] []), (.par 2 3 (.call 3 [(.var 0), (.sub (.var 1) (.lit (.int 1)))]) (.call 3 [(.var 0), (.sub (.var 1) (.lit (.int 2)))])), (.ife (.or (.cmp .isb (.var 2) (.lit .non)) (.cmp .isb (.var 3) (.lit .non))) [(.ret (.lit .non))] []), (.ret (.tup [(.bin .add (.lit (.int 1)) (.bi .max [(.sub (.var 2) (.lit (.int 0))), (.sub (.var 3) (.lit (.int 0)))])), (.bin .add (.bin .add (.lit (.int 1)) (.sub (.var 2) (.lit (.int 1)))) (.sub (.var 3) (.lit (.int 1))))]))]⟩
def d_extent : Df := ⟨none, ⟨⟨[101, 120, 116, 101, 110, 116]⟩⟩, [⟨⟨[110, 97, 109, 101, 115]⟩⟩, ⟨⟨[116, 104, 105, 110, 103]⟩⟩, ⟨⟨[111, 110, 101]⟩⟩, ⟨⟨[111, 116, 104, 101, 114]⟩⟩], f_extent⟩
def f_is_term : Fn := ⟨2, 3, [(.set 2 (.call 3 [(.var 0), (.var 1)])), (.ret (.and (.cmp .nsb (.var 2) (.lit .non)) (.and (.cmp .le (.sub (.var 2) (.lit (.int 0))) (.glb (⟨⟨[77, 79, 83, 84, 95, 68, 69, 69, 80]⟩⟩) (.int 12))) (.cmp .le (.sub (.var 2) (.lit (.int 1))) (.glb (⟨⟨[77, 79, 83, 84, 95, 84, 69, 82, 77, 83]⟩⟩) (.int 60))))))]⟩
def d_is_term : Df := ⟨none, ⟨⟨[105, 115, 95, 116, 101, 114, 109]⟩⟩, [⟨⟨[110, 97, 109, 101, 115]⟩⟩, ⟨⟨[116, 104, 105, 110, 103]⟩⟩, ⟨⟨[102, 111, 117, 110, 100]⟩⟩], f_is_term⟩
def f_term_for : Fn := ⟨2, 2, [(.ife (.not (.call 4 [(.var 0), (.var 1)])) [(.raise 2 [(.var 1)])] []), (.ret (.var 1))]⟩
def d_term_for : Df := ⟨none, ⟨⟨[116, 101, 114, 109, 95, 102, 111, 114]⟩⟩, [⟨⟨[110, 97, 109, 101, 115]⟩⟩, ⟨⟨[116, 104, 105, 110, 103]⟩⟩], f_term_for⟩
def f_size_in : Fn := ⟨1, 1, [(.ret (.ife (.isi (.var 0) .str) (.lit (.int 1)) (.bin .add (.call 6 [(.sub (.var 0) (.lit (.int 1)))]) (.call 6 [(.sub (.var 0) (.lit (.int 2)))]))))]⟩
def d_size_in : Df := ⟨none, ⟨⟨[115, 105, 122, 101, 95, 105, 110]⟩⟩, [⟨⟨[116, 101, 114, 109]⟩⟩], f_size_in⟩
def f_form_size : Fn := ⟨3, 8, [(.ife (.isi (.var 1) .str) [(.ret (.ife (.cmp .inn (.var 1) (.var 0)) (.tup [(.lit (.int 1)), (.lit (.int 1))]) (.lit .non)))] []), (.ife (.or (.cmp .gt (.var 2) (.glb (⟨⟨[77, 79, 83, 84, 95, 68, 69, 69, 80]⟩⟩) (.int 12))) (.or (.not (.isi (.var 1) .tuple)) (.or (.cmp .ne (.bi .len [(.var 1)]) (.lit (.int 2))) (.not (.isi (.sub (.var 1) (.lit (.int 0))) .str))))) [(.ret (.lit .non))] []), (.ife (.or (.gin true 0 (.sub (.var 1) (.lit (.int 0)))) (.or (.not (.isi (.sub (.var 1) (.lit (.int 1))) .tuple)) (.cmp .lt (.bi .len [(.sub (.var 1) (.lit (.int 1)))]) (.lit (.int 2))))) [(.ret (.lit .non))] []), (.set 3 (.comp [5] (.name 5) (.val (.sub (.var 1) (.lit (.int 1)))) none (.call 7 [(.var 0), (.var 5), (.bin .add (.var 2) (.lit (.int 1)))]))), (.ife (.cmp .inn (.lit .non) (.var 3)) [(.ret (.lit .non))] []), (.set 4 (.srt (.comp [6, 7] (.tup [6, 7]) (.val (.var 3)) none (.var 7)))), (.whl (.cmp .gt (.bi .len [(.var 4)]) (.lit (.int 1))) [(.set 4 (.srt (.bin .add (.slc (.var 4) (some (.lit (.int 2))) none) (.lst [(.bin .add (.sub (.var 4) (.lit (.int 1))) (.lit (.int 1)))]))))]), (.ret (.tup [(.bi .sum [(.comp [6, 7] (.tup [6, 7]) (.val (.var 3)) none (.var 6))]), (.sub (.var 4) (.lit (.int 0)))]))]⟩
def d_form_size : Df := ⟨none, ⟨⟨[102, 111, 114, 109, 95, 115, 105, 122, 101]⟩⟩, [⟨⟨[110, 97, 109, 101, 115]⟩⟩, ⟨⟨[116, 104, 105, 110, 103]⟩⟩, ⟨⟨[100, 101, 101, 112]⟩⟩, ⟨⟨[115, 111, 109, 101]⟩⟩, ⟨⟨[100, 101, 112, 116, 104, 115]⟩⟩, ⟨⟨[111, 110, 101]⟩⟩, ⟨⟨[115, 105, 122, 101]⟩⟩, ⟨⟨[100, 101, 112, 116, 104]⟩⟩], f_form_size⟩
def f_need_form : Fn := ⟨2, 4, [(.par 2 3 (.call 7 [(.var 0), (.var 1), (.lit (.int 1))]) (.lit .non)), (.ife (.and (.cmp .nsb (.var 2) (.lit .non)) (.and (.cmp .le (.bin .sub (.bin .mul (.lit (.int 2)) (.sub (.var 2) (.lit (.int 0)))) (.lit (.int 1))) (.glb (⟨⟨[77, 79, 83, 84, 95, 84, 69, 82, 77, 83]⟩⟩) (.int 60))) (.cmp .le (.sub (.var 2) (.lit (.int 1))) (.glb (⟨⟨[77, 79, 83, 84, 95, 68, 69, 69, 80]⟩⟩) (.int 12))))) [(.set 3 (.meth 0 40 (⟨⟨[111, 102, 95, 102, 111, 114, 109]⟩⟩) (.make 0 28 []) [(.var 1)]))] []), (.ife (.cmp .isb (.var 3) (.lit .non)) [(.raise 3 [(.var 1)])] []), (.ret (.var 3))]⟩
def d_need_form : Df := ⟨none, ⟨⟨[110, 101, 101, 100, 95, 102, 111, 114, 109]⟩⟩, [⟨⟨[110, 97, 109, 101, 115]⟩⟩, ⟨⟨[102, 111, 114, 109]⟩⟩, ⟨⟨[115, 105, 122, 101]⟩⟩, ⟨⟨[102, 111, 117, 110, 100]⟩⟩], f_need_form⟩
def f_need_both : Fn := ⟨3, 3, [(.ex (.call 2 [(.var 0)])), (.ex (.call 5 [(.var 0), (.var 1)])), (.ex (.call 5 [(.var 0), (.var 2)]))]⟩
def d_need_both : Df := ⟨none, ⟨⟨[110, 101, 101, 100, 95, 98, 111, 116, 104]⟩⟩, [⟨⟨[110, 97, 109, 101, 115]⟩⟩, ⟨⟨[111, 110, 101]⟩⟩, ⟨⟨[111, 116, 104, 101, 114]⟩⟩], f_need_both⟩
def f_lies_in : Fn := ⟨2, 3, [(.set 2 (.make 0 28 [])), (.ret (.meth 0 32 (⟨⟨[100, 111, 101, 115, 95, 108, 105, 101]⟩⟩) (.var 2) [(.meth 0 38 (⟨⟨[111, 102, 95, 116, 101, 114, 109]⟩⟩) (.var 2) [(.var 0)]), (.meth 0 38 (⟨⟨[111, 102, 95, 116, 101, 114, 109]⟩⟩) (.var 2) [(.var 1)])]))]⟩
def d_lies_in : Df := ⟨none, ⟨⟨[108, 105, 101, 115, 95, 105, 110]⟩⟩, [⟨⟨[111, 110, 101]⟩⟩, ⟨⟨[111, 116, 104, 101, 114]⟩⟩, ⟨⟨[102, 111, 117, 110, 100]⟩⟩], f_lies_in⟩
def f_lies_under : Fn := ⟨3, 3, [(.ex (.call 9 [(.var 0), (.var 1), (.var 2)])), (.ret (.call 10 [(.var 1), (.var 2)]))]⟩
def d_lies_under : Df := ⟨none, ⟨⟨[108, 105, 101, 115, 95, 117, 110, 100, 101, 114]⟩⟩, [⟨⟨[110, 97, 109, 101, 115]⟩⟩, ⟨⟨[111, 110, 101]⟩⟩, ⟨⟨[111, 116, 104, 101, 114]⟩⟩], f_lies_under⟩
def f_are_same_kind : Fn := ⟨3, 4, [(.ex (.call 9 [(.var 0), (.var 1), (.var 2)])), (.set 3 (.make 0 28 [])), (.ret (.cmp .eq (.meth 0 38 (⟨⟨[111, 102, 95, 116, 101, 114, 109]⟩⟩) (.var 3) [(.var 1)]) (.meth 0 38 (⟨⟨[111, 102, 95, 116, 101, 114, 109]⟩⟩) (.var 3) [(.var 2)])))]⟩
def d_are_same_kind : Df := ⟨none, ⟨⟨[97, 114, 101, 95, 115, 97, 109, 101, 95, 107, 105, 110, 100]⟩⟩, [⟨⟨[110, 97, 109, 101, 115]⟩⟩, ⟨⟨[111, 110, 101]⟩⟩, ⟨⟨[111, 116, 104, 101, 114]⟩⟩, ⟨⟨[102, 111, 117, 110, 100]⟩⟩], f_are_same_kind⟩
def f_form_in : Fn := ⟨1, 2, [(.set 1 (.make 0 28 [])), (.ret (.meth 0 39 (⟨⟨[102, 111, 114, 109]⟩⟩) (.var 1) [(.meth 0 38 (⟨⟨[111, 102, 95, 116, 101, 114, 109]⟩⟩) (.var 1) [(.var 0)])]))]⟩
def d_form_in : Df := ⟨none, ⟨⟨[102, 111, 114, 109, 95, 105, 110]⟩⟩, [⟨⟨[116, 101, 114, 109]⟩⟩, ⟨⟨[102, 111, 117, 110, 100]⟩⟩], f_form_in⟩
def f_form_of : Fn := ⟨2, 2, [(.ret (.call 13 [(.call 5 [(.call 2 [(.var 0)]), (.var 1)])]))]⟩
def d_form_of : Df := ⟨none, ⟨⟨[102, 111, 114, 109, 95, 111, 102]⟩⟩, [⟨⟨[110, 97, 109, 101, 115]⟩⟩, ⟨⟨[116, 101, 114, 109]⟩⟩], f_form_of⟩
def f_names_in : Fn := ⟨1, 2, [(.ret (.ife (.isi (.var 0) .str) (.lit (.int 1)) (.bi .sum [(.comp [1] (.name 1) (.val (.sub (.var 0) (.lit (.int 1)))) none (.call 15 [(.var 1)]))])))]⟩
def d_names_in : Df := ⟨none, ⟨⟨[110, 97, 109, 101, 115, 95, 105, 110]⟩⟩, [⟨⟨[102, 111, 114, 109]⟩⟩, ⟨⟨[111, 110, 101]⟩⟩], f_names_in⟩
def f_least_size : Fn := ⟨2, 2, [(.ret (.call 15 [(.call 14 [(.var 0), (.var 1)])]))]⟩
def d_least_size : Df := ⟨none, ⟨⟨[108, 101, 97, 115, 116, 95, 115, 105, 122, 101]⟩⟩, [⟨⟨[110, 97, 109, 101, 115]⟩⟩, ⟨⟨[116, 101, 114, 109]⟩⟩], f_least_size⟩
def f_is_shortest : Fn := ⟨2, 2, [(.ret (.cmp .eq (.call 16 [(.var 0), (.var 1)]) (.call 6 [(.var 1)])))]⟩
def d_is_shortest : Df := ⟨none, ⟨⟨[105, 115, 95, 115, 104, 111, 114, 116, 101, 115, 116]⟩⟩, [⟨⟨[110, 97, 109, 101, 115]⟩⟩, ⟨⟨[116, 101, 114, 109]⟩⟩], f_is_shortest⟩
def f_writing_of : Fn := ⟨2, 2, [(.ret (.call 8 [(.call 2 [(.var 0)]), (.var 1)]))]⟩
def d_writing_of : Df := ⟨none, ⟨⟨[119, 114, 105, 116, 105, 110, 103, 95, 111, 102]⟩⟩, [⟨⟨[110, 97, 109, 101, 115]⟩⟩, ⟨⟨[102, 111, 114, 109]⟩⟩], f_writing_of⟩
def f_is_prime : Fn := ⟨3, 5, [(.set 3 (.call 14 [(.var 0), (.var 1)])), (.ife (.or (.not (.isi (.var 2) .str)) (.gin true 0 (.var 2))) [(.raise 3 [(.var 2)])] []), (.ife (.isi (.var 3) .str) [(.ret (.lit (.bl true)))] []), (.ret (.and (.cmp .ne (.sub (.var 3) (.lit (.int 0))) (.var 2)) (.bi .all [(.comp [4] (.name 4) (.val (.sub (.var 3) (.lit (.int 1)))) none (.isi (.var 4) .str))])))]⟩
def d_is_prime : Df := ⟨none, ⟨⟨[105, 115, 95, 112, 114, 105, 109, 101]⟩⟩, [⟨⟨[110, 97, 109, 101, 115]⟩⟩, ⟨⟨[116, 101, 114, 109]⟩⟩, ⟨⟨[119, 111, 114, 100]⟩⟩, ⟨⟨[102, 111, 114, 109]⟩⟩, ⟨⟨[111, 110, 101]⟩⟩], f_is_prime⟩
def f__law_begun : Fn := ⟨1, 3, [(.set 1 (.lit (.int 20231))), (.loop (.name 2) (.val (.var 0)) [(.set 1 (.bin .mod (.bi .int [(.bin .add (.bin .add (.bin .mul (.var 1) (.lit (.int 6364136223846793005))) (.var 2)) (.lit (.int 1442695040888963407)))]) (.lit (.int 18446744073709551616))))]), (.ret (.dsp [(⟨⟨[103, 114, 101, 97, 116]⟩⟩, (.comp [2] (.name 2) (.val (.var 0)) (some (.cmp .ge (.var 2) (.bin .pow (.lit (.int 10)) (.lit (.int 18))))) (.var 2))), (⟨⟨[115, 101, 101, 100]⟩⟩, (.var 1))]))]⟩
def d__law_begun : Df := ⟨none, ⟨⟨[95, 108, 97, 119, 95, 98, 101, 103, 117, 110]⟩⟩, [⟨⟨[95, 108, 97, 119, 95, 115, 99, 114, 105, 112, 116]⟩⟩, ⟨⟨[95, 108, 97, 119, 95, 115, 101, 101, 100]⟩⟩, ⟨⟨[95, 108, 97, 119, 95, 99, 101, 108, 108]⟩⟩], f__law_begun⟩
def f__law_draw : Fn := ⟨2, 3, [(.whl (.and (.cmp .ne (.sub (.var 0) (.lit (.str (⟨⟨[103, 114, 101, 97, 116]⟩⟩)))) (.lst [])) (.cmp .eq (.sub (.sub (.var 0) (.lit (.str (⟨⟨[103, 114, 101, 97, 116]⟩⟩)))) (.lit (.int 0))) (.lit (.int 0)))) [(.put (.var 0) (.lit (.str (⟨⟨[103, 114, 101, 97, 116]⟩⟩))) (.slc (.sub (.var 0) (.lit (.str (⟨⟨[103, 114, 101, 97, 116]⟩⟩)))) (some (.lit (.int 1))) none))]), (.ife (.cmp .ne (.sub (.var 0) (.lit (.str (⟨⟨[103, 114, 101, 97, 116]⟩⟩)))) (.lst [])) [(.set 2 (.sub (.sub (.var 0) (.lit (.str (⟨⟨[103, 114, 101, 97, 116]⟩⟩)))) (.lit (.int 0)))), (.put (.var 0) (.lit (.str (⟨⟨[103, 114, 101, 97, 116]⟩⟩))) (.bin .add (.lst [(.bin .fdiv (.var 2) (.var 1))]) (.slc (.sub (.var 0) (.lit (.str (⟨⟨[103, 114, 101, 97, 116]⟩⟩)))) (some (.lit (.int 1))) none))), (.ret (.bin .mod (.bi .int [(.var 2)]) (.var 1)))] []), (.put (.var 0) (.lit (.str (⟨⟨[115, 101, 101, 100]⟩⟩))) (.bin .mod (.bi .int [(.bin .add (.bin .mul (.sub (.var 0) (.lit (.str (⟨⟨[115, 101, 101, 100]⟩⟩)))) (.lit (.int 6364136223846793005))) (.lit (.int 1442695040888963407)))]) (.lit (.int 18446744073709551616)))), (.ret (.bin .mod (.bi .int [(.bin .fdiv (.sub (.var 0) (.lit (.str (⟨⟨[115, 101, 101, 100]⟩⟩)))) (.lit (.int 8589934592)))]) (.var 1)))]⟩
def d__law_draw : Df := ⟨none, ⟨⟨[95, 108, 97, 119, 95, 100, 114, 97, 119]⟩⟩, [⟨⟨[95, 108, 97, 119, 95, 109]⟩⟩, ⟨⟨[95, 108, 97, 119, 95, 108, 105, 109, 105, 116]⟩⟩, ⟨⟨[95, 108, 97, 119, 95, 99, 101, 108, 108]⟩⟩], f__law_draw⟩
def f__law_of : Fn := ⟨2, 2, [(.ret (.sub (.var 1) (.call 21 [(.var 0), (.bi .len [(.var 1)])])))]⟩
def d__law_of : Df := ⟨none, ⟨⟨[95, 108, 97, 119, 95, 111, 102]⟩⟩, [⟨⟨[95, 108, 97, 119, 95, 109]⟩⟩, ⟨⟨[95, 108, 97, 119, 95, 115, 111, 109, 101]⟩⟩], f__law_of⟩
def f__law_rows : Fn := ⟨0, 3, [(.unp [1, 2] (.tup [(.tup [(.lit (.str (⟨⟨[109, 101, 116]⟩⟩))), (.lit (.str (⟨⟨[97]⟩⟩))), (.lit (.str (⟨⟨[98]⟩⟩)))]), (.tup [(.lit (.str (⟨⟨[106, 111, 105, 110, 101, 100]⟩⟩))), (.lit (.str (⟨⟨[98]⟩⟩))), (.lit (.str (⟨⟨[99]⟩⟩)))])])), (.set 0 (.lst [(.tup [(.lit (.str (⟨⟨[97]⟩⟩))), (.lit (.str (⟨⟨[97]⟩⟩)))]), (.tup [(.tup [(.lit (.str (⟨⟨[109, 101, 116]⟩⟩))), (.lit (.str (⟨⟨[98]⟩⟩))), (.lit (.str (⟨⟨[97]⟩⟩)))]), (.tup [(.lit (.str (⟨⟨[109, 101, 116]⟩⟩))), (.tup [(.lit (.str (⟨⟨[97]⟩⟩))), (.lit (.str (⟨⟨[98]⟩⟩)))])])]), (.tup [(.tup [(.lit (.str (⟨⟨[106, 111, 105, 110, 101, 100]⟩⟩))), (.lit (.str (⟨⟨[97]⟩⟩))), (.var 1)]), (.lit (.str (⟨⟨[97]⟩⟩)))])])), (.ex (.app (.var 0) (.tup [(.tup [(.lit (.str (⟨⟨[109, 101, 116]⟩⟩))), (.tup [(.lit (.str (⟨⟨[106, 111, 105, 110, 101, 100]⟩⟩))), (.lit (.str (⟨⟨[98]⟩⟩))), (.lit (.str (⟨⟨[97]⟩⟩)))]), (.lit (.str (⟨⟨[97]⟩⟩)))]), (.lit (.str (⟨⟨[97]⟩⟩)))]))), (.ex (.app (.var 0) (.tup [(.tup [(.lit (.str (⟨⟨[106, 111, 105, 110, 101, 100]⟩⟩))), (.var 1), (.tup [(.lit (.str (⟨⟨[109, 101, 116]⟩⟩))), (.lit (.str (⟨⟨[97]⟩⟩))), (.lit (.str (⟨⟨[99]⟩⟩)))])]), (.tup [(.lit (.str (⟨⟨[106, 111, 105, 110, 101, 100]⟩⟩))), (.tup [(.tup [(.lit (.str (⟨⟨[109, 101, 116]⟩⟩))), (.tup [(.lit (.str (⟨⟨[97]⟩⟩))), (.lit (.str (⟨⟨[98]⟩⟩)))])]), (.tup [(.lit (.str (⟨⟨[109, 101, 116]⟩⟩))), (.tup [(.lit (.str (⟨⟨[97]⟩⟩))), (.lit (.str (⟨⟨[99]⟩⟩)))])])])])]))), (.ex (.app (.var 0) (.tup [(.tup [(.lit (.str (⟨⟨[109, 101, 116]⟩⟩))), (.lit (.str (⟨⟨[97]⟩⟩))), (.var 2)]), (.tup [(.lit (.str (⟨⟨[109, 101, 116]⟩⟩))), (.tup [(.tup [(.lit (.str (⟨⟨[106, 111, 105, 110, 101, 100]⟩⟩))), (.tup [(.lit (.str (⟨⟨[98]⟩⟩))), (.lit (.str (⟨⟨[99]⟩⟩)))])]), (.lit (.str (⟨⟨[97]⟩⟩)))])])]))), (.ex (.app (.var 0) (.tup [(.tup [(.lit (.str (⟨⟨[106, 111, 105, 110, 101, 100]⟩⟩))), (.tup [(.lit (.str (⟨⟨[106, 111, 105, 110, 101, 100]⟩⟩))), (.lit (.str (⟨⟨[99]⟩⟩))), (.lit (.str (⟨⟨[98]⟩⟩)))]), (.tup [(.lit (.str (⟨⟨[106, 111, 105, 110, 101, 100]⟩⟩))), (.lit (.str (⟨⟨[97]⟩⟩))), (.lit (.str (⟨⟨[98]⟩⟩)))])]), (.tup [(.lit (.str (⟨⟨[106, 111, 105, 110, 101, 100]⟩⟩))), (.tup [(.lit (.str (⟨⟨[97]⟩⟩))), (.lit (.str (⟨⟨[98]⟩⟩))), (.lit (.str (⟨⟨[99]⟩⟩)))])])]))), (.ex (.app (.var 0) (.tup [(.tup [(.lit (.str (⟨⟨[106, 111, 105, 110, 101, 100]⟩⟩))), (.lit (.str (⟨⟨[98]⟩⟩))), (.tup [(.lit (.str (⟨⟨[109, 101, 116]⟩⟩))), (.lit (.str (⟨⟨[97]⟩⟩))), (.var 2)])]), (.tup [(.lit (.str (⟨⟨[106, 111, 105, 110, 101, 100]⟩⟩))), (.tup [(.tup [(.lit (.str (⟨⟨[109, 101, 116]⟩⟩))), (.tup [(.tup [(.lit (.str (⟨⟨[106, 111, 105, 110, 101, 100]⟩⟩))), (.tup [(.lit (.str (⟨⟨[98]⟩⟩))), (.lit (.str (⟨⟨[99]⟩⟩)))])]), (.lit (.str (⟨⟨[97]⟩⟩)))])]), (.lit (.str (⟨⟨[98]⟩⟩)))])])]))), (.ex (.app (.var 0) (.tup [(.tup [(.lit (.str (⟨⟨[106, 111, 105, 110, 101, 100]⟩⟩))), (.lit (.str (⟨⟨[98]⟩⟩))), (.tup [(.lit (.str (⟨⟨[109, 101, 116]⟩⟩))), (.var 2), (.lit (.str (⟨⟨[99]⟩⟩)))])]), (.tup [(.lit (.str (⟨⟨[106, 111, 105, 110, 101, 100]⟩⟩))), (.tup [(.lit (.str (⟨⟨[98]⟩⟩))), (.lit (.str (⟨⟨[99]⟩⟩)))])])]))), (.ex (.app (.var 0) (.tup [(.tup [(.lit (.str (⟨⟨[109, 101, 116]⟩⟩))), (.tup [(.lit (.str (⟨⟨[106, 111, 105, 110, 101, 100]⟩⟩))), (.lit (.str (⟨⟨[97]⟩⟩))), (.lit (.str (⟨⟨[98]⟩⟩)))]), (.tup [(.lit (.str (⟨⟨[106, 111, 105, 110, 101, 100]⟩⟩))), (.var 1), (.lit (.str (⟨⟨[97]⟩⟩)))])]), (.lit (.str (⟨⟨[97]⟩⟩)))]))), (.ex (.app (.var 0) (.tup [(.tup [(.lit (.str (⟨⟨[106, 111, 105, 110, 101, 100]⟩⟩))), (.var 2), (.tup [(.lit (.str (⟨⟨[109, 101, 116]⟩⟩))), (.lit (.str (⟨⟨[97]⟩⟩))), (.var 2)])]), (.tup [(.lit (.str (⟨⟨[106, 111, 105, 110, 101, 100]⟩⟩))), (.tup [(.lit (.str (⟨⟨[98]⟩⟩))), (.lit (.str (⟨⟨[99]⟩⟩)))])])]))), (.ret (.var 0))]⟩
def d__law_rows : Df := ⟨none, ⟨⟨[95, 108, 97, 119, 95, 114, 111, 119, 115]⟩⟩, [⟨⟨[95, 108, 97, 119, 95, 114, 111, 119, 115, 95, 104, 101, 114, 101]⟩⟩, ⟨⟨[95, 108, 97, 119, 95, 97, 98]⟩⟩, ⟨⟨[95, 108, 97, 119, 95, 98, 99]⟩⟩], f__law_rows⟩
def f__law_hand_right : Fn := ⟨0, 7, [(.set 0 (.tup [(.lit (.str (⟨⟨[97]⟩⟩))), (.lit (.str (⟨⟨[98]⟩⟩))), (.lit (.str (⟨⟨[99]⟩⟩)))])), (.loop (.tup [2, 3]) (.val (.pcall 23 [])) [(.ife (.or (.cmp .ne (.call 14 [(.var 0), (.var 2)]) (.var 3)) (.cmp .nsb (.call 12 [(.var 0), (.var 2), (.tup [(.lit (.str (⟨⟨[109, 101, 116]⟩⟩))), (.var 2), (.var 2)])]) (.lit (.bl true)))) [(.ret (.lit (.bl false)))] [])]), (.unp [4, 5] (.tup [(.tup [(.lit (.str (⟨⟨[109, 101, 116]⟩⟩))), (.lit (.str (⟨⟨[97]⟩⟩))), (.tup [(.lit (.str (⟨⟨[106, 111, 105, 110, 101, 100]⟩⟩))), (.lit (.str (⟨⟨[98]⟩⟩))), (.lit (.str (⟨⟨[99]⟩⟩)))])]), (.tup [(.lit (.str (⟨⟨[106, 111, 105, 110, 101, 100]⟩⟩))), (.tup [(.lit (.str (⟨⟨[109, 101, 116]⟩⟩))), (.lit (.str (⟨⟨[97]⟩⟩))), (.lit (.str (⟨⟨[98]⟩⟩)))]), (.tup [(.lit (.str (⟨⟨[109, 101, 116]⟩⟩))), (.lit (.str (⟨⟨[97]⟩⟩))), (.lit (.str (⟨⟨[99]⟩⟩)))])])])), (.set 1 (.lst [(.call 11 [(.var 0), (.var 5), (.var 4)]), (.call 11 [(.var 0), (.var 4), (.var 5)])])), (.ex (.app (.var 1) (.call 11 [(.var 0), (.lit (.str (⟨⟨[97]⟩⟩))), (.tup [(.lit (.str (⟨⟨[106, 111, 105, 110, 101, 100]⟩⟩))), (.lit (.str (⟨⟨[98]⟩⟩))), (.lit (.str (⟨⟨[97]⟩⟩)))])]))), (.ife (.or (.cmp .ne (.var 1) (.lst [(.lit (.bl true)), (.lit (.bl false)), (.lit (.bl true))])) (.cmp .nsb (.call 12 [(.var 0), (.var 5), (.var 4)]) (.lit (.bl false)))) [(.ret (.lit (.bl false)))] []), (.set 1 (.lst [(.call 16 [(.var 0), (.var 5)]), (.call 17 [(.var 0), (.var 5)]), (.call 17 [(.var 0), (.tup [(.lit (.str (⟨⟨[109, 101, 116]⟩⟩))), (.lit (.str (⟨⟨[97]⟩⟩))), (.lit (.str (⟨⟨[97]⟩⟩)))])])])), (.ife (.or (.cmp .ne (.var 1) (.lst [(.lit (.int 4)), (.lit (.bl true)), (.lit (.bl false))])) (.cmp .ne (.call 16 [(.var 0), (.tup [(.lit (.str (⟨⟨[106, 111, 105, 110, 101, 100]⟩⟩))), (.var 4), (.lit (.str (⟨⟨[97]⟩⟩)))])]) (.lit (.int 1)))) [(.ret (.lit (.bl false)))] []), (.ife (.or (.cmp .ne (.call 18 [(.var 0), (.call 14 [(.var 0), (.var 5)])]) (.lit (.str (⟨⟨[40, 40, 97, 38, 98, 41, 124, 40, 97, 38, 99, 41, 41]⟩⟩)))) (.cmp .ne (.call 18 [(.var 0), (.lit (.str (⟨⟨[99]⟩⟩)))]) (.lit (.str (⟨⟨[99]⟩⟩))))) [(.ret (.lit (.bl false)))] []), (.ife (.cmp .ne (.call 18 [(.var 0), (.tup [(.lit (.str (⟨⟨[109, 101, 116]⟩⟩))), (.tup [(.tup [(.lit (.str (⟨⟨[106, 111, 105, 110, 101, 100]⟩⟩))), (.tup [(.lit (.str (⟨⟨[98]⟩⟩))), (.lit (.str (⟨⟨[99]⟩⟩)))])]), (.lit (.str (⟨⟨[97]⟩⟩)))])])]) (.lit (.str (⟨⟨[40, 40, 98, 124, 99, 41, 38, 97, 41]⟩⟩)))) [(.ret (.lit (.bl false)))] []), (.set 1 (.lst [(.call 19 [(.var 0), (.var 4), (.lit (.str (⟨⟨[106, 111, 105, 110, 101, 100]⟩⟩)))]), (.call 19 [(.var 0), (.var 4), (.lit (.str (⟨⟨[109, 101, 116]⟩⟩)))]), (.call 19 [(.var 0), (.var 5), (.lit (.str (⟨⟨[109, 101, 116]⟩⟩)))])])), (.ex (.app (.var 1) (.call 19 [(.var 0), (.lit (.str (⟨⟨[97]⟩⟩))), (.lit (.str (⟨⟨[109, 101, 116]⟩⟩)))]))), (.ife (.cmp .ne (.var 1) (.lst [(.lit (.bl false)), (.lit (.bl false)), (.lit (.bl false)), (.lit (.bl true))])) [(.ret (.lit (.bl false)))] []), (.ret (.cmp .eq (.comp [6] (.name 6) (.val (.tup [(.lit (.str (⟨⟨[106, 111, 105, 110, 101, 100]⟩⟩))), (.lit (.str (⟨⟨[109, 101, 116]⟩⟩)))])) none (.call 19 [(.var 0), (.tup [(.lit (.str (⟨⟨[109, 101, 116]⟩⟩))), (.lit (.str (⟨⟨[97]⟩⟩))), (.lit (.str (⟨⟨[98]⟩⟩)))]), (.var 6)])) (.lst [(.lit (.bl true)), (.lit (.bl false))])))]⟩
def d__law_hand_right : Df := ⟨none, ⟨⟨[95, 108, 97, 119, 95, 104, 97, 110, 100, 95, 114, 105, 103, 104, 116]⟩⟩, [⟨⟨[95, 108, 97, 119, 95, 110, 97, 109, 101, 115]⟩⟩, ⟨⟨[95, 108, 97, 119, 95, 116, 111, 108, 100]⟩⟩, ⟨⟨[95, 108, 97, 119, 95, 116, 101, 114, 109]⟩⟩, ⟨⟨[95, 108, 97, 119, 95, 102, 111, 114, 109]⟩⟩, ⟨⟨[95, 108, 97, 119, 95, 111, 110, 101]⟩⟩, ⟨⟨[95, 108, 97, 119, 95, 115, 112, 114, 101, 97, 100]⟩⟩, ⟨⟨[95, 108, 97, 119, 95, 119, 111, 114, 100]⟩⟩], f__law_hand_right⟩
def f__law_great_right : Fn := ⟨0, 8, [(.unp [4, 5] (.tup [(.tup [(.lit (.str (⟨⟨[97]⟩⟩))), (.lit (.str (⟨⟨[98]⟩⟩))), (.lit (.str (⟨⟨[99]⟩⟩))), (.lit (.str (⟨⟨[100]⟩⟩))), (.lit (.str (⟨⟨[101]⟩⟩))), (.lit (.str (⟨⟨[102]⟩⟩))), (.lit (.str (⟨⟨[103]⟩⟩))), (.lit (.str (⟨⟨[104]⟩⟩)))]), (.lst [])])), (.loop (.name 0) (.rng1 (.lit (.int 7))) [(.set 5 (.bin .add (.var 5) (.comp [6] (.name 6) (.val (.slc (.var 4) (some (.bin .add (.var 0) (.lit (.int 1)))) none)) none (.tup [(.lit (.str (⟨⟨[109, 101, 116]⟩⟩))), (.tup [(.sub (.var 4) (.var 0)), (.var 6)])]))))]), (.set 1 (.bin .add (.bin .add (.lit (.str (⟨⟨[40]⟩⟩))) (.join (.lit (.str (⟨⟨[124]⟩⟩))) (.comp [7] (.name 7) (.val (.slc (.var 5) none (some (.lit (.int 15))))) none (.bin .add (.bin .add (.bin .add (.bin .add (.lit (.str (⟨⟨[40]⟩⟩))) (.sub (.sub (.var 7) (.lit (.int 1))) (.lit (.int 0)))) (.lit (.str (⟨⟨[38]⟩⟩)))) (.sub (.sub (.var 7) (.lit (.int 1))) (.lit (.int 1)))) (.lit (.str (⟨⟨[41]⟩⟩))))))) (.lit (.str (⟨⟨[41]⟩⟩))))), (.set 2 (.lst [(.said 0 (.call 18 [(.var 4), (.tup [(.lit (.str (⟨⟨[106, 111, 105, 110, 101, 100]⟩⟩))), (.bi .tuple [(.slc (.var 5) none (some (.lit (.int 15))))])])]))])), (.set 3 (.tup [(.lit (.str (⟨⟨[106, 111, 105, 110, 101, 100]⟩⟩))), (.bi .tuple [(.slc (.var 5) none (some (.lit (.int 16))))])])), (.ret (.and (.cmp .eq (.var 2) (.lst [(.lst [(.var 1)])])) (.cmp .eq (.said 0 (.call 18 [(.var 4), (.var 3)])) (.tup [(.lit (.str (⟨⟨[102, 111, 114, 109]⟩⟩))), (.var 3)]))))]⟩
def d__law_great_right : Df := ⟨none, ⟨⟨[95, 108, 97, 119, 95, 103, 114, 101, 97, 116, 95, 114, 105, 103, 104, 116]⟩⟩, [⟨⟨[95, 108, 97, 119, 95, 107]⟩⟩, ⟨⟨[95, 108, 97, 119, 95, 100, 117, 101]⟩⟩, ⟨⟨[95, 108, 97, 119, 95, 116, 111, 108, 100]⟩⟩, ⟨⟨[95, 108, 97, 119, 95, 103, 114, 101, 97, 116]⟩⟩, ⟨⟨[95, 108, 97, 119, 95, 110, 97, 109, 101, 115]⟩⟩, ⟨⟨[95, 108, 97, 119, 95, 114, 111, 119, 115, 95, 104, 101, 114, 101]⟩⟩, ⟨⟨[95, 108, 97, 119, 95, 111, 116, 104, 101, 114]⟩⟩, ⟨⟨[95, 108, 97, 119, 95, 114, 111, 119]⟩⟩], f__law_great_right⟩
def f__law_refused_right : Fn := ⟨1, 13, [(.unp [9, 11] (.tup [(.tup [(.lit (.str (⟨⟨[97]⟩⟩))), (.lit (.str (⟨⟨[98]⟩⟩)))]), (.call 22 [(.var 0), (.lst [(.lit .non), (.lit (.int 5)), (.tup []), (.lit (.str (⟨⟨[97]⟩⟩))), (.tup [(.lit (.str (⟨⟨[98]⟩⟩))), (.lit (.str (⟨⟨[97]⟩⟩)))]), (.lst [(.lit (.str (⟨⟨[97]⟩⟩)))]), .dnewK, (.tup [(.lit (.str (⟨⟨[97]⟩⟩))), (.lit (.str (⟨⟨[65]⟩⟩)))])])])])), (.rest 11 [] [(.set 1 (.get1 (.dspE [((.rpr (.tup [(.lit (.str (⟨⟨[98]⟩⟩))), (.lit (.str (⟨⟨[97]⟩⟩)))])), (.lit (.int 1))), ((.rpr (.tup [(.lit (.str (⟨⟨[97]⟩⟩))), (.lit (.str (⟨⟨[65]⟩⟩)))])), (.lit (.int 1)))]) (.rpr (.var 11)))), (.set 2 (.lst [(.said 0 (.call 11 [(.var 11), (.lit .non), (.lit .non)])), (.said 0 (.call 12 [(.var 11), (.lit .non), (.lit .non)]))])), (.set 2 (.bin .add (.var 2) (.lst [(.said 0 (.call 14 [(.var 11), (.lit .non)])), (.said 0 (.call 16 [(.var 11), (.lit .non)]))]))), (.set 2 (.bin .add (.var 2) (.lst [(.said 0 (.call 17 [(.var 11), (.lit .non)])), (.said 0 (.call 18 [(.var 11), (.lit .non)]))]))), (.ife (.cmp .ne (.bin .add (.var 2) (.lst [(.said 0 (.call 19 [(.var 11), (.lit .non), (.lit .non)]))])) (.bin .mul (.lst [(.tup [(.lit (.str (⟨⟨[110, 97, 109, 101, 115]⟩⟩))), (.var 1)])]) (.lit (.int 7)))) [(.ret (.lit (.bl false)))] []), (.rest 9 [0, 1, 2, 3, 4, 5, 6, 7, 8, 10, 11, 12] [(.set 3 (.lit (.str (⟨⟨[97]⟩⟩)))), (.loop (.name 4) (.rng1 (.lit (.int 12))) [(.set 3 (.tup [(.lit (.str (⟨⟨[109, 101, 116]⟩⟩))), (.var 3), (.lit (.str (⟨⟨[98]⟩⟩)))]))]), (.set 5 (.lst [(.lit .non), (.lit (.int 5)), (.lit (.str (⟨⟨[99]⟩⟩))), (.tup []), (.tup [(.lit (.str (⟨⟨[109, 101, 116]⟩⟩))), (.lit (.str (⟨⟨[97]⟩⟩)))]), (.tup [(.lit (.str (⟨⟨[97, 110, 100]⟩⟩))), (.lit (.str (⟨⟨[97]⟩⟩))), (.lit (.str (⟨⟨[98]⟩⟩)))]), (.lst [(.lit (.str (⟨⟨[109, 101, 116]⟩⟩))), (.lit (.str (⟨⟨[97]⟩⟩))), (.lit (.str (⟨⟨[98]⟩⟩)))]), (.tup [(.lit (.str (⟨⟨[109, 101, 116]⟩⟩))), (.lit (.str (⟨⟨[97]⟩⟩))), (.lit .non)]), (.var 3)])), (.loop (.name 6) (.val (.bin .add (.var 5) (.lst [(.tup [(.lit (.str (⟨⟨[109, 101, 116]⟩⟩))), (.tup [(.lit (.str (⟨⟨[97]⟩⟩))), (.lit (.str (⟨⟨[98]⟩⟩)))])])]))) [(.set 2 (.lst [(.said 0 (.call 11 [(.var 9), (.var 6), (.lit .non)])), (.said 0 (.call 11 [(.var 9), (.lit (.str (⟨⟨[97]⟩⟩))), (.var 6)]))])), (.ex (.app (.var 2) (.said 0 (.call 12 [(.var 9), (.lit (.str (⟨⟨[97]⟩⟩))), (.var 6)])))), (.ex (.app (.var 2) (.said 0 (.call 14 [(.var 9), (.var 6)])))), (.set 2 (.bin .add (.var 2) (.lst [(.said 0 (.call 16 [(.var 9), (.var 6)])), (.said 0 (.call 19 [(.var 9), (.var 6), (.lit .non)]))]))), (.ife (.cmp .ne (.rpr (.bin .add (.var 2) (.lst [(.said 0 (.call 17 [(.var 9), (.var 6)]))]))) (.rpr (.bin .mul (.lst [(.tup [(.lit (.str (⟨⟨[116, 101, 114, 109]⟩⟩))), (.var 6)])]) (.lit (.int 7))))) [(.ret (.lit (.bl false)))] [])]), (.rest 9 [0, 1, 2, 3, 4, 5, 6, 7, 8, 10, 11, 12] [(.set 7 (.tup [(.lit (.str (⟨⟨[109, 101, 116]⟩⟩))), (.tup [(.lit (.str (⟨⟨[97]⟩⟩))), (.lit (.str (⟨⟨[98]⟩⟩)))])])), (.set 8 (.lst [(.lit .non), (.lit (.int 5)), (.lit (.str (⟨⟨[122]⟩⟩))), (.tup []), (.tup [(.lit (.str (⟨⟨[109, 101, 116]⟩⟩))), (.tup [(.lit (.str (⟨⟨[97]⟩⟩)))])]), (.tup [(.lit (.str (⟨⟨[109, 101, 116]⟩⟩))), (.tup [(.lit (.str (⟨⟨[98]⟩⟩))), (.lit (.str (⟨⟨[97]⟩⟩)))])]), (.tup [(.lit (.str (⟨⟨[109, 101, 116]⟩⟩))), (.tup [(.lit (.str (⟨⟨[97]⟩⟩))), (.lit (.str (⟨⟨[97]⟩⟩)))])]), (.tup [(.lit (.str (⟨⟨[109, 101, 116]⟩⟩))), (.lit (.str (⟨⟨[97]⟩⟩))), (.lit (.str (⟨⟨[98]⟩⟩)))])])), (.set 8 (.bin .add (.var 8) (.lst [(.tup [(.lit (.str (⟨⟨[97, 110, 100]⟩⟩))), (.tup [(.lit (.str (⟨⟨[97]⟩⟩))), (.lit (.str (⟨⟨[98]⟩⟩)))])]), (.tup [(.lit (.str (⟨⟨[109, 101, 116]⟩⟩))), (.lst [(.lit (.str (⟨⟨[97]⟩⟩))), (.lit (.str (⟨⟨[98]⟩⟩)))])]), (.bi .list [(.var 7)]), (.tup [(.lit (.str (⟨⟨[109, 101, 116]⟩⟩))), (.tup [(.var 7), (.lit (.str (⟨⟨[98]⟩⟩)))])])]))), (.ex (.app (.var 8) (.tup [(.lit (.str (⟨⟨[106, 111, 105, 110, 101, 100]⟩⟩))), (.tup [(.var 7), (.lit (.str (⟨⟨[97]⟩⟩)))])]))), (.set 9 (.tup [(.lit (.str (⟨⟨[97]⟩⟩))), (.lit (.str (⟨⟨[98]⟩⟩))), (.lit (.str (⟨⟨[99]⟩⟩)))])), (.ex (.app (.var 8) (.tup [(.lit (.str (⟨⟨[106, 111, 105, 110, 101, 100]⟩⟩))), (.tup [(.tup [(.lit (.str (⟨⟨[109, 101, 116]⟩⟩))), (.tup [(.tup [(.lit (.str (⟨⟨[106, 111, 105, 110, 101, 100]⟩⟩))), (.tup [(.lit (.str (⟨⟨[98]⟩⟩))), (.lit (.str (⟨⟨[99]⟩⟩)))])]), (.lit (.str (⟨⟨[97]⟩⟩)))])]), (.lit (.str (⟨⟨[98]⟩⟩))), (.lit (.str (⟨⟨[99]⟩⟩)))])]))), (.set 2 (.comp [6] (.name 6) (.val (.var 8)) none (.said 0 (.call 18 [(.var 9), (.var 6)])))), (.ife (.cmp .ne (.rpr (.var 2)) (.rpr (.comp [6] (.name 6) (.val (.var 8)) none (.tup [(.lit (.str (⟨⟨[102, 111, 114, 109]⟩⟩))), (.var 6)])))) [(.ret (.lit (.bl false)))] []), (.rest 9 [0, 1, 2, 3, 4, 5, 6, 7, 8, 10, 11, 12] [(.set 10 (.lst [(.lit .non), (.lit (.str (⟨⟨[97, 110, 100]⟩⟩))), (.lit (.str (⟨⟨[]⟩⟩))), (.lit (.int 5)), (.tup [(.lit (.str (⟨⟨[109, 101, 116]⟩⟩)))]), (.lit (.str (⟨⟨[77, 101, 116]⟩⟩)))])), (.set 2 (.comp [12] (.name 12) (.val (.var 10)) none (.said 0 (.call 19 [(.var 9), (.lit (.str (⟨⟨[97]⟩⟩))), (.var 12)])))), (.ret (.cmp .eq (.rpr (.var 2)) (.rpr (.comp [12] (.name 12) (.val (.var 10)) none (.tup [(.lit (.str (⟨⟨[102, 111, 114, 109]⟩⟩))), (.var 12)])))))])])])])]⟩
def d__law_refused_right : Df := ⟨none, ⟨⟨[95, 108, 97, 119, 95, 114, 101, 102, 117, 115, 101, 100, 95, 114, 105, 103, 104, 116]⟩⟩, [⟨⟨[95, 108, 97, 119, 95, 109]⟩⟩, ⟨⟨[95, 108, 97, 119, 95, 110, 117, 109, 98, 101, 114]⟩⟩, ⟨⟨[95, 108, 97, 119, 95, 116, 111, 108, 100]⟩⟩, ⟨⟨[95, 108, 97, 119, 95, 100, 101, 101, 112]⟩⟩, ⟨⟨[95, 108, 97, 119, 95, 107]⟩⟩, ⟨⟨[95, 108, 97, 119, 95, 115, 111, 109, 101]⟩⟩, ⟨⟨[95, 108, 97, 119, 95, 116, 104, 105, 110, 103]⟩⟩, ⟨⟨[95, 108, 97, 119, 95, 112, 97, 105, 114]⟩⟩, ⟨⟨[95, 108, 97, 119, 95, 102, 111, 114, 109, 115]⟩⟩, ⟨⟨[95, 108, 97, 119, 95, 110, 97, 109, 101, 115]⟩⟩, ⟨⟨[95, 108, 97, 119, 95, 119, 111, 114, 100, 115]⟩⟩, ⟨⟨[95, 108, 97, 119, 95, 111, 100, 100]⟩⟩, ⟨⟨[95, 108, 97, 119, 95, 119, 111, 114, 100]⟩⟩], f__law_refused_right⟩
def f_law : Fn := ⟨1, 3, [(.set 1 (.call 20 [(.var 0)])), (.loop (.name 2) (.rng1 (.bin .add (.lit (.int 1)) (.bi .min [(.bi .len [(.var 0)]), (.lit (.int 4))]))) [(.ife (.not (.call 26 [(.var 1)])) [(.ret (.lit (.bl false)))] [])]), (.ret (.and (.pcall 24 []) (.pcall 25 [])))]⟩
def d_law : Df := ⟨none, ⟨⟨[108, 97, 119]⟩⟩, [⟨⟨[95, 108, 97, 119, 95, 115, 99, 114, 105, 112, 116]⟩⟩, ⟨⟨[95, 108, 97, 119, 95, 109]⟩⟩, ⟨⟨[95, 108, 97, 119, 95, 116, 117, 114, 110]⟩⟩], f_law⟩
def f_Writings___init__ : Fn := ⟨1, 1, [(.setf (.var 0) (⟨⟨[105, 110, 110, 101, 114]⟩⟩) .dnewK), (.setf (.var 0) (⟨⟨[107, 110, 111, 119, 110]⟩⟩) .dnewT)]⟩
def d_Writings___init__ : Df := ⟨some 0, ⟨⟨[95, 95, 105, 110, 105, 116, 95, 95]⟩⟩, [⟨⟨[115, 101, 108, 102]⟩⟩], f_Writings___init__⟩
def f_Writings_put_name : Fn := ⟨2, 2, [(.put (.fld (.var 0) (⟨⟨[105, 110, 110, 101, 114]⟩⟩)) (.var 1) (.tup [(.lit (.str (⟨⟨[]⟩⟩))), (.tup [])])), (.ret (.var 1))]⟩
def d_Writings_put_name : Df := ⟨some 0, ⟨⟨[112, 117, 116, 95, 110, 97, 109, 101]⟩⟩, [⟨⟨[115, 101, 108, 102]⟩⟩, ⟨⟨[110, 97, 109, 101]⟩⟩], f_Writings_put_name⟩
def f_Writings_put : Fn := ⟨3, 5, [(.set 3 (.bi .tuple [(.srt (.var 2))])), (.set 4 (.bin .add (.bin .add (.lit (.str (⟨⟨[40]⟩⟩))) (.join (.gsub 0 (.var 1)) (.var 3))) (.lit (.str (⟨⟨[41]⟩⟩))))), (.put (.fld (.var 0) (⟨⟨[105, 110, 110, 101, 114]⟩⟩)) (.var 4) (.tup [(.var 1), (.var 3)])), (.ret (.var 4))]⟩
def d_Writings_put : Df := ⟨some 0, ⟨⟨[112, 117, 116]⟩⟩, [⟨⟨[115, 101, 108, 102]⟩⟩, ⟨⟨[119, 111, 114, 100]⟩⟩, ⟨⟨[115, 111, 109, 101]⟩⟩, ⟨⟨[114, 111, 119, 115]⟩⟩, ⟨⟨[102, 111, 117, 110, 100]⟩⟩], f_Writings_put⟩
def f_Writings_sides_by : Fn := ⟨3, 5, [(.unp [3, 4] (.sub (.fld (.var 0) (⟨⟨[105, 110, 110, 101, 114]⟩⟩)) (.var 2))), (.ret (.ife (.cmp .eq (.var 3) (.var 1)) (.var 4) (.tup [(.var 2)])))]⟩
def d_Writings_sides_by : Df := ⟨some 0, ⟨⟨[115, 105, 100, 101, 115, 95, 98, 121]⟩⟩, [⟨⟨[115, 101, 108, 102]⟩⟩, ⟨⟨[119, 111, 114, 100]⟩⟩, ⟨⟨[111, 110, 101]⟩⟩, ⟨⟨[111, 119, 110]⟩⟩, ⟨⟨[114, 111, 119, 115]⟩⟩], f_Writings_sides_by⟩
def f_Writings_does_lie : Fn := ⟨3, 3, [(.ife (.cmp .nin (.tup [(.var 1), (.var 2)]) (.fld (.var 0) (⟨⟨[107, 110, 111, 119, 110]⟩⟩))) [(.put (.fld (.var 0) (⟨⟨[107, 110, 111, 119, 110]⟩⟩)) (.tup [(.var 1), (.var 2)]) (.meth 0 33 (⟨⟨[108, 105, 101, 115, 95, 98, 121, 95, 115, 105, 100, 101, 115]⟩⟩) (.var 0) [(.var 1), (.var 2)]))] []), (.ret (.sub (.fld (.var 0) (⟨⟨[107, 110, 111, 119, 110]⟩⟩)) (.tup [(.var 1), (.var 2)])))]⟩
def d_Writings_does_lie : Df := ⟨some 0, ⟨⟨[100, 111, 101, 115, 95, 108, 105, 101]⟩⟩, [⟨⟨[115, 101, 108, 102]⟩⟩, ⟨⟨[111, 110, 101]⟩⟩, ⟨⟨[111, 116, 104, 101, 114]⟩⟩], f_Writings_does_lie⟩
def f_Writings_lies_by_sides : Fn := ⟨3, 6, [(.ife (.cmp .eq (.var 1) (.var 2)) [(.ret (.lit (.bl true)))] []), (.par 3 4 (.sub (.fld (.var 0) (⟨⟨[105, 110, 110, 101, 114]⟩⟩)) (.var 1)) (.sub (.fld (.var 0) (⟨⟨[105, 110, 110, 101, 114]⟩⟩)) (.var 2))), (.ife (.cmp .eq (.sub (.var 3) (.lit (.int 0))) (.glb (⟨⟨[74, 79, 73, 78, 69, 68]⟩⟩) (.str (⟨⟨[106, 111, 105, 110, 101, 100]⟩⟩)))) [(.ret (.bi .all [(.comp [5] (.name 5) (.val (.sub (.var 3) (.lit (.int 1)))) none (.meth 0 32 (⟨⟨[100, 111, 101, 115, 95, 108, 105, 101]⟩⟩) (.var 0) [(.var 5), (.var 2)]))]))] []), (.ife (.cmp .eq (.sub (.var 4) (.lit (.int 0))) (.glb (⟨⟨[77, 69, 84]⟩⟩) (.str (⟨⟨[109, 101, 116]⟩⟩)))) [(.ret (.bi .all [(.comp [5] (.name 5) (.val (.sub (.var 4) (.lit (.int 1)))) none (.meth 0 32 (⟨⟨[100, 111, 101, 115, 95, 108, 105, 101]⟩⟩) (.var 0) [(.var 1), (.var 5)]))]))] []), (.ife (.and (.cmp .eq (.sub (.var 3) (.lit (.int 0))) (.glb (⟨⟨[77, 69, 84]⟩⟩) (.str (⟨⟨[109, 101, 116]⟩⟩)))) (.bi .any [(.comp [5] (.name 5) (.val (.sub (.var 3) (.lit (.int 1)))) none (.meth 0 32 (⟨⟨[100, 111, 101, 115, 95, 108, 105, 101]⟩⟩) (.var 0) [(.var 5), (.var 2)]))])) [(.ret (.lit (.bl true)))] []), (.ret (.and (.cmp .eq (.sub (.var 4) (.lit (.int 0))) (.glb (⟨⟨[74, 79, 73, 78, 69, 68]⟩⟩) (.str (⟨⟨[106, 111, 105, 110, 101, 100]⟩⟩)))) (.bi .any [(.comp [5] (.name 5) (.val (.sub (.var 4) (.lit (.int 1)))) none (.meth 0 32 (⟨⟨[100, 111, 101, 115, 95, 108, 105, 101]⟩⟩) (.var 0) [(.var 1), (.var 5)]))])))]⟩
def d_Writings_lies_by_sides : Df := ⟨some 0, ⟨⟨[108, 105, 101, 115, 95, 98, 121, 95, 115, 105, 100, 101, 115]⟩⟩, [⟨⟨[115, 101, 108, 102]⟩⟩, ⟨⟨[111, 110, 101]⟩⟩, ⟨⟨[111, 116, 104, 101, 114]⟩⟩, ⟨⟨[109, 105, 110, 101]⟩⟩, ⟨⟨[121, 111, 117, 114, 115]⟩⟩, ⟨⟨[115, 105, 100, 101]⟩⟩], f_Writings_lies_by_sides⟩
def f_Writings_is_within : Fn := ⟨4, 4, [(.ret (.ife (.cmp .eq (.var 1) (.glb (⟨⟨[74, 79, 73, 78, 69, 68]⟩⟩) (.str (⟨⟨[106, 111, 105, 110, 101, 100]⟩⟩)))) (.meth 0 32 (⟨⟨[100, 111, 101, 115, 95, 108, 105, 101]⟩⟩) (.var 0) [(.var 2), (.var 3)]) (.meth 0 32 (⟨⟨[100, 111, 101, 115, 95, 108, 105, 101]⟩⟩) (.var 0) [(.var 3), (.var 2)])))]⟩
def d_Writings_is_within : Df := ⟨some 0, ⟨⟨[105, 115, 95, 119, 105, 116, 104, 105, 110]⟩⟩, [⟨⟨[115, 101, 108, 102]⟩⟩, ⟨⟨[119, 111, 114, 100]⟩⟩, ⟨⟨[111, 110, 101]⟩⟩, ⟨⟨[111, 116, 104, 101, 114]⟩⟩], f_Writings_is_within⟩
def f_Writings_without_more : Fn := ⟨3, 6, [(.set 3 (.lst [])), (.loop (.name 4) (.val (.var 2)) [(.ife (.not (.bi .any [(.comp [5] (.name 5) (.val (.var 3)) none (.meth 0 34 (⟨⟨[105, 115, 95, 119, 105, 116, 104, 105, 110]⟩⟩) (.var 0) [(.var 1), (.var 4), (.var 5)]))])) [(.set 3 (.bin .add (.comp [5] (.name 5) (.val (.var 3)) (some (.not (.meth 0 34 (⟨⟨[105, 115, 95, 119, 105, 116, 104, 105, 110]⟩⟩) (.var 0) [(.var 1), (.var 5), (.var 4)]))) (.var 5)) (.lst [(.var 4)])))] [])]), (.ret (.var 3))]⟩
def d_Writings_without_more : Df := ⟨some 0, ⟨⟨[119, 105, 116, 104, 111, 117, 116, 95, 109, 111, 114, 101]⟩⟩, [⟨⟨[115, 101, 108, 102]⟩⟩, ⟨⟨[119, 111, 114, 100]⟩⟩, ⟨⟨[115, 111, 109, 101]⟩⟩, ⟨⟨[107, 101, 112, 116]⟩⟩, ⟨⟨[111, 110, 101]⟩⟩, ⟨⟨[111, 116, 104, 101, 114]⟩⟩], f_Writings_without_more⟩
def f_Writings_shorter : Fn := ⟨3, 7, [(.set 3 (.sub (.sub (.fld (.var 0) (⟨⟨[105, 110, 110, 101, 114]⟩⟩)) (.var 2)) (.lit (.int 1)))), (.loop (.name 4) (.val (.var 3)) [(.loop (.name 5) (.val (.meth 0 31 (⟨⟨[115, 105, 100, 101, 115, 95, 98, 121]⟩⟩) (.var 0) [(.gsub 1 (.var 1)), (.var 4)])) [(.ife (.and (.cmp .ne (.var 5) (.var 4)) (.meth 0 34 (⟨⟨[105, 115, 95, 119, 105, 116, 104, 105, 110]⟩⟩) (.var 0) [(.var 1), (.var 5), (.var 2)])) [(.ret (.bin .add (.comp [6] (.name 6) (.val (.var 3)) (some (.cmp .ne (.var 6) (.var 4))) (.var 6)) (.bi .list [(.meth 0 31 (⟨⟨[115, 105, 100, 101, 115, 95, 98, 121]⟩⟩) (.var 0) [(.var 1), (.var 5)])])))] [])])]), (.ret (.lit .non))]⟩
def d_Writings_shorter : Df := ⟨some 0, ⟨⟨[115, 104, 111, 114, 116, 101, 114]⟩⟩, [⟨⟨[115, 101, 108, 102]⟩⟩, ⟨⟨[119, 111, 114, 100]⟩⟩, ⟨⟨[119, 104, 111, 108, 101]⟩⟩, ⟨⟨[114, 111, 119, 115]⟩⟩, ⟨⟨[111, 110, 101]⟩⟩, ⟨⟨[115, 105, 100, 101]⟩⟩, ⟨⟨[111, 116, 104, 101, 114]⟩⟩], f_Writings_shorter⟩
def f_Writings_shortest : Fn := ⟨3, 8, [(.set 3 (.comp2 [6, 7] [7] (.name 6) (.val (.var 2)) none (.name 7) (.val (.meth 0 31 (⟨⟨[115, 105, 100, 101, 115, 95, 98, 121]⟩⟩) (.var 0) [(.var 1), (.var 6)])) none (.var 7))), (.whl (.cmp .nsb (.var 3) (.lit .non)) [(.set 4 (.meth 0 35 (⟨⟨[119, 105, 116, 104, 111, 117, 116, 95, 109, 111, 114, 101]⟩⟩) (.var 0) [(.var 1), (.var 3)])), (.ife (.cmp .eq (.bi .len [(.var 4)]) (.lit (.int 1))) [(.ret (.sub (.var 4) (.lit (.int 0))))] []), (.set 5 (.meth 0 30 (⟨⟨[112, 117, 116]⟩⟩) (.var 0) [(.var 1), (.var 4)])), (.set 3 (.meth 0 36 (⟨⟨[115, 104, 111, 114, 116, 101, 114]⟩⟩) (.var 0) [(.var 1), (.var 5)]))]), (.ret (.var 5))]⟩
def d_Writings_shortest : Df := ⟨some 0, ⟨⟨[115, 104, 111, 114, 116, 101, 115, 116]⟩⟩, [⟨⟨[115, 101, 108, 102]⟩⟩, ⟨⟨[119, 111, 114, 100]⟩⟩, ⟨⟨[115, 111, 109, 101]⟩⟩, ⟨⟨[114, 111, 119, 115]⟩⟩, ⟨⟨[107, 101, 112, 116]⟩⟩, ⟨⟨[119, 104, 111, 108, 101]⟩⟩, ⟨⟨[111, 110, 101]⟩⟩, ⟨⟨[115, 105, 100, 101]⟩⟩], f_Writings_shortest⟩
def f_Writings_of_term : Fn := ⟨2, 2, [(.ife (.isi (.var 1) .str) [(.ret (.meth 0 29 (⟨⟨[112, 117, 116, 95, 110, 97, 109, 101]⟩⟩) (.var 0) [(.var 1)]))] []), (.ret (.meth 0 37 (⟨⟨[115, 104, 111, 114, 116, 101, 115, 116]⟩⟩) (.var 0) [(.sub (.var 1) (.lit (.int 0))), (.lst [(.meth 0 38 (⟨⟨[111, 102, 95, 116, 101, 114, 109]⟩⟩) (.var 0) [(.sub (.var 1) (.lit (.int 1)))]), (.meth 0 38 (⟨⟨[111, 102, 95, 116, 101, 114, 109]⟩⟩) (.var 0) [(.sub (.var 1) (.lit (.int 2)))])])]))]⟩
def d_Writings_of_term : Df := ⟨some 0, ⟨⟨[111, 102, 95, 116, 101, 114, 109]⟩⟩, [⟨⟨[115, 101, 108, 102]⟩⟩, ⟨⟨[116, 101, 114, 109]⟩⟩], f_Writings_of_term⟩
def f_Writings_form : Fn := ⟨2, 5, [(.unp [2, 3] (.sub (.fld (.var 0) (⟨⟨[105, 110, 110, 101, 114]⟩⟩)) (.var 1))), (.ret (.ife (.cmp .eq (.var 2) (.lit (.str (⟨⟨[]⟩⟩)))) (.var 1) (.tup [(.var 2), (.bi .tuple [(.comp [4] (.name 4) (.val (.var 3)) none (.meth 0 39 (⟨⟨[102, 111, 114, 109]⟩⟩) (.var 0) [(.var 4)]))])])))]⟩
def d_Writings_form : Df := ⟨some 0, ⟨⟨[102, 111, 114, 109]⟩⟩, [⟨⟨[115, 101, 108, 102]⟩⟩, ⟨⟨[111, 110, 101]⟩⟩, ⟨⟨[119, 111, 114, 100]⟩⟩, ⟨⟨[114, 111, 119, 115]⟩⟩, ⟨⟨[115, 105, 100, 101]⟩⟩], f_Writings_form⟩
def f_Writings_of_form : Fn := ⟨2, 5, [(.ife (.isi (.var 1) .str) [(.ret (.meth 0 29 (⟨⟨[112, 117, 116, 95, 110, 97, 109, 101]⟩⟩) (.var 0) [(.var 1)]))] []), (.set 2 (.comp [3] (.name 3) (.val (.sub (.var 1) (.lit (.int 1)))) none (.meth 0 40 (⟨⟨[111, 102, 95, 102, 111, 114, 109]⟩⟩) (.var 0) [(.var 3)]))), (.ife (.or (.cmp .inn (.lit .non) (.var 2)) (.not (.bi .all [(.comp [3, 4] (.tup [3, 4]) (.zip (.var 2) (.slc (.var 2) (some (.lit (.int 1))) none)) none (.cmp .lt (.var 3) (.var 4)))]))) [(.ret (.lit .non))] []), (.ife (.bi .any [(.comp [3] (.name 3) (.val (.var 2)) none (.cmp .eq (.sub (.sub (.fld (.var 0) (⟨⟨[105, 110, 110, 101, 114]⟩⟩)) (.var 3)) (.lit (.int 0))) (.sub (.var 1) (.lit (.int 0)))))]) [(.ret (.lit .non))] []), (.ret (.ife (.cmp .eq (.meth 0 37 (⟨⟨[115, 104, 111, 114, 116, 101, 115, 116]⟩⟩) (.var 0) [(.sub (.var 1) (.lit (.int 0))), (.var 2)]) (.meth 0 30 (⟨⟨[112, 117, 116]⟩⟩) (.var 0) [(.sub (.var 1) (.lit (.int 0))), (.var 2)])) (.meth 0 30 (⟨⟨[112, 117, 116]⟩⟩) (.var 0) [(.sub (.var 1) (.lit (.int 0))), (.var 2)]) (.lit .non)))]⟩
def d_Writings_of_form : Df := ⟨some 0, ⟨⟨[111, 102, 95, 102, 111, 114, 109]⟩⟩, [⟨⟨[115, 101, 108, 102]⟩⟩, ⟨⟨[102, 111, 114, 109]⟩⟩, ⟨⟨[115, 111, 109, 101]⟩⟩, ⟨⟨[111, 110, 101]⟩⟩, ⟨⟨[111, 116, 104, 101, 114]⟩⟩], f_Writings_of_form⟩
def dfs : List Df := [d_is_word, d_names_fault, d_need_names, d_extent, d_is_term, d_term_for, d_size_in, d_form_size, d_need_form, d_need_both, d_lies_in, d_lies_under, d_are_same_kind, d_form_in, d_form_of, d_names_in, d_least_size, d_is_shortest, d_writing_of, d_is_prime, d__law_begun, d__law_draw, d__law_of, d__law_rows, d__law_hand_right, d__law_great_right, d__law_refused_right, d_law, d_Writings___init__, d_Writings_put_name, d_Writings_put, d_Writings_sides_by, d_Writings_does_lie, d_Writings_lies_by_sides, d_Writings_is_within, d_Writings_without_more, d_Writings_shorter, d_Writings_shortest, d_Writings_of_term, d_Writings_form, d_Writings_of_form]
def clss : List (Str × List Str) := [(⟨⟨[87, 114, 105, 116, 105, 110, 103, 115]⟩⟩, [⟨⟨[105, 110, 110, 101, 114]⟩⟩, ⟨⟨[107, 110, 111, 119, 110]⟩⟩])]
def consts : List (Str × Val) := [(⟨⟨[76, 69, 84, 84, 69, 82, 83]⟩⟩, (.str (⟨⟨[97, 98, 99, 100, 101, 102, 103, 104, 105, 106, 107, 108, 109, 110, 111, 112, 113, 114, 115, 116, 117, 118, 119, 120, 121, 122]⟩⟩))), (⟨⟨[77, 79, 83, 84, 95, 76, 69, 84, 84, 69, 82, 83]⟩⟩, (.int 6)), (⟨⟨[77, 79, 83, 84, 95, 78, 65, 77, 69, 83]⟩⟩, (.int 8)), (⟨⟨[77, 79, 83, 84, 95, 68, 69, 69, 80]⟩⟩, (.int 12)), (⟨⟨[77, 79, 83, 84, 95, 84, 69, 82, 77, 83]⟩⟩, (.int 60)), (⟨⟨[77, 69, 84]⟩⟩, (.str (⟨⟨[109, 101, 116]⟩⟩))), (⟨⟨[74, 79, 73, 78, 69, 68]⟩⟩, (.str (⟨⟨[106, 111, 105, 110, 101, 100]⟩⟩)))]
def free : List Str := [⟨⟨[86, 97, 108, 117, 101, 69, 114, 114, 111, 114]⟩⟩, ⟨⟨[97, 108, 108]⟩⟩, ⟨⟨[97, 110, 121]⟩⟩, ⟨⟨[101, 110, 117, 109, 101, 114, 97, 116, 101]⟩⟩, ⟨⟨[105, 110, 116]⟩⟩, ⟨⟨[105, 115, 105, 110, 115, 116, 97, 110, 99, 101]⟩⟩, ⟨⟨[108, 101, 110]⟩⟩, ⟨⟨[108, 105, 115, 116]⟩⟩, ⟨⟨[109, 97, 120]⟩⟩, ⟨⟨[109, 105, 110]⟩⟩, ⟨⟨[114, 97, 110, 103, 101]⟩⟩, ⟨⟨[114, 101, 112, 114]⟩⟩, ⟨⟨[115, 111, 114, 116, 101, 100]⟩⟩, ⟨⟨[115, 116, 114]⟩⟩, ⟨⟨[115, 117, 109]⟩⟩, ⟨⟨[115, 117, 112, 101, 114]⟩⟩, ⟨⟨[116, 117, 112, 108, 101]⟩⟩, ⟨⟨[122, 105, 112]⟩⟩]
def excs : List (Str × List Str × XB) := [(⟨⟨[75, 105, 110, 100, 69, 114, 114, 111, 114]⟩⟩, [], .ve), (⟨⟨[66, 97, 100, 78, 97, 109, 101, 115]⟩⟩, [⟨⟨[110, 117, 109, 98, 101, 114]⟩⟩], .ve), (⟨⟨[66, 97, 100, 84, 101, 114, 109]⟩⟩, [⟨⟨[103, 105, 118, 101, 110]⟩⟩], .ve), (⟨⟨[66, 97, 100, 70, 111, 114, 109]⟩⟩, [⟨⟨[103, 105, 118, 101, 110]⟩⟩], .ve)]
def cat : List (List Bool) := [[true, false, false, false], [true, true, false, false], [true, false, true, false], [true, false, false, true]]
def said : List (Str × List (Nat × Nat × HB)) := [(⟨⟨[95, 108, 97, 119, 95, 115, 97, 105, 100]⟩⟩, [(1, 1, (.retT [(.lit (.str (⟨⟨[110, 97, 109, 101, 115]⟩⟩))), (.fld ⟨⟨[110, 117, 109, 98, 101, 114]⟩⟩)])), (2, 1, (.retT [(.lit (.str (⟨⟨[116, 101, 114, 109]⟩⟩))), (.fld ⟨⟨[103, 105, 118, 101, 110]⟩⟩)])), (3, 1, (.retT [(.lit (.str (⟨⟨[102, 111, 114, 109]⟩⟩))), (.fld ⟨⟨[103, 105, 118, 101, 110]⟩⟩)]))])]
def gds : List (Str × List (Str × Str)) := [(⟨⟨[83, 73, 71, 78, 83]⟩⟩, [(⟨⟨[109, 101, 116]⟩⟩, ⟨⟨[38]⟩⟩), (⟨⟨[106, 111, 105, 110, 101, 100]⟩⟩, ⟨⟨[124]⟩⟩)]), (⟨⟨[84, 85, 82, 78, 69, 68]⟩⟩, [(⟨⟨[109, 101, 116]⟩⟩, ⟨⟨[106, 111, 105, 110, 101, 100]⟩⟩), (⟨⟨[106, 111, 105, 110, 101, 100]⟩⟩, ⟨⟨[109, 101, 116]⟩⟩)])]
def mod : Mod := ⟨dfs, clss, consts, free, excs, cat, ⟨⟨[47, 99, 108, 97, 105, 109, 47, 99, 117, 116, 46, 112, 121]⟩⟩, [[⟨⟨[95, 108, 97, 119, 95, 107]⟩⟩, ⟨⟨[95, 108, 97, 119, 95, 100, 117, 101]⟩⟩, ⟨⟨[95, 108, 97, 119, 95, 116, 111, 108, 100]⟩⟩, ⟨⟨[95, 108, 97, 119, 95, 103, 114, 101, 97, 116]⟩⟩, ⟨⟨[95, 108, 97, 119, 95, 110, 97, 109, 101, 115]⟩⟩, ⟨⟨[95, 108, 97, 119, 95, 114, 111, 119, 115, 95, 104, 101, 114, 101]⟩⟩, ⟨⟨[95, 108, 97, 119, 95, 111, 116, 104, 101, 114]⟩⟩, ⟨⟨[95, 108, 97, 119, 95, 114, 111, 119]⟩⟩], [⟨⟨[95, 108, 97, 119, 95, 109]⟩⟩, ⟨⟨[95, 108, 97, 119, 95, 110, 117, 109, 98, 101, 114]⟩⟩, ⟨⟨[95, 108, 97, 119, 95, 116, 111, 108, 100]⟩⟩, ⟨⟨[95, 108, 97, 119, 95, 100, 101, 101, 112]⟩⟩, ⟨⟨[95, 108, 97, 119, 95, 107]⟩⟩, ⟨⟨[95, 108, 97, 119, 95, 115, 111, 109, 101]⟩⟩, ⟨⟨[95, 108, 97, 119, 95, 116, 104, 105, 110, 103]⟩⟩, ⟨⟨[95, 108, 97, 119, 95, 112, 97, 105, 114]⟩⟩, ⟨⟨[95, 108, 97, 119, 95, 102, 111, 114, 109, 115]⟩⟩, ⟨⟨[95, 108, 97, 119, 95, 110, 97, 109, 101, 115]⟩⟩, ⟨⟨[95, 108, 97, 119, 95, 119, 111, 114, 100, 115]⟩⟩, ⟨⟨[95, 108, 97, 119, 95, 111, 100, 100]⟩⟩, ⟨⟨[95, 108, 97, 119, 95, 119, 111, 114, 100]⟩⟩]], said, gds⟩
-- 0 is_word
-- 1 names_fault
-- 2 need_names
-- 3 extent
-- 4 is_term
-- 5 term_for
-- 6 size_in
-- 7 form_size
-- 8 need_form
-- 9 need_both
-- 10 lies_in
-- 11 lies_under
-- 12 are_same_kind
-- 13 form_in
-- 14 form_of
-- 15 names_in
-- 16 least_size
-- 17 is_shortest
-- 18 writing_of
-- 19 is_prime
-- 20 _law_begun
-- 21 _law_draw
-- 22 _law_of
-- 23 _law_rows
-- 24 _law_hand_right
-- 25 _law_great_right
-- 26 _law_refused_right
-- 27 law
-- 28 Writings___init__
-- 29 Writings_put_name
-- 30 Writings_put
-- 31 Writings_sides_by
-- 32 Writings_does_lie
-- 33 Writings_lies_by_sides
-- 34 Writings_is_within
-- 35 Writings_without_more
-- 36 Writings_shorter
-- 37 Writings_shortest
-- 38 Writings_of_term
-- 39 Writings_form
-- 40 Writings_of_form

def sa : Val := .str ⟨⟨[97]⟩⟩
def sb : Val := .str ⟨⟨[98]⟩⟩
def sA : Val := .str ⟨⟨[65]⟩⟩
def nm : Val := .tup [sa, sb]
def dead9 : List Nat := [0, 1, 2, 3, 4, 5, 6, 7, 8, 10, 11, 12]
def lastR (l : List S) : List S := match l.getLast? with
  | some (.rest _ _ b) => b
  | _ => []
def restB : List S := lastR f__law_refused_right.body
def restB2 : List S := lastR restB
def restB3 : List S := lastR restB2
def restB4 : List S := lastR restB3
theorem split1 : restB = restB.dropLast ++ [.rest 9 dead9 restB2] := rfl
theorem split2 : restB2 = restB2.dropLast ++ [.rest 9 dead9 restB3] := rfl
theorem split3 : restB3 = restB3.dropLast ++ [.rest 9 dead9 restB4] := rfl
noncomputable abbrev CC : Nat → List Val → LHeap → Res Val := callN mod.cl mod.fns 29
def nm3 : Val := .tup [sa, sb, .str ⟨⟨[99]⟩⟩]
abbrev tN (v : Val) : LSt := [none, none, none, none, none, none, none, none, none, some v, none, none, none]
noncomputable def runRest (odd : Val) (o : Option LObj) : Bool := isRest o (execs (rec mod.cl CC (99800 + 199)) restB [none, none, none, none, none, none, none, none, none, some nm, none, some odd, none] (heap1 o))
noncomputable def runHead (odd : Val) (o : Option LObj) : Bool := ready o 9 dead9 (tN nm) (execs (rec mod.cl CC (99800 + 199)) restB.dropLast [none, none, none, none, none, none, none, none, none, some nm, none, some odd, none] (heap1 o))
theorem w4 : isRest none (execs (rec mod.cl CC (99800 + 196)) restB4 (tN nm3) heapE) = true := by
  rw [← execs2_eq, ← rec2_eq, show CC = callN2 mod.cl mod.fns 29 from (callN2_eq _ _ _).symm]
  kernel_rfl
theorem a3 : ready none 9 dead9 (tN nm3) (execs (rec mod.cl CC (99800 + 197)) restB3.dropLast (tN nm) heapE) = true := by
  rw [← execs2_eq, ← rec2_eq, show CC = callN2 mod.cl mod.fns 29 from (callN2_eq _ _ _).symm]
  kernel_rfl
theorem a2 : ready none 9 dead9 (tN nm) (execs (rec mod.cl CC (99800 + 198)) restB2.dropLast (tN nm) heapE) = true := by
  rw [← execs2_eq, ← rec2_eq, show CC = callN2 mod.cl mod.fns 29 from (callN2_eq _ _ _).symm]
  kernel_rfl
theorem hd0 : runHead .non none = true := by
  unfold runHead
  rw [← execs2_eq, ← rec2_eq, show CC = callN2 mod.cl mod.fns 29 from (callN2_eq _ _ _).symm]
  kernel_rfl
theorem hd1 : runHead (.int 5) none = true := by
  unfold runHead
  rw [← execs2_eq, ← rec2_eq, show CC = callN2 mod.cl mod.fns 29 from (callN2_eq _ _ _).symm]
  kernel_rfl
theorem hd2 : runHead (.tup []) none = true := by
  unfold runHead
  rw [← execs2_eq, ← rec2_eq, show CC = callN2 mod.cl mod.fns 29 from (callN2_eq _ _ _).symm]
  kernel_rfl
theorem hd3 : runHead sa none = true := by
  unfold runHead
  rw [← execs2_eq, ← rec2_eq, show CC = callN2 mod.cl mod.fns 29 from (callN2_eq _ _ _).symm]
  kernel_rfl
theorem hd4 : runHead (.tup [sb, sa]) none = true := by
  unfold runHead
  rw [← execs2_eq, ← rec2_eq, show CC = callN2 mod.cl mod.fns 29 from (callN2_eq _ _ _).symm]
  kernel_rfl
theorem hd5 : runHead (.ref 0) (some (.lst [sa])) = true := by
  unfold runHead
  rw [← execs2_eq, ← rec2_eq, show CC = callN2 mod.cl mod.fns 29 from (callN2_eq _ _ _).symm]
  kernel_rfl
theorem hd6 : runHead (.ref 0) (some (.dK [])) = true := by
  unfold runHead
  rw [← execs2_eq, ← rec2_eq, show CC = callN2 mod.cl mod.fns 29 from (callN2_eq _ _ _).symm]
  kernel_rfl
theorem hd7 : runHead (.tup [sa, sA]) none = true := by
  unfold runHead
  rw [← execs2_eq, ← rec2_eq, show CC = callN2 mod.cl mod.fns 29 from (callN2_eq _ _ _).symm]
  kernel_rfl
theorem t24 : isT (callN mod.cl mod.fns 30 24 [] heapE) = true := by
  rw [← callN2_eq]
  kernel_rfl
theorem t25 : isT (callN mod.cl mod.fns 30 25 [] heapE) = true := by
  rw [← callN2_eq]
  kernel_rfl
-- PART
theorem w3 : isRest none (execs (rec mod.cl CC (99800 + 197)) restB3 (tN nm) heapE) = true := by
  rw [split3]
  exact parts a3 w4
theorem w2 : isRest none (execs (rec mod.cl CC (99800 + 198)) restB2 (tN nm) heapE) = true := by
  rw [split2]
  exact parts a2 w3
theorem run_of {odd : Val} {o : Option LObj} (h : runHead odd o = true) : runRest odd o = true := by
  unfold runRest
  rw [split1]
  exact parts h w2
theorem draws : D2.Draws (callN mod.cl mod.fns 28) 21 2 := fun h lim m h0 h1 => D2.draw_ok (cl := mod.cl) (C := callN mod.cl mod.fns 27) m h0 h1
theorem refused_ok {h : LHeap} (m : D2.Mst h 2) : ∃ h', callN mod.cl mod.fns 30 26 [.ref 2] h = .ok (.bl true) h' ∧ D2.Mst h' 2 ∧ Kp 2 h h' := by
  have ln : 2 < h.n := by
    obtain ⟨g, xs, sd, mm, _⟩ := m
    exact LHeap.get_lt mm.d
  obtain ⟨h2, e2⟩ : ∃ h2, h2 = (h.push (.lst [sa])).push (.dK []) := ⟨_, rfl⟩
  obtain ⟨its, eits⟩ : ∃ its : List Val, its = [.non, .int 5, .tup [], sa, .tup [sb, sa], .ref h.n, .ref (h.push (.lst [sa])).n, .tup [sa, sA]] := ⟨_, rfl⟩
  have m3 : D2.Mst (h2.push (.lst its)) 2 := by
    obtain ⟨g, xs, sd, mm, r⟩ := m
    subst e2
    exact ⟨g, xs, sd, ((mm.push _).push _).push _, r⟩
  have hn2 : h2.n = h.n + 2 := by rw [e2, push_n, push_n]
  have hlen : its.length = 8 := by rw [eits]; rfl
  obtain ⟨x, h4, ex, hx, m4, k4⟩ := D2.of_ok (cl := mod.cl) draws m3 (a := h2.n) (xs := its) get_push_same (by omega) (by omega) (by omega)
  have k : Kp 2 h h4 := by
    refine Kp.trans ?_ k4
    rw [e2]
    exact ((Kp.push 2 h _).trans (Kp.push 2 _ _)).trans (Kp.push 2 _ _)
  have g5 : h4.get h.n = some (.lst [sa]) := by
    rw [k4.o h.n (by rw [push_n]; omega) (by omega), get_push_old (by omega), e2, get_push_old (by rw [push_n]; omega)]
    exact get_push_same
  have g6 : h4.get (h.push (.lst [sa])).n = some (.dK []) := by
    rw [k4.o _ (by rw [push_n, push_n]; omega) (by rw [push_n]; omega), get_push_old (by rw [push_n]; omega), e2]
    exact get_push_same
  refine ⟨h4, ?_, m4, k⟩
  have key : execs (rec mod.cl CC fuel) f__law_refused_right.body [some (.ref 2), none, none, none, none, none, none, none, none, none, none, none, none] h = .ok (.rt (.bl true)) h4 := by
    rw [show fuel = 99800 + 200 from rfl]
    show execs (rec mod.cl CC (99800 + 200)) [(.unp [9, 11] (.tup [(.tup [(.lit (.str (⟨⟨[97]⟩⟩))), (.lit (.str (⟨⟨[98]⟩⟩)))]), (.call 22 [(.var 0), (.lst [(.lit .non), (.lit (.int 5)), (.tup []), (.lit (.str (⟨⟨[97]⟩⟩))), (.tup [(.lit (.str (⟨⟨[98]⟩⟩))), (.lit (.str (⟨⟨[97]⟩⟩)))]), (.lst [(.lit (.str (⟨⟨[97]⟩⟩)))]), .dnewK, (.tup [(.lit (.str (⟨⟨[97]⟩⟩))), (.lit (.str (⟨⟨[65]⟩⟩)))])])])])), (.rest 11 [] restB)] _ _ = _
    rw [execs_cons, s_unp, e_tup, evs_consE]
    rw [show (rec mod.cl CC (99800 + 198)).e (.tup [(.lit (.str (⟨⟨[97]⟩⟩))), (.lit (.str (⟨⟨[98]⟩⟩)))]) [some (.ref 2), none, none, none, none, none, none, none, none, none, none, none, none] h = .ok nm h from rfl, bind_okE, evs_consE, e_call, evs_consE]
    rw [show (rec mod.cl CC (99800 + 197)).e (.var 0) [some (.ref 2), none, none, none, none, none, none, none, none, none, none, none, none] h = .ok (.ref 2) h from rfl, bind_okE, evs_consE, e_lst]
    rw [show evs (rec mod.cl CC (99800 + 196)) [(.lit .non), (.lit (.int 5)), (.tup []), (.lit (.str (⟨⟨[97]⟩⟩))), (.tup [(.lit (.str (⟨⟨[98]⟩⟩))), (.lit (.str (⟨⟨[97]⟩⟩)))]), (.lst [(.lit (.str (⟨⟨[97]⟩⟩)))]), .dnewK, (.tup [(.lit (.str (⟨⟨[97]⟩⟩))), (.lit (.str (⟨⟨[65]⟩⟩)))])] [some (.ref 2), none, none, none, none, none, none, none, none, none, none, none, none] h = .ok its h2 from by rw [eits, e2]; rfl, bind_okE]
    rw [show Nat.ble its.length line = true by rw [hlen]; rfl]
    dsimp only
    rw [show alloc (.lst its) h2 = .ok (.ref h2.n) (h2.push (.lst its)) from rfl, bind_okE, evs_nilE, bind_okE, bind_okE, bind_okE, show CC 22 [.ref 2, .ref h2.n] (h2.push (.lst its)) = .ok x h4 from ex, bind_okE, evs_nilE, bind_okE, bind_okE, bind_okE]
    rw [show Nat.ble [nm, x].length line = true from rfl]
    dsimp only
    rw [inS_okE, show Tg.put (.tup [9, 11]) (.tup [nm, x]) [some (.ref 2), none, none, none, none, none, none, none, none, none, none, none, none] = some [some (.ref 2), none, none, none, none, none, none, none, none, some nm, none, some x, none] from rfl]
    dsimp only
    rw [next_nx, execs_cons]
    have fin : (rec mod.cl CC (99800 + 199 + 1)).s (.rest 11 [] restB) [some (.ref 2), none, none, none, none, none, none, none, none, some nm, none, some x, none] h4 = .ok (.rt (.bl true)) h4 := by
      rw [eits] at hx
      simp only [List.mem_cons, List.not_mem_nil, or_false] at hx
      rcases hx with rfl | rfl | rfl | rfl | rfl | rfl | rfl | rfl
      · exact s_rest (o := none) rfl (run_of hd0)
      · exact s_rest (o := none) rfl (run_of hd1)
      · exact s_rest (o := none) rfl (run_of hd2)
      · exact s_rest (o := none) rfl (run_of hd3)
      · exact s_rest (o := none) rfl (run_of hd4)
      · exact s_rest (o := some (.lst [sa])) (by
          show canonO h4 (some (.ref h.n)) = _
          unfold canonO
          dsimp only
          rw [g5]
          rfl) (run_of hd5)
      · exact s_rest (o := some (.dK [])) (by
          show canonO h4 (some (.ref (h.push (.lst [sa])).n)) = _
          unfold canonO
          dsimp only
          rw [g6]) (run_of hd6)
      · exact s_rest (o := none) rfl (run_of hd7)
    rw [fin, next_rt]
  show (match execs (rec mod.cl CC fuel) f__law_refused_right.body [some (.ref 2), none, none, none, none, none, none, none, none, none, none, none, none] h with
    | .ok (.nx _) h1 => Res.ok Val.non h1
    | .ok (.rt v) h1 => .ok v h1
    | .ok _ _ => .bad
    | .exc c fs _ h1 => .exc c fs h1
    | .bad => .bad) = _
  rw [key]
theorem law_body {C : Nat → List Val → LHeap → Res Val} {h0 h1 : LHeap} {ns : List Int} (e1 : C 20 [.ref 0] h0 = .ok (.ref 2) h1) (m1 : D2.Mst h1 2) (hz : h1.get 0 = some (.frz (ns.map Val.int))) (rf : ∀ h, D2.Mst h 2 → ∃ h', C 26 [.ref 2] h = .ok (.bl true) h' ∧ D2.Mst h' 2)
    (p24 : ∀ h, sand (C 24 [] heapE) h = .ok (.bl true) h) (p25 : ∀ h, sand (C 25 [] heapE) h = .ok (.bl true) h) : ∃ h', runFn mod.cl C f_law [.ref 0] h0 = .ok (.bl true) h' := by
  obtain ⟨n, hn⟩ := fuel_eq
  have key : ∃ h', execs (rec mod.cl C fuel) f_law.body [some (.ref 0), none, none] h0 = .ok (.rt (.bl true)) h' := by
    rw [hn]
    show ∃ h', execs (rec mod.cl C (n + 200)) [(.set 1 (.call 20 [(.var 0)])), (.loop (.name 2) (.rng1 (.bin .add (.lit (.int 1)) (.bi .min [(.bi .len [(.var 0)]), (.lit (.int 4))]))) [(.ife (.not (.call 26 [(.var 1)])) [(.ret (.lit (.bl false)))] [])]), (.ret (.and (.pcall 24 []) (.pcall 25 [])))] _ _ = _
    rw [execs_cons, s_set, e_call, evs_consE, e_var, show getV [some (Val.ref 0), none, none] 0 = some (.ref 0) from rfl, optR_some, bind_okE, evs_nilE, bind_okE, bind_okE, e1, inS_okE, next_nx]
    rw [show setV [some (Val.ref 0), none, none] 1 (.ref 2) = [some (.ref 0), some (.ref 2), none] from rfl, execs_cons, s_loop]
    have hlen : biCall .len [.ref 0] h1 = .ok (.int (ns.map Val.int).length) h1 := by
      unfold biCall
      dsimp only
      rw [hz]
    have hit : ∃ xs, evIt (rec mod.cl C (n + 199)) (.rng1 (.bin .add (.lit (.int 1)) (.bi .min [(.bi .len [(.var 0)]), (.lit (.int 4))]))) [some (.ref 0), some (.ref 2), none] h1 = .ok (.st xs) h1 := by
      show ∃ xs, (Res.bind ((rec mod.cl C (n + 199)).e (.bin .add (.lit (.int 1)) (.bi .min [(.bi .len [(.var 0)]), (.lit (.int 4))])) [some (.ref 0), some (.ref 2), none] h1) _) = _
      rw [e_bin, e_lit, bind_okE, e_bi, evs_consE, e_bi, evs_consE, e_var, show getV [some (Val.ref 0), some (.ref 2), none] 0 = some (.ref 0) from rfl, optR_some, bind_okE, evs_nilE, bind_okE, bind_okE, hlen, bind_okE, evs_consE, e_lit, bind_okE, evs_nilE, bind_okE, bind_okE, bind_okE]
      obtain ⟨L, hL, eL⟩ : ∃ L : Int, 0 ≤ L ∧ L = ((ns.map Val.int).length : Int) := ⟨_, Int.natCast_nonneg _, rfl⟩
      rw [← eL]
      rw [show biCall .min [.int L, .int 4] h1 = .ok (.int (if 4 < L then 4 else L)) h1 from rfl, bind_okE, show binOp .add (.int 1) (.int (if 4 < L then 4 else L)) h1 = .ok (.int (1 + (if 4 < L then 4 else L))) h1 from rfl, bind_okE]
      have ok : okR (1 + (if 4 < L then 4 else L)) = true := by
        unfold okR
        rw [Bool.and_eq_true, decide_eq_true_eq, decide_eq_true_eq]
        split <;> omega
      refine ⟨rngL 0 (1 + (if 4 < L then 4 else L)).toNat, ?_⟩
      show (match okR (1 + (if 4 < L then 4 else L)) with
        | true => Res.ok (Src.st (rngL 0 (1 + (if 4 < L then 4 else L)).toNat)) h1
        | false => .bad) = _
      rw [ok]
    obtain ⟨xs, hit⟩ := hit
    rw [hit, inS_okE, loopAll_st]
    obtain ⟨s', h2, es, ⟨u, rfl⟩, m2⟩ := loopSt_keep (f := loopOne (rec mod.cl C (n + 199)) (.name 2) [(.ife (.not (.call 26 [(.var 1)])) [(.ret (.lit (.bl false)))] [])]) (fun s => ∃ u, s = [some (.ref 0), some (.ref 2), u]) (fun h => D2.Mst h 2) (fun x s h p i => by
      obtain ⟨u, rfl⟩ := p
      obtain ⟨h', e, m'⟩ := rf h i
      refine ⟨[some (.ref 0), some (.ref 2), some x], h', ?_, ⟨_, rfl⟩, m'⟩
      show execs (rec mod.cl C (n + 199)) _ [some (.ref 0), some (.ref 2), some x] h = _
      rw [execs_cons, s_ife, t_not, t_call, e_call, evs_consE, e_var, show getV [some (Val.ref 0), some (.ref 2), some x] 1 = some (.ref 2) from rfl, optR_some, bind_okE, evs_nilE, bind_okE, bind_okE, e, bind_okE]
      rfl) xs [some (.ref 0), some (.ref 2), none] h1 ⟨_, rfl⟩ m1
    rw [es, next_nx, execs_cons, s_ret, e_and, e_pcall, evs_nilE, bind_okE, show pureVs [] = true from rfl]
    dsimp only
    rw [p24, bind_okE]
    dsimp only
    rw [e_pcall, evs_nilE, bind_okE, show pureVs [] = true from rfl]
    dsimp only
    rw [p25, inS_okE, next_rt]
    exact ⟨_, rfl⟩
  obtain ⟨h', k⟩ := key
  refine ⟨h', ?_⟩
  show (match execs (rec mod.cl C fuel) f_law.body [some (.ref 0), none, none] h0 with
    | .ok (.nx _) h1 => Res.ok Val.non h1
    | .ok (.rt v) h1 => .ok v h1
    | .ok _ _ => .bad
    | .exc c fs _ h1 => .exc c fs h1
    | .bad => .bad) = _
  rw [k]
theorem law_run (ns : List Int) (hl : ns.length ≤ 63) : ∃ h', callN mod.cl mod.fns 31 27 [.ref 0] (heap0 ns) = .ok (.bl true) h' := by
  obtain ⟨h1, e1, m1, k1⟩ := D2.begun_ok (cl := mod.cl) (C := callN mod.cl mod.fns 29) hl
  refine law_body (C := callN mod.cl mod.fns 30) (ns := ns) e1 m1 ?_ (fun h m => ?_) (sand_ok t24) (sand_ok t25)
  · rw [k1.o 0 (show 0 < (heap0 ns).n from Nat.zero_lt_one) (by decide), heap0_get, if_pos rfl]
  · obtain ⟨h', e, m', _⟩ := refused_ok m
    exact ⟨h', e, m'⟩

abbrev R : PySem.W.OpenRow := PySem.W.OpenLaw.row PySem.Challenge.rw_metjoined_k23_forms_by_hand_and_refused
abbrev qv : Program := PySem.W.view R.prog [46]
def names0 : List PySem.Str := ["KindError", "BadNames", "BadTerm", "BadForm", "LETTERS", "MOST_LETTERS", "MOST_NAMES", "MOST_DEEP", "MOST_TERMS", "MET", "JOINED", "is_word", "names_fault", "need_names", "extent", "is_term", "term_for", "size_in", "SIGNS", "TURNED", "Writings", "form_size", "need_form", "need_both", "lies_in", "lies_under", "are_same_kind", "form_in", "form_of", "names_in"]
def names1 : List PySem.Str := ["least_size", "is_shortest", "writing_of", "is_prime", "_law_begun", "_law_draw", "_law_of", "_law_rows", "_law_hand_right", "_law_great_right", "_law_said", "_law_refused_right"]
def names : List PySem.Str := names0 ++ names1
theorem run_false (w : World) : HandSHeadRun.RunEq R qv (hookE mod) (obE mod) 60000 names (w.withFollow "special-get-raises" false) := by
  intro os
  kernel_rfl
theorem run_true (w : World) : HandSHeadRun.RunEq R qv (hookE mod) (obE mod) 60000 names (w.withFollow "special-get-raises" true) := by
  intro os
  kernel_rfl
theorem run (w : World) : HandSHeadRun.RunEq R qv (hookE mod) (obE mod) 60000 names w := PySem.W.byRow2 "special-get-raises" (P := fun w => HandSHeadRun.RunEq R qv (hookE mod) (obE mod) 60000 names w) run_false run_true w
end Ev.Law
end
open PySem PySem.W PySem.Calls PyProof.Rows
theorem PySem.Challenge.cw_metjoined_k23_forms_by_hand_and_refused_holds : PySem.Challenge.rw_metjoined_k23_forms_by_hand_and_refused.Holds := by
  w_on; o_law
  refine HandSHeadRun.head_any (r := OpenLaw.row PySem.Challenge.rw_metjoined_k23_forms_by_hand_and_refused) (q := Ev.Law.qv) (H := Ev.hookE Ev.Law.mod) (ob := Ev.obE Ev.Law.mod) (M := 60000) (loose := Ev.Law.names) (d := HandSHeadRun.topDef (OpenLaw.row PySem.Challenge.rw_metjoined_k23_forms_by_hand_and_refused).prog 46) (kwd := []) (Ev.obE_eq Ev.Law.mod)
    (by kernel_rfl) (fun s => by kernel_rfl) Ev.Law.run (by kernel_rfl) (by kernel_rfl) (by kernel_rfl) (by rfl) (by first | assumption | decide +kernel) (by decide +kernel) ⟨rfl, rfl, rfl, rfl, rfl, by decide +kernel⟩ ?hw ?hc
  case hw => w_witness2
  case hc =>
    refine Ev.walk_ev (l := PySem.Challenge.rw_metjoined_k23_forms_by_hand_and_refused) (n := 63) (k := 124) (x := "_law_script") rfl (by decide) (by kernel_rfl) ⟨rfl, by decide, by decide⟩ ?F
    intro w mg fa h Y G hmg0
    have hmg : mg Ev.Law.d_law.x = some (.ref fa) := by
      have e : (HandSHeadRun.topDef (OpenLaw.row PySem.Challenge.rw_metjoined_k23_forms_by_hand_and_refused).prog 46).name = Ev.Law.d_law.x := by kernel_rfl
      rw [← e]
      exact hmg0
    exact Ev.law_at Ev.Law.mod (l := PySem.Challenge.rw_metjoined_k23_forms_by_hand_and_refused) (n := 63) (k := 30) (i := 27) (dL := Ev.Law.d_law) (by kernel_rfl) rfl (by kernel_rfl) (by kernel_rfl) (by kernel_rfl) (by kernel_rfl) Ev.Law.law_run w mg fa h Y G hmg


import PyProof.Rows.All
import Wide.All
import OpenK.AllK
import Wide.FinOn
import HandS.ForMost
import HandS.ForExc
import HandS.Deep
import HandS.IsInst
import HandS.Conv
import HandS.Zip
import HandS.TupAny
import HandS.TupMul
import HandS.DictComp
import HandS.Flow
import HandS.Wide
import HandS.TryMany
import HandS.TupLe
import HandS.Steps
import HandS.Style
import HandS.CallSlots
import HandS.DeepEq
import HandS.TupLen
import KE.GoesEnum
import KE.GoesMore
import KE.KExcSuper
import HandS.ExcSuper
import HandS.ExcInit
import HandS.ExcField
import KE.KDictZip
import HandS.Defaults
import HandS.HeadHook1
import HandS.HeadEnd
import HandS.HeadHook4
import HandS.EndBits
import KE.KStateDown
import HandS.Head0
import HandS.Head1
import HandS.Head2
import PySem.Challenge.RW_metjoined_k17_papers_by_hand
set_option Elab.async false
set_option linter.all false
set_option maxRecDepth 100000
/-! The small language: values, heap, evaluator. -/
namespace Ev
open PySem

inductive Val where
  | non
  | bl (b : Bool)
  | int (i : Int)
  | str (s : Str)
  | tup (xs : List Val)
  | ref (l : Nat)
  | fn (i : Nat)

abbrev Key := L2.Key

inductive LObj where
  | lst (xs : List Val)
  | frz (xs : List Val)
  | dK (kvs : List (Key × Val))
  | dT (kvs : List (List Key × Val))
  | ins (c : Nat) (fs : List (Str × Val))
  | exc (c : Nat) (fs : List (Str × Val))

/-! ### the heap -/
inductive Tr where
  | nil
  | node (v : Option LObj) (l r : Tr)
def Tr.get : Tr → Nat → Option LObj
  | .nil, _ => none
  | .node v l r, a => match a with
    | 0 => v
    | a + 1 => match Nat.beq (a % 2) 0 with
      | true => l.get (a / 2)
      | false => r.get (a / 2)
def Tr.set : Nat → Tr → Nat → LObj → Tr
  | 0, t, _, _ => t
  | f + 1, t, a, o => match t with
    | .nil => match a with
      | 0 => .node (some o) .nil .nil
      | a + 1 => match Nat.beq (a % 2) 0 with
        | true => .node none (Tr.set f .nil (a / 2) o) .nil
        | false => .node none .nil (Tr.set f .nil (a / 2) o)
    | .node v l r => match a with
      | 0 => .node (some o) l r
      | a + 1 => match Nat.beq (a % 2) 0 with
        | true => .node v (Tr.set f l (a / 2) o) r
        | false => .node v l (Tr.set f r (a / 2) o)
def Tr.val : Tr → Option LObj
  | .nil => none
  | .node v _ _ => v
def Tr.lf : Tr → Tr
  | .nil => .nil
  | .node _ l _ => l
def Tr.rt : Tr → Tr
  | .nil => .nil
  | .node _ _ r => r
theorem Tr.get_zero (t : Tr) : t.get 0 = t.val := by cases t <;> rfl
theorem Tr.get_even (t : Tr) (a : Nat) (h : a % 2 = 0) : t.get (a + 1) = t.lf.get (a / 2) := by
  cases t with
  | nil => rfl
  | node v l r => simp [Tr.get, Tr.lf, h]
theorem Tr.get_odd (t : Tr) (a : Nat) (h : a % 2 = 1) : t.get (a + 1) = t.rt.get (a / 2) := by
  cases t with
  | nil => rfl
  | node v l r => simp [Tr.get, Tr.rt, h]
theorem Tr.set_zero (f : Nat) (t : Tr) (o : LObj) : Tr.set (f + 1) t 0 o = .node (some o) t.lf t.rt := by cases t <;> rfl
theorem Tr.set_even (f : Nat) (t : Tr) (a : Nat) (o : LObj) (h : a % 2 = 0) : Tr.set (f + 1) t (a + 1) o = .node t.val (Tr.set f t.lf (a / 2) o) t.rt := by
  cases t <;> simp [Tr.set, Tr.val, Tr.lf, Tr.rt, h]
theorem Tr.set_odd (f : Nat) (t : Tr) (a : Nat) (o : LObj) (h : a % 2 = 1) : Tr.set (f + 1) t (a + 1) o = .node t.val t.lf (Tr.set f t.rt (a / 2) o) := by
  cases t <;> simp [Tr.set, Tr.val, Tr.lf, Tr.rt, h]
theorem Tr.get_set : ∀ (f : Nat) (t : Tr) (a b : Nat) (o : LObj), a + 1 < 2 ^ f → (Tr.set f t a o).get b = if b = a then some o else t.get b
  | 0, _, a, _, _, h => by simp at h
  | f + 1, t, a, b, o, h => by
    have hf : 2 ^ (f + 1) = 2 * 2 ^ f := by rw [Nat.pow_succ]; omega
    cases a with
    | zero =>
      rw [Tr.set_zero]
      cases b with
      | zero => rfl
      | succ b =>
        rw [if_neg (by omega)]
        rcases Nat.mod_two_eq_zero_or_one b with e | e
        · rw [Tr.get_even _ _ e, Tr.get_even _ _ e]; rfl
        · rw [Tr.get_odd _ _ e, Tr.get_odd _ _ e]; rfl
    | succ a =>
      have ih : ∀ (t : Tr) (b : Nat), (Tr.set f t (a / 2) o).get b = if b = a / 2 then some o else t.get b := fun t b => Tr.get_set f t (a / 2) b o (by omega)
      rcases Nat.mod_two_eq_zero_or_one a with e | e
      · rw [Tr.set_even _ _ _ _ e]
        cases b with
        | zero => rw [if_neg (by omega), Tr.get_zero, Tr.get_zero]; rfl
        | succ b =>
          rcases Nat.mod_two_eq_zero_or_one b with e' | e'
          · rw [Tr.get_even _ _ e', Tr.get_even _ _ e']
            show (Tr.set f t.lf (a / 2) o).get (b / 2) = _
            rw [ih]
            by_cases hb : b = a
            · subst hb; simp
            · rw [if_neg (by omega), if_neg (by omega)]
          · rw [Tr.get_odd _ _ e', Tr.get_odd _ _ e', if_neg (by omega)]; rfl
      · rw [Tr.set_odd _ _ _ _ e]
        cases b with
        | zero => rw [if_neg (by omega), Tr.get_zero, Tr.get_zero]; rfl
        | succ b =>
          rcases Nat.mod_two_eq_zero_or_one b with e' | e'
          · rw [Tr.get_even _ _ e', Tr.get_even _ _ e', if_neg (by omega)]; rfl
          · rw [Tr.get_odd _ _ e', Tr.get_odd _ _ e']
            show (Tr.set f t.rt (a / 2) o).get (b / 2) = _
            rw [ih]
            by_cases hb : b = a
            · subst hb; simp
            · rw [if_neg (by omega), if_neg (by omega)]

structure LHeap where
  n : Nat
  t : Tr
def LHeap.get (h : LHeap) (a : Nat) : Option LObj := match Nat.blt a h.n with
  | true => h.t.get a
  | false => none
def LHeap.put (h : LHeap) (a : Nat) (o : LObj) : LHeap := ⟨h.n, Tr.set (a + 2) h.t a o⟩
def LHeap.push (h : LHeap) (o : LObj) : LHeap := match h with
  | ⟨n, t⟩ => ⟨n + 1, Tr.set (n + 2) t n o⟩
theorem LHeap.get_lt {h : LHeap} {a : Nat} {o : LObj} (e : h.get a = some o) : a < h.n := by
  unfold LHeap.get at e
  cases q : Nat.blt a h.n with
  | true => exact Nat.le_of_ble_eq_true q
  | false => rw [q] at e; cases e
theorem LHeap.get_of {h : LHeap} {a : Nat} (l : a < h.n) : h.get a = h.t.get a := by
  unfold LHeap.get
  rw [show Nat.blt a h.n = true from Nat.ble_eq_true_of_le l]
theorem LHeap.get_ge {h : LHeap} {a : Nat} (l : h.n ≤ a) : h.get a = none := by
  cases e : h.get a with
  | none => rfl
  | some o => have := LHeap.get_lt e; omega
theorem pow_room (a : Nat) : a + 1 < 2 ^ (a + 2) := Nat.lt_trans (Nat.lt_succ_self _) Nat.lt_two_pow_self
theorem LHeap.get_put {h : LHeap} {a b : Nat} {o : LObj} (l : a < h.n) : (h.put a o).get b = if b = a then some o else h.get b := by
  by_cases hb : b < h.n
  · rw [LHeap.get_of (show b < (h.put a o).n from hb), LHeap.get_of hb]
    exact Tr.get_set _ _ _ _ _ (pow_room a)
  · rw [LHeap.get_ge (show (h.put a o).n ≤ b from Nat.le_of_not_lt hb), LHeap.get_ge (Nat.le_of_not_lt hb), if_neg (by omega)]
theorem LHeap.get_push {h : LHeap} {b : Nat} {o : LObj} : (h.push o).get b = if b = h.n then some o else h.get b := by
  obtain ⟨n, t⟩ := h
  show LHeap.get ⟨n + 1, Tr.set (n + 2) t n o⟩ b = _
  by_cases hb : b < n + 1
  · rw [LHeap.get_of (show b < (LHeap.mk (n + 1) (Tr.set (n + 2) t n o)).n from hb)]
    show (Tr.set (n + 2) t n o).get b = _
    rw [Tr.get_set _ _ _ _ _ (pow_room n)]
    by_cases e : b = n
    · rw [if_pos e, if_pos e]
    · rw [if_neg e, if_neg e, LHeap.get_of (show b < (LHeap.mk n t).n from (by show b < n; omega))]
  · rw [LHeap.get_ge (show (LHeap.mk (n + 1) (Tr.set (n + 2) t n o)).n ≤ b from (by show n + 1 ≤ b; omega)), LHeap.get_ge (show (LHeap.mk n t).n ≤ b from (by show n ≤ b; omega)), if_neg (by show ¬ b = n; omega)]

/-! ### results -/
inductive Res (α : Type) where
  | ok (a : α) (h : LHeap)
  | exc (c : Nat) (fs : List (Str × Val)) (h : LHeap)
  | bad
def Res.bind {α β : Type} (r : Res α) (k : α → LHeap → Res β) : Res β := match r with
  | .ok a h => k a h
  | .exc c fs h => .exc c fs h
  | .bad => .bad
abbrev LSt := List (Option Val)
/-- a new object -/
def alloc (o : LObj) (h : LHeap) : Res Val := .ok (.ref h.n) (h.push o)
/-- an object changed -/
def store {α : Type} (l : Nat) (o : LObj) (h : LHeap) (a : α) : Res α := .ok a (h.put l o)

/-! ### texts -/
def natsEq : List Nat → List Nat → Bool
  | [], [] => true
  | x :: xs, y :: ys => match Nat.beq x y with
    | true => natsEq xs ys
    | false => false
  | _, _ => false
theorem natsEq_iff : ∀ {xs ys : List Nat}, natsEq xs ys = true ↔ xs = ys
  | [], [] => by simp [natsEq]
  | [], _ :: _ => by simp [natsEq]
  | _ :: _, [] => by simp [natsEq]
  | x :: xs, y :: ys => by
    unfold natsEq
    cases e : Nat.beq x y with
    | true =>
      have := Nat.eq_of_beq_eq_true e
      subst this
      simp [natsEq_iff]
    | false =>
      have := Nat.ne_of_beq_eq_false e
      simp [this]
def strEq (a b : Str) : Bool := natsEq a.cps.toList b.cps.toList
theorem strEq_iff {a b : Str} : strEq a b = true ↔ a = b := by
  obtain ⟨x⟩ := a
  obtain ⟨y⟩ := b
  unfold strEq
  rw [natsEq_iff]
  constructor
  · intro h
    have : x = y := by simpa using congrArg List.toArray h
    rw [this]
  · intro h
    cases h
    rfl
theorem strEq_beq {a b : Str} : strEq a b = (a == b) := by
  cases e : strEq a b with
  | true => rw [strEq_iff] at e; subst e; simp
  | false =>
    have : a ≠ b := fun q => by rw [strEq_iff.mpr q] at e; cases e
    simp [this]
theorem strEq_dec {a b : Str} : strEq a b = decide (a = b) := by
  cases e : strEq a b with
  | true => rw [strEq_iff] at e; subst e; simp
  | false =>
    have : a ≠ b := fun q => by rw [strEq_iff.mpr q] at e; cases e
    simp [this]
def natsLt : List Nat → List Nat → Bool
  | [], [] => false
  | [], _ :: _ => true
  | _ :: _, [] => false
  | x :: xs, y :: ys => match Nat.blt x y with
    | true => true
    | false => match Nat.beq x y with
      | true => natsLt xs ys
      | false => false
def sApp (a b : Str) : Str := ⟨(a.cps.toList ++ b.cps.toList).toArray⟩
theorem sApp_eq (a b : Str) : sApp a b = a ++ b := by
  obtain ⟨x⟩ := a
  obtain ⟨y⟩ := b
  show (⟨(x.toList ++ y.toList).toArray⟩ : Str) = ⟨x ++ y⟩
  congr 1
  apply Array.ext'
  simp
end Ev

set_option Elab.async false
set_option linter.all false
set_option maxRecDepth 100000
/-! The small language: operations on values. -/
namespace Ev
open PySem

inductive BOp where | add | sub | mul | fdiv | mod | pow
inductive COp where | eq | ne | lt | le | gt | ge | inn | nin | isb | nsb
inductive Bi where | len | all | any | max | min | int | tuple | list | sum
inductive Ty where | int | str | tuple | list | bool | dict | exc (c : Nat) | cls (c : Nat)

def mapOpt {α β : Type} (f : α → Option β) : List α → Option (List β)
  | [] => some []
  | x :: xs => match f x with
    | none => none
    | some y => match mapOpt f xs with
      | none => none
      | some ys => some (y :: ys)
/-- a value as data -/
def toD : Nat → LHeap → Val → Option PyData
  | 0, _, _ => none
  | n + 1, h, v => match v with
    | .non => some .none
    | .bl b => some (.bool b)
    | .int i => some (.int i)
    | .str s => some (.str s)
    | .tup xs => match mapOpt (toD n h) xs with
      | some ds => some (.tuple ds)
      | none => none
    | .ref l => match h.get l with
      | some (.lst xs) => (match mapOpt (toD n h) xs with
        | some ds => some (.list ds)
        | none => none)
      | some (.frz xs) => (match mapOpt (toD n h) xs with
        | some ds => some (.list ds)
        | none => none)
      | _ => none
    | .fn _ => none
def eqD (h : LHeap) (a b : Val) : Option Bool := match toD 66 h a with
  | none => none
  | some d => match toD 66 h b with
    | none => none
    | some e => match SeqAt.shaped d && SeqAt.shaped e with
      | true => some (PyData.eqv d e)
      | false => none
/-- == -/
def eqVal (h : LHeap) (a b : Val) : Option Bool := match a, b with
  | .int i, .int j => some (decide (i = j))
  | .str x, .str y => some (strEq x y)
  | .bl x, .bl y => some (decide (x = y))
  | .non, .non => some true
  | .non, .int _ => some false
  | .int _, .non => some false
  | .non, .bl _ => some false
  | .bl _, .non => some false
  | .non, .str _ => some false
  | .str _, .non => some false
  | .int _, .str _ => some false
  | .str _, .int _ => some false
  | .bl _, .str _ => some false
  | .str _, .bl _ => some false
  | a, b => eqD h a b
def flat : Val → Bool
  | .non => true
  | .bl _ => true
  | .int _ => true
  | .str _ => true
  | _ => false
def eqFlat : Val → Val → Bool
  | .non, .non => true
  | .bl a, .bl b => a == b
  | .bl a, .int b => (if a then 1 else 0) == b
  | .int a, .bl b => a == (if b then 1 else 0)
  | .int a, .int b => a == b
  | .str a, .str b => strEq a b
  | _, _ => false
/-- the items of a list or tuple -/
def items (h : LHeap) : Val → Option (List Val)
  | .tup xs => some xs
  | .ref l => match h.get l with
    | some (.lst xs) => some xs
    | some (.frz xs) => some xs
    | _ => none
  | _ => none
def anyEq (x : Val) : List Val → Bool
  | [] => false
  | y :: ys => match eqFlat y x with
    | true => true
    | false => anyEq x ys
def allFlat : List Val → Bool
  | [] => true
  | x :: xs => match flat x with
    | true => allFlat xs
    | false => false
def anyEqv (d : PyData) : List PyData → Bool
  | [] => false
  | e :: es => match PyData.eqv e d with
    | true => true
    | false => anyEqv d es
def inDeep (h : LHeap) (x : Val) (ys : List Val) : Option Bool := match toD 66 h x with
  | none => none
  | some d => match mapOpt (toD 65 h) ys with
    | none => none
    | some ds => match SeqAt.shaped d && SeqAt.shaped (.list ds) with
      | true => some (anyEqv d ds)
      | false => none
def keyOf : Val → Option Key
  | .int i => some (.inl i)
  | .str s => some (.inr s)
  | _ => none
def keyEq : Key → Key → Bool
  | .inl i, .inl j => decide (i = j)
  | .inr x, .inr y => strEq x y
  | _, _ => false
def keysEq : List Key → List Key → Bool
  | [], [] => true
  | x :: xs, y :: ys => match keyEq x y with
    | true => keysEq xs ys
    | false => false
  | _, _ => false
def lookK (k : Key) : List (Key × Val) → Option Val
  | [] => none
  | p :: ps => match keyEq p.1 k with
    | true => some p.2
    | false => lookK k ps
def lookT (k : List Key) : List (List Key × Val) → Option Val
  | [] => none
  | p :: ps => match keysEq p.1 k with
    | true => some p.2
    | false => lookT k ps
def hasK (k : Key) : List (Key × Val) → Bool
  | [] => false
  | p :: ps => match keyEq p.1 k with
    | true => true
    | false => hasK k ps
def mapK (k : Key) (v : Val) : List (Key × Val) → List (Key × Val)
  | [] => []
  | p :: ps => match keyEq p.1 k with
    | true => (p.1, v) :: mapK k v ps
    | false => p :: mapK k v ps
def putKV (k : Key) (v : Val) (kvs : List (Key × Val)) : List (Key × Val) := match hasK k kvs with
  | true => mapK k v kvs
  | false => kvs ++ [(k, v)]
def hasT (k : List Key) : List (List Key × Val) → Bool
  | [] => false
  | p :: ps => match keysEq p.1 k with
    | true => true
    | false => hasT k ps
def mapT (k : List Key) (v : Val) : List (List Key × Val) → List (List Key × Val)
  | [] => []
  | p :: ps => match keysEq p.1 k with
    | true => (p.1, v) :: mapT k v ps
    | false => p :: mapT k v ps
def putTV (k : List Key) (v : Val) (kvs : List (List Key × Val)) : List (List Key × Val) := match hasT k kvs with
  | true => mapT k v kvs
  | false => kvs ++ [(k, v)]
def keysOf (xs : List Val) : Option (List Key) := mapOpt keyOf xs
/-- d[y], there or not -/
def dget (h : LHeap) (d y : Val) : Option (Option Val) := match d with
  | .ref l => match h.get l with
    | some (.dK kvs) => (match keyOf y with
      | some k => some (lookK k kvs)
      | none => none)
    | some (.dT kvs) => (match y with
      | .tup ys => (match keysOf ys with
        | some k => some (lookT k kvs)
        | none => none)
      | _ => none)
    | _ => none
  | _ => none
def isDict (h : LHeap) : Val → Bool
  | .ref l => match h.get l with
    | some (.dK _) => true
    | some (.dT _) => true
    | _ => false
  | _ => false
/-- x in y -/
def inVal (h : LHeap) (x y : Val) : Option Bool := match y with
  | .str z => match x with
    | .str s => (match s.cps.toList with
      | [c] => some (z.cps.toList.any fun d => Nat.beq d c)
      | _ => none)
    | _ => none
  | y => match isDict h y with
    | true => (match dget h y x with
      | some (some _) => some true
      | some none => some false
      | none => none)
    | false => match items h y with
      | none => none
      | some ys => match flat x && allFlat ys with
        | true => some (anyEq x ys)
        | false => inDeep h x ys
def optNot : Option Bool → Option Bool
  | some b => some (!b)
  | none => none
def cmpOp (o : COp) (x y : Val) (h : LHeap) : Option Bool := match o with
  | .eq => eqVal h x y
  | .ne => optNot (eqVal h x y)
  | .lt => match x, y with
    | .int i, .int j => some (decide (i < j))
    | .str a, .str b => some (natsLt a.cps.toList b.cps.toList)
    | _, _ => none
  | .le => match x, y with
    | .int i, .int j => some (decide (i ≤ j))
    | .str a, .str b => some (!natsLt b.cps.toList a.cps.toList)
    | _, _ => none
  | .gt => match x, y with
    | .int i, .int j => some (decide (j < i))
    | _, _ => none
  | .ge => match x, y with
    | .int i, .int j => some (decide (j ≤ i))
    | _, _ => none
  | .inn => inVal h x y
  | .nin => optNot (inVal h x y)
  | .isb => match y with
    | .non => (match x with
      | .non => some true
      | _ => some false)
    | .bl b => (match x with
      | .bl a => some (decide (a = b))
      | _ => none)
    | _ => none
  | .nsb => match y with
    | .non => (match x with
      | .non => some false
      | _ => some true)
    | .bl b => (match x with
      | .bl a => some (!decide (a = b))
      | _ => none)
    | _ => none
def line : Nat := 16777216
def flatten {α : Type} : List (List α) → List α
  | [] => []
  | x :: xs => x ++ flatten xs
def rep {α : Type} (xs : List α) : Nat → List α
  | 0 => []
  | n + 1 => xs ++ rep xs n
def small (i : Int) : Bool := decide (-18446744073709551616 < i) && decide (i < 18446744073709551616)
def binOp (o : BOp) (x y : Val) (h : LHeap) : Res Val := match o with
  | .add => match x, y with
    | .int i, .int j => .ok (.int (i + j)) h
    | .str a, .str b => (match Nat.ble (a.cps.toList.length + b.cps.toList.length) line with
      | true => .ok (.str (sApp a b)) h
      | false => .bad)
    | .tup xs, .tup ys => (match Nat.ble (xs.length + ys.length) line with
      | true => .ok (.tup (xs ++ ys)) h
      | false => .bad)
    | .ref l, .ref k => (match h.get l, h.get k with
      | some (.lst xs), some (.lst ys) => (match Nat.ble (xs.length + ys.length) line with
        | true => alloc (.lst (xs ++ ys)) h
        | false => .bad)
      | _, _ => .bad)
    | _, _ => .bad
  | .sub => match x, y with
    | .int i, .int j => .ok (.int (i - j)) h
    | _, _ => .bad
  | .mul => match x, y with
    | .int i, .int j => (match small i || small j with
      | true => .ok (.int (i * j)) h
      | false => .bad)
    | .ref l, .int k => (match h.get l with
      | some (.lst xs) => (match decide (0 ≤ k) && decide (k ≤ 1000) && Nat.ble (xs.length * k.toNat) line with
        | true => alloc (.lst (rep xs k.toNat)) h
        | false => .bad)
      | _ => .bad)
    | .tup xs, .int k => (match decide (2 ≤ k) && decide (k ≤ 1000) && Nat.ble 1 xs.length && Nat.ble xs.length 1000 with
      | true => .ok (.tup (rep xs k.toNat)) h
      | false => .bad)
    | _, _ => .bad
  | .fdiv => match x, y with
    | .int i, .int j => (match decide (0 < j) && decide (j < 1073741824) with
      | true => .ok (.int (i / j)) h
      | false => .bad)
    | _, _ => .bad
  | .mod => match x, y with
    | .int i, .int j => (match decide (0 < j) with
      | true => .ok (.int (i % j)) h
      | false => .bad)
    | _, _ => .bad
  | .pow => match x, y with
    | .int i, .int j => (match decide (0 ≤ j) && decide (j ≤ 1000000) && small i with
      | true => .ok (.int (i ^ j.toNat)) h
      | false => .bad)
    | _, _ => .bad
/-- truth -/
def truth (h : LHeap) : Val → Option Bool
  | .non => some false
  | .bl b => some b
  | .int i => some (i != 0)
  | _ => none
def ix (n : Nat) (i : Int) : Option Nat := match decide (0 ≤ i) with
  | true => (match decide (i < n) with
    | true => some i.toNat
    | false => none)
  | false => (match decide (-(n : Int) ≤ i) with
    | true => some (i + n).toNat
    | false => none)
def nth {α : Type} : List α → Nat → Option α
  | [], _ => none
  | x :: _, 0 => some x
  | _ :: xs, n + 1 => nth xs n
/-- a[i] -/
def subVal (h : LHeap) (a i : Val) : Option Val := match isDict h a with
  | true => (match dget h a i with
    | some (some v) => some v
    | _ => none)
  | false => match i with
    | .int k => (match a with
      | .str s => (match Nat.ble s.cps.toList.length line with
        | true => (match ix s.cps.toList.length k with
          | some j => (match nth s.cps.toList j with
            | some c => some (.str ⟨[c].toArray⟩)
            | none => none)
          | none => none)
        | false => none)
      | a => (match items h a with
        | some xs => (match ix xs.length k with
          | some j => nth xs j
          | none => none)
        | none => none))
    | _ => none
def bnd (n d : Nat) : Option Int → Nat
  | none => d
  | some v => match decide (v < 0) with
    | true => (v + (n : Int)).toNat
    | false => Nat.min v.toNat n
def cut {α : Type} (xs : List α) (lo hi : Option Int) : List α := (xs.drop (bnd xs.length 0 lo)).take (bnd xs.length xs.length hi - bnd xs.length 0 lo)
/-- a[lo:hi] -/
def sliceVal (h : LHeap) (a : Val) (lo hi : Option Int) : Res Val := match a with
  | .tup xs => .ok (.tup (cut xs lo hi)) h
  | .ref l => (match h.get l with
    | some (.lst xs) => alloc (.lst (cut xs lo hi)) h
    | some (.frz xs) => alloc (.lst (cut xs lo hi)) h
    | _ => .bad)
  | .str s => (match Nat.ble s.cps.toList.length line with
    | true => .ok (.str ⟨(cut s.cps.toList lo hi).toArray⟩) h
    | false => .bad)
  | _ => .bad
def bools : List Val → Option (List Bool)
  | [] => some []
  | .bl b :: xs => (match bools xs with
    | some bs => some (b :: bs)
    | none => none)
  | _ => none
def intsOf : List Val → Option (List Int)
  | [] => some []
  | .int i :: xs => (match intsOf xs with
    | some is => some (i :: is)
    | none => none)
  | _ => none
def allB : List Bool → Bool
  | [] => true
  | b :: bs => match b with
    | true => allB bs
    | false => false
def anyB : List Bool → Bool
  | [] => false
  | b :: bs => match b with
    | true => true
    | false => anyB bs
def sumI : List Int → Int
  | [] => 0
  | i :: is => i + sumI is
/-- a list's items, of a list alone -/
def itemsL (h : LHeap) : Val → Option (List Val)
  | .ref l => match h.get l with
    | some (.lst xs) => some xs
    | some (.frz xs) => some xs
    | _ => none
  | _ => none
def biCall (b : Bi) (vs : List Val) (h : LHeap) : Res Val := match b with
  | .len => (match vs with
    | [.str s] => (match Nat.ble s.cps.toList.length line with
      | true => .ok (.int s.cps.toList.length) h
      | false => .bad)
    | [.ref l] => (match h.get l with
      | some (.lst xs) => .ok (.int xs.length) h
      | some (.frz xs) => .ok (.int xs.length) h
      | some (.dK kvs) => .ok (.int kvs.length) h
      | some (.dT kvs) => .ok (.int kvs.length) h
      | _ => .bad)
    | [.tup xs] => .ok (.int xs.length) h
    | _ => .bad)
  | .all => (match vs with
    | [v] => (match itemsL h v with
      | some xs => (match bools xs with
        | some bs => .ok (.bl (allB bs)) h
        | none => .bad)
      | none => .bad)
    | _ => .bad)
  | .any => (match vs with
    | [v] => (match itemsL h v with
      | some xs => (match bools xs with
        | some bs => .ok (.bl (anyB bs)) h
        | none => .bad)
      | none => .bad)
    | _ => .bad)
  | .max => (match vs with
    | [.int i, .int j] => .ok (.int (if j > i then j else i)) h
    | _ => .bad)
  | .min => (match vs with
    | [.int i, .int j] => .ok (.int (if j < i then j else i)) h
    | _ => .bad)
  | .int => (match vs with
    | [.int i] => .ok (.int i) h
    | _ => .bad)
  | .tuple => (match vs with
    | [.tup xs] => .ok (.tup xs) h
    | [.ref l] => (match h.get l with
      | some (.lst xs) => .ok (.tup xs) h
      | some (.frz xs) => .ok (.tup xs) h
      | _ => .bad)
    | _ => .bad)
  | .list => (match vs with
    | [.tup xs] => alloc (.lst xs) h
    | [.ref l] => (match h.get l with
      | some (.lst xs) => alloc (.lst xs) h
      | some (.frz xs) => alloc (.lst xs) h
      | _ => .bad)
    | _ => .bad)
  | .sum => (match vs with
    | [v] => (match itemsL h v with
      | some xs => (match intsOf xs with
        | some is => .ok (.int (sumI is)) h
        | none => .bad)
      | none => .bad)
    | _ => .bad)
/-- isinstance; sub c c': the class c is c' or stands under it -/
def isInst (sub : Nat → Nat → Bool) (h : LHeap) (v : Val) (t : Ty) : Option Bool := match v with
  | .non => some false
  | .bl _ => (match t with
    | .bool => some true
    | .int => some true
    | _ => some false)
  | .int _ => (match t with
    | .int => some true
    | _ => some false)
  | .str _ => (match t with
    | .str => some true
    | _ => some false)
  | .tup _ => (match t with
    | .tuple => some true
    | _ => some false)
  | .ref l => (match h.get l with
    | some (.lst _) => (match t with
      | .list => some true
      | _ => some false)
    | some (.dK _) => (match t with
      | .dict => some true
      | _ => some false)
    | some (.dT _) => (match t with
      | .dict => some true
      | _ => some false)
    | _ => none)
  | .fn _ => none
/-! ### values without objects that may change -/
mutual
def pureV : Val → Bool
  | .ref _ => false
  | .tup xs => pureVs xs
  | .non => true
  | .bl _ => true
  | .int _ => true
  | .str _ => true
  | .fn _ => true
def pureVs : List Val → Bool
  | [] => true
  | x :: xs => match pureV x with
    | true => pureVs xs
    | false => false
end
def pureF : List (Str × Val) → Bool
  | [] => true
  | p :: ps => match pureV p.2 with
    | true => pureF ps
    | false => false
/-- the result of a run by itself, seen from the heap h -/
def sand (r : Res Val) (h : LHeap) : Res Val := match r with
  | .ok v h' => (match pureV v with
    | true => .ok v h
    | false => (match v with
      | .ref l => (match h'.get l with
        | some (.lst xs) => (match pureVs xs with
          | true => alloc (.lst xs) h
          | false => .bad)
        | _ => .bad)
      | _ => .bad))
  | .exc c fs _ => (match pureF fs with
    | true => .exc c fs h
    | false => .bad)
  | .bad => .bad
def heapE : LHeap := ⟨0, .nil⟩
end Ev

set_option Elab.async false
set_option linter.all false
set_option maxRecDepth 100000
/-! The small language: expressions, statements, the evaluator. -/
namespace Ev
open PySem

inductive Tg where
  | name (i : Nat)
  | tup (is : List Nat)
mutual
inductive E where
  | var (i : Nat)
  | lit (v : Val)
  | glb (x : Str) (v : Val)
  | bin (o : BOp) (a b : E)
  | neg (a : E)
  | cmp (o : COp) (a b : E)
  | cmp2 (o o' : COp) (a b c : E)
  | and (a b : E)
  | or (a b : E)
  | not (a : E)
  | ife (c a b : E)
  | tup (es : List E)
  | lst (es : List E)
  | sub (a i : E)
  | slc (a : E) (lo hi : Option E)
  | rev (a : E)
  | call (f : Nat) (es : List E)
  | pcall (f : Nat) (es : List E)
  | bi (b : Bi) (es : List E)
  | isi (e : E) (t : Ty)
  | comp (own : List Nat) (tg : Tg) (it : It) (c : Option E) (elt : E)
  | dsp (kvs : List (Str × E))
  | dnewK
  | dnewT
  | dzip (a b : E)
  | get1 (d k : E)
  | app (l e : E)
  | fld (o : E) (f : Str)
inductive It where
  | val (e : E)
  | rng1 (a : E)
  | rng2 (a b : E)
  | enum (e : E)
  | zip (a b : E)
end
/-- what an except suite may say of the exception -/
inductive HE where
  | fld (f : Str)
  | lit (v : Val)
  | glb (x : Str) (v : Val)
  | var (i : Nat)
inductive HB where
  | set1 (i : Nat) (e : HE)
  | ret1 (e : HE)
  | retT (es : List HE)
inductive S where
  | set (i : Nat) (e : E)
  | par (i j : Nat) (a b : E)
  | unp (is : List Nat) (e : E)
  | ex (e : E)
  | ret (e : E)
  | retN
  | ife (c : E) (a b : List S)
  | whl (c : E) (b : List S)
  | loop (tg : Tg) (it : It) (b : List S)
  | put (o i e : E)
  | raise (c : Nat) (es : List E)
  | tri (b : List S) (hs : List (Nat × Nat × HB))
  | pass
  | brk
  | cont

inductive Fl where
  | nx (s : LSt)
  | rt (v : Val)
  | bk (s : LSt)
  | ct (s : LSt)
inductive RS where
  | ok (f : Fl) (h : LHeap)
  | exc (c : Nat) (fs : List (Str × Val)) (s : LSt) (h : LHeap)
  | bad
/-- an expression's result inside a statement -/
def Res.inS {α : Type} (r : Res α) (s : LSt) (k : α → LHeap → RS) : RS := match r with
  | .ok a h => k a h
  | .exc c fs h => .exc c fs s h
  | .bad => .bad
def optR {α : Type} (o : Option α) (h : LHeap) : Res α := match o with
  | some a => .ok a h
  | none => .bad
/-- the static side of a module: fields of exception classes, which class stands under which -/
structure Cl where
  fields : Nat → List Str
  sub : Nat → Nat → Bool
  cat : Nat → Nat → Option Bool
structure Rec where
  e : E → LSt → LHeap → Res Val
  t : E → LSt → LHeap → Res Bool
  s : S → LSt → LHeap → RS
  w : E → List S → LSt → LHeap → RS
section
variable (cl : Cl) (calls : Nat → List Val → LHeap → Res Val) (rc : Rec)

def getV : LSt → Nat → Option Val
  | [], _ => none
  | x :: _, 0 => x
  | _ :: xs, n + 1 => getV xs n
def setV : LSt → Nat → Val → LSt
  | [], _, _ => []
  | _ :: xs, 0, v => some v :: xs
  | x :: xs, n + 1, v => x :: setV xs n v
def unV : LSt → Nat → LSt
  | [], _ => []
  | _ :: xs, 0 => none :: xs
  | x :: xs, n + 1 => x :: unV xs n
def wipeL (s : LSt) : List Nat → LSt
  | [] => s
  | v :: vs => unV (wipeL s vs) v
def setAll : List Nat → List Val → LSt → Option LSt
  | [], [], s => some s
  | i :: is, v :: vs, s => setAll is vs (setV s i v)
  | _, _, _ => none
def Tg.put (t : Tg) (v : Val) (s : LSt) : Option LSt := match t with
  | .name i => some (setV s i v)
  | .tup is => match v with
    | .tup vs => setAll is vs s
    | _ => none
def evs : List E → LSt → LHeap → Res (List Val)
  | [], _, h => .ok [] h
  | e :: es, s, h => (rc.e e s h).bind fun v h1 => (evs es s h1).bind fun vs h2 => .ok (v :: vs) h2
/-- what is walked -/
inductive Src where
  | st (xs : List Val)
  | dyn (l : Nat)
  | dynE (l : Nat)
def srcOf (h : LHeap) (v : Val) : Option Src := match v with
  | .tup xs => some (.st xs)
  | .str x => some (.st (x.cps.toList.map fun c => .str ⟨[c].toArray⟩))
  | .ref l => match h.get l with
    | some (.lst _) => some (.dyn l)
    | some (.frz _) => some (.dyn l)
    | _ => none
  | _ => none
def rngL (lo : Int) : Nat → List Val
  | 0 => []
  | n + 1 => .int lo :: rngL (lo + 1) n
def enumL : Int → List Val → List Val
  | _, [] => []
  | i, x :: xs => .tup [.int i, x] :: enumL (i + 1) xs
def zipL : List Val → List Val → List Val
  | x :: xs, y :: ys => .tup [x, y] :: zipL xs ys
  | _, _ => []
def okR (j : Int) : Bool := decide (-4611686018427387904 ≤ j) && decide (j < 4611686018427387904)
def evIt (it : It) (s : LSt) (h : LHeap) : Res Src := match it with
  | .val e => (rc.e e s h).bind fun v h1 => optR (srcOf h1 v) h1
  | .rng1 a => (rc.e a s h).bind fun v h1 => match v with
    | .int j => (match okR j with
      | true => .ok (.st (rngL 0 j.toNat)) h1
      | false => .bad)
    | _ => .bad
  | .rng2 a b => (rc.e a s h).bind fun v h1 => (rc.e b s h1).bind fun u h2 => match v, u with
    | .int i, .int j => (match okR i && okR j with
      | true => .ok (.st (rngL i (j - i).toNat)) h2
      | false => .bad)
    | _, _ => .bad
  | .enum e => (rc.e e s h).bind fun v h1 => match v with
    | .tup xs => .ok (.st (enumL 0 xs)) h1
    | .ref l => (match h1.get l with
      | some (.lst _) => .ok (.dynE l) h1
      | some (.frz _) => .ok (.dynE l) h1
      | _ => .bad)
    | _ => .bad
  | .zip a b => (rc.e a s h).bind fun v h1 => (rc.e b s h1).bind fun u h2 => match v, u with
    | .tup xs, .tup ys => .ok (.st (zipL xs ys)) h2
    | _, _ => .bad
/-- the item at turn i of a list that may change -/
def itemAt (src : Src) (i : Nat) (h : LHeap) : Option (Option Val) := match src with
  | .st xs => some (nth xs i)
  | .dyn l => (match itemsL h (.ref l) with
    | some xs => some (nth xs i)
    | none => none)
  | .dynE l => (match itemsL h (.ref l) with
    | some xs => (match nth xs i with
      | some x => some (some (.tup [.int i, x]))
      | none => some none)
    | none => none)
/-- one turn of a comprehension -/
def compOne (own : List Nat) (tg : Tg) (c : Option E) (elt : E) (s : LSt) (x : Val) (h : LHeap) : Res (Option Val) :=
  match tg.put x (wipeL s own) with
  | none => .bad
  | some s2 => match c with
    | none => (rc.e elt s2 h).bind fun y h2 => .ok (some y) h2
    | some c => (rc.t c s2 h).bind fun b h1 => match b with
      | true => (rc.e elt s2 h1).bind fun y h2 => .ok (some y) h2
      | false => .ok none h1
def noExc {α : Type} : Res α → Res α
  | .exc _ _ _ => .bad
  | r => r
def compSt (f : Val → LHeap → Res (Option Val)) : List Val → LHeap → Res (List Val)
  | [], h => .ok [] h
  | x :: xs, h => (f x h).bind fun o h1 => (compSt f xs h1).bind fun ys h2 => match o with
    | some y => .ok (y :: ys) h2
    | none => .ok ys h2
def compDyn (f : Val → LHeap → Res (Option Val)) (src : Src) : Nat → Nat → LHeap → Res (List Val)
  | 0, _, _ => .bad
  | n + 1, i, h => match itemAt src i h with
    | none => .bad
    | some none => .ok [] h
    | some (some x) => (f x h).bind fun o h1 => (compDyn f src n (i + 1) h1).bind fun ys h2 => match o with
      | some y => .ok (y :: ys) h2
      | none => .ok ys h2
def compAll (f : Val → LHeap → Res (Option Val)) (src : Src) (h : LHeap) : Res (List Val) := match src with
  | .st xs => compSt f xs h
  | src => compDyn f src 100000 0 h
/-- a comprehension's list, not yet laid -/
def evComp (own : List Nat) (tg : Tg) (it : It) (c : Option E) (elt : E) (s : LSt) (h : LHeap) : Res (List Val) :=
  (evIt rc it s h).bind fun src h1 => noExc (compAll (compOne rc own tg c elt s) src h1)
def evKVs : List (Str × E) → LSt → LHeap → Res (List (Key × Val))
  | [], _, h => .ok [] h
  | p :: ps, s, h => (rc.e p.2 s h).bind fun v h1 => (evKVs ps s h1).bind fun vs h2 => .ok ((.inr p.1, v) :: vs) h2
def evOpt (o : Option E) (s : LSt) (h : LHeap) : Res (Option Int) := match o with
  | none => .ok none h
  | some e => (rc.e e s h).bind fun v h1 => match v with
    | .int i => .ok (some i) h1
    | _ => .bad
def kvsOf : List Val → List Val → Option (List (Key × Val))
  | x :: xs, y :: ys => (match keyOf x with
    | some k => (match kvsOf xs ys with
      | some r => some ((k, y) :: r)
      | none => none)
    | none => none)
  | _, _ => some []
def mergeL : List (Key × Val) → List (Key × Val) → List (Key × Val)
  | acc, [] => acc
  | acc, p :: ps => mergeL (putKV p.1 p.2 acc) ps
def lookF (f : Str) : List (Str × Val) → Option Val
  | [] => none
  | p :: ps => match strEq p.1 f with
    | true => some p.2
    | false => lookF f ps
def stepE (e : E) (s : LSt) (h : LHeap) : Res Val := match e with
  | .var i => optR (getV s i) h
  | .lit v => .ok v h
  | .glb _ v => .ok v h
  | .bin o a b => (rc.e a s h).bind fun x h1 => (rc.e b s h1).bind fun y h2 => binOp o x y h2
  | .neg a => (rc.e a s h).bind fun x h1 => match x with
    | .int i => .ok (.int (-i)) h1
    | _ => .bad
  | .cmp o a b => (rc.e a s h).bind fun x h1 => (rc.e b s h1).bind fun y h2 => (optR (cmpOp o x y h2) h2).bind fun c h3 => .ok (.bl c) h3
  | .cmp2 o o' a b c => (rc.e a s h).bind fun x h1 => (rc.e b s h1).bind fun y h2 => (optR (cmpOp o x y h2) h2).bind fun k h3 => match k with
    | true => (rc.e c s h3).bind fun z h4 => (optR (cmpOp o' y z h4) h4).bind fun c h5 => .ok (.bl c) h5
    | false => .ok (.bl false) h3
  | .and a b => (rc.e a s h).bind fun x h1 => match x with
    | .bl true => rc.e b s h1
    | .bl false => .ok (.bl false) h1
    | _ => .bad
  | .or a b => (rc.e a s h).bind fun x h1 => match x with
    | .bl true => .ok (.bl true) h1
    | .bl false => rc.e b s h1
    | _ => .bad
  | .not a => (rc.e a s h).bind fun x h1 => match x with
    | .bl c => .ok (.bl (!c)) h1
    | _ => .bad
  | .ife c a b => (rc.t c s h).bind fun k h1 => match k with
    | true => rc.e a s h1
    | false => rc.e b s h1
  | .tup es => (evs rc es s h).bind fun vs h1 => match Nat.ble vs.length line with
    | true => .ok (.tup vs) h1
    | false => .bad
  | .lst es => (evs rc es s h).bind fun vs h1 => match Nat.ble vs.length line with
    | true => alloc (.lst vs) h1
    | false => .bad
  | .sub a i => (rc.e a s h).bind fun x h1 => (rc.e i s h1).bind fun y h2 => optR (subVal h2 x y) h2
  | .slc a lo hi => (rc.e a s h).bind fun x h1 => (evOpt rc lo s h1).bind fun l h2 => (evOpt rc hi s h2).bind fun r h3 => sliceVal h3 x l r
  | .rev a => (rc.e a s h).bind fun x h1 => match itemsL h1 x with
    | some xs => alloc (.lst xs.reverse) h1
    | none => .bad
  | .call f es => (evs rc es s h).bind fun vs h1 => calls f vs h1
  | .pcall f es => (evs rc es s h).bind fun vs h1 => match pureVs vs with
    | true => sand (calls f vs heapE) h1
    | false => .bad
  | .bi b es => (evs rc es s h).bind fun vs h1 => biCall b vs h1
  | .isi e t => (rc.e e s h).bind fun v h1 => (optR (isInst cl.sub h1 v t) h1).bind fun b h2 => .ok (.bl b) h2
  | .comp own tg it c elt => (evComp rc own tg it c elt s h).bind fun ys h1 => match Nat.ble ys.length line with
    | true => alloc (.lst ys) h1
    | false => .bad
  | .dsp kvs => (evKVs rc kvs s h).bind fun ps h1 => match Nat.ble ps.length 15 with
    | true => alloc (.dK (mergeL [] ps)) h1
    | false => .bad
  | .dnewK => alloc (.dK []) h
  | .dnewT => alloc (.dT []) h
  | .dzip a b => (rc.e a s h).bind fun x h1 => (rc.e b s h1).bind fun y h2 => match x, y with
    | .tup xs, .tup ys => (match kvsOf xs ys with
      | some ps => alloc (.dK (mergeL [] ps)) h2
      | none => .bad)
    | _, _ => .bad
  | .get1 d k => (rc.e d s h).bind fun x h1 => (match isDict h1 x with
    | true => (rc.e k s h1).bind fun y h2 => (match dget h2 x y with
      | some (some v) => .ok v h2
      | some none => .ok .non h2
      | none => .bad)
    | false => .bad)
  | .app l e => (rc.e l s h).bind fun x h1 => match x with
    | .ref a => (match h1.get a with
      | some (.lst _) => (rc.e e s h1).bind fun y h2 => (match h2.get a with
        | some (.lst xs) => (match Nat.blt xs.length line with
          | true => store a (.lst (xs ++ [y])) h2 .non
          | false => .bad)
        | _ => .bad)
      | _ => .bad)
    | _ => .bad
  | .fld o f => (rc.e o s h).bind fun x h1 => match x with
    | .ref a => (match h1.get a with
      | some (.ins _ fs) => optR (lookF f fs) h1
      | some (.exc _ fs) => optR (lookF f fs) h1
      | _ => .bad)
    | _ => .bad
/-- a test -/
def stepT (e : E) (s : LSt) (h : LHeap) : Res Bool := match e with
  | .and a b => (rc.t a s h).bind fun x h1 => match x with
    | true => rc.t b s h1
    | false => .ok false h1
  | .or a b => (rc.t a s h).bind fun x h1 => match x with
    | true => .ok true h1
    | false => rc.t b s h1
  | .not a => (rc.t a s h).bind fun x h1 => .ok (!x) h1
  | e => (rc.e e s h).bind fun v h1 => match v with
    | .bl b => .ok b h1
    | _ => .bad
def execs : List S → LSt → LHeap → RS
  | [], s, h => .ok (.nx s) h
  | x :: xs, s, h => match rc.s x s h with
    | .ok (.nx s1) h1 => execs xs s1 h1
    | r => r
/-- behind a turn: go on with k, or leave -/
def turn (r : RS) (k : LSt → LHeap → RS) : RS := match r with
  | .ok f h => (match f with
    | .nx s => k s h
    | .ct s => k s h
    | .bk s => .ok (.nx s) h
    | .rt v => .ok (.rt v) h)
  | .exc c fs s h => .exc c fs s h
  | .bad => .bad
def loopOne (tg : Tg) (b : List S) (x : Val) (s : LSt) (h : LHeap) : RS := match tg.put x s with
  | none => .bad
  | some s1 => execs rc b s1 h
def loopSt (f : Val → LSt → LHeap → RS) : List Val → LSt → LHeap → RS
  | [], s, h => .ok (.nx s) h
  | x :: xs, s, h => turn (f x s h) (loopSt f xs)
def loopDyn (f : Val → LSt → LHeap → RS) (src : Src) : Nat → Nat → LSt → LHeap → RS
  | 0, _, _, _ => .bad
  | n + 1, i, s, h => match itemAt src i h with
    | none => .bad
    | some none => .ok (.nx s) h
    | some (some x) => turn (f x s h) (loopDyn f src n (i + 1))
def loopAll (f : Val → LSt → LHeap → RS) (src : Src) (s : LSt) (h : LHeap) : RS := match src with
  | .st xs => loopSt f xs s h
  | src => loopDyn f src 100000 0 s h
def inS (x : Str) : List Str → Bool
  | [] => false
  | y :: ys => match strEq x y with
    | true => true
    | false => inS x ys
def hotE (c : Nat) (fs : List (Str × Val)) (s : LSt) (e : HE) : Option Val := match e with
  | .fld f => (match inS f (cl.fields c) with
    | true => lookF f fs
    | false => none)
  | .lit v => some v
  | .glb _ v => some v
  | .var i => getV s i
def hotL (c : Nat) (fs : List (Str × Val)) (s : LSt) : List HE → Option (List Val)
  | [] => some []
  | e :: es => match hotE cl c fs s e with
    | some v => (match hotL c fs s es with
      | some vs => some (v :: vs)
      | none => none)
    | none => none
def hotB (c : Nat) (fs : List (Str × Val)) (s : LSt) (h : LHeap) (b : HB) : RS := match b with
  | .set1 i e => (match hotE cl c fs s e with
    | some v => .ok (.nx (setV s i v)) h
    | none => .bad)
  | .ret1 e => (match hotE cl c fs s e with
    | some v => .ok (.rt v) h
    | none => .bad)
  | .retT es => (match hotL cl c fs s es with
    | some vs => (match Nat.ble vs.length line with
      | true => .ok (.rt (.tup vs)) h
      | false => .bad)
    | none => .bad)
/-- behind a suite its name goes -/
def gone (i : Nat) (r : RS) : RS := match r with
  | .ok (.nx s) h => .ok (.nx (unV s i)) h
  | .ok (.rt v) h => .ok (.rt v) h
  | _ => .bad
def handle (c : Nat) (fs : List (Str × Val)) (s : LSt) (h : LHeap) : List (Nat × Nat × HB) → RS
  | [] => .exc c fs s h
  | p :: hs => match cl.cat c p.1 with
    | some true => (match Nat.blt p.2.1 s.length with
      | true => gone p.2.1 (hotB cl c fs (unV s p.2.1) h p.2.2)
      | false => .bad)
    | some false => handle c fs s h hs
    | none => .bad
def stepS (st : S) (s : LSt) (h : LHeap) : RS := match st with
  | .set i e => (rc.e e s h).inS s fun v h1 => .ok (.nx (setV s i v)) h1
  | .par i j a b => (rc.e a s h).inS s fun v h1 => (rc.e b s h1).inS s fun u h2 => .ok (.nx (setV (setV s i v) j u)) h2
  | .unp is e => (rc.e e s h).inS s fun v h1 => match Tg.put (.tup is) v s with
    | some s1 => .ok (.nx s1) h1
    | none => .bad
  | .ex e => (rc.e e s h).inS s fun _ h1 => .ok (.nx s) h1
  | .ret e => (rc.e e s h).inS s fun v h1 => .ok (.rt v) h1
  | .retN => .ok (.rt .non) h
  | .ife c a b => (rc.t c s h).inS s fun k h1 => match k with
    | true => execs rc a s h1
    | false => execs rc b s h1
  | .whl c b => rc.w c b s h
  | .loop tg it b => (evIt rc it s h).inS s fun src h1 => loopAll (loopOne rc tg b) src s h1
  | .put o i e => (rc.e e s h).inS s fun v h1 => (rc.e o s h1).inS s fun x h2 => (rc.e i s h2).inS s fun y h3 => match x with
    | .ref l => (match h3.get l with
      | some (.dK kvs) => (match keyOf y with
        | some k => (match Nat.blt kvs.length line with
          | true => (store l (.dK (putKV k v kvs)) h3 ()).inS s fun _ h4 => .ok (.nx s) h4
          | false => .bad)
        | none => .bad)
      | some (.dT kvs) => (match y with
        | .tup ys => (match keysOf ys with
          | some k => (match Nat.blt kvs.length line with
            | true => (store l (.dT (putTV k v kvs)) h3 ()).inS s fun _ h4 => .ok (.nx s) h4
            | false => .bad)
          | none => .bad)
        | _ => .bad)
      | _ => .bad)
    | _ => .bad
  | .raise c es => (evs rc es s h).inS s fun vs h1 => match Nat.beq vs.length (cl.fields c).length with
    | true => .exc c ((cl.fields c).zip vs).reverse s h1
    | false => .bad
  | .tri b hs => (match execs rc b s h with
    | .exc c fs s1 h1 => handle cl c fs s1 h1 hs
    | r => r)
  | .pass => .ok (.nx s) h
  | .brk => .ok (.bk s) h
  | .cont => .ok (.ct s) h
def stepW (c : E) (b : List S) (s : LSt) (h : LHeap) : RS := (rc.t c s h).inS s fun k h1 => match k with
  | true => turn (execs rc b s h1) (rc.w c b)
  | false => .ok (.nx s) h1
end
def recBad : Rec := ⟨fun _ _ _ => .bad, fun _ _ _ => .bad, fun _ _ _ => .bad, fun _ _ _ _ => .bad⟩
noncomputable def rec (cl : Cl) (calls : Nat → List Val → LHeap → Res Val) (n : Nat) : Rec :=
  Nat.rec recBad (fun _ r => ⟨stepE cl calls r, stepT r, stepS cl r, stepW r⟩) n
theorem rec_zero (cl : Cl) (calls : Nat → List Val → LHeap → Res Val) : rec cl calls 0 = recBad := rfl
theorem rec_succ (cl : Cl) (calls : Nat → List Val → LHeap → Res Val) (n : Nat) : rec cl calls (n + 1) = ⟨stepE cl calls (rec cl calls n), stepT (rec cl calls n), stepS cl (rec cl calls n), stepW (rec cl calls n)⟩ := rfl
/-- a def: how many parameters, how many names, its body -/
structure Fn where
  ps : Nat
  ns : Nat
  body : List S
def startL (vs : List Val) : Nat → LSt
  | 0 => []
  | n + 1 => match vs with
    | [] => none :: startL [] n
    | v :: vs => some v :: startL vs n
noncomputable def fuel : Nat := 100000
noncomputable def runFn (cl : Cl) (calls : Nat → List Val → LHeap → Res Val) (f : Fn) (vs : List Val) (h : LHeap) : Res Val :=
  match Nat.beq vs.length f.ps with
  | true => (match execs (rec cl calls fuel) f.body (startL vs f.ns) h with
    | .ok (.nx _) h1 => .ok .non h1
    | .ok (.rt v) h1 => .ok v h1
    | .ok _ _ => .bad
    | .exc c fs _ h1 => .exc c fs h1
    | .bad => .bad)
  | false => .bad
noncomputable def callN (cl : Cl) (fns : Nat → Option Fn) (k : Nat) : Nat → List Val → LHeap → Res Val :=
  Nat.rec (fun _ _ _ => .bad) (fun _ c f vs h => match fns f with
    | some fn => runFn cl c fn vs h
    | none => .bad) k
theorem callN_succ (cl : Cl) (fns : Nat → Option Fn) (k f : Nat) (vs : List Val) (h : LHeap) : callN cl fns (k + 1) f vs h = match fns f with
    | some fn => runFn cl (callN cl fns k) fn vs h
    | none => .bad := rfl
end Ev

set_option Elab.async false
set_option linter.all false
set_option maxRecDepth 100000
/-! The relation between the small language's states and the hand layer's. -/
namespace Ev
open PySem PySem.Spec PyProof.Rows L2

abbrev St := L2.St
/-- what is known of the module -/
structure Mo where
  P : Program
  w : World
  K : PySem.W.Frag
  mg : Str → Option Value
  base : Heap
  fa : Nat → Addr
  ca : Nat → Addr

/-- how many logical addresses, where they stand, the abstract heap -/
structure Cf where
  n : Nat
  r : Nat → Addr
  nm : Nat → Bool
  H : Hp

mutual
inductive RV (M : Mo) (c : Cf) : Val → V → Prop where
  | non : RV M c .non .non
  | bl (b : Bool) : RV M c (.bl b) (.bl b)
  | int (i : Int) : RV M c (.int i) (.int i)
  | str (s : Str) : RV M c (.str s) (.str s)
  | tup {xs : List Val} {a : Addr} {ys : List V} (h : c.H a = some (.tup ys)) (r : RVs M c xs ys) : RV M c (.tup xs) (.ref a)
  | ref {l : Nat} (h : l < c.n) : RV M c (.ref l) (.ref (c.r l))
  | fn (i : Nat) : RV M c (.fn i) (.ref (M.fa i))
inductive RVs (M : Mo) (c : Cf) : List Val → List V → Prop where
  | nil : RVs M c [] []
  | cons {x : Val} {y : V} {xs : List Val} {ys : List V} (h : RV M c x y) (t : RVs M c xs ys) : RVs M c (x :: xs) (y :: ys)
end
section
variable {M : Mo} {c c' : Cf}
theorem RVs.length : ∀ {xs : List Val} {ys : List V}, RVs M c xs ys → xs.length = ys.length
  | _, _, .nil => rfl
  | _, _, .cons _ t => by simp [RVs.length t]
theorem RVs.append : ∀ {xs : List Val} {ys : List V} {us : List Val} {vs : List V}, RVs M c xs ys → RVs M c us vs → RVs M c (xs ++ us) (ys ++ vs)
  | _, _, _, _, .nil, q => q
  | _, _, _, _, .cons h t, q => .cons h (RVs.append t q)
theorem RVs.nth : ∀ {xs : List Val} {ys : List V} {i : Nat} {x : Val}, RVs M c xs ys → Ev.nth xs i = some x → ∃ y, ys[i]? = some y ∧ RV M c x y
  | _, _, _, _, .nil, e => by simp [Ev.nth] at e
  | _, _, 0, _, .cons h t, e => by simp [Ev.nth] at e; subst e; exact ⟨_, rfl, h⟩
  | _, _, i + 1, _, .cons h t, e => by
    obtain ⟨y, e1, r⟩ := RVs.nth t (show Ev.nth _ i = some _ from e)
    exact ⟨y, by simpa using e1, r⟩
theorem RVs.nth_none : ∀ {xs : List Val} {ys : List V} {i : Nat}, RVs M c xs ys → Ev.nth xs i = none → ys.length ≤ i
  | _, _, _, .nil, _ => Nat.zero_le _
  | _, _, 0, .cons h t, e => by simp [Ev.nth] at e
  | _, _, i + 1, .cons h t, e => by
    have := RVs.nth_none t (show Ev.nth _ i = none from e)
    simp; omega
theorem RVs.drop : ∀ {xs : List Val} {ys : List V} (n : Nat), RVs M c xs ys → RVs M c (xs.drop n) (ys.drop n)
  | _, _, 0, r => r
  | _, _, _ + 1, .nil => .nil
  | _, _, n + 1, .cons _ t => RVs.drop n t
theorem RVs.take : ∀ {xs : List Val} {ys : List V} (n : Nat), RVs M c xs ys → RVs M c (xs.take n) (ys.take n)
  | _, _, 0, _ => .nil
  | _, _, _ + 1, .nil => .nil
  | _, _, n + 1, .cons h t => .cons h (RVs.take n t)
theorem RVs.reverse : ∀ {xs : List Val} {ys : List V}, RVs M c xs ys → RVs M c xs.reverse ys.reverse
  | _, _, .nil => .nil
  | _, _, .cons h t => by simp only [List.reverse_cons]; exact RVs.append (RVs.reverse t) (.cons h .nil)
theorem RVs.rep {xs : List Val} {ys : List V} (r : RVs M c xs ys) : ∀ n, RVs M c (Ev.rep xs n) (List.replicate n ys).flatten
  | 0 => .nil
  | n + 1 => by
    rw [List.replicate_succ, List.flatten_cons]
    exact r.append (RVs.rep r n)
end

/-- fields -/
inductive RF (M : Mo) (c : Cf) : List (Str × Val) → List (Str × V) → Prop where
  | nil : RF M c [] []
  | cons {f : Str} {x : Val} {y : V} {xs : List (Str × Val)} {ys : List (Str × V)} (h : RV M c x y) (t : RF M c xs ys) : RF M c ((f, x) :: xs) ((f, y) :: ys)
/-- entries -/
inductive RK (κ : Type) (M : Mo) (c : Cf) : List (κ × Val) → List (κ × V) → Prop where
  | nil : RK κ M c [] []
  | cons {k : κ} {x : Val} {y : V} {xs : List (κ × Val)} {ys : List (κ × V)} (h : RV M c x y) (t : RK κ M c xs ys) : RK κ M c ((k, x) :: xs) ((k, y) :: ys)
/-- an exception that is kept as a value -/
def exV (a : Addr) (oe : Obj) : HO := .ext fun h => h.get? a = some oe
/-- a list that is read alone: locked, or of the written part -/
def FzL (K : PySem.W.Frag) (H : Hp) (a : Addr) (xs : List V) : Prop := (∃ o, H a = some (.frz o (.lst xs))) ∨
    ∃ (o : Obj) (its : Array Value) (n : Nat), K.lookup a = some o ∧ o.cls = .type "list" ∧ o.dict = none ∧ o.data = .seq its n ∧ its.size ≤ sizeLine ∧ Vals xs its.toList
theorem FzL.sq {K : PySem.W.Frag} {H : Hp} {a : Addr} {xs : List V} (h : FzL K H a xs) : SqL K H a xs := h.imp (fun q => .inr q) id
def LObj.mut : LObj → Bool
  | .frz _ => false
  | _ => true
/-- what stands at an address -/
inductive RO (M : Mo) (c : Cf) : LObj → Addr → Prop where
  | lst {xs : List Val} {a : Addr} {ys : List V} (h : c.H a = some (.lst ys)) (r : RVs M c xs ys) : RO M c (.lst xs) a
  | frz {xs : List Val} {a : Addr} {ys : List V} (h : FzL M.K c.H a ys) (r : RVs M c xs ys) : RO M c (.frz xs) a
  | dK {kvs : List (Key × Val)} {a : Addr} {ys : List (Key × V)} (h : c.H a = some (.dK ys)) (r : RK Key M c kvs ys) : RO M c (.dK kvs) a
  | dT {kvs : List (List Key × Val)} {a : Addr} {ys : List (List Key × V)} (h : c.H a = some (.dT ys)) (r : RK (List Key) M c kvs ys) : RO M c (.dT kvs) a
  | ins {k : Nat} {fs : List (Str × Val)} {a dx : Addr} {gs : List (Str × V)} (h : c.H a = some (.ins (M.ca k) dx gs)) (r : RF M c fs gs) : RO M c (.ins k fs) a
  | exc {k : Nat} {fs : List (Str × Val)} {a dx : Addr} {gs : List (Str × V)} {oe : Obj} {vs : Array Value} (h : c.H a = some (exV a oe)) (hc : oe.cls = .ref (M.ca k)) (hd : oe.dict = some dx) (hf : oe.data = .fields vs)
      (hx : c.H dx = some (.xd gs)) (r : RF M c fs gs) : RO M c (.exc k fs) a
/-- the heap -/
structure RH (M : Mo) (c : Cf) (h : LHeap) : Prop where
  n : c.n = h.n
  o : ∀ l o, h.get l = some o → RO M c o (c.r l)
  inj : ∀ l k o u, h.get l = some o → h.get k = some u → o.mut = true → u.mut = true → c.r l = c.r k → l = k
  nm : ∀ l, l < c.n → c.nm l = true → ∃ o, h.get l = some o ∧ o.mut = true
  mn : ∀ l o, h.get l = some o → o.mut = true → c.nm l = true
/-- what values lean on -/
structure Ex (M : Mo) (c c' : Cf) : Prop where
  le : c.n ≤ c'.n
  r : ∀ l, l < c.n → c'.r l = c.r l
  t : ∀ a xs, c.H a = some (.tup xs) → c'.H a = some (.tup xs)
/-- what a run keeps: what no logical address names stays, new names are new -/
structure Ext (M : Mo) (c c' : Cf) : Prop where
  x : Ex M c c'
  m : ∀ l, l < c.n → c'.nm l = c.nm l
  f : ∀ a o, c.H a = some o → (∀ l, l < c.n → c.nm l = true → c.r l ≠ a) → c'.H a = some o
  fr : ∀ l, c.n ≤ l → l < c'.n → c.H (c'.r l) = none
  tr : ∀ a, c.H a ≠ none → c'.H a ≠ none
section
variable {M : Mo} {c c' c'' : Cf}
theorem Ex.refl (c : Cf) : Ex M c c := ⟨Nat.le_refl _, fun _ _ => rfl, fun _ _ h => h⟩
theorem Ex.trans (a : Ex M c c') (b : Ex M c' c'') : Ex M c c'' :=
  ⟨Nat.le_trans a.le b.le, fun l h => (b.r l (Nat.lt_of_lt_of_le h a.le)).trans (a.r l h), fun p xs h => b.t p xs (a.t p xs h)⟩
theorem Ext.refl (c : Cf) : Ext M c c := ⟨Ex.refl c, fun _ _ => rfl, fun _ _ h _ => h, fun l h1 h2 => absurd h2 (Nat.not_lt.mpr h1), fun _ h => h⟩
theorem Ext.trans (a : Ext M c c') (b : Ext M c' c'') : Ext M c c'' := by
  refine ⟨a.x.trans b.x, fun l h => (b.m l (Nat.lt_of_lt_of_le h a.x.le)).trans (a.m l h), fun p o h hn => ?_, fun l h1 h2 => ?_, fun p h => b.tr p (a.tr p h)⟩
  · refine b.f p o (a.f p o h hn) fun l hl hm e => ?_
    by_cases q : l < c.n
    · rw [a.x.r l q] at e
      rw [a.m l q] at hm
      exact hn l q hm e
    · have := a.fr l (Nat.le_of_not_lt q) hl
      rw [e, h] at this
      cases this
  · by_cases q : l < c'.n
    · rw [b.x.r l q]
      exact a.fr l h1 q
    · have := b.fr l (Nat.le_of_not_lt q) h2
      cases e : c.H (c''.r l) with
      | none => rfl
      | some o => exact absurd this (a.tr _ (by rw [e]; simp))
mutual
theorem RV.ex (e : Ex M c c') : ∀ {x : Val} {y : V}, RV M c x y → RV M c' x y
  | _, _, .non => .non
  | _, _, .bl b => .bl b
  | _, _, .int i => .int i
  | _, _, .str s => .str s
  | _, _, .tup h r => .tup (e.t _ _ h) (RVs.ex e r)
  | _, _, .ref h => by rw [← e.r _ h]; exact .ref (Nat.lt_of_lt_of_le h e.le)
  | _, _, .fn i => .fn i
theorem RVs.ex (e : Ex M c c') : ∀ {xs : List Val} {ys : List V}, RVs M c xs ys → RVs M c' xs ys
  | _, _, .nil => .nil
  | _, _, .cons h t => .cons (RV.ex e h) (RVs.ex e t)
end
theorem RV.ext (e : Ext M c c') {x : Val} {y : V} (r : RV M c x y) : RV M c' x y := r.ex e.x
theorem RVs.ext (e : Ext M c c') {xs : List Val} {ys : List V} (r : RVs M c xs ys) : RVs M c' xs ys := r.ex e.x
theorem RF.ex (e : Ex M c c') : ∀ {xs : List (Str × Val)} {ys : List (Str × V)}, RF M c xs ys → RF M c' xs ys
  | _, _, .nil => .nil
  | _, _, .cons h t => .cons (h.ex e) (RF.ex e t)
theorem RF.ext (e : Ext M c c') {xs : List (Str × Val)} {ys : List (Str × V)} (r : RF M c xs ys) : RF M c' xs ys := r.ex e.x
theorem RK.ex {κ : Type} (e : Ex M c c') : ∀ {xs : List (κ × Val)} {ys : List (κ × V)}, RK κ M c xs ys → RK κ M c' xs ys
  | _, _, .nil => .nil
  | _, _, .cons h t => .cons (h.ex e) (RK.ex e t)
theorem RK.ext {κ : Type} (e : Ext M c c') {xs : List (κ × Val)} {ys : List (κ × V)} (r : RK κ M c xs ys) : RK κ M c' xs ys := r.ex e.x
end

/-! ### slots -/
structure RSl (M : Mo) (c : Cf) (s : LSt) (σ : St) : Prop where
  len : s.length = σ.length
  at_ : ∀ i v, getV s i = some v → ∃ u, σ[i]? = some (some u) ∧ RV M c v u
section
variable {M : Mo} {c c' : Cf} {s : LSt} {σ : St}
theorem RSl.ex (e : Ex M c c') (r : RSl M c s σ) : RSl M c' s σ := ⟨r.len, fun i v h => let ⟨u, a, b⟩ := r.at_ i v h; ⟨u, a, b.ex e⟩⟩
theorem RSl.ext (e : Ext M c c') (r : RSl M c s σ) : RSl M c' s σ := r.ex e.x
theorem getV_setV : ∀ (s : LSt) (i j : Nat) (v : Val), getV (setV s i v) j = if j = i ∧ i < s.length then some v else getV s j
  | [], i, j, v => by simp [setV, getV]
  | x :: s, 0, j, v => by
    cases j with
    | zero => simp [setV, getV]
    | succ j => simp [setV, getV]
  | x :: s, i + 1, j, v => by
    cases j with
    | zero => simp [setV, getV]
    | succ j =>
      have := getV_setV s i j v
      simp only [setV, getV, this, List.length_cons]
      by_cases h : j = i ∧ i < s.length
      · rw [if_pos h, if_pos ⟨by omega, by omega⟩]
      · rw [if_neg h, if_neg (by omega)]
theorem length_setV : ∀ (s : LSt) (i : Nat) (v : Val), (setV s i v).length = s.length
  | [], _, _ => rfl
  | x :: s, 0, v => rfl
  | x :: s, i + 1, v => by simp [setV, length_setV s i v]
theorem getV_unV : ∀ (s : LSt) (i j : Nat), getV (unV s i) j = if j = i then none else getV s j
  | [], i, j => by simp [unV, getV]
  | x :: s, 0, j => by
    cases j with
    | zero => simp [unV, getV]
    | succ j => simp [unV, getV]
  | x :: s, i + 1, j => by
    cases j with
    | zero => simp [unV, getV]
    | succ j =>
      simp only [unV, getV, getV_unV s i j]
      by_cases h : j = i
      · rw [if_pos h, if_pos (by omega)]
      · rw [if_neg h, if_neg (by omega)]
theorem length_unV : ∀ (s : LSt) (i : Nat), (unV s i).length = s.length
  | [], _ => rfl
  | x :: s, 0 => rfl
  | x :: s, i + 1 => by simp [unV, length_unV s i]
theorem RSl.set (r : RSl M c s σ) (i : Nat) {v : Val} {u : V} (h : RV M c v u) : RSl M c (setV s i v) (σ.set i (some u)) := by
  refine ⟨by rw [length_setV, List.length_set]; exact r.len, fun j w e => ?_⟩
  rw [getV_setV] at e
  by_cases q : j = i ∧ i < s.length
  · rw [if_pos q] at e
    cases e
    obtain ⟨rfl, hl⟩ := q
    exact ⟨u, List.getElem?_set_self (by rw [← r.len]; exact hl), h⟩
  · rw [if_neg q] at e
    obtain ⟨u', e1, r1⟩ := r.at_ j w e
    have hne : i ≠ j := fun z => by
      apply q
      refine ⟨z.symm, ?_⟩
      obtain ⟨hlt, _⟩ := List.getElem?_eq_some_iff.mp e1
      rw [r.len, z]
      exact hlt
    exact ⟨u', by rw [List.getElem?_set_ne hne]; exact e1, r1⟩
theorem RSl.un (r : RSl M c s σ) (i : Nat) : RSl M c (unV s i) (σ.set i none) := by
  refine ⟨by rw [length_unV, List.length_set]; exact r.len, fun j w e => ?_⟩
  rw [getV_unV] at e
  by_cases q : j = i
  · rw [if_pos q] at e; cases e
  · rw [if_neg q] at e
    obtain ⟨u', e1, r1⟩ := r.at_ j w e
    exact ⟨u', by rw [List.getElem?_set_ne (Ne.symm q)]; exact e1, r1⟩
theorem RSl.wipe (r : RSl M c s σ) : ∀ vs : List Nat, RSl M c (wipeL s vs) (wipe σ vs)
  | [] => r
  | v :: vs => (RSl.wipe r vs).un v
end

/-! ### the end of a run -/
/-- an exception: its class, its dict -/
structure RX (M : Mo) (c : Cf) (k : Nat) (fs : List (Str × Val)) (cls : Value) (d : Option Addr) : Prop where
  cls : cls = .ref (M.ca k)
  d : ∃ (a : Addr) (gs : List (Str × V)), d = some a ∧ c.H a = some (.xd gs) ∧ RF M c fs gs
/-- from c, the result r: Q of a value, W of an exception -/
def Go {α β : Type} (M : Mo) (c : Cf) (R : Cf → α → β → Prop) (r : Res α) (Q : β → Hp → Prop) (W : XK) : Prop := match r with
  | .ok a h => ∀ c' b, Ext M c c' → RH M c' h → R c' a b → Q b c'.H
  | .exc k fs h => ∀ c' cls d, Ext M c c' → RH M c' h → RX M c' k fs cls d → W cls d c'.H
  | .bad => False
/-- the state at hand -/
structure At (M : Mo) (c : Cf) (s : LSt) (h : LHeap) (σ : St) (H : Hp) : Prop where
  H : c.H = H
  h : RH M c h
  s : RSl M c s σ
section
variable {M : Mo} {W : WX}
/-- an expression's reading by the evaluator -/
def tEv (M : Mo) (W : WX) (m : LSt → LHeap → Res Val) : TE := fun σ H Q => ∃ c s h, At M c s h σ H ∧ Go M c (RV M) (m s h) Q (fun cls d H' => W cls d σ H')
def tEvT (M : Mo) (W : WX) (m : LSt → LHeap → Res Bool) : TT := fun σ H Q => ∃ c s h, At M c s h σ H ∧ Go M c (fun _ a b => a = b) (m s h) Q (fun cls d H' => W cls d σ H')
def tEvA (M : Mo) (W : WX) (m : LSt → LHeap → Res (List Val)) : TA := fun σ H Q => ∃ c s h, At M c s h σ H ∧ Go M c (RVs M) (m s h) Q (fun cls d H' => W cls d σ H')
theorem At.mk' {c : Cf} {s : LSt} {h : LHeap} {σ : St} (a : RH M c h) (b : RSl M c s σ) : At M c s h σ c.H := ⟨rfl, a, b⟩
/-- a run and what follows it -/
theorem Go.bindE {α β γ δ : Type} {c : Cf} {R : Cf → α → β → Prop} {R' : Cf → γ → δ → Prop} {r : Res α} {k : α → LHeap → Res γ} {Q : δ → Hp → Prop} {Q1 : β → Hp → Prop} {E : XK}
    (g : Go M c R' (r.bind k) Q E) (h1 : ∀ a h c1 b, r = .ok a h → Ext M c c1 → RH M c1 h → R c1 a b → Go M c1 R' (k a h) Q E → Q1 b c1.H) : Go M c R r Q1 E := by
  cases r with
  | ok a h =>
    intro c1 b e rh ra
    refine h1 a h c1 b rfl e rh ra ?_
    have g' : Go M c R' (k a h) Q E := g
    revert g'
    cases k a h with
    | ok a2 h2 => intro g' c2 b2 e2 rh2 rb2; exact g' c2 b2 (e.trans e2) rh2 rb2
    | exc kk fs h2 => intro g' c2 cls d e2 rh2 rx2; exact g' c2 cls d (e.trans e2) rh2 rx2
    | bad => intro g'; exact g'
  | exc kk fs h => exact g
  | bad => exact g
theorem Go.bind {α β γ δ : Type} {c : Cf} {R : Cf → α → β → Prop} {R' : Cf → γ → δ → Prop} {r : Res α} {k : α → LHeap → Res γ} {Q : δ → Hp → Prop} {Q1 : β → Hp → Prop} {E : XK}
    (g : Go M c R' (r.bind k) Q E) (h1 : ∀ a h c1 b, Ext M c c1 → RH M c1 h → R c1 a b → Go M c1 R' (k a h) Q E → Q1 b c1.H) : Go M c R r Q1 E :=
  Go.bindE g fun a h c1 b _ => h1 a h c1 b
theorem Go.imp {α β : Type} {c : Cf} {R : Cf → α → β → Prop} {r : Res α} {Q Q' : β → Hp → Prop} {E : XK} (g : Go M c R r Q E) (h : ∀ b H, Q b H → Q' b H) : Go M c R r Q' E := by
  cases r with
  | ok a h' => intro c1 b e rh ra; exact h _ _ (g c1 b e rh ra)
  | exc kk fs h' => exact g
  | bad => exact g
end
end Ev

set_option Elab.async false
set_option linter.all false
set_option maxRecDepth 100000
/-! Heap steps of the relation. -/
namespace Ev
open PySem PySem.Spec PyProof.Rows L2
section
variable {M : Mo} {c : Cf} {h : LHeap}
/-- an address that a store or a new object may take: tuples, locked things and exceptions stay -/
def Loose (o : Option HO) : Prop := match o with
  | none => True
  | some (.lst _) => True
  | some (.dK _) => True
  | some (.dT _) => True
  | some (.ins _ _ _) => True
  | _ => False
theorem Loose.sqT {H : Hp} {p a : Addr} {u : HO} {xs : List V} (l : Loose (H p)) (h : H a = some (.tup xs)) : upd H p u a = some (.tup xs) := by
  have : a ≠ p := fun e => by subst e; rw [h] at l; exact l
  rw [upd_ne this]; exact h
theorem Loose.fz {H : Hp} {p a : Addr} {u : HO} {xs : List V} {K : PySem.W.Frag} (l : Loose (H p)) (h : FzL K H a xs) : FzL K (upd H p u) a xs := by
  rcases h with ⟨o, h⟩ | h
  · have : a ≠ p := fun e => by subst e; rw [h] at l; exact l
    exact .inl ⟨o, by rw [upd_ne this]; exact h⟩
  · exact .inr h
/-- an object that is not at p stays -/
theorem RO.stay {c' : Cf} {o : LObj} {a p : Addr} {u : HO} (r : RO M c o a) (e : Ex M c c') (hH : c'.H = upd c.H p u) (l : Loose (c.H p)) (ne : o.mut = true → a ≠ p) : RO M c' o a := by
  cases r with
  | lst hh r => exact .lst (by rw [hH, upd_ne (ne rfl)]; exact hh) (r.ex e)
  | frz hh r => exact .frz (by rw [hH]; exact l.fz hh) (r.ex e)
  | dK hh r => exact .dK (by rw [hH, upd_ne (ne rfl)]; exact hh) (r.ex e)
  | dT hh r => exact .dT (by rw [hH, upd_ne (ne rfl)]; exact hh) (r.ex e)
  | ins hh r => exact .ins (by rw [hH, upd_ne (ne rfl)]; exact hh) (r.ex e)
  | @exc k fs a dx gs oe vs hh hc hd hf hx r =>
    have hdp : dx ≠ p := fun z => by subst z; rw [hx] at l; exact l
    exact .exc (by rw [hH, upd_ne (ne rfl)]; exact hh) hc hd hf (by rw [hH, upd_ne hdp]; exact hx) (r.ex e)
theorem RO.there {o : LObj} {a : Addr} (r : RO M c o a) (m : o.mut = true) : c.H a ≠ none := by
  cases r with
  | lst hh r => rw [hh]; simp
  | frz hh r => cases m
  | dK hh r => rw [hh]; simp
  | dT hh r => rw [hh]; simp
  | ins hh r => rw [hh]; simp
  | exc hh => rw [hh]; simp
/-- c with a new address -/
def Cf.push (c : Cf) (p : Addr) (u : HO) : Cf := ⟨c.n + 1, fun l => if l = c.n then p else c.r l, fun l => if l = c.n then true else c.nm l, upd c.H p u⟩
/-- c with another thing at p -/
def Cf.upd (c : Cf) (p : Addr) (u : HO) : Cf := ⟨c.n, c.r, c.nm, L2.upd c.H p u⟩
theorem Cf.push_ext {p : Addr} {u : HO} (hp : c.H p = none) : Ext M c (c.push p u) := by
  have lo : Loose (c.H p) := by rw [hp]; exact True.intro
  refine ⟨⟨Nat.le_succ _, fun l hl => if_neg (Nat.ne_of_lt hl), fun a xs q => lo.sqT q⟩, fun l hl => if_neg (Nat.ne_of_lt hl), fun a o q _ => ?_, fun l h1 h2 => ?_, fun a q => ?_⟩
  · show L2.upd c.H p u a = _
    rw [upd_ne (fun e => by rw [e, hp] at q; cases q)]; exact q
  · have e : l = c.n := Nat.le_antisymm (Nat.le_of_lt_succ h2) h1
    show c.H (if l = c.n then p else c.r l) = none
    rw [if_pos e]; exact hp
  · show L2.upd c.H p u a ≠ none
    rw [upd_ne (fun e => q (by rw [e]; exact hp))]; exact q
theorem Cf.upd_ex {p : Addr} {u : HO} (lo : Loose (c.H p)) : Ex M c (c.upd p u) := ⟨Nat.le_refl _, fun l hl => rfl, fun a xs q => lo.sqT q⟩
/-- a named thing, or a new one, is changed -/
theorem Cf.upd_ext {p : Addr} {u : HO} (lo : Loose (c.H p)) (hp : c.H p = none ∨ ∃ l, l < c.n ∧ c.nm l = true ∧ c.r l = p) : Ext M c (c.upd p u) := by
  refine ⟨Cf.upd_ex lo, fun _ _ => rfl, fun a o q hn => ?_, fun l h1 h2 => absurd h2 (Nat.not_lt.mpr h1), fun a q => ?_⟩
  · show L2.upd c.H p u a = _
    rw [upd_ne (fun e => ?_)]
    · exact q
    · rcases hp with z | ⟨l, hl, hm, z⟩
      · rw [e, z] at q; cases q
      · exact hn l hl hm (z.trans e.symm)
  · show L2.upd c.H p u a ≠ none
    by_cases e : a = p
    · rw [e, upd_same]; simp
    · rw [upd_ne e]; exact q
/-- .. seen from a state in which nothing stood there -/
theorem Ext.side {c0 : Cf} {p : Addr} {u : HO} (e : Ext M c0 c) (hp : c0.H p = none) : Ext M c0 (c.upd p u) := by
  have ne : ∀ a, c0.H a ≠ none → a ≠ p := fun a h z => h (by rw [z]; exact hp)
  refine ⟨⟨e.x.le, e.x.r, fun a xs q => ?_⟩, e.m, fun a o q hn => ?_, e.fr, fun a q => ?_⟩
  · show L2.upd c.H p u a = _
    rw [upd_ne (ne a (by rw [q]; simp))]; exact e.x.t a xs q
  · show L2.upd c.H p u a = _
    rw [upd_ne (ne a (by rw [q]; simp))]; exact e.f a o q hn
  · show L2.upd c.H p u a ≠ none
    rw [upd_ne (ne a q)]; exact e.tr a q
/-- a thing at p, named by none so far, gets a name -/
theorem RH.adopt {p : Addr} {u : HO} {o : LObj} (R : RH M c h) (lo : Loose (c.H p)) (un : ∀ l, l < c.n → c.nm l = true → c.r l ≠ p) (ro : RO M (c.push p u) o p) (mo : o.mut = true := by rfl) : RH M (c.push p u) (h.push o) := by
  have rn : ∀ l, l ≠ c.n → (c.push p u).r l = c.r l := fun l hl => if_neg hl
  have rs : (c.push p u).r c.n = p := if_pos rfl
  have ex : Ex M c (c.push p u) := ⟨Nat.le_succ _, fun l hl => if_neg (Nat.ne_of_lt hl), fun a xs q => lo.sqT q⟩
  have hn : ∀ l o, h.get l = some o → o.mut = true → c.r l ≠ p := fun l o e mm => un l (by rw [R.n]; exact LHeap.get_lt e) (R.mn l o e mm)
  refine ⟨?_, fun l u' e => ?_, fun l k u1 u2 e1 e2 m1 m2 er => ?_, fun l hl hm => ?_, fun l u' e hm => ?_⟩
  · show c.n + 1 = (h.push o).n
    rw [R.n]; obtain ⟨n, t⟩ := h; rfl
  · rw [LHeap.get_push, ← R.n] at e
    by_cases q : l = c.n
    · rw [if_pos q] at e
      cases e
      subst q
      rw [rs]
      exact ro
    · rw [if_neg q] at e
      rw [rn l q]
      exact (R.o l u' e).stay ex rfl lo fun mm => hn l u' e mm
  · rw [LHeap.get_push, ← R.n] at e1 e2
    by_cases q1 : l = c.n
    · by_cases q2 : k = c.n
      · rw [q1, q2]
      · rw [if_neg q2] at e2
        rw [q1, rs, rn k q2] at er
        exact absurd er.symm (hn k u2 e2 m2)
    · rw [if_neg q1] at e1
      by_cases q2 : k = c.n
      · rw [q2, rs, rn l q1] at er
        exact absurd er (hn l u1 e1 m1)
      · rw [if_neg q2] at e2
        rw [rn l q1, rn k q2] at er
        exact R.inj l k u1 u2 e1 e2 m1 m2 er
  · rw [LHeap.get_push, ← R.n]
    by_cases q : l = c.n
    · exact ⟨o, if_pos q, mo⟩
    · rw [if_neg q]
      have hl' : l < c.n + 1 := hl
      have hm' : (if l = c.n then true else c.nm l) = true := hm
      rw [if_neg q] at hm'
      exact R.nm l (by omega) hm'
  · rw [LHeap.get_push, ← R.n] at e
    show (if l = c.n then true else c.nm l) = true
    by_cases q : l = c.n
    · rw [if_pos q]
    · rw [if_neg q] at e ⊢
      exact R.mn l u' e hm
theorem Ext.adopt {c0 : Cf} {p : Addr} {u : HO} (e : Ext M c0 c) (hp : c0.H p = none) : Ext M c0 (c.push p u) := by
  have ne : ∀ a, c0.H a ≠ none → a ≠ p := fun a h z => h (by rw [z]; exact hp)
  refine ⟨⟨Nat.le_trans e.x.le (Nat.le_succ _), fun l hl => ?_, fun a xs q => ?_⟩, fun l hl => ?_, fun a o q hn => ?_, fun l h1 h2 => ?_, fun a q => ?_⟩
  · show (if l = c.n then p else c.r l) = _
    rw [if_neg (Nat.ne_of_lt (Nat.lt_of_lt_of_le hl e.x.le))]; exact e.x.r l hl
  · show L2.upd c.H p u a = _
    rw [upd_ne (ne a (by rw [q]; simp))]; exact e.x.t a xs q
  · show (if l = c.n then true else c.nm l) = _
    rw [if_neg (Nat.ne_of_lt (Nat.lt_of_lt_of_le hl e.x.le))]; exact e.m l hl
  · show L2.upd c.H p u a = _
    rw [upd_ne (ne a (by rw [q]; simp))]; exact e.f a o q hn
  · show c0.H (if l = c.n then p else c.r l) = none
    have h2' : l < c.n + 1 := h2
    by_cases q : l = c.n
    · rw [if_pos q]; exact hp
    · rw [if_neg q]; exact e.fr l h1 (by omega)
  · show L2.upd c.H p u a ≠ none
    rw [upd_ne (ne a q)]; exact e.tr a q
/-- a new object -/
theorem RH.push {p : Addr} {u : HO} {o : LObj} (R : RH M c h) (hp : c.H p = none) (ro : RO M (c.push p u) o p) (mo : o.mut = true := by rfl) : RH M (c.push p u) (h.push o) :=
  R.adopt (by rw [hp]; exact True.intro) (fun l hl hm e => by
    obtain ⟨o, q, mo⟩ := R.nm l hl hm
    exact (R.o l o q).there mo (by rw [e]; exact hp)) ro mo
/-- an object changed -/
theorem RH.put {l : Nat} {u : HO} {o o' : LObj} (R : RH M c h) (e : h.get l = some o) (mo : o.mut = true) (mo' : o'.mut = true) (lo : Loose (c.H (c.r l))) (ro : RO M (c.upd (c.r l) u) o' (c.r l)) :
    RH M (c.upd (c.r l) u) (h.put l o') := by
  have ex : Ex M c (c.upd (c.r l) u) := Cf.upd_ex lo
  have hl := LHeap.get_lt e
  refine ⟨R.n, fun k u' e' => ?_, fun k j u1 u2 e1 e2 m1 m2 er => ?_, fun k hk hm => ?_, fun k u' e' hm => ?_⟩
  · rw [LHeap.get_put hl] at e'
    by_cases q : k = l
    · rw [if_pos q] at e'
      cases e'
      subst q
      exact ro
    · rw [if_neg q] at e'
      exact (R.o k u' e').stay ex rfl lo fun mm z => q (R.inj k l u' o e' e mm mo z)
  · rw [LHeap.get_put hl] at e1 e2
    by_cases q1 : k = l
    · by_cases q2 : j = l
      · rw [q1, q2]
      · rw [if_neg q2] at e2
        subst q1
        exact R.inj k j o u2 e e2 mo m2 er
    · rw [if_neg q1] at e1
      by_cases q2 : j = l
      · subst q2
        exact R.inj k j u1 o e1 e m1 mo er
      · rw [if_neg q2] at e2
        exact R.inj k j u1 u2 e1 e2 m1 m2 er
  · rw [LHeap.get_put hl]
    by_cases q : k = l
    · exact ⟨o', if_pos q, mo'⟩
    · rw [if_neg q]
      exact R.nm k hk hm
  · rw [LHeap.get_put hl] at e'
    by_cases q : k = l
    · subst q
      exact R.mn k o e mo
    · rw [if_neg q] at e'
      exact R.mn k u' e' hm
/-- tracked things that no logical address names may come and go: a new thing at p -/
theorem RH.side {p : Addr} {u : HO} (R : RH M c h) (hp : c.H p = none) : RH M (c.upd p u) h ∧ Ext M c (c.upd p u) := by
  have lo : Loose (c.H p) := by rw [hp]; exact True.intro
  exact ⟨⟨R.n, fun l o e => (R.o l o e).stay (Cf.upd_ex lo) rfl lo fun mm z => (R.o l o e).there mm (by rw [z]; exact hp), R.inj, R.nm, R.mn⟩, Cf.upd_ext lo (.inl hp)⟩
/-- .. a thing at p, named by none, changed -/
theorem RH.side' {p : Addr} {u : HO} (R : RH M c h) (lo : Loose (c.H p)) (ne : ∀ l o, h.get l = some o → o.mut = true → c.r l ≠ p) : RH M (c.upd p u) h ∧ Ex M c (c.upd p u) :=
  ⟨⟨R.n, fun l o e => (R.o l o e).stay (Cf.upd_ex lo) rfl lo fun mm => ne l o e mm, R.inj, R.nm, R.mn⟩, Cf.upd_ex lo⟩
/-- a new address is named by none -/
theorem RH.new {p : Addr} (R : RH M c h) (hp : c.H p = none) : ∀ l, l < c.n → c.nm l = true → c.r l ≠ p := fun l hl hm e => by
  obtain ⟨o, q, mo⟩ := R.nm l hl hm
  exact (R.o l o q).there mo (by rw [e]; exact hp)
end
/-! ### new things in a reading -/
section
variable {M : Mo} {c : Cf} {h : LHeap} {Q : VK} {E : XK}
theorem blt_true {a b : Nat} (h : Nat.blt a b = true) : a < b := Nat.le_of_ble_eq_true h
theorem ble_true {a b : Nat} (h : Nat.ble a b = true) : a ≤ b := Nat.le_of_ble_eq_true h
/-- a new list -/
theorem go_alloc_lst {xs : List Val} {ys : List V} (R : RH M c h) (r : RVs M c xs ys) (g : Go M c (RV M) (alloc (.lst xs) h) Q E) : ∀ p, c.H p = none → Q (.ref p) (upd c.H p (.lst ys)) := by
  intro p hp
  unfold alloc at g
  have ex : Ext M c (c.push p (.lst ys)) := Cf.push_ext hp
  have e := g (c.push p (.lst ys)) (.ref p) ex (R.push hp (.lst upd_same (r.ext ex))) ?_
  · exact e
  · have : RV M (c.push p (.lst ys)) (.ref c.n) (.ref ((c.push p (.lst ys)).r c.n)) := .ref (Nat.lt_succ_self _)
    rw [show (c.push p (.lst ys)).r c.n = p from if_pos rfl] at this
    rw [← R.n]
    exact this
theorem go_alloc_dK {xs : List (Key × Val)} {ys : List (Key × V)} (R : RH M c h) (r : RK Key M c xs ys) (g : Go M c (RV M) (alloc (.dK xs) h) Q E) : ∀ p, c.H p = none → Q (.ref p) (upd c.H p (.dK ys)) := by
  intro p hp
  unfold alloc at g
  have ex : Ext M c (c.push p (.dK ys)) := Cf.push_ext hp
  refine g (c.push p (.dK ys)) (.ref p) ex (R.push hp (.dK upd_same (r.ext ex))) ?_
  have : RV M (c.push p (.dK ys)) (.ref c.n) (.ref ((c.push p (.dK ys)).r c.n)) := .ref (Nat.lt_succ_self _)
  rw [show (c.push p (.dK ys)).r c.n = p from if_pos rfl] at this
  rw [← R.n]
  exact this
theorem go_alloc_dT {xs : List (List Key × Val)} {ys : List (List Key × V)} (R : RH M c h) (r : RK (List Key) M c xs ys) (g : Go M c (RV M) (alloc (.dT xs) h) Q E) : ∀ p, c.H p = none → Q (.ref p) (upd c.H p (.dT ys)) := by
  intro p hp
  unfold alloc at g
  have ex : Ext M c (c.push p (.dT ys)) := Cf.push_ext hp
  refine g (c.push p (.dT ys)) (.ref p) ex (R.push hp (.dT upd_same (r.ext ex))) ?_
  have : RV M (c.push p (.dT ys)) (.ref c.n) (.ref ((c.push p (.dT ys)).r c.n)) := .ref (Nat.lt_succ_self _)
  rw [show (c.push p (.dT ys)).r c.n = p from if_pos rfl] at this
  rw [← R.n]
  exact this
/-- a side thing that becomes the result -/
theorem go_adopt_dK {c0 : Cf} {p : Addr} {xs : List (Key × Val)} {ys : List (Key × V)} (R : RH M c h) (e0 : Ext M c0 c) (hp : c0.H p = none) (lo : Loose (c.H p)) (un : ∀ l, l < c.n → c.nm l = true → c.r l ≠ p) (r : RK Key M c xs ys)
    (g : Go M c0 (RV M) (alloc (.dK xs) h) Q E) : Q (.ref p) (upd c.H p (.dK ys)) := by
  unfold alloc at g
  have ex : Ex M c (c.push p (.dK ys)) := ⟨Nat.le_succ _, fun l hl => if_neg (Nat.ne_of_lt hl), fun a xs q => lo.sqT q⟩
  refine g (c.push p (.dK ys)) (.ref p) (e0.adopt hp) (R.adopt lo un (.dK upd_same (r.ex ex))) ?_
  have : RV M (c.push p (.dK ys)) (.ref c.n) (.ref ((c.push p (.dK ys)).r c.n)) := .ref (Nat.lt_succ_self _)
  rw [show (c.push p (.dK ys)).r c.n = p from if_pos rfl] at this
  rw [← R.n]
  exact this
theorem go_adopt_lst {c0 : Cf} {p : Addr} {xs : List Val} {ys : List V} (R : RH M c h) (e0 : Ext M c0 c) (hp : c0.H p = none) (lo : Loose (c.H p)) (un : ∀ l, l < c.n → c.nm l = true → c.r l ≠ p) (r : RVs M c xs ys) (hc : c.H p = some (.lst ys))
    (g : Go M c0 (RV M) (alloc (.lst xs) h) Q E) : Q (.ref p) c.H := by
  unfold alloc at g
  have eu : upd c.H p (.lst ys) = c.H := by
    funext b
    by_cases e : b = p
    · rw [e, upd_same, hc]
    · rw [upd_ne e]
  have ex : Ex M c (c.push p (.lst ys)) := ⟨Nat.le_succ _, fun l hl => if_neg (Nat.ne_of_lt hl), fun a xs q => lo.sqT q⟩
  have z := g (c.push p (.lst ys)) (.ref p) (e0.adopt hp) (R.adopt lo un (.lst upd_same (r.ex ex))) (by
    have : RV M (c.push p (.lst ys)) (.ref c.n) (.ref ((c.push p (.lst ys)).r c.n)) := .ref (Nat.lt_succ_self _)
    rw [show (c.push p (.lst ys)).r c.n = p from if_pos rfl] at this
    rw [← R.n]
    exact this)
  have z' : Q (.ref p) (upd c.H p (.lst ys)) := z
  rw [eu] at z'
  exact z'
/-- a new tuple -/
theorem go_tup {xs : List Val} {ys : List V} (R : RH M c h) (r : RVs M c xs ys) (g : Go M c (RV M) (.ok (.tup xs) h) Q E) : ∀ p, c.H p = none → Q (.ref p) (upd c.H p (.tup ys)) := by
  intro p hp
  obtain ⟨R', ex⟩ := R.side (u := .tup ys) hp
  exact g (c.upd p (.tup ys)) (.ref p) ex R' (.tup upd_same (r.ext ex))
/-- a value as it is -/
theorem go_val {α β : Type} {RR : Cf → α → β → Prop} {a : α} {b : β} {Q : β → Hp → Prop} (R : RH M c h) (r : RR c a b) (g : Go M c RR (.ok a h) Q E) : Q b c.H := g c b (Ext.refl c) R r
/-- a list changed -/
theorem go_store_lst {l : Nat} {o : LObj} {xs : List Val} {ys : List V} {α β : Type} {RR : Cf → α → β → Prop} {a : α} {b : β} {Q : β → Hp → Prop} (R : RH M c h) (e : h.get l = some o) (mo : o.mut = true) (lo : Loose (c.H (c.r l))) (r : RVs M c xs ys)
    (rr : ∀ c', Ext M c c' → RR c' a b) (g : Go M c RR (store l (.lst xs) h a) Q E) : Q b (upd c.H (c.r l) (.lst ys)) := by
  unfold store at g
  have ex : Ext M c (c.upd (c.r l) (.lst ys)) := Cf.upd_ext lo (.inr ⟨l, by rw [R.n]; exact LHeap.get_lt e, R.mn l o e mo, rfl⟩)
  exact g (c.upd (c.r l) (.lst ys)) b ex (R.put e mo rfl lo (.lst upd_same (r.ext ex))) (rr _ ex)
end
end Ev

set_option Elab.async false
set_option linter.all false
set_option maxRecDepth 100000
set_option maxHeartbeats 2000000
/-! Binary operations and comparisons. -/
namespace Ev
open PySem PySem.Spec PyProof.Rows L2

/-- a value at hand -/
structure Has (M : Mo) (c : Cf) (h : LHeap) (H : Hp) : Prop where
  H : c.H = H
  h : RH M c h
def BOp.op : BOp → Operator
  | .add => .Add
  | .sub => .Sub
  | .mul => .Mult
  | .fdiv => .FloorDiv
  | .mod => .Mod
  | .pow => .Pow
def rBin (M : Mo) (o : BOp) : R2 := fun x y H Q => ∃ c h u v E, Has M c h H ∧ RV M c u x ∧ RV M c v y ∧ Go M c (RV M) (binOp o u v h) Q E
theorem line_eq : line = sizeLine := rfl
theorem small_ok {i : Int} (h : small i = true) : -(2 ^ 64) < i ∧ i < 2 ^ 64 := by
  unfold small at h
  simp only [Bool.and_eq_true, decide_eq_true_eq] at h
  exact ⟨by omega, by omega⟩
theorem cps_len (s : Str) : s.cps.toList.length = s.length := by
  show _ = s.cps.size
  simp
section
variable {M : Mo} {X : Cx} {c : Cf} {h : LHeap}
/-- what a logical address holds -/
theorem RH.lst {l : Nat} {xs : List Val} (R : RH M c h) (e : h.get l = some (.lst xs)) : ∃ ys, c.H (c.r l) = some (.lst ys) ∧ RVs M c xs ys := by
  cases R.o l _ e with
  | lst hh r => exact ⟨_, hh, r⟩
theorem RH.frz {l : Nat} {xs : List Val} (R : RH M c h) (e : h.get l = some (.frz xs)) : ∃ ys, FzL M.K c.H (c.r l) ys ∧ RVs M c xs ys := by
  cases R.o l _ e with
  | frz hh r => exact ⟨_, hh, r⟩
theorem RH.dK {l : Nat} {xs : List (Key × Val)} (R : RH M c h) (e : h.get l = some (.dK xs)) : ∃ ys, c.H (c.r l) = some (.dK ys) ∧ RK Key M c xs ys := by
  cases R.o l _ e with
  | dK hh r => exact ⟨_, hh, r⟩
theorem RH.dT {l : Nat} {xs : List (List Key × Val)} (R : RH M c h) (e : h.get l = some (.dT xs)) : ∃ ys, c.H (c.r l) = some (.dT ys) ∧ RK (List Key) M c xs ys := by
  cases R.o l _ e with
  | dT hh r => exact ⟨_, hh, r⟩
/-- a list, tracked or locked -/
theorem RH.itemsL {v : Val} {x : V} {xs : List Val} (R : RH M c h) (r : RV M c v x) (e : itemsL h v = some xs) : ∃ a ys, x = .ref a ∧ SqL M.K c.H a ys ∧ RVs M c xs ys := by
  cases r with
  | @ref l hl =>
    have e' : (match h.get l with
      | some (.lst xs) => some xs
      | some (.frz xs) => some xs
      | _ => none) = some xs := e
    cases q : h.get l with
    | none => rw [q] at e'; cases e'
    | some o =>
      rw [q] at e'
      cases o with
      | lst zs =>
        cases e'
        obtain ⟨ys, h1, h2⟩ := R.lst q
        exact ⟨_, ys, rfl, SqL.of h1, h2⟩
      | frz zs =>
        cases e'
        obtain ⟨ys, h1, h2⟩ := R.frz q
        exact ⟨_, ys, rfl, h1.sq, h2⟩
      | dK _ => cases e'
      | dT _ => cases e'
      | ins _ _ => cases e'
      | exc _ _ => cases e'
  | _ => cases e
theorem Ext.keepRVs {c' : Cf} (e : Ext M c c') {xs : List Val} {ys : List V} (r : RVs M c xs ys) : RVs M c' xs ys := r.ext e
theorem op_bin (hK : X.K = M.K) (o : BOp) : OpR X (binaryOp o.op) (rBin M o) := by
  intro pins s σ H x y v u Q I rx ry hr
  obtain ⟨c, h, a, b, E, ⟨rfl, R⟩, ra, rb, g⟩ := hr
  cases o with
  | add =>
    cases ra with
    | int i =>
      cases rb with
      | int j => exact op_add pins s σ _ _ _ v u Q I rx ry ⟨i, j, rfl, rfl, go_val (RR := RV M) R (.int _) g⟩
      | _ => exact g.elim
    | str i =>
      cases rb with
      | str j =>
        have g' : Go M c (RV M) (match Nat.ble (i.cps.toList.length + j.cps.toList.length) line with
          | true => .ok (.str (sApp i j)) h
          | false => .bad) Q E := g
        cases q : Nat.ble (i.cps.toList.length + j.cps.toList.length) line with
        | false => rw [q] at g'; exact g'.elim
        | true =>
          rw [q] at g'
          have hl := ble_true q
          rw [cps_len, cps_len, line_eq] at hl
          refine op_add_str pins s σ _ _ _ v u Q I rx ry ⟨i, j, rfl, rfl, hl, ?_⟩
          rw [← sApp_eq]
          exact go_val (RR := RV M) R (.str _) g'
      | _ => exact g.elim
    | @tup xs p ys sq r =>
      cases rb with
      | @tup xs2 p2 ys2 sq2 r2 =>
        have g' : Go M c (RV M) (match Nat.ble (xs.length + xs2.length) line with
          | true => .ok (.tup (xs ++ xs2)) h
          | false => .bad) Q E := g
        cases q : Nat.ble (xs.length + xs2.length) line with
        | false => rw [q] at g'; exact g'.elim
        | true =>
          rw [q] at g'
          have hl := ble_true q
          rw [r.length, r2.length, line_eq] at hl
          refine op_catA pins s σ _ _ _ v u Q I rx ry ⟨p, p2, ys, ys2, rfl, rfl, SqT.of sq, SqT.of sq2, hl, fun e => ?_, fun _ e => ?_, fun _ _ => ?_⟩
          · subst e
            cases r
            exact go_val (RR := RV M) R (.tup sq2 r2) g'
          · subst e
            cases r2
            rw [List.append_nil] at g'
            exact go_val (RR := RV M) R (.tup sq r) g'
          · exact go_tup R (r.append r2) g'
      | _ => exact g.elim
    | @ref l hl =>
      cases rb with
      | @ref k hk =>
        have g' : Go M c (RV M) (match h.get l, h.get k with
          | some (.lst xs), some (.lst ys) => (match Nat.ble (xs.length + ys.length) line with
            | true => alloc (.lst (xs ++ ys)) h
            | false => .bad)
          | _, _ => .bad) Q E := g
        cases q1 : h.get l with
        | none => rw [q1] at g'; exact g'.elim
        | some o1 =>
          rw [q1] at g'
          cases o1 with
          | lst xs =>
            cases q2 : h.get k with
            | none => rw [q2] at g'; exact g'.elim
            | some o2 =>
              rw [q2] at g'
              cases o2 with
              | lst ys =>
                have g2 : Go M c (RV M) (match Nat.ble (xs.length + ys.length) line with
                  | true => alloc (.lst (xs ++ ys)) h
                  | false => .bad) Q E := g'
                cases q : Nat.ble (xs.length + ys.length) line with
                | false => rw [q] at g2; exact g2.elim
                | true =>
                  rw [q] at g2
                  obtain ⟨us, h1, r1⟩ := R.lst q1
                  obtain ⟨ws, h2, r2⟩ := R.lst q2
                  have hl := ble_true q
                  rw [r1.length, r2.length, line_eq] at hl
                  exact op_cat pins s σ _ _ _ v u Q I rx ry ⟨_, _, us, ws, rfl, rfl, h1, h2, hl, go_alloc_lst R (r1.append r2) g2⟩
              | _ => exact g'.elim
          | _ => cases q2 : h.get k <;> (rw [q2] at g'; exact g'.elim)
      | _ => exact g.elim
    | _ => exact g.elim
  | sub =>
    cases ra with
    | int i =>
      cases rb with
      | int j => exact op_sub pins s σ _ _ _ v u Q I rx ry ⟨i, j, rfl, rfl, go_val (RR := RV M) R (.int _) g⟩
      | _ => exact g.elim
    | _ => cases rb <;> exact g.elim
  | mul =>
    cases ra with
    | int i =>
      cases rb with
      | int j =>
        have g' : Go M c (RV M) (match small i || small j with
          | true => .ok (.int (i * j)) h
          | false => .bad) Q E := g
        cases q : small i || small j with
        | false => rw [q] at g'; exact g'.elim
        | true =>
          rw [q] at g'
          refine op_mul pins s σ _ _ _ v u Q I rx ry ⟨i, j, rfl, rfl, ?_, go_val (RR := RV M) R (.int _) g'⟩
          rcases Bool.or_eq_true_iff.mp q with z | z
          · exact .inl (small_ok z)
          · exact .inr (small_ok z)
      | _ => exact g.elim
    | @ref l hl =>
      cases rb with
      | int k =>
        have g' : Go M c (RV M) (match h.get l with
          | some (.lst xs) => (match decide (0 ≤ k) && decide (k ≤ 1000) && Nat.ble (xs.length * k.toNat) line with
            | true => alloc (.lst (Ev.rep xs k.toNat)) h
            | false => .bad)
          | _ => .bad) Q E := g
        cases q1 : h.get l with
        | none => rw [q1] at g'; exact g'.elim
        | some o1 =>
          rw [q1] at g'
          cases o1 with
          | lst xs =>
            have g2 : Go M c (RV M) (match decide (0 ≤ k) && decide (k ≤ 1000) && Nat.ble (xs.length * k.toNat) line with
              | true => alloc (.lst (Ev.rep xs k.toNat)) h
              | false => .bad) Q E := g'
            cases q : decide (0 ≤ k) && decide (k ≤ 1000) && Nat.ble (xs.length * k.toNat) line with
            | false => rw [q] at g2; exact g2.elim
            | true =>
              rw [q] at g2
              obtain ⟨us, h1, r1⟩ := R.lst q1
              simp only [Bool.and_eq_true, decide_eq_true_eq] at q
              have hl := ble_true q.2
              rw [r1.length, line_eq] at hl
              exact op_rep pins s σ _ _ _ v u Q I rx ry ⟨_, k, us, rfl, rfl, h1, by omega, by omega, hl, go_alloc_lst R (r1.rep _) g2⟩
          | _ => exact g'.elim
      | _ => exact g.elim
    | @tup xs p ys sq r =>
      cases rb with
      | int k =>
        have g' : Go M c (RV M) (match decide (2 ≤ k) && decide (k ≤ 1000) && Nat.ble 1 xs.length && Nat.ble xs.length 1000 with
          | true => .ok (.tup (Ev.rep xs k.toNat)) h
          | false => .bad) Q E := g
        cases q : decide (2 ≤ k) && decide (k ≤ 1000) && Nat.ble 1 xs.length && Nat.ble xs.length 1000 with
        | false => rw [q] at g'; exact g'.elim
        | true =>
          rw [q] at g'
          simp only [Bool.and_eq_true, decide_eq_true_eq] at q
          have h1 := ble_true q.1.2
          have h2 := ble_true q.2
          rw [r.length] at h1 h2
          exact op_repT pins s σ _ _ _ v u Q I rx ry ⟨p, k, ys, rfl, rfl, SqT.of sq, fun e => by subst e; simp at h1, q.1.1.1, q.1.1.2, h2, go_tup R (r.rep _) g'⟩
      | _ => exact g.elim
    | _ => cases rb <;> exact g.elim
  | fdiv =>
    cases ra with
    | int i =>
      cases rb with
      | int j =>
        have g' : Go M c (RV M) (match decide (0 < j) && decide (j < 1073741824) with
          | true => .ok (.int (i / j)) h
          | false => .bad) Q E := g
        cases q : decide (0 < j) && decide (j < 1073741824) with
        | false => rw [q] at g'; exact g'.elim
        | true =>
          rw [q] at g'
          simp only [Bool.and_eq_true, decide_eq_true_eq] at q
          exact op_fdiv pins s σ _ _ _ v u Q I rx ry ⟨i, j, rfl, rfl, q, go_val (RR := RV M) R (.int _) g'⟩
      | _ => exact g.elim
    | _ => cases rb <;> exact g.elim
  | mod =>
    cases ra with
    | int i =>
      cases rb with
      | int j =>
        have g' : Go M c (RV M) (match decide (0 < j) with
          | true => .ok (.int (i % j)) h
          | false => .bad) Q E := g
        cases q : decide (0 < j) with
        | false => rw [q] at g'; exact g'.elim
        | true =>
          rw [q] at g'
          simp only [decide_eq_true_eq] at q
          exact op_mod pins s σ _ _ _ v u Q I rx ry ⟨i, j, rfl, rfl, q, go_val (RR := RV M) R (.int _) g'⟩
      | _ => exact g.elim
    | _ => cases rb <;> exact g.elim
  | pow =>
    cases ra with
    | int i =>
      cases rb with
      | int j =>
        have g' : Go M c (RV M) (match decide (0 ≤ j) && decide (j ≤ 1000000) && small i with
          | true => .ok (.int (i ^ j.toNat)) h
          | false => .bad) Q E := g
        cases q : decide (0 ≤ j) && decide (j ≤ 1000000) && small i with
        | false => rw [q] at g'; exact g'.elim
        | true =>
          rw [q] at g'
          simp only [Bool.and_eq_true, decide_eq_true_eq] at q
          have hs := small_ok q.2
          exact op_pow pins s σ _ _ _ v u Q I rx ry ⟨i, j, rfl, rfl, ⟨q.1.1, q.1.2, by omega⟩, go_val (RR := RV M) R (.int _) g'⟩
      | _ => exact g.elim
    | _ => cases rb <;> exact g.elim
end
end Ev

set_option Elab.async false
set_option linter.all false
set_option maxRecDepth 100000
set_option maxHeartbeats 2000000
/-! Comparisons, dicts. -/
namespace Ev
open PySem PySem.Spec PyProof.Rows L2
theorem mapOpt_cons {α β : Type} {f : α → Option β} {x : α} {xs : List α} {zs : List β} (e : mapOpt f (x :: xs) = some zs) : ∃ y ys, f x = some y ∧ mapOpt f xs = some ys ∧ zs = y :: ys := by
  unfold mapOpt at e
  cases q : f x with
  | none => rw [q] at e; cases e
  | some y =>
    rw [q] at e
    cases q2 : mapOpt f xs with
    | none => simp only [q2] at e; cases e
    | some ys => simp only [q2] at e; cases e; exact ⟨y, ys, rfl, rfl, rfl⟩
/-! ### keys -/
theorem keyEq_iff : ∀ {a b : Key}, keyEq a b = true ↔ a = b
  | .inl i, .inl j => by simp [keyEq]
  | .inr x, .inr y => by simp [keyEq, strEq_iff]
  | .inl _, .inr _ => by simp [keyEq]
  | .inr _, .inl _ => by simp [keyEq]
theorem keysEq_iff : ∀ {a b : List Key}, keysEq a b = true ↔ a = b
  | [], [] => by simp [keysEq]
  | [], _ :: _ => by simp [keysEq]
  | _ :: _, [] => by simp [keysEq]
  | x :: xs, y :: ys => by
    unfold keysEq
    cases e : keyEq x y with
    | true =>
      have := keyEq_iff.mp e
      subst this
      simp [keysEq_iff]
    | false =>
      have : x ≠ y := fun q => by rw [keyEq_iff.mpr q] at e; cases e
      simp [this]
section
variable {M : Mo} {X : Cx} {c : Cf} {h : LHeap}
theorem keyOf_rv {v : Val} {x : V} {k : Key} (r : RV M c v x) (e : keyOf v = some k) : x = kV k := by
  cases r with
  | int i => cases e; rfl
  | str s => cases e; rfl
  | _ => cases e
theorem keysOf_rv : ∀ {vs : List Val} {xs : List V} {ks : List Key}, RVs M c vs xs → keysOf vs = some ks → xs = ks.map kV
  | _, _, _, .nil, e => by cases e; rfl
  | v :: vs, x :: xs, ks, .cons r t, e => by
    obtain ⟨k, ks', q, q2, rfl⟩ := mapOpt_cons (show mapOpt keyOf (v :: vs) = some ks from e)
    rw [keyOf_rv r q, keysOf_rv t (show keysOf vs = some ks' from q2)]
    rfl
def RVo (M : Mo) (c : Cf) : Option Val → Option V → Prop
  | some v, some x => RV M c v x
  | none, none => True
  | _, _ => False
theorem lookK_rv {k : Key} : ∀ {kvs : List (Key × Val)} {ys : List (Key × V)}, RK Key M c kvs ys → RVo M c (lookK k kvs) (valV ys k)
  | _, _, .nil => True.intro
  | _, _, @RK.cons _ _ _ k' x y xs ys r t => by
    have ih := lookK_rv (k := k) t
    unfold lookK
    cases e : keyEq k' k with
    | true =>
      rw [valV_pos (p := (k', y)) (keyEq_iff.mp e)]
      simp only [e]
      exact r
    | false =>
      have ne : ¬ (k', y).1 = k := fun q => by rw [keyEq_iff.mpr q] at e; cases e
      rw [valV_neg ne]
      simp only [e]
      exact ih
theorem lookT_rv {k : List Key} : ∀ {kvs : List (List Key × Val)} {ys : List (List Key × V)}, RK (List Key) M c kvs ys → RVo M c (lookT k kvs) (valV ys k)
  | _, _, .nil => True.intro
  | _, _, @RK.cons _ _ _ k' x y xs ys r t => by
    have ih := lookT_rv (k := k) t
    unfold lookT
    cases e : keysEq k' k with
    | true =>
      rw [valV_pos (p := (k', y)) (keysEq_iff.mp e)]
      simp only [e]
      exact r
    | false =>
      have ne : ¬ (k', y).1 = k := fun q => by rw [keysEq_iff.mpr q] at e; cases e
      rw [valV_neg ne]
      simp only [e]
      exact ih
theorem RK.snoc {κ : Type} {k : κ} {v : Val} {x : V} (rv : RV M c v x) : ∀ {kvs : List (κ × Val)} {ys : List (κ × V)}, RK κ M c kvs ys → RK κ M c (kvs ++ [(k, v)]) (ys ++ [(k, x)])
  | _, _, .nil => .cons rv .nil
  | _, _, .cons r t => .cons r (RK.snoc rv t)
theorem RK.length {κ : Type} : ∀ {kvs : List (κ × Val)} {ys : List (κ × V)}, RK κ M c kvs ys → kvs.length = ys.length
  | _, _, .nil => rfl
  | _, _, .cons r t => by simp [RK.length t]
theorem hasK_eq {k : Key} : ∀ {kvs : List (Key × Val)} {ys : List (Key × V)}, RK Key M c kvs ys → hasK k kvs = ys.any fun kv => decide (kv.1 = k)
  | _, _, .nil => rfl
  | _, _, @RK.cons _ _ _ k' x y xs ys r t => by
    unfold hasK
    rw [List.any_cons, ← hasK_eq t]
    cases e : keyEq k' k with
    | true => simp [keyEq_iff.mp e]
    | false =>
      have ne : ¬ k' = k := fun q => by rw [keyEq_iff.mpr q] at e; cases e
      simp [ne]
theorem mapK_rv {k : Key} {v : Val} {x : V} (rv : RV M c v x) : ∀ {kvs : List (Key × Val)} {ys : List (Key × V)}, RK Key M c kvs ys → RK Key M c (mapK k v kvs) (ys.map fun kv => if kv.1 = k then (kv.1, x) else kv)
  | _, _, .nil => .nil
  | _, _, @RK.cons _ _ _ k' x' y xs ys r t => by
    unfold mapK
    rw [List.map_cons]
    cases e : keyEq k' k with
    | true =>
      simp only [e]
      rw [if_pos (keyEq_iff.mp e)]
      exact .cons rv (mapK_rv rv t)
    | false =>
      have ne : ¬ k' = k := fun q => by rw [keyEq_iff.mpr q] at e; cases e
      simp only [e]
      rw [if_neg ne]
      exact .cons r (mapK_rv rv t)
theorem putKV_rv {k : Key} {v : Val} {x : V} {kvs : List (Key × Val)} {ys : List (Key × V)} (rv : RV M c v x) (r : RK Key M c kvs ys) : RK Key M c (putKV k v kvs) (putK ys k x) := by
  unfold putKV putK
  rw [← hasK_eq r]
  cases e : hasK k kvs with
  | true => exact mapK_rv rv r
  | false => exact RK.snoc rv r
theorem hasT_eq {k : List Key} : ∀ {kvs : List (List Key × Val)} {ys : List (List Key × V)}, RK (List Key) M c kvs ys → hasT k kvs = ys.any fun kv => decide (kv.1 = k)
  | _, _, .nil => rfl
  | _, _, @RK.cons _ _ _ k' x y xs ys r t => by
    unfold hasT
    rw [List.any_cons, ← hasT_eq t]
    cases e : keysEq k' k with
    | true => simp [keysEq_iff.mp e]
    | false =>
      have ne : ¬ k' = k := fun q => by rw [keysEq_iff.mpr q] at e; cases e
      simp [ne]
theorem mapT_rv {k : List Key} {v : Val} {x : V} (rv : RV M c v x) : ∀ {kvs : List (List Key × Val)} {ys : List (List Key × V)}, RK (List Key) M c kvs ys → RK (List Key) M c (mapT k v kvs) (ys.map fun kv => if kv.1 = k then (kv.1, x) else kv)
  | _, _, .nil => .nil
  | _, _, @RK.cons _ _ _ k' x' y xs ys r t => by
    unfold mapT
    rw [List.map_cons]
    cases e : keysEq k' k with
    | true =>
      simp only [e]
      rw [if_pos (keysEq_iff.mp e)]
      exact .cons rv (mapT_rv rv t)
    | false =>
      have ne : ¬ k' = k := fun q => by rw [keysEq_iff.mpr q] at e; cases e
      simp only [e]
      rw [if_neg ne]
      exact .cons r (mapT_rv rv t)
theorem putTV_rv {k : List Key} {v : Val} {x : V} {kvs : List (List Key × Val)} {ys : List (List Key × V)} (rv : RV M c v x) (r : RK (List Key) M c kvs ys) : RK (List Key) M c (putTV k v kvs) (putK ys k x) := by
  unfold putTV putK
  rw [← hasT_eq r]
  cases e : hasT k kvs with
  | true => exact mapT_rv rv r
  | false => exact RK.snoc rv r
theorem mergeL_rv {ps : List (Key × Val)} {qs : List (Key × V)} (r : RK Key M c ps qs) : ∀ {kvs : List (Key × Val)} {ys : List (Key × V)}, RK Key M c kvs ys → RK Key M c (mergeL kvs ps) (mergeK ys qs) := by
  induction r with
  | nil => intro kvs ys q; exact q
  | cons r t ih => intro kvs ys q; exact ih (putKV_rv r q)
/-- d[y] -/
theorem dget_rv {d y : Val} {x z : V} {o : Option Val} (R : RH M c h) (rd : RV M c d x) (ry : RV M c y z) (e : dget h d y = some o) : ∃ a o', x = .ref a ∧ DGet c.H a z o' ∧ RVo M c o o' := by
  cases rd with
  | @ref l hl =>
    unfold dget at e
    cases q : h.get l with
    | none => simp only [q] at e; cases e
    | some ob =>
      cases ob with
      | dK kvs =>
        simp only [q] at e
        cases qk : keyOf y with
        | none => simp only [qk] at e; cases e
        | some k =>
          simp only [qk] at e
          cases e
          obtain ⟨ys, h1, r1⟩ := R.dK q
          rw [keyOf_rv ry qk]
          exact ⟨_, _, rfl, DGet.k h1, lookK_rv r1⟩
      | dT kvs =>
        simp only [q] at e
        cases ry with
        | @tup us b zs ht rt =>
          cases qk : keysOf us with
          | none => simp only [qk] at e; cases e
          | some k =>
            simp only [qk] at e
            cases e
            obtain ⟨ys, h1, r1⟩ := R.dT q
            rw [keysOf_rv rt qk] at ht
            exact ⟨_, _, rfl, DGet.t h1 ht, lookT_rv r1⟩
        | _ => cases e
      | _ => simp only [q] at e; cases e
  | _ => cases e
/-! ### data -/
theorem toD_dp : ∀ (n : Nat) {v : Val} {x : V} {d : PyData}, RH M c h → RV M c v x → toD n h v = some d → Dp M.K c.H x d
  | 0, _, _, _, _, _, e => by cases e
  | n + 1, v, x, d, R, r, e => by
    have all : ∀ {vs : List Val} {xs : List V} {ds : List PyData}, RVs M c vs xs → mapOpt (toD n h) vs = some ds → DpAll M.K c.H xs ds := by
      intro vs
      induction vs with
      | nil => intro xs ds r e; cases r; cases e; exact .nil
      | cons v vs ih =>
        intro xs ds r e
        cases r with
        | cons r t =>
          obtain ⟨y, ys, q, q2, rfl⟩ := mapOpt_cons e
          exact .cons (toD_dp n R r q) (ih t q2)
    cases r with
    | non => cases e; exact .non
    | bl b => cases e; exact .bl b
    | int i => cases e; exact .int i
    | str s => cases e; exact .str s
    | @tup vs a ys ht r =>
      have e' : (match mapOpt (toD n h) vs with
        | some ds => some (PyData.tuple ds)
        | none => none) = some d := e
      cases q : mapOpt (toD n h) vs with
      | none => rw [q] at e'; cases e'
      | some ds =>
        rw [q] at e'
        cases e'
        exact .tup (SqT.of ht) (all r q)
    | @ref l hl =>
      have e' : (match h.get l with
        | some (.lst xs) => (match mapOpt (toD n h) xs with
          | some ds => some (PyData.list ds)
          | none => none)
        | some (.frz xs) => (match mapOpt (toD n h) xs with
          | some ds => some (PyData.list ds)
          | none => none)
        | _ => none) = some d := e
      cases q : h.get l with
      | none => rw [q] at e'; cases e'
      | some ob =>
        rw [q] at e'
        cases ob with
        | lst vs =>
          obtain ⟨ys, h1, r1⟩ := R.lst q
          have e2 : (match mapOpt (toD n h) vs with
            | some ds => some (PyData.list ds)
            | none => none) = some d := e'
          cases q2 : mapOpt (toD n h) vs with
          | none => rw [q2] at e2; cases e2
          | some ds =>
            rw [q2] at e2
            cases e2
            exact .lst (SqL.of h1) (all r1 q2)
        | frz vs =>
          obtain ⟨ys, h1, r1⟩ := R.frz q
          have e2 : (match mapOpt (toD n h) vs with
            | some ds => some (PyData.list ds)
            | none => none) = some d := e'
          cases q2 : mapOpt (toD n h) vs with
          | none => rw [q2] at e2; cases e2
          | some ds =>
            rw [q2] at e2
            cases e2
            exact .lst h1.sq (all r1 q2)
        | _ => cases e'
    | fn i => cases e
theorem toDs_dp (n : Nat) (R : RH M c h) : ∀ {vs : List Val} {xs : List V} {ds : List PyData}, RVs M c vs xs → mapOpt (toD n h) vs = some ds → DpAll M.K c.H xs ds
  | [], _, _, .nil, e => by cases e; exact .nil
  | v :: vs, _, ds, .cons r t, e => by
    obtain ⟨y, ys, q, q2, rfl⟩ := mapOpt_cons e
    exact .cons (toD_dp n R r q) (toDs_dp n R t q2)
theorem eqD_ok {a b : Val} {x y : V} {k : Bool} (R : RH M c h) (ra : RV M c a x) (rb : RV M c b y) (e : eqD h a b = some k) :
    ∃ d d', Dp M.K c.H x d ∧ Dp M.K c.H y d' ∧ SeqAt.shaped d = true ∧ SeqAt.shaped d' = true ∧ k = PyData.eqv d d' := by
  unfold eqD at e
  cases q1 : toD 66 h a with
  | none => rw [q1] at e; cases e
  | some d =>
    rw [q1] at e
    cases q2 : toD 66 h b with
    | none => rw [q2] at e; cases e
    | some d' =>
      rw [q2] at e
      have e' : (match SeqAt.shaped d && SeqAt.shaped d' with
        | true => some (PyData.eqv d d')
        | false => none) = some k := e
      cases q : SeqAt.shaped d && SeqAt.shaped d' with
      | false => rw [q] at e'; cases e'
      | true =>
        rw [q] at e'
        cases e'
        have q' := Bool.and_eq_true_iff.mp q
        exact ⟨d, d', toD_dp _ R ra q1, toD_dp _ R rb q2, q'.1, q'.2, rfl⟩
end
end Ev

set_option Elab.async false
set_option linter.all false
set_option maxRecDepth 100000
set_option maxHeartbeats 2000000
/-! Comparisons. -/
namespace Ev
open PySem PySem.Spec PyProof.Rows L2
def COp.op : COp → CmpOp
  | .eq => .Eq
  | .ne => .NotEq
  | .lt => .Lt
  | .le => .LtE
  | .gt => .Gt
  | .ge => .GtE
  | .inn => .In
  | .nin => .NotIn
  | .isb => .Is
  | .nsb => .IsNot
def rCmp (M : Mo) (o : COp) : R2 := fun x y H Q => ∃ c h u v b, Has M c h H ∧ RV M c u x ∧ RV M c v y ∧ cmpOp o u v h = some b ∧ Q (.bl b) H
theorem natsLt_eq : ∀ (xs ys : List Nat), natsLt xs ys = decide (xs < ys)
  | [], [] => by simp [natsLt]
  | [], _ :: _ => by simp [natsLt]
  | _ :: _, [] => by simp [natsLt]
  | x :: xs, y :: ys => by
    unfold natsLt
    cases e : Nat.blt x y with
    | true =>
      have : x < y := blt_true e
      simp [List.cons_lt_cons_iff, this]
    | false =>
      have hn : ¬ x < y := fun q => by rw [show Nat.blt x y = true from Nat.ble_eq_true_of_le q] at e; cases e
      cases e2 : Nat.beq x y with
      | true =>
        have := Nat.eq_of_beq_eq_true e2
        subst this
        simp [List.cons_lt_cons_iff, natsLt_eq xs ys]
      | false =>
        have := Nat.ne_of_beq_eq_false e2
        simp [List.cons_lt_cons_iff, hn, this]
section
variable {M : Mo} {X : Cx} {c : Cf} {h : LHeap}
theorem eqVal_ok {a b : Val} {x y : V} {k : Bool} (R : RH M c h) (ra : RV M c a x) (rb : RV M c b y) (e : eqVal h a b = some k) :
    (scal x y = true ∧ k = decide (x = y)) ∨ ∃ d d', Dp M.K c.H x d ∧ Dp M.K c.H y d' ∧ SeqAt.shaped d = true ∧ SeqAt.shaped d' = true ∧ k = PyData.eqv d d' := by
  cases ra with
  | non =>
    cases rb with
    | non => cases e; exact .inl ⟨rfl, by simp⟩
    | bl j => cases e; exact .inl ⟨rfl, by simp⟩
    | int j => cases e; exact .inl ⟨rfl, by simp⟩
    | str j => cases e; exact .inl ⟨rfl, by simp⟩
    | tup hh r => exact .inr (eqD_ok R .non (.tup hh r) e)
    | ref hl => exact .inr (eqD_ok R .non (.ref hl) e)
    | fn i => exact .inr (eqD_ok R .non (.fn i) e)
  | bl i =>
    cases rb with
    | non => cases e; exact .inl ⟨rfl, by simp⟩
    | bl j =>
      have e' : some (decide (i = j)) = some k := e
      cases e'
      exact .inl ⟨rfl, by simp⟩
    | int j => exact .inr (eqD_ok R (.bl i) (.int j) e)
    | str j => cases e; exact .inl ⟨rfl, by simp⟩
    | tup hh r => exact .inr (eqD_ok R (.bl i) (.tup hh r) e)
    | ref hl => exact .inr (eqD_ok R (.bl i) (.ref hl) e)
    | fn j => exact .inr (eqD_ok R (.bl i) (.fn j) e)
  | int i =>
    cases rb with
    | non => cases e; exact .inl ⟨rfl, by simp⟩
    | bl j => exact .inr (eqD_ok R (.int i) (.bl j) e)
    | int j =>
      have e' : some (decide (i = j)) = some k := e
      cases e'
      exact .inl ⟨rfl, by simp⟩
    | str j => cases e; exact .inl ⟨rfl, by simp⟩
    | tup hh r => exact .inr (eqD_ok R (.int i) (.tup hh r) e)
    | ref hl => exact .inr (eqD_ok R (.int i) (.ref hl) e)
    | fn j => exact .inr (eqD_ok R (.int i) (.fn j) e)
  | str i =>
    cases rb with
    | non => cases e; exact .inl ⟨rfl, by simp⟩
    | bl j => cases e; exact .inl ⟨rfl, by simp⟩
    | int j => cases e; exact .inl ⟨rfl, by simp⟩
    | str j =>
      have e' : some (strEq i j) = some k := e
      cases e'
      exact .inl ⟨rfl, by rw [strEq_dec]; simp⟩
    | tup hh r => exact .inr (eqD_ok R (.str i) (.tup hh r) e)
    | ref hl => exact .inr (eqD_ok R (.str i) (.ref hl) e)
    | fn j => exact .inr (eqD_ok R (.str i) (.fn j) e)
  | tup hh r =>
    refine .inr (eqD_ok R (.tup hh r) rb ?_)
    cases rb <;> exact e
  | ref hl =>
    refine .inr (eqD_ok R (.ref hl) rb ?_)
    cases rb <;> exact e
  | fn i =>
    refine .inr (eqD_ok R (.fn i) rb ?_)
    cases rb <;> exact e
theorem flat_rv {v : Val} {x : V} (r : RV M c v x) (f : flat v = true) : flatV x = true := by
  cases r <;> first | rfl | cases f
theorem eqFlat_rv {v w : Val} {x y : V} (r : RV M c v x) (q : RV M c w y) (f : flat v = true) (g : flat w = true) : eqFlat v w = eqV x y := by
  cases r <;> cases q <;> first | rfl | (cases f; done) | (cases g; done) | exact strEq_beq
theorem allFlat_rv : ∀ {vs : List Val} {xs : List V}, RVs M c vs xs → allFlat vs = true → xs.all flatV = true
  | _, _, .nil, _ => rfl
  | v :: vs, _, .cons r t, f => by
    unfold allFlat at f
    cases q : flat v with
    | false => rw [q] at f; cases f
    | true =>
      rw [q] at f
      rw [List.all_cons, flat_rv r q, allFlat_rv t f]
      rfl
theorem anyEq_rv {v : Val} {x : V} (rx : RV M c v x) (fx : flat v = true) : ∀ {vs : List Val} {xs : List V}, RVs M c vs xs → allFlat vs = true → anyEq v vs = inV x xs
  | _, _, .nil, _ => rfl
  | w :: vs, _, @RVs.cons _ _ _ y _ ys r t, f => by
    unfold allFlat at f
    cases q : flat w with
    | false => rw [q] at f; cases f
    | true =>
      rw [q] at f
      have ih := anyEq_rv rx fx t f
      unfold anyEq inV
      rw [List.any_cons, eqFlat_rv r rx q fx]
      cases eqV y x with
      | true => rfl
      | false => exact ih
theorem anyEqv_eq (d : PyData) : ∀ ds : List PyData, anyEqv d ds = ds.any fun z => PyData.eqv z d
  | [] => rfl
  | e :: es => by
    unfold anyEqv
    rw [List.any_cons, anyEqv_eq d es]
    cases PyData.eqv e d <;> rfl
/-- list or tuple -/
theorem RH.items {v : Val} {x : V} {xs : List Val} (R : RH M c h) (r : RV M c v x) (e : items h v = some xs) : ∃ a ys, x = .ref a ∧ (SqL M.K c.H a ys ∨ SqT M.K c.H a ys) ∧ RVs M c xs ys ∧ (∀ ds, DpAll M.K c.H ys ds → Dp M.K c.H x (.list ds) ∨ Dp M.K c.H x (.tuple ds)) := by
  cases r with
  | @tup zs a ys hh r =>
    cases e
    exact ⟨a, ys, rfl, .inr (SqT.of hh), r, fun ds hd => .inr (.tup (SqT.of hh) hd)⟩
  | @ref l hl =>
    obtain ⟨a, ys, e1, h1, h2⟩ := R.itemsL (.ref hl) (show Ev.itemsL h (Val.ref l) = some xs from e)
    cases e1
    exact ⟨_, ys, rfl, .inl h1, h2, fun ds hd => .inl (.lst h1 hd)⟩
  | _ => cases e
theorem inDeep_ok {a b : Val} {x y : V} {vs : List Val} {k : Bool} (R : RH M c h) (ra : RV M c a x) (rb : RV M c b y) (ei : items h b = some vs) (e : inDeep h a vs = some k) :
    ∃ d ds, Dp M.K c.H x d ∧ (Dp M.K c.H y (.list ds) ∨ Dp M.K c.H y (.tuple ds)) ∧ SeqAt.shaped d = true ∧ SeqAt.shaped (.list ds) = true ∧ k = ds.any fun z => PyData.eqv z d := by
  unfold inDeep at e
  cases q1 : toD 66 h a with
  | none => rw [q1] at e; cases e
  | some d =>
    rw [q1] at e
    cases q2 : mapOpt (toD 65 h) vs with
    | none => simp only [q2] at e; cases e
    | some ds =>
      simp only [q2] at e
      cases q : SeqAt.shaped d && SeqAt.shaped (.list ds) with
      | false => rw [q] at e; cases e
      | true =>
        rw [q] at e
        cases e
        have q' := Bool.and_eq_true_iff.mp q
        obtain ⟨p, ys, ey, _, rvs, hd⟩ := R.items rb ei
        exact ⟨d, ds, toD_dp _ R ra q1, hd ds (toDs_dp _ R rvs q2), q'.1, q'.2, anyEqv_eq d ds⟩
theorem inVal_ok {a b : Val} {x y : V} {k : Bool} (R : RH M c h) (ra : RV M c a x) (rb : RV M c b y) (e : inVal h a b = some k) :
    (∃ (s : Nat) (z : Str), x = .str ⟨#[s]⟩ ∧ y = .str z ∧ k = decide (s ∈ z.cps.toList)) ∨
    (∃ p o, y = .ref p ∧ DGet c.H p x o ∧ k = o.isSome) ∨
    (∃ p xs, y = .ref p ∧ (SqL M.K c.H p xs ∨ SqT M.K c.H p xs) ∧ flatV x = true ∧ xs.all flatV = true ∧ k = inV x xs) ∨
    ∃ d ds, Dp M.K c.H x d ∧ (Dp M.K c.H y (.list ds) ∨ Dp M.K c.H y (.tuple ds)) ∧ SeqAt.shaped d = true ∧ SeqAt.shaped (.list ds) = true ∧ k = ds.any fun z => PyData.eqv z d := by
  have seq : ∀ {b : Val}, RV M c b y → (match isDict h b with
    | true => (match dget h b a with
      | some (some _) => some true
      | some none => some false
      | none => none)
    | false => match items h b with
      | none => none
      | some ys => match flat a && allFlat ys with
        | true => some (anyEq a ys)
        | false => inDeep h a ys) = some k →
      (∃ p o, y = .ref p ∧ DGet c.H p x o ∧ k = o.isSome) ∨
      (∃ p xs, y = .ref p ∧ (SqL M.K c.H p xs ∨ SqT M.K c.H p xs) ∧ flatV x = true ∧ xs.all flatV = true ∧ k = inV x xs) ∨
      ∃ d ds, Dp M.K c.H x d ∧ (Dp M.K c.H y (.list ds) ∨ Dp M.K c.H y (.tuple ds)) ∧ SeqAt.shaped d = true ∧ SeqAt.shaped (.list ds) = true ∧ k = ds.any fun z => PyData.eqv z d := by
    intro b rb e
    cases qd : isDict h b with
    | true =>
      simp only [qd] at e
      cases qg : dget h b a with
      | none => simp only [qg] at e; cases e
      | some o =>
        obtain ⟨p, o', ey, hg, ro⟩ := dget_rv R rb ra qg
        refine .inl ⟨p, o', ey, hg, ?_⟩
        cases o with
        | none =>
          simp only [qg] at e
          cases e
          cases o' with
          | none => rfl
          | some _ => exact ro.elim
        | some v =>
          simp only [qg] at e
          cases e
          cases o' with
          | none => exact ro.elim
          | some _ => rfl
    | false =>
      simp only [qd] at e
      cases qi : items h b with
      | none => simp only [qi] at e; cases e
      | some ys =>
        simp only [qi] at e
        cases qf : flat a && allFlat ys with
        | true =>
          simp only [qf] at e
          cases e
          have q' := Bool.and_eq_true_iff.mp qf
          obtain ⟨p, zs, ey, hs, rvs, _⟩ := R.items rb qi
          exact .inr (.inl ⟨p, zs, ey, hs, flat_rv ra q'.1, allFlat_rv rvs q'.2, anyEq_rv ra q'.1 rvs q'.2⟩)
        | false =>
          simp only [qf] at e
          exact .inr (.inr (inDeep_ok R ra rb qi e))
  cases rb with
  | str z =>
    cases ra with
    | str s =>
      have e' : (match s.cps.toList with
        | [c] => some (z.cps.toList.any fun d => Nat.beq d c)
        | _ => none) = some k := e
      cases q : s.cps.toList with
      | nil => rw [q] at e'; cases e'
      | cons d r =>
        cases r with
        | nil =>
          rw [q] at e'
          cases e'
          have es : s = ⟨#[d]⟩ := by
            obtain ⟨arr⟩ := s
            have : arr = #[d] := by simpa using congrArg List.toArray q
            rw [this]
          refine .inl ⟨d, z, by rw [es], rfl, ?_⟩
          have : ∀ l : List Nat, (l.any fun e => Nat.beq e d) = decide (d ∈ l) := by
            intro l
            induction l with
            | nil => rfl
            | cons e l ih =>
              rw [List.any_cons, ih]
              cases q : Nat.beq e d with
              | true =>
                have := Nat.eq_of_beq_eq_true q
                subst this
                simp
              | false =>
                have := Nat.ne_of_beq_eq_false q
                simp [Ne.symm this]
          exact this _
        | cons d2 r => rw [q] at e'; cases e'
    | _ => cases e
  | non => exact .inr (seq .non e)
  | bl j => exact .inr (seq (.bl j) e)
  | int j => exact .inr (seq (.int j) e)
  | tup hh r => exact .inr (seq (.tup hh r) e)
  | ref hl => exact .inr (seq (.ref hl) e)
  | fn i => exact .inr (seq (.fn i) e)
theorem room_in {A : Around} {d : PyData} {ds : List PyData} (sd : SeqAt.shaped d = true) (hu : A.units + 65 < cLine) : A.units + 1 + min (PyData.depthAll ds) d.depth < cLine := by
  have h1 := SeqAt.depth_of_shaped sd
  have h2 : min (PyData.depthAll ds) d.depth ≤ d.depth := Nat.min_le_right _ _
  omega
theorem optNot_some {o : Option Bool} {b : Bool} (e : optNot o = some b) : ∃ k, o = some k ∧ b = !k := by
  cases o with
  | none => cases e
  | some k => cases e; exact ⟨k, rfl, rfl⟩
theorem op_cmp (hK : X.K = M.K) (hu : X.A.units + 65 < cLine) (o : COp) : OpR X (compareOp o.op) (rCmp M o) := by
  intro pins s σ H x y v u Q I rx ry hr
  obtain ⟨c, h, a, b, k, ⟨rfl, R⟩, ra, rb, e, q⟩ := hr
  cases o with
  | eq =>
    rcases eqVal_ok R ra rb e with ⟨hs, rfl⟩ | ⟨d, d', h1, h2, s1, s2, rfl⟩
    · exact op_eq pins s σ _ _ _ v u Q I rx ry ⟨hs, q⟩
    · exact op_eqD (by omega) pins s σ _ _ _ v u Q I rx ry ⟨d, d', by rw [hK]; exact h1, by rw [hK]; exact h2, s1, s2, q⟩
  | ne =>
    obtain ⟨k', e', rfl⟩ := optNot_some e
    rcases eqVal_ok R ra rb e' with ⟨hs, rfl⟩ | ⟨d, d', h1, h2, s1, s2, rfl⟩
    · exact op_ne pins s σ _ _ _ v u Q I rx ry ⟨hs, q⟩
    · exact op_neD (by omega) pins s σ _ _ _ v u Q I rx ry ⟨d, d', by rw [hK]; exact h1, by rw [hK]; exact h2, s1, s2, q⟩
  | lt =>
    cases ra with
    | int i =>
      cases rb with
      | int j => cases e; exact op_lt pins s σ _ _ _ v u Q I rx ry ⟨i, j, rfl, rfl, q⟩
      | _ => cases e
    | str i =>
      cases rb with
      | str j =>
        cases e
        rw [natsLt_eq] at q
        exact op_lt_str pins s σ _ _ _ v u Q I rx ry ⟨i, j, rfl, rfl, q⟩
      | _ => cases e
    | _ => cases rb <;> cases e
  | le =>
    cases ra with
    | int i =>
      cases rb with
      | int j => cases e; exact op_le pins s σ _ _ _ v u Q I rx ry ⟨i, j, rfl, rfl, q⟩
      | _ => cases e
    | str i =>
      cases rb with
      | str j =>
        cases e
        rw [natsLt_eq] at q
        exact op_le_str pins s σ _ _ _ v u Q I rx ry ⟨i, j, rfl, rfl, q⟩
      | _ => cases e
    | _ => cases rb <;> cases e
  | gt =>
    cases ra with
    | int i =>
      cases rb with
      | int j => cases e; exact op_gt pins s σ _ _ _ v u Q I rx ry ⟨i, j, rfl, rfl, q⟩
      | _ => cases e
    | _ => cases rb <;> cases e
  | ge =>
    cases ra with
    | int i =>
      cases rb with
      | int j => cases e; exact op_ge pins s σ _ _ _ v u Q I rx ry ⟨i, j, rfl, rfl, q⟩
      | _ => cases e
    | _ => cases rb <;> cases e
  | inn =>
    rcases inVal_ok R ra rb e with ⟨n, z, rfl, rfl, rfl⟩ | ⟨p, o, rfl, hg, rfl⟩ | ⟨p, xs, rfl, hs, fx, fs, rfl⟩ | ⟨d, ds, h1, h2, s1, s2, rfl⟩
    · exact op_in_sign pins s σ _ _ _ v u Q I rx ry ⟨n, z, rfl, rfl, q⟩
    · obtain rfl : u = Value.ref p := ry
      exact d_in (by omega) I hg rx fun s3 I3 => ⟨.bl o.isSome, _, I3, rfl, q⟩
    · exact op_in_seq pins s σ _ _ _ v u Q I rx ry ⟨p, xs, rfl, by rw [hK]; exact hs, fx, fs, q⟩
    · obtain ⟨as, r1⟩ := Dp.reads I d x v (by rw [hK]; exact h1) rx
      rcases h2 with h2 | h2
      · obtain ⟨bs, r2⟩ := Dp.reads I (.list ds) y u (by rw [hK]; exact h2) ry
        exact SeqAt.in_list_reads r2 r1 (SeqAt.canLay_of_shaped s2) (SeqAt.canLay_of_shaped s1) (room_in s1 hu) ⟨.bl _, _, I, rfl, q⟩
      · obtain ⟨bs, r2⟩ := Dp.reads I (.tuple ds) y u (by rw [hK]; exact h2) ry
        exact SeqAt.in_tuple_reads r2 r1 (SeqAt.canLay_of_shaped s2) (SeqAt.canLay_of_shaped s1) (room_in s1 hu) ⟨.bl _, _, I, rfl, q⟩
  | nin =>
    obtain ⟨k', e', rfl⟩ := optNot_some e
    rcases inVal_ok R ra rb e' with ⟨n, z, rfl, rfl, rfl⟩ | ⟨p, o, rfl, hg, rfl⟩ | ⟨p, xs, rfl, hs, fx, fs, rfl⟩ | ⟨d, ds, h1, h2, s1, s2, rfl⟩
    · exact op_notInS pins s σ _ _ _ v u Q I rx ry ⟨n, z, rfl, rfl, q⟩
    · obtain rfl : u = Value.ref p := ry
      exact d_notIn (by omega) I hg rx fun s3 I3 => ⟨.bl (!o.isSome), _, I3, rfl, q⟩
    · exact op_notIn_seq pins s σ _ _ _ v u Q I rx ry ⟨p, xs, rfl, by rw [hK]; exact hs, fx, fs, q⟩
    · obtain ⟨as, r1⟩ := Dp.reads I d x v (by rw [hK]; exact h1) rx
      rcases h2 with h2 | h2
      · obtain ⟨bs, r2⟩ := Dp.reads I (.list ds) y u (by rw [hK]; exact h2) ry
        exact SeqAt.notIn_list_reads r2 r1 (SeqAt.canLay_of_shaped s2) (SeqAt.canLay_of_shaped s1) (room_in s1 hu) ⟨.bl _, _, I, rfl, q⟩
      · obtain ⟨bs, r2⟩ := Dp.reads I (.tuple ds) y u (by rw [hK]; exact h2) ry
        exact SeqAt.notIn_tuple_reads r2 r1 (SeqAt.canLay_of_shaped s2) (SeqAt.canLay_of_shaped s1) (room_in s1 hu) ⟨.bl _, _, I, rfl, q⟩
  | isb =>
    cases rb with
    | non =>
      refine op_isN pins s σ _ _ _ v u Q I rx ry ⟨rfl, ?_⟩
      cases ra <;> (cases e; exact q)
    | bl j =>
      cases ra with
      | bl i => cases e; exact op_is_bl pins s σ _ _ _ v u Q I rx ry ⟨i, j, rfl, rfl, q⟩
      | _ => cases e
    | _ => cases e
  | nsb =>
    cases rb with
    | non =>
      refine op_notN pins s σ _ _ _ v u Q I rx ry ⟨rfl, ?_⟩
      cases ra <;> (cases e; exact q)
    | bl j =>
      cases ra with
      | bl i => cases e; exact op_isnot_bl pins s σ _ _ _ v u Q I rx ry ⟨i, j, rfl, rfl, q⟩
      | _ => cases e
    | _ => cases e
end
end Ev

set_option Elab.async false
set_option linter.all false
set_option maxRecDepth 100000
set_option maxHeartbeats 2000000
/-! The checker: the program's syntax against the small language. -/
namespace Ev
open PySem PySem.Spec PyProof.Rows L2

/-- the static side of a module -/
structure Md where
  fns : List (Str × Nat)
  consts : List (Str × Val)
  free : List Str
  excs : List (Str × List Str)
def look (ns : List (Str × NameKind)) (x : Str) : Option NameKind := match ns with
  | [] => none
  | p :: ps => match strEq x p.1 with
    | true => some p.2
    | false => look ps x
theorem look_eq : ∀ (ns : List (Str × NameKind)) (x : Str), look ns x = ns.lookup x
  | [], _ => rfl
  | (y, k) :: ps, x => by
    unfold look
    rw [List.lookup_cons, strEq_beq]
    cases x == y with
    | true => rfl
    | false => exact look_eq ps x
def isLc : Option NameKind → Bool
  | some .local => true
  | _ => false
def isLoc : Option NameKind → Bool
  | some .local => true
  | some .cell => true
  | _ => false
def isVis : Option NameKind → Bool
  | some .local => true
  | some .cell => true
  | some .free => true
  | _ => false
def isGl : Option NameKind → Bool
  | some .globalImplicit => true
  | _ => false
def nthS : List Str → Nat → Str → Bool
  | [], _, _ => false
  | y :: _, 0, x => strEq x y
  | _ :: ys, n + 1, x => nthS ys n x
theorem nthS_eq : ∀ {ys : List Str} {n : Nat} {x : Str}, nthS ys n x = true → ys[n]? = some x
  | [], _, _, h => by cases h
  | y :: _, 0, x, h => by
    have := strEq_iff.mp (show strEq x y = true from h)
    subst this
    rfl
  | _ :: ys, n + 1, x, h => by
    have := nthS_eq (show nthS ys n x = true from h)
    simpa using this
def sDebug : Str := "__debug__"
def sClassdict : Str := "__classdict__"
def sName : Str := "__name__"
def litEq : Const → Val → Bool
  | .none, .non => true
  | .bool a, .bl b => a == b
  | .int i, .int j => decide (i = j)
  | .str x, .str y => strEq x y
  | _, _ => false
def valEq : Val → Val → Bool
  | .non, .non => true
  | .bl a, .bl b => a == b
  | .int i, .int j => decide (i = j)
  | .str x, .str y => strEq x y
  | _, _ => false
def binEq : Operator → BOp → Bool
  | .Add, .add => true
  | .Sub, .sub => true
  | .Mult, .mul => true
  | .FloorDiv, .fdiv => true
  | .Mod, .mod => true
  | .Pow, .pow => true
  | _, _ => false
theorem binEq_ok {o : Operator} {b : BOp} (h : binEq o b = true) : o = b.op := by cases o <;> cases b <;> first | rfl | cases h
def cmpEq : CmpOp → COp → Bool
  | .Eq, .eq => true
  | .NotEq, .ne => true
  | .Lt, .lt => true
  | .LtE, .le => true
  | .Gt, .gt => true
  | .GtE, .ge => true
  | .In, .inn => true
  | .NotIn, .nin => true
  | .Is, .isb => true
  | .IsNot, .nsb => true
  | _, _ => false
theorem cmpEq_ok {o : CmpOp} {b : COp} (h : cmpEq o b = true) : o = b.op := by cases o <;> cases b <;> first | rfl | cases h
def notSet : Expr → Bool
  | .Set _ _ _ => false
  | _ => true
theorem notSet_mark {e : Expr} {o : CmpOp} (h : notSet e = true) : behindInMarks o e = false := by cases e <;> first | rfl | cases h
def notStar : Expr → Bool
  | .Starred _ _ => false
  | _ => true
theorem notStar_each {e : Expr} {es : List Expr} {env : Env} (h : notStar e = true) : starEach (e :: es) env = (false, eval e env) :: starEach es env := by
  cases e <;> first | (cases h; done) | rfl | simp [starEach]
def notComp : Expr → Bool
  | .ListComp _ _ _ _ => false
  | .SetComp _ _ _ _ => false
  | .DictComp _ _ _ _ _ => false
  | _ => true
def notCall0 : Expr → Bool
  | .Call (.Name _ _) [] [] _ => false
  | _ => true
def notSlice : Expr → Bool
  | .Slice _ _ _ _ => false
  | _ => true
def plainT : Expr → Bool
  | .UnaryOp .Not _ _ => false
  | .BoolOp _ _ _ => false
  | .IfExp _ _ _ _ => false
  | .Compare _ _ _ _ => false
  | _ => true
def biName : Bi → Str
  | .len => "len"
  | .all => "all"
  | .any => "any"
  | .max => "max"
  | .min => "min"
  | .int => "int"
  | .tuple => "tuple"
  | .list => "list"
  | .sum => "sum"
def tyName : Ty → Option Str
  | .int => some "int"
  | .str => some "str"
  | .tuple => some "tuple"
  | .list => some "list"
  | .bool => some "bool"
  | .dict => some "dict"
  | _ => none
def memS (x : Str) : List Str → Bool
  | [] => false
  | y :: ys => match strEq x y with
    | true => true
    | false => memS x ys
def memN (x : Nat) : List Nat → Bool
  | [] => false
  | y :: ys => match Nat.beq x y with
    | true => true
    | false => memN x ys
/-- a built-in's name, as it was booted -/
def freeN (md : Md) (sc : Scope) (x y : Str) : Bool := strEq x y && isGl (look sc.names x) && memS x md.free
def constIs (x : Str) (v : Val) : List (Str × Val) → Bool
  | [] => false
  | p :: ps => match strEq x p.1 && valEq p.2 v with
    | true => true
    | false => constIs x v ps
def fnIs (x : Str) (n : Nat) : List (Str × Nat) → Nat → Bool
  | [], _ => false
  | p :: _, 0 => strEq x p.1 && Nat.beq n p.2
  | _ :: ps, f + 1 => fnIs x n ps f
def excIs (x : Str) (n : Nat) : List (Str × List Str) → Nat → Bool
  | [], _ => false
  | p :: _, 0 => strEq x p.1 && Nat.beq n p.2.length
  | _ :: ps, f + 1 => excIs x n ps f
structure Ck where
  e : Scope → Expr → E → Bool
  t : Scope → Expr → E → Bool
  s : Scope → Stmt → S → Bool
section
variable (md : Md) (N : List Str) (rc : Ck)
def ckEs (sc : Scope) : List Expr → List E → Bool
  | [], [] => true
  | e :: es, m :: ms => notStar e && rc.e sc e m && ckEs sc es ms
  | _, _ => false
def ckOpt (sc : Scope) : Option Expr → Option E → Bool
  | none, none => true
  | some e, some m => rc.e sc e m
  | _, _ => false
def ckTgs (pk : Option NameKind → Bool) (sc : Scope) : List Expr → List Nat → Bool
  | [], [] => true
  | .Name x _ :: es, i :: is => nthS N i x && pk (look sc.names x) && ckTgs pk sc es is
  | _, _ => false
def ckTg (pk : Option NameKind → Bool) (sc : Scope) (e : Expr) (t : Tg) : Bool := match t with
  | .name i => (match e with
    | .Name x _ => nthS N i x && pk (look sc.names x)
    | _ => false)
  | .tup is => (match e with
    | .Tuple es _ _ => ckTgs N pk sc es is
    | _ => false)
def isTupE : Expr → Bool
  | .Tuple _ _ _ => true
  | _ => false
def ckIt (sc : Scope) (tg e : Expr) (it : It) : Bool := match it with
  | .val m => notSet e && rc.e sc e m
  | .rng1 ma => (match e with
    | .Call (.Name x _) [a] [] _ => freeN md sc x "range" && notStar a && rc.e sc a ma
    | _ => false)
  | .rng2 ma mb => (match e with
    | .Call (.Name x _) [a, b] [] _ => freeN md sc x "range" && notStar a && notStar b && rc.e sc a ma && rc.e sc b mb
    | _ => false)
  | .enum ma => (match e with
    | .Call (.Name x _) [a] [] _ => freeN md sc x "enumerate" && notStar a && rc.e sc a ma && isTupE tg
    | _ => false)
  | .zip ma mb => (match e with
    | .Call (.Name x _) [a, b] [] _ => freeN md sc x "zip" && notStar a && notStar b && rc.e sc a ma && rc.e sc b mb && isTupE tg
    | _ => false)
def ownOf (own : List Nat) : List (Str × Nat) := own.filterMap fun i => match N[i]? with
  | some x => some (x, i)
  | none => none
def tgIn (own : List Nat) : Tg → Bool
  | .name i => memN i own
  | .tup is => is.all fun i => memN i own
def ckKVs (sc : Scope) : List (Option Expr) → List Expr → List (Str × E) → Bool
  | [], [], [] => true
  | some (.Constant (.str x) _ _) :: ks, v :: vs, p :: ps => strEq x p.1 && rc.e sc v p.2 && ckKVs sc ks vs ps
  | some (.Name x _) :: ks, v :: vs, p :: ps => isGl (look sc.names x) && constIs x (.str p.1) md.consts && !strEq x sDebug && rc.e sc v p.2 && ckKVs sc ks vs ps
  | _, _, _ => false
def ckE (sc : Scope) (e : Expr) (m : E) : Bool := match m with
  | .var i => (match e with
    | .Name x _ => nthS N i x && isVis (look sc.names x) && !strEq x sDebug && !strEq x sClassdict
    | .BoolOp _ [a] _ => rc.e sc a m
    | _ => false)
  | .lit v => (match e with
    | .Constant c _ _ => litEq c v
    | .BoolOp _ [a] _ => rc.e sc a m
    | _ => false)
  | .glb y v => (match e with
    | .Name x _ => strEq x y && isGl (look sc.names x) && constIs x v md.consts && !strEq x sDebug
    | .BoolOp _ [a] _ => rc.e sc a m
    | _ => false)
  | .bin o ma mb => (match e with
    | .BinOp a op b _ => binEq op o && rc.e sc a ma && rc.e sc b mb
    | .BoolOp _ [a] _ => rc.e sc a m
    | _ => false)
  | .neg ma => (match e with
    | .UnaryOp .USub a _ => rc.e sc a ma
    | .BoolOp _ [a] _ => rc.e sc a m
    | _ => false)
  | .cmp o ma mb => (match e with
    | .Compare a [op] [b] _ => cmpEq op o && notSet b && rc.e sc a ma && rc.e sc b mb
    | .BoolOp _ [a] _ => rc.e sc a m
    | _ => false)
  | .cmp2 o o' ma mb mc => (match e with
    | .Compare a [op, op'] [b, c] _ => cmpEq op o && cmpEq op' o' && notSet b && notSet c && rc.e sc a ma && rc.e sc b mb && rc.e sc c mc
    | .BoolOp _ [a] _ => rc.e sc a m
    | _ => false)
  | .and ma mb => (match e with
    | .BoolOp .And (a :: b :: rest) pos => rc.e sc a ma && rc.e sc (.BoolOp .And (b :: rest) pos) mb
    | .BoolOp _ [a] _ => rc.e sc a m
    | _ => false)
  | .or ma mb => (match e with
    | .BoolOp .Or (a :: b :: rest) pos => rc.e sc a ma && rc.e sc (.BoolOp .Or (b :: rest) pos) mb
    | .BoolOp _ [a] _ => rc.e sc a m
    | _ => false)
  | .not ma => (match e with
    | .UnaryOp .Not a _ => rc.e sc a ma
    | .BoolOp _ [a] _ => rc.e sc a m
    | _ => false)
  | .ife mc ma mb => (match e with
    | .IfExp c a b _ => rc.t sc c mc && rc.e sc a ma && rc.e sc b mb
    | .BoolOp _ [a] _ => rc.e sc a m
    | _ => false)
  | .tup ms => (match e with
    | .Tuple es _ _ => ckEs rc sc es ms
    | _ => false)
  | .lst ms => (match e with
    | .List es _ => ckEs rc sc es ms
    | _ => false)
  | .sub ma mi => (match e with
    | .Subscript a i _ => notSlice i && rc.e sc a ma && rc.e sc i mi
    | .BoolOp _ [a] _ => rc.e sc a m
    | _ => false)
  | .slc ma lo hi => (match e with
    | .Subscript a (.Slice l h none _) _ => rc.e sc a ma && ckOpt rc sc l lo && ckOpt rc sc h hi
    | _ => false)
  | .rev ma => (match e with
    | .Subscript a (.Slice none none (some (.UnaryOp .USub (.Constant (.int 1) _ _) _)) _) _ => rc.e sc a ma
    | _ => false)
  | .call f ms => (match e with
    | .Call (.Name x _) (a :: as) [] _ => fnIs x ms.length md.fns f && isGl (look sc.names x) && !strEq x sDebug && ckEs rc sc (a :: as) ms
    | .Call (.Name x _) [] [] _ => fnIs x 0 md.fns f && isGl (look sc.names x) && !strEq x sDebug && ms.isEmpty
    | .BoolOp _ [a] _ => rc.e sc a m
    | _ => false)
  | .pcall f ms => (match e with
    | .Call (.Name x _) (a :: as) [] _ => fnIs x ms.length md.fns f && isGl (look sc.names x) && !strEq x sDebug && ckEs rc sc (a :: as) ms
    | .Call (.Name x _) [] [] _ => fnIs x 0 md.fns f && isGl (look sc.names x) && !strEq x sDebug && ms.isEmpty
    | .BoolOp _ [a] _ => rc.e sc a m
    | _ => false)
  | .bi b ms => (match e with
    | .Call (.Name x _) (a :: as) [] _ => freeN md sc x (biName b) && ckEs rc sc (a :: as) ms
    | .BoolOp _ [a] _ => rc.e sc a m
    | _ => false)
  | .isi ma t => (match e with
    | .Call (.Name x _) [a, .Name y _] [] _ => freeN md sc x "isinstance" && notStar a && rc.e sc a ma && (match tyName t with
      | some z => freeN md sc y z
      | none => false)
    | .BoolOp _ [a] _ => rc.e sc a m
    | _ => false)
  | .comp own tg it c elt => (match e with
    | .ListComp el [⟨t, i, ifs, 0⟩] scope _ => ckIt md rc sc t i it && ckTg N isLoc scope t tg && tgIn own tg && blkC N sc scope (ownOf N own) && decide ((ownOf N own).map (·.2) = own) &&
        (match c, ifs with
          | none, [] => true
          | some mc, [cc] => rc.t (relS scope sc) cc mc
          | _, _ => false) && rc.e (relS scope sc) el elt
    | _ => false)
  | .dsp kvs => (match e with
    | .Dict ks vs _ => ckKVs md rc sc ks vs kvs && Nat.ble 1 ks.length && Nat.ble ks.length 15
    | _ => false)
  | .dnewK => (match e with
    | .Dict [] [] _ => true
    | _ => false)
  | .dnewT => (match e with
    | .Dict [] [] _ => true
    | _ => false)
  | .dzip ma mb => (match e with
    | .Call (.Name x _) [.Call (.Name y _) [a, b] [] _] [] _ => freeN md sc x "dict" && freeN md sc y "zip" && notStar a && notStar b && rc.e sc a ma && rc.e sc b mb
    | _ => false)
  | .get1 md' mk => (match e with
    | .Call (.Attribute o x ap) [k] [] cp => strEq x "get" && notStar k && notCall0 o && (ap.endLine == cp.line) && rc.e sc o md' && rc.e sc k mk
    | _ => false)
  | .app ml me => (match e with
    | .Call (.Attribute o x ap) [k] [] cp => strEq x "append" && notStar k && notCall0 o && (ap.endLine == cp.line) && rc.e sc o ml && rc.e sc k me
    | _ => false)
  | .fld _ _ => false
def ckT (sc : Scope) (e : Expr) (m : E) : Bool := match e with
  | .BoolOp .And (a :: b :: rest) pos => (match m with
    | .and ma mb => rc.t sc a ma && rc.t sc (.BoolOp .And (b :: rest) pos) mb
    | _ => false)
  | .BoolOp .Or (a :: b :: rest) pos => (match m with
    | .or ma mb => rc.t sc a ma && rc.t sc (.BoolOp .Or (b :: rest) pos) mb
    | _ => false)
  | .BoolOp _ [a] _ => rc.t sc a m
  | .UnaryOp .Not a _ => (match m with
    | .not ma => rc.t sc a ma
    | _ => false)
  | .Compare a [op] [b] _ => (match m with
    | .cmp o ma mb => cmpEq op o && notSet b && rc.e sc a ma && rc.e sc b mb
    | _ => false)
  | .Compare a [op, op'] [b, c] _ => (match m with
    | .cmp2 o o' ma mb mc => cmpEq op o && cmpEq op' o' && notSet b && notSet c && rc.e sc a ma && rc.e sc b mb && rc.e sc c mc
    | _ => false)
  | e => plainT e && (match m with
    | .and _ _ => false
    | .or _ _ => false
    | .not _ => false
    | m => rc.e sc e m)
end
end Ev

set_option Elab.async false
set_option linter.all false
set_option maxRecDepth 100000
set_option maxHeartbeats 2000000
/-! Expressions, one construct at a time. -/
namespace Ev
open PySem PySem.Spec PyProof.Rows L2

structure Gd (M : Mo) (X : Cx) (N : List Str) (sc : Scope) (k : Nat) (W : WX) : Prop where
  hP : X.prog = M.P
  hw : X.w = M.w
  hK : X.K = M.K
  hmg : X.mg = M.mg
  hbase : X.base = M.base
  hN : X.N = N
  nd : N.Nodup
  hsc : X.env.scope = sc
  kd : sc.kind = .function
  calm : X.calm = true
  room : Room k X.A
  tk : Takes X W
structure MdOk (M : Mo) (md : Md) : Prop where
  free : ∀ x, memS x md.free = true → M.mg x = none
  const : ∀ x v, constIs x v md.consts = true → ∃ u y, M.mg x = some u ∧ RelV y u ∧ ∀ c, RV M c v y
section
variable {M : Mo} {X : Cx} {N : List Str} {sc : Scope} {k : Nat} {W : WX} {md : Md} {cl : Cl} {calls : Nat → List Val → LHeap → Res Val} {rc : Rec} {pos : Pos}
theorem PE.of {e : Expr} {t t' : TE} (h : PE X e t) (hi : ∀ σ H Q, t' σ H Q → t σ H Q) : PE X e t' := ⟨fun pins s σ H Q I q => h.run pins s σ H Q I (hi σ H Q q)⟩
theorem PT.of {e : Expr} {t t' : TT} (h : PT X e t) (hi : ∀ σ H Q, t' σ H Q → t σ H Q) : PT X e t' := ⟨fun pins s σ H Q I q => h.run pins s σ H Q I (hi σ H Q q)⟩
theorem PW.of {e : Expr} {t t' : TT} (h : PW X e t) (hi : ∀ σ H Q, t' σ H Q → t σ H Q) : PW X e t' := ⟨fun wh pins s σ H Q I q => h.run wh pins s σ H Q I (hi σ H Q q)⟩
theorem PA.of {es : List Expr} {t t' : TA} (h : PA X es t) (hi : ∀ σ H Q, t' σ H Q → t σ H Q) : PA X es t' := ⟨fun p pins s σ H Q I q => h.run p pins s σ H Q I (hi σ H Q q)⟩
theorem PE.bad {e : Expr} {m : LSt → LHeap → Res Val} (h : ∀ s hh, m s hh = .bad) : PE X e (tEv M W m) := ⟨fun pins s σ H Q I q => by
  obtain ⟨c, s, hh, a, g⟩ := q
  rw [h] at g
  exact g.elim⟩
theorem PT.bad {e : Expr} {m : LSt → LHeap → Res Bool} (h : ∀ s hh, m s hh = .bad) : PT X e (tEvT M W m) := ⟨fun pins s σ H Q I q => by
  obtain ⟨c, s, hh, a, g⟩ := q
  rw [h] at g
  exact g.elim⟩
theorem PW.bad {e : Expr} {m : LSt → LHeap → Res Bool} (h : ∀ s hh, m s hh = .bad) : PW X e (tEvT M W m) := ⟨fun wh pins s σ H Q I q => by
  obtain ⟨c, s, hh, a, g⟩ := q
  rw [h] at g
  exact g.elim⟩
/-! ### names -/
theorem Gd.vis (G : Gd M X N sc k W) {x : Str} (h : isVis (look sc.names x) = true) : Vis X.env.scope x := by
  rw [G.hsc]
  rw [look_eq] at h
  show sc.names.lookup x = _ ∨ _
  cases e : sc.names.lookup x with
  | none => rw [e] at h; cases h
  | some kd =>
    rw [e] at h
    cases kd <;> first | exact .inl rfl | exact .inr (.inl rfl) | exact .inr (.inr rfl) | cases h
theorem Gd.loc (G : Gd M X N sc k W) {x : Str} (h : isLoc (look sc.names x) = true) : L2.Loc X.env.scope x := by
  rw [G.hsc]
  rw [look_eq] at h
  show sc.names.lookup x = _ ∨ _
  cases e : sc.names.lookup x with
  | none => rw [e] at h; cases h
  | some kd =>
    rw [e] at h
    cases kd <;> first | exact .inl rfl | exact .inr rfl | cases h
theorem Gd.gl (G : Gd M X N sc k W) {x : Str} (h : isGl (look sc.names x) = true) : Gl X x := by
  rw [look_eq] at h
  show X.env.scope.names.lookup x = _
  rw [G.hsc]
  cases e : sc.names.lookup x with
  | none => rw [e] at h; cases h
  | some kd =>
    rw [e] at h
    cases kd <;> first | rfl | cases h
/-- the names that may be stored to -/
def FnP (X : Cx) (sc : Scope) (pk : Option NameKind → Bool) : Prop := ∀ x, pk (look sc.names x) = true → L2.Loc X.env.scope x ∧ (X.fn x = true ∨ X.env.scope.names.lookup x = some .local)
theorem Gd.lc (G : Gd M X N sc k W) : FnP X sc isLc := fun x h => by
  rw [look_eq] at h
  have : X.env.scope.names.lookup x = some .local := by
    rw [G.hsc]
    cases e : sc.names.lookup x with
    | none => rw [e] at h; cases h
    | some kd => rw [e] at h; cases kd <;> first | rfl | cases h
  exact ⟨.inl this, .inr this⟩
theorem not_eq {x y : Str} (h : (!strEq x y) = true) : (x == y) = false := by
  rw [← strEq_beq]
  cases e : strEq x y with
  | true => rw [e] at h; cases h
  | false => rfl
/-- a free built-in name -/
theorem Gd.free (G : Gd M X N sc k W) (D : MdOk M md) {x y : Str} (h : freeN md sc x y = true) : x = y ∧ Gl X x ∧ X.mg x = none := by
  unfold freeN at h
  simp only [Bool.and_eq_true] at h
  exact ⟨strEq_iff.mp h.1.1, G.gl h.1.2, by rw [G.hmg]; exact D.free x h.2⟩
theorem se_var (G : Gd M X N sc k W) {x : Str} {i : Nat} (h : nthS N i x = true) (hv : isVis (look sc.names x) = true) (hd : (!strEq x sDebug) = true) (hc : (!strEq x sClassdict) = true) : PE X (.Name x pos) (tEv M W (stepE cl calls rc (.var i))) := by
  refine PE.of (pe_var (i := i) (by rw [G.hN]; exact nthS_eq h) (G.vis hv) (not_eq hd) (not_eq hc)) fun σ H Q q => ?_
  obtain ⟨c, s, hh, ⟨rfl, R, S⟩, g⟩ := q
  have g' : Go M c (RV M) (optR (getV s i) hh) Q _ := g
  cases e : getV s i with
  | none => rw [e] at g'; exact g'.elim
  | some v =>
    rw [e] at g'
    obtain ⟨u, e1, r⟩ := S.at_ i v e
    exact ⟨u, e1, go_val R r g'⟩
theorem se_lit {cst : Const} {j : Nat} {v : Val} (h : litEq cst v = true) : PE X (.Constant cst j pos) (tEv M W (stepE cl calls rc (.lit v))) := by
  cases cst <;> cases v <;> first | (cases h; done) | skip
  · exact PE.of pe_non fun σ H Q ⟨c, s, hh, ⟨e, R, S⟩, g⟩ => by subst e; exact go_val (RR := RV M) R .non g
  · rename_i a b
    have e : a = b := by simpa [litEq] using h
    subst e
    exact PE.of pe_bl fun σ H Q ⟨c, s, hh, ⟨e, R, S⟩, g⟩ => by subst e; exact go_val (RR := RV M) R (.bl _) g
  · rename_i a b
    have e : a = b := by simpa [litEq] using h
    subst e
    exact PE.of pe_int fun σ H Q ⟨c, s, hh, ⟨e, R, S⟩, g⟩ => by subst e; exact go_val (RR := RV M) R (.int _) g
  · rename_i a b
    have e : a = b := strEq_iff.mp h
    subst e
    exact PE.of pe_str fun σ H Q ⟨c, s, hh, ⟨e, R, S⟩, g⟩ => by subst e; exact go_val (RR := RV M) R (.str _) g
theorem se_glb (G : Gd M X N sc k W) (D : MdOk M md) {x y : Str} {v : Val} (hg : isGl (look sc.names x) = true) (hc : constIs x v md.consts = true) (hd : (!strEq x sDebug) = true) : PE X (.Name x pos) (tEv M W (stepE cl calls rc (.glb y v))) := by
  obtain ⟨u, z, e1, r, hr⟩ := D.const x v hc
  exact PE.of (pe_glob (G.gl hg) (by rw [G.hmg]; exact e1) r (not_eq hd)) fun σ H Q ⟨c, s, hh, ⟨e, R, S⟩, g⟩ => by subst e; exact go_val (RR := RV M) R (hr c) g
/-! ### operators -/
theorem se_bin (G : Gd M X N sc k W) {a b : Expr} {o : BOp} {ma mb : E} (ha : PE X a (tEv M W (rc.e ma))) (hb : PE X b (tEv M W (rc.e mb))) : PE X (.BinOp a o.op b pos) (tEv M W (stepE cl calls rc (.bin o ma mb))) :=
  PE.of (pe_op (op_bin G.hK o) ha hb) fun σ H Q ⟨c, s, hh, ⟨e, R, S⟩, g⟩ => by
    subst e
    exact ⟨c, s, hh, ⟨rfl, R, S⟩, Go.bind g fun x h1 c1 bx e1 R1 rx g1 => ⟨c1, s, h1, ⟨rfl, R1, S.ext e1⟩, Go.bind g1 fun y h2 c2 b_y e2 R2 ry g2 => ⟨c2, h2, x, y, _, ⟨rfl, R2⟩, rx.ext e2, ry, g2⟩⟩⟩
theorem se_neg {a : Expr} {ma : E} (ha : PE X a (tEv M W (rc.e ma))) : PE X (.UnaryOp .USub a pos) (tEv M W (stepE cl calls rc (.neg ma))) :=
  PE.of (pe_un un_neg ha) fun σ H Q ⟨c, s, hh, ⟨e, R, S⟩, g⟩ => by
    subst e
    refine ⟨c, s, hh, ⟨rfl, R, S⟩, Go.bind g fun x h1 c1 bx e1 R1 rx g1 => ?_⟩
    cases rx with
    | int i => exact ⟨i, rfl, go_val (RR := RV M) R1 (.int _) g1⟩
    | _ => exact g1.elim
theorem Gd.un (G : Gd M X N sc k W) : X.A.units + 65 < cLine := by have := G.room.un; omega
theorem optR_go {α β : Type} {c : Cf} {RR : Cf → α → β → Prop} {o : Option α} {h : LHeap} {Q : β → Hp → Prop} {E : XK} (g : Go M c RR (optR o h) Q E) : ∃ a, o = some a ∧ Go M c RR (.ok a h) Q E := by
  cases o with
  | none => exact g.elim
  | some a => exact ⟨a, rfl, g⟩
theorem cmp_read (G : Gd M X N sc k W) {o : COp} {ma mb : E} {σ : St} {H : Hp} {Q : VK} (h : tEv M W (stepE cl calls rc (.cmp o ma mb)) σ H Q) : tOp (rCmp M o) (tEv M W (rc.e ma)) (tEv M W (rc.e mb)) σ H Q := by
    obtain ⟨c, s, hh, ⟨e, R, S⟩, g⟩ := h
    subst e
    refine ⟨c, s, hh, ⟨rfl, R, S⟩, Go.bind g fun x h1 c1 bx e1 R1 rx g1 => ⟨c1, s, h1, ⟨rfl, R1, S.ext e1⟩, Go.bind g1 fun y h2 c2 b_y e2 R2 ry g2 => ?_⟩⟩
    cases q : cmpOp o x y h2 with
    | none => rw [q] at g2; exact g2.elim
    | some bb =>
      rw [q] at g2
      exact ⟨c2, h2, x, y, bb, ⟨rfl, R2⟩, rx.ext e2, ry, q, go_val (RR := RV M) R2 (.bl bb) g2⟩
theorem se_cmp (G : Gd M X N sc k W) {a b : Expr} {o : COp} {ma mb : E} (hs : notSet b = true) (ha : PE X a (tEv M W (rc.e ma))) (hb : PE X b (tEv M W (rc.e mb))) : PE X (.Compare a [o.op] [b] pos) (tEv M W (stepE cl calls rc (.cmp o ma mb))) :=
  PE.of (pe_cmpR (op_cmp G.hK G.un o) ha hb (notSet_mark hs)) fun σ H Q h => cmp_read G h
theorem lastMarks_ok {o o' : CmpOp} {b c : Expr} (h : notSet c = true) : lastMarks [o, o'] [b, c] = false := notSet_mark h
theorem cmp2_read (G : Gd M X N sc k W) {o o' : COp} {ma mb mc : E} {σ : St} {H : Hp} {Q : VK} (h : tEv M W (stepE cl calls rc (.cmp2 o o' ma mb mc)) σ H Q) : tChain (rCmp M o) (rCmp M o') (tEv M W (rc.e ma)) (tEv M W (rc.e mb)) (tEv M W (rc.e mc)) σ H Q := by
    obtain ⟨c, s, hh, ⟨e, R, S⟩, g⟩ := h
    subst e
    refine ⟨c, s, hh, ⟨rfl, R, S⟩, Go.bind g fun x h1 c1 bx e1 R1 rx g1 => ⟨c1, s, h1, ⟨rfl, R1, S.ext e1⟩, Go.bind g1 fun y h2 c2 b_y e2 R2 ry g2 => ?_⟩⟩
    cases q : cmpOp o x y h2 with
    | none => rw [q] at g2; exact g2.elim
    | some bb =>
      rw [q] at g2
      refine ⟨c2, h2, x, y, bb, ⟨rfl, R2⟩, rx.ext e2, ry, q, bb, rfl, ?_⟩
      cases bb with
      | false => exact go_val (RR := RV M) R2 (.bl false) g2
      | true =>
        rw [if_pos rfl]
        refine ⟨c2, s, h2, ⟨rfl, R2, (S.ext e1).ext e2⟩, Go.bind (r := rc.e mc s h2) g2 fun z h4 c4 bz e4 R4 rz g4 => ?_⟩
        cases q2 : cmpOp o' y z h4 with
        | none => rw [q2] at g4; exact g4.elim
        | some b2 =>
          rw [q2] at g4
          exact ⟨c4, h4, y, z, b2, ⟨rfl, R4⟩, ry.ext e4, rz, q2, go_val (RR := RV M) R4 (.bl b2) g4⟩
theorem se_cmp2 (G : Gd M X N sc k W) {a b d : Expr} {o o' : COp} {ma mb mc : E} (hs : notSet d = true) (ha : PE X a (tEv M W (rc.e ma))) (hb : PE X b (tEv M W (rc.e mb))) (hd : PE X d (tEv M W (rc.e mc))) :
    PE X (.Compare a [o.op, o'.op] [b, d] pos) (tEv M W (stepE cl calls rc (.cmp2 o o' ma mb mc))) :=
  PE.of (pe_chain (op_cmp G.hK G.un o) (op_cmp G.hK G.un o') ha hb hd (lastMarks_ok hs)) fun σ H Q h => cmp2_read G h
theorem se_and {a b : Expr} {rest : List Expr} {ma mb : E} (ha : PE X a (tEv M W (rc.e ma))) (hb : PE X (.BoolOp .And (b :: rest) pos) (tEv M W (rc.e mb))) : PE X (.BoolOp .And (a :: b :: rest) pos) (tEv M W (stepE cl calls rc (.and ma mb))) :=
  PE.of (pe_and ha hb) fun σ H Q ⟨c, s, hh, ⟨e, R, S⟩, g⟩ => by
    subst e
    refine ⟨c, s, hh, ⟨rfl, R, S⟩, Go.bind g fun x h1 c1 bx e1 R1 rx g1 => ?_⟩
    cases rx with
    | bl t =>
      refine ⟨t, rfl, ?_⟩
      cases t with
      | true => rw [if_pos rfl]; exact ⟨c1, s, h1, ⟨rfl, R1, S.ext e1⟩, g1⟩
      | false => exact go_val (RR := RV M) R1 (.bl false) g1
    | _ => exact g1.elim
theorem se_or {a b : Expr} {rest : List Expr} {ma mb : E} (ha : PE X a (tEv M W (rc.e ma))) (hb : PE X (.BoolOp .Or (b :: rest) pos) (tEv M W (rc.e mb))) : PE X (.BoolOp .Or (a :: b :: rest) pos) (tEv M W (stepE cl calls rc (.or ma mb))) :=
  PE.of (pe_or ha hb) fun σ H Q ⟨c, s, hh, ⟨e, R, S⟩, g⟩ => by
    subst e
    refine ⟨c, s, hh, ⟨rfl, R, S⟩, Go.bind g fun x h1 c1 bx e1 R1 rx g1 => ?_⟩
    cases rx with
    | bl t =>
      refine ⟨t, rfl, ?_⟩
      cases t with
      | false => exact ⟨c1, s, h1, ⟨rfl, R1, S.ext e1⟩, g1⟩
      | true => rw [if_pos rfl]; exact go_val (RR := RV M) R1 (.bl true) g1
    | _ => exact g1.elim
theorem se_not {a : Expr} {ma : E} (ha : PE X a (tEv M W (rc.e ma))) : PE X (.UnaryOp .Not a pos) (tEv M W (stepE cl calls rc (.not ma))) :=
  PE.of (pe_not ha) fun σ H Q ⟨c, s, hh, ⟨e, R, S⟩, g⟩ => by
    subst e
    refine ⟨c, s, hh, ⟨rfl, R, S⟩, Go.bind g fun x h1 c1 bx e1 R1 rx g1 => ?_⟩
    cases rx with
    | bl t => exact ⟨t, rfl, go_val (RR := RV M) R1 (.bl _) g1⟩
    | _ => exact g1.elim
theorem se_ife {d a b : Expr} {mc ma mb : E} (hd : PT X d (tEvT M W (rc.t mc))) (ha : PE X a (tEv M W (rc.e ma))) (hb : PE X b (tEv M W (rc.e mb))) : PE X (.IfExp d a b pos) (tEv M W (stepE cl calls rc (.ife mc ma mb))) :=
  PE.of (pe_ifExp hd ha hb) fun σ H Q ⟨c, s, hh, ⟨e, R, S⟩, g⟩ => by
    subst e
    refine ⟨c, s, hh, ⟨rfl, R, S⟩, Go.bind g fun x h1 c1 bx e1 R1 rx g1 => ?_⟩
    subst rx
    cases x with
    | true => rw [if_pos rfl]; exact ⟨c1, s, h1, ⟨rfl, R1, S.ext e1⟩, g1⟩
    | false => rw [if_neg (by decide)]; exact ⟨c1, s, h1, ⟨rfl, R1, S.ext e1⟩, g1⟩
/-! ### argument lists, displays -/
theorem sa_nil : PA X [] (tEvA M W (evs rc [])) := PA.of pa_nil fun σ H Q ⟨c, s, hh, ⟨e, R, S⟩, g⟩ => by subst e; exact go_val (RR := RVs M) R .nil g
theorem sa_cons {e : Expr} {es : List Expr} {m : E} {ms : List E} (hn : notStar e = true) (ha : PE X e (tEv M W (rc.e m))) (hb : PA X es (tEvA M W (evs rc ms))) : PA X (e :: es) (tEvA M W (evs rc (m :: ms))) :=
  PA.of (pa_cons ha hb (notStar_each hn)) fun σ H Q ⟨c, s, hh, ⟨e, R, S⟩, g⟩ => by
    subst e
    exact ⟨c, s, hh, ⟨rfl, R, S⟩, Go.bind g fun x h1 c1 bx e1 R1 rx g1 => ⟨c1, s, h1, ⟨rfl, R1, S.ext e1⟩, Go.bind g1 fun ys h2 c2 b_y e2 R2 ry g2 => go_val (RR := RVs M) R2 (.cons (rx.ext e2) ry) g2⟩⟩
theorem se_tup {es : List Expr} {j : Nat} {ms : List E} (ha : PA X es (tEvA M W (evs rc ms))) : PE X (.Tuple es j pos) (tEv M W (stepE cl calls rc (.tup ms))) :=
  PE.of (pe_tup ha) fun σ H Q ⟨c, s, hh, ⟨e, R, S⟩, g⟩ => by
    subst e
    refine ⟨c, s, hh, ⟨rfl, R, S⟩, Go.bind g fun xs h1 c1 ys e1 R1 rx g1 => ?_⟩
    cases q : Nat.ble xs.length line with
    | false => rw [q] at g1; exact g1.elim
    | true =>
      rw [q] at g1
      have hl := ble_true q
      rw [rx.length] at hl
      exact ⟨hl, go_tup R1 rx g1⟩
theorem se_lst {es : List Expr} {ms : List E} (ha : PA X es (tEvA M W (evs rc ms))) : PE X (.List es pos) (tEv M W (stepE cl calls rc (.lst ms))) :=
  PE.of (pe_lst ha) fun σ H Q ⟨c, s, hh, ⟨e, R, S⟩, g⟩ => by
    subst e
    refine ⟨c, s, hh, ⟨rfl, R, S⟩, Go.bind g fun xs h1 c1 ys e1 R1 rx g1 => ?_⟩
    cases q : Nat.ble xs.length line with
    | false => rw [q] at g1; exact g1.elim
    | true =>
      rw [q] at g1
      have hl := ble_true q
      rw [rx.length] at hl
      exact ⟨hl, go_alloc_lst R1 rx g1⟩
/-! ### tests -/
theorem st_val {e : Expr} {m : E} (hp : plainT e = true) (h : PE X e (tEv M W (rc.e m))) : PT X e (tEvT M W fun s hh => (rc.e m s hh).bind fun v h1 => match v with
    | .bl b => .ok b h1
    | _ => .bad) := by
  refine PT.of (pt_val h (by intro whole; cases e <;> first | rfl | (cases hp; done) | (rename_i o _ _; cases o <;> first | rfl | (cases hp; done)))) fun σ H Q ⟨c, s, hh, ⟨e, R, S⟩, g⟩ => ?_
  subst e
  refine ⟨c, s, hh, ⟨rfl, R, S⟩, Go.bind g fun x h1 c1 bx e1 R1 rx g1 => ?_⟩
  cases rx with
  | bl t => exact ⟨t, rfl, go_val (RR := fun _ a b => a = b) R1 rfl g1⟩
  | _ => exact g1.elim
theorem st_and {a b : Expr} {rest : List Expr} {ma mb : E} (ha : PT X a (tEvT M W (rc.t ma))) (hb : PW X (.BoolOp .And (b :: rest) pos) (tEvT M W (rc.t mb))) : PW X (.BoolOp .And (a :: b :: rest) pos) (tEvT M W (stepT rc (.and ma mb))) :=
  PW.of (pw_and ha hb) fun σ H Q ⟨c, s, hh, ⟨e, R, S⟩, g⟩ => by
    subst e
    refine ⟨c, s, hh, ⟨rfl, R, S⟩, Go.bind g fun x h1 c1 bx e1 R1 rx g1 => ?_⟩
    subst rx
    cases x with
    | true => rw [if_pos rfl]; exact ⟨c1, s, h1, ⟨rfl, R1, S.ext e1⟩, g1⟩
    | false => rw [if_neg (by decide)]; exact go_val (RR := fun _ a b => a = b) R1 rfl g1
theorem st_or {a b : Expr} {rest : List Expr} {ma mb : E} (ha : PT X a (tEvT M W (rc.t ma))) (hb : PW X (.BoolOp .Or (b :: rest) pos) (tEvT M W (rc.t mb))) : PW X (.BoolOp .Or (a :: b :: rest) pos) (tEvT M W (stepT rc (.or ma mb))) :=
  PW.of (pw_or ha hb) fun σ H Q ⟨c, s, hh, ⟨e, R, S⟩, g⟩ => by
    subst e
    refine ⟨c, s, hh, ⟨rfl, R, S⟩, Go.bind g fun x h1 c1 bx e1 R1 rx g1 => ?_⟩
    subst rx
    cases x with
    | false => rw [if_neg (by decide)]; exact ⟨c1, s, h1, ⟨rfl, R1, S.ext e1⟩, g1⟩
    | true => rw [if_pos rfl]; exact go_val (RR := fun _ a b => a = b) R1 rfl g1
theorem st_not {a : Expr} {ma : E} (ha : PT X a (tEvT M W (rc.t ma))) : PT X (.UnaryOp .Not a pos) (tEvT M W (stepT rc (.not ma))) :=
  PT.of (pt_not ha) fun σ H Q ⟨c, s, hh, ⟨e, R, S⟩, g⟩ => by
    subst e
    refine ⟨c, s, hh, ⟨rfl, R, S⟩, Go.bind g fun x h1 c1 bx e1 R1 rx g1 => ?_⟩
    subst rx
    exact go_val (RR := fun _ a b => a = b) R1 rfl g1
def toB (v : Val) (h1 : LHeap) : Res Bool := match v with
  | .bl b => .ok b h1
  | _ => .bad
theorem toB_read {m : LSt → LHeap → Res Val} {σ : St} {H : Hp} {Q : Bool → Hp → Prop} (h : tEvT M W (fun s hh => (m s hh).bind toB) σ H Q) : tEv M W m σ H fun x H' => ∃ k, x = .bl k ∧ Q k H' := by
  obtain ⟨c, s, hh, ⟨e, R, S⟩, g⟩ := h
  subst e
  refine ⟨c, s, hh, ⟨rfl, R, S⟩, Go.bind g fun x h1 c1 bx e1 R1 rx g1 => ?_⟩
  cases rx with
  | bl t => exact ⟨t, rfl, go_val (RR := fun _ a b => a = b) R1 rfl g1⟩
  | _ => exact g1.elim
theorem st_cmp (G : Gd M X N sc k W) {a b : Expr} {o : COp} {ma mb : E} (hs : notSet b = true) (ha : PE X a (tEv M W (rc.e ma))) (hb : PE X b (tEv M W (rc.e mb))) : PT X (.Compare a [o.op] [b] pos) (tEvT M W fun s hh => (stepE cl calls rc (.cmp o ma mb) s hh).bind toB) :=
  PT.of (pt_cmpR (op_cmp G.hK G.un o) ha hb (notSet_mark hs)) fun σ H Q h => cmp_read G (toB_read h)
theorem st_cmp2 (G : Gd M X N sc k W) {a b d : Expr} {o o' : COp} {ma mb mc : E} (hs : notSet d = true) (ha : PE X a (tEv M W (rc.e ma))) (hb : PE X b (tEv M W (rc.e mb))) (hd : PE X d (tEv M W (rc.e mc))) : PT X (.Compare a [o.op, o'.op] [b, d] pos) (tEvT M W fun s hh => (stepE cl calls rc (.cmp2 o o' ma mb mc) s hh).bind toB) :=
  PT.of (pt_chain (op_cmp G.hK G.un o) (op_cmp G.hK G.un o') ha hb hd (lastMarks_ok hs)) fun σ H Q h => cmp2_read G (toB_read h)
end
end Ev

set_option Elab.async false
set_option linter.all false
set_option maxRecDepth 100000
set_option maxHeartbeats 2000000
/-! Expressions, part 2: subscripts, calls. -/
namespace Ev
open PySem PySem.Spec PyProof.Rows L2
theorem ix_eq (n : Nat) (i : Int) : ix n i = ixN n i := by
  unfold ix ixN
  by_cases h : 0 ≤ i
  · rw [if_pos h, decide_eq_true h]
    by_cases h2 : i < (n : Int)
    · rw [if_pos h2, decide_eq_true h2]
    · rw [if_neg h2, decide_eq_false h2]
  · rw [if_neg h, decide_eq_false h]
    by_cases h2 : -(n : Int) ≤ i
    · rw [if_pos h2, decide_eq_true h2]
    · rw [if_neg h2, decide_eq_false h2]
theorem nth_eq {α : Type} : ∀ (xs : List α) (n : Nat), nth xs n = xs[n]?
  | [], n => by simp [nth]
  | x :: xs, 0 => rfl
  | x :: xs, n + 1 => by simp [nth, nth_eq xs n]
theorem bnd_eq (n d : Nat) (o : Option Int) : bnd n d o = HT.sIx n d o := by
  cases o with
  | none => rfl
  | some v =>
    show (match decide (v < 0) with
      | true => (v + (n : Int)).toNat
      | false => Nat.min v.toNat n) = if v < 0 then (v + (n : Int)).toNat else min v.toNat n
    by_cases h : v < 0
    · rw [if_pos h, decide_eq_true h]
    · rw [if_neg h, decide_eq_false h]
section
variable {M : Mo} {X : Cx} {N : List Str} {sc : Scope} {k : Nat} {W : WX} {md : Md} {cl : Cl} {calls : Nat → List Val → LHeap → Res Val} {rc : Rec} {pos : Pos}
theorem atI_rv {c : Cf} {xs : List Val} {ys : List V} {i : Int} {j : Nat} {w : Val} (r : RVs M c xs ys) (e1 : ix xs.length i = some j) (e2 : nth xs j = some w) : ∃ z, atI ys i = some z ∧ RV M c w z := by
  obtain ⟨z, e3, rz⟩ := r.nth e2
  refine ⟨z, ?_, rz⟩
  unfold atI
  rw [← r.length, ← ix_eq, e1]
  exact e3
def rSub (M : Mo) : R2 := fun x y H Q => ∃ c h u v w, Has M c h H ∧ RV M c u x ∧ RV M c v y ∧ subVal h u v = some w ∧ ∀ z, RV M c w z → Q z H
theorem ix_all (hK : X.K = M.K) (hu : X.A.units + 65 < cLine) : IxR X (rSub M) := by
  intro value slice pins s σ H x y v u Q I rx ry hr hs
  obtain ⟨c, h, a, b, w, ⟨rfl, R⟩, ra, rb, e, q⟩ := hr
  unfold subVal at e
  cases qd : isDict h a with
  | true =>
    rw [qd] at e
    cases qg : dget h a b with
    | none => simp only [qg] at e; cases e
    | some o =>
      cases o with
      | none => simp only [qg] at e; cases e
      | some w' =>
        simp only [qg] at e
        cases e
        obtain ⟨p, o', ey, hg, ro⟩ := dget_rv R ra rb qg
        cases o' with
        | none => exact ro.elim
        | some z =>
          subst ey
          obtain rfl : v = Value.ref p := rx
          exact tail_any (dict_typeIs I hg) PySem.F.slot_dict_getitem.lookup (d_getItem (by omega) I hg ry fun w' s3 I3 rw' => ⟨z, _, I3, rw', q z ro⟩) hs
  | false =>
    rw [qd] at e
    have seq : ∀ {i : Int} (rb : RV M c (.int i) y), (match items h a with
        | some xs => (match ix xs.length i with
          | some j => nth xs j
          | none => none)
        | none => none) = some w → wpAny (model X.prog X.w) X.A (subscriptTail value slice v u) (EP X pins σ Q) X.xe s := by
      intro i rb e
      cases rb with
      | int i =>
        cases qi : items h a with
        | none => simp only [qi] at e; cases e
        | some xs =>
          simp only [qi] at e
          cases qj : ix xs.length i with
          | none => simp only [qj] at e; cases e
          | some j =>
            simp only [qj] at e
            obtain ⟨p, ys, ex, hsq, rvs, _⟩ := R.items ra qi
            obtain ⟨z, ez, rz⟩ := atI_rv rvs qj e
            rcases hsq with hsq | hsq
            · exact ix_list value slice pins s σ _ _ _ v u Q I rx ry ⟨p, ys, i, z, ex, rfl, by rw [hK]; exact hsq, ez, q z rz⟩ hs
            · exact ix_tup value slice pins s σ _ _ _ v u Q I rx ry ⟨p, ys, i, z, ex, rfl, by rw [hK]; exact hsq, ez, q z rz⟩ hs
    cases rb with
    | int i =>
      cases ra with
      | str t =>
        have e' : (match Nat.ble t.cps.toList.length line with
          | true => (match ix t.cps.toList.length i with
            | some j => (match nth t.cps.toList j with
              | some c => some (Val.str ⟨[c].toArray⟩)
              | none => none)
            | none => none)
          | false => none) = some w := e
        cases ql : Nat.ble t.cps.toList.length line with
        | false => rw [ql] at e'; cases e'
        | true =>
          rw [ql] at e'
          cases qj : ix t.cps.toList.length i with
          | none => simp only [qj] at e'; cases e'
          | some j =>
            simp only [qj] at e'
            cases qn : nth t.cps.toList j with
            | none => simp only [qn] at e'; cases e'
            | some d =>
              simp only [qn] at e'
              cases e'
              have hl := ble_true ql
              rw [cps_len, line_eq] at hl
              refine ix_str value slice pins s σ _ _ _ v u Q I rx ry ⟨t, i, d, rfl, rfl, hl, ?_, q _ (.str _)⟩ hs
              unfold atI
              rw [← ix_eq, qj]
              rw [nth_eq] at qn
              exact qn
      | non => exact seq (.int i) e
      | bl _ => exact seq (.int i) e
      | int _ => exact seq (.int i) e
      | tup hh r => exact seq (.int i) e
      | ref hl => exact seq (.int i) e
      | fn j => exact seq (.int i) e
    | _ => cases e
theorem notSlice_plain {i : Expr} (h : notSlice i = true) : PlainIx i := by
  intro o v
  cases i <;> first | rfl | cases h
theorem se_sub (G : Gd M X N sc k W) {a i : Expr} {ma mi : E} (hs : notSlice i = true) (ha : PE X a (tEv M W (rc.e ma))) (hi : PE X i (tEv M W (rc.e mi))) : PE X (.Subscript a i pos) (tEv M W (stepE cl calls rc (.sub ma mi))) :=
  PE.of (pe_ix (ix_all G.hK G.un) ha hi (notSlice_plain hs)) fun σ H Q ⟨c, s, hh, ⟨e, R, S⟩, g⟩ => by
    subst e
    refine ⟨c, s, hh, ⟨rfl, R, S⟩, Go.bind g fun x h1 c1 bx e1 R1 rx g1 => ⟨c1, s, h1, ⟨rfl, R1, S.ext e1⟩, Go.bind g1 fun y h2 c2 b_y e2 R2 ry g2 => ?_⟩⟩
    obtain ⟨w, ew, g3⟩ := optR_go g2
    exact ⟨c2, h2, x, y, w, ⟨rfl, R2⟩, rx.ext e2, ry, ew, fun z rz => go_val R2 rz g3⟩
/-! ### slices -/
def rSl (M : Mo) : V → Option Int → Option Int → Hp → VK → Prop := fun x lo hi H Q => ∃ c h u E, Has M c h H ∧ RV M c u x ∧ Go M c (RV M) (sliceVal h u lo hi) Q E
theorem cut_rv {c : Cf} {xs : List Val} {ys : List V} (r : RVs M c xs ys) (lo hi : Option Int) : RVs M c (cut xs lo hi) (cutV ys lo hi) := by
  unfold cut cutV
  rw [bnd_eq, bnd_eq, r.length]
  exact (r.drop _).take _
theorem cut_all {α : Type} {xs : List α} {lo hi : Option Int} (h : HT.sIx xs.length 0 lo = 0 ∧ HT.sIx xs.length xs.length hi = xs.length) : cut xs lo hi = xs := by
  unfold cut
  rw [bnd_eq, bnd_eq, h.1, h.2]
  simp
theorem sl_all (hK : X.K = M.K) : SlR X (rSl M) := by
  intro pins s σ H x v vl vu lo hi sl Q I rx hsl pl pu hr
  obtain ⟨c, h, a, E, ⟨rfl, R⟩, ra, g⟩ := hr
  cases ra with
  | @tup xs p ys ht r =>
    have g' : Go M c (RV M) (.ok (.tup (cut xs lo hi)) h) Q E := g
    refine sl_tupA pins s σ _ _ v vl vu lo hi sl Q I rx hsl pl pu ⟨p, ys, rfl, SqT.of ht, fun hw => ?_, fun _ => ?_⟩
    · rw [← r.length] at hw
      rw [cut_all hw] at g'
      exact go_val (RR := RV M) R (.tup ht r) g'
    · exact go_tup R (cut_rv r lo hi) g'
  | @ref l hl =>
    have g' : Go M c (RV M) (match h.get l with
      | some (.lst xs) => alloc (.lst (cut xs lo hi)) h
      | some (.frz xs) => alloc (.lst (cut xs lo hi)) h
      | _ => .bad) Q E := g
    cases q : h.get l with
    | none => rw [q] at g'; exact g'.elim
    | some o =>
      rw [q] at g'
      cases o with
      | lst xs =>
        obtain ⟨ys, h1, r1⟩ := R.lst q
        exact sl_list pins s σ _ _ v vl vu lo hi sl Q I rx hsl pl pu ⟨_, ys, rfl, SqL.of h1, go_alloc_lst R (cut_rv r1 lo hi) g'⟩
      | frz xs =>
        obtain ⟨ys, h1, r1⟩ := R.frz q
        exact sl_list pins s σ _ _ v vl vu lo hi sl Q I rx hsl pl pu ⟨_, ys, rfl, by rw [hK]; exact h1.sq, go_alloc_lst R (cut_rv r1 lo hi) g'⟩
      | _ => exact g'.elim
  | str t =>
    have g' : Go M c (RV M) (match Nat.ble t.cps.toList.length line with
      | true => .ok (.str ⟨(cut t.cps.toList lo hi).toArray⟩) h
      | false => .bad) Q E := g
    cases q : Nat.ble t.cps.toList.length line with
    | false => rw [q] at g'; exact g'.elim
    | true =>
      rw [q] at g'
      have hl := ble_true q
      rw [cps_len, line_eq] at hl
      refine sl_str pins s σ _ _ v vl vu lo hi sl Q I rx hsl pl pu ⟨t, rfl, hl, ?_⟩
      have : cutS t lo hi = ⟨(cut t.cps.toList lo hi).toArray⟩ := by
        unfold cutS cut
        rw [bnd_eq, bnd_eq, cps_len]
      rw [this]
      exact go_val (RR := RV M) R (.str _) g'
  | _ => exact g.elim
def tEvO (M : Mo) (W : WX) (m : LSt → LHeap → Res (Option Int)) : TO := fun σ H Q => ∃ c s h, At M c s h σ H ∧ Go M c (fun _ a b => a = b) (m s h) Q (fun cls d H' => W cls d σ H')
theorem PO.of {e : Option Expr} {t t' : TO} (h : PO X e t) (hi : ∀ σ H Q, t' σ H Q → t σ H Q) : PO X e t' := ⟨fun pins s σ H Q I q => h.run pins s σ H Q I (hi σ H Q q)⟩
theorem so_none : PO X none (tEvO M W (evOpt rc none)) := PO.of po_none fun σ H Q ⟨c, s, hh, ⟨e, R, S⟩, g⟩ => by subst e; exact go_val (RR := fun _ a b => a = b) R rfl g
theorem so_some {e : Expr} {m : E} (he : PE X e (tEv M W (rc.e m))) : PO X (some e) (tEvO M W (evOpt rc (some m))) := PO.of (po_some he) fun σ H Q ⟨c, s, hh, ⟨e, R, S⟩, g⟩ => by
  subst e
  refine ⟨c, s, hh, ⟨rfl, R, S⟩, Go.bind g fun x h1 c1 bx e1 R1 rx g1 => ?_⟩
  cases rx with
  | int i => exact ⟨i, rfl, go_val (RR := fun _ a b => a = b) R1 rfl g1⟩
  | _ => exact g1.elim
theorem se_slc (G : Gd M X N sc k W) {a : Expr} {lo hi : Option Expr} {p2 : Pos} {ma : E} {ml mh : Option E} (ha : PE X a (tEv M W (rc.e ma))) (hl : PO X lo (tEvO M W (evOpt rc ml))) (hh : PO X hi (tEvO M W (evOpt rc mh))) :
    PE X (.Subscript a (.Slice lo hi none p2) pos) (tEv M W (stepE cl calls rc (.slc ma ml mh))) :=
  PE.of (pe_slice (sl_all G.hK) ha hl hh) fun σ H Q ⟨c, s, hh, ⟨e, R, S⟩, g⟩ => by
    subst e
    refine ⟨c, s, hh, ⟨rfl, R, S⟩, Go.bind g fun x h1 c1 bx e1 R1 rx g1 => ⟨c1, s, h1, ⟨rfl, R1, S.ext e1⟩, Go.bind g1 fun l h2 c2 bl e2 R2 rl g2 => ?_⟩⟩
    subst rl
    refine ⟨c2, s, h2, ⟨rfl, R2, (S.ext e1).ext e2⟩, Go.bind g2 fun r h3 c3 br e3 R3 rr g3 => ?_⟩
    subst rr
    exact ⟨c3, h3, x, _, ⟨rfl, R3⟩, (rx.ext e2).ext e3, g3⟩
theorem se_rev (G : Gd M X N sc k W) {a : Expr} {j : Nat} {p1 p2 p3 : Pos} {ma : E} (ha : PE X a (tEv M W (rc.e ma))) : PE X (.Subscript a (.Slice none none (some (.UnaryOp .USub (.Constant (.int 1) j p1) p2)) p3) pos) (tEv M W (stepE cl calls rc (.rev ma))) :=
  PE.of (pe_revL ha) fun σ H Q ⟨c, s, hh, ⟨e, R, S⟩, g⟩ => by
    subst e
    refine ⟨c, s, hh, ⟨rfl, R, S⟩, Go.bind g fun x h1 c1 bx e1 R1 rx g1 => ?_⟩
    cases q : itemsL h1 x with
    | none => simp only [q] at g1; exact g1.elim
    | some xs =>
      simp only [q] at g1
      obtain ⟨p, ys, ex, hs, r⟩ := R1.itemsL rx q
      exact ⟨p, ys, ex, by rw [G.hK]; exact hs, go_alloc_lst R1 r.reverse g1⟩
/-! ### calls of own functions -/
/-- a def's promise by the evaluator -/
def spOf (M : Mo) (n : Nat) (g : List Val → LHeap → Res Val) : Sp := fun vs H Q E => ∃ c h us, Has M c h H ∧ RVs M c us vs ∧ us.length = n ∧ Go M c (RV M) (g us h) Q E
structure FnK (M : Mo) (k : Nat) (f : Addr) (x : Str) (n : Nat) (g : List Val → LHeap → Res Val) : Prop where
  mg : M.mg x = some (.ref f)
  keep : PySem.W.keepIn M.K (.ref f) = true
  ok : ∃ fd ps, FnOk M.P M.w M.K M.mg M.base (L2.CX M.P M.w) k f fd ps (spOf M n g) ∧ Binds M.K fd ps []
def CallsOk (M : Mo) (md : Md) (k : Nat) (calls : Nat → List Val → LHeap → Res Val) : Prop := ∀ f x n, fnIs x n md.fns f = true → FnK M k (M.fa f) x n (calls f)
theorem stars_plain {env : Env} {p : Pos} : ∀ {es : List Expr}, es.all notStar = true → (backTo p (starEach es env)).any (·.1) = false
  | [], _ => rfl
  | e :: es, h => by
    rw [List.all_cons, Bool.and_eq_true] at h
    rw [notStar_each h.1]
    show (false || (backTo p (starEach es env)).any (·.1)) = false
    rw [stars_plain h.2]
    rfl
theorem evs_len : ∀ {ms : List E} {s : LSt} {h : LHeap} {vs : List Val} {h' : LHeap}, evs rc ms s h = .ok vs h' → vs.length = ms.length
  | [], _, _, _, _, e => by cases e; rfl
  | m :: ms, s, h, vs, h', e => by
    unfold evs at e
    cases q : rc.e m s h with
    | exc _ _ _ => rw [q] at e; cases e
    | bad => rw [q] at e; cases e
    | ok v h1 =>
      rw [q] at e
      have e' : (evs rc ms s h1).bind (fun vs h2 => .ok (v :: vs) h2) = .ok vs h' := e
      cases q2 : evs rc ms s h1 with
      | exc _ _ _ => rw [q2] at e'; cases e'
      | bad => rw [q2] at e'; cases e'
      | ok us h2 =>
        rw [q2] at e'
        cases e'
        rw [List.length_cons, List.length_cons, evs_len q2]
theorem passAt' (tk : Takes X W) (σ : St) : PassesAt (L2.CX X.prog X.w) X σ (fun cls d H' => W cls d σ H') := passAt tk σ
theorem se_call (G : Gd M X N sc k W) (D : CallsOk M md k calls) {f : Nat} {x : Str} {p : Pos} {a : Expr} {as : List Expr} {ms : List E} (hf : fnIs x ms.length md.fns f = true) (hg : isGl (look sc.names x) = true) (hd : (!strEq x sDebug) = true)
    (hn : (a :: as).all notStar = true) (ha : PA X (a :: as) (tEvA M W (evs rc ms))) : PE X (.Call (.Name x p) (a :: as) [] pos) (tEv M W (stepE cl calls rc (.call f ms))) := by
  obtain ⟨hmg, hkp, fd, ps, F, B⟩ := D f x ms.length hf
  rw [List.all_cons, Bool.and_eq_true] at hn
  have F' : FnOk X.prog X.w X.K X.mg X.base (L2.CX X.prog X.w) k (M.fa f) fd ps (spOf M ms.length (calls f)) := by rw [G.hP, G.hw, G.hK, G.hmg, G.hbase]; exact F
  refine PE.of (pe_callSD (dvs := []) (ds := []) (E := fun σ cls d H' => W cls d σ H') F' G.room (G.gl hg) (by rw [G.hmg]; exact hmg) (by rw [G.hK]; exact hkp) (by rw [G.hK]; exact B) .nil (fun σ => passAt' G.tk σ) ha (not_eq hd) (notStar_each hn.1) (stars_plain hn.2)) fun σ H Q ⟨c, s, hh, ⟨e, R, S⟩, g⟩ => ?_
  subst e
  refine ⟨c, s, hh, ⟨rfl, R, S⟩, Go.bindE g fun xs h1 c1 ys er e1 R1 rx g1 => ?_⟩
  rw [List.append_nil]
  exact ⟨c1, h1, xs, ⟨rfl, R1⟩, rx, evs_len er, g1⟩
theorem se_call0 (G : Gd M X N sc k W) (D : CallsOk M md k calls) {f : Nat} {x : Str} {p : Pos} (hf : fnIs x 0 md.fns f = true) (hg : isGl (look sc.names x) = true) (hd : (!strEq x sDebug) = true) :
    PE X (.Call (.Name x p) [] [] pos) (tEv M W (stepE cl calls rc (.call f []))) := by
  obtain ⟨hmg, hkp, fd, ps, F, B⟩ := D f x 0 hf
  have F' : FnOk X.prog X.w X.K X.mg X.base (L2.CX X.prog X.w) k (M.fa f) fd ps (spOf M 0 (calls f)) := by rw [G.hP, G.hw, G.hK, G.hmg, G.hbase]; exact F
  refine ⟨fun pins s σ H Q I h => ?_⟩
  refine wpAny_Call_Name_kw (ld_glob I (G.gl hg) (by rw [G.hmg]; exact hmg) ?_ (not_eq hd))
  refine PySem.W.callWith_K0 I.kIn (by rw [G.hK]; exact hkp) (run_fnSD (us := []) (ds := []) (dvs := []) (vs := []) (E := fun σ cls d H' => W cls d σ H') F' G.room (by rw [G.hK]; exact B) .nil (passAt' G.tk σ) I .nil ?_)
  obtain ⟨c, s, hh, ⟨rfl, R, S⟩, g⟩ := h
  exact ⟨c, hh, [], ⟨rfl, R⟩, .nil, rfl, g⟩
/-! ### .. by themselves: the callee sees the arguments alone -/
mutual
theorem RV.pure {c c' : Cf} (hH : ∀ a xs, c.H a = some (.tup xs) → c'.H a = some (.tup xs)) : ∀ {v : Val} {x : V}, pureV v = true → RV M c v x → RV M c' v x
  | _, _, _, .non => .non
  | _, _, _, .bl b => .bl b
  | _, _, _, .int i => .int i
  | _, _, _, .str s => .str s
  | _, _, p, .tup h r => .tup (hH _ _ h) (RVs.pure hH (by simpa [pureV] using p) r)
  | _, _, p, .ref h => by simp [pureV] at p
  | _, _, _, .fn i => .fn i
theorem RVs.pure {c c' : Cf} (hH : ∀ a xs, c.H a = some (.tup xs) → c'.H a = some (.tup xs)) : ∀ {vs : List Val} {xs : List V}, pureVs vs = true → RVs M c vs xs → RVs M c' vs xs
  | _, _, _, .nil => .nil
  | v :: _, _ :: _, p, .cons h t => by
    unfold pureVs at p
    cases q : pureV v with
    | false => rw [q] at p; cases p
    | true => rw [q] at p; exact .cons (RV.pure hH q h) (RVs.pure hH p t)
end
theorem RF.pure {c c' : Cf} (hH : ∀ a xs, c.H a = some (.tup xs) → c'.H a = some (.tup xs)) : ∀ {vs : List (Str × Val)} {xs : List (Str × V)}, pureF vs = true → RF M c vs xs → RF M c' vs xs
  | _, _, _, .nil => .nil
  | (_, v) :: _, _ :: _, p, .cons h t => by
    unfold pureF at p
    dsimp only at p
    cases q : pureV v with
    | false => rw [q] at p; cases p
    | true => rw [q] at p; exact .cons (RV.pure hH q h) (RF.pure hH p t)
theorem RO.all {c c' : Cf} {o : LObj} {a : Addr} (e : Ex M c c') (hH : ∀ a o, c.H a = some o → c'.H a = some o) (r : RO M c o a) : RO M c' o a := by
  cases r with
  | lst hh r => exact .lst (hH _ _ hh) (r.ex e)
  | frz hh r => exact .frz (hh.imp (fun ⟨o, h⟩ => ⟨o, hH _ _ h⟩) id) (r.ex e)
  | dK hh r => exact .dK (hH _ _ hh) (r.ex e)
  | dT hh r => exact .dT (hH _ _ hh) (r.ex e)
  | ins hh r => exact .ins (hH _ _ hh) (r.ex e)
  | exc hh hc hd hf hx r => exact .exc (hH _ _ hh) hc hd hf (hH _ _ hx) (r.ex e)
/-- nothing is named -/
def Cf.none (c : Cf) : Cf := ⟨0, c.r, c.nm, c.H⟩
/-- .. named as ahead -/
def Cf.as (c c' : Cf) : Cf := ⟨c.n, c.r, c.nm, c'.H⟩
theorem Ext.none_all {c c' : Cf} (e : Ext M c.none c') : ∀ a o, c.H a = some o → c'.H a = some o := fun a o h => e.f a o h fun l hl => absurd hl (Nat.not_lt_zero l)
theorem Ext.as {c c' : Cf} (e : Ext M c.none c') : Ext M c (c.as c') :=
  ⟨⟨Nat.le_refl _, fun _ _ => rfl, fun a xs h => e.none_all a _ h⟩, fun _ _ => rfl, fun a o h _ => e.none_all a o h, fun l h1 h2 => absurd h2 (Nat.not_lt.mpr h1), fun a h => e.tr a h⟩
theorem RH.as {c c' : Cf} {h : LHeap} (R : RH M c h) (e : Ext M c.none c') : RH M (c.as c') h :=
  ⟨R.n, fun l o q => (R.o l o q).all e.as.x e.none_all, R.inj, R.nm, R.mn⟩
theorem rh_none {c : Cf} : RH M c.none heapE := by
  have no : ∀ l o, heapE.get l ≠ some o := fun l o e => by
    rw [LHeap.get_ge (show heapE.n ≤ l from Nat.zero_le l)] at e
    cases e
  exact ⟨rfl, fun l o e => absurd e (no l o), fun l k o u e => absurd e (no l o), fun l hl => absurd hl (Nat.not_lt_zero l), fun l o e => absurd e (no l o)⟩
theorem go_sand {c : Cf} {h : LHeap} {r : Res Val} {Q : VK} {E : XK} (R : RH M c h) (g : Go M c (RV M) (sand r h) Q E) : Go M c.none (RV M) r Q E := by
  unfold sand at g
  cases r with
  | bad => exact g.elim
  | exc kx fs h' =>
    dsimp only at g
    intro c' cls d e R' x
    cases q : pureF fs with
    | false => rw [q] at g; exact g.elim
    | true =>
      rw [q] at g
      obtain ⟨hcl, a, gs, e1, e2, e3⟩ := x
      exact g (c.as c') cls d e.as (R.as e) ⟨hcl, a, gs, e1, e2, RF.pure (c := c') (c' := c.as c') (fun _ _ z => z) q e3⟩
  | ok v h' =>
    dsimp only at g
    intro c' b e R' rv
    cases q : pureV v with
    | true =>
      rw [q] at g
      exact g (c.as c') b e.as (R.as e) (RV.pure (c := c') (c' := c.as c') (fun _ _ z => z) q rv)
    | false =>
      rw [q] at g
      dsimp only at g
      cases rv with
      | ref hl =>
        rename_i l
        dsimp only at g
        cases ql : h'.get l with
        | none => rw [ql] at g; exact g.elim
        | some o =>
          rw [ql] at g
          cases o with
          | lst xs =>
            dsimp only at g
            cases qp : pureVs xs with
            | false => rw [qp] at g; exact g.elim
            | true =>
              rw [qp] at g
              obtain ⟨ys, hh, ry⟩ := R'.lst ql
              have hp : c.H (c'.r l) = none := e.fr l (Nat.zero_le _) hl
              refine go_adopt_lst (c := c.as c') (R.as e) e.as hp ?_ (fun k hk hm => R.new hp k hk hm) (RVs.pure (c := c') (c' := c.as c') (fun _ _ z => z) qp ry) hh g
              show Loose (c'.H (c'.r l))
              rw [hh]
              exact True.intro
          | _ => exact g.elim
      | _ => exact g.elim
theorem se_pcall (G : Gd M X N sc k W) (D : CallsOk M md k calls) {f : Nat} {x : Str} {p : Pos} {a : Expr} {as : List Expr} {ms : List E} (hf : fnIs x ms.length md.fns f = true) (hg : isGl (look sc.names x) = true) (hd : (!strEq x sDebug) = true)
    (hn : (a :: as).all notStar = true) (ha : PA X (a :: as) (tEvA M W (evs rc ms))) : PE X (.Call (.Name x p) (a :: as) [] pos) (tEv M W (stepE cl calls rc (.pcall f ms))) := by
  obtain ⟨hmg, hkp, fd, ps, F, B⟩ := D f x ms.length hf
  rw [List.all_cons, Bool.and_eq_true] at hn
  have F' : FnOk X.prog X.w X.K X.mg X.base (L2.CX X.prog X.w) k (M.fa f) fd ps (spOf M ms.length (calls f)) := by rw [G.hP, G.hw, G.hK, G.hmg, G.hbase]; exact F
  refine PE.of (pe_callSD (dvs := []) (ds := []) (E := fun σ cls d H' => W cls d σ H') F' G.room (G.gl hg) (by rw [G.hmg]; exact hmg) (by rw [G.hK]; exact hkp) (by rw [G.hK]; exact B) .nil (fun σ => passAt' G.tk σ) ha (not_eq hd) (notStar_each hn.1) (stars_plain hn.2)) fun σ H Q ⟨c, s, hh, ⟨e, R, S⟩, g⟩ => ?_
  subst e
  refine ⟨c, s, hh, ⟨rfl, R, S⟩, Go.bindE g fun xs h1 c1 ys er e1 R1 rx g1 => ?_⟩
  rw [List.append_nil]
  cases q : pureVs xs with
  | false => rw [q] at g1; exact g1.elim
  | true =>
    rw [q] at g1
    exact ⟨c1.none, heapE, xs, ⟨rfl, rh_none⟩, RVs.pure (c := c1) (c' := c1.none) (fun _ _ z => z) q rx, evs_len er, go_sand R1 g1⟩
theorem se_pcall0 (G : Gd M X N sc k W) (D : CallsOk M md k calls) {f : Nat} {x : Str} {p : Pos} (hf : fnIs x 0 md.fns f = true) (hg : isGl (look sc.names x) = true) (hd : (!strEq x sDebug) = true) :
    PE X (.Call (.Name x p) [] [] pos) (tEv M W (stepE cl calls rc (.pcall f []))) := by
  obtain ⟨hmg, hkp, fd, ps, F, B⟩ := D f x 0 hf
  have F' : FnOk X.prog X.w X.K X.mg X.base (L2.CX X.prog X.w) k (M.fa f) fd ps (spOf M 0 (calls f)) := by rw [G.hP, G.hw, G.hK, G.hmg, G.hbase]; exact F
  refine ⟨fun pins s σ H Q I h => ?_⟩
  refine wpAny_Call_Name_kw (ld_glob I (G.gl hg) (by rw [G.hmg]; exact hmg) ?_ (not_eq hd))
  refine PySem.W.callWith_K0 I.kIn (by rw [G.hK]; exact hkp) (run_fnSD (us := []) (ds := []) (dvs := []) (vs := []) (E := fun σ cls d H' => W cls d σ H') F' G.room (by rw [G.hK]; exact B) .nil (passAt' G.tk σ) I .nil ?_)
  obtain ⟨c, s, hh, ⟨rfl, R, S⟩, g⟩ := h
  exact ⟨c.none, heapE, [], ⟨rfl, rh_none⟩, .nil, rfl, go_sand R g⟩
end
end Ev

set_option Elab.async false
set_option linter.all false
set_option maxRecDepth 100000
set_option maxHeartbeats 2000000
/-! Expressions, part 3: built-in functions, isinstance, methods, dict displays. -/
namespace Ev
open PySem PySem.Spec PyProof.Rows L2
section
variable {M : Mo} {X : Cx} {N : List Str} {sc : Scope} {k : Nat} {W : WX} {md : Md} {cl : Cl} {calls : Nat → List Val → LHeap → Res Val} {rc : Rec} {pos : Pos}
def rBi (M : Mo) (b : Bi) : List V → Hp → VK → Prop := fun xs H Q => ∃ c h us E, Has M c h H ∧ RVs M c us xs ∧ Go M c (RV M) (biCall b us h) Q E
theorem bools_rv {c : Cf} : ∀ {vs : List Val} {xs : List V} {bs : List Bool}, RVs M c vs xs → bools vs = some bs → xs = bs.map V.bl
  | _, _, _, .nil, e => by cases e; rfl
  | _, _, bs, .cons r t, e => by
    cases r with
    | bl b =>
      rename_i xs ys
      unfold bools at e
      cases q : bools xs with
      | none => rw [q] at e; cases e
      | some cs =>
        rw [q] at e
        cases e
        rw [bools_rv t q]
        rfl
    | _ => cases e
theorem intsOf_rv {c : Cf} : ∀ {vs : List Val} {xs : List V} {is : List Int}, RVs M c vs xs → intsOf vs = some is → xs = is.map V.int
  | _, _, _, .nil, e => by cases e; rfl
  | _, _, is, .cons r t, e => by
    cases r with
    | int i =>
      rename_i xs ys
      unfold intsOf at e
      cases q : intsOf xs with
      | none => rw [q] at e; cases e
      | some cs =>
        rw [q] at e
        cases e
        rw [intsOf_rv t q]
        rfl
    | _ => cases e
theorem allB_eq : ∀ bs : List Bool, allB bs = bs.all id
  | [] => rfl
  | b :: bs => by
    unfold allB
    rw [List.all_cons, allB_eq bs]
    cases b <;> rfl
theorem anyB_eq : ∀ bs : List Bool, anyB bs = bs.any id
  | [] => rfl
  | b :: bs => by
    unfold anyB
    rw [List.any_cons, anyB_eq bs]
    cases b <;> rfl
theorem sumI_eq : ∀ is : List Int, sumI is = is.sum
  | [] => rfl
  | i :: is => by
    unfold sumI
    rw [List.sum_cons, sumI_eq is]
theorem RVs.one {c : Cf} {v : Val} {xs : List V} (r : RVs M c [v] xs) : ∃ x, xs = [x] ∧ RV M c v x := by
  cases r with
  | cons r t => cases t; exact ⟨_, rfl, r⟩
theorem bi_len (hK : X.K = M.K) : CallR X (.builtin "len") (rBi M .len) := by
  intro pins s σ H xs us Q I r hr
  obtain ⟨c, h, vs, E, ⟨rfl, R⟩, rv, g⟩ := hr
  cases rv with
  | nil => exact g.elim
  | cons r1 t =>
    cases t with
    | cons r2 t => cases r1 <;> exact g.elim
    | nil =>
      cases r1 with
      | str t =>
        have g1 : Go M c (RV M) (match Nat.ble t.cps.toList.length line with
          | true => .ok (.int t.cps.toList.length) h
          | false => .bad) Q E := g
        cases q : Nat.ble t.cps.toList.length line with
        | false => rw [q] at g1; exact g1.elim
        | true =>
          rw [q] at g1
          have hl := ble_true q
          rw [cps_len] at hl g1
          rw [line_eq] at hl
          exact call_len pins s σ _ _ us Q I r ⟨_, t.length, rfl, ⟨hl, rfl⟩, go_val (RR := RV M) R (.int _) g1⟩
      | @tup ws a ys ht rt =>
        have g1 : Go M c (RV M) (.ok (.int ws.length) h) Q E := g
        rw [rt.length] at g1
        exact call_len pins s σ _ _ us Q I r ⟨_, ys.length, rfl, .inr ⟨ys, SqT.of ht, rfl⟩, go_val (RR := RV M) R (.int _) g1⟩
      | @ref l hl =>
        have g1 : Go M c (RV M) (match h.get l with
          | some (.lst xs) => .ok (.int xs.length) h
          | some (.frz xs) => .ok (.int xs.length) h
          | some (.dK kvs) => .ok (.int kvs.length) h
          | some (.dT kvs) => .ok (.int kvs.length) h
          | _ => .bad) Q E := g
        cases q : h.get l with
        | none => rw [q] at g1; exact g1.elim
        | some o =>
          rw [q] at g1
          cases o with
          | lst ws =>
            obtain ⟨ys, h1, r1⟩ := R.lst q
            have g2 : Go M c (RV M) (.ok (.int ws.length) h) Q E := g1
            rw [r1.length] at g2
            exact call_len pins s σ _ _ us Q I r ⟨_, ys.length, rfl, .inl ⟨ys, SqL.of h1, rfl⟩, go_val (RR := RV M) R (.int _) g2⟩
          | frz ws =>
            obtain ⟨ys, h1, r1⟩ := R.frz q
            have g2 : Go M c (RV M) (.ok (.int ws.length) h) Q E := g1
            rw [r1.length] at g2
            exact call_len pins s σ _ _ us Q I r ⟨_, ys.length, rfl, .inl ⟨ys, by rw [hK]; exact h1.sq, rfl⟩, go_val (RR := RV M) R (.int _) g2⟩
          | dK ws =>
            obtain ⟨ys, h1, r1⟩ := R.dK q
            have g2 : Go M c (RV M) (.ok (.int ws.length) h) Q E := g1
            rw [r1.length] at g2
            exact call_lenD pins s σ _ _ us Q I r ⟨_, ys, rfl, h1, go_val (RR := RV M) R (.int _) g2⟩
          | dT ws =>
            obtain ⟨ys, h1, r1⟩ := R.dT q
            have g2 : Go M c (RV M) (.ok (.int ws.length) h) Q E := g1
            rw [r1.length] at g2
            exact call_len_dT pins s σ _ _ us Q I r ⟨_, ys, rfl, h1, go_val (RR := RV M) R (.int _) g2⟩
          | _ => exact g1.elim
      | _ => exact g.elim
theorem bi_one {c : Cf} {h : LHeap} {vs : List Val} {f : Val → Res Val} {Q : VK} {E : XK} (g : Go M c (RV M) (match vs with
    | [v] => f v
    | _ => .bad) Q E) : ∃ v, vs = [v] ∧ Go M c (RV M) (f v) Q E := by
  cases vs with
  | nil => exact g.elim
  | cons v t =>
    cases t with
    | nil => exact ⟨v, rfl, g⟩
    | cons _ _ => exact g.elim
theorem bi_all (hK : X.K = M.K) (hc : X.calm = true) : CallR X (.builtin "all") (rBi M .all) := by
  intro pins s σ H xs us Q I r hr
  obtain ⟨c, h, vs, E, ⟨rfl, R⟩, rv, g⟩ := hr
  obtain ⟨v, rfl, g1⟩ := bi_one (h := h) g
  obtain ⟨x, rfl, rx⟩ := rv.one
  cases q : itemsL h v with
  | none => simp only [q] at g1; exact g1.elim
  | some ws =>
    simp only [q] at g1
    cases qb : bools ws with
    | none => simp only [qb] at g1; exact g1.elim
    | some bs =>
      simp only [qb] at g1
      obtain ⟨a, ys, rfl, hs, rvs⟩ := R.itemsL rx q
      rw [bools_rv rvs qb] at hs
      rw [allB_eq] at g1
      exact cr_all hc pins s σ _ _ us Q I r ⟨a, bs, rfl, by rw [hK]; exact hs, go_val (RR := RV M) R (.bl _) g1⟩
theorem bi_any (hK : X.K = M.K) (hc : X.calm = true) : CallR X (.builtin "any") (rBi M .any) := by
  intro pins s σ H xs us Q I r hr
  obtain ⟨c, h, vs, E, ⟨rfl, R⟩, rv, g⟩ := hr
  obtain ⟨v, rfl, g1⟩ := bi_one (h := h) g
  obtain ⟨x, rfl, rx⟩ := rv.one
  cases q : itemsL h v with
  | none => simp only [q] at g1; exact g1.elim
  | some ws =>
    simp only [q] at g1
    cases qb : bools ws with
    | none => simp only [qb] at g1; exact g1.elim
    | some bs =>
      simp only [qb] at g1
      obtain ⟨a, ys, rfl, hs, rvs⟩ := R.itemsL rx q
      rw [bools_rv rvs qb] at hs
      rw [anyB_eq] at g1
      exact cr_any hc pins s σ _ _ us Q I r ⟨a, bs, rfl, by rw [hK]; exact hs, go_val (RR := RV M) R (.bl _) g1⟩
theorem bi_sum (hK : X.K = M.K) (hc : X.calm = true) : CallR X (.builtin "sum") (rBi M .sum) := by
  intro pins s σ H xs us Q I r hr
  obtain ⟨c, h, vs, E, ⟨rfl, R⟩, rv, g⟩ := hr
  obtain ⟨v, rfl, g1⟩ := bi_one (h := h) g
  obtain ⟨x, rfl, rx⟩ := rv.one
  cases q : itemsL h v with
  | none => simp only [q] at g1; exact g1.elim
  | some ws =>
    simp only [q] at g1
    cases qb : intsOf ws with
    | none => simp only [qb] at g1; exact g1.elim
    | some bs =>
      simp only [qb] at g1
      obtain ⟨a, ys, rfl, hs, rvs⟩ := R.itemsL rx q
      rw [intsOf_rv rvs qb] at hs
      rw [sumI_eq] at g1
      exact cr_sum hc pins s σ _ _ us Q I r ⟨a, bs, rfl, by rw [hK]; exact hs, go_val (RR := RV M) R (.int _) g1⟩
theorem bi_max (hc : X.calm = true) : CallR X (.builtin "max") (rBi M .max) := by
  intro pins s σ H xs us Q I r hr
  obtain ⟨c, h, vs, E, ⟨rfl, R⟩, rv, g⟩ := hr
  cases rv with
  | nil => exact g.elim
  | cons r1 t =>
    cases t with
    | nil => cases r1 <;> exact g.elim
    | cons r2 t =>
      cases t with
      | cons _ _ => cases r1 <;> cases r2 <;> exact g.elim
      | nil =>
        cases r1 with
        | int i =>
          cases r2 with
          | int j => exact call_max2 hc pins s σ _ _ us Q I r ⟨i, j, rfl, go_val (RR := RV M) R (.int _) g⟩
          | _ => exact g.elim
        | _ => cases r2 <;> exact g.elim
theorem bi_min (hc : X.calm = true) : CallR X (.builtin "min") (rBi M .min) := by
  intro pins s σ H xs us Q I r hr
  obtain ⟨c, h, vs, E, ⟨rfl, R⟩, rv, g⟩ := hr
  cases rv with
  | nil => exact g.elim
  | cons r1 t =>
    cases t with
    | nil => cases r1 <;> exact g.elim
    | cons r2 t =>
      cases t with
      | cons _ _ => cases r1 <;> cases r2 <;> exact g.elim
      | nil =>
        cases r1 with
        | int i =>
          cases r2 with
          | int j => exact call_min2 hc pins s σ _ _ us Q I r ⟨i, j, rfl, go_val (RR := RV M) R (.int _) g⟩
          | _ => exact g.elim
        | _ => cases r2 <;> exact g.elim
theorem bi_int : CallR X (.type "int") (rBi M .int) := by
  intro pins s σ H xs us Q I r hr
  obtain ⟨c, h, vs, E, ⟨rfl, R⟩, rv, g⟩ := hr
  cases rv with
  | nil => exact g.elim
  | cons r1 t =>
    cases t with
    | cons _ _ => cases r1 <;> exact g.elim
    | nil =>
      cases r1 with
      | int i => exact call_int1 pins s σ _ _ us Q I r (.inl ⟨i, rfl, go_val (RR := RV M) R (.int _) g⟩)
      | _ => exact g.elim
theorem bi_tuple (hK : X.K = M.K) : CallR X (.type "tuple") (rBi M .tuple) := by
  intro pins s σ H xs us Q I r hr
  obtain ⟨c, h, vs, E, ⟨rfl, R⟩, rv, g⟩ := hr
  cases rv with
  | nil => exact g.elim
  | cons r1 t =>
    cases t with
    | cons _ _ => cases r1 <;> exact g.elim
    | nil =>
      cases r1 with
      | @tup ws a ys ht rt => exact call_tuple_of pins s σ _ _ us Q I r ⟨a, ys, rfl, .inr ⟨SqT.of ht, go_val (RR := RV M) R (.tup ht rt) g⟩⟩
      | @ref l hl =>
        have g1 : Go M c (RV M) (match h.get l with
          | some (.lst xs) => .ok (.tup xs) h
          | some (.frz xs) => .ok (.tup xs) h
          | _ => .bad) Q E := g
        cases q : h.get l with
        | none => rw [q] at g1; exact g1.elim
        | some o =>
          rw [q] at g1
          cases o with
          | lst ws =>
            obtain ⟨ys, h1, r1⟩ := R.lst q
            exact call_tuple_of pins s σ _ _ us Q I r ⟨_, ys, rfl, .inl ⟨SqL.of h1, go_tup R r1 g1⟩⟩
          | frz ws =>
            obtain ⟨ys, h1, r1⟩ := R.frz q
            exact call_tuple_of pins s σ _ _ us Q I r ⟨_, ys, rfl, .inl ⟨by rw [hK]; exact h1.sq, go_tup R r1 g1⟩⟩
          | _ => exact g1.elim
      | _ => exact g.elim
theorem bi_list (hK : X.K = M.K) : CallR X (.type "list") (rBi M .list) := by
  intro pins s σ H xs us Q I r hr
  obtain ⟨c, h, vs, E, ⟨rfl, R⟩, rv, g⟩ := hr
  cases rv with
  | nil => exact g.elim
  | cons r1 t =>
    cases t with
    | cons _ _ => cases r1 <;> exact g.elim
    | nil =>
      cases r1 with
      | @tup ws a ys ht rt => exact call_list_of pins s σ _ _ us Q I r ⟨a, ys, rfl, .inr (SqT.of ht), go_alloc_lst R rt g⟩
      | @ref l hl =>
        have g1 : Go M c (RV M) (match h.get l with
          | some (.lst xs) => alloc (.lst xs) h
          | some (.frz xs) => alloc (.lst xs) h
          | _ => .bad) Q E := g
        cases q : h.get l with
        | none => rw [q] at g1; exact g1.elim
        | some o =>
          rw [q] at g1
          cases o with
          | lst ws =>
            obtain ⟨ys, h1, r1⟩ := R.lst q
            exact call_list_of pins s σ _ _ us Q I r ⟨_, ys, rfl, .inl (SqL.of h1), go_alloc_lst R r1 g1⟩
          | frz ws =>
            obtain ⟨ys, h1, r1⟩ := R.frz q
            exact call_list_of pins s σ _ _ us Q I r ⟨_, ys, rfl, .inl (by rw [hK]; exact h1.sq), go_alloc_lst R r1 g1⟩
          | _ => exact g1.elim
      | _ => exact g.elim
theorem se_bi (G : Gd M X N sc k W) (D : MdOk M md) {b : Bi} {x : Str} {p : Pos} {a : Expr} {as : List Expr} {ms : List E} (hf : freeN md sc x (biName b) = true) (hn : (a :: as).all notStar = true) (ha : PA X (a :: as) (tEvA M W (evs rc ms))) :
    PE X (.Call (.Name x p) (a :: as) [] pos) (tEv M W (stepE cl calls rc (.bi b ms))) := by
  obtain ⟨rfl, hg, hm⟩ := G.free D hf
  rw [List.all_cons, Bool.and_eq_true] at hn
  have go : ∀ σ H Q, tEv M W (stepE cl calls rc (.bi b ms)) σ H Q → tCB (rBi M b) (tEvA M W (evs rc ms)) σ H Q := fun σ H Q ⟨c, s, hh, ⟨e, R, S⟩, g⟩ => by
    subst e
    exact ⟨c, s, hh, ⟨rfl, R, S⟩, Go.bind g fun xs h1 c1 ys e1 R1 rx g1 => ⟨c1, h1, xs, _, ⟨rfl, R1⟩, rx, g1⟩⟩
  cases b with
  | len => exact PE.of (pe_callB (bi_len G.hK) hg hm PySem.boot_len ha (by decide +kernel) (by decide +kernel) (notStar_each hn.1) (stars_plain hn.2)) go
  | all => exact PE.of (pe_callB (bi_all G.hK G.calm) hg hm (by decide +kernel) ha (by decide +kernel) (by decide +kernel) (notStar_each hn.1) (stars_plain hn.2)) go
  | any => exact PE.of (pe_callB (bi_any G.hK G.calm) hg hm (by decide +kernel) ha (by decide +kernel) (by decide +kernel) (notStar_each hn.1) (stars_plain hn.2)) go
  | max => exact PE.of (pe_callB (bi_max G.calm) hg hm (by decide +kernel) ha (by decide +kernel) (by decide +kernel) (notStar_each hn.1) (stars_plain hn.2)) go
  | min => exact PE.of (pe_callB (bi_min G.calm) hg hm (by decide +kernel) ha (by decide +kernel) (by decide +kernel) (notStar_each hn.1) (stars_plain hn.2)) go
  | int => exact PE.of (pe_callTy bi_int hg hm (by decide +kernel) ha (by decide +kernel) (by decide +kernel) (notStar_each hn.1) (stars_plain hn.2)) go
  | tuple => exact PE.of (pe_callTy (bi_tuple G.hK) hg hm (by decide +kernel) ha (by decide +kernel) (by decide +kernel) (notStar_each hn.1) (stars_plain hn.2)) go
  | list => exact PE.of (pe_callTy (bi_list G.hK) hg hm (by decide +kernel) ha (by decide +kernel) (by decide +kernel) (notStar_each hn.1) (stars_plain hn.2)) go
  | sum => exact PE.of (pe_callB (bi_sum G.hK G.calm) hg hm (by decide +kernel) ha (by decide +kernel) (by decide +kernel) (notStar_each hn.1) (stars_plain hn.2)) go
end
end Ev

set_option Elab.async false
set_option linter.all false
set_option maxRecDepth 100000
set_option maxHeartbeats 2000000
/-! Expressions, part 4: isinstance, append, get, dict displays. -/
namespace Ev
open PySem PySem.Spec PyProof.Rows L2
def tyS : Ty → String
  | .int => "int"
  | .str => "str"
  | .tuple => "tuple"
  | .list => "list"
  | .bool => "bool"
  | .dict => "dict"
  | _ => ""
def bT : Ty → Bool
  | .exc _ => false
  | .cls _ => false
  | _ => true
def kitAns (a : String) (t : Ty) : Option Bool := kitB a (tyS t)
theorem kit_non : ∀ t, bT t = true → kitB "NoneType" (tyS t) = some false := by
  intro t h
  cases t <;> first | (cases h; done) | decide +kernel
theorem kit_bl : ∀ t, bT t = true → kitB "bool" (tyS t) = some (match t with | .bool => true | .int => true | _ => false) := by
  intro t h
  cases t <;> first | (cases h; done) | decide +kernel
theorem kit_int : ∀ t, bT t = true → kitB "int" (tyS t) = some (match t with | .int => true | _ => false) := by
  intro t h
  cases t <;> first | (cases h; done) | decide +kernel
theorem kit_str : ∀ t, bT t = true → kitB "str" (tyS t) = some (match t with | .str => true | _ => false) := by
  intro t h
  cases t <;> first | (cases h; done) | decide +kernel
theorem kit_tup : ∀ t, bT t = true → kitB "tuple" (tyS t) = some (match t with | .tuple => true | _ => false) := by
  intro t h
  cases t <;> first | (cases h; done) | decide +kernel
theorem kit_lst : ∀ t, bT t = true → kitB "list" (tyS t) = some (match t with | .list => true | _ => false) := by
  intro t h
  cases t <;> first | (cases h; done) | decide +kernel
theorem kit_dct : ∀ t, bT t = true → kitB "dict" (tyS t) = some (match t with | .dict => true | _ => false) := by
  intro t h
  cases t <;> first | (cases h; done) | decide +kernel
section
variable {M : Mo} {X : Cx} {N : List Str} {sc : Scope} {k : Nat} {W : WX} {md : Md} {cl : Cl} {calls : Nat → List Val → LHeap → Res Val} {rc : Rec} {pos : Pos}
theorem isInst_ok {sub : Nat → Nat → Bool} {c : Cf} {h : LHeap} {v : Val} {x : V} {t : Ty} {b : Bool} {K : PySem.W.Frag} (hb : bT t = true) (R : RH M c h) (r : RV M c v x) (e : isInst sub h v t = some b) : ∃ T, TyX K c.H x (.type T) ∧ kitB T (tyS t) = some b := by
  cases r with
  | non => cases e; exact ⟨_, .base .non, kit_non t hb⟩
  | bl y =>
    refine ⟨_, .base (.bl y), (kit_bl t hb).trans ?_⟩
    cases t <;> first | exact e | (cases hb; done)
  | int y =>
    refine ⟨_, .base (.int y), (kit_int t hb).trans ?_⟩
    cases t <;> first | exact e | (cases hb; done)
  | str y =>
    refine ⟨_, .base (.str y), (kit_str t hb).trans ?_⟩
    cases t <;> first | exact e | (cases hb; done)
  | tup ht r =>
    refine ⟨_, .base (.tup ht), (kit_tup t hb).trans ?_⟩
    cases t <;> first | exact e | (cases hb; done)
  | @ref l hl =>
    unfold isInst at e
    cases q : h.get l with
    | none => simp only [q] at e; cases e
    | some o =>
      cases o with
      | lst ws =>
        obtain ⟨ys, h1, r1⟩ := R.lst q
        simp only [q] at e
        refine ⟨_, .base (.lst h1), (kit_lst t hb).trans ?_⟩
        cases t <;> first | exact e | (cases hb; done)
      | dK ws =>
        obtain ⟨ys, h1, r1⟩ := R.dK q
        simp only [q] at e
        refine ⟨_, .base (.dK h1), (kit_dct t hb).trans ?_⟩
        cases t <;> first | exact e | (cases hb; done)
      | dT ws =>
        obtain ⟨ys, h1, r1⟩ := R.dT q
        simp only [q] at e
        refine ⟨_, .base (.dT h1), (kit_dct t hb).trans ?_⟩
        cases t <;> first | exact e | (cases hb; done)
      | _ => simp only [q] at e; cases e
  | fn i => cases e
theorem ty_boot {t : Ty} {z : Str} (h : tyName t = some z) : bT t = true ∧ bootBuiltins z = some (.type (tyS t)) ∧ z ≠ "__name__" ∧ (z == ("__debug__" : Str)) = false := by
  cases t <;> first | (cases h; done) | (cases h; exact ⟨rfl, by decide +kernel, by decide +kernel, by decide +kernel⟩)
theorem se_isi (G : Gd M X N sc k W) (D : MdOk M md) {x y z : Str} {p p2 : Pos} {a : Expr} {ma : E} {t : Ty} (hf : freeN md sc x "isinstance" = true) (hn : notStar a = true) (ha : PE X a (tEv M W (rc.e ma))) (ht : tyName t = some z) (hy : freeN md sc y z = true) :
    PE X (.Call (.Name x p) [a, .Name y p2] [] pos) (tEv M W (stepE cl calls rc (.isi ma t))) := by
  obtain ⟨rfl, hg, hm⟩ := G.free D hf
  obtain ⟨rfl, hg2, hm2⟩ := G.free D hy
  obtain ⟨hb, bt, n1, n2⟩ := ty_boot ht
  refine PE.of (pe_callB call_isi hg hm (by decide +kernel) (pa_cons ha (pa_cons (pe_bltn (v := .ty (tyS t)) hg2 hm2 bt rfl n1 n2) pa_nil (notStar_each rfl)) (notStar_each hn)) (by decide +kernel) (by decide +kernel) (notStar_each hn) (stars_plain (es := [.Name y p2]) rfl)) fun σ H Q ⟨c, s, hh, ⟨e, R, S⟩, g⟩ => ?_
  subst e
  refine ⟨c, s, hh, ⟨rfl, R, S⟩, Go.bind g fun v h1 c1 w e1 R1 rx g1 => ?_⟩
  cases q : isInst cl.sub h1 v t with
  | none => rw [q] at g1; exact g1.elim
  | some b =>
    rw [q] at g1
    obtain ⟨T, ty, kt⟩ := isInst_ok (K := X.K) hb R1 rx q
    exact ⟨w, .ty (tyS t), .type T, .type (tyS t), b, rfl, .ty _, ty, kit_ty kt, go_val (RR := RV M) R1 (.bl b) g1⟩
/-! ### methods -/
theorem notCall0_base {o : Expr} {m : Str} {env : Env} {wh : Sem Value} (h : notCall0 o = true) : attributeBase o m env wh = wh := by
  unfold attributeBase
  cases o with
  | Call f as ks p =>
    cases f with
    | Name x q =>
      cases as with
      | nil =>
        cases ks with
        | nil => cases h
        | cons _ _ => rfl
      | cons _ _ => rfl
    | _ => rfl
  | _ => rfl
theorem few1 {e : Expr} {env : Env} {cpos : Pos} (h : notStar e = true) : ((backTo cpos (starEach [e] env)).all (fun x => !x.1) && (backToKw cpos (keywordEach [] env)).all (fun x => x.1.isSome)
    && decide (([e] : List Expr).length + ([] : List Keyword).length + (if ([] : List Keyword).isEmpty then 0 else 1) < 30)) = true := by
  rw [notStar_each h]
  rfl
theorem se_app (G : Gd M X N sc k W) {o e : Expr} {ap : Pos} {ml me : E} (hn : notStar e = true) (h0 : notCall0 o = true) (hl : (ap.endLine == pos.line) = true) (ho : PE X o (tEv M W (rc.e ml))) (he : PE X e (tEv M W (rc.e me))) :
    PE X (.Call (.Attribute o "append" ap) [e] [] pos) (tEv M W (stepE cl calls rc (.app ml me))) := by
  refine PE.of (pe_bm PySem.F.plainAttrs_list PySem.F.slot_list_append PySem.F.type_list_append mt_append ho (pa_cons he pa_nil (notStar_each hn)) (notCall0_base h0) (few1 hn) hl (notStar_each hn) (stars_plain (es := []) rfl)) fun σ H Q ⟨c, s, hh, ⟨ee, R, S⟩, g⟩ => ?_
  subst ee
  refine ⟨c, s, hh, ⟨rfl, R, S⟩, Go.bind g fun v h1 c1 w e1 R1 rx g1 => ?_⟩
  cases rx with
  | @ref l hl =>
    have g2 : Go M c1 (RV M) (match h1.get l with
      | some (.lst _) => (rc.e me s h1).bind fun y h2 => (match h2.get l with
        | some (.lst xs) => (match Nat.blt xs.length line with
          | true => store l (.lst (xs ++ [y])) h2 .non
          | false => .bad)
        | _ => .bad)
      | _ => .bad) Q _ := g1
    cases q : h1.get l with
    | none => rw [q] at g2; exact g2.elim
    | some ob =>
      rw [q] at g2
      cases ob with
      | lst ws =>
        obtain ⟨ys, hy, _⟩ := R1.lst q
        refine ⟨.inl ⟨rfl, ys, SqL.of hy⟩, c1, s, h1, ⟨rfl, R1, S.ext e1⟩, Go.bind g2 fun u h2 c2 z e2 R2 ru g3 => ?_⟩
        cases q2 : h2.get l with
        | none => simp only [q2] at g3; exact g3.elim
        | some ob2 =>
          cases ob2 with
          | lst xs =>
            simp only [q2] at g3
            cases q3 : Nat.blt xs.length line with
            | false => rw [q3] at g3; exact g3.elim
            | true =>
              rw [q3] at g3
              obtain ⟨zs, hz, rz⟩ := R2.lst q2
              have hb := blt_true q3
              rw [rz.length, line_eq] at hb
              rw [← e2.x.r l hl]
              exact ⟨c2.r l, zs, z, rfl, rfl, hz, hb, go_store_lst (RR := RV M) R2 q2 rfl (by rw [hz]; exact True.intro) (rz.append (.cons ru .nil)) (fun _ _ => .non) g3⟩
          | _ => simp only [q2] at g3; exact g3.elim
      | _ => exact g2.elim
  | _ => exact g1.elim
theorem isD_ok {c : Cf} {h : LHeap} {v : Val} {x : V} (R : RH M c h) (r : RV M c v x) (e : isDict h v = true) : ∃ a, x = .ref a ∧ IsD c.H a := by
  cases r with
  | @ref l hl =>
    have e' : (match h.get l with
      | some (.dK _) => true
      | some (.dT _) => true
      | _ => false) = true := e
    cases q : h.get l with
    | none => rw [q] at e'; cases e'
    | some o =>
      rw [q] at e'
      cases o with
      | dK ws => obtain ⟨ys, h1, _⟩ := R.dK q; exact ⟨_, rfl, .inl ⟨ys, Rd.of h1⟩⟩
      | dT ws => obtain ⟨ys, h1, _⟩ := R.dT q; exact ⟨_, rfl, .inr ⟨ys, Rd.of h1⟩⟩
      | _ => cases e'
  | _ => cases e
theorem se_get1 (G : Gd M X N sc k W) {o e : Expr} {ap : Pos} {ml me : E} (hn : notStar e = true) (h0 : notCall0 o = true) (hl : (ap.endLine == pos.line) = true) (ho : PE X o (tEv M W (rc.e ml))) (he : PE X e (tEv M W (rc.e me))) :
    PE X (.Call (.Attribute o "get" ap) [e] [] pos) (tEv M W (stepE cl calls rc (.get1 ml me))) := by
  refine PE.of (pe_dget1 (by have := G.un; omega) ho he ⟨notCall0_base h0, few1 hn, hl, by rw [notStar_each hn]; rfl⟩) fun σ H Q ⟨c, s, hh, ⟨ee, R, S⟩, g⟩ => ?_
  subst ee
  refine ⟨c, s, hh, ⟨rfl, R, S⟩, Go.bind g fun v h1 c1 w e1 R1 rx g1 => ?_⟩
  cases q : isDict h1 v with
  | false => simp only [q] at g1; exact g1.elim
  | true =>
    simp only [q] at g1
    obtain ⟨a, ea, hd⟩ := isD_ok R1 rx q
    refine ⟨a, ea, hd, c1, s, h1, ⟨rfl, R1, S.ext e1⟩, Go.bind g1 fun u h2 c2 z e2 R2 ru g2 => ?_⟩
    cases q2 : dget h2 v u with
    | none => simp only [q2] at g2; exact g2.elim
    | some ov =>
      obtain ⟨a', o', ea', hg, ro⟩ := dget_rv R2 (rx.ext e2) ru q2
      have : a' = a := by rw [ea] at ea'; cases ea'; rfl
      subst this
      refine ⟨o', hg, ?_⟩
      cases ov with
      | none =>
        simp only [q2] at g2
        cases o' with
        | none => exact go_val (RR := RV M) R2 .non g2
        | some _ => exact ro.elim
      | some vv =>
        simp only [q2] at g2
        cases o' with
        | none => exact ro.elim
        | some _ => exact go_val (RR := RV M) R2 ro g2
/-! ### dict displays -/
theorem se_dnewK : PE X (.Dict [] [] pos) (tEv M W (stepE cl calls rc .dnewK)) := PE.of pe_dnewK fun σ H Q ⟨c, s, hh, ⟨ee, R, S⟩, g⟩ => by
  subst ee
  exact go_alloc_dK R .nil g
theorem se_dnewT : PE X (.Dict [] [] pos) (tEv M W (stepE cl calls rc .dnewT)) := PE.of pe_dnewT fun σ H Q ⟨c, s, hh, ⟨ee, R, S⟩, g⟩ => by
  subst ee
  exact go_alloc_dT R .nil g
/-- the entries of a display, each key a written text -/
inductive KVsOk (M : Mo) (X : Cx) (W : WX) (rc : Rec) (pos : Pos) : List (Option Expr) → List Expr → List (Str × E) → Prop where
  | nil : KVsOk M X W rc pos [] [] []
  | cons {x : Str} {j : Nat} {p : Pos} {v : Expr} {m : E} {ks : List (Option Expr)} {vs : List Expr} {ps : List (Str × E)} (hv : PE X v (tEv M W (rc.e m))) (t : KVsOk M X W rc pos ks vs ps) : KVsOk M X W rc pos (some (.Constant (.str x) j p) :: ks) (v :: vs) ((x, m) :: ps)
  | glb {x y : Str} {p : Pos} {v : Expr} {m : E} {ks : List (Option Expr)} {vs : List Expr} {ps : List (Str × E)} (hk : PE X (.Name x p) (tC (.str y))) (hv : PE X v (tEv M W (rc.e m))) (t : KVsOk M X W rc pos ks vs ps) : KVsOk M X W rc pos (some (.Name x p) :: ks) (v :: vs) ((y, m) :: ps)
theorem KVsOk.run {ks : List (Option Expr)} {vs : List Expr} {ps : List (Str × E)} (h : KVsOk M X W rc pos ks vs ps) : PPs X pos ks vs (ps.map fun p => (tC (.str p.1), tEv M W (rc.e p.2))) ∧ ks.all (·.isSome) = true ∧ ks.length = vs.length ∧ ks.length = ps.length := by
  induction h with
  | nil => exact ⟨pps_nil, rfl, rfl, rfl⟩
  | cons hv t ih => exact ⟨pps_cons pe_str hv ih.1, by rw [List.all_cons, ih.2.1]; rfl, by simp [ih.2.2.1], by simp [ih.2.2.2]⟩
  | glb hk hv t ih => exact ⟨pps_cons hk hv ih.1, by rw [List.all_cons, ih.2.1]; rfl, by simp [ih.2.2.1], by simp [ih.2.2.2]⟩
theorem pairs_go {σ : St} {s : LSt} {Q : List (V × V) → Hp → Prop} : ∀ {ps : List (Str × E)} {c : Cf} {h : LHeap} {E : XK} {Q0 : List (Key × V) → Hp → Prop}, RH M c h → RSl M c s σ →
    Go M c (RK Key M) (evKVs rc ps s h) Q0 (fun cls d H' => W cls d σ H') → (∀ kvs H, Q0 kvs H → Q (kvs.map fun kv => (kV kv.1, kv.2)) H) →
    tPairs (ps.map fun p => (tC (.str p.1), tEv M W (rc.e p.2))) σ c.H Q
  | [], c, h, E, Q0, R, S, g, hq => hq [] _ (go_val (RR := RK Key M) R .nil g)
  | (x, m) :: ps, c, h, E, Q0, R, S, g, hq => by
    refine ⟨c, s, h, ⟨rfl, R, S⟩, Go.bind g fun v h1 c1 w e1 R1 rx g1 => ?_⟩
    refine pairs_go (E := E) (Q0 := fun kvs H => Q0 ((.inr x, w) :: kvs) H) R1 (S.ext e1) (Go.bind g1 fun us h2 c2 ys e2 R2 ru g2 => go_val (RR := RK Key M) R2 (.cons (rx.ext e2) ru) g2) fun kvs H q => ?_
    exact hq ((.inr x, w) :: kvs) H q
theorem se_dsp {ks : List (Option Expr)} {vs : List Expr} {kvs : List (Str × E)} (h : KVsOk M X W rc pos ks vs kvs) (h1 : 1 ≤ ks.length) (h15 : ks.length ≤ 15) : PE X (.Dict ks vs pos) (tEv M W (stepE cl calls rc (.dsp kvs))) := by
  obtain ⟨pp, ha, hl, hl2⟩ := h.run
  refine PE.of (pe_disp pp ha hl (fun e => by rw [e] at h1; simp at h1) h15) fun σ H Q ⟨c, s, hh, ⟨ee, R, S⟩, g⟩ => ?_
  subst ee
  intro p hp
  obtain ⟨R', ex⟩ := R.side (u := .dK []) hp
  have nn : ∀ l, l < (c.upd p (.dK [])).n → (c.upd p (.dK [])).nm l = true → (c.upd p (.dK [])).r l ≠ p := R.new hp
  refine pairs_go (E := fun _ _ _ => False) (Q0 := fun kv H => H p = some (.dK []) ∧ kv.length ≤ 15 ∧ Q (.ref p) (L2.upd H p (.dK (mergeK [] kv)))) R' (S.ext ex) ?_ fun kv H q => ⟨q.1, kv, rfl, q.2.1, q.2.2⟩
  have g0 : Go M c (RV M) ((evKVs rc kvs s hh).bind fun ps h1 => match Nat.ble ps.length 15 with
      | true => alloc (.dK (mergeL [] ps)) h1
      | false => .bad) Q (fun cls d H' => W cls d σ H') := g
  revert g0
  cases evKVs rc kvs s hh with
  | bad => exact id
  | exc kk fs h2 => exact fun g0 c' cls d e R2 rx => g0 c' cls d (ex.trans e) R2 rx
  | ok ps h2 =>
    intro g0 c2 ys e2 R2 rp
    have g2 : Go M c (RV M) (match Nat.ble ps.length 15 with
      | true => alloc (.dK (mergeL [] ps)) h2
      | false => .bad) Q (fun cls d H' => W cls d σ H') := g0
    have hp2 : c2.H p = some (.dK []) := e2.f p _ upd_same nn
    cases q : Nat.ble ps.length 15 with
    | false => rw [q] at g2; exact g2.elim
    | true =>
      rw [q] at g2
      have hb := ble_true q
      rw [rp.length] at hb
      refine ⟨hp2, hb, go_adopt_dK R2 (ex.trans e2) hp (by rw [hp2]; exact True.intro) ?_ (mergeL_rv rp .nil) g2⟩
      intro l hl hm e
      by_cases ql : l < c.n
      · rw [e2.x.r l ql] at e
        rw [e2.m l ql] at hm
        exact nn l ql hm e
      · have := e2.fr l (Nat.le_of_not_lt ql) hl
        rw [e] at this
        rw [show (c.upd p (.dK [])).H p = some (.dK []) from upd_same] at this
        cases this
end
end Ev

set_option Elab.async false
set_option linter.all false
set_option maxRecDepth 100000
set_option maxHeartbeats 2000000
/-! enumerate over a tuple. -/
namespace Ev
open PySem PySem.Spec PyProof.Rows L2
/-- enumerate(t), t a tracked tuple: the items in new pairs -/
def ItE (a : Addr) : L2.It :=
  ⟨fun i H => ∃ (xs : List V) (x : V), H a = some (.tup xs) ∧ xs[i]? = some x, fun i H v H' => ∃ T x xs, v = .ref T ∧ H T = none ∧ H' = upd H T (.tup [.int (i : Nat), x]) ∧ H a = some (.tup xs) ∧ xs[i]? = some x, fun i H => ∃ xs : List V, H a = some (.tup xs) ∧ xs.length ≤ i⟩
theorem tup_at {X : Cx} {pins : List (Addr × Obj)} {σ : St} {H : Hp} {s : Shared} {a : Addr} {xs : List V} (I : Inv X pins σ H s) (h : H a = some (.tup xs)) : ∃ its : List Value, Vals xs its ∧ s.heap.IsTuple a its.toArray := by
  obtain ⟨its, rv, p, _⟩ := I.tuple (SqT.of h)
  exact ⟨its, rv, p⟩
theorem enumT_end {prog : Program} {w : World} {A : Around} {E : Value → Shared → Prop} {s : Shared} {e it a : Addr} {i : Nat} {k : Int} {vs : Array Value} {old : Value} {Q : Option Value → Shared → Prop} (hh : A.handled = none)
    (he : IsEnum s.heap e it k old) (hit : s.heap.IsTupleIter it a i) (ht : s.heap.IsTuple a vs) (hx : vs[i]? = none) (hQ : ∀ h2, Heap.ExtBut it s.heap h2 → Q none { s with heap := h2 }) : wpAny (model prog w) A (pyNext (.ref e)) Q E s := by
  have ty : s.TypeIs (.ref e) "enumerate" := ⟨_, he, rfl⟩
  unfold pyNext
  refine wpAny_bind (wpAny_attempt ?_)
  refine wpAny_callSpecial?_slot (name := Str.ofString "__next__") ty F.slot_enumerate_next ?_
  refine wpAny_call_entry F.slot_enumerate_next ty F.entry_enumerate_next ?_ (F.args_enumerate_next_1 _)
  show wpAny _ _ (field (.ref e) 2 >>= _) _ _ _
  refine wpAny_bind (wpAny_field he rfl (x := .ref it) rfl (wpAny_bind ?_))
  refine wpAny_nextOf_tuple_end hh hit ht hx fun h2 x2 k2 c2 => ?_
  obtain ⟨ox, hox, hcx⟩ := c2
  exact wpAny_bind (wpAny_isInstance (T := "StopIteration") (b := true) ⟨ox, hox, hcx⟩ isSubtype_stop (wpAny_pure (hQ h2 k2)))
theorem turn_enumT {P : Program} {w : World} {K : PySem.W.Frag} {elts : List Expr} {kk : Nat} {tpos : Pos} (a e it : Addr) :
    Turn P w K (.Tuple elts kk tpos) (ItE a) [e, it] e (fun i h => (∃ old, IsEnum h e it ((0 : Int) + ((i : Nat) : Int)) old) ∧ h.IsTupleIter it a i ∧ e ≠ it) where
  mem := by simp
  obj := fun i h st b hb => by
    obtain ⟨⟨old, he⟩, ⟨o, ho, hc, hd⟩, _⟩ := st
    rcases List.mem_cons.mp hb with z | z
    · subst z; exact ⟨_, he, fun v q => nomatch q⟩
    · have z' : b = it := by simpa using z
      subst z'; exact ⟨o, ho, fun v q => by rw [hd] at q; cases q⟩
  keep := fun i h h' st k => let ⟨⟨old, he⟩, hi, hne⟩ := st; ⟨⟨old, k e (by simp) _ he⟩, hi.at fun o q => k it (by simp) o q, hne⟩
  item := by
    intro X hP hw hK hc i pins s σ H E I hf st hg
    subst hP hw hK
    obtain ⟨he, hit, hne⟩ := st
    obtain ⟨xs, x, ht, hx⟩ := hg
    obtain ⟨its, rv, p⟩ := tup_at I ht
    have fe := hf e (by simp)
    have fi := hf it (by simp)
    have ai : a ≠ it := fun z => by rw [z, fi.1] at ht; cases ht
    have ae : a ≠ e := fun z => by rw [z, fe.1] at ht; cases ht
    have hh : X.A.in1.handled = none := I.ok.hd hc
    have Wk := WalksT.enumFrom (A := X.A) (0 : Int) (Draws.tuple (prog := X.prog) (w := X.w) hh it a ai its.toArray) e hne (by simp [hne, Ne.symm ae]) (by simp)
    obtain ⟨u, hu, ru⟩ := rv.get hx
    have hil : i < its.length := (List.getElem?_eq_some_iff.mp hu).1
    refine Wk.item i s _ E (by simpa using hil) ⟨he, hit, p⟩ fun T vals h1 tk pt hT htup mid hk => ⟨.ref T, rfl, ?_⟩
    refine Wk.go elts kk tpos i T { s with heap := h1, toks := tk } _ E mid fun h2 st2 hk2 => ?_
    obtain ⟨t, y, hy, rfl⟩ := pt
    have ey : y = u := by
      have e1 : its[i]? = some y := by simpa using hy
      rw [hu] at e1
      exact (Option.some.inj e1).symm
    subst ey
    have hTn : T ∉ [e, it] := Wk.apart i T h1 mid
    have new : ObjOk X.prog X.w (upd H T (.tup [.int (i : Nat), x])) h2 T (.tup [.int (i : Nat), x]) := by
      refine ⟨by show 2 ≤ sizeLine; decide, [.int ((0 : Int) + (i : Int)) t, y], .cons ⟨t, by simp⟩ (.cons ru .nil), ?_⟩
      obtain ⟨o, ho, hcl, n, hd⟩ := htup
      exact ⟨o, hk2 T o hTn ho, hcl, n, hd⟩
    have I1 : Inv X pins σ (upd H T (.tup [.int (i : Nat), x])) { s with heap := h2, toks := tk } :=
      I.turnedNew (ch := [e, it]) (fun b ob hb q => hk2 b ob hb (hk b ob hb q)) hf hT new
    refine ⟨.ref T, _, I1, rfl, ⟨T, x, xs, rfl, I.hok.fresh hT, rfl, ht, hx⟩, ⟨?_, st2.2.1, hne⟩, fun b hb => ?_⟩
    · obtain ⟨old, q⟩ := st2.1
      exact ⟨old, by simpa using q⟩
    · rw [upd_ne (fun z => hTn (by rw [← z]; exact hb))]
      exact (hf b hb).1
  done := by
    intro X hP hw hK hc i pins s σ H E I hf st hg
    subst hP hw hK
    obtain ⟨he, hit, hne⟩ := st
    obtain ⟨xs, ht, hx⟩ := hg
    obtain ⟨its, rv, p⟩ := tup_at I ht
    have hlen := rv.length
    have hT : s.TypeIs (.ref e) "enumerate" := by obtain ⟨old, q⟩ := he; exact ⟨_, q, rfl⟩
    have fi := hf it (by simp)
    have ai : a ≠ it := fun z => by rw [z, fi.1] at ht; cases ht
    obtain ⟨old, he⟩ := he
    refine enumT_end (I.ok.hd hc) he hit p (by simp; omega) fun h2 eb => ⟨rfl, I.turned (t' := s.toks) (fun b o hb q => eb b o hb q) fi.1 fi.2.1 fi.2.2.2.1 fi.2.2.2.2.1 fi.2.2.2.2.2⟩
  self := fun A i s Q E st h => let ⟨⟨_, he⟩, _⟩ := st; wpAny_pyIter_enum he h
/-! ### making it -/
theorem meets_enum1 {v : Value} {o : Obj} {G : Heap → Prop} (B : Begins v o G) :
    Meets (Builtin.«enumerate.__new__» ⟨[.type "enumerate", v], []⟩) (fun _ R s => G s.heap ∧
      R (.ok (.ret (.ref (s.heap.push o).objs.size))) { s with heap := (s.heap.push o).push { cls := .type "enumerate", data := .fields #[.none, .bool false, .ref s.heap.objs.size, rawInt 0, .none, .none] } }) :=
  .of_wp fun prog w A R s hs => by
    obtain ⟨hp, gs, dr, tk, os⟩ := s
    obtain ⟨b1, b2⟩ := hs
    have subE := sub_enumerate
    have itB : ∀ {A' : Around} {E : Value → Shared → Prop} {Q : Value → Shared → Prop}, Q (.ref hp.objs.size) ⟨hp.push o, gs, dr, tk, os⟩ → wpAny (model prog w) A' (pyIter v) Q E ⟨hp, gs, dr, tk, os⟩ :=
      fun q => B.iter prog w _ _ ⟨hp, gs, dr, tk, os⟩ _ b1 q
    wp_walk using itB
    refine wpAny_stack_any fun stk => wpAny_pure ?_
    split
    · rename_i cc _ _ _ _ _
      cases (cc == Value.type "enumerate") <;> (wp_walk using itB; exact ⟨_, rfl, b2⟩)
    · (wp_walk using itB; exact ⟨_, rfl, b2⟩)
theorem call_enum1 {prog : Program} {w : World} {A : Around} {E : Value → Shared → Prop} {s : Shared} {a : Addr} {vs : Array Value} {Q : Value → Shared → Prop} (ht : s.heap.IsTuple a vs)
    (hq : ∀ h2, IsEnum h2 (s.heap.objs.size + 1) s.heap.objs.size 0 .none → h2.IsTupleIter s.heap.objs.size a 0 → (∀ b o, s.heap.get? b = some o → h2.get? b = some o) → Q (.ref (s.heap.objs.size + 1)) { s with heap := h2 }) :
    wpAny (model prog w) A (call (.type "enumerate") [.ref a]) Q E s := by
  have B := begins_tuple a vs
  refine callType_new F.called_enumerate (by decide) (F.typeCall_enumerate_1 _) (F.newCall_enumerate_1 _) (fun ob => F.args_object_init_2 ob _) F.entry_enumerate_new (meets_enum1 B) ⟨ht, ?_⟩
  have z : (s.heap.push { cls := .type "tuple_iterator", data := .fields #[.ref a, .int 0 0] }).objs.size = s.heap.objs.size + 1 := Heap.size_push ..
  show _ ∧ _
  rw [z]
  have hE : IsEnum ((s.heap.push { cls := .type "tuple_iterator", data := .fields #[.ref a, .int 0 0] }).push { cls := .type "enumerate", data := .fields #[.none, .bool false, .ref s.heap.objs.size, rawInt 0, .none, .none] }) (s.heap.objs.size + 1) s.heap.objs.size 0 .none := by
    have q := Heap.get?_push_size (s.heap.push { cls := .type "tuple_iterator", data := .fields #[.ref a, .int 0 0] }) (o := { cls := .type "enumerate", data := .fields #[.none, .bool false, .ref s.heap.objs.size, rawInt 0, .none, .none] }) rfl
    rw [z] at q
    exact q
  refine ⟨⟨_, hE, rfl⟩, hq _ hE ⟨_, Heap.get?_push_of_some _ (Heap.get?_push_size _ rfl), rfl, rfl⟩ fun b o x => Heap.get?_push_of_some _ (Heap.get?_push_of_some _ x)⟩
/-- enumerate(e) of a tracked tuple -/
def iEnumT (ta : TA) : TI := fun σ H R => ta σ H fun vs H1 => ∃ a xs, vs = [.ref a] ∧ H1 a = some (.tup xs) ∧ R (ItE a) H1
theorem pi_enumT {X : Cx} {e : Expr} {ta : TA} {p pos tpos : Pos} {elts : List Expr} {kk : Nat} (hg : Gl X "enumerate") (hm : X.mg "enumerate" = none) (ha : PA X [e] ta) (hs : starEach [e] X.env = [(false, eval e X.env)]) :
    PI X (.Tuple elts kk tpos) (.Call (.Name "enumerate" p) [e] [] pos) (iEnumT ta) := by
  refine ⟨fun pins s σ H R I h => Call_ (ld_blt I hg hm boot_enumerate (PyProof.Rows.callWith_type1 (thn (ha.run pos pins s σ H _ I h) fun us s1 ⟨vs, H1, I1, r1, q1⟩ => ?_) hs rfl))⟩
  obtain ⟨a, xs, ex, ht, q⟩ := q1
  subst ex
  obtain ⟨u, rfl, ru⟩ := vals1 r1
  obtain rfl : u = Value.ref a := ru
  obtain ⟨its, rv, p'⟩ := tup_at I1 ht
  refine call_enum1 p' fun h2 he hit hk => wpAny_pyIter_enum he ?_
  refine ⟨s1.heap.objs.size + 1, [s1.heap.objs.size + 1, s1.heap.objs.size], _, _, H1, rfl, I1.kept (t' := s1.toks) hk, turn_enumT a (s1.heap.objs.size + 1) s1.heap.objs.size, ⟨⟨.none, by simpa using he⟩, hit, Nat.succ_ne_self _⟩, fun b hb => ?_, q⟩
  have hle : s1.heap.objs.size ≤ b := by
    rcases List.mem_cons.mp hb with z | z
    · rw [z]; exact Nat.le_succ _
    · have z' : b = s1.heap.objs.size := by simpa using z
      rw [z']; exact Nat.le_refl _
  exact I1.fpOk hle (I1.hok.fresh hle)
end Ev

set_option Elab.async false
set_option linter.all false
set_option maxRecDepth 100000
set_option maxHeartbeats 2000000
/-! What is walked, and targets. -/
namespace Ev
open PySem PySem.Spec PyProof.Rows L2
/-- the iterator J yields what src tells, from the state c0 on -/
def ItOk (M : Mo) (c0 : Cf) (src : Src) (J : L2.It) : Prop := ∀ c h i, Ext M c0 c → RH M c h →
  (∀ x, itemAt src i h = some (some x) → J.go i c.H ∧ ∀ y H', J.yld i c.H y H' → ∃ c', c'.H = H' ∧ Ext M c c' ∧ RH M c' h ∧ RV M c' x y ∧ ∀ a o, c.H a = some o → H' a = some o) ∧ (itemAt src i h = some none → J.stop i c.H)
def tEvI (M : Mo) (W : WX) (m : LSt → LHeap → Res Src) : TI := fun σ H R => ∃ c s h, At M c s h σ H ∧ Go M c (fun c' src J => ItOk M c' src J) (m s h) R (fun cls d H' => W cls d σ H')
section
variable {M : Mo} {X : Cx} {N : List Str} {sc : Scope} {k : Nat} {W : WX} {md : Md} {cl : Cl} {calls : Nat → List Val → LHeap → Res Val} {rc : Rec} {pos : Pos} {tg : Expr}
theorem PI.of {e : Expr} {t t' : TI} (h : PI X tg e t) (hi : ∀ σ H Q, t' σ H Q → t σ H Q) : PI X tg e t' := ⟨fun pins s σ H Q I q => h.run pins s σ H Q I (hi σ H Q q)⟩
/-- a rule for each outcome of the evaluator -/
theorem PI.cases {e : Expr} {t' : TI} (h : ∀ σ H Q, t' σ H Q → ∃ t, PI X tg e t ∧ t σ H Q) : PI X tg e t' := ⟨fun pins s σ H Q I q => by
  obtain ⟨t, ht, q'⟩ := h σ H Q q
  exact ht.run pins s σ H Q I q'⟩
/-! ### the sources -/
theorem itOk_tup {c0 : Cf} {a : Addr} {xs : List Val} {ys : List V} (hK : X.K = M.K) (ht : c0.H a = some (.tup ys)) (r : RVs M c0 xs ys) : ItOk M c0 (.st xs) (Itt X.K a) := by
  intro c h i e R
  have ht' := e.x.t a ys ht
  have r' := r.ext e
  refine ⟨fun x hx => ?_, fun hx => ?_⟩
  · have hx' : Ev.nth xs i = some x := Option.some.inj hx
    obtain ⟨y, ey, ry⟩ := r'.nth hx'
    refine ⟨⟨ys, y, SqT.of ht', ey⟩, fun z H' q => ?_⟩
    obtain ⟨rfl, q⟩ := q
    have := q ys (SqT.of ht')
    rw [ey] at this
    cases this
    exact ⟨c, rfl, Ext.refl c, R, ry, fun _ _ q => q⟩
  · have hx' : Ev.nth xs i = none := Option.some.inj hx
    exact ⟨ys, SqT.of ht', r'.nth_none hx'⟩
theorem itOk_enumT {c0 : Cf} {a : Addr} {xs : List Val} {ys : List V} (ht : c0.H a = some (.tup ys)) (r : RVs M c0 xs ys) : ItOk M c0 (.st (enumL 0 xs)) (ItE a) := by
  have en : ∀ (xs : List Val) (k : Int) (i : Nat), Ev.nth (enumL k xs) i = (Ev.nth xs i).map fun x => .tup [.int (k + i), x] := by
    intro xs
    induction xs with
    | nil => intro k i; cases i <;> rfl
    | cons x xs ih =>
      intro k i
      cases i with
      | zero => show some (Val.tup [.int k, x]) = some (Val.tup [.int (k + ((0 : Nat) : Int)), x]); simp
      | succ i =>
        show Ev.nth (enumL (k + 1) xs) i = (Ev.nth xs i).map fun x => .tup [.int (k + ((i + 1 : Nat) : Int)), x]
        rw [ih, show k + 1 + (i : Int) = k + ((i + 1 : Nat) : Int) by omega]
  intro c h i e R
  have ht' := e.x.t a ys ht
  have r' := r.ext e
  refine ⟨fun x hx => ?_, fun hx => ?_⟩
  · have hx' : Ev.nth (enumL 0 xs) i = some x := Option.some.inj hx
    rw [en] at hx'
    cases q : Ev.nth xs i with
    | none => rw [q] at hx'; cases hx'
    | some v =>
      rw [q] at hx'
      cases hx'
      obtain ⟨y, ey, ry⟩ := r'.nth q
      refine ⟨⟨ys, y, ht', ey⟩, fun z H' q => ?_⟩
      obtain ⟨T, y', zs, rfl, hT, rfl, hz, hy⟩ := q
      rw [ht'] at hz
      cases hz
      rw [ey] at hy
      cases hy
      obtain ⟨R', ex⟩ := R.side (u := .tup [.int (i : Nat), y]) hT
      refine ⟨c.upd T (.tup [.int (i : Nat), y]), rfl, ex, R', .tup upd_same ?_, fun b o q => ?_⟩
      · rw [Int.zero_add]
        exact .cons (.int _) (.cons (ry.ext ex) .nil)
      · rw [upd_ne (fun z => by rw [z, hT] at q; cases q)]; exact q
  · have hx' : Ev.nth (enumL 0 xs) i = none := Option.some.inj hx
    rw [en] at hx'
    cases q : Ev.nth xs i with
    | some v => rw [q] at hx'; cases hx'
    | none => exact ⟨ys, ht', r'.nth_none q⟩
theorem itOk_zipT {c0 : Cf} {a b : Addr} {xs us : List Val} {ys ws : List V} (hK : X.K = M.K) (ht : c0.H a = some (.tup ys)) (r : RVs M c0 xs ys) (ht2 : c0.H b = some (.tup ws)) (r2 : RVs M c0 us ws) : ItOk M c0 (.st (zipL xs us)) (RZ.ItzT X.K a b) := by
  have zn : ∀ (xs us : List Val) (i : Nat), Ev.nth (zipL xs us) i = (match Ev.nth xs i, Ev.nth us i with | some x, some u => some (.tup [x, u]) | _, _ => none) := by
    intro xs
    induction xs with
    | nil => intro us i; cases us <;> cases i <;> rfl
    | cons x xs ih =>
      intro us i
      cases us with
      | nil => cases i with
        | zero => rfl
        | succ i => show none = _; cases Ev.nth (x :: xs) (i + 1) <;> rfl
      | cons u us =>
        cases i with
        | zero => rfl
        | succ i => exact ih us i
  intro c h i e R
  have h1 := e.x.t a ys ht
  have h2 := e.x.t b ws ht2
  have r1' := r.ext e
  have r2' := r2.ext e
  refine ⟨fun x hx => ?_, fun hx => ?_⟩
  · have hx' : Ev.nth (zipL xs us) i = some x := Option.some.inj hx
    rw [zn] at hx'
    cases q : Ev.nth xs i with
    | none => rw [q] at hx'; cases hx'
    | some v =>
      cases q2 : Ev.nth us i with
      | none => rw [q, q2] at hx'; cases hx'
      | some u =>
        rw [q, q2] at hx'
        cases hx'
        obtain ⟨y, ey, ry⟩ := r1'.nth q
        obtain ⟨z, ez, rz⟩ := r2'.nth q2
        refine ⟨⟨ys, ws, y, z, SqT.of h1, SqT.of h2, ey, ez⟩, fun v' H' q => ?_⟩
        obtain ⟨T, y', z', rfl, hT, rfl, hy, hz⟩ := q
        have e1 := hy ys (SqT.of h1)
        have e2 := hz ws (SqT.of h2)
        rw [ey] at e1
        rw [ez] at e2
        cases e1
        cases e2
        obtain ⟨R', ex⟩ := R.side (u := .tup [y, z]) hT
        exact ⟨c.upd T (.tup [y, z]), rfl, ex, R', .tup upd_same (.cons (ry.ext ex) (.cons (rz.ext ex) .nil)), fun b o q => by rw [upd_ne (fun z => by rw [z, hT] at q; cases q)]; exact q⟩
  · have hx' : Ev.nth (zipL xs us) i = none := Option.some.inj hx
    rw [zn] at hx'
    refine ⟨ys, ws, SqT.of h1, SqT.of h2, ?_⟩
    cases q : Ev.nth xs i with
    | none => exact .inl (r1'.nth_none q)
    | some v =>
      cases q2 : Ev.nth us i with
      | none => exact .inr (r2'.nth_none q2)
      | some u => rw [q, q2] at hx'; cases hx'
theorem itOk_rng {c0 : Cf} {lo : Int} {n : Nat} : ItOk M c0 (.st (rngL lo n)) (Itr lo n) := by
  have rn : ∀ (n : Nat) (lo : Int) (i : Nat), Ev.nth (rngL lo n) i = if i < n then some (.int (lo + i)) else none := by
    intro n
    induction n with
    | zero => intro lo i; cases i <;> rfl
    | succ n ih =>
      intro lo i
      cases i with
      | zero => show some (Val.int lo) = _; rw [if_pos (by omega)]; simp
      | succ i =>
        show Ev.nth (rngL (lo + 1) n) i = _
        rw [ih]
        by_cases hi : i < n
        · rw [if_pos hi, if_pos (by omega), show lo + 1 + (i : Int) = lo + ((i + 1 : Nat) : Int) by omega]
        · rw [if_neg hi, if_neg (by omega)]
  intro c h i e R
  refine ⟨fun x hx => ?_, fun hx => ?_⟩
  · have hx' : Ev.nth (rngL lo n) i = some x := Option.some.inj hx
    rw [rn] at hx'
    by_cases hi : i < n
    · rw [if_pos hi] at hx'
      cases hx'
      refine ⟨hi, fun z H' q => ?_⟩
      obtain ⟨rfl, rfl⟩ := q
      exact ⟨c, rfl, Ext.refl c, R, .int _, fun _ _ q => q⟩
    · rw [if_neg hi] at hx'; cases hx'
  · have hx' : Ev.nth (rngL lo n) i = none := Option.some.inj hx
    rw [rn] at hx'
    by_cases hi : i < n
    · rw [if_pos hi] at hx'; cases hx'
    · exact Nat.le_of_not_lt hi
theorem itOk_str {c0 : Cf} {t : Str} : ItOk M c0 (.st (t.cps.toList.map fun c => .str ⟨[c].toArray⟩)) (Its t) := by
  intro c h i e R
  have sn : ∀ (l : List Nat) (i : Nat), Ev.nth (l.map fun c => Val.str ⟨[c].toArray⟩) i = (l[i]?).map fun c => Val.str ⟨[c].toArray⟩ := by
    intro l i
    rw [nth_eq, List.getElem?_map]
  refine ⟨fun x hx => ?_, fun hx => ?_⟩
  · have hx' : Ev.nth (t.cps.toList.map fun c => Val.str ⟨[c].toArray⟩) i = some x := Option.some.inj hx
    rw [sn] at hx'
    cases q : t.cps.toList[i]? with
    | none => rw [q] at hx'; cases hx'
    | some d =>
      rw [q] at hx'
      cases hx'
      have q' : t.cps[i]? = some d := by simpa using q
      refine ⟨by have := (Array.getElem?_eq_some_iff.mp q').1; exact this, fun z H' qz => ?_⟩
      obtain ⟨rfl, d', e1, rfl⟩ := qz
      rw [q'] at e1
      cases e1
      exact ⟨c, rfl, Ext.refl c, R, .str _, fun _ _ q => q⟩
  · have hx' : Ev.nth (t.cps.toList.map fun c => Val.str ⟨[c].toArray⟩) i = none := Option.some.inj hx
    rw [sn] at hx'
    cases q : t.cps.toList[i]? with
    | some d => rw [q] at hx'; cases hx'
    | none =>
      have := List.getElem?_eq_none_iff.mp q
      show t.cps.size ≤ i
      simpa using this
theorem itOk_dyn {c0 : Cf} {l : Nat} (hK : X.K = M.K) (hl : l < c0.n) : ItOk M c0 (.dyn l) (Itl X.K (c0.r l)) := by
  intro c h i e R
  have hr : c.r l = c0.r l := e.x.r l hl
  have hlc : l < c.n := Nat.lt_of_lt_of_le hl e.x.le
  refine ⟨fun x hx => ?_, fun hx => ?_⟩
  · have hx' : (match itemsL h (.ref l) with
      | some xs => some (Ev.nth xs i)
      | none => none) = some (some x) := hx
    cases q : itemsL h (.ref l) with
    | none => rw [q] at hx'; cases hx'
    | some xs =>
      rw [q] at hx'
      obtain ⟨a, ys, ea, hs, r⟩ := R.itemsL (.ref hlc) q
      cases ea
      rw [hr] at hs
      rw [← hK] at hs
      obtain ⟨y, ey, ry⟩ := r.nth (Option.some.inj hx')
      refine ⟨⟨ys, y, hs, ey⟩, fun z H' qz => ?_⟩
      obtain ⟨rfl, qz⟩ := qz
      have := qz ys hs
      rw [ey] at this
      cases this
      exact ⟨c, rfl, Ext.refl c, R, ry, fun _ _ q => q⟩
  · have hx' : (match itemsL h (.ref l) with
      | some xs => some (Ev.nth xs i)
      | none => none) = some none := hx
    cases q : itemsL h (.ref l) with
    | none => rw [q] at hx'; cases hx'
    | some xs =>
      rw [q] at hx'
      obtain ⟨a, ys, ea, hs, r⟩ := R.itemsL (.ref hlc) q
      cases ea
      rw [hr] at hs
      rw [← hK] at hs
      exact ⟨ys, hs, r.nth_none (Option.some.inj hx')⟩
theorem itOk_dynE {c0 : Cf} {l : Nat} (hK : X.K = M.K) (hl : l < c0.n) : ItOk M c0 (.dynE l) (Ite X.K (c0.r l)) := by
  intro c h i e R
  have hr : c.r l = c0.r l := e.x.r l hl
  have hlc : l < c.n := Nat.lt_of_lt_of_le hl e.x.le
  have un : itemAt (.dynE l) i h = (match itemsL h (.ref l) with
    | some xs => (match Ev.nth xs i with
      | some x => some (some (.tup [.int i, x]))
      | none => some none)
    | none => none) := rfl
  refine ⟨fun x hx => ?_, fun hx => ?_⟩
  · rw [un] at hx
    cases q : itemsL h (.ref l) with
    | none => simp only [q] at hx; cases hx
    | some xs =>
      simp only [q] at hx
      obtain ⟨a, ys, ea, hs, r⟩ := R.itemsL (.ref hlc) q
      cases ea
      rw [hr] at hs
      rw [← hK] at hs
      cases q2 : Ev.nth xs i with
      | none => simp only [q2] at hx; cases hx
      | some v =>
        simp only [q2] at hx
        cases hx
        obtain ⟨y, ey, ry⟩ := r.nth q2
        refine ⟨⟨ys, y, hs, ey⟩, fun z H' qz => ?_⟩
        obtain ⟨T, y', rfl, hT, rfl, qz⟩ := qz
        have := qz ys hs
        rw [ey] at this
        cases this
        obtain ⟨R', ex⟩ := R.side (u := .tup [.int (i : Nat), y]) hT
        exact ⟨c.upd T (.tup [.int (i : Nat), y]), rfl, ex, R', .tup upd_same (.cons (.int _) (.cons (ry.ext ex) .nil)), fun b o q => by rw [upd_ne (fun z => by rw [z, hT] at q; cases q)]; exact q⟩
  · rw [un] at hx
    cases q : itemsL h (.ref l) with
    | none => simp only [q] at hx; cases hx
    | some xs =>
      simp only [q] at hx
      obtain ⟨a, ys, ea, hs, r⟩ := R.itemsL (.ref hlc) q
      cases ea
      rw [hr] at hs
      rw [← hK] at hs
      cases q2 : Ev.nth xs i with
      | some v => simp only [q2] at hx; cases hx
      | none => exact ⟨ys, hs, r.nth_none q2⟩
end
end Ev

set_option Elab.async false
set_option linter.all false
set_option maxRecDepth 100000
set_option maxHeartbeats 2000000
/-! Rules for what is walked; targets. -/
namespace Ev
open PySem PySem.Spec PyProof.Rows L2
section
variable {M : Mo} {X : Cx} {N : List Str} {sc : Scope} {k : Nat} {W : WX} {md : Md} {cl : Cl} {calls : Nat → List Val → LHeap → Res Val} {rc : Rec} {pos : Pos} {tg : Expr}
theorem si_val (G : Gd M X N sc k W) {e : Expr} {m : E} (he : PE X e (tEv M W (rc.e m))) : PI X tg e (tEvI M W (evIt rc (.val m))) := by
  refine PI.cases fun σ H R ⟨c, s, h, ⟨eH, Rh, S⟩, g⟩ => ?_
  subst eH
  have g0 : Go M c (fun c' src J => ItOk M c' src J) ((rc.e m s h).bind fun v h1 => optR (srcOf h1 v) h1) R (fun cls d H' => W cls d σ H') := g
  have no : ∀ v h1, rc.e m s h = .ok v h1 → srcOf h1 v = none → False := fun v h1 q z => by
    rw [q] at g0
    have g1 : Go M c (fun c' src J => ItOk M c' src J) (optR (srcOf h1 v) h1) R (fun cls d H' => W cls d σ H') := g0
    rw [z] at g1
    exact g1
  have hu : (∃ v h1, rc.e m s h = .ok v h1) ∨ ∀ v h1, rc.e m s h ≠ .ok v h1 := by
    cases rc.e m s h with
    | ok v h1 => exact .inl ⟨v, h1, rfl⟩
    | exc _ _ _ => exact .inr fun _ _ z => by cases z
    | bad => exact .inr fun _ _ z => by cases z
  rcases hu with ⟨v, h1, q⟩ | hn
  · cases v with
    | tup xs =>
      refine ⟨_, pi_tup he, c, s, h, ⟨rfl, Rh, S⟩, Go.bindE g0 fun v' h1' c1 y er e1 R1 rx g1 => ?_⟩
      rw [q] at er
      cases er
      cases rx with
      | @tup _ a ys ht r => exact ⟨a, rfl, ⟨ys, SqT.of ht⟩, go_val (RR := fun c' src J => ItOk M c' src J) R1 (itOk_tup G.hK ht r) g1⟩
    | str t =>
      refine ⟨_, pi_str he, c, s, h, ⟨rfl, Rh, S⟩, Go.bindE g0 fun v' h1' c1 y er e1 R1 rx g1 => ?_⟩
      rw [q] at er
      cases er
      cases rx with
      | str t => exact ⟨t, rfl, go_val (RR := fun c' src J => ItOk M c' src J) R1 itOk_str g1⟩
    | ref l =>
      refine ⟨_, pi_list he, c, s, h, ⟨rfl, Rh, S⟩, Go.bindE g0 fun v' h1' c1 y er e1 R1 rx g1 => ?_⟩
      rw [q] at er
      cases er
      cases rx with
      | ref hl =>
        have un : srcOf h1 (.ref l) = (match h1.get l with
          | some (.lst _) => some (.dyn l)
          | some (.frz _) => some (.dyn l)
          | _ => none) := rfl
        have two : (∃ xs, itemsL h1 (.ref l) = some xs) ∧ srcOf h1 (.ref l) = some (.dyn l) ∨ srcOf h1 (.ref l) = none := by
          rw [un]
          cases qg : h1.get l with
          | none => exact .inr rfl
          | some o =>
            cases o with
            | lst xs => exact .inl ⟨⟨xs, by show (match h1.get l with | some (.lst xs) => some xs | some (.frz xs) => some xs | _ => none) = _; rw [qg]⟩, rfl⟩
            | frz xs => exact .inl ⟨⟨xs, by show (match h1.get l with | some (.lst xs) => some xs | some (.frz xs) => some xs | _ => none) = _; rw [qg]⟩, rfl⟩
            | _ => exact .inr rfl
        rcases two with ⟨⟨xs, qi⟩, qs⟩ | z
        · rw [qs] at g1
          obtain ⟨a, ys, ea, hs, r⟩ := R1.itemsL (.ref hl) qi
          cases ea
          exact ⟨_, rfl, ⟨ys, by rw [G.hK]; exact hs⟩, go_val (RR := fun c' src J => ItOk M c' src J) R1 (itOk_dyn G.hK hl) g1⟩
        · exact (no _ _ q z).elim
    | non => exact (no _ _ q rfl).elim
    | bl _ => exact (no _ _ q rfl).elim
    | int _ => exact (no _ _ q rfl).elim
    | fn _ => exact (no _ _ q rfl).elim
  · exact ⟨_, pi_tup he, c, s, h, ⟨rfl, Rh, S⟩, Go.bindE g0 fun v' h1' c1 y er e1 R1 rx g1 => absurd er (hn _ _)⟩
theorem okR_ok {j : Int} (h : okR j = true) : -(2 ^ 62) ≤ j ∧ j < 2 ^ 62 := by
  unfold okR at h
  simp only [Bool.and_eq_true, decide_eq_true_eq] at h
  exact ⟨by omega, by omega⟩
theorem si_rng1 (G : Gd M X N sc k W) (D : MdOk M md) {x : Str} {a : Expr} {p : Pos} {ma : E} (hf : freeN md sc x "range" = true) (hn : notStar a = true) (ha : PE X a (tEv M W (rc.e ma))) : PI X tg (.Call (.Name x p) [a] [] pos) (tEvI M W (evIt rc (.rng1 ma))) := by
  obtain ⟨rfl, hg, hm⟩ := G.free D hf
  refine PI.of (pi_range1 hg hm (pa_cons ha pa_nil (notStar_each hn)) (by rw [notStar_each hn]; rfl)) fun σ H R ⟨c, s, h, ⟨eH, Rh, S⟩, g⟩ => ?_
  subst eH
  refine ⟨c, s, h, ⟨rfl, Rh, S⟩, Go.bind g fun v h1 c1 y e1 R1 rx g1 => ?_⟩
  cases rx with
  | int j =>
    cases q : okR j with
    | false => simp only [q] at g1; exact g1.elim
    | true =>
      simp only [q] at g1
      obtain ⟨b1, b2⟩ := okR_ok q
      exact ⟨j, rfl, b1, b2, go_val (RR := fun c' src J => ItOk M c' src J) R1 itOk_rng g1⟩
  | _ => exact g1.elim
theorem si_rng2 (G : Gd M X N sc k W) (D : MdOk M md) {x : Str} {a b : Expr} {p : Pos} {ma mb : E} (hf : freeN md sc x "range" = true) (hn : notStar a = true) (hn2 : notStar b = true) (ha : PE X a (tEv M W (rc.e ma))) (hb : PE X b (tEv M W (rc.e mb))) :
    PI X tg (.Call (.Name x p) [a, b] [] pos) (tEvI M W (evIt rc (.rng2 ma mb))) := by
  obtain ⟨rfl, hg, hm⟩ := G.free D hf
  refine PI.of (pi_range2 hg hm (pa_cons ha (pa_cons hb pa_nil (notStar_each hn2)) (notStar_each hn)) (by rw [notStar_each hn, notStar_each hn2]; rfl) (by rw [notStar_each hn2]; rfl)) fun σ H R ⟨c, s, h, ⟨eH, Rh, S⟩, g⟩ => ?_
  subst eH
  refine ⟨c, s, h, ⟨rfl, Rh, S⟩, Go.bind g fun v h1 c1 y e1 R1 rx g1 => ⟨c1, s, h1, ⟨rfl, R1, S.ext e1⟩, Go.bind g1 fun u h2 c2 z e2 R2 ru g2 => ?_⟩⟩
  cases rx with
  | int i =>
    cases ru with
    | int j =>
      cases q : okR i && okR j with
      | false => simp only [q] at g2; exact g2.elim
      | true =>
        simp only [q] at g2
        have q' := Bool.and_eq_true_iff.mp q
        obtain ⟨b1, b2⟩ := okR_ok q'.1
        obtain ⟨b3, b4⟩ := okR_ok q'.2
        exact ⟨i, j, rfl, ⟨b1, b2, b3, b4⟩, go_val (RR := fun c' src J => ItOk M c' src J) R2 itOk_rng g2⟩
    | _ => exact g2.elim
  | _ => cases ru <;> exact g2.elim
theorem si_enum (G : Gd M X N sc k W) (D : MdOk M md) {x : Str} {a : Expr} {p tp : Pos} {es : List Expr} {kk : Nat} {ma : E} (hf : freeN md sc x "enumerate" = true) (hn : notStar a = true) (ha : PE X a (tEv M W (rc.e ma))) :
    PI X (.Tuple es kk tp) (.Call (.Name x p) [a] [] pos) (tEvI M W (evIt rc (.enum ma))) := by
  obtain ⟨rfl, hg, hm⟩ := G.free D hf
  have st : starEach [a] X.env = [(false, eval a X.env)] := by rw [notStar_each hn]; rfl
  refine PI.cases fun σ H R ⟨c, s, h, ⟨eH, Rh, S⟩, g⟩ => ?_
  subst eH
  have hu : (∃ v h1, rc.e ma s h = .ok v h1) ∨ ∀ v h1, rc.e ma s h ≠ .ok v h1 := by
    cases rc.e ma s h with
    | ok v h1 => exact .inl ⟨v, h1, rfl⟩
    | exc _ _ _ => exact .inr fun _ _ z => by cases z
    | bad => exact .inr fun _ _ z => by cases z
  rcases hu with ⟨v, h1, q⟩ | hnn
  · cases v with
    | ref l =>
      refine ⟨_, pi_enum hg hm (pa_cons ha pa_nil (notStar_each hn)) st, c, s, h, ⟨rfl, Rh, S⟩, Go.bindE (r := rc.e ma s h) g fun v' h1' c1 y er e1 R1 rx g1 => ?_⟩
      rw [q] at er
      cases er
      cases rx with
      | ref hl =>
        have g2 : Go M c1 (fun c' src J => ItOk M c' src J) (match h1.get l with
          | some (.lst _) => .ok (.dynE l) h1
          | some (.frz _) => .ok (.dynE l) h1
          | _ => .bad) R (fun cls d H' => W cls d σ H') := g1
        cases qg : h1.get l with
        | none => rw [qg] at g2; exact g2.elim
        | some o =>
          rw [qg] at g2
          cases o with
          | lst xs =>
            obtain ⟨ys, hy, r⟩ := R1.lst qg
            exact ⟨_, ys, rfl, SqL.of hy, go_val (RR := fun c' src J => ItOk M c' src J) R1 (itOk_dynE G.hK hl) g2⟩
          | frz xs =>
            obtain ⟨ys, hy, r⟩ := R1.frz qg
            exact ⟨_, ys, rfl, by rw [G.hK]; exact hy.sq, go_val (RR := fun c' src J => ItOk M c' src J) R1 (itOk_dynE G.hK hl) g2⟩
          | _ => exact g2.elim
    | _ =>
      refine ⟨_, pi_enumT hg hm (pa_cons ha pa_nil (notStar_each hn)) st, c, s, h, ⟨rfl, Rh, S⟩, Go.bindE (r := rc.e ma s h) g fun v' h1' c1 y er e1 R1 rx g1 => ?_⟩
      rw [q] at er
      cases er
      first
        | (cases rx with
          | @tup xs a ys ht r => exact ⟨a, ys, rfl, ht, go_val (RR := fun c' src J => ItOk M c' src J) R1 (itOk_enumT ht r) g1⟩)
        | exact g1.elim
  · exact ⟨_, pi_enumT hg hm (pa_cons ha pa_nil (notStar_each hn)) st, c, s, h, ⟨rfl, Rh, S⟩, Go.bindE (r := rc.e ma s h) g fun v' h1' c1 y er e1 R1 rx g1 => absurd er (hnn _ _)⟩
theorem si_zip (G : Gd M X N sc k W) (D : MdOk M md) {x : Str} {a b : Expr} {p tp : Pos} {es : List Expr} {kk : Nat} {ma mb : E} (hf : freeN md sc x "zip" = true) (hn : notStar a = true) (hn2 : notStar b = true) (ha : PE X a (tEv M W (rc.e ma))) (hb : PE X b (tEv M W (rc.e mb))) :
    PI X (.Tuple es kk tp) (.Call (.Name x p) [a, b] [] pos) (tEvI M W (evIt rc (.zip ma mb))) := by
  obtain ⟨rfl, hg, hm⟩ := G.free D hf
  refine PI.of (RZ.pi_zipA hg hm (pa_cons ha (pa_cons hb pa_nil (notStar_each hn2)) (notStar_each hn)) (notStar_each hn) (stars_plain (es := [b]) (by rw [List.all_cons, hn2]; rfl))) fun σ H R ⟨c, s, h, ⟨eH, Rh, S⟩, g⟩ => ?_
  subst eH
  refine ⟨c, s, h, ⟨rfl, Rh, S⟩, Go.bind g fun v h1 c1 y e1 R1 rx g1 => ⟨c1, s, h1, ⟨rfl, R1, S.ext e1⟩, Go.bind g1 fun u h2 c2 z e2 R2 ru g2 => ?_⟩⟩
  have rx2 := rx.ext e2
  cases rx2 with
  | @tup xs a1 ys ht r =>
    cases ru with
    | @tup us b1 ws ht2 r2 => exact ⟨a1, b1, ys, ws, rfl, .inr ⟨SqT.of ht, SqT.of ht2, go_val (RR := fun c' src J => ItOk M c' src J) R2 (itOk_zipT G.hK ht r ht2 r2) g2⟩⟩
    | _ => exact g2.elim
  | _ => cases ru <;> exact g2.elim
/-! ### targets -/
def Tg.sl : Tg → List Nat
  | .name i => [i]
  | .tup is => is
def Off (is : List Nat) (σ σ' : St) : Prop := σ'.length = σ.length ∧ ∀ j, j ∉ is → σ'[j]? = σ[j]?
/-- a target's reading by the evaluator: the heap is as it was -/
def gEv (M : Mo) (t : Tg) : TG := fun y σ H Q => ∃ c s v s1, c.H = H ∧ RSl M c s σ ∧ RV M c v y ∧ t.put v s = some s1 ∧ ∀ σ1, RSl M c s1 σ1 → Off t.sl σ σ1 → Q σ1 H
theorem PG.of {e : Expr} {t t' : TG} (h : PG X e t) (hi : ∀ v σ H Q, t' v σ H Q → t v σ H Q) : PG X e t' := ⟨fun pins s σ H v u Q I r q => h.run pins s σ H v u Q I r (hi v σ H Q q)⟩
theorem Off.set {is : List Nat} {σ : St} {i : Nat} {o : Option V} (h : i ∈ is) : Off is σ (σ.set i o) := ⟨List.length_set, fun j hj => List.getElem?_set_ne (fun e => hj (by rw [← e]; exact h))⟩
theorem Off.trans {is : List Nat} {σ σ1 σ2 : St} (a : Off is σ σ1) (b : Off is σ1 σ2) : Off is σ σ2 := ⟨b.1.trans a.1, fun j hj => (b.2 j hj).trans (a.2 j hj)⟩
theorem sg_name {pk : Option NameKind → Bool} (G : Gd M X N sc k W) {sc2 : Scope} (F : FnP X sc2 pk) {x : Str} {i : Nat} {p : Pos} (h : nthS N i x = true) (hl : pk (look sc2.names x) = true) : PG X (.Name x p) (gEv M (.name i)) := by
  refine PG.of (pg_name (i := i) (by rw [G.hN]; exact G.nd) (by rw [G.hN]; exact nthS_eq h) (F x hl).1 (F x hl).2) fun y σ H Q ⟨c, s, v, s1, eH, S, r, e, q⟩ => ?_
  cases e
  exact q _ (S.set i r) (Off.set (by simp [Tg.sl]))
theorem sgs {pk : Option NameKind → Bool} (G : Gd M X N sc k W) {sc2 : Scope} (F : FnP X sc2 pk) : ∀ {es : List Expr} {is : List Nat}, ckTgs N pk sc2 es is = true → ∃ t, PGs X es t ∧ (assignEach es X.env).length = is.length ∧ (assignEach es X.env).findIdx? (·.1) = none ∧
    ∀ (all : List Nat) (c : Cf) (s s1 : LSt) (σ : St) (vs : List Val) (ys : List V) (Q : St → Hp → Prop), (∀ i ∈ is, i ∈ all) → RSl M c s σ → RVs M c vs ys → setAll is vs s = some s1 → (∀ σ1, RSl M c s1 σ1 → Off all σ σ1 → Q σ1 c.H) → t ys σ c.H Q
  | [], [], _ => ⟨gNil, pgs_nil, rfl, rfl, fun all c s s1 σ vs ys Q _ S r e q => by
      cases r with
      | nil => cases e; exact ⟨rfl, q σ S ⟨rfl, fun _ _ => rfl⟩⟩
      | cons _ _ => cases e⟩
  | [], _ :: _, h => by cases h
  | e :: es, is, h => by
    cases e with
    | Name x p =>
      cases is with
      | nil => cases h
      | cons i is =>
        have h' : (nthS N i x && pk (look sc2.names x) && ckTgs N pk sc2 es is) = true := h
        simp only [Bool.and_eq_true] at h'
        obtain ⟨t, ht, hl, hf, hq⟩ := sgs G F h'.2
        refine ⟨gCons (gName i) t, pgs_cons (pg_name (i := i) (by rw [G.hN]; exact G.nd) (by rw [G.hN]; exact nthS_eq h'.1.1) (F x h'.1.2).1 (F x h'.1.2).2) ht rfl, ?_, ?_, ?_⟩
        · show (assignEach es X.env).length + 1 = is.length + 1
          rw [hl]
        · show List.findIdx? (·.1) ((false, assign (.Name x p) X.env) :: assignEach es X.env) = none
          rw [List.findIdx?_cons, hf]
          rfl
        · intro all c s s1 σ vs ys Q ha S r e q
          cases r with
          | nil => cases e
          | cons r1 rt =>
            refine ⟨_, _, rfl, ?_⟩
            have e' : setAll is _ (setV s i _) = some s1 := e
            refine hq all c _ s1 (σ.set i (some _)) _ _ Q (fun j hj => ha j (List.mem_cons_of_mem _ hj)) (S.set i r1) rt e' fun σ1 S1 o1 => q σ1 S1 ((Off.set (ha i (List.mem_cons_self ..))).trans o1)
    | _ => cases is <;> cases h
theorem sg_tup {pk : Option NameKind → Bool} (G : Gd M X N sc k W) {sc2 : Scope} (F : FnP X sc2 pk) {es : List Expr} {is : List Nat} {j : Nat} {p : Pos} (h : ckTgs N pk sc2 es is = true) : PG X (.Tuple es j p) (gEv M (.tup is)) := by
  obtain ⟨t, ht, hl, hf, hq⟩ := sgs G F h
  refine PG.of (pg_tup (n := is.length) G.calm ht hl hf) fun y σ H Q ⟨c, s, v, s1, eH, S, r, e, q⟩ => ?_
  subst eH
  cases r with
  | @tup vs a ys hh rt =>
    have e' : setAll is vs s = some s1 := e
    have hlen : ∀ {is : List Nat} {vs : List Val} {s s1 : LSt}, setAll is vs s = some s1 → vs.length = is.length := by
      intro is
      induction is with
      | nil => intro vs s s1 e; cases vs with
        | nil => rfl
        | cons _ _ => cases e
      | cons i is ih => intro vs s s1 e; cases vs with
        | nil => cases e
        | cons v vs => exact congrArg (· + 1) (ih (show setAll is vs (setV s i v) = some s1 from e))
    exact ⟨a, ys, rfl, SqT.of hh, by rw [← rt.length]; exact hlen e', hq is c s s1 σ vs ys Q (fun _ hi => hi) S rt e' fun σ1 S1 o1 => q σ1 S1 o1⟩
  | _ => cases e
theorem sg {pk : Option NameKind → Bool} (G : Gd M X N sc k W) {sc2 : Scope} (F : FnP X sc2 pk) {e : Expr} {t : Tg} (h : ckTg N pk sc2 e t = true) : PG X e (gEv M t) := by
  cases t with
  | name i =>
    cases e with
    | Name x p =>
      have h' : (nthS N i x && pk (look sc2.names x)) = true := h
      simp only [Bool.and_eq_true] at h'
      exact sg_name G F h'.1 h'.2
    | _ => cases h
  | tup is =>
    cases e with
    | Tuple es j p => exact sg_tup G F h
    | _ => cases h
end
end Ev

set_option Elab.async false
set_option linter.all false
set_option maxRecDepth 100000
set_option maxHeartbeats 2000000
/-! Comprehensions. -/
namespace Ev
open PySem PySem.Spec PyProof.Rows L2
section
variable {M : Mo} {X : Cx} {N : List Str} {sc : Scope} {k : Nat} {W : WX} {md : Md} {cl : Cl} {calls : Nat → List Val → LHeap → Res Val} {rc : Rec} {pos : Pos}
theorem bind_assoc {α β γ : Type} (r : Res α) (f : α → LHeap → Res β) (g : β → LHeap → Res γ) : (r.bind f).bind g = r.bind fun a h => (f a h).bind g := by cases r <;> rfl
theorem bind_ok {α β : Type} {r : Res α} {f : α → LHeap → Res β} {b : β} {h' : LHeap} (e : r.bind f = .ok b h') : ∃ a h, r = .ok a h ∧ f a h = .ok b h' := by
  cases r with
  | ok a h => exact ⟨a, h, rfl, e⟩
  | exc _ _ _ => cases e
  | bad => cases e
/-- what is left of a comprehension -/
def compRest (f : Val → LHeap → Res (Option Val)) (src : Src) (m i : Nat) (h : LHeap) (r : Res (List Val)) : Prop := match src with
  | .st xs => (xs.drop i).length = m ∧ r = compSt f (xs.drop i) h
  | src => r = compDyn f src m i h
theorem compRest_start (f : Val → LHeap → Res (Option Val)) (src : Src) (h : LHeap) : ∃ m, compRest f src m 0 h (compAll f src h) := by
  cases src with
  | st xs => exact ⟨_, rfl, rfl⟩
  | dyn l => exact ⟨_, rfl⟩
  | dynE l => exact ⟨_, rfl⟩
theorem compRest_dyn {f : Val → LHeap → Res (Option Val)} {src : Src} {m i : Nat} {h h' : LHeap} {zs : List Val} (e : compDyn f src m i h = .ok zs h') :
    (itemAt src i h = some none ∧ zs = [] ∧ h' = h) ∨ ∃ x m' o h1 zs', itemAt src i h = some (some x) ∧ m' < m ∧ f x h = .ok o h1 ∧ compDyn f src m' (i + 1) h1 = .ok zs' h' ∧ zs = (match o with | some y => y :: zs' | none => zs') := by
  cases m with
  | zero => cases e
  | succ m =>
    unfold compDyn at e
    cases q : itemAt src i h with
    | none => rw [q] at e; cases e
    | some o =>
      rw [q] at e
      cases o with
      | none => cases e; exact .inl ⟨rfl, rfl, rfl⟩
      | some x =>
        obtain ⟨o, h1, e1, e2⟩ := bind_ok e
        obtain ⟨zs', h2, e3, e4⟩ := bind_ok e2
        cases o with
        | none => cases e4; exact .inr ⟨x, m, none, h1, _, rfl, Nat.lt_succ_self m, e1, e3, rfl⟩
        | some y => cases e4; exact .inr ⟨x, m, some y, h1, zs', rfl, Nat.lt_succ_self m, e1, e3, rfl⟩
theorem drop_nth {xs : List Val} {i : Nat} {x : Val} {ys : List Val} (e : xs.drop i = x :: ys) : Ev.nth xs i = some x ∧ xs.drop (i + 1) = ys := by
  have h1 : xs[i]? = some x := by
    have := congrArg (fun l => l[0]?) e
    simpa using this
  refine ⟨by rw [nth_eq]; exact h1, ?_⟩
  have := congrArg (List.drop 1) e
  simpa [List.drop_drop, Nat.add_comm] using this
theorem drop_nth0 {xs : List Val} {i : Nat} (e : xs.drop i = []) : Ev.nth xs i = none := by
  have h1 : xs[i]? = none := by
    have := congrArg (fun l => l[0]?) e
    simpa using this
  rw [nth_eq]; exact h1
theorem compRest_step {f : Val → LHeap → Res (Option Val)} {src : Src} {m i : Nat} {h h' : LHeap} {zs : List Val} (e : compRest f src m i h (.ok zs h')) :
    (itemAt src i h = some none ∧ zs = [] ∧ h' = h) ∨ ∃ x m' o h1 zs', itemAt src i h = some (some x) ∧ m' < m ∧ f x h = .ok o h1 ∧ compRest f src m' (i + 1) h1 (.ok zs' h') ∧ zs = (match o with | some y => y :: zs' | none => zs') := by
  cases src with
  | st xs =>
    obtain ⟨hm, e⟩ := e
    cases q : xs.drop i with
    | nil =>
      rw [q] at e
      cases e
      exact .inl ⟨congrArg some (drop_nth0 q), rfl, rfl⟩
    | cons x ys =>
      rw [q] at e hm
      obtain ⟨hx, hd⟩ := drop_nth q
      have e' : (f x h).bind (fun o h1 => (compSt f ys h1).bind fun ys h2 => match o with
        | some y => .ok (y :: ys) h2
        | none => .ok ys h2) = .ok zs h' := e.symm
      obtain ⟨o, h1, e1, e2⟩ := bind_ok e'
      obtain ⟨zs', h2, e3, e4⟩ := bind_ok e2
      have hr : compRest f (.st xs) ys.length (i + 1) h1 (.ok zs' h2) := ⟨by rw [hd], by rw [hd]; exact e3.symm⟩
      have hlt : ys.length < m := by rw [← hm]; exact Nat.lt_succ_self _
      cases o with
      | none => cases e4; exact .inr ⟨x, ys.length, none, h1, _, congrArg some hx, hlt, e1, hr, rfl⟩
      | some y => cases e4; exact .inr ⟨x, ys.length, some y, h1, zs', congrArg some hx, hlt, e1, hr, rfl⟩
  | dyn l =>
    rcases compRest_dyn (show compDyn f (.dyn l) m i h = _ from e.symm) with z | ⟨x, m', o, h1, zs', a, b, c, d, g⟩
    · exact .inl z
    · exact .inr ⟨x, m', o, h1, zs', a, b, c, d.symm, g⟩
  | dynE l =>
    rcases compRest_dyn (show compDyn f (.dynE l) m i h = _ from e.symm) with z | ⟨x, m', o, h1, zs', a, b, c, d, g⟩
    · exact .inl z
    · exact .inr ⟨x, m', o, h1, zs', a, b, c, d.symm, g⟩
theorem noExc_go {α β γ : Type} {c : Cf} {RR : Cf → β → γ → Prop} {r : Res α} {kk : α → LHeap → Res β} {Q : γ → Hp → Prop} {E : XK} (g : Go M c RR ((noExc r).bind kk) Q E) : ∃ a h, r = .ok a h ∧ Go M c RR (kk a h) Q E := by
  cases r with
  | ok a h => exact ⟨a, h, rfl, g⟩
  | exc _ _ _ => exact g.elim
  | bad => exact g.elim
/-- D, named by none -/
def Unn (c : Cf) (D : Addr) : Prop := ∀ l, l < c.n → c.nm l = true → c.r l ≠ D
theorem Unn.ext {c c' : Cf} {D : Addr} {o : HO} (u : Unn c D) (h : c.H D = some o) (e : Ext M c c') : Unn c' D ∧ c'.H D = some o := by
  refine ⟨fun l hl hm z => ?_, e.f D o h u⟩
  by_cases q : l < c.n
  · rw [e.x.r l q] at z
    rw [e.m l q] at hm
    exact u l q hm z
  · have := e.fr l (Nat.le_of_not_lt q) hl
    rw [z, h] at this
    cases this
theorem wipe_at (σ : St) (j : Nat) : ∀ vs : List Nat, (wipe σ vs)[j]? = if j ∈ vs ∧ j < σ.length then some none else σ[j]?
  | [] => by simp [wipe]
  | v :: vs => by
    unfold wipe
    rw [List.getElem?_set, wipe_length, wipe_at σ j vs]
    by_cases e : v = j
    · subst e
      by_cases q : v < σ.length
      · simp [q]
      · simp [q]
    · rw [if_neg e]
      have : (j ∈ v :: vs ∧ j < σ.length) ↔ (j ∈ vs ∧ j < σ.length) := by
        simp only [List.mem_cons]
        constructor
        · rintro ⟨z | z, w⟩
          · exact absurd z.symm e
          · exact ⟨z, w⟩
        · rintro ⟨z, w⟩; exact ⟨.inr z, w⟩
      by_cases q : j ∈ vs ∧ j < σ.length
      · rw [if_pos q, if_pos (this.mpr q)]
      · rw [if_neg q, if_neg (fun z => q (this.mp z))]
theorem Off.wipe {is vs : List Nat} {σ σ2 : St} (o : Off is (wipe σ vs) σ2) (h : ∀ i ∈ is, i ∈ vs) : wipe σ2 vs = wipe σ vs := by
  refine List.ext_getElem? fun j => ?_
  rw [wipe_at σ2 j vs]
  have hl : σ2.length = σ.length := by rw [o.1, wipe_length]
  by_cases q : j ∈ vs
  · by_cases q2 : j < σ2.length
    · rw [if_pos ⟨q, q2⟩, wipe_at, if_pos ⟨q, by rw [← hl]; exact q2⟩]
    · rw [if_neg (fun z => q2 z.2), wipe_at, if_neg (fun z => q2 (by rw [hl]; exact z.2)), List.getElem?_eq_none (by simpa using q2), List.getElem?_eq_none (by rw [← hl]; simpa using q2)]
  · rw [if_neg (fun z => q z.1), o.2 j (fun z => q (h j z))]
theorem memN_mem {x : Nat} : ∀ {ys : List Nat}, memN x ys = true → x ∈ ys
  | [], h => by cases h
  | y :: ys, h => by
    unfold memN at h
    cases q : Nat.beq x y with
    | true => rw [Nat.eq_of_beq_eq_true q]; exact List.mem_cons_self
    | false => rw [q] at h; exact List.mem_cons_of_mem _ (memN_mem h)
theorem tgIn_mem {own : List Nat} {tg : Tg} (h : tgIn own tg = true) : ∀ i ∈ tg.sl, i ∈ own := by
  cases tg with
  | name j =>
    intro i hi
    have : i = j := by simpa [Tg.sl] using hi
    rw [this]
    exact memN_mem h
  | tup is =>
    intro i hi
    exact memN_mem (List.all_eq_true.mp (show (is.all fun i => memN i own) = true from h) i hi)
def W0 : WX := fun _ _ _ _ => False
def tCond (M : Mo) (rc : Rec) : Option E → TT
  | none => tYes
  | some mc => tEvT M W0 (rc.t mc)
/-- the heart: the reading of a comprehension from the evaluator's -/
theorem comp_read {own : List Nat} {tg : Tg} {it : It} {co : Option E} {elt : E} (hin : tgIn own tg = true) {σ : St} {H : Hp} {Q : VK} (h : tEv M W (stepE cl calls rc (.comp own tg it co elt)) σ H Q) :
    tLc (tEvI M W (evIt rc it)) (gEv M tg) (tCond M rc co) (tEv M W0 (rc.e elt)) own σ H Q := by
  obtain ⟨c, s, hh, ⟨rfl, R, S⟩, g⟩ := h
  have g : Go M c (RV M) ((evComp rc own tg it co elt s hh).bind fun ys h1 => match Nat.ble ys.length line with
    | true => alloc (.lst ys) h1
    | false => .bad) Q (fun cls d H' => W cls d σ H') := g
  unfold evComp at g
  rw [bind_assoc] at g
  refine ⟨c, s, hh, ⟨rfl, R, S⟩, Go.bind g fun src h1 c1 J e1 R1 hJ g1 D hD => ?_⟩
  obtain ⟨zs, h2, er, g2⟩ := noExc_go g1
  obtain ⟨m0, hm0⟩ := compRest_start (compOne rc own tg co elt s) src h1
  rw [er] at hm0
  have S1 := S.ext e1
  refine ⟨fun i m H' => ∃ c' hh' acc ys zs, c'.H = H' ∧ Ext M c1 c' ∧ Unn c' D ∧ RH M c' hh' ∧ c'.H D = some (.lst ys) ∧ RVs M c' acc ys ∧ compRest (compOne rc own tg co elt s) src m i hh' (.ok zs h2) ∧
    Go M c1 (RV M) (match Nat.ble (acc ++ zs).length line with
      | true => alloc (.lst (acc ++ zs)) h2
      | false => .bad) Q (fun cls d H' => W cls d σ H'), ⟨m0, ?_⟩, fun i m H' w => ?_⟩
  · obtain ⟨R', ex⟩ := R1.side (u := .lst []) hD
    exact ⟨c1.upd D (.lst []), h1, [], [], zs, rfl, ex, fun l hl hm => R1.new hD l hl hm, R', upd_same, .nil, hm0, g2⟩
  · obtain ⟨c', hh', acc, ys, zs, rfl, e', un, R', hDs, rvs, rest, g3⟩ := w
    have hlen : (acc ++ zs).length ≤ line := by
      cases q : Nat.ble (acc ++ zs).length line with
      | false => rw [q] at g3; exact g3.elim
      | true => exact ble_true q
    have g4 : Go M c1 (RV M) (alloc (.lst (acc ++ zs)) h2) Q (fun cls d H' => W cls d σ H') := by
      cases q : Nat.ble (acc ++ zs).length line with
      | false => rw [q] at g3; exact g3.elim
      | true => rw [q] at g3; exact g3
    rcases compRest_step rest with ⟨ei, rfl, rfl⟩ | ⟨x, m', o, h3, zs', ei, hm, ef, rest', rfl⟩
    · refine .inl ⟨(hJ c' _ i e' R').2 ei, ?_⟩
      rw [List.append_nil] at g4
      exact go_adopt_lst R' e' hD (by rw [hDs]; exact True.intro) un rvs hDs g4
    · obtain ⟨go, yl⟩ := (hJ c' hh' i e' R').1 x ei
      refine .inr ⟨go, fun H'' => ∃ m', m' < m ∧ ∃ c' hh' acc ys zs, c'.H = H'' ∧ Ext M c1 c' ∧ Unn c' D ∧ RH M c' hh' ∧ c'.H D = some (.lst ys) ∧ RVs M c' acc ys ∧ compRest (compOne rc own tg co elt s) src m' (i + 1) hh' (.ok zs h2) ∧
        Go M c1 (RV M) (match Nat.ble (acc ++ zs).length line with
          | true => alloc (.lst (acc ++ zs)) h2
          | false => .bad) Q (fun cls d H' => W cls d σ H'), fun _ z => z, fun y H3 yy => ?_⟩
      obtain ⟨c3, rfl, e3, R3, ry, _⟩ := yl y H3 yy
      obtain ⟨un3, hD3⟩ := un.ext hDs e3
      unfold compOne at ef
      cases qp : tg.put x (wipeL s own) with
      | none => rw [qp] at ef; cases ef
      | some s2 =>
        rw [qp] at ef
        refine ⟨c3, wipeL s own, x, s2, rfl, ((S1.ext e').ext e3).wipe own, ry, qp, fun σ2 S2 off => ⟨off.wipe (tgIn_mem hin), ?_⟩⟩
        -- the element, laid behind
        have fin : ∀ {c4 : Cf} {h4 : LHeap} {yy : Val}, Ext M c3 c4 → RH M c4 h4 → rc.e elt s2 h4 = .ok yy h3 → o = some yy → tEv M W0 (rc.e elt) σ2 c4.H fun y H4 => ∃ acc, H4 D = some (.lst acc) ∧ acc.length < sizeLine ∧ ∃ m', m' < m ∧ ∃ c' hh' acc' ys zs, c'.H = upd H4 D (.lst (acc ++ [y])) ∧ Ext M c1 c' ∧ Unn c' D ∧ RH M c' hh' ∧ c'.H D = some (.lst ys) ∧ RVs M c' acc' ys ∧ compRest (compOne rc own tg co elt s) src m' (i + 1) hh' (.ok zs h2) ∧
            Go M c1 (RV M) (match Nat.ble (acc' ++ zs).length line with
              | true => alloc (.lst (acc' ++ zs)) h2
              | false => .bad) Q (fun cls d H' => W cls d σ H') := by
          intro c4 h4 yv e4 R4 ee eo
          subst eo
          refine ⟨c4, s2, h4, ⟨rfl, R4, S2.ext e4⟩, ?_⟩
          rw [ee]
          intro c5 z e5 R5 rz
          obtain ⟨un4, hD4⟩ := un3.ext hD3 e4
          obtain ⟨un5, hD5⟩ := un4.ext hD4 e5
          have ex5 : Ext M c1 c5 := ((e'.trans e3).trans e4).trans e5
          have lo : Loose (c5.H D) := by rw [hD5]; exact True.intro
          obtain ⟨R6, x6⟩ := R5.side' (u := .lst (ys ++ [z])) lo fun l o q mo => un5 l (by rw [R5.n]; exact LHeap.get_lt q) (R5.mn l o q mo)
          have r5 := ((rvs.ext e3).ext e4).ext e5
          refine ⟨ys, hD5, ?_, m', hm, c5.upd D (.lst (ys ++ [z])), h3, acc ++ [yv], ys ++ [z], zs', rfl, ex5.side hD, un5, R6, upd_same, (r5.ex x6).append (.cons (rz.ex x6) .nil), rest', ?_⟩
          · have := rvs.length
            rw [List.length_append, List.length_cons] at hlen
            rw [← line_eq]
            omega
          · have ea : acc ++ [yv] ++ zs' = acc ++ yv :: zs' := by simp
            rw [ea]
            exact g3
        have skip : ∀ {c4 : Cf}, Ext M c3 c4 → RH M c4 h3 → o = none → ∃ m', m' < m ∧ ∃ c' hh' acc ys zs, c'.H = c4.H ∧ Ext M c1 c' ∧ Unn c' D ∧ RH M c' hh' ∧ c'.H D = some (.lst ys) ∧ RVs M c' acc ys ∧ compRest (compOne rc own tg co elt s) src m' (i + 1) hh' (.ok zs h2) ∧
            Go M c1 (RV M) (match Nat.ble (acc ++ zs).length line with
              | true => alloc (.lst (acc ++ zs)) h2
              | false => .bad) Q (fun cls d H' => W cls d σ H') := by
          intro c4 e4 R4 eo
          subst eo
          obtain ⟨un4, hD4⟩ := un3.ext hD3 e4
          exact ⟨m', hm, c4, h3, acc, ys, zs', rfl, (e'.trans e3).trans e4, un4, R4, hD4, (rvs.ext e3).ext e4, rest', g3⟩
        cases co with
        | none =>
          obtain ⟨yv, h4, ee, eo⟩ := bind_ok ef
          cases eo
          exact fin (Ext.refl c3) R3 ee rfl
        | some mc =>
          obtain ⟨b, h4, ee, eo⟩ := bind_ok ef
          refine ⟨c3, s2, hh', ⟨rfl, R3, S2⟩, ?_⟩
          rw [ee]
          intro c4 b' e4 R4 eb
          subst eb
          cases b with
          | true =>
            rw [if_pos rfl]
            obtain ⟨yv, h5, ee', eo'⟩ := bind_ok eo
            cases eo'
            exact fin e4 R4 ee' rfl
          | false =>
            rw [if_neg (by decide)]
            cases eo
            exact skip e4 R4 rfl
def CondOk (M : Mo) (rc : Rec) (X' : Cx) (ifs : List Expr) (co : Option E) : Prop := match co, ifs with
  | none, [] => True
  | some mc, [cc] => PT X' cc (tEvT M W0 (rc.t mc))
  | _, _ => False
theorem PTs.cond {X' : Cx} {ifs : List Expr} {co : Option E} (h : CondOk M rc X' ifs co) : PTs X' ifs (tCond M rc co) := by
  cases co with
  | none =>
    cases ifs with
    | nil => exact pts_nil
    | cons _ _ => exact h.elim
  | some mc =>
    cases ifs with
    | nil => exact h.elim
    | cons cc r =>
      cases r with
      | nil => exact pts_one h
      | cons _ _ => exact h.elim
/-- the block's context -/
theorem Gd.blk (G : Gd M X N sc k W) {scope : Scope} {own : List (Str × Nat)} (ok : BlkOk N sc scope own) (s : Shared) (H : Hp) (C : Addr) (cls : List (Str × Addr)) (fp : List Addr) : Gd M (X.blk s H scope (compEnvC scope cls C X.env) fp) N (relS scope sc) k W0 := by
  refine ⟨G.hP, G.hw, G.hK, G.hmg, G.hbase, G.hN, G.nd, ?_, ok.kind, G.calm, G.room, takes0⟩
  rw [← G.hsc]; rfl
theorem rel_lookup {scope sc : Scope} {x : Str} {kd : NameKind} (hk : kd ≠ .free) (h : scope.names.lookup x = some kd) : (relS scope sc).names.lookup x = some kd := by
  show (scope.names.map fun (n, k) => if (k == .free && sc.kind == .function && sc.names.lookup n == some .cell) then (n, .cell) else (n, k)).lookup x = some kd
  revert h
  generalize scope.names = l
  induction l with
  | nil => intro h; cases h
  | cons p l ih =>
    obtain ⟨n, k1⟩ := p
    intro h
    rw [List.lookup_cons] at h
    rw [List.map_cons]
    cases q : x == n with
    | true =>
      rw [q] at h
      cases h
      have e : (kd == NameKind.free) = false := by cases kd <;> first | rfl | exact absurd rfl hk
      dsimp only
      rw [e]
      simp [List.lookup_cons, q]
    | false =>
      rw [q] at h
      dsimp only
      split
      · rw [List.lookup_cons, q]; exact ih h
      · rw [List.lookup_cons, q]; exact ih h
/-- in a block: its own names may be set -/
theorem FnP.blk (G : Gd M X N sc k W) {scope : Scope} (s : Shared) (H : Hp) (C : Addr) (cls : List (Str × Addr)) (fp : List Addr) : FnP (X.blk s H scope (compEnvC scope cls C X.env) fp) scope isLoc := fun x h => by
  have hs : (X.blk s H scope (compEnvC scope cls C X.env) fp).env.scope = relS scope sc := by rw [← G.hsc]; rfl
  rw [look_eq] at h
  cases e : scope.names.lookup x with
  | none => rw [e] at h; cases h
  | some kd =>
    rw [e] at h
    cases kd <;> first | (cases h; done) | skip
    · have z := rel_lookup (sc := sc) (by decide) e
      refine ⟨.inl (by rw [hs]; exact z), .inr (by rw [hs]; exact z)⟩
    · have z := rel_lookup (sc := sc) (by decide) e
      refine ⟨.inr (by rw [hs]; exact z), .inl ?_⟩
      show (scope.names.lookup x == some .cell) = true
      rw [e]; rfl
theorem se_comp (G : Gd M X N sc k W) {el t i : Expr} {ifs : List Expr} {scope : Scope} {own : List Nat} {tg : Tg} {it : It} {co : Option E} {elt : E} (hi : PI X t i (tEvI M W (evIt rc it))) (hin : tgIn own tg = true) (hb : blkC N sc scope (ownOf N own) = true) (ho : (ownOf N own).map (·.2) = own)
    (hg : ckTg N isLoc scope t tg = true) (hc : ∀ X', Gd M X' N (relS scope sc) k W0 → CondOk M rc X' ifs co) (he : ∀ X', Gd M X' N (relS scope sc) k W0 → PE X' el (tEv M W0 (rc.e elt))) (hs : ∀ x, foldedSetIterable i X.env x = pure x) :
    PE X (.ListComp el [⟨t, i, ifs, 0⟩] scope pos) (tEv M W (stepE cl calls rc (.comp own tg it co elt))) := by
  have ok := blkOk_by hb
  refine PE.of (pe_lc (own := ownOf N own) G.calm (by rw [G.hN]; exact G.nd) hi (by rw [G.hN, G.hsc]; exact ok) (fun s H C cs fp => sg (G.blk ok s H C cs fp) (FnP.blk G s H C cs fp) hg) (fun s H C cs fp => PTs.cond (hc _ (G.blk ok s H C cs fp))) (fun s H C cs fp => he _ (G.blk ok s H C cs fp)) hs) fun σ H Q h => ?_
  rw [ho]
  exact comp_read hin h
/-- name = [..] on one line -/
theorem ss_lc (G : Gd M X N sc k W) {el t i : Expr} {ifs : List Expr} {scope : Scope} {own : List Nat} {tg : Tg} {it : It} {co : Option E} {elt : E} {y : Str} {py spos : Pos} {j : Nat} (hy : nthS N j y = true) (hyl : isLc (look sc.names y) = true)
    (hsw : swapsWith (.ListComp el [⟨t, i, ifs, 0⟩] scope pos) (some (.Name y py)) spos.line X.env = pure true) (hi : PI X t i (tEvI M W (evIt rc it))) (hin : tgIn own tg = true) (hb : blkC N sc scope (ownOf N own) = true) (ho : (ownOf N own).map (·.2) = own)
    (hg : ckTg N isLoc scope t tg = true) (hc : ∀ X', Gd M X' N (relS scope sc) k W0 → CondOk M rc X' ifs co) (he : ∀ X', Gd M X' N (relS scope sc) k W0 → PE X' el (tEv M W0 (rc.e elt))) (hs : ∀ x, foldedSetIterable i X.env x = pure x) :
    PS X (.Assign [.Name y py] (.ListComp el [⟨t, i, ifs, 0⟩] scope pos) spos) (tAsg (tEv M W (stepE cl calls rc (.comp own tg it co elt))) (gName j)) := by
  have ok := blkOk_by hb
  have hl : X.env.scope.names.lookup y = some .local := by
    rw [look_eq] at hyl
    rw [G.hsc]
    cases e : sc.names.lookup y with
    | none => rw [e] at hyl; cases hyl
    | some kd => rw [e] at hyl; cases kd <;> first | rfl | cases hyl
  have z := ps_setLc (i := j) (own := ownOf N own) G.calm (by rw [G.hN]; exact G.nd) (by rw [G.hN]; exact nthS_eq hy) hl hsw hi (by rw [G.hN, G.hsc]; exact ok) (fun s H C cs fp => sg (G.blk ok s H C cs fp) (FnP.blk G s H C cs fp) hg) (fun s H C cs fp => PTs.cond (hc _ (G.blk ok s H C cs fp))) (fun s H C cs fp => he _ (G.blk ok s H C cs fp)) hs
  refine ⟨fun pins s σ H D I q => z.run pins s σ H D I ?_⟩
  have q' := comp_read hin q
  rw [ho]
  exact q'
end
end Ev

set_option Elab.async false
set_option linter.all false
set_option maxRecDepth 100000
set_option maxHeartbeats 2000000
/-! Statements, one construct at a time. -/
namespace Ev
open PySem PySem.Spec PyProof.Rows L2
/-- from c, a statement's result -/
def GoS (M : Mo) (c : Cf) (r : RS) (D : Ends) (W : WX) : Prop := match r with
  | .ok f h => (match f with
    | .nx s => ∀ c' σ', Ext M c c' → RH M c' h → RSl M c' s σ' → D.nx σ' c'.H
    | .rt v => ∀ c' y, Ext M c c' → RH M c' h → RV M c' v y → D.rt y c'.H
    | .bk s => ∀ c' σ', Ext M c c' → RH M c' h → RSl M c' s σ' → D.bk σ' c'.H
    | .ct s => ∀ c' σ', Ext M c c' → RH M c' h → RSl M c' s σ' → D.ct σ' c'.H)
  | .exc k fs s h => ∀ c' cls d σ', Ext M c c' → RH M c' h → RSl M c' s σ' → RX M c' k fs cls d → W cls d σ' c'.H
  | .bad => False
def tEvS (M : Mo) (W : WX) (m : LSt → LHeap → RS) : TS := fun D σ H => ∃ c s h, At M c s h σ H ∧ GoS M c (m s h) D W
structure Gs (M : Mo) (X : Cx) (N : List Str) (sc : Scope) (k : Nat) (W : WX) : Prop where
  g : Gd M X N sc k W
  fl : FnP X sc isLoc
  po : PassesOwn (model X.prog X.w) X.A X.env X.xe
  st : X.stack = X.env :: X.outer
  fr : X.env.frame = some X.env.locals
section
variable {M : Mo} {X : Cx} {N : List Str} {sc : Scope} {k : Nat} {W : WX} {md : Md} {cl : Cl} {calls : Nat → List Val → LHeap → Res Val} {rc : Rec} {pos : Pos}
theorem PS.of {st : Stmt} {t t' : TS} (h : PS X st t) (hi : ∀ D σ H, t' D σ H → t D σ H) : PS X st t' := ⟨fun pins s σ H D I q => h.run pins s σ H D I (hi D σ H q)⟩
theorem PSs.of {st : List Stmt} {t t' : TS} (h : PSs X st t) (hi : ∀ D σ H, t' D σ H → t D σ H) : PSs X st t' := ⟨fun pins s σ H D I q => h.run pins s σ H D I (hi D σ H q)⟩
theorem PS.bad {st : Stmt} {m : LSt → LHeap → RS} (h : ∀ s hh, m s hh = .bad) : PS X st (tEvS M W m) := ⟨fun pins s σ H D I q => by
  obtain ⟨c, s, hh, a, g⟩ := q
  rw [h] at g
  exact g.elim⟩
theorem GoS.ext {c c1 : Cf} {r : RS} {D : Ends} (e : Ext M c c1) (g : GoS M c r D W) : GoS M c1 r D W := by
  cases r with
  | ok f h =>
    cases f with
    | nx s => exact fun c' σ' e' => g c' σ' (e.trans e')
    | rt v => exact fun c' y e' => g c' y (e.trans e')
    | bk s => exact fun c' σ' e' => g c' σ' (e.trans e')
    | ct s => exact fun c' σ' e' => g c' σ' (e.trans e')
  | exc kk fs s h => exact fun c' cls d σ' e' => g c' cls d σ' (e.trans e')
  | bad => exact g
/-- an expression ahead of a statement's end -/
theorem GoS.inS {α β : Type} {c : Cf} {σ : St} {RR : Cf → α → β → Prop} {r : Res α} {s : LSt} {kk : α → LHeap → RS} {D : Ends} {Q1 : β → Hp → Prop} (S : RSl M c s σ) (g : GoS M c (r.inS s kk) D W)
    (h1 : ∀ a h c1 b, Ext M c c1 → RH M c1 h → RR c1 a b → GoS M c1 (kk a h) D W → Q1 b c1.H) : Go M c RR r Q1 (fun cls d H' => W cls d σ H') := by
  cases r with
  | ok a h =>
    intro c1 b e R r
    exact h1 a h c1 b e R r (GoS.ext e (show GoS M c (kk a h) D W from g))
  | exc kk fs h => exact fun c' cls d e R x => g c' cls d σ e R (S.ext e) x
  | bad => exact g
theorem ss_nil : PSs X [] (tEvS M W (execs rc [])) := PSs.of pss_nil fun D σ H ⟨c, s, h, ⟨e, R, S⟩, g⟩ => by
  subst e
  exact g c σ (Ext.refl c) R S
theorem ss_cons {st : Stmt} {sts : List Stmt} {m : S} {ms : List S} (h1 : PS X st (tEvS M W (rc.s m))) (h2 : PSs X sts (tEvS M W (execs rc ms))) : PSs X (st :: sts) (tEvS M W (execs rc (m :: ms))) := PSs.of (pss_cons h1 h2) fun D σ H ⟨c, s, h, ⟨e, R, S⟩, g⟩ => by
  subst e
  refine ⟨c, s, h, ⟨rfl, R, S⟩, ?_⟩
  have g' : GoS M c (match rc.s m s h with
    | .ok (.nx s1) h1 => execs rc ms s1 h1
    | r => r) D W := g
  cases q : rc.s m s h with
  | ok f h1 =>
    rw [q] at g'
    cases f with
    | nx s1 => exact fun c1 σ1 e1 R1 S1 => ⟨c1, s1, h1, ⟨rfl, R1, S1⟩, GoS.ext e1 g'⟩
    | rt v => exact g'
    | bk s => exact g'
    | ct s => exact g'
  | exc kk fs s1 h1 => rw [q] at g'; exact g'
  | bad => rw [q] at g'; exact g'
theorem ss_pass : PS X (.Pass pos) (tEvS M W (stepS cl rc .pass)) := PS.of ps_pass fun D σ H ⟨c, s, h, ⟨e, R, S⟩, g⟩ => by subst e; exact g c σ (Ext.refl c) R S
theorem ss_brk : PS X (.Break pos) (tEvS M W (stepS cl rc .brk)) := PS.of ps_break fun D σ H ⟨c, s, h, ⟨e, R, S⟩, g⟩ => by subst e; exact g c σ (Ext.refl c) R S
theorem ss_cont : PS X (.Continue pos) (tEvS M W (stepS cl rc .cont)) := PS.of ps_continue fun D σ H ⟨c, s, h, ⟨e, R, S⟩, g⟩ => by subst e; exact g c σ (Ext.refl c) R S
theorem ss_doc {x : Str} {j : Nat} {p : Pos} : PS X (.Expr (.Constant (.str x) j p) pos) (tEvS M W (stepS cl rc .pass)) := PS.of ps_doc fun D σ H ⟨c, s, h, ⟨e, R, S⟩, g⟩ => by subst e; exact g c σ (Ext.refl c) R S
theorem ss_retN : PS X (.Return none pos) (tEvS M W (stepS cl rc .retN)) := PS.of ps_retN fun D σ H ⟨c, s, h, ⟨e, R, S⟩, g⟩ => by subst e; exact g c .non (Ext.refl c) R .non
theorem ss_ret {e : Expr} {m : E} (he : PE X e (tEv M W (rc.e m))) : PS X (.Return (some e) pos) (tEvS M W (stepS cl rc (.ret m))) := PS.of (ps_ret he) fun D σ H ⟨c, s, h, ⟨e, R, S⟩, g⟩ => by
  subst e
  exact ⟨c, s, h, ⟨rfl, R, S⟩, GoS.inS S g fun v h1 c1 y e1 R1 r g1 => g1 c1 y (Ext.refl c1) R1 r⟩
theorem notComp_swap {e : Expr} {tg : Option Expr} {n : Nat} {env : Env} (h : notComp e = true) : swapsWith e tg n env = pure false := by cases e <;> first | rfl | cases h
theorem ss_ex {e : Expr} {m : E} (hn : notComp e = true) (he : PE X e (tEv M W (rc.e m))) : PS X (.Expr e pos) (tEvS M W (stepS cl rc (.ex m))) := PS.of (ps_expr he (notComp_swap hn)) fun D σ H ⟨c, s, h, ⟨e, R, S⟩, g⟩ => by
  subst e
  exact ⟨c, s, h, ⟨rfl, R, S⟩, GoS.inS S g fun v h1 c1 y e1 R1 r g1 => g1 c1 σ (Ext.refl c1) R1 (S.ext e1)⟩
/-- what an assignment to a name reads -/
theorem set_read {i : Nat} {m : E} {D : Ends} {σ : St} {H : Hp} (h : tEvS M W (stepS cl rc (.set i m)) D σ H) : tAsg (tEv M W (rc.e m)) (gName i) D σ H := by
  obtain ⟨c, s, h, ⟨e, R, S⟩, g⟩ := h
  subst e
  exact ⟨c, s, h, ⟨rfl, R, S⟩, GoS.inS S g fun v h1 c1 y e1 R1 r g1 => g1 c1 _ (Ext.refl c1) R1 ((S.ext e1).set i r)⟩
theorem ss_set (G : Gs M X N sc k W) {x : Str} {p : Pos} {e : Expr} {i : Nat} {m : E} (hi : nthS N i x = true) (hl : isLoc (look sc.names x) = true) (he : PE X e (tEv M W (rc.e m))) (hs : swapsWith e (some (.Name x p)) pos.line X.env = pure false) :
    PS X (.Assign [.Name x p] e pos) (tEvS M W (stepS cl rc (.set i m))) :=
  PS.of (ps_set (i := i) (by rw [G.g.hN]; exact G.g.nd) (by rw [G.g.hN]; exact nthS_eq hi) (G.fl x hl).1 he hs (G.fl x hl).2) fun D σ H h => set_read h
theorem ss_setLc {st : Stmt} {i : Nat} {m : E} (h : PS X st (tAsg (tEv M W (rc.e m)) (gName i))) : PS X st (tEvS M W (stepS cl rc (.set i m))) := PS.of h fun D σ H h => set_read h
theorem nat_beq (a b : Nat) : (a == b) = Nat.beq a b := by
  cases h : Nat.beq a b with
  | true => rw [Nat.eq_of_beq_eq_true h]; simp
  | false => simp; exact Nat.ne_of_beq_eq_false h
/-- the compiler's turn of a comprehension and its name -/
def swB (sc scope : Scope) (t : Str) (l1 l2 : Nat) : Bool := isLc (look sc.names t) && Nat.beq l1 l2 && !(scope.names.any fun p => strEq p.1 t && isLoc (some p.2))
theorem swB_ok (G : Gd M X N sc k W) {el : Expr} {gs : List Comprehension} {scope : Scope} {t : Str} {p cp : Pos} {n : Nat} : swapsWith (.ListComp el gs scope cp) (some (.Name t p)) n X.env = pure (swB sc scope t p.line cp.line) := by
  show (pure (X.env.blockKind == .function && X.env.kindOf t == some .local && p.line == cp.line && !(scope.names.any fun (n, k) => n == t && (k == .local || k == .cell))) : Sem Bool) = _
  have hk : X.env.blockKind = .function := by unfold Env.blockKind; rw [G.hsc, G.kd]; rfl
  have e1 : (X.env.blockKind == ScopeKind.function) = true := by rw [hk]; rfl
  have e2 : (X.env.kindOf t == some NameKind.local) = isLc (look sc.names t) := by
    unfold Env.kindOf
    rw [G.hsc, look_eq]
    cases sc.names.lookup t with
    | none => rfl
    | some kd => cases kd <;> rfl
  have e3 : (p.line == cp.line) = Nat.beq p.line cp.line := nat_beq _ _
  have e4 : (scope.names.any fun (x : Str × NameKind) => x.1 == t && (x.2 == .local || x.2 == .cell)) = scope.names.any fun p => strEq p.1 t && isLoc (some p.2) := by
    congr 1
    funext ⟨x, kd⟩
    rw [strEq_beq]
    cases kd <;> rfl
  rw [e1, e2, e3]
  unfold swB
  rw [← e4]
  rfl
/-! ### targets of a tuple -/
theorem ss_unp (G : Gs M X N sc k W) {tg e : Expr} {is : List Nat} {m : E} (hg : ckTg N isLoc sc tg (.tup is) = true) (hn : notComp e = true) (he : PE X e (tEv M W (rc.e m))) (hw : swappedStores [tg] e X.env = pure none) : PS X (.Assign [tg] e pos) (tEvS M W (stepS cl rc (.unp is m))) := by
  have h1 : (assignEach [tg] X.env).map (·.2) = [assign tg X.env] := by
    cases tg <;> first | (cases hg; done) | rfl
  refine PS.of (ps_asg he (sg G.g G.fl hg) (notComp_swap hn) hw h1) fun D σ H ⟨c, s, h, ⟨e, R, S⟩, g⟩ => ?_
  subst e
  refine ⟨c, s, h, ⟨rfl, R, S⟩, GoS.inS S g fun v h1 c1 y e1 R1 r g1 => ?_⟩
  cases q : Tg.put (.tup is) v s with
  | none => rw [q] at g1; exact g1.elim
  | some s1 =>
    rw [q] at g1
    exact ⟨c1, s, v, s1, rfl, S.ext e1, r, q, fun σ1 S1 _ => g1 c1 σ1 (Ext.refl c1) R1 S1⟩
def notTup : Expr → Bool
  | .Tuple _ _ _ => false
  | _ => true
theorem swapped_notTup {tg e : Expr} {env : Env} (h : notTup e = true) : swappedStores [tg] e env = pure none := by
  cases tg <;> cases e <;> first | rfl | cases h
theorem swapped_folded {ts es : List Expr} {a b : Nat} {p q : Pos} {env : Env} (h : es.all (foldedForSure 8) = true) : swappedStores [.Tuple ts a p] (.Tuple es b q) env = pure none := by
  unfold swappedStores
  simp only [h, if_true]
  repeat (first | rfl | split)
def isStarE : Expr → Bool
  | .Starred _ _ => true
  | _ => false
theorem swapped_par (G : Gd M X N sc k W) {x y : Str} {px py pt p2 : Pos} {a b : Expr} {kt k2 : Nat} (hx : isLc (look sc.names x) = true) (hy : isLc (look sc.names y) = true) (hxy : strEq x y = false) (hp : Nat.beq py.line px.line = true) (ha : notStar a = true) (hb : notStar b = true)
    (hf : (foldedForSure 8 a && foldedForSure 8 b) = false) (hc : (constantsAlone 8 a && constantsAlone 8 b) = false) :
    swappedStores [.Tuple [.Name x px, .Name y py] kt pt] (.Tuple [a, b] k2 p2) X.env = pure (some [x, y]) := by
  have hk : X.env.blockKind = .function := by unfold Env.blockKind; rw [G.hsc, G.kd]; rfl
  have lc : ∀ {z : Str}, isLc (look sc.names z) = true → (X.env.kindOf z == some NameKind.local) = true := fun {z} h => by
    unfold Env.kindOf
    rw [G.hsc]
    rw [look_eq] at h
    cases e : sc.names.lookup z with
    | none => rw [e] at h; cases h
    | some kd => rw [e] at h; cases kd <;> first | rfl | cases h
  have sa : ∀ {e : Expr}, notStar e = true → (match e with | .Starred .. => true | _ => false) = false := fun {e} h => by cases e <;> first | rfl | cases h
  have hpe : (py.line == px.line) = true := by rw [nat_beq]; exact hp
  have hne : (x == y) = false := by rw [← strEq_beq]; exact hxy
  have hne' : (y == x) = false := by
    cases e : y == x with
    | false => rfl
    | true =>
      have := eq_of_beq e
      rw [this] at hne
      simp at hne
  have hst : ∀ f : Expr → Bool, (∀ e, notStar e = true → f e = false) → [a, b].any f = false := fun f hf => by
    rw [List.any_cons, List.any_cons, hf a ha, hf b hb]; rfl
  have hnm : ∀ f : Expr → Option Str, f (.Name x px) = some x → f (.Name y py) = some y → [Expr.Name x px, Expr.Name y py].filterMap f = [x, y] := fun f h1 h2 => by
    rw [List.filterMap_cons_some h1, List.filterMap_cons_some h2]; rfl
  have hdup : ([x, y].eraseDups.length != 2) = false := by
    simp [List.eraseDups_cons, hne']
  have hfo : [a, b].all (foldedForSure 8) = false := by simpa [List.all_cons] using hf
  have hco : [a, b].all (constantsAlone 8) = false := by simpa [List.all_cons] using hc
  unfold swappedStores
  dsimp only
  rw [if_neg (by rw [hk]; show ¬ (false = true); decide), if_neg (by rw [hst _ (fun e h => by cases e <;> first | rfl | cases h)]; decide)]
  rw [hnm _ (by show (if _ then _ else _) = _; rw [if_pos]; rw [lc hx]; simp; rfl) (by show (if _ then _ else _) = _; rw [if_pos]; rw [lc hy]; exact hpe)]
  rw [if_neg (by show ¬ ((false || ([x, y].eraseDups.length != 2)) = true); rw [hdup]; decide), if_neg (by rw [hfo]; decide), if_neg (by rw [hco]; decide)]
theorem ss_par (G : Gs M X N sc k W) {x y : Str} {px py pt p2 : Pos} {a b : Expr} {kt k2 i j : Nat} {ma mb : E} (hi : nthS N i x = true) (hj : nthS N j y = true) (hx : isLc (look sc.names x) = true) (hy : isLc (look sc.names y) = true) (hxy : strEq x y = false) (hp : Nat.beq py.line px.line = true) (ha : notStar a = true) (hb : notStar b = true)
    (hf : (foldedForSure 8 a && foldedForSure 8 b) = false) (hc : (constantsAlone 8 a && constantsAlone 8 b) = false) (pa : PE X a (tEv M W (rc.e ma))) (pb : PE X b (tEv M W (rc.e mb))) :
    PS X (.Assign [.Tuple [.Name x px, .Name y py] kt pt] (.Tuple [a, b] k2 p2) pos) (tEvS M W (stepS cl rc (.par i j ma mb))) := by
  have lc : ∀ {z : Str}, isLc (look sc.names z) = true → X.env.scope.names.lookup z = some .local := fun {z} h => by
    rw [G.g.hsc]
    rw [look_eq] at h
    cases e : sc.names.lookup z with
    | none => rw [e] at h; cases h
    | some kd => rw [e] at h; cases kd <;> first | rfl | cases h
  have hij : i ≠ j := fun z => by
    subst z
    have h1 := nthS_eq hi
    rw [nthS_eq hj] at h1
    have h2 := Option.some.inj h1
    rw [h2, strEq_iff.mpr rfl] at hxy
    cases hxy
  refine PS.of (ps_par (i := i) (j := j) G.g.calm (by rw [G.g.hN]; exact G.g.nd) (by rw [G.g.hN]; exact nthS_eq hi) (by rw [G.g.hN]; exact nthS_eq hj) hij (lc hx) (lc hy) (pa_cons pa (pa_cons pb pa_nil (notStar_each hb)) (notStar_each ha)) (swapped_par G.g hx hy hxy hp ha hb hf hc)) fun D σ H ⟨c, s, h, ⟨e, R, S⟩, g⟩ => ?_
  subst e
  refine ⟨c, s, h, ⟨rfl, R, S⟩, GoS.inS S g fun v h1 c1 y e1 R1 r g1 => ⟨c1, s, h1, ⟨rfl, R1, S.ext e1⟩, GoS.inS (S.ext e1) g1 fun u h2 c2 z e2 R2 r2 g2 => ⟨_, _, rfl, ?_⟩⟩⟩
  exact g2 c2 _ (Ext.refl c2) R2 ((((S.ext e1).ext e2).set i (r.ext e2)).set j r2)
theorem ss_ife {ce : Expr} {as bs : List Stmt} {mc : E} {ma mb : List S} (hc : PT X ce (tEvT M W (rc.t mc))) (ha : PSs X as (tEvS M W (execs rc ma))) (hb : PSs X bs (tEvS M W (execs rc mb))) : PS X (.If ce as bs pos) (tEvS M W (stepS cl rc (.ife mc ma mb))) :=
  PS.of (ps_if hc ha hb) fun D σ H ⟨c, s, h, ⟨e, R, S⟩, g⟩ => by
    subst e
    refine ⟨c, s, h, ⟨rfl, R, S⟩, GoS.inS S g fun b h1 c1 b' e1 R1 r g1 => ?_⟩
    subst r
    cases b with
    | true => exact ⟨c1, s, h1, ⟨rfl, R1, S.ext e1⟩, g1⟩
    | false => exact ⟨c1, s, h1, ⟨rfl, R1, S.ext e1⟩, g1⟩
/-! ### d[k] = v -/
theorem go_store_dK {l : Nat} {xs : List (Key × Val)} {ys : List (Key × V)} {c : Cf} {h : LHeap} {σ : St} {s : LSt} {D : Ends} {o : LObj} (R : RH M c h) (S : RSl M c s σ) (e : h.get l = some o) (mo : o.mut = true) (lo : Loose (c.H (c.r l))) (r : RK Key M c xs ys)
    (g : GoS M c ((store l (.dK xs) h ()).inS s fun _ h4 => .ok (.nx s) h4) D W) : D.nx σ (upd c.H (c.r l) (.dK ys)) := by
  unfold store at g
  have ex : Ext M c (c.upd (c.r l) (.dK ys)) := Cf.upd_ext lo (.inr ⟨l, by rw [R.n]; exact LHeap.get_lt e, R.mn l o e mo, rfl⟩)
  exact g (c.upd (c.r l) (.dK ys)) σ ex (R.put e mo rfl lo (.dK upd_same (r.ext ex))) (S.ext ex)
theorem go_store_dT {l : Nat} {xs : List (List Key × Val)} {ys : List (List Key × V)} {c : Cf} {h : LHeap} {σ : St} {s : LSt} {D : Ends} {o : LObj} (R : RH M c h) (S : RSl M c s σ) (e : h.get l = some o) (mo : o.mut = true) (lo : Loose (c.H (c.r l))) (r : RK (List Key) M c xs ys)
    (g : GoS M c ((store l (.dT xs) h ()).inS s fun _ h4 => .ok (.nx s) h4) D W) : D.nx σ (upd c.H (c.r l) (.dT ys)) := by
  unfold store at g
  have ex : Ext M c (c.upd (c.r l) (.dT ys)) := Cf.upd_ext lo (.inr ⟨l, by rw [R.n]; exact LHeap.get_lt e, R.mn l o e mo, rfl⟩)
  exact g (c.upd (c.r l) (.dT ys)) σ ex (R.put e mo rfl lo (.dT upd_same (r.ext ex))) (S.ext ex)
theorem ss_put (G : Gs M X N sc k W) {o i e : Expr} {p : Pos} {mo mi me : E} (hn : notComp e = true) (ho : PE X o (tEv M W (rc.e mo))) (hi : PE X i (tEv M W (rc.e mi))) (he : PE X e (tEv M W (rc.e me))) :
    PS X (.Assign [.Subscript o i p] e pos) (tEvS M W (stepS cl rc (.put mo mi me))) := by
  have hu : X.A.units + 1 < cLine := by have := G.g.un; omega
  refine PS.of (ps_dput hu ho hi he (notComp_swap hn)) fun D σ H ⟨c, s, h, ⟨e, R, S⟩, g⟩ => ?_
  subst e
  refine ⟨c, s, h, ⟨rfl, R, S⟩, GoS.inS S g fun v h1 c1 y1 e1 R1 r1 g1 => ⟨c1, s, h1, ⟨rfl, R1, S.ext e1⟩, GoS.inS (S.ext e1) g1 fun x h2 c2 y2 e2 R2 r2 g2 => ⟨c2, s, h2, ⟨rfl, R2, (S.ext e1).ext e2⟩, GoS.inS ((S.ext e1).ext e2) g2 fun y h3 c3 y3 e3 R3 r3 g3 => ?_⟩⟩⟩
  have S3 := ((S.ext e1).ext e2).ext e3
  have rx := r2.ext e3
  have rv := (r1.ext e2).ext e3
  cases rx with
  | @ref l hl =>
    have g4 := g3
    dsimp only at g4
    cases q : h3.get l with
    | none => rw [q] at g4; exact g4.elim
    | some ob =>
      rw [q] at g4
      cases ob with
      | dK kvs =>
        dsimp only at g4
        obtain ⟨ys, hy, rk⟩ := R3.dK q
        cases qk : keyOf y with
        | none => rw [qk] at g4; exact g4.elim
        | some kk =>
          rw [qk] at g4
          cases ql : Nat.blt kvs.length line with
          | false => rw [ql] at g4; exact g4.elim
          | true =>
            rw [ql] at g4
            have hz := keyOf_rv r3 qk
            subst hz
            exact ⟨_, _, rfl, .k hy (by rw [← rk.length, ← line_eq]; exact blt_true ql), go_store_dK R3 S3 q rfl (by rw [hy]; exact True.intro) (putKV_rv rv rk) g4⟩
      | dT kvs =>
        dsimp only at g4
        obtain ⟨ys, hy, rk⟩ := R3.dT q
        cases r3 with
        | @tup us a zs ht rr =>
          dsimp only at g4
          cases qk : keysOf us with
          | none => rw [qk] at g4; exact g4.elim
          | some kk =>
            rw [qk] at g4
            cases ql : Nat.blt kvs.length line with
            | false => rw [ql] at g4; exact g4.elim
            | true =>
              rw [ql] at g4
              have hz := keysOf_rv rr qk
              subst hz
              exact ⟨_, _, rfl, .t hy ht (by rw [← rk.length, ← line_eq]; exact blt_true ql), go_store_dT R3 S3 q rfl (by rw [hy]; exact True.intro) (putTV_rv rv rk) g4⟩
        | _ => exact g4.elim
      | _ => exact g4.elim
  | _ => exact g3.elim
end
end Ev

set_option Elab.async false
set_option linter.all false
set_option maxRecDepth 100000
set_option maxHeartbeats 2000000
/-! Loops. -/
namespace Ev
open PySem PySem.Spec PyProof.Rows L2
section
variable {M : Mo} {X : Cx} {N : List Str} {sc : Scope} {k : Nat} {W : WX} {md : Md} {cl : Cl} {calls : Nat → List Val → LHeap → Res Val} {rc : Rec} {pos : Pos}
def loopRest (f : Val → LSt → LHeap → RS) (src : Src) (m i : Nat) (s : LSt) (h : LHeap) (r : RS) : Prop := match src with
  | .st xs => (xs.drop i).length = m ∧ r = loopSt f (xs.drop i) s h
  | src => r = loopDyn f src m i s h
theorem loopRest_start (f : Val → LSt → LHeap → RS) (src : Src) (s : LSt) (h : LHeap) : ∃ m, loopRest f src m 0 s h (loopAll f src s h) := by
  cases src with
  | st xs => exact ⟨_, rfl, rfl⟩
  | dyn l => exact ⟨_, rfl⟩
  | dynE l => exact ⟨_, rfl⟩
theorem loopDyn_step {f : Val → LSt → LHeap → RS} {src : Src} {m i : Nat} {s : LSt} {h : LHeap} (hb : loopDyn f src m i s h ≠ .bad) :
    (itemAt src i h = some none ∧ loopDyn f src m i s h = .ok (.nx s) h) ∨ ∃ x m', itemAt src i h = some (some x) ∧ m' < m ∧ loopDyn f src m i s h = turn (f x s h) (loopDyn f src m' (i + 1)) := by
  cases m with
  | zero => exact absurd rfl hb
  | succ m =>
    unfold loopDyn at hb ⊢
    cases q : itemAt src i h with
    | none => rw [q] at hb; exact absurd rfl hb
    | some o =>
      cases o with
      | none => exact .inl ⟨rfl, rfl⟩
      | some x => exact .inr ⟨x, m, rfl, Nat.lt_succ_self m, rfl⟩
theorem loopRest_step {f : Val → LSt → LHeap → RS} {src : Src} {m i : Nat} {s : LSt} {h : LHeap} {r : RS} (hr : loopRest f src m i s h r) (hb : r ≠ .bad) :
    (itemAt src i h = some none ∧ r = .ok (.nx s) h) ∨ ∃ x m' kk, itemAt src i h = some (some x) ∧ m' < m ∧ r = turn (f x s h) kk ∧ ∀ s1 h1, loopRest f src m' (i + 1) s1 h1 (kk s1 h1) := by
  cases src with
  | st xs =>
    obtain ⟨hm, e⟩ := hr
    cases q : xs.drop i with
    | nil =>
      rw [q] at e
      exact .inl ⟨congrArg some (drop_nth0 q), e⟩
    | cons x ys =>
      rw [q] at e hm
      obtain ⟨hx, hd⟩ := drop_nth q
      refine .inr ⟨x, ys.length, loopSt f ys, congrArg some hx, by rw [← hm]; exact Nat.lt_succ_self _, e, fun s1 h1 => ⟨by rw [hd], by rw [hd]⟩⟩
  | dyn l =>
    have e : r = loopDyn f (.dyn l) m i s h := hr
    subst e
    rcases loopDyn_step hb with z | ⟨x, m', a, b, c⟩
    · exact .inl z
    · exact .inr ⟨x, m', _, a, b, c, fun _ _ => rfl⟩
  | dynE l =>
    have e : r = loopDyn f (.dynE l) m i s h := hr
    subst e
    rcases loopDyn_step hb with z | ⟨x, m', a, b, c⟩
    · exact .inl z
    · exact .inr ⟨x, m', _, a, b, c, fun _ _ => rfl⟩
theorem GoS.nbad {c : Cf} {r : RS} {D : Ends} (g : GoS M c r D W) : r ≠ .bad := fun e => by rw [e] at g; exact g
/-- a turn's end -/
theorem GoS.turn {c : Cf} {r : RS} {kk : LSt → LHeap → RS} {D : Ends} {Nx : St → Hp → Prop} (g : GoS M c (turn r kk) D W) (h : ∀ s h1 c1 σ1, Ext M c c1 → RH M c1 h1 → RSl M c1 s σ1 → GoS M c1 (kk s h1) D W → Nx σ1 c1.H) :
    GoS M c r { D with nx := Nx, ct := Nx, bk := D.nx } W := by
  cases r with
  | ok f h1 =>
    cases f with
    | nx s => exact fun c1 σ1 e1 R1 S1 => h s h1 c1 σ1 e1 R1 S1 (GoS.ext e1 (show GoS M c (kk s h1) D W from g))
    | ct s => exact fun c1 σ1 e1 R1 S1 => h s h1 c1 σ1 e1 R1 S1 (GoS.ext e1 (show GoS M c (kk s h1) D W from g))
    | bk s => exact g
    | rt v => exact g
  | exc kk fs s h1 => exact g
  | bad => exact g
theorem ss_loop (G : Gs M X N sc k W) {t i : Expr} {body : List Stmt} {tg : Tg} {it : It} {mb : List S} (hi : PI X t i (tEvI M W (evIt rc it))) (hg : ckTg N isLoc sc t tg = true) (hb : PSs X body (tEvS M W (execs rc mb))) (hs : ∀ x, foldedSetIterable i X.env x = pure x) :
    PS X (.For t i body [] pos) (tEvS M W (stepS cl rc (.loop tg it mb))) := by
  refine PS.of (ps_for G.po G.g.calm hi (sg G.g G.fl hg) hb hs) fun D σ H ⟨c, s, h, ⟨e, R, S⟩, g⟩ => ?_
  subst e
  refine ⟨c, s, h, ⟨rfl, R, S⟩, GoS.inS S g fun src h1 c1 J e1 R1 hJ g1 => ?_⟩
  obtain ⟨m0, hm0⟩ := loopRest_start (loopOne rc tg mb) src s h1
  refine ⟨fun i m σ H => ∃ c' s' h' r, c'.H = H ∧ Ext M c1 c' ∧ RH M c' h' ∧ RSl M c' s' σ ∧ loopRest (loopOne rc tg mb) src m i s' h' r ∧ GoS M c' r D W, ⟨m0, c1, s, h1, _, rfl, Ext.refl c1, R1, S.ext e1, hm0, g1⟩, fun i m σ H w => ?_⟩
  obtain ⟨c', s', h', r, rfl, e', R', S', hr, g'⟩ := w
  rcases loopRest_step hr g'.nbad with ⟨ei, rfl⟩ | ⟨x, m', kk, ei, hm, rfl, hk⟩
  · exact .inl ⟨(hJ c' h' i e' R').2 ei, g' c' σ (Ext.refl c') R' S'⟩
  · obtain ⟨go, yl⟩ := (hJ c' h' i e' R').1 x ei
    refine .inr ⟨go, fun σ H => ∃ m', m' < m ∧ ∃ c' s' h' r, c'.H = H ∧ Ext M c1 c' ∧ RH M c' h' ∧ RSl M c' s' σ ∧ loopRest (loopOne rc tg mb) src m' (i + 1) s' h' r ∧ GoS M c' r D W, fun _ _ z => z, fun y H3 yy => ?_⟩
    obtain ⟨c3, rfl, e3, R3, ry, _⟩ := yl y H3 yy
    have g3 := GoS.ext e3 g'
    unfold loopOne at g3
    cases qp : tg.put x s' with
    | none => rw [qp] at g3; exact g3.elim
    | some s2 =>
      rw [qp] at g3
      exact ⟨c3, s', x, s2, rfl, S'.ext e3, ry, qp, fun σ2 S2 _ => ⟨c3, s2, h', ⟨rfl, R3, S2⟩, GoS.turn g3 fun s4 h4 c4 σ4 e4 R4 S4 g4 => ⟨m', hm, c4, s4, h4, _, rfl, (e'.trans e3).trans e4, R4, S4, hk s4 h4, g4⟩⟩⟩
/-! ### while -/
theorem PT.ex {ι : Type} {e : Expr} {t : ι → TT} (h : ∀ i, PT X e (t i)) : PT X e (fun σ H Q => ∃ i, t i σ H Q) := ⟨fun pins s σ H Q I ⟨i, q⟩ => (h i).run pins s σ H Q I q⟩
theorem PSs.ex {ι : Type} {st : List Stmt} {t : ι → TS} (h : ∀ i, PSs X st (t i)) : PSs X st (fun D σ H => ∃ i, t i D σ H) := ⟨fun pins s σ H D I ⟨i, q⟩ => (h i).run pins s σ H D I q⟩
theorem ss_whl (G : Gs M X N sc k W) {n : Nat} {ce : Expr} {body : List Stmt} {mc : E} {mb : List S} (hc : ∀ m, m < n → PT X ce (tEvT M W ((rec cl calls m).t mc))) (hb : ∀ m, m < n → PSs X body (tEvS M W (execs (rec cl calls m) mb))) :
    PS X (.While ce body [] pos) (tEvS M W (stepS cl (rec cl calls n) (.whl mc mb))) := by
  refine PS.of (ps_while G.po (PT.ex (ι := { m : Nat // m < n }) fun m => hc m.1 m.2) (PSs.ex (ι := { m : Nat // m < n }) fun m => hb m.1 m.2)) fun D σ H ⟨c, s, h, ⟨e, R, S⟩, g⟩ => ?_
  subst e
  have g : GoS M c ((rec cl calls n).w mc mb s h) D W := g
  refine ⟨fun m σ H => m ≤ n ∧ ∃ c' s' h', c'.H = H ∧ RH M c' h' ∧ RSl M c' s' σ ∧ GoS M c' ((rec cl calls m).w mc mb s' h') D W, ⟨n, Nat.le_refl n, c, s, h, rfl, R, S, g⟩, fun m σ H w => ?_⟩
  obtain ⟨hm, c', s', h', rfl, R', S', g'⟩ := w
  cases m with
  | zero => exact g'.elim
  | succ m =>
    have g' : GoS M c' (((rec cl calls m).t mc s' h').inS s' fun k h1 => match k with
      | true => turn (execs (rec cl calls m) mb s' h1) ((rec cl calls m).w mc mb)
      | false => .ok (.nx s') h1) D W := g'
    refine ⟨⟨m, hm⟩, c', s', h', ⟨rfl, R', S'⟩, GoS.inS S' g' fun b h1 c1 b' e1 R1 r g1 => ?_⟩
    subst r
    cases b with
    | false => exact g1 c1 σ (Ext.refl c1) R1 (S'.ext e1)
    | true =>
      refine ⟨fun σ H => m ≤ n ∧ ∃ c' s' h', c'.H = H ∧ RH M c' h' ∧ RSl M c' s' σ ∧ GoS M c' ((rec cl calls m).w mc mb s' h') D W, fun _ _ z => ⟨m, Nat.lt_succ_self m, z⟩, ⟨m, hm⟩, c1, s', h1, ⟨rfl, R1, S'.ext e1⟩, ?_⟩
      exact GoS.turn g1 fun s4 h4 c4 σ4 e4 R4 S4 g4 => ⟨Nat.le_of_succ_le hm, c4, s4, h4, rfl, R4, S4, g4⟩
end
end Ev

set_option Elab.async false
set_option linter.all false
set_option maxRecDepth 100000
set_option maxHeartbeats 2000000
/-! How a plain def's arguments bind; exceptions with an own __init__. -/
namespace Ev
open PySem PySem.Spec PyProof.Rows L2
theorem zip_has {k : Str} : ∀ {ks : List Str} {us : List Value}, k ∈ ks → us.length = ks.length → ((ks.zip us).lookup k).isSome = true
  | [], _, h, _ => by cases h
  | a :: ks, [], _, e => by cases e
  | a :: ks, u :: us, h, e => by
    rw [List.zip_cons_cons, List.lookup_cons]
    cases q : k == a with
    | true => rfl
    | false =>
      rcases List.mem_cons.mp h with z | z
      · rw [z] at q; simp at q
      · exact zip_has z (by simpa using e)
theorem zip_all : ∀ (ks : List Str) (us : List Value), ks.Nodup → us.length = ks.length → (ks.filterMap fun n => ((ks.zip us).lookup n).map fun v => (n, v)) = ks.zip us := by
  intro ks us nd hl
  have key : ∀ (pre : List Str) (ps : List Value) (ks : List Str) (us : List Value), pre.length = ps.length → us.length = ks.length → (pre ++ ks).Nodup → (ks.filterMap fun n => (((pre ++ ks).zip (ps ++ us)).lookup n).map fun v => (n, v)) = ks.zip us := by
    intro pre ps ks
    induction ks generalizing pre ps with
    | nil => intro us _ _ _; simp
    | cons k ks ih =>
      intro us hp hl nd
      cases us with
      | nil => cases hl
      | cons u us =>
        have e : pre ++ k :: ks = (pre ++ [k]) ++ ks := by simp
        have e2 : ps ++ u :: us = (ps ++ [u]) ++ us := by simp
        have hk : ((pre ++ k :: ks).zip (ps ++ u :: us)).lookup k = some u := by
          have nk : k ∉ pre := by
            intro hk
            have := (List.nodup_append.mp nd).2.2 k hk k (by simp)
            exact this rfl
          have : ∀ (pre : List Str) (ps : List Value), pre.length = ps.length → k ∉ pre → ((pre ++ k :: ks).zip (ps ++ u :: us)).lookup k = some u := by
            intro pre
            induction pre with
            | nil => intro ps hp _; cases ps with
              | nil => simp
              | cons _ _ => cases hp
            | cons a pre ih2 => intro ps hp hk; cases ps with
              | nil => cases hp
              | cons p ps =>
                rw [List.cons_append, List.cons_append, List.zip_cons_cons, List.lookup_cons]
                have : (k == a) = false := by simp at hk ⊢; exact fun z => hk.1 z
                rw [this]
                exact ih2 ps (by simpa using hp) (fun z => hk (List.mem_cons_of_mem _ z))
          exact this pre ps hp nk
        rw [List.filterMap_cons_some (b := (k, u)) (by rw [hk]; rfl), List.zip_cons_cons]
        congr 1
        rw [e, e2]
        exact ih (pre ++ [k]) (ps ++ [u]) us (by simp [hp]) (by simpa using hl) (by rw [← e]; exact nd)
  exact key [] [] ks us rfl hl nd
theorem bind_plain (fd : FuncData) (us : List Value) (h1 : fd.params.posonlyargs = []) (h2 : fd.params.kwonlyargs = []) (h3 : fd.params.vararg = none) (h4 : fd.params.kwarg = none) (h5 : fd.defaults = .none) (hl : us.length = fd.params.args.length) (nd : (fd.params.args.map (·.arg)).Nodup) :
    bindArgs fd ⟨us, []⟩ = pure ((fd.params.args.map (·.arg)).zip us) := by
  have hm : ((fd.params.args.map (·.arg)).filter fun n => (((fd.params.args.map (·.arg)).zip us).lookup n).isNone) = [] := by
    rw [List.filter_eq_nil_iff]
    intro a ha
    have := zip_has (us := us) ha (by simpa using hl)
    cases q : ((fd.params.args.map (·.arg)).zip us).lookup a with
    | none => rw [q] at this; cases this
    | some v => simp
  have hf := zip_all (fd.params.args.map (·.arg)) us nd (by simpa using hl)
  have hsq : seqItems? .none = (pure none : Sem (Option (Array Value))) := rfl
  unfold bindArgs
  simp only [h1, h2, h3, h4, h5, hsq, List.map_nil, List.nil_append, List.append_nil, List.length_map, hl, List.forIn_nil, pure_bind, Option.getD_none, List.drop_nil, List.length_nil, Nat.sub_zero, List.zip_nil_right, gt_iff_lt, Nat.lt_irrefl, decide_false, Bool.false_and, Bool.false_eq_true, if_false, Option.isNone_none]
  have ht : List.take fd.params.args.length (fd.params.args.map (·.arg)) = fd.params.args.map (·.arg) := List.take_of_length_le (by simp)
  rw [if_neg (by rw [ht, hm]; decide), if_neg (by decide), hf]
section
open PySem.W PySem.HandSPX Builtin Builtin.ObjectAttr
variable {prog : Program} {w : World} {A : Around} {E : Value → Shared → Prop} {R : Result → Shared → Prop} {hp : Heap} {g : Array GenState} {d : Drawn} {t : Nat} {os : OsState}
/-- a first field of an exception, whatever its base -/
theorem fld_first {K : W.Frag} {B : String} {bmB : List Value} {name : Str} {v : Value} {x C : Addr} {fv : Array Value} {cd : ClassData} {Q : Unit → Shared → Prop} (SF : StoreFacts B bmB "object.__setattr__" "object")
    (X : K.In hp) (hx : hp.get? x = some { cls := .ref C, data := .fields fv }) (hcd : W.clsIn K C = some cd) (ho : excOver K C bmB = true) (hh : cd.hasDict = true) (ha : W.findIn K (.ref C) name = some none)
    (sa : W.findIn K (.ref C) "__setattr__" = some (some (.builtin "object.__setattr__")))
    (hq : ∀ h' tk' dx, (∀ b o, b ≠ x → hp.get? b = some o → h'.get? b = some o) → hp.objs.size ≤ dx → dx ≠ x → h'.get? x = some { cls := .ref C, dict := some dx, data := .fields fv } →
      h'.Ns1 dx (fun y => if y = name then some v else none) → Q () ⟨h', g, d, tk', os⟩) : wpAny (model prog w) A (setAttr (.ref x) name v) Q E ⟨hp, g, d, t, os⟩ := by
  have I : W.InstAt hp x { cls := .ref C, data := .fields fv } C none := ⟨hx, rfl, rfl, trivial⟩
  have hxs : x ≠ hp.objs.size := Nat.ne_of_lt (Heap.lt_size hx)
  have hcls : W.Looks (model prog w) hp (classData C) cd := W.looks_clsIn X hcd
  refine W.set_plain X I sa (osa_openX SF X I ho (r := none) (by unfold takerIn; rw [ha]; rfl) fun b => ?_)
  show wpAny _ _ (storeInOwnDict (.ref x) (.ref C) (.str name t) name v b) _ _ _
  obtain ⟨nm, bs, mro, ns, qn, hd, sn, sb, ab, col, del⟩ := cd
  dsimp only at hh
  subst hh
  unfold storeInOwnDict ownDictForStores
  repeat (first | with_reducible refine store_in_new ?_ ?_ | with_reducible refine wpAny_loadPart_at hx ?_ | with_reducible refine hcls.at ?_ | wp_step)
  · exact ⟨_, #[], _, (Heap.get?_update_ne _ _ _ _ hxs.symm).trans (Heap.get?_push_at rfl rfl), rfl, fun e he => absurd he (by simp), fun _ => rfl⟩
  · intro h' tk' hn' hs
    have hx₁ : (hp.push { cls := .type "dict", data := .dict #[] }).get? x = some { cls := .ref C, data := .fields fv } := Heap.get?_push_of_some _ hx
    exact hq h' tk' hp.objs.size (fun b o hb ho => (hs.2 b (Nat.ne_of_lt (Heap.lt_size ho))).trans ((Heap.get?_update_ne _ _ _ _ hb).trans (Heap.get?_push_of_some _ ho))) (Nat.le_refl _) hxs.symm ((hs.2 x hxs).trans (Heap.get?_update_self _ hx₁ rfl)) hn'
/-- .. a further field -/
theorem fld_more {K : W.Frag} {B : String} {bmB : List Value} {name : Str} {v : Value} {x C dx : Addr} {fv : Array Value} {cd : ClassData} {m0 : Str → Option Value} {nl : List Str} {Q : Unit → Shared → Prop} (SF : StoreFacts B bmB "object.__setattr__" "object")
    (X : K.In hp) (hx : hp.get? x = some { cls := .ref C, dict := some dx, data := .fields fv }) (hns : hp.Ns1 dx m0) (hw : Within m0 nl) (hz : nl.length ≤ 1000) (hcd : W.clsIn K C = some cd) (ho : excOver K C bmB = true) (hh : cd.hasDict = true) (ha : W.findIn K (.ref C) name = some none)
    (sa : W.findIn K (.ref C) "__setattr__" = some (some (.builtin "object.__setattr__")))
    (hq : ∀ h' tk', (∀ b o, b ≠ dx → hp.get? b = some o → h'.get? b = some o) → h'.Ns1 dx (fun y => if y = name then some v else m0 y) → Q () ⟨h', g, d, tk', os⟩) : wpAny (model prog w) A (setAttr (.ref x) name v) Q E ⟨hp, g, d, t, os⟩ := by
  obtain ⟨oD, esD, epD, hoD, hdD, _⟩ := hns.count hw
  have I : W.InstAt hp x { cls := .ref C, dict := some dx, data := .fields fv } C (some oD) := ⟨hx, rfl, rfl, hoD⟩
  have hcls : W.Looks (model prog w) hp (classData C) cd := W.looks_clsIn X hcd
  refine W.set_plain X I sa (osa_openX SF X I ho (r := none) (by unfold takerIn; rw [ha]; rfl) fun b => ?_)
  show wpAny _ _ (storeInOwnDict (.ref x) (.ref C) (.str name t) name v b) _ _ _
  obtain ⟨nm, bs, mro, ns, qn, hd, sn, sb, ab, col, del⟩ := cd
  dsimp only at hh
  subst hh
  unfold storeInOwnDict ownDictForStores
  repeat (first | with_reducible refine PySem.ESX.store_in_old hns hw hz ?_ | with_reducible refine wpAny_loadPart_at hx ?_ | with_reducible refine hcls.at ?_ | wp_step)
  intro h' tk' hn' hs
  exact hq h' tk' (fun b o hb ho => (hs.2 b hb).trans ho) hn'
/-- super().__init__(..) bound, called -/
theorem call_sup {B newId initId : String} {bmB : List Value} {K : W.Frag} {u e t0 C : Addr} {rest : List Value} {Q : Value → Shared → Prop} (FB : ExcBaseFacts B newId initId bmB) (X : K.In hp) (q : excInitIn K C bmB newId = true)
    (he : hp.get? e = some (W.excObj C t0 none .none)) (hu : hp.get? u = some (kxs_mw initId e)) (hz : rest.length ≤ sizeLine)
    (hq : ∀ h' t1, (∀ b o, b ≠ e → hp.get? b = some o → h'.get? b = some o) → h'.get? e = some (W.excObj C t1 none .none) → Q .none ⟨h', g, d, t, os⟩) : wpAny (model prog w) A (call (.ref u) rest) Q E ⟨hp, g, d, t, os⟩ := by
  obtain ⟨nm, N', qn, bs, bm, hdct, sn, sub, ab, col, dd, k0, k1, k2, k3, k5, hC, hT⟩ := excInit_of X q
  refine wpAny_call (codeAny_of_tree ?_)
  show wpAny _ A.in1 (callAny (.ref u) ⟨rest, []⟩) _ _ _
  simp only [callAny]
  refine wpAny_bind (wpAny_load hu ?_)
  simp only [kxs_mw, show (Value.type "method-wrapper" == Value.type "method" || Value.type "method-wrapper" == Value.type "builtin_function_or_method" || Value.type "method-wrapper" == Value.type "method-wrapper") = true by decide, if_true]
  refine KFB.if_so (by decide) (wpAny_bind (check_bound_init FB.toExcCallFacts hC he rfl (wpAny_bind (wpAny_pure (wpAny_pure ⟨plainId_quiet FB.init.plain _, codeAny_builtin FB.initEntry ?_⟩)))))
  exact exc_init_tree (cls := .ref C) (t0 := t0) (dv := none) (c2 := .none) (c3 := .none) (b4 := .bool false) he hz fun h' k e' _ => hq h' _ k e'
end
end Ev

set_option Elab.async false
set_option linter.all false
set_option maxRecDepth 100000
set_option maxHeartbeats 2000000
/-! An own exception class: its __init__ walked, its call. -/
namespace Ev
open PySem PySem.Spec PyProof.Rows L2
/-- self.f = f, one after the other -/
def fldSts : List Stmt → Str → List Str → Bool
  | [], _, [] => true
  | .Assign [.Attribute (.Name s _) f _] (.Name y _) _ :: sts, self, x :: xs => strEq s self && strEq f x && strEq y x && fldSts sts self xs
  | _, _, _ => false
section
open PySem.W
variable {prog : Program} {w : World} {A : Around} {E : Value → Shared → Prop} {g : Array GenState} {d : Drawn} {os : OsState} {K : W.Frag} {B newId initId : String} {bmB : List Value} {C e L a : Addr} {cd : ClassData} {fd : FuncData} {self : Str} {m : Str → Option Value} {fv : Array Value}
theorem st_shape {sts : List Stmt} {self x : Str} {xs : List Str} (h : fldSts sts self (x :: xs) = true) : ∃ p1 p2 p3 p4 sts', sts = .Assign [.Attribute (.Name self p1) x p2] (.Name x p3) p4 :: sts' ∧ fldSts sts' self xs = true := by
  unfold fldSts at h
  split at h
  · rename_i heq; cases heq
  · rename_i s p1 f p2 y p3 p4 sts' x' xs' heq
    cases heq
    simp only [Bool.and_eq_true] at h
    obtain ⟨⟨⟨h1, h2⟩, h3⟩, h4⟩ := h
    have e1 := strEq_iff.mp h1
    have e2 := strEq_iff.mp h2
    have e3 := strEq_iff.mp h3
    subst e1 e2 e3
    exact ⟨p1, p2, p3, p4, sts', rfl, h4⟩
  · cases h
/-- what is known of the class -/
structure ClsX (K : W.Frag) (B : String) (bmB : List Value) (C : Addr) (cd : ClassData) : Prop where
  SF : StoreFacts B bmB "object.__setattr__" "object"
  hcd : W.clsIn K C = some cd
  ho : excOver K C bmB = true
  hh : cd.hasDict = true
  sa : W.findIn K (.ref C) "__setattr__" = some (some (.builtin "object.__setattr__"))
/-- what is known of the def's names -/
structure ScX (fd : FuncData) (slf : Str) (fs : List Str) : Prop where
  kd : fd.scope.kind = .function
  sf : fd.scope.names.lookup slf = some .local
  sd : (slf == ("__debug__" : Str)) = false
  fl : ∀ f ∈ fs, fd.scope.names.lookup f = some .local ∧ (f == ("__debug__" : Str)) = false
theorem flds_go (Y : ClsX K B bmB C cd) {dx : Addr} (hLd : L ≠ dx) (hed : e ≠ dx) (ms : m self = some (.ref e)) : ∀ (fs : List Str) (sts : List Stmt) (us : List Value) (ws : List V) (gs : List (Str × V)) (h : Heap) (m0 : Str → Option Value) (tk : Nat), ScX fd self fs → fldSts sts self fs = true → Vals ws us → fs.length = us.length →
    (∀ p ∈ fs.zip us, m p.1 = some p.2) → (∀ f ∈ fs, W.findIn K (.ref C) f = some none) → K.In h → h.Ns L m → h.get? e = some { cls := .ref C, dict := some dx, data := .fields fv } → h.Ns1 dx m0 → (∀ f, RelO (gs.lookup f) (m0 f)) → gs.length + fs.length ≤ 900 → ∀ Q : Flow → Shared → Prop,
    (∀ h' tk' m', (∀ b o, b ≠ dx → h.get? b = some o → h'.get? b = some o) → h'.Ns1 dx m' → (∀ f, RelO (((fs.zip ws).reverse ++ gs).lookup f) (m' f)) → Q .next ⟨h', g, d, tk', os⟩) →
    K.lookup dx = none → wpAny (model prog w) A (PySem.execs sts (callEnv fd L a)) Q E ⟨h, g, d, tk, os⟩
  | [], sts, us, ws, gs, h, m0, tk, S, hs, hv, hl, hm, hn, X, nL, he, nd, rel, hz, Q, hq, hk => by
    cases sts with
    | nil => exact wpAny_execs_nil (hq h tk m0 (fun _ _ _ z => z) nd (by cases hv with
      | nil => exact rel
      | cons _ _ => cases hl))
    | cons st sts => unfold fldSts at hs; split at hs <;> simp_all
  | x :: xs, sts, us, ws, gs, h, m0, tk, S, hs, hv, hl, hm, hn, X, nL, he, nd, rel, hz, Q, hq, hk => by
    obtain ⟨p1, p2, p3, p4, sts', rfl, hs'⟩ := st_shape hs
    cases hv with
    | nil => cases hl
    | @cons y u ws us ry rest =>
      refine wpAny_execs_cons (plainObj_wpAny_Assign_Attribute (ldc S.kd (S.fl x (by simp)).1 nL (hm (x, u) (by simp)) (ldc S.kd S.sf nL ms (fld_more Y.SF X he nd (within_of rel) (by rw [List.length_map]; simp at hz; omega) Y.hcd Y.ho Y.hh (hn x (by simp)) Y.sa fun h' tk' k nd' => ?_) S.sd) (S.fl x (by simp)).2))
      obtain ⟨oL, es, ep, hL, r⟩ := nL
      have X' : K.In h' := fun b o z => k b o (fun q => by rw [q, hk] at z; cases z) (X b o z)
      refine flds_go Y hLd hed ms xs sts' us ws ((x, y) :: gs) h' _ tk' ⟨S.kd, S.sf, S.sd, fun f hf => S.fl f (List.mem_cons_of_mem _ hf)⟩ hs' rest (by simpa using hl) (fun p hp => hm p (by rw [List.zip_cons_cons]; exact List.mem_cons_of_mem _ hp)) (fun f hf => hn f (List.mem_cons_of_mem _ hf)) X' ⟨oL, es, ep, k _ _ hLd hL, r⟩ (k _ _ hed he) nd' (relO_put ry rel) (by simp at hz ⊢; omega) Q (fun h2 tk2 m2 k2 nd2 rel2 => hq h2 tk2 m2 (fun b o hb z => k2 b o hb (k b o hb z)) nd2 ?_) hk
      rw [List.zip_cons_cons, List.reverse_cons, List.append_assoc]
      exact rel2
theorem lookup_nodup {α : Type} {p : Str × α} : ∀ {l : List (Str × α)}, (l.map (·.1)).Nodup → p ∈ l → l.lookup p.1 = some p.2
  | [], _, h => by cases h
  | q :: l, nd, h => by
    rw [List.map_cons, List.nodup_cons] at nd
    rw [show (q :: l) = (q.1, q.2) :: l from rfl, List.lookup_cons]
    rcases List.mem_cons.mp h with z | z
    · subst z; simp
    · have : (p.1 == q.1) = false := by
        simp
        intro y
        exact nd.1 (by rw [← y]; exact List.mem_map_of_mem z)
      rw [this]
      exact lookup_nodup nd.2 z
theorem sup_eval {o : Expr} {x ms : Str} {p2 p3 p4 : Pos} {j : Nat} {env : Env} (hl : (p2.endLine == p4.line) = true) : eval (.Call (.Attribute o x p2) [.Constant (.str ms) j p3] [] p4) env = (do
      let ov ← attributeBase o x env (eval o env)
      standAt p2.atName
      let (f, first) ← holding [ov] (getMethod ov x (do return (← importBound o env).getD true))
      callWith p4 f first (backTo p4 (starEach [.Constant (.str ms) j p3] env)) []) := by
  show (do
    let ov ← attributeBase o x env (eval o env)
    standAt p2.atName
    methodCall o x p2 p4 env ov 1 (backTo p4 (starEach [.Constant (.str ms) j p3] env)) (backToKw p4 (keywordEach [] env))) = _
  congr 1
  funext ov
  congr 1
  funext _
  unfold methodCall
  have e1 : methodCallForm 1 (backTo p4 (starEach [.Constant (.str ms) j p3] env)) (backToKw p4 (keywordEach [] env)) = true := rfl
  rw [e1]
  have e2 : methodCallPos true o env p2 p4 = pure p4 := by unfold methodCallPos; rw [hl]; rfl
  rw [e2]
  rfl
/-- the whole of such an __init__ -/
theorem init_go {fI cda cc : Addr} {slf ms : Str} {fs : List Str} {sts : List Stmt} {p0 p1 p2 p3 p4 p5 : Pos} {j : Nat} {us : List Value} {ws : List V} {hp : Heap} {t0 : Addr} {tk : Nat} {oc ccl cl : Value} {od cdd cld : Option Addr} {osl ccs csl : Array (Option Value)} {vs : Array Value} {tf : Tok} {mg mb : Str → Option Value} {R : Result → Shared → Prop} {ar : Arg} {args : List Arg} {file : Str}
    (Y : ClsX K B bmB C cd) (FB : ExcBaseFacts B newId initId bmB) (KF : KxsFacts B initId) (hq0 : excInitIn K C bmB newId = true) (hop : nsIn K cStatics "thirdparty.any" = some none) (hsu : ks_superIn K C C "__init__" = some (some (.builtin initId))) (hB : subIn K (.ref C) (.type B) = some true) (hCC : mroIn K C (.ref C) = some true)
    (X : K.In hp) (hroom : A.depth < recursionLimit) (hlim : hp.NoLimit) (hg : hp.Ns mainGlobals mg) (hgs : mg "super" = none) (hbn : hp.Ns builtinsNs mb) (hbs : mb "super" = some (.type "super"))
    (lf : K.lookup fI = some ⟨oc, od, .func fd, osl⟩) (hcode : fd.code = .ref cda) (lcd : K.lookup cda = some ⟨ccl, cdd, .fields vs, ccs⟩) (hcin : codeIn K fd.code fd.qualname = true) (hvs : vs[2]? = some (.str file tf)) (hfile : ((prog.main.file : Str) == file) = true) (htop : (prog.main.scope.names.lookup ("super" : Str)).isSome = false)
    (hbody : fd.body = .stmts (.Expr (.Call (.Attribute (.Call (.Name "super" p0) [] [] p1) "__init__" p2) [.Constant (.str ms) j p3] [] p4) p5 :: sts)) (hcl : fd.closure = [((("__class__" : Str)), cc)]) (lcc : K.lookup cc = some ⟨cl, cld, .cell (some (.ref C)), csl⟩)
    (hgl : fd.globals = mainGlobals) (hbl : fd.builtins = builtinsNs) (a1 : fd.params.posonlyargs = []) (a2 : fd.params.kwonlyargs = []) (a3 : fd.params.vararg = none) (a4 : fd.params.kwarg = none) (a5 : fd.defaults = .none) (a6 : fd.params.args = ar :: args) (a7 : ar.arg = slf) (a8 : args.map (·.arg) = fs) (nd : (slf :: fs).Nodup)
    (S : ScX fd slf fs) (hcell : ∀ x ∈ fd.scope.names, x.2 ≠ .cell) (hks : fd.scope.names.lookup ("super" : Str) = some .globalImplicit) (hkc : fd.scope.names.lookup ("__class__" : Str) = some .free) (hco : fd.scope.isCoroutine = false) (hge : fd.scope.isGenerator = false) (hst : fldSts sts slf fs = true) (hfs : fs ≠ []) (hnf : ∀ f ∈ fs, W.findIn K (.ref C) f = some none)
    (hline : (p2.endLine == p4.line) = true) (hlen : fs.length = us.length) (hl9 : fs.length ≤ 800) (rv : Vals ws us) (he : hp.get? e = some (excObj C t0 none .none)) (hKe : K.lookup e = none)
    (hR : ∀ h' tk' t1 dx m', (∀ b o, b ≠ e → hp.get? b = some o → h'.get? b = some o) → hp.objs.size ≤ dx → h'.get? e = some (excObj C t1 (some dx) .none) → h'.Ns1 dx m' → (∀ f, RelO (((fs.zip ws).reverse).lookup f) (m' f)) → R (.ok (.ret .none)) ⟨h', g, d, tk', os⟩) :
    codeAny (model prog w) A (.call (.ref fI) ⟨.ref e :: us, []⟩) R ⟨hp, g, d, tk, os⟩ := by
  have hps : fd.params.args.map (·.arg) = slf :: fs := by rw [a6, List.map_cons, a7, a8]
  have hb := bind_plain fd (.ref e :: us) a1 a2 a3 a4 a5 (by rw [a6, List.length_cons, List.length_cons, ← hlen, ← a8, List.length_map]) (by rw [hps]; exact nd)
  rw [hps] at hb
  have hloc : ∀ x ∈ (slf :: fs).zip (Value.ref e :: us), fd.scope.names.lookup x.1 = some .local := fun x hx => by
    have := (List.of_mem_zip (show (x.1, x.2) ∈ _ from hx)).1
    rcases List.mem_cons.mp this with z | z
    · rw [z]; exact S.sf
    · exact (S.fl x.1 z).1
  refine ks_codeAny_call_defAt (fd := fd) hroom (X _ _ lf) rfl hlim (codeRec_of X hcin) hbody (.of_eq hb) hcell hloc (fun h₀ hns hk₀ => ?_) hco hge S.kd
  generalize hL : hp.objs.size = L at hns ⊢
  generalize hm : (fun x => ((slf :: fs).zip (Value.ref e :: us)).reverse.lookup x) = m at hns
  have X0 : K.In h₀ := X.keeps hk₀
  have e0 := hk₀ _ _ he
  have lookm : ∀ p ∈ (slf :: fs).zip (Value.ref e :: us), m p.1 = some p.2 := fun p hp => by
    rw [← hm]
    refine lookup_nodup ?_ (List.mem_reverse.mpr hp)
    rw [List.map_reverse, List.map_fst_zip (by simp [hlen])]
    exact List.pairwise_reverse.mpr (nd.imp fun z => Ne.symm z)
  have S0 : ScX fd slf fs := S
  obtain ⟨oC, hoC, hdC⟩ : ∃ oC, K.lookup C = some oC ∧ oC.data = .cls cd := by
    have := Y.hcd
    unfold clsIn at this
    split at this
    · rename_i c d cd' sl ho
      cases this
      exact ⟨_, ho, rfl⟩
    · cases this
  refine ks_wpAt_execs_cons (ks_wpAt_Expr_any (ks_wpAt_MethodCall (ks_wpAt_super_base (env := callEnv fd L fI) (f := fI) (cc := cda) (ar := ar) hks hkc (by decide) rfl (X0 _ _ lf) rfl (by rw [a1, a6]; rfl) hcode (X0 _ _ lcd) rfl hvs hfile htop ?_) (sup_eval hline)) (by show (fd.scope.kind == ScopeKind.module && _) = false; rw [S.kd]; rfl))
  have gl : (callEnv fd L fI).globals = mainGlobals := hgl
  have bl : (callEnv fd L fI).builtins = builtinsNs := hbl
  refine ks_loadName_global S.kd hks (Calls.loadGlobal_builtin (by rw [gl]; exact hg.keeps hk₀) hgs (by rw [bl]; exact hbn.keeps hk₀) hbs ⟨rfl, ?_⟩)
  refine wpAny_loadName_free S.kd hkc (by show List.lookup _ fd.closure = some cc; rw [hcl]; rfl) ⟨_, X0 _ _ lcc, rfl⟩ ?_
  refine wpAny_loadName_local S.kd (by rw [a7]; exact S.sf) hns (by rw [a7]; exact lookm (slf, .ref e) (by simp)) ?_
  refine ks_wpAny_isType_cls (X0 _ _ hoC) hdC ⟨rfl, ?_⟩
  refine ks_wpAny_call_super (X0 _ _ hoC) hdC e0 rfl (fun c z => by cases z) (looks_mroIn X0 hCC) (fun h1 eso k1 => ?_)
  have X1 : K.In h1 := X0.keeps k1
  have I1 : InstAt h1 e (excObj C t0 none .none) C none := ⟨k1 _ _ e0, rfl, rfl, trivial⟩
  refine kxs_getMethod KF eso (looks_opaque X1 hop) (l₀ := cd.mro) (fun A Q E s k q => wpAny_bind ((looks_clsIn X1 Y.hcd) A _ E s k (wpAny_pure q))) rfl X1 (by unfold ks_superIn at hsu; rw [Y.hcd] at hsu; exact hsu) (I1.type.andThen (looks_subIn X1 hB)) (ks_ne X1 I1 Y.hcd) (by decide) ?_
  generalize hq : h1.objs.size = q
  have hu : (h1.push (kxs_mw initId e)).get? q = some (kxs_mw initId e) := by rw [← hq]; exact Heap.get?_push_at rfl rfl
  have k2 : ∀ b o, h1.get? b = some o → (h1.push (kxs_mw initId e)).get? b = some o := fun b o z => Heap.get?_push_of_some _ z
  refine kxs_callWith (i := initId) (x := e) rfl (Calls.evalArgs_plain (Calls.spliced_cons (Calls.Constant_str (k := j) (pos := p3) (Calls.spliced_nil ⟨hu, ?_⟩))))
  have nL : L ≠ e := fun z => by
    have := Heap.lt_size he
    rw [← z, ← hL] at this
    exact absurd this (Nat.lt_irrefl _)
  refine call_sup FB (X1.keeps k2) hq0 (k2 _ _ (k1 _ _ e0)) hu (by show 1 ≤ sizeLine; rw [sizeLine_eq]; omega) fun h3 t3 k3 e3 => ?_
  have X3 : K.In h3 := fun b o z => k3 b o (fun y => by rw [y, hKe] at z; cases z) (k2 _ _ (X1 _ _ z))
  obtain ⟨oL, es, ep, hLg, r⟩ := hns
  have n3 : h3.Ns L m := ⟨oL, es, ep, k3 _ _ nL (k2 _ _ (k1 _ _ hLg)), r⟩
  show PySem.wpAt _ _ _ (PySem.execs sts (callEnv fd L fI)) _ _ _
  refine PySem.wpAt_of_wpAny ?_
  cases fs with
  | nil => exact absurd rfl hfs
  | cons x xs =>
    obtain ⟨q1, q2, q3, q4, sts', rfl, hs'⟩ := st_shape hst
    cases rv with
    | nil => cases hlen
    | @cons y u ws us ry rest =>
      refine wpAny_execs_cons (plainObj_wpAny_Assign_Attribute (ldc S.kd (S.fl x (by simp)).1 n3 (lookm (x, u) (by simp)) (ldc S.kd S.sf n3 (lookm (slf, .ref e) (by simp)) (fld_first Y.SF X3 e3 Y.hcd Y.ho Y.hh (hnf x (by simp)) Y.sa fun h4 tk4 dx k4 hsz hne e4 nd4 => ?_) S.sd) (S.fl x (by simp)).2))
      have lt3 : ∀ {b : Addr} {o : Obj}, h3.get? b = some o → b ≠ dx := fun {b o} z => Nat.ne_of_lt (Nat.lt_of_lt_of_le (Heap.lt_size z) hsz)
      have hpdx : hp.objs.size ≤ dx := by
        rw [hL]
        exact Nat.le_of_lt (Nat.lt_of_lt_of_le (Heap.lt_size (k3 _ _ nL (k2 _ _ (k1 _ _ hLg)))) hsz)
      have kdx : K.lookup dx = none := by
        cases z : K.lookup dx with
        | none => rfl
        | some o => exact absurd rfl (lt3 (X3 _ _ z))
      have X4 : K.In h4 := fun b o z => k4 b o (fun y => by rw [y, hKe] at z; cases z) (X3 _ _ z)
      have n4 : h4.Ns L m := ⟨oL, es, ep, k4 _ _ nL (k3 _ _ nL (k2 _ _ (k1 _ _ hLg))), r⟩
      refine flds_go Y (lt3 (k3 _ _ nL (k2 _ _ (k1 _ _ hLg)))) (Ne.symm hne) (lookm (slf, .ref e) (by simp)) xs sts' us ws [(x, y)] h4 _ tk4 ⟨S.kd, S.sf, S.sd, fun f hf => S.fl f (List.mem_cons_of_mem _ hf)⟩ hs' rest (by simpa using hlen) (fun p hp => lookm p (by rw [List.zip_cons_cons, List.zip_cons_cons]; exact List.mem_cons_of_mem _ (List.mem_cons_of_mem _ hp))) (fun f hf => hnf f (List.mem_cons_of_mem _ hf)) X4 n4 e4 nd4 (relO_put (fs := []) ry fun g => True.intro) (by simp at hl9 ⊢; omega) _ (fun h5 tk5 m5 k5 nd5 rel5 => ?_) kdx
      refine hR h5 tk5 t3 dx m5 (fun b o hb z => ?_) hpdx (k5 _ _ (Ne.symm hne) e4) nd5 ?_
      · have z3 := k3 b o hb (k2 _ _ (k1 _ _ (hk₀ _ _ z)))
        exact k5 b o (lt3 z3) (k4 b o hb z3)
      · rw [List.zip_cons_cons, List.reverse_cons]
        exact rel5
end
end Ev

set_option Elab.async false
set_option linter.all false
set_option maxRecDepth 100000
set_option maxHeartbeats 2000000
/-! raise C(..), C an own exception class. -/
namespace Ev
open PySem PySem.Spec PyProof.Rows L2
inductive XB where
  | ve
  | oe
  | te
def XB.B : XB → String
  | .ve => "ValueError"
  | .oe => "OverflowError"
  | .te => "TypeError"
def XB.newId : XB → String
  | .ve => "ValueError.__new__"
  | .oe => "OverflowError.__new__"
  | .te => "TypeError.__new__"
def XB.initId : XB → String
  | .ve => "ValueError.__init__"
  | .oe => "OverflowError.__init__"
  | .te => "TypeError.__init__"
def XB.tail : XB → List Value
  | .ve => [.type "ValueError", .type "Exception", .type "BaseException", .type "object"]
  | .oe => [.type "OverflowError", .type "ArithmeticError", .type "Exception", .type "BaseException", .type "object"]
  | .te => [.type "TypeError", .type "Exception", .type "BaseException", .type "object"]
theorem XB.FB (b : XB) : ExcBaseFacts b.B b.newId b.initId b.tail := by
  cases b
  · exact F.excBase_ValueError
  · exact F.excBase_OverflowError
  · exact F.excBase_TypeError
theorem XB.SF (b : XB) : StoreFacts b.B b.tail "object.__setattr__" "object" := by
  cases b
  · exact F.store_ValueError
  · exact F.store_OverflowError
  · exact F.store_TypeError
theorem XB.KF (b : XB) : W.KxsFacts b.B b.initId := by
  cases b
  · exact W.kxs_ValueError
  · exact W.kxs_OverflowError
  · exact W.kxs_TypeError
open PySem.W
def optB (o : Option Bool) : Bool := match o with
  | some true => true
  | _ => false
def eqOO (a b : Option (Option Value)) : Bool := decide (a = b)
def nodupS : List Str → Bool
  | [] => true
  | x :: xs => !memS x xs && nodupS xs
def strsEq : List Str → List Str → Bool
  | [], [] => true
  | x :: xs, y :: ys => strEq x y && strsEq xs ys
  | _, _ => false
def isFr : Option NameKind → Bool
  | some .free => true
  | _ => false
def isFun : ScopeKind → Bool
  | .function => true
  | _ => false
def noCell (ns : List (Str × NameKind)) : Bool := ns.all fun p => match p.2 with
  | .cell => false
  | _ => true
def locB (ns : List (Str × NameKind)) (f : Str) : Bool := isLc (look ns f) && !strEq f sDebug
def sSuper : Str := "super"
def sInit : Str := "__init__"
def sClass : Str := "__class__"
/-- the def of such an __init__ -/
def initFn (K : Frag) (file : Str) (C : Addr) (fs : List Str) (fd : FuncData) : Bool := match fd.body with
  | .stmts (.Expr (.Call (.Attribute (.Call (.Name su _) [] [] _) ini p2) [.Constant (.str _) _ _] [] p4) _ :: sts) => strEq su sSuper && strEq ini sInit && (p2.endLine == p4.line) &&
    (match fd.closure with
      | [(cn, cc)] => strEq cn sClass && (match K.lookup cc with
        | some ⟨_, _, .cell (some (.ref D)), _⟩ => D == C
        | _ => false)
      | _ => false) &&
    (match fd.code with
      | .ref cda => (match K.lookup cda with
        | some ⟨_, _, .fields vs, _⟩ => (match vs[2]? with
          | some (Value.str fl _) => fl == file
          | _ => false)
        | _ => false)
      | _ => false) && codeIn K fd.code fd.qualname &&
    (match fd.defaults with
      | .none => true
      | _ => false) && (fd.globals == mainGlobals) && (fd.builtins == builtinsNs) && fd.params.posonlyargs.isEmpty && fd.params.kwonlyargs.isEmpty && fd.params.vararg.isNone && fd.params.kwarg.isNone &&
    (match fd.params.args with
      | ar :: args => strsEq (args.map (·.arg)) fs && nodupS (ar.arg :: fs) && fldSts sts ar.arg fs && locB fd.scope.names ar.arg
      | _ => false) && fs.all (locB fd.scope.names) && noCell fd.scope.names && isGl (look fd.scope.names sSuper) && isFr (look fd.scope.names sClass) && isFun fd.scope.kind && !fd.scope.isCoroutine && !fd.scope.isGenerator
  | _ => false
/-- the class -/
def clsB (K : Frag) (file : Str) (C : Addr) (fs : List Str) (b : XB) : Bool :=
  excInitIn K C b.tail b.newId && excOver K C b.tail && hasDictIn K C && eqOO (findIn K (.ref C) "__setattr__") (some (some (.builtin "object.__setattr__"))) && keepIn K (.ref C) && optB (subIn K (.ref C) (.type "BaseException")) && optB (subIn K (.ref C) (.type b.B)) &&
    (typeIn K (.ref C) == some (.type "type")) && fs.all (fun f => eqOO (findIn K (.ref C) f) (some none)) && eqOO (nsIn K cStatics "thirdparty.any") (some none) && optB (mroIn K C (.ref C)) && eqOO (ks_superIn K C C "__init__") (some (some (.builtin b.initId))) && Nat.ble 1 fs.length && Nat.ble fs.length 800 &&
    (match findIn K (.ref C) "__init__" with
      | some (some (.ref fI)) => (match K.lookup fI with
        | some ⟨oc, _, .func fd, _⟩ => (oc == .type "function") && initFn K file C fs fd
        | _ => false)
      | _ => false)
theorem optB_ok {o : Option Bool} (h : optB o = true) : o = some true := by
  cases o with
  | none => cases h
  | some b => cases b <;> first | rfl | cases h
theorem eqOO_ok {a b : Option (Option Value)} (h : eqOO a b = true) : a = b := of_decide_eq_true h
theorem memS_mem {x : Str} : ∀ {ys : List Str}, memS x ys = false → x ∉ ys
  | [], _ => by simp
  | y :: ys, h => by
    unfold memS at h
    cases q : strEq x y with
    | true => rw [q] at h; cases h
    | false =>
      rw [q] at h
      have ne : x ≠ y := fun z => by rw [strEq_iff.mpr z] at q; cases q
      simp only [List.mem_cons, not_or]
      exact ⟨ne, memS_mem h⟩
theorem nodupS_ok : ∀ {xs : List Str}, nodupS xs = true → xs.Nodup
  | [], _ => List.nodup_nil
  | x :: xs, h => by
    unfold nodupS at h
    simp only [Bool.and_eq_true, Bool.not_eq_true'] at h
    exact List.nodup_cons.mpr ⟨memS_mem h.1, nodupS_ok h.2⟩
theorem strsEq_ok : ∀ {xs ys : List Str}, strsEq xs ys = true → xs = ys
  | [], [], _ => rfl
  | [], _ :: _, h => by cases h
  | _ :: _, [], h => by cases h
  | x :: xs, y :: ys, h => by
    unfold strsEq at h
    simp only [Bool.and_eq_true] at h
    rw [strEq_iff.mp h.1, strsEq_ok h.2]
theorem locB_ok {ns : List (Str × NameKind)} {f : Str} (h : locB ns f = true) : ns.lookup f = some .local ∧ (f == ("__debug__" : Str)) = false := by
  unfold locB at h
  simp only [Bool.and_eq_true] at h
  refine ⟨?_, not_eq h.2⟩
  have h1 := h.1
  rw [look_eq] at h1
  cases e : ns.lookup f with
  | none => rw [e] at h1; cases h1
  | some kd => rw [e] at h1; cases kd <;> first | rfl | cases h1
theorem isGl_ok {o : Option NameKind} (h : isGl o = true) : o = some .globalImplicit := by
  cases o with
  | none => cases h
  | some k => cases k <;> first | rfl | cases h
theorem isFr_ok {o : Option NameKind} (h : isFr o = true) : o = some .free := by
  cases o with
  | none => cases h
  | some k => cases k <;> first | rfl | cases h
theorem isFun_ok {o : ScopeKind} (h : isFun o = true) : o = .function := by cases o <;> first | rfl | cases h
theorem noCell_ok {ns : List (Str × NameKind)} (h : noCell ns = true) : ∀ x ∈ ns, x.2 ≠ .cell := fun x hx z => by
  have := List.all_eq_true.mp h x hx
  rw [z] at this
  cases this
/-- the module's side -/
structure SupOk (M : Mo) (file : Str) : Prop where
  mg : M.mg "super" = none
  file : ((M.P.main.file : Str) == file) = true
  top : (M.P.main.scope.names.lookup ("super" : Str)).isSome = false
def tMkX (C : Addr) (fs : List Str) (ta : TA) : St → Hp → XK → Prop := fun σ H Q => ta σ H fun vs H1 => vs.length = fs.length ∧ ∀ d, H1 d = none → Q (.ref C) (some d) (upd H1 d (.xd (fs.zip vs).reverse))
section
variable {M : Mo} {X : Cx} {N : List Str} {sc : Scope} {k : Nat} {W : WX} {pos : Pos}
theorem make_ok {K : Frag} {file : Str} {C : Addr} {fs : List Str} {b : XB} {pins : List (Addr × Obj)} {σ : St} {H1 : Hp} {s1 : Shared} {us : List Value} {vs : List V} {Q : XK} (hK : X.K = K) (hx : clsB K file C fs b = true) (hS : X.mg "super" = none) (hF : ((X.prog.main.file : Str) == file) = true) (hT : (X.prog.main.scope.names.lookup ("super" : Str)).isSome = false)
    (hr : Room k X.A) (I1 : Inv X pins σ H1 s1) (r1 : Vals vs us) (hl : vs.length = fs.length) (q1 : ∀ d, H1 d = none → Q (.ref C) (some d) (upd H1 d (.xd (fs.zip vs).reverse))) :
    wpAny (model X.prog X.w) X.A (call (.ref C) us) (MkP X pins σ Q) X.xe s1 := by
  subst hK
  unfold clsB at hx
  simp only [Bool.and_eq_true] at hx
  obtain ⟨⟨⟨⟨⟨⟨⟨⟨⟨⟨⟨⟨⟨⟨hq0, hov⟩, hhd⟩, hsa⟩, hkp⟩, hbe⟩, hbB⟩, hty⟩, hnf⟩, hop⟩, hCC⟩, hsu⟩, hl1⟩, hl8⟩, hfn⟩ := hx
  cases e1 : findIn X.K (.ref C) "__init__" with
  | none => rw [e1] at hfn; cases hfn
  | some o1 =>
    rw [e1] at hfn
    cases o1 with
    | none => cases hfn
    | some v1 =>
      cases v1 with
      | ref fI =>
        dsimp only at hfn
        cases e2 : X.K.lookup fI with
        | none => rw [e2] at hfn; cases hfn
        | some o2 =>
          rw [e2] at hfn
          obtain ⟨oc, od, dt, osl⟩ := o2
          cases dt with
          | func fd =>
            dsimp only at hfn
            simp only [Bool.and_eq_true] at hfn
            obtain ⟨hoc, hfn⟩ := hfn
            have hoc := eq_of_beq hoc
            subst hoc
            unfold initFn at hfn
            split at hfn
            · rename_i su p0 p1 ini p2 ms j p3 p4 p5 sts hbody
              simp only [Bool.and_eq_true] at hfn
              obtain ⟨⟨⟨⟨⟨⟨⟨⟨⟨⟨⟨⟨⟨⟨⟨⟨⟨⟨⟨⟨c1, c2⟩, c3⟩, c4⟩, c5⟩, c6⟩, c7⟩, c8⟩, c9⟩, c10⟩, c11⟩, c12⟩, c13⟩, c14⟩, c15⟩, c16⟩, c17⟩, c18⟩, c19⟩, c20⟩, c21⟩ := hfn
              have z1 := strEq_iff.mp c1
              have z2 := strEq_iff.mp c2
              subst z1 z2
              obtain ⟨cc, cl, cld, csl, hcl, lcc⟩ : ∃ cc cl cld csl, fd.closure = [((("__class__" : Str)), cc)] ∧ X.K.lookup cc = some ⟨cl, cld, .cell (some (.ref C)), csl⟩ := by
                split at c4
                · rename_i cn cc hc
                  simp only [Bool.and_eq_true] at c4
                  have y1 := strEq_iff.mp c4.1
                  subst y1
                  have c4' := c4.2
                  split at c4'
                  · rename_i a1 a2 D a3 lk
                    have := eq_of_beq c4'
                    subst this
                    exact ⟨cc, _, _, _, hc, lk⟩
                  · cases c4'
                · cases c4
              obtain ⟨cda, ccl, cdd, ws, ccs, tf, hco, lcd, hvs⟩ : ∃ cda ccl cdd ws ccs tf, fd.code = .ref cda ∧ X.K.lookup cda = some ⟨ccl, cdd, .fields ws, ccs⟩ ∧ ws[2]? = some (.str file tf) := by
                split at c5
                · rename_i cda hc
                  split at c5
                  · rename_i a1 a2 ws a3 lk
                    split at c5
                    · rename_i fl tf hv
                      have := eq_of_beq c5
                      subst this
                      exact ⟨cda, _, _, ws, _, tf, hc, lk, hv⟩
                    · cases c5
                  · cases c5
                · cases c5
              have hdf : fd.defaults = .none := by
                split at c7
                · assumption
                · cases c7
              obtain ⟨ar, args, ha6, d1, d2, d3, d4⟩ : ∃ ar args, fd.params.args = ar :: args ∧ strsEq (args.map (·.arg)) fs = true ∧ nodupS (ar.arg :: fs) = true ∧ fldSts sts ar.arg fs = true ∧ locB fd.scope.names ar.arg = true := by
                split at c14
                · rename_i ar args he
                  simp only [Bool.and_eq_true] at c14
                  exact ⟨ar, args, he, c14.1.1.1, c14.1.1.2, c14.1.2, c14.2⟩
                · cases c14
              obtain ⟨cd, hcd, hh⟩ : ∃ cd, clsIn X.K C = some cd ∧ cd.hasDict = true := by
                unfold hasDictIn at hhd
                cases e : clsIn X.K C with
                | none => rw [e] at hhd; cases hhd
                | some cd => rw [e] at hhd; exact ⟨cd, rfl, hhd⟩
              have Y : ClsX X.K b.B b.tail C cd := ⟨b.SF, hcd, hov, hh, eqOO_ok hsa⟩
              obtain ⟨nm, N', qn, bs, bm, hdct, sn, sub, ab, col, dd, k0, k1, k2, k3, k5, hC, hTl⟩ := excInit_of I1.kIn hq0
              obtain ⟨hp, g, dr, tk, os⟩ := s1
              have lus : us.length = fs.length := by rw [← r1.length]; exact hl
              have hl8 := Nat.le_of_ble_eq_true hl8
              have hl1 := Nat.le_of_ble_eq_true hl1
              have kk : ∀ b o, hp.get? b = some o → ((hp.push (kdv_tup us)).push (PySem.HandSPX.excO C hp.objs.size)).get? b = some o := fun b o e => Heap.get?_push_of_some _ (Heap.get?_push_of_some _ e)
              have hget : ((hp.push (kdv_tup us)).push (PySem.HandSPX.excO C hp.objs.size)).get? (hp.objs.size + 1) = some (excObj C hp.objs.size none .none) := by heap_get
              obtain ⟨mb, hmb, hmv⟩ := I1.mod.blt
              have bk : ∀ b o, X.base.get? b = some o → ((hp.push (kdv_tup us)).push (PySem.HandSPX.excO C hp.objs.size)).get? b = some o := fun b o e => kk b o (I1.bk b o e)
              refine wpAny_call (PySem.HandSPX.call_own b.FB hTl hC (looks_findIn I1.kIn e1) (fun sf => exc_bind (I1.kIn _ _ e2) rfl sf) (by rw [lus, sizeLine_eq]; omega) ?_)
              refine init_go (fs := fs) (us := us) (ws := vs) (e := hp.objs.size + 1) (t0 := hp.objs.size) (mg := X.mg) (mb := mb) (ar := ar) (args := args) (file := file) Y b.FB b.KF hq0 (eqOO_ok hop) (eqOO_ok hsu) (optB_ok hbB) (optB_ok hCC) (I1.kIn.keeps kk) (by rw [make_depth]; have := hr.dp; omega) (I1.mod.nolimit.keeps bk) (I1.mod.glob.keeps bk) hS (hmb.keeps bk)
                ((hmv "super" (by decide)).trans (by decide +kernel)) e2 hco lcd c6 hvs hF hT hbody hcl lcc (eq_of_beq c8) (eq_of_beq c9) (List.isEmpty_iff.mp c10) (List.isEmpty_iff.mp c11) (Option.isNone_iff_eq_none.mp c12) (Option.isNone_iff_eq_none.mp c13) hdf ha6 rfl (strsEq_ok d1) (nodupS_ok d2)
                ⟨isFun_ok c19, (locB_ok d4).1, (locB_ok d4).2, fun f hf => locB_ok (List.all_eq_true.mp c15 f hf)⟩ (noCell_ok c16) (by rw [← look_eq]; exact isGl_ok c17) (by rw [← look_eq]; exact isFr_ok c18) (by simpa using c20) (by simpa using c21) d3 (fun z => by rw [z] at hl1; simp at hl1) (fun f hf => eqOO_ok (List.all_eq_true.mp hnf f hf)) c3 lus.symm hl8 r1 hget ?_ ?_
              · cases z : X.K.lookup (hp.objs.size + 1) with
                | none => rfl
                | some o => exact absurd (Heap.lt_size (I1.kIn _ _ z)) (by simp)
              · intro h' tk' t1 dx m' kp hsz he' nd' rel
                have hsz' : hp.objs.size + 2 ≤ dx := by rw [Heap.size_push, Heap.size_push] at hsz; exact hsz
                obtain ⟨Gh, g1', g2'⟩ := restrict h' fun b => decide (b ≠ hp.objs.size + 1)
                have gk : ∀ b, b ≠ hp.objs.size + 1 → Gh.get? b = h'.get? b := fun b hb => g1' b (decide_eq_true hb)
                have ge : Gh.get? (hp.objs.size + 1) = none := g2' _ (by simp)
                have keep : ∀ b u, hp.get? b = some u → Gh.get? b = some u := fun b u z => by
                  have nb : b ≠ hp.objs.size + 1 := fun y => absurd (Heap.lt_size z) (by rw [y]; simp)
                  rw [gk b nb]
                  exact kp b u nb (kk b u z)
                have J : Inv X pins σ (upd H1 dx (.xd (fs.zip vs).reverse)) ⟨Gh, g, dr, tk', os⟩ := I1.laid (t' := tk') (h' := Gh) keep (show hp.objs.size ≤ dx by omega) ⟨m', nd'.at fun o y => (gk dx (by omega)).trans y, rel⟩
                have hdx : H1 dx = none := I1.hok.fresh (show hp.objs.size ≤ dx by omega)
                refine ⟨rfl, ⟨hp.objs.size + 1, _, _, ⟨Gh, g, dr, tk', os⟩, _, .ref C, some dx, rfl, J, fun b o z => ?_, ge, he', ⟨rfl, rfl⟩, rfl, rfl, ?_, rfl, I1.bare, raises_own (optB_ok hbe) (eq_of_beq hty), q1 dx hdx⟩⟩
                · by_cases y : b = hp.objs.size + 1
                  · rw [y, ge] at z; cases z
                  · rw [← gk b y]; exact z
                · rw [upd_ne (show hp.objs.size + 1 ≠ dx by omega)]
                  exact I1.hok.fresh (show hp.objs.size ≤ hp.objs.size + 1 by omega)
            · cases hfn
          | _ => cases hfn
      | _ => cases hfn
/-- what a module says of its exception classes -/
structure ExcsOk (M : Mo) (md : Md) (file : Str) : Prop where
  sup : SupOk M file
  one : ∀ c x n, excIs x n md.excs c = true → M.mg x = some (.ref (M.ca c)) ∧ ∃ fs b, clsB M.K file (M.ca c) fs b = true ∧ fs.length = n
  keep : ∀ c fs b, clsB M.K file (M.ca c) fs b = true → PySem.W.keepIn M.K (.ref (M.ca c)) = true
theorem clsB_keep {K : Frag} {file : Str} {C : Addr} {fs : List Str} {b : XB} (h : clsB K file C fs b = true) : PySem.W.keepIn K (.ref C) = true := by
  unfold clsB at h
  simp only [Bool.and_eq_true] at h
  exact h.1.1.1.1.1.1.1.1.1.1.2
theorem pmk_x (G : Gd M X N sc k W) {x file : Str} {C : Addr} {fs : List Str} {b : XB} {p : Pos} {a : Expr} {as : List Expr} {ta : TA} (S : SupOk M file) (hm : M.mg x = some (.ref C)) (hx : clsB M.K file C fs b = true) (hg : isGl (look sc.names x) = true) (hd : (!strEq x sDebug) = true) (hn : (a :: as).all notStar = true) (ha : PA X (a :: as) ta) :
    PMk X (.Call (.Name x p) (a :: as) [] pos) (tMkX C fs ta) := by
  intro pins s σ H Q I h
  rw [List.all_cons, Bool.and_eq_true] at hn
  refine wpAny_Call_Name_kw (ld_glob I (G.gl hg) (by rw [G.hmg]; exact hm) ?_ (not_eq hd))
  refine PySem.W.callWith_K (h₀ := X.base) I.ok.mod.kin (by rw [G.hK]; exact clsB_keep hx) (thn (ha.run pos pins s σ H _ I h) fun us s1 ⟨vs, H1, I1, r1, hl, q1⟩ => ⟨I1.kIn, ?_⟩) (notStar_each hn.1) (stars_plain hn.2)
  exact make_ok G.hK hx (by rw [G.hmg]; exact S.mg) (by rw [G.hP]; exact S.file) (by rw [G.hP]; exact S.top) G.room I1 r1 hl q1
theorem rf_of {c : Cf} : ∀ {fs : List Str} {us : List Val} {vs : List V}, RVs M c us vs → RF M c (fs.zip us) (fs.zip vs)
  | [], _, _, _ => .nil
  | _ :: _, _, _, .nil => .nil
  | _ :: _, _, _, .cons h t => .cons h (rf_of t)
theorem RF.append {c : Cf} : ∀ {xs : List (Str × Val)} {ys : List (Str × V)} {us : List (Str × Val)} {vs : List (Str × V)}, RF M c xs ys → RF M c us vs → RF M c (xs ++ us) (ys ++ vs)
  | _, _, _, _, .nil, q => q
  | _, _, _, _, .cons h t, q => .cons h (RF.append t q)
theorem RF.reverse {c : Cf} : ∀ {xs : List (Str × Val)} {ys : List (Str × V)}, RF M c xs ys → RF M c xs.reverse ys.reverse
  | _, _, .nil => .nil
  | _, _, .cons h t => by simp only [List.reverse_cons]; exact RF.append (RF.reverse t) (.cons h .nil)
theorem ss_raise {cl : Cl} {rc : Rec} (G : Gs M X N sc k W) {x file : Str} {c : Nat} {fs : List Str} {b : XB} {p : Pos} {a : Expr} {as : List Expr} {ms : List E} (S : SupOk M file) (hm : M.mg x = some (.ref (M.ca c))) (hx : clsB M.K file (M.ca c) fs b = true) (hfs : cl.fields c = fs) (hg : isGl (look sc.names x) = true) (hd : (!strEq x sDebug) = true)
    (hn : (a :: as).all notStar = true) (ha : PA X (a :: as) (tEvA M W (evs rc ms))) {p2 : Pos} : PS X (.Raise (some (.Call (.Name x p) (a :: as) [] p2)) none pos) (tEvS M W (stepS cl rc (.raise c ms))) := by
  refine PS.of (ps_raise G.g.calm G.g.tk (pmk_x G.g S hm hx hg hd hn ha)) fun D σ H ⟨c0, s, h, ⟨e, R, S⟩, g⟩ => ?_
  subst e
  refine ⟨c0, s, h, ⟨rfl, R, S⟩, GoS.inS S g fun us h1 c1 vs e1 R1 r g1 => ?_⟩
  rw [hfs] at g1
  cases q : Nat.beq us.length fs.length with
  | false => rw [q] at g1; exact g1.elim
  | true =>
    rw [q] at g1
    refine ⟨by rw [← r.length]; exact Nat.eq_of_beq_eq_true q, fun d hd => ?_⟩
    obtain ⟨R2, x2⟩ := R1.side (u := .xd (fs.zip vs).reverse) hd
    exact g1 (c1.upd d (.xd (fs.zip vs).reverse)) (.ref (M.ca c)) (some d) σ x2 R2 ((S.ext e1).ext x2) ⟨rfl, d, _, rfl, upd_same, (rf_of (r.ext x2)).reverse⟩
end
end Ev

set_option Elab.async false
set_option linter.all false
set_option maxRecDepth 100000
set_option maxHeartbeats 2000000
/-! try / except C as e. -/
namespace Ev
open PySem PySem.Spec PyProof.Rows L2
structure ClOk (M : Mo) (cl : Cl) : Prop where
  cat : ∀ c d b, cl.cat c d = some b → PySem.W.exmOne M.K (.ref (M.ca c)) (.ref (M.ca d)) = some b
  fld : ∀ c f, inS f (cl.fields c) = true → XfC M.K (M.ca c) ∧ PySem.W.findIn M.K (.ref (M.ca c)) f = some none
section
variable {M : Mo} {X : Cx} {N : List Str} {sc : Scope} {k : Nat} {W : WX} {md : Md} {cl : Cl} {rc : Rec} {pos : Pos} {a : Addr} {i : Nat} {cls : Value} {d : Option Addr} {oe : Obj} {pn : List (Addr × Obj)}
theorem lookF_rv {c : Cf} {f : Str} {v : Val} : ∀ {fs : List (Str × Val)} {gs : List (Str × V)}, RF M c fs gs → lookF f fs = some v → ∃ y, gs.lookup f = some y ∧ RV M c v y
  | _, _, .nil, e => by cases e
  | _, _, .cons (f := g) h t, e => by
    unfold lookF at e
    rw [List.lookup_cons]
    dsimp only at e
    have hc : (f == g) = strEq g f := by
      rw [strEq_beq]
      cases q : g == f with
      | true => rw [eq_of_beq q]; simp
      | false => 
        have : g ≠ f := fun z => by rw [z] at q; simp at q
        simp [Ne.symm this]
    rw [hc]
    cases q : strEq g f with
    | true => rw [q] at e; cases e; exact ⟨_, rfl, h⟩
    | false => rw [q] at e; exact lookF_rv t e
/-- the state in a suite -/
structure HotAt (M : Mo) (a : Addr) (i : Nat) (cls : Value) (d : Option Addr) (c : Cf) (h : LHeap) (s : LSt) (kx : Nat) (fs : List (Str × Val)) (σ : St) (H : Hp) : Prop where
  H : c.H = H
  h : RH M c h
  x : RX M c kx fs cls d
  e : σ[i]? = some (some (.ref a))
  s : RSl M c s σ
def tHE (M : Mo) (cl : Cl) (a : Addr) (i : Nat) (cls : Value) (d : Option Addr) (e : HE) : TE := fun σ H Q => ∃ c h s kx fs v, HotAt M a i cls d c h s kx fs σ H ∧ hotE cl kx fs s e = some v ∧ ∀ y, RV M c v y → Q y H
theorem PE.cases {e : Expr} {t' : TE} (h : ∀ σ H Q, t' σ H Q → ∃ t, PE X e t ∧ t σ H Q) : PE X e t' := ⟨fun pins s σ H Q I q => by
  obtain ⟨t, ht, q'⟩ := h σ H Q q
  exact ht.run pins s σ H Q I q'⟩
theorem he_fld (G : Gd M X N sc k W) (L : ClOk M cl) {n f : Str} {p : Pos} (hi : nthS N i n = true) (hv : isVis (look sc.names n) = true) (hd : (!strEq n sDebug) = true) (hc : (!strEq n sClassdict) = true) (hz : Zc cls d oe) (hf : ∃ vs, oe.data = .fields vs) :
    PE (X.suite a ((a, oe) :: pn)) (.Attribute (.Name n p) f pos) (tHE M cl a i cls d (.fld f)) := by
  refine PE.cases fun σ H Q ⟨c, h, s, kx, fs, v, A, ev, q⟩ => ?_
  have ev : (match inS f (cl.fields kx) with
    | true => lookF f fs
    | false => none) = some v := ev
  cases qi : inS f (cl.fields kx) with
  | false => rw [qi] at ev; cases ev
  | true =>
    rw [qi] at ev
    obtain ⟨T, hno⟩ := L.fld kx f qi
    obtain ⟨dx, gs, e1, e2, e3⟩ := A.x.d
    obtain ⟨y, ey, ry⟩ := lookF_rv e3 ev
    refine ⟨_, pe_xf (X := X) (C := M.ca kx) (n := f) (by rw [G.hK]; exact T) (by rw [G.hK]; exact hno) hz hf (pe_var (X := X.suite a ((a, oe) :: pn)) (i := i) (by show X.N[i]? = some n; rw [G.hN]; exact nthS_eq hi) (G.vis hv) (not_eq hd) (not_eq hc)), ?_⟩
    refine ⟨.ref a, A.e, rfl, A.x.cls, dx, gs, y, e1, ?_, ey, q y ry⟩
    rw [← A.H]
    exact e2
theorem he_lit {cst : Const} {j : Nat} {v : Val} (h : litEq cst v = true) : PE (X.suite a ((a, oe) :: pn)) (.Constant cst j pos) (tHE M cl a i cls d (.lit v)) := by
  cases cst <;> cases v <;> first | (cases h; done) | skip
  · exact PE.of pe_non fun σ H Q ⟨c, hh, s, kx, fs, v, A, ev, q⟩ => by cases ev; exact q _ .non
  · rename_i x y
    have e : x = y := by simpa [litEq] using h
    subst e
    exact PE.of pe_bl fun σ H Q ⟨c, hh, s, kx, fs, v, A, ev, q⟩ => by cases ev; exact q _ (.bl _)
  · rename_i x y
    have e : x = y := by simpa [litEq] using h
    subst e
    exact PE.of pe_int fun σ H Q ⟨c, hh, s, kx, fs, v, A, ev, q⟩ => by cases ev; exact q _ (.int _)
  · rename_i x y
    have e : x = y := strEq_iff.mp h
    subst e
    exact PE.of pe_str fun σ H Q ⟨c, hh, s, kx, fs, v, A, ev, q⟩ => by cases ev; exact q _ (.str _)
theorem he_glb (G : Gd M X N sc k W) (D : MdOk M md) {x y : Str} {v : Val} (hg : isGl (look sc.names x) = true) (hc : constIs x v md.consts = true) (hd : (!strEq x sDebug) = true) : PE (X.suite a ((a, oe) :: pn)) (.Name x pos) (tHE M cl a i cls d (.glb y v)) := by
  obtain ⟨u, z, e1, r, hr⟩ := D.const x v hc
  exact PE.of (pe_glob (X := X.suite a ((a, oe) :: pn)) (G.gl hg) (by show X.mg x = some u; rw [G.hmg]; exact e1) r (not_eq hd)) fun σ H Q ⟨c, hh, s, kx, fs, v, A, ev, q⟩ => by cases ev; exact q _ (hr c)
theorem he_var (G : Gd M X N sc k W) {x : Str} {j : Nat} (h : nthS N j x = true) (hv : isVis (look sc.names x) = true) (hd : (!strEq x sDebug) = true) (hc : (!strEq x sClassdict) = true) : PE (X.suite a ((a, oe) :: pn)) (.Name x pos) (tHE M cl a i cls d (.var j)) := by
  refine PE.of (pe_var (X := X.suite a ((a, oe) :: pn)) (i := j) (by show X.N[j]? = some x; rw [G.hN]; exact nthS_eq h) (G.vis hv) (not_eq hd) (not_eq hc)) fun σ H Q ⟨c, hh, s, kx, fs, v, A, ev, q⟩ => ?_
  obtain ⟨u, e1, r⟩ := A.s.at_ j v ev
  exact ⟨u, e1, q u r⟩
def tHL (M : Mo) (cl : Cl) (a : Addr) (i : Nat) (cls : Value) (d : Option Addr) (es : List HE) : TA := fun σ H Q => ∃ c h s kx fs vs, HotAt M a i cls d c h s kx fs σ H ∧ hotL cl kx fs s es = some vs ∧ ∀ ys, RVs M c vs ys → Q ys H
theorem hl_nil : PA (X.suite a ((a, oe) :: pn)) [] (tHL M cl a i cls d []) := PA.of pa_nil fun σ H Q ⟨c, h, s, kx, fs, vs, A, ev, q⟩ => by cases ev; exact q _ .nil
theorem hl_cons {e : Expr} {es : List Expr} {m : HE} {ms : List HE} (hn : notStar e = true) (he : PE (X.suite a ((a, oe) :: pn)) e (tHE M cl a i cls d m)) (hs : PA (X.suite a ((a, oe) :: pn)) es (tHL M cl a i cls d ms)) : PA (X.suite a ((a, oe) :: pn)) (e :: es) (tHL M cl a i cls d (m :: ms)) :=
  PA.of (pa_cons he hs (notStar_each hn)) fun σ H Q ⟨c, h, s, kx, fs, vs, A, ev, q⟩ => by
    unfold hotL at ev
    cases q1 : hotE cl kx fs s m with
    | none => rw [q1] at ev; cases ev
    | some v =>
      rw [q1] at ev
      cases q2 : hotL cl kx fs s ms with
      | none => rw [q2] at ev; cases ev
      | some ws =>
        rw [q2] at ev
        cases ev
        exact ⟨c, h, s, kx, fs, v, A, q1, fun y r => ⟨c, h, s, kx, fs, ws, A, q2, fun ys rs => q _ (.cons r rs)⟩⟩
/-- a suite's reading -/
def tHB (M : Mo) (cl : Cl) (a : Addr) (i : Nat) (cls : Value) (d : Option Addr) (b : HB) : TS := fun D σ H => ∃ c h s kx fs, HotAt M a i cls d c h s kx fs σ H ∧ GoS M c (hotB cl kx fs s h b) D W0
theorem hb_set {pk : Option NameKind → Bool} (G : Gs M X N sc k W) {x : Str} {p : Pos} {e : Expr} {j : Nat} {m : HE} (hi : nthS N j x = true) (hl : isLoc (look sc.names x) = true) (hn : notComp e = true) (he : PE (X.suite a ((a, oe) :: pn)) e (tHE M cl a i cls d m)) :
    PSs (X.suite a ((a, oe) :: pn)) [.Assign [.Name x p] e pos] (tHB M cl a i cls d (.set1 j m)) := by
  refine PSs.of (pss_one (ps_set (X := X.suite a ((a, oe) :: pn)) (i := j) (by show X.N.Nodup; rw [G.g.hN]; exact G.g.nd) (by show X.N[j]? = some x; rw [G.g.hN]; exact nthS_eq hi) (G.fl x hl).1 he (notComp_swap hn) (G.fl x hl).2)) fun D σ H ⟨c, h, s, kx, fs, A, g⟩ => ?_
  have g : GoS M c (match hotE cl kx fs s m with
    | some v => .ok (.nx (setV s j v)) h
    | none => .bad) D W0 := g
  cases q : hotE cl kx fs s m with
  | none => rw [q] at g; exact g.elim
  | some v =>
    rw [q] at g
    refine ⟨c, h, s, kx, fs, v, A, q, fun y r => ?_⟩
    have := g c _ (Ext.refl c) A.h (A.s.set j r)
    rw [A.H] at this
    exact this
theorem hb_ret {e : Expr} {m : HE} (he : PE (X.suite a ((a, oe) :: pn)) e (tHE M cl a i cls d m)) : PSs (X.suite a ((a, oe) :: pn)) [.Return (some e) pos] (tHB M cl a i cls d (.ret1 m)) := by
  refine PSs.of (pss_one (ps_ret he)) fun D σ H ⟨c, h, s, kx, fs, A, g⟩ => ?_
  have g : GoS M c (match hotE cl kx fs s m with
    | some v => .ok (.rt v) h
    | none => .bad) D W0 := g
  cases q : hotE cl kx fs s m with
  | none => rw [q] at g; exact g.elim
  | some v =>
    rw [q] at g
    refine ⟨c, h, s, kx, fs, v, A, q, fun y r => ?_⟩
    have := g c _ (Ext.refl c) A.h r
    rw [A.H] at this
    exact this
theorem hb_retT {es : List Expr} {j : Nat} {p : Pos} {ms : List HE} (he : PA (X.suite a ((a, oe) :: pn)) es (tHL M cl a i cls d ms)) : PSs (X.suite a ((a, oe) :: pn)) [.Return (some (.Tuple es j p)) pos] (tHB M cl a i cls d (.retT ms)) := by
  refine PSs.of (pss_one (ps_ret (pe_tup he))) fun D σ H ⟨c, h, s, kx, fs, A, g⟩ => ?_
  have g : GoS M c (match hotL cl kx fs s ms with
    | some vs => (match Nat.ble vs.length line with
      | true => .ok (.rt (.tup vs)) h
      | false => .bad)
    | none => .bad) D W0 := g
  cases q : hotL cl kx fs s ms with
  | none => rw [q] at g; exact g.elim
  | some vs =>
    rw [q] at g
    dsimp only at g
    cases ql : Nat.ble vs.length line with
    | false => rw [ql] at g; exact g.elim
    | true =>
      rw [ql] at g
      refine ⟨c, h, s, kx, fs, vs, A, q, fun ys r => ⟨by rw [← r.length, ← line_eq]; exact ble_true ql, fun p hp => ?_⟩⟩
      rw [← A.H] at hp ⊢
      obtain ⟨R', ex⟩ := A.h.side (u := .tup ys) hp
      exact g (c.upd p (.tup ys)) (.ref p) ex R' (.tup upd_same (r.ext ex))
theorem RSl.over {c : Cf} {s : LSt} {σ : St} (S : RSl M c s σ) (i : Nat) (v : V) : RSl M c (unV s i) (σ.set i (some v)) := by
  refine ⟨by rw [length_unV, List.length_set]; exact S.len, fun j u e => ?_⟩
  rw [getV_unV] at e
  by_cases q : j = i
  · rw [if_pos q] at e; cases e
  · rw [if_neg q] at e
    obtain ⟨y, e1, r⟩ := S.at_ j u e
    exact ⟨y, by rw [List.getElem?_set_ne (Ne.symm q)]; exact e1, r⟩
theorem gone_go {c : Cf} {r : RS} {D : Ends} (g : GoS M c (gone i r) D W) : GoS M c r { nx := fun σ' H' => D.nx (σ'.set i none) H', rt := D.rt, bk := fun σ' H' => D.bk (σ'.set i none) H', ct := fun σ' H' => D.ct (σ'.set i none) H' } W0 := by
  cases r with
  | ok f h =>
    cases f with
    | nx s => exact fun c' σ' e R S => g c' (σ'.set i none) e R (S.un i)
    | rt v => exact g
    | bk s => exact g.elim
    | ct s => exact g.elim
  | exc _ _ _ _ => exact g.elim
  | bad => exact g.elim
theorem ss_tryAs (G : Gs M X N sc k W) (L : ClOk M cl) {x n : Str} {np p' : Pos} {body : List Stmt} {st : Stmt} {mb : List S} {ci : Nat} {hb : HB} (hx : M.mg x = some (.ref (M.ca ci))) (hg : isGl (look sc.names x) = true) (hd : (!strEq x sDebug) = true) (hi : nthS N i n = true) (hl : isLc (look sc.names n) = true)
    (hbody : ∀ (W' : WX) (pn : List (Addr × Obj)) (xe : Value → Shared → Prop), Takes (X.tr pn xe) W' → PassesOwn (model X.prog X.w) X.A X.env xe → PSs (X.tr pn xe) body (tEvS M W' (execs rc mb)))
    (hsu : ∀ (a : Addr) (oe : Obj) (cls : Value) (d : Option Addr) (pn : List (Addr × Obj)), Zc cls d oe → (∃ vs, oe.data = .fields vs) → PSs (X.suite a ((a, oe) :: pn)) [st] (tHB M cl a i cls d hb)) :
    PS X (.Try body [.ExceptHandler (some (.Name x np)) (some n) [st] p'] [] [] pos) (tEvS M W (stepS cl rc (.tri mb [(ci, i, hb)]))) := by
  have hln : X.env.kindOf n = some .local := (by
    have := (G.g.lc n hl)
    unfold Env.kindOf
    rw [look_eq] at hl
    rw [G.g.hsc]
    cases e : sc.names.lookup n with
    | none => rw [e] at hl; cases hl
    | some kd => rw [e] at hl; cases kd <;> first | rfl | cases hl)
  refine PS.of (ps_try_as (i := i) (ts := fun a cls d => tHB M cl a i cls d hb) (tb := fun W' => tEvS M W' (execs rc mb)) G.st G.fr (by rw [G.g.hN]; exact G.g.nd) (by rw [G.g.hN]; exact nthS_eq hi) hln (c := .ref (M.ca ci)) ⟨G.g.gl hg, not_eq hd, .inl (by rw [G.g.hmg]; exact hx)⟩ G.g.tk hbody hsu) fun D σ H ⟨c, s, h, ⟨e, R, S⟩, g⟩ => ?_
  subst e
  refine ⟨c, s, h, ⟨rfl, R, S⟩, ?_⟩
  have g' : GoS M c (match execs rc mb s h with
    | .exc c fs s1 h1 => handle cl c fs s1 h1 [(ci, i, hb)]
    | r => r) D W := g
  cases q : execs rc mb s h with
  | ok f h1 => rw [q] at g'; exact g'
  | bad => rw [q] at g'; exact g'
  | exc kx fs s1 h1 =>
    rw [q] at g'
    intro c1 cls d σ1 e1 R1 S1 x1
    have g1 := GoS.ext e1 g'
    unfold handle at g1
    dsimp only at g1
    cases qc : cl.cat kx ci with
    | none => rw [qc] at g1; exact g1.elim
    | some b =>
      rw [qc] at g1
      refine ⟨b, by rw [G.g.hK, x1.cls]; exact L.cat kx ci b qc, fun hb1 a ha => ?_, fun hb1 => ?_⟩
      · subst hb1
        dsimp only at g1
        cases ql : Nat.blt i s1.length with
        | false => rw [ql] at g1; exact g1.elim
        | true =>
          rw [ql] at g1
          exact ⟨c1, h1, unV s1 i, kx, fs, ⟨rfl, R1, x1, List.getElem?_set_self (by rw [← S1.len]; exact blt_true ql), S1.over i _⟩, gone_go g1⟩
      · subst hb1
        exact g1 c1 cls d σ1 (Ext.refl c1) R1 S1 x1
end
end Ev

set_option Elab.async false
set_option linter.all false
set_option maxRecDepth 100000
set_option maxHeartbeats 2000000
/-! dict(zip(a, b)), a and b tuples. -/
namespace Ev
open PySem PySem.Spec PyProof.Rows L2 PySem.W RZ
section
variable {prog : Program} {w : World} {A : Around} {E : Value → Shared → Prop} {st : Shared}
/-- what a zip of two tuples needs, its last pair still out -/
structure ZHeld (h : Heap) (z TI TO T i1 i2 l1 l2 : Addr) (k : Nat) (f : Bool) (xs ys : Array Value) : Prop where
  z : IsZipHeld h z TI TO T f
  t : ∃ oT, h.get? T = some oT
  p : IsPair h TI (.ref i1) (.ref i2)
  a : h.IsTupleIter i1 l1 k
  b : h.IsTupleIter i2 l2 k
  x : h.IsTuple l1 xs
  y : h.IsTuple l2 ys
variable {z TI TO T i1 i2 l1 l2 : Addr} {k : Nat} {f : Bool} {xs ys : Array Value}
theorem zh_item {x y : Value} {Q : Value → Shared → Prop} (D : ZipApart z TI TO i1 i2 l1 l2) (Z : ZHeld st.heap z TI TO T i1 i2 l1 l2 k f xs ys) (hx : xs[k]? = some x) (hy : ys[k]? = some y)
    (hQ : ∀ g, IsZipHeld g z TI TO T true → g.IsTupleIter i1 l1 (k + 1) → g.IsTupleIter i2 l2 (k + 1) → IsPair g st.heap.objs.size x y → (∀ c o, c ≠ z → c ≠ i1 → c ≠ i2 → st.heap.get? c = some o → g.get? c = some o) → Q (.ref st.heap.objs.size) { st with heap := g }) :
    wpAny (model prog w) A (Builtin.«zip.__next__» ⟨[.ref z], []⟩) (fun fin s' => ∃ v, fin = .done (.ret v) ∧ Q v s') E st := by
  obtain ⟨oT, hT⟩ := Z.t
  show wpAny _ _ (field (.ref z) 2 >>= _) _ _ st
  refine wpAny_bind (wpAny_field Z.z rfl (x := .bool false) rfl (show wpAny _ _ (field (.ref z) 3 >>= _) _ _ st from wpAny_bind (wpAny_field Z.z rfl (x := .ref TI) rfl (wpAny_bind (wpAny_seqItems Z.p rfl ?_)))))
  show wpAny _ _ (Builtin.SmallTypes.ownedTupleIsFree (.ref z) >>= _) _ _ st
  refine wpAny_bind (wpAny_tupleHeld_zip Z.z hT fun g1 z1 s1 => ?_)
  simp only [Bool.false_eq_true, if_false]
  refine wpAny_bind ?_
  rw [← Array.forIn_toList]
  simp only [List.forIn_cons, List.forIn_nil]
  refine wpAny_bind (wpAny_bind (wpAny_holding (show wpAny _ _ (Builtin.SmallTypes.nextOf (.ref i1) >>= _) _ _ _ from wpAny_bind (nextOf_tuple_item (s := { st with heap := g1 }) (Z.a.extBut s1.extBut D.i1z) (Z.x.extBut s1.extBut D.l1z) hx fun g2 a2 s2 => wpAny_pure (wpAny_pure ?_)))))
  refine wpAny_bind (wpAny_bind (wpAny_holding (show wpAny _ _ (Builtin.SmallTypes.nextOf (.ref i2) >>= _) _ _ _ from wpAny_bind (nextOf_tuple_item (s := { st with heap := g2 }) ((Z.b.extBut s1.extBut D.i2z).extBut s2.extBut D.i12.symm) ((Z.y.extBut s1.extBut D.l2z).extBut s2.extBut D.l2i1) hy fun g3 b3 s3 => wpAny_pure (wpAny_pure (wpAny_pure ?_))))))
  show wpAny _ _ (newTuple [x, y] >>= _) _ _ _
  refine wpAny_bind (wpAny_newTuple (wpAny_pure ⟨_, rfl, ?_⟩))
  show Q (.ref g3.objs.size) _
  have sz : g3.objs.size = st.heap.objs.size := by rw [s3.1, s2.1, s1.1]
  have pr : IsPair (g3.push { cls := .type "tuple", data := .seq #[x, y] }) g3.objs.size x y := Heap.get?_push_size _ rfl
  rw [sz] at pr ⊢
  exact hQ _ (Heap.get?_push_of_some _ (s3.extBut _ _ D.i2z.symm (s2.extBut _ _ D.i1z.symm z1))) ((a2.extBut s3.extBut D.i12).at fun o e => Heap.get?_push_of_some _ e) (b3.at fun o e => Heap.get?_push_of_some _ e) pr
    fun c o n1 n2 n3 e => Heap.get?_push_of_some _ (s3.extBut _ _ n3 (s2.extBut _ _ n2 (s1.extBut _ _ n1 e)))
theorem zh_end {Q : Fin → Shared → Prop} (hh : A.handled = none) (D : ZipApart z TI TO i1 i2 l1 l2) (Z : ZHeld st.heap z TI TO T i1 i2 l1 l2 k f xs ys) (hend : xs[k]? = none ∨ ys[k]? = none)
    (hE : ∀ g e, (∀ c o, c ≠ z → c ≠ i1 → c ≠ i2 → st.heap.get? c = some o → g.get? c = some o) → (∃ o, g.get? e = some o ∧ o.cls = .type "StopIteration") → E (.ref e) { st with heap := g }) :
    wpAny (model prog w) A (Builtin.«zip.__next__» ⟨[.ref z], []⟩) Q E st := by
  obtain ⟨oT, hT⟩ := Z.t
  show wpAny _ _ (field (.ref z) 2 >>= _) _ _ st
  refine wpAny_bind (wpAny_field Z.z rfl (x := .bool false) rfl (show wpAny _ _ (field (.ref z) 3 >>= _) _ _ st from wpAny_bind (wpAny_field Z.z rfl (x := .ref TI) rfl (wpAny_bind (wpAny_seqItems Z.p rfl ?_)))))
  show wpAny _ _ (Builtin.SmallTypes.ownedTupleIsFree (.ref z) >>= _) _ _ st
  refine wpAny_bind (wpAny_tupleHeld_zip Z.z hT fun g1 z1 s1 => ?_)
  simp only [Bool.false_eq_true, if_false]
  refine wpAny_bind ?_
  rw [← Array.forIn_toList]
  simp only [List.forIn_cons, List.forIn_nil]
  refine wpAny_bind (wpAny_bind (wpAny_holding ?_))
  show wpAny _ _ (Builtin.SmallTypes.nextOf (.ref i1) >>= _) _ _ _
  cases hx : xs[k]? with
  | none => exact wpAny_bind (nextOf_tuple_end (s := { st with heap := g1 }) hh (Z.a.extBut s1.extBut D.i1z) (Z.x.extBut s1.extBut D.l1z) hx fun g2 e s2 he => hE g2 e (fun c o n1 n2 _ q => s2 _ _ n2 (s1.extBut _ _ n1 q)) he)
  | some x =>
    have hy : ys[k]? = none := hend.elim (fun q => by rw [hx] at q; cases q) id
    refine wpAny_bind (nextOf_tuple_item (s := { st with heap := g1 }) (Z.a.extBut s1.extBut D.i1z) (Z.x.extBut s1.extBut D.l1z) hx fun g2 a2 s2 => wpAny_pure (wpAny_pure ?_))
    refine wpAny_bind (wpAny_bind (wpAny_holding (show wpAny _ _ (Builtin.SmallTypes.nextOf (.ref i2) >>= _) _ _ _ from wpAny_bind (nextOf_tuple_end (s := { st with heap := g2 }) hh ((Z.b.extBut s1.extBut D.i2z).extBut s2.extBut D.i12.symm) ((Z.y.extBut s1.extBut D.l2z).extBut s2.extBut D.l2i1) hy fun g3 e s3 he => ?_))))
    exact hE g3 e (fun c o n1 n2 n3 q => s3 _ _ n3 (s2.extBut _ _ n2 (s1.extBut _ _ n1 q))) he
/-- the state of the zip at turn i: at the start, or with a pair out -/
def ZAt (z TI TO i1 i2 l1 l2 d : Addr) (xs ys : Array Value) (i : Nat) (h : Heap) : Prop := IsPair h TI (.ref i1) (.ref i2) ∧ h.IsTupleIter i1 l1 i ∧ h.IsTupleIter i2 l2 i ∧ h.IsTuple l1 xs ∧ h.IsTuple l2 ys ∧
  ((IsZip h z TI TO .none ∧ ∃ a b, IsPair h TO a b) ∨ ∃ T f oT, IsZipHeld h z TI TO T f ∧ h.get? T = some oT ∧ T ≠ z ∧ T ≠ i1 ∧ T ≠ i2 ∧ T ≠ d)
theorem pairArg_zipT (z TI TO i1 i2 l1 l2 : Addr) (D : ZipApart z TI TO i1 i2 l1 l2) (xs ys : Array Value) : PairArg prog w "zip" z [z, TI, TO, i1, i2, l1, l2] [z, TO, i1, i2] (min xs.size ys.size) (fun i key v => xs[i]? = some key ∧ ys[i]? = some v)
    (fun h => IsZip h z TI TO .none ∧ IsPair h TI (.ref i1) (.ref i2) ∧ (∃ a b, IsPair h TO a b) ∧ h.IsTupleIter i1 l1 0 ∧ h.IsTupleIter i2 l2 0 ∧ h.IsTuple l1 xs ∧ h.IsTuple l2 ys) := by
  refine ⟨fun s ok => ⟨_, ok.1, rfl⟩, by decide, fun h h' ⟨o1, o2, ⟨a, b, o3⟩, o4, o5, o6, o7⟩ kp => ⟨kp _ _ o1, kp _ _ o2, ⟨a, b, kp _ _ o3⟩, o4.at fun o e => kp _ o e, o5.at fun o e => kp _ o e, o6.at fun o e => kp _ o e, o7.at fun o e => kp _ o e⟩, fun h ok b hb => ?_, fun b hb => ?_,
    fun A s Q E hA ok h => getAttrOr_miss_zip ok.1 rfl rfl rfl zip_no_keys (by decide +kernel) hA h, fun A s d Q E hA ok hd hdf h => ?_⟩
  · obtain ⟨o1, o2, ⟨a, c, o3⟩, ⟨u4, o4, _⟩, ⟨u5, o5, _⟩, ⟨u6, o6, _⟩, ⟨u7, o7, _⟩⟩ := ok
    simp only [List.mem_cons, List.not_mem_nil, or_false] at hb
    rcases hb with rfl | rfl | rfl | rfl | rfl | rfl | rfl
    · exact ⟨_, o1⟩
    · exact ⟨_, o2⟩
    · exact ⟨_, o3⟩
    · exact ⟨_, o4⟩
    · exact ⟨_, o5⟩
    · exact ⟨_, o6⟩
    · exact ⟨_, o7⟩
  · simp only [List.mem_cons, List.not_mem_nil, or_false] at hb ⊢
    rcases hb with e | e | e | e <;> simp [e]
  · obtain ⟨o1, o2, ⟨a, b, o3⟩, o4, o5, o6, o7⟩ := ok
    simp only [List.mem_cons, List.not_mem_nil, or_false, not_or] at hdf
    obtain ⟨dz, dTI, dTO, di1, di2, dl1, dl2⟩ := hdf
    refine wpAny_pyIter_zip o1 (h z [z, TO, i1, i2] (ZAt z TI TO i1 i2 l1 l2 d xs ys) s.heap s.toks ⟨?_, ?_, ?_, ?_⟩ ⟨o2, o4, o5, o6, o7, .inl ⟨o1, a, b, o3⟩⟩ (fun _ _ e => e) fun b hb => .inl hb)
    · simp only [List.mem_cons, List.not_mem_nil, or_false, not_or]
      exact ⟨dz, dTO, di1, di2⟩
    · rintro i h₁ h₂ ⟨p2, p4, p5, p6, p7, pz⟩ kp
      refine ⟨kp _ _ (Ne.symm dTI) p2, p4.at fun o e => kp _ o (Ne.symm di1) e, p5.at fun o e => kp _ o (Ne.symm di2) e, p6.at fun o e => kp _ o (Ne.symm dl1) e, p7.at fun o e => kp _ o (Ne.symm dl2) e, pz.imp ?_ ?_⟩
      · rintro ⟨q1, a, b, q3⟩; exact ⟨kp _ _ (Ne.symm dz) q1, a, b, kp _ _ (Ne.symm dTO) q3⟩
      · rintro ⟨T, f, oT, q1, q2, r1, r2, r3, r4⟩; exact ⟨T, f, oT, kp _ _ (Ne.symm dz) q1, kp _ _ r4 q2, r1, r2, r3, r4⟩
    · rintro i s₁ Q₁ E₁ hi ⟨p2, p4, p5, p6, p7, pz⟩ hds hQ
      have ex := Array.getElem?_eq_getElem (Nat.lt_of_lt_of_le hi (Nat.min_le_left ..))
      have ey := Array.getElem?_eq_getElem (Nat.lt_of_lt_of_le hi (Nat.min_le_right ..))
      have lt : ∀ {c o}, s₁.heap.get? c = some o → s₁.heap.objs.size ≠ c := fun e => Nat.ne_of_gt (Heap.lt_size e)
      have n1 : s₁.heap.objs.size ≠ i1 := by obtain ⟨_, e, _⟩ := id p4; exact lt e
      have n2 : s₁.heap.objs.size ≠ i2 := by obtain ⟨_, e, _⟩ := id p5; exact lt e
      rcases pz with ⟨q1, a, b, q3⟩ | ⟨T, f, oT, q1, q2, r1, r2, r3, r4⟩
      · refine pyNext_zipT_item D q1 p2 q3 p4 p5 p6 p7 ex ey fun g b1 b2 b3 b4 b5 b6 kp => hQ s₁.heap.objs.size _ _ g s₁.toks ⟨ex, ey⟩ (.inl ⟨_, b5, rfl, _, rfl⟩) ?_ ?_
        · exact ⟨kp _ _ D.TIz D.TITO D.TIi1 D.TIi2 p2, b3, b4, p6.at fun o e => kp _ o D.l1z D.l1TO D.l1i1 D.l1i2 e, p7.at fun o e => kp _ o D.l2z D.l2TO D.l2i1 D.l2i2 e, .inr ⟨s₁.heap.objs.size, false, _, b1, b5, lt q1, n1, n2, Nat.ne_of_gt hds⟩⟩
        · intro c o hc e
          simp only [List.mem_cons, List.not_mem_nil, or_false, not_or] at hc
          exact kp c o hc.1 hc.2.1 hc.2.2.1 hc.2.2.2 e
      · have hTy : s₁.TypeIs (.ref z) "zip" := ⟨_, q1, rfl⟩
        unfold pyNext
        refine wpAny_bind (wpAny_attempt (wpAny_callSpecial?_slot (name := Str.ofString "__next__") hTy F.slot_zip_next (wpAny_call_entry F.slot_zip_next hTy F.entry_zip_next (zh_item D ⟨q1, ⟨oT, q2⟩, p2, p4, p5, p6, p7⟩ ex ey fun g b1 b3 b4 b5 kp => wpAny_pure ?_) (F.args_zip_next_1 _))))
        refine hQ s₁.heap.objs.size _ _ g s₁.toks ⟨ex, ey⟩ (.inl ⟨_, b5, rfl, _, rfl⟩) ?_ ?_
        · exact ⟨kp _ _ D.TIz D.TIi1 D.TIi2 p2, b3, b4, p6.at fun o e => kp _ o D.l1z D.l1i1 D.l1i2 e, p7.at fun o e => kp _ o D.l2z D.l2i1 D.l2i2 e, .inr ⟨T, true, oT, b1, kp _ _ r1 r2 r3 q2, r1, r2, r3, r4⟩⟩
        · intro c o hc e
          simp only [List.mem_cons, List.not_mem_nil, or_false, not_or] at hc
          exact kp c o hc.1 hc.2.2.1 hc.2.2.2 e
    · rintro s₁ Q₁ E₁ ⟨p2, p4, p5, p6, p7, pz⟩ hQ
      have hend : xs[min xs.size ys.size]? = none ∨ ys[min xs.size ys.size]? = none := (Nat.le_total xs.size ys.size).imp (fun q => Array.getElem?_eq_none (by rw [Nat.min_eq_left q]; exact Nat.le_refl _)) fun q => Array.getElem?_eq_none (by rw [Nat.min_eq_right q]; exact Nat.le_refl _)
      rcases pz with ⟨q1, a, b, q3⟩ | ⟨T, f, oT, q1, q2, r1, r2, r3, r4⟩
      · refine pyNext_zipT_end hA D q1 p2 q3 p4 p5 p6 p7 hend fun g kp => hQ g s₁.toks fun c o hc e => ?_
        simp only [List.mem_cons, List.not_mem_nil, or_false, not_or] at hc
        exact kp c o hc.1 hc.2.1 hc.2.2.1 hc.2.2.2 e
      · have hTy : s₁.TypeIs (.ref z) "zip" := ⟨_, q1, rfl⟩
        unfold pyNext
        refine wpAny_bind (wpAny_attempt (wpAny_callSpecial?_slot (name := Str.ofString "__next__") hTy F.slot_zip_next (wpAny_call_entry F.slot_zip_next hTy F.entry_zip_next (zh_end hA D ⟨q1, ⟨oT, q2⟩, p2, p4, p5, p6, p7⟩ hend fun g e kp he => ?_) (F.args_zip_next_1 _))))
        obtain ⟨o, ho, hc⟩ := he
        refine wpAny_bind (wpAny_isInstance (T := "StopIteration") (b := true) ⟨o, ho, hc⟩ isSubtype_stop (wpAny_pure (hQ _ s₁.toks fun c o hc e => ?_)))
        simp only [List.mem_cons, List.not_mem_nil, or_false, not_or] at hc
        exact kp c o hc.1 hc.2.2.1 hc.2.2.2 e
end
section
variable {M : Mo} {X : Cx} {N : List Str} {sc : Scope} {k : Nat} {W : WX} {md : Md} {cl : Cl} {calls : Nat → List Val → LHeap → Res Val} {rc : Rec} {pos : Pos}
theorem pairs_ex {P : Program} {w : World} {c : Cf} : ∀ {xs us : List Val} {ps : List (Key × Val)} {ys ws : List V} {its its2 : List Value}, kvsOf xs us = some ps → RVs M c xs ys → RVs M c us ws → Vals ys its → Vals ws its2 →
    ∃ (qs : List (Key × V)) (kvs : List (Key × Value)), RK Key M c ps qs ∧ KV qs kvs ∧ kvs.length = min its.length its2.length ∧ ∀ (i : Nat) (key v : Value), its[i]? = some key → its2[i]? = some v → ∃ kk, kvs[i]? = some (kk, v) ∧ (mixKind P w).is kk key = true
  | [], us, ps, _, _, _, _, e, .nil, _, .nil, _ => by
    have : ps = [] := by cases us <;> (cases e; rfl)
    subst this
    exact ⟨[], [], .nil, .nil, by simp, fun i key v h => by simp at h⟩
  | x :: xs, [], ps, _, _, _, _, e, _, .nil, _, .nil => by
    cases e
    exact ⟨[], [], .nil, .nil, by simp, fun i key v _ h => by simp at h⟩
  | x :: xs, u :: us, ps, _, _, _, _, e, .cons rx rxs, .cons ru rus, .cons vx vxs, .cons vu vus => by
    unfold kvsOf at e
    cases q : keyOf x with
    | none => rw [q] at e; cases e
    | some kk =>
      rw [q] at e
      dsimp only at e
      cases q2 : kvsOf xs us with
      | none => rw [q2] at e; cases e
      | some r =>
        rw [q2] at e
        cases e
        obtain ⟨qs, kvs, r1, r2, r3, r4⟩ := pairs_ex (P := P) (w := w) q2 rxs rus vxs vus
        refine ⟨(kk, _) :: qs, (kk, _) :: kvs, .cons ru r1, .cons ⟨rfl, vu⟩ r2, by simp [r3], fun i key v h1 h2 => ?_⟩
        cases i with
        | zero =>
          simp at h1 h2
          subst h1 h2
          have hz := keyOf_rv rx q
          subst hz
          exact ⟨kk, rfl, kV_is vx⟩
        | succ i => simpa using r4 i key v (by simpa using h1) (by simpa using h2)
theorem se_dzip (G : Gd M X N sc k W) (D : MdOk M md) {x y : Str} {a b : Expr} {p p1 p2 : Pos} {ma mb : E} (hx : freeN md sc x "dict" = true) (hy : freeN md sc y "zip" = true) (hn : notStar a = true) (hn2 : notStar b = true) (ha : PE X a (tEv M W (rc.e ma))) (hb : PE X b (tEv M W (rc.e mb))) :
    PE X (.Call (.Name x p) [.Call (.Name y p1) [a, b] [] p2] [] pos) (tEv M W (stepE cl calls rc (.dzip ma mb))) := by
  obtain ⟨rfl, hg, hm⟩ := G.free D hx
  obtain ⟨rfl, hg2, hm2⟩ := G.free D hy
  have pa : PA X [a, b] (tCons (tEv M W (rc.e ma)) (tCons (tEv M W (rc.e mb)) tNil)) := pa_cons ha (pa_cons hb pa_nil (notStar_each hn2)) (notStar_each hn)
  refine ⟨fun pins s σ H Q I h => ?_⟩
  refine wpAny_Call_Name_kw (ld_blt I hg hm PyProof.Rows.boot_dict ?_)
  refine PyProof.Rows.callWith_type1 (Calls.spliced_cons (wpAny_Call_Name_kw (ld_blt I hg2 hm2 PyProof.Rows.boot_zip (PyProof.Rows.callWith_type1 (thn (pa.run p2 pins s σ H (fun vs H1 => ∃ c1 h1 xs us A1 B1 ys ws ps, c1.H = H1 ∧ vs = [.ref A1, .ref B1] ∧ RH M c1 h1 ∧ c1.H A1 = some (.tup ys) ∧ c1.H B1 = some (.tup ws) ∧ RVs M c1 xs ys ∧ RVs M c1 us ws ∧ kvsOf xs us = some ps ∧ Go M c1 (RV M) (alloc (.dK (mergeL [] ps)) h1) Q (fun cls d H' => W cls d σ H')) I ?_) fun us s1 hh => ?_) (notStar_each hn) (stars_plain (es := [b]) (by rw [List.all_cons, hn2]; rfl)))))) rfl rfl
  · obtain ⟨c, s, hh, ⟨e, R, S⟩, g⟩ := h
    subst e
    refine ⟨c, s, hh, ⟨rfl, R, S⟩, Go.bind g fun v h1 c1 y e1 R1 rx g1 => ⟨c1, s, h1, ⟨rfl, R1, S.ext e1⟩, Go.bind g1 fun u h2 c2 z e2 R2 ru g2 => ?_⟩⟩
    have rx2 := rx.ext e2
    cases rx2 with
    | @tup xs a1 ys ht r =>
      cases ru with
      | @tup us b1 ws ht2 r2 =>
        dsimp only at g2
        cases q : kvsOf xs us with
        | none => rw [q] at g2; exact g2.elim
        | some ps => rw [q] at g2; exact ⟨c2, h2, xs, us, a1, b1, ys, ws, ps, rfl, rfl, R2, ht, ht2, r, r2, q, g2⟩
      | _ => exact g2.elim
    | _ => cases ru <;> exact g2.elim
  · obtain ⟨vs, H1, I1, r1, c1, h1, xs, us', A1, B1, ys, ws, ps, rfl, ev, R1, hA, hB, rx, ru, ek, g1⟩ := hh
    subst ev
    cases r1 with
    | cons ra rr =>
      cases rr with
      | cons rb rr =>
        cases rr
        cases ra
        cases rb
        obtain ⟨its, rv, t1, z1⟩ := I1.tuple (SqT.of hA)
        obtain ⟨its2, rv2, t2, z2⟩ := I1.tuple (SqT.of hB)
        obtain ⟨oa, hoa, _⟩ := id t1
        obtain ⟨ob, hob, _⟩ := id t2
        obtain ⟨qs, kvs, p1', p2', p3', p4'⟩ := pairs_ex (P := X.prog) (w := X.w) ek rx ru rv rv2
        refine call_zipT (show s1.heap.IsTuple A1 its.toArray from t1) (show s1.heap.IsTuple B1 its2.toArray from t2) fun h' hz hTI hTO i1 i2 hsz hk => Calls.spliced_nil ?_
        have ln : kvs.length = min its.toArray.size its2.toArray.size := by simpa using p3'
        refine PySem.call_dict_pairs (knd := mixKind X.prog X.w) (kvs := kvs) (s := { s1 with heap := h' }) (pairArg_zipT _ _ _ _ _ _ _ (PySem.W.ktu_apart s1.heap.objs.size A1 B1 (Heap.lt_size hoa) (Heap.lt_size hob)) its.toArray its2.toArray) (I.ok.hd G.calm) ⟨hz, hTI, ⟨_, _, hTO⟩, i1, i2, (show s1.heap.IsTuple A1 its.toArray from t1).at fun o e => hk _ o e, (show s1.heap.IsTuple B1 its2.toArray from t2).at fun o e => hk _ o e⟩
          ⟨ln, fun i key v hr => p4' i key v (by simpa using hr.1) (by simpa using hr.2)⟩ (by have := rv.length; simp; omega) fun h'' tk hd' kp => ?_
        have keep : ∀ b o, s1.heap.get? b = some o → h''.get? b = some o := fun b o e => by
          have lt := Heap.lt_size e
          refine kp b o ?_ (hk b o e)
          simp only [List.mem_cons, List.not_mem_nil, or_false, not_or]
          refine ⟨?_, ?_, ?_, ?_⟩ <;> (intro q; exact absurd lt (by rw [q]; simp))
        have hsz' : s1.heap.objs.size ≤ h'.objs.size := by rw [hsz]; omega
        have hmm : (h'.objs.size == sysModules) = false := beq_eq_false_iff_ne.mpr (Nat.ne_of_gt (Nat.lt_of_lt_of_le I1.big hsz'))
        have hlen : (mergeK [] qs).length ≤ sizeLine := by
          refine Nat.le_trans (length_mergeK qs []) ?_
          have := rv.length
          rw [List.length_nil, Nat.zero_add, p2'.length, p3']
          omega
        have J : Inv X pins σ (upd c1.H h'.objs.size (.dK (mergeK [] qs))) { s1 with heap := h'', toks := tk } := I1.laid (t' := tk) keep hsz' (show ObjOk X.prog X.w _ _ _ (.dK (mergeK [] qs)) from ⟨hlen, hmm, merged [] kvs, KV.merge p2' .nil, hd'⟩)
        exact ⟨.ref h'.objs.size, _, J, rfl, go_alloc_dK R1 (mergeL_rv p1' .nil) g1 _ (I1.hok.fresh hsz')⟩
end
end Ev

set_option Elab.async false
set_option linter.all false
set_option maxRecDepth 100000
set_option maxHeartbeats 4000000
/-! The statement checker, the checker with fuel, and that both are right. -/
namespace Ev
open PySem PySem.Spec PyProof.Rows L2
section
variable (md : Md) (N : List Str) (rc : Ck)
def ckB (sc : Scope) : List Stmt → List S → Bool
  | [], [] => true
  | st :: sts, m :: ms => rc.s sc st m && ckB sc sts ms
  | _, _ => false
def clsIs (x : Str) : List (Str × List Str) → Nat → Bool
  | [], _ => false
  | p :: _, 0 => strEq x p.1
  | _ :: ps, f + 1 => clsIs x ps f
def ckHE (i : Nat) (sc : Scope) (e : Expr) (m : HE) : Bool := match m with
  | .fld f => (match e with
    | .Attribute (.Name n _) g _ => strEq g f && nthS N i n && isVis (look sc.names n) && !strEq n sDebug && !strEq n sClassdict
    | _ => false)
  | .lit v => (match e with
    | .Constant c _ _ => litEq c v
    | _ => false)
  | .glb y v => (match e with
    | .Name x _ => isGl (look sc.names x) && constIs x v md.consts && !strEq x sDebug
    | _ => false)
  | .var j => (match e with
    | .Name x _ => nthS N j x && isVis (look sc.names x) && !strEq x sDebug && !strEq x sClassdict
    | _ => false)
def ckHEs (i : Nat) (sc : Scope) : List Expr → List HE → Bool
  | [], [] => true
  | e :: es, m :: ms => notStar e && ckHE md N i sc e m && ckHEs i sc es ms
  | _, _ => false
def ckHB (i : Nat) (sc : Scope) (st : Stmt) (b : HB) : Bool := match b with
  | .set1 j m => (match st with
    | .Assign [.Name x _] e _ => nthS N j x && isLoc (look sc.names x) && notComp e && ckHE md N i sc e m
    | _ => false)
  | .ret1 m => (match st with
    | .Return (some e) _ => ckHE md N i sc e m
    | _ => false)
  | .retT ms => (match st with
    | .Return (some (.Tuple es _ _)) _ => ckHEs md N i sc es ms
    | _ => false)
def swOk (tg e : Expr) : Bool := match e with
  | .Tuple es _ _ => (match tg with
    | .Tuple _ _ _ => es.all (foldedForSure 8)
    | _ => false)
  | _ => true
def isLcomp : Expr → Bool
  | .ListComp _ _ _ _ => true
  | _ => false
def ckS (sc : Scope) (st : Stmt) (m : S) : Bool := match m with
  | .set i e => (match st with
    | .Assign [.Name x p] ex _ => nthS N i x && isLoc (look sc.names x) && (match ex with
      | .ListComp el gs scope cp => (match swB sc scope x p.line cp.line with
        | true => isLc (look sc.names x) && ckE md N rc sc (.ListComp el gs scope cp) e
        | false => rc.e sc (.ListComp el gs scope cp) e)
      | ex => notComp ex && rc.e sc ex e)
    | _ => false)
  | .par i j ma mb => (match st with
    | .Assign [.Tuple [.Name x px, .Name y py] _ _] (.Tuple [a, b] _ _) _ => nthS N i x && nthS N j y && isLc (look sc.names x) && isLc (look sc.names y) && !strEq x y && Nat.beq py.line px.line && notStar a && notStar b &&
        !(foldedForSure 8 a && foldedForSure 8 b) && !(constantsAlone 8 a && constantsAlone 8 b) && rc.e sc a ma && rc.e sc b mb
    | _ => false)
  | .unp is e => (match st with
    | .Assign [tg] ex _ => ckTg N isLoc sc tg (.tup is) && notComp ex && rc.e sc ex e && swOk tg ex
    | _ => false)
  | .ex e => (match st with
    | .Expr ex _ => notComp ex && rc.e sc ex e
    | _ => false)
  | .ret e => (match st with
    | .Return (some ex) _ => rc.e sc ex e
    | _ => false)
  | .retN => (match st with
    | .Return none _ => true
    | _ => false)
  | .ife c a b => (match st with
    | .If ce as bs _ => rc.t sc ce c && ckB rc sc as a && ckB rc sc bs b
    | _ => false)
  | .whl c b => (match st with
    | .While ce bs [] _ => rc.t sc ce c && ckB rc sc bs b
    | _ => false)
  | .loop tg it b => (match st with
    | .For t i bs [] _ => ckIt md rc sc t i it && ckTg N isLoc sc t tg && notSet i && ckB rc sc bs b
    | _ => false)
  | .put o i e => (match st with
    | .Assign [.Subscript oe ie _] ex _ => notComp ex && rc.e sc oe o && rc.e sc ie i && rc.e sc ex e
    | _ => false)
  | .raise c es => (match st with
    | .Raise (some (.Call (.Name x _) (a :: as) [] _)) none _ => excIs x es.length md.excs c && isGl (look sc.names x) && !strEq x sDebug && ckEs rc sc (a :: as) es
    | _ => false)
  | .tri b hs => (match hs with
    | [(ci, i, hb)] => (match st with
      | .Try bs [.ExceptHandler (some (.Name x _)) (some n) [st] _] [] [] _ => ckB rc sc bs b && clsIs x md.excs ci && isGl (look sc.names x) && !strEq x sDebug && nthS N i n && isLc (look sc.names n) && ckHB md N i sc st hb
      | _ => false)
    | _ => false)
  | .pass => (match st with
    | .Pass _ => true
    | .Expr (.Constant (.str _) _ _) _ => true
    | _ => false)
  | .brk => (match st with
    | .Break _ => true
    | _ => false)
  | .cont => (match st with
    | .Continue _ => true
    | _ => false)
end
def ckNo : Ck := ⟨fun _ _ _ => false, fun _ _ _ => false, fun _ _ _ => false⟩
def chk (md : Md) (N : List Str) (d : Nat) : Ck := Nat.rec ckNo (fun _ r => ⟨ckE md N r, ckT r, ckS md N r⟩) d
theorem chk_succ (md : Md) (N : List Str) (d : Nat) : chk md N (d + 1) = ⟨ckE md N (chk md N d), ckT (chk md N d), ckS md N (chk md N d)⟩ := rfl
def isBoolOp : Expr → Bool
  | .BoolOp _ _ _ => true
  | _ => false
/-- all that is known of the module -/
structure Env1 (M : Mo) (md : Md) (cl : Cl) (k : Nat) (calls : Nat → List Val → LHeap → Res Val) : Prop where
  mdo : MdOk M md
  call : CallsOk M md k calls
  clo : ClOk M cl
  sup : ∃ file, SupOk M file ∧ (∀ c x n, 1 ≤ n → excIs x n md.excs c = true → ∃ b, clsB M.K file (M.ca c) (cl.fields c) b = true)
  cls : ∀ c x, clsIs x md.excs c = true → M.mg x = some (.ref (M.ca c))
section
variable {M : Mo} {N : List Str} {k : Nat} {md : Md} {cl : Cl} {calls : Nat → List Val → LHeap → Res Val}
structure Good (M : Mo) (N : List Str) (k : Nat) (md : Md) (cl : Cl) (calls : Nat → List Val → LHeap → Res Val) (n d : Nat) : Prop where
  e : ∀ (X : Cx) (sc : Scope) (W : WX) (ex : Expr) (m : E), Gd M X N sc k W → (chk md N d).e sc ex m = true → PE X ex (tEv M W ((rec cl calls n).e m))
  t : ∀ (X : Cx) (sc : Scope) (W : WX) (ex : Expr) (m : E), Gd M X N sc k W → (chk md N d).t sc ex m = true → PT X ex (tEvT M W ((rec cl calls n).t m)) ∧ (isBoolOp ex = true → PW X ex (tEvT M W ((rec cl calls n).t m)))
  s : ∀ (X : Cx) (sc : Scope) (W : WX) (st : Stmt) (m : S), Gs M X N sc k W → (chk md N d).s sc st m = true → PS X st (tEvS M W ((rec cl calls n).s m))
variable {X : Cx} {sc : Scope} {W : WX} {n d : Nat}
theorem boolop1 {op : BoolOp} {a : Expr} {pos : Pos} {t : TE} (h : PE X a t) : PE X (.BoolOp op [a] pos) t := ⟨fun pins s σ H Q I q => h.run pins s σ H Q I q⟩
theorem ckEs_ok (G0 : Good M N k md cl calls n d) (G : Gd M X N sc k W) : ∀ {es : List Expr} {ms : List E}, ckEs (chk md N d) sc es ms = true → PA X es (tEvA M W (evs (rec cl calls n) ms)) ∧ es.all notStar = true ∧ es.length = ms.length
  | [], [], _ => ⟨sa_nil, rfl, rfl⟩
  | [], _ :: _, h => by cases h
  | _ :: _, [], h => by cases h
  | e :: es, m :: ms, h => by
    unfold ckEs at h
    simp only [Bool.and_eq_true] at h
    obtain ⟨h1, h2, h3⟩ := ckEs_ok G0 G h.2
    exact ⟨sa_cons h.1.1 (G0.e X sc W e m G h.1.2) h1, by rw [List.all_cons, h.1.1, h2]; rfl, by simp [h3]⟩
theorem ckOpt_ok (G0 : Good M N k md cl calls n d) (G : Gd M X N sc k W) {o : Option Expr} {m : Option E} (h : ckOpt (chk md N d) sc o m = true) : PO X o (tEvO M W (evOpt (rec cl calls n) m)) := by
  cases o with
  | none => cases m with
    | none => exact so_none
    | some _ => cases h
  | some e => cases m with
    | none => cases h
    | some m => exact so_some (G0.e X sc W e m G h)
theorem ckKVs_ok (V : Env1 M md cl k calls) (G0 : Good M N k md cl calls n d) (G : Gd M X N sc k W) {pos : Pos} : ∀ {ks : List (Option Expr)} {vs : List Expr} {ps : List (Str × E)}, ckKVs md (chk md N d) sc ks vs ps = true → KVsOk M X W (rec cl calls n) pos ks vs ps
  | ks, vs, ps, h => by
    unfold ckKVs at h
    split at h
    · exact .nil
    · rename_i x j p ks v vs q ps
      simp only [Bool.and_eq_true] at h
      obtain ⟨y, m⟩ := q
      have e := strEq_iff.mp h.1.1
      have e' : x = y := e
      subst e'
      exact .cons (G0.e X sc W v m G h.1.2) (ckKVs_ok V G0 G h.2)
    · rename_i x p ks v vs q ps
      simp only [Bool.and_eq_true] at h
      obtain ⟨y, m⟩ := q
      obtain ⟨u, z, e1, r, hr⟩ := V.mdo.const x _ h.1.1.1.2
      have hz : z = .str y := by
        have := hr ⟨0, fun _ => 0, fun _ => false, fun _ => none⟩
        cases this
        rfl
      subst hz
      exact .glb (pe_glob (G.gl h.1.1.1.1) (by rw [G.hmg]; exact e1) r (not_eq h.1.1.2)) (G0.e X sc W v m G h.1.2) (ckKVs_ok V G0 G h.2)
    · cases h
theorem ckIt_ok (V : Env1 M md cl k calls) (G0 : Good M N k md cl calls n d) (G : Gd M X N sc k W) {t i : Expr} {it : It} (h : ckIt md (chk md N d) sc t i it = true) : PI X t i (tEvI M W (evIt (rec cl calls n) it)) ∧ notSet i = true := by
  cases it with
  | val m =>
    have h' : (notSet i && (chk md N d).e sc i m) = true := h
    simp only [Bool.and_eq_true] at h'
    exact ⟨si_val G (G0.e X sc W i m G h'.2), h'.1⟩
  | rng1 ma =>
    dsimp only [ckIt] at h
    split at h
    · simp only [Bool.and_eq_true] at h
      exact ⟨si_rng1 G V.mdo h.1.1 h.1.2 (G0.e X sc W _ _ G h.2), rfl⟩
    · cases h
  | rng2 ma mb =>
    dsimp only [ckIt] at h
    split at h
    · simp only [Bool.and_eq_true] at h
      exact ⟨si_rng2 G V.mdo h.1.1.1.1 h.1.1.1.2 h.1.1.2 (G0.e X sc W _ _ G h.1.2) (G0.e X sc W _ _ G h.2), rfl⟩
    · cases h
  | enum ma =>
    dsimp only [ckIt] at h
    split at h
    · simp only [Bool.and_eq_true] at h
      cases t with
      | Tuple es kk tp => exact ⟨si_enum G V.mdo h.1.1.1 h.1.1.2 (G0.e X sc W _ _ G h.1.2), rfl⟩
      | _ => cases h.2
    · cases h
  | zip ma mb =>
    dsimp only [ckIt] at h
    split at h
    · simp only [Bool.and_eq_true] at h
      cases t with
      | Tuple es kk tp => exact ⟨si_zip G V.mdo h.1.1.1.1.1 h.1.1.1.1.2 h.1.1.1.2 (G0.e X sc W _ _ G h.1.1.2) (G0.e X sc W _ _ G h.1.2), rfl⟩
      | _ => cases h.2
    · cases h
theorem notSet_fold {i : Expr} {env : Env} (h : notSet i = true) : ∀ x, foldedSetIterable i env x = pure x := by
  intro x
  cases i <;> first | rfl | cases h
theorem ckE_ok (V : Env1 M md cl k calls) (G0 : Good M N k md cl calls n d) (G1 : Good M N k md cl calls (n + 1) d) (G : Gd M X N sc k W) {ex : Expr} {m : E} (h : ckE md N (chk md N d) sc ex m = true) : PE X ex (tEv M W (stepE cl calls (rec cl calls n) m)) := by
  have one : ∀ {op : BoolOp} {a : Expr} {pos : Pos} {m : E}, (chk md N d).e sc a m = true → PE X (.BoolOp op [a] pos) (tEv M W (stepE cl calls (rec cl calls n) m)) := fun h => boolop1 (G1.e X sc W _ _ G h)
  cases m with
  | var i =>
    dsimp only [ckE] at h
    split at h
    · simp only [Bool.and_eq_true] at h
      exact se_var G h.1.1.1 h.1.1.2 h.1.2 h.2
    · exact one h
    · cases h
  | lit v =>
    dsimp only [ckE] at h
    split at h
    · exact se_lit h
    · exact one h
    · cases h
  | glb y v =>
    dsimp only [ckE] at h
    split at h
    · simp only [Bool.and_eq_true] at h
      exact se_glb G V.mdo h.1.1.2 h.1.2 h.2
    · exact one h
    · cases h
  | bin o ma mb =>
    dsimp only [ckE] at h
    split at h
    · simp only [Bool.and_eq_true] at h
      rw [binEq_ok h.1.1]
      exact se_bin G (G0.e X sc W _ _ G h.1.2) (G0.e X sc W _ _ G h.2)
    · exact one h
    · cases h
  | neg ma =>
    dsimp only [ckE] at h
    split at h
    · exact se_neg (G0.e X sc W _ _ G h)
    · exact one h
    · cases h
  | cmp o ma mb =>
    dsimp only [ckE] at h
    split at h
    · simp only [Bool.and_eq_true] at h
      rw [cmpEq_ok h.1.1.1]
      exact se_cmp G h.1.1.2 (G0.e X sc W _ _ G h.1.2) (G0.e X sc W _ _ G h.2)
    · exact one h
    · cases h
  | cmp2 o o' ma mb mc =>
    dsimp only [ckE] at h
    split at h
    · simp only [Bool.and_eq_true] at h
      obtain ⟨⟨⟨⟨⟨⟨h1, h2⟩, h3⟩, h4⟩, h5⟩, h6⟩, h7⟩ := h
      rw [cmpEq_ok h1, cmpEq_ok h2]
      exact se_cmp2 G h4 (G0.e X sc W _ _ G h5) (G0.e X sc W _ _ G h6) (G0.e X sc W _ _ G h7)
    · exact one h
    · cases h
  | and ma mb =>
    dsimp only [ckE] at h
    split at h
    · simp only [Bool.and_eq_true] at h
      exact se_and (G0.e X sc W _ _ G h.1) (G0.e X sc W _ _ G h.2)
    · exact one h
    · cases h
  | or ma mb =>
    dsimp only [ckE] at h
    split at h
    · simp only [Bool.and_eq_true] at h
      exact se_or (G0.e X sc W _ _ G h.1) (G0.e X sc W _ _ G h.2)
    · exact one h
    · cases h
  | not ma =>
    dsimp only [ckE] at h
    split at h
    · exact se_not (G0.e X sc W _ _ G h)
    · exact one h
    · cases h
  | ife mc ma mb =>
    dsimp only [ckE] at h
    split at h
    · simp only [Bool.and_eq_true] at h
      exact se_ife (G0.t X sc W _ _ G h.1.1).1 (G0.e X sc W _ _ G h.1.2) (G0.e X sc W _ _ G h.2)
    · exact one h
    · cases h
  | tup ms =>
    dsimp only [ckE] at h
    split at h
    · exact se_tup (ckEs_ok G0 G h).1
    · cases h
  | lst ms =>
    dsimp only [ckE] at h
    split at h
    · exact se_lst (ckEs_ok G0 G h).1
    · cases h
  | sub ma mi =>
    dsimp only [ckE] at h
    split at h
    · simp only [Bool.and_eq_true] at h
      exact se_sub G h.1.1 (G0.e X sc W _ _ G h.1.2) (G0.e X sc W _ _ G h.2)
    · exact one h
    · cases h
  | slc ma lo hi =>
    dsimp only [ckE] at h
    split at h
    · simp only [Bool.and_eq_true] at h
      exact se_slc G (G0.e X sc W _ _ G h.1.1) (ckOpt_ok G0 G h.1.2) (ckOpt_ok G0 G h.2)
    · cases h
  | rev ma =>
    dsimp only [ckE] at h
    split at h
    · exact se_rev G (G0.e X sc W _ _ G h)
    · cases h
  | call f ms =>
    dsimp only [ckE] at h
    split at h
    · simp only [Bool.and_eq_true] at h
      obtain ⟨a1, a2, a3⟩ := ckEs_ok G0 G h.2
      exact se_call G V.call h.1.1.1 h.1.1.2 h.1.2 a2 a1
    · simp only [Bool.and_eq_true] at h
      have e : ms = [] := List.isEmpty_iff.mp h.2
      subst e
      exact se_call0 G V.call h.1.1.1 h.1.1.2 h.1.2
    · exact one h
    · cases h
  | pcall f ms =>
    dsimp only [ckE] at h
    split at h
    · simp only [Bool.and_eq_true] at h
      obtain ⟨a1, a2, a3⟩ := ckEs_ok G0 G h.2
      exact se_pcall G V.call h.1.1.1 h.1.1.2 h.1.2 a2 a1
    · simp only [Bool.and_eq_true] at h
      have e : ms = [] := List.isEmpty_iff.mp h.2
      subst e
      exact se_pcall0 G V.call h.1.1.1 h.1.1.2 h.1.2
    · exact one h
    · cases h
  | bi b ms =>
    dsimp only [ckE] at h
    split at h
    · simp only [Bool.and_eq_true] at h
      obtain ⟨a1, a2, a3⟩ := ckEs_ok G0 G h.2
      exact se_bi G V.mdo h.1 a2 a1
    · exact one h
    · cases h
  | isi ma t =>
    dsimp only [ckE] at h
    split at h
    · simp only [Bool.and_eq_true] at h
      have h2 := h.2
      split at h2
      · rename_i z hz
        exact se_isi G V.mdo h.1.1.1 h.1.1.2 (G0.e X sc W _ _ G h.1.2) hz h2
      · cases h2
    · exact one h
    · cases h
  | comp own tg it co elt =>
    dsimp only [ckE] at h
    split at h
    · rename_i el t i ifs scope pos
      simp only [Bool.and_eq_true] at h
      obtain ⟨⟨⟨⟨⟨⟨h1, h2⟩, h3⟩, h4⟩, h5⟩, h6⟩, h7⟩ := h
      obtain ⟨p1, p2⟩ := ckIt_ok V G0 G h1
      refine se_comp G p1 h3 h4 (of_decide_eq_true h5) h2 (fun X' G' => ?_) (fun X' G' => G0.e X' _ W0 _ _ G' h7) (notSet_fold p2)
      unfold CondOk
      split at h6
      · exact True.intro
      · exact (G0.t X' _ W0 _ _ G' h6).1
      · cases h6
    · cases h
  | dsp kvs =>
    dsimp only [ckE] at h
    split at h
    · simp only [Bool.and_eq_true] at h
      exact se_dsp (ckKVs_ok V G0 G h.1.1) (ble_true h.1.2) (ble_true h.2)
    · cases h
  | dnewK =>
    dsimp only [ckE] at h
    split at h
    · exact se_dnewK
    · cases h
  | dnewT =>
    dsimp only [ckE] at h
    split at h
    · exact se_dnewT
    · cases h
  | dzip ma mb =>
    dsimp only [ckE] at h
    split at h
    · simp only [Bool.and_eq_true] at h
      exact se_dzip G V.mdo h.1.1.1.1.1 h.1.1.1.1.2 h.1.1.1.2 h.1.1.2 (G0.e X sc W _ _ G h.1.2) (G0.e X sc W _ _ G h.2)
    · cases h
  | get1 md' mk =>
    dsimp only [ckE] at h
    split at h
    · simp only [Bool.and_eq_true] at h
      obtain ⟨⟨⟨⟨⟨h1, h2⟩, h3⟩, h4⟩, h5⟩, h6⟩ := h
      rw [strEq_iff.mp h1]
      exact se_get1 G h2 h3 h4 (G0.e X sc W _ _ G h5) (G0.e X sc W _ _ G h6)
    · cases h
  | app ml me =>
    dsimp only [ckE] at h
    split at h
    · simp only [Bool.and_eq_true] at h
      obtain ⟨⟨⟨⟨⟨h1, h2⟩, h3⟩, h4⟩, h5⟩, h6⟩ := h
      rw [strEq_iff.mp h1]
      exact se_app G h2 h3 h4 (G0.e X sc W _ _ G h5) (G0.e X sc W _ _ G h6)
    · cases h
  | fld o f => cases h
theorem ckT_ok (V : Env1 M md cl k calls) (Gm : ∀ m, m ≤ n → Good M N k md cl calls m d) (G1 : Good M N k md cl calls (n + 1) d) (G : Gd M X N sc k W) {ex : Expr} {m : E} (h : ckT (chk md N d) sc ex m = true) :
    PT X ex (tEvT M W (stepT (rec cl calls n) m)) ∧ (isBoolOp ex = true → PW X ex (tEvT M W (stepT (rec cl calls n) m))) := by
  have G0 := Gm n (Nat.le_refl n)
  unfold ckT at h
  split at h
  · split at h
    · simp only [Bool.and_eq_true] at h
      have w := st_and (G0.t X sc W _ _ G h.1).1 ((G0.t X sc W _ _ G h.2).2 rfl)
      exact ⟨w.pt, fun _ => w⟩
    · cases h
  · split at h
    · simp only [Bool.and_eq_true] at h
      have w := st_or (G0.t X sc W _ _ G h.1).1 ((G0.t X sc W _ _ G h.2).2 rfl)
      exact ⟨w.pt, fun _ => w⟩
    · cases h
  · rename_i op a pos
    have p := (G1.t X sc W _ _ G h).1
    cases op with
    | And => exact ⟨(pw_and1 p).pt, fun _ => pw_and1 p⟩
    | Or => exact ⟨(pw_or1 p).pt, fun _ => pw_or1 p⟩
  · split at h
    · exact ⟨st_not (G0.t X sc W _ _ G h).1, fun z => by cases z⟩
    · cases h
  · split at h
    · rename_i o ma mb
      simp only [Bool.and_eq_true] at h
      refine ⟨?_, fun z => by cases z⟩
      cases n with
      | zero => exact PT.bad fun _ _ => rfl
      | succ n =>
        have Gn := Gm n (Nat.le_succ n)
        rw [cmpEq_ok h.1.1.1]
        exact st_cmp (cl := cl) (calls := calls) (rc := rec cl calls n) G h.1.1.2 (Gn.e X sc W _ _ G h.1.2) (Gn.e X sc W _ _ G h.2)
    · cases h
  · split at h
    · rename_i o o' ma mb mc
      simp only [Bool.and_eq_true] at h
      obtain ⟨⟨⟨⟨⟨⟨h1, h2⟩, h3⟩, h4⟩, h5⟩, h6⟩, h7⟩ := h
      refine ⟨?_, fun z => by cases z⟩
      cases n with
      | zero => exact PT.bad fun _ _ => rfl
      | succ n =>
        have Gn := Gm n (Nat.le_succ n)
        rw [cmpEq_ok h1, cmpEq_ok h2]
        exact st_cmp2 (cl := cl) (calls := calls) (rc := rec cl calls n) G h4 (Gn.e X sc W _ _ G h5) (Gn.e X sc W _ _ G h6) (Gn.e X sc W _ _ G h7)
    · cases h
  · simp only [Bool.and_eq_true] at h
    obtain ⟨h1, h2⟩ := h
    refine ⟨?_, fun z => ?_⟩
    · split at h2
      · cases h2
      · cases h2
      · cases h2
      · rename_i m1 n1 n2 n3
        have p := st_val h1 (G0.e X sc W _ _ G h2)
        cases m <;> first | exact p | exact absurd rfl (n1 _ _) | exact absurd rfl (n2 _ _) | exact absurd rfl (n3 _)
    · cases ex <;> first | (cases z; done) | cases h1
theorem ckB_ok (G0 : Good M N k md cl calls n d) (G : Gs M X N sc k W) : ∀ {sts : List Stmt} {ms : List S}, ckB (chk md N d) sc sts ms = true → PSs X sts (tEvS M W (execs (rec cl calls n) ms))
  | [], [], _ => ss_nil
  | [], _ :: _, h => by cases h
  | _ :: _, [], h => by cases h
  | st :: sts, m :: ms, h => by
    unfold ckB at h
    simp only [Bool.and_eq_true] at h
    exact ss_cons (G0.s X sc W st m G h.1) (ckB_ok G0 G h.2)
theorem ckHE_ok (V : Env1 M md cl k calls) (G : Gd M X N sc k W) {a : Addr} {i : Nat} {cls : Value} {dd : Option Addr} {oe : Obj} {pn : List (Addr × Obj)} (hz : Zc cls dd oe) (hf : ∃ vs, oe.data = .fields vs) {e : Expr} {m : HE} (h : ckHE md N i sc e m = true) :
    PE (X.suite a ((a, oe) :: pn)) e (tHE M cl a i cls dd m) := by
  cases m with
  | fld f =>
    dsimp only [ckHE] at h
    split at h
    · simp only [Bool.and_eq_true] at h
      obtain ⟨⟨⟨⟨h1, h2⟩, h3⟩, h4⟩, h5⟩ := h
      rw [strEq_iff.mp h1]
      exact he_fld G V.clo h2 h3 h4 h5 hz hf
    · cases h
  | lit v =>
    dsimp only [ckHE] at h
    split at h
    · exact he_lit h
    · cases h
  | glb y v =>
    dsimp only [ckHE] at h
    split at h
    · simp only [Bool.and_eq_true] at h
      exact he_glb G V.mdo h.1.1 h.1.2 h.2
    · cases h
  | var j =>
    dsimp only [ckHE] at h
    split at h
    · simp only [Bool.and_eq_true] at h
      exact he_var G h.1.1.1 h.1.1.2 h.1.2 h.2
    · cases h
theorem ckHEs_ok (V : Env1 M md cl k calls) (G : Gd M X N sc k W) {a : Addr} {i : Nat} {cls : Value} {dd : Option Addr} {oe : Obj} {pn : List (Addr × Obj)} (hz : Zc cls dd oe) (hf : ∃ vs, oe.data = .fields vs) : ∀ {es : List Expr} {ms : List HE}, ckHEs md N i sc es ms = true →
    PA (X.suite a ((a, oe) :: pn)) es (tHL M cl a i cls dd ms)
  | [], [], _ => hl_nil
  | [], _ :: _, h => by cases h
  | _ :: _, [], h => by cases h
  | e :: es, m :: ms, h => by
    unfold ckHEs at h
    simp only [Bool.and_eq_true] at h
    exact hl_cons h.1.1 (ckHE_ok V G hz hf h.1.2) (ckHEs_ok V G hz hf h.2)
theorem ckHB_ok (V : Env1 M md cl k calls) (G : Gs M X N sc k W) {a : Addr} {i : Nat} {cls : Value} {dd : Option Addr} {oe : Obj} {pn : List (Addr × Obj)} (hz : Zc cls dd oe) (hf : ∃ vs, oe.data = .fields vs) {st : Stmt} {b : HB} (h : ckHB md N i sc st b = true) :
    PSs (X.suite a ((a, oe) :: pn)) [st] (tHB M cl a i cls dd b) := by
  cases b with
  | set1 j m =>
    dsimp only [ckHB] at h
    split at h
    · simp only [Bool.and_eq_true] at h
      exact hb_set (pk := isLoc) G h.1.1.1 h.1.1.2 h.1.2 (ckHE_ok V G.g hz hf h.2)
    · cases h
  | ret1 m =>
    dsimp only [ckHB] at h
    split at h
    · exact hb_ret (ckHE_ok V G.g hz hf h)
    · cases h
  | retT ms =>
    dsimp only [ckHB] at h
    split at h
    · exact hb_retT (ckHEs_ok V G.g hz hf h)
    · cases h
theorem excIs_cls {x : Str} {nn : Nat} : ∀ {l : List (Str × List Str)} {c : Nat}, excIs x nn l c = true → clsIs x l c = true
  | [], _, h => by cases h
  | p :: ps, 0, h => by
    unfold excIs at h
    simp only [Bool.and_eq_true] at h
    exact h.1
  | p :: ps, c + 1, h => excIs_cls (l := ps) (c := c) h
theorem notComp_of {e : Expr} (h : ∀ el gs scope cp, e ≠ .ListComp el gs scope cp) (h2 : notComp e = true) : notComp e = true := h2
theorem ckS_ok (V : Env1 M md cl k calls) (Gm : ∀ m, m ≤ n → Good M N k md cl calls m d) (G : Gs M X N sc k W) {st : Stmt} {m : S} (h : ckS md N (chk md N d) sc st m = true) : PS X st (tEvS M W (stepS cl (rec cl calls n) m)) := by
  have G0 := Gm n (Nat.le_refl n)
  cases m with
  | set i e =>
    dsimp only [ckS] at h
    split at h
    · rename_i x p ex pos
      simp only [Bool.and_eq_true] at h
      obtain ⟨⟨h1, h2⟩, h3⟩ := h
      split at h3
      · rename_i el gs scope cp
        cases q : swB sc scope x p.line cp.line with
        | false =>
          rw [q] at h3
          exact ss_set G h1 h2 (G0.e X sc W _ _ G.g h3) (by rw [swB_ok G.g, q])
        | true =>
          rw [q] at h3
          simp only [Bool.and_eq_true] at h3
          obtain ⟨h4, h5⟩ := h3
          cases n with
          | zero => exact PS.bad fun _ _ => rfl
          | succ n =>
            have Gn := Gm n (Nat.le_succ n)
            cases e with
            | comp own tg it co elt =>
              dsimp only [ckE] at h5
              split at h5
              · rename_i el' t i' ifs scope' pos' heq
                cases heq
                simp only [Bool.and_eq_true] at h5
                obtain ⟨⟨⟨⟨⟨⟨g1, g2⟩, g3⟩, g4⟩, g5⟩, g6⟩, g7⟩ := h5
                obtain ⟨p1, p2⟩ := ckIt_ok V Gn G.g g1
                refine ss_setLc (cl := cl) (rc := rec cl calls (n + 1)) (m := .comp own tg it co elt) (ss_lc (cl := cl) (calls := calls) (rc := rec cl calls n) G.g h1 h4 (by rw [swB_ok G.g, q]) p1 g3 g4 (of_decide_eq_true g5) g2 (fun X' G' => ?_) (fun X' G' => Gn.e X' _ W0 _ _ G' g7) (notSet_fold p2))
                unfold CondOk
                split at g6
                · exact True.intro
                · exact (Gn.t X' _ W0 _ _ G' g6).1
                · cases g6
              · cases h5
            | _ => first | (cases h5; done) | (dsimp only [ckE] at h5; cases h5)
      · simp only [Bool.and_eq_true] at h3
        exact ss_set G h1 h2 (G0.e X sc W _ _ G.g h3.2) (notComp_swap h3.1)
    · cases h
  | par i j ma mb =>
    dsimp only [ckS] at h
    split at h
    · simp only [Bool.and_eq_true, Bool.not_eq_true'] at h
      obtain ⟨⟨⟨⟨⟨⟨⟨⟨⟨⟨⟨h1, h2⟩, h3⟩, h4⟩, h5⟩, h6⟩, h7⟩, h8⟩, h9⟩, h10⟩, h11⟩, h12⟩ := h
      exact ss_par G h1 h2 h3 h4 h5 h6 h7 h8 h9 h10 (G0.e X sc W _ _ G.g h11) (G0.e X sc W _ _ G.g h12)
    · cases h
  | unp is e =>
    dsimp only [ckS] at h
    split at h
    · rename_i tg ex pos
      simp only [Bool.and_eq_true] at h
      obtain ⟨⟨⟨h1, h2⟩, h3⟩, h4⟩ := h
      refine ss_unp G h1 h2 (G0.e X sc W _ _ G.g h3) ?_
      unfold swOk at h4
      split at h4
      · split at h4
        · exact swapped_folded h4
        · cases h4
      · rename_i hh
        exact swapped_notTup (by cases ex <;> first | rfl | exact absurd rfl (hh _ _ _))
    · cases h
  | ex e =>
    dsimp only [ckS] at h
    split at h
    · simp only [Bool.and_eq_true] at h
      exact ss_ex h.1 (G0.e X sc W _ _ G.g h.2)
    · cases h
  | ret e =>
    dsimp only [ckS] at h
    split at h
    · exact ss_ret (G0.e X sc W _ _ G.g h)
    · cases h
  | retN =>
    dsimp only [ckS] at h
    split at h
    · exact ss_retN
    · cases h
  | ife c a b =>
    dsimp only [ckS] at h
    split at h
    · simp only [Bool.and_eq_true] at h
      exact ss_ife (G0.t X sc W _ _ G.g h.1.1).1 (ckB_ok G0 G h.1.2) (ckB_ok G0 G h.2)
    · cases h
  | whl c b =>
    dsimp only [ckS] at h
    split at h
    · simp only [Bool.and_eq_true] at h
      exact ss_whl G (fun m hm => ((Gm m (Nat.le_of_lt hm)).t X sc W _ _ G.g h.1).1) fun m hm => ckB_ok (Gm m (Nat.le_of_lt hm)) G h.2
    · cases h
  | loop tg it b =>
    dsimp only [ckS] at h
    split at h
    · simp only [Bool.and_eq_true] at h
      exact ss_loop G (ckIt_ok V G0 G.g h.1.1.1).1 h.1.1.2 (ckB_ok G0 G h.2) (notSet_fold h.1.2)
    · cases h
  | put o i e =>
    dsimp only [ckS] at h
    split at h
    · simp only [Bool.and_eq_true] at h
      exact ss_put G h.1.1.1 (G0.e X sc W _ _ G.g h.1.1.2) (G0.e X sc W _ _ G.g h.1.2) (G0.e X sc W _ _ G.g h.2)
    · cases h
  | raise c es =>
    dsimp only [ckS] at h
    split at h
    · simp only [Bool.and_eq_true] at h
      obtain ⟨⟨⟨h1, h2⟩, h3⟩, h4⟩ := h
      obtain ⟨a1, a2, a3⟩ := ckEs_ok G0 G.g h4
      obtain ⟨file, sup, hc⟩ := V.sup
      obtain ⟨b, hb⟩ := hc c _ _ (by rw [← a3]; simp) h1
      exact ss_raise G sup (V.cls c _ (excIs_cls h1)) hb rfl h2 h3 a2 a1
    · cases h
  | tri b hs =>
    dsimp only [ckS] at h
    split at h
    · rename_i ci i hb
      split at h
      · simp only [Bool.and_eq_true] at h
        obtain ⟨⟨⟨⟨⟨⟨h1, h2⟩, h3⟩, h4⟩, h5⟩, h6⟩, h7⟩ := h
        exact ss_tryAs G V.clo (V.cls ci _ h2) h3 h4 h5 h6 (fun W' pn xe tk po => ckB_ok (X := X.tr pn xe) (W := W') G0 ⟨⟨G.g.hP, G.g.hw, G.g.hK, G.g.hmg, G.g.hbase, G.g.hN, G.g.nd, G.g.hsc, G.g.kd, G.g.calm, G.g.room, tk⟩, G.fl, po, G.st, G.fr⟩ h1) fun a oe cls dd pn hz hf => ckHB_ok V G hz hf h7
      · cases h
    · cases h
  | pass =>
    dsimp only [ckS] at h
    split at h
    · exact ss_pass
    · exact ss_doc
    · cases h
  | brk =>
    dsimp only [ckS] at h
    split at h
    · exact ss_brk
    · cases h
  | cont =>
    dsimp only [ckS] at h
    split at h
    · exact ss_cont
    · cases h
theorem good_zero : Good M N k md cl calls 0 d := ⟨fun _ _ _ _ _ _ _ => PE.bad fun _ _ => rfl, fun _ _ _ _ _ _ _ => ⟨PT.bad fun _ _ => rfl, fun _ => PW.bad fun _ _ => rfl⟩, fun _ _ _ _ _ _ _ => PS.bad fun _ _ => rfl⟩
theorem good_all (V : Env1 M md cl k calls) : ∀ n d, Good M N k md cl calls n d := by
  intro n
  induction n using Nat.strongRecOn with
  | ind n ih =>
    cases n with
    | zero => exact fun d => good_zero
    | succ n =>
      intro d
      induction d with
      | zero => exact ⟨(fun _ _ _ _ _ _ h => by cases h), (fun _ _ _ _ _ _ h => by cases h), (fun _ _ _ _ _ _ h => by cases h)⟩
      | succ d ihd =>
        have Gm : ∀ m, m ≤ n → Good M N k md cl calls m d := fun m hm => ih m (Nat.lt_succ_of_le hm) d
        exact ⟨fun X sc W ex m G h => ckE_ok V (Gm n (Nat.le_refl n)) ihd G h, fun X sc W ex m G h => ckT_ok V Gm ihd G h, fun X sc W st m G h => ckS_ok V Gm G h⟩
end
end Ev

set_option Elab.async false
set_option linter.all false
set_option maxRecDepth 100000
set_option maxHeartbeats 4000000
/-! Defs, modules, the end. -/
namespace Ev
open PySem PySem.Spec PyProof.Rows L2
/-- one def: its name, its names by slot, what it does -/
structure Df where
  x : Str
  N : List Str
  fn : Fn
def isNone0 : Value → Bool
  | .none => true
  | _ => false
def parLoc (ns : List (Str × NameKind)) : List Str → Bool
  | [] => true
  | x :: xs => isLoc (look ns x) && parLoc ns xs
def noFree (ns : List (Str × NameKind)) : Bool := ns.all fun p => match p.2 with
  | .free => false
  | _ => true
def dfFd (md : Md) (K : PySem.W.Frag) (d : Df) (fd : FuncData) : Bool := (match fd.body with
    | .stmts b => ckB (chk md d.N 60) fd.scope b d.fn.body
    | _ => false) &&
  (fd.globals == mainGlobals) && (fd.builtins == builtinsNs) && fd.closure.isEmpty && isNone0 fd.defaults && PySem.W.codeIn K fd.code fd.qualname &&
  fd.params.posonlyargs.isEmpty && fd.params.kwonlyargs.isEmpty && fd.params.vararg.isNone && fd.params.kwarg.isNone &&
  strsEq (fd.params.args.map (·.arg)) (d.N.take d.fn.ps) && Nat.beq d.N.length d.fn.ns && Nat.ble d.fn.ps d.fn.ns && nodupS d.N && parLoc fd.scope.names (d.N.take d.fn.ps) && noFree fd.scope.names &&
  isFun fd.scope.kind && !fd.scope.isCoroutine && !fd.scope.isGenerator
def dfB (md : Md) (K : PySem.W.Frag) (f : Addr) (d : Df) : Bool := match K.lookup f with
  | some ⟨_, _, .func fd, _⟩ => dfFd md K d fd
  | _ => false
theorem startL_len : ∀ (vs : List Val) (n : Nat), (startL vs n).length = n
  | _, 0 => rfl
  | [], n + 1 => by simp [startL, startL_len [] n]
  | v :: vs, n + 1 => by simp [startL, startL_len vs n]
theorem startL_get : ∀ (vs : List Val) (n i : Nat) (v : Val), getV (startL vs n) i = some v → Ev.nth vs i = some v
  | _, 0, _, _, h => by simp [startL, getV] at h
  | [], n + 1, 0, _, h => by simp [startL, getV] at h
  | [], n + 1, i + 1, v, h => by
    have := startL_get [] n i v (by simpa [startL, getV] using h)
    cases i <;> simp [Ev.nth] at this
  | u :: vs, n + 1, 0, v, h => by simpa [startL, getV, Ev.nth] using h
  | u :: vs, n + 1, i + 1, v, h => startL_get vs n i v (by simpa [startL, getV] using h)
theorem rsl_start {M : Mo} {c : Cf} {us : List Val} {vs : List V} {N : List Str} (r : RVs M c us vs) (h : vs.length ≤ N.length) : RSl M c (startL us N.length) (start N vs) := by
  refine ⟨?_, fun i v e => ?_⟩
  · rw [startL_len]
    unfold L2.start
    rw [List.length_append, List.length_map, List.length_replicate]
    omega
  · obtain ⟨y, e1, r1⟩ := r.nth (startL_get us N.length i v e)
    refine ⟨y, ?_, r1⟩
    unfold L2.start
    have hi : i < vs.length := (List.getElem?_eq_some_iff.mp e1).1
    rw [List.getElem?_append_left (by simpa using hi), List.getElem?_map, e1]
    rfl
section
variable {M : Mo} {md : Md} {cl : Cl} {fns : Nat → Option Fn}
theorem df_parts {K : PySem.W.Frag} {d : Df} {fd : FuncData} (hb : dfFd md K d fd = true) : ∃ (name qual : Str) (params : Arguments) (body : List Stmt) (scope : Scope) (kV doc pm : Value) (an : Option Addr) (cdv ct : Value), fd = PySem.W.fnOf name qual params body scope .none kV doc pm an cdv ct ∧
    ckB (chk md d.N 60) scope body d.fn.body = true ∧ PySem.W.codeIn K cdv qual = true ∧ params.posonlyargs = [] ∧ params.kwonlyargs = [] ∧ params.vararg = none ∧ params.kwarg = none ∧ params.args.map (·.arg) = d.N.take d.fn.ps ∧ d.N.length = d.fn.ns ∧ d.fn.ps ≤ d.fn.ns ∧ FnScope d.N (d.N.take d.fn.ps) scope := by
  unfold dfFd at hb
  simp only [Bool.and_eq_true] at hb
  obtain ⟨⟨⟨⟨⟨⟨⟨⟨⟨⟨⟨⟨⟨⟨⟨⟨⟨⟨h1, h2⟩, h3⟩, h4⟩, h5⟩, h6⟩, h7⟩, h8⟩, h9⟩, h10⟩, h11⟩, h12⟩, h13⟩, h14⟩, h15⟩, h16⟩, h17⟩, h18⟩, h19⟩ := hb
  obtain ⟨name, qual, params, bodyF, scope, globals, closure, dV, kV, doc, pm, an, cdv, ct, bns⟩ := fd
  dsimp only at h1 h2 h3 h4 h5 h6 h7 h8 h9 h10 h11 h15 h16 h17 h18 h19
  cases bodyF with
  | expr b => cases h1
  | stmts body =>
  dsimp only at h1
  obtain rfl : globals = mainGlobals := eq_of_beq h2
  obtain rfl : bns = builtinsNs := eq_of_beq h3
  obtain rfl : closure = [] := List.isEmpty_iff.mp h4
  have hdV : dV = .none := by cases dV <;> first | rfl | cases h5
  subst hdV
  have hN : d.N.length = d.fn.ns := Nat.eq_of_beq_eq_true h12
  have hle : d.fn.ps ≤ d.fn.ns := ble_true h13
  have nd : d.N.Nodup := nodupS_ok h14
  have hpl : (d.N.take d.fn.ps).length = d.fn.ps := by rw [List.length_take]; omega
  refine ⟨name, qual, params, body, scope, kV, doc, pm, an, cdv, ct, rfl, h1, h6, List.isEmpty_iff.mp h7, List.isEmpty_iff.mp h8, ?_, ?_, strsEq_ok h11, hN, hle, isFun_ok h17, by simpa using h18, by simpa using h19, nd, by rw [hpl], fun x hx => ?_, fun y hy z => ?_⟩
  · cases e : params.vararg with
    | none => rfl
    | some a => rw [e] at h9; cases h9
  · cases e : params.kwarg with
    | none => rfl
    | some a => rw [e] at h10; cases h10
  · have : ∀ {l : List Str}, parLoc scope.names l = true → x ∈ l → isLoc (look scope.names x) = true := fun {l} => by
      induction l with
      | nil => intro _ q; cases q
      | cons a l ih =>
        intro p q
        unfold parLoc at p
        rw [Bool.and_eq_true] at p
        rcases List.mem_cons.mp q with e | e
        · rw [e]; exact p.1
        · exact ih p.2 e
    have q := this h15 hx
    rw [look_eq] at q
    cases e : scope.names.lookup x with
    | none => rw [e] at q; cases q
    | some kd => rw [e] at q; cases kd <;> first | (exact .inl rfl) | (exact .inr rfl) | cases q
  · have := List.all_eq_true.mp h16 y hy
    rw [z] at this
    cases this
theorem df_binds {K : PySem.W.Frag} {d : Df} {fd : FuncData} (hb : dfFd md K d fd = true) (us : List Value) (hl : us.length = d.fn.ps) : bindArgs fd ⟨us, []⟩ = pure ((d.N.take d.fn.ps).zip us) := by
  obtain ⟨name, qual, params, body, scope, kV, doc, pm, an, cdv, ct, rfl, h1, h6, h7, h8, h9, h10, hps, hN, hle, S⟩ := df_parts hb
  have hpl : (d.N.take d.fn.ps).length = d.fn.ps := by rw [List.length_take]; omega
  have hl2 : us.length = params.args.length := by
    have := congrArg List.length hps
    rw [List.length_map, hpl] at this
    rw [hl, this]
  rw [← hps]
  refine bind_plain _ us h7 h8 h9 h10 rfl hl2 ?_
  show (params.args.map (·.arg)).Nodup
  rw [hps]
  exact S.nd.sublist (List.take_sublist _ _)
theorem df_fnok {k i : Nat} {f : Addr} {d : Df} {fd : FuncData} (V : Env1 M md cl k (callN cl fns k)) (lk : ∃ oc od osl, M.K.lookup f = some ⟨oc, od, .func fd, osl⟩) (hb : dfFd md M.K d fd = true) (hf : fns i = some d.fn) :
    FnOk M.P M.w M.K M.mg M.base (L2.CX M.P M.w) (k + 1) f fd (d.N.take d.fn.ps) (spOf M d.fn.ps (callN cl fns (k + 1) i)) := by
  obtain ⟨oc, od, osl, lk⟩ := lk
  obtain ⟨name, qual, params, body, scope, kV, doc, pm, an, cdv, ct, rfl, h1, h6, h7, h8, h9, h10, hps, hN, hle, S⟩ := df_parts hb
  have hpl : (d.N.take d.fn.ps).length = d.fn.ps := by rw [List.length_take]; omega
  refine fn_of lk h6 S (fun vs H Q E q => ?_) fun A outer s H vs Q E hr q => ?_
  · obtain ⟨c, h, us, _, r, hl, _⟩ := q
    rw [hpl, ← r.length, hl]
  · obtain ⟨c, h, us, ⟨rfl, R⟩, r, hl, g⟩ := q
    refine ⟨tEvS M (fun cls d _ H => E cls d H) (execs (rec cl (callN cl fns k) fuel) d.fn.body), ckB_ok (sc := scope) (k := k) (good_all V fuel 60) ?_ h1, ?_⟩
    · refine ⟨⟨rfl, rfl, rfl, rfl, rfl, rfl, S.nd, rfl, S.kind, rfl, hr, takes_of rfl rfl rfl rfl⟩, fun x hx => ?_, passes_of rfl, rfl, rfl⟩
      refine ⟨?_, .inl rfl⟩
      rw [look_eq] at hx
      cases e : scope.names.lookup x with
      | none => rw [e] at hx; cases hx
      | some kd => rw [e] at hx; cases kd <;> first | (exact .inl e) | (exact .inr e) | cases hx
    · refine ⟨c, startL us d.fn.ns, h, ⟨rfl, R, by rw [← hN]; exact rsl_start r (by rw [← r.length, hl]; omega)⟩, ?_⟩
      rw [callN_succ, hf] at g
      have g : Go M c (RV M) (runFn cl (callN cl fns k) d.fn us h) Q E := g
      unfold runFn at g
      rw [show Nat.beq us.length d.fn.ps = true by rw [hl]; exact Nat.beq_refl _] at g
      dsimp only at g
      cases qe : execs (rec cl (callN cl fns k) fuel) d.fn.body (startL us d.fn.ns) h with
      | ok fl h1 =>
        rw [qe] at g
        cases fl with
        | nx s1 => exact fun c' σ' e' R' S' => g c' .non e' R' .non
        | rt v => exact fun c' y e' R' r' => g c' y e' R' r'
        | bk s1 => exact g.elim
        | ct s1 => exact g.elim
      | exc kx fs s1 h1 =>
        rw [qe] at g
        exact fun c' cls dd σ' e' R' S' x' => g c' cls dd e' R' x'
      | bad => rw [qe] at g; exact g.elim
theorem df_fnk {k i : Nat} {f : Addr} {d : Df} (V : Env1 M md cl k (callN cl fns k)) (hb : dfB md M.K f d = true) (hf : fns i = some d.fn) (hm : M.mg d.x = some (.ref f)) : FnK M (k + 1) f d.x d.fn.ps (callN cl fns (k + 1) i) := by
  unfold dfB at hb
  split at hb
  case h_2 => cases hb
  case h_1 oc od fd osl lk =>
  have hpl : (d.N.take d.fn.ps).length = d.fn.ps := by
    obtain ⟨name, qual, params, body, scope, kV, doc, pm, an, cdv, ct, rfl, h1, h6, h7, h8, h9, h10, hps, hN, hle, S⟩ := df_parts hb
    rw [List.length_take]; omega
  refine ⟨hm, ?_, fd, d.N.take d.fn.ps, df_fnok V ⟨oc, od, osl, lk⟩ hb hf, .all fun us hl => df_binds hb us (by rw [hl, hpl])⟩
  unfold PySem.W.keepIn
  dsimp only
  rw [lk]
end
end Ev

set_option Elab.async false
set_option linter.all false
set_option maxRecDepth 100000
set_option maxHeartbeats 4000000
/-! A module: its description, the look at the heap, what follows. -/
namespace Ev
open PySem PySem.Spec PyProof.Rows L2
structure Mod where
  dfs : List Df
  consts : List (Str × Val)
  free : List Str
  excs : List (Str × List Str × XB)
  cat : List (List Bool)
  file : Str
def Mod.md (m : Mod) : Md := ⟨m.dfs.map fun d => (d.x, d.fn.ps), m.consts, m.free, m.excs.map fun p => (p.1, p.2.1)⟩
def Mod.cl (m : Mod) : Cl := ⟨fun c => match nth m.excs c with
  | some p => p.2.1
  | none => [], fun _ _ => false, fun c d => match nth m.cat c with
  | some r => nth r d
  | none => none⟩
def Mod.fns (m : Mod) (i : Nat) : Option Fn := match nth m.dfs i with
  | some d => some d.fn
  | none => none
def Mod.mo (m : Mod) (P : Program) (w : World) (K : PySem.W.Frag) (mg : Str → Option Value) (base : Heap) : Mo := ⟨P, w, K, mg, base, fun i => match nth m.dfs i with
  | some d => He.ga K d.x
  | none => 0, fun c => match nth m.excs c with
  | some p => He.ga K p.1
  | none => 0⟩
def gloB (K : PySem.W.Frag) (x : Str) : Bool := match PySem.W.nsIn K mainGlobals x with
  | some (some (.ref _)) => true
  | _ => false
def freeB (K : PySem.W.Frag) (x : Str) : Bool := match PySem.W.nsIn K mainGlobals x with
  | some none => true
  | _ => false
def constB (K : PySem.W.Frag) (p : Str × Val) : Bool := match PySem.W.nsIn K mainGlobals p.1 with
  | some (some (.int j _)) => (match p.2 with
    | .int i => decide (j = i)
    | _ => false)
  | some (some (.str y _)) => (match p.2 with
    | .str z => strEq y z
    | _ => false)
  | _ => false
def excB (K : PySem.W.Frag) (file : Str) (p : Str × List Str × XB) : Bool := gloB K p.1 && (match p.2.1 with
  | [] => true
  | _ :: _ => clsB K file (He.ga K p.1) p.2.1 p.2.2 && L2.xfB K (He.ga K p.1) && p.2.1.all fun f => eqOO (PySem.W.findIn K (.ref (He.ga K p.1)) f) (some none))
def catR (K : PySem.W.Frag) (C : Addr) : List (Str × List Str × XB) → List Bool → Bool
  | _, [] => true
  | [], _ :: _ => false
  | p :: ps, b :: bs => decide (PySem.W.exmOne K (.ref C) (.ref (He.ga K p.1)) = some b) && catR K C ps bs
def catB (K : PySem.W.Frag) (all : List (Str × List Str × XB)) : List (Str × List Str × XB) → List (List Bool) → Bool
  | _, [] => true
  | [], _ :: _ => false
  | p :: ps, r :: rs => catR K (He.ga K p.1) all r && catB K all ps rs
def Mod.ok (m : Mod) (K : PySem.W.Frag) : Bool := m.free.all (freeB K) && freeB K sSuper && m.consts.all (constB K) && m.dfs.all (fun d => gloB K d.x && dfB m.md K (He.ga K d.x) d) && m.excs.all (excB K m.file) && catB K m.excs m.excs m.cat
theorem gloB_ok {K : PySem.W.Frag} {h : Heap} {mg : Str → Option Value} {x : Str} (X : K.In h) (G : h.Ns mainGlobals mg) (b : gloB K x = true) : mg x = some (.ref (He.ga K x)) := by
  unfold gloB at b
  split at b
  · rename_i a e
    have : He.ga K x = a := by unfold He.ga; rw [e]
    rw [this]
    exact PySem.W.mg_of X G e
  · cases b
theorem freeB_ok {K : PySem.W.Frag} {h : Heap} {mg : Str → Option Value} {x : Str} (X : K.In h) (G : h.Ns mainGlobals mg) (b : freeB K x = true) : mg x = none := by
  unfold freeB at b
  split at b
  · rename_i e
    exact PySem.W.mg_none_of X G e
  · cases b
theorem memS_in {x : Str} : ∀ {ys : List Str}, memS x ys = true → x ∈ ys
  | [], h => by cases h
  | y :: ys, h => by
    unfold memS at h
    cases q : strEq x y with
    | true => rw [strEq_iff.mp q]; exact List.mem_cons_self
    | false => rw [q] at h; exact List.mem_cons_of_mem _ (memS_in h)
theorem valEq_ok {a b : Val} (h : valEq a b = true) : a = b := by
  cases a <;> cases b <;> first | rfl | (cases h; done) | skip
  · simp [valEq] at h; rw [h]
  · simp [valEq] at h; rw [h]
  · rw [strEq_iff.mp h]
theorem constIs_in {x : Str} {v : Val} : ∀ {l : List (Str × Val)}, constIs x v l = true → (x, v) ∈ l
  | [], h => by cases h
  | p :: ps, h => by
    unfold constIs at h
    cases q : strEq x p.1 && valEq p.2 v with
    | true =>
      rw [Bool.and_eq_true] at q
      rw [strEq_iff.mp q.1, ← valEq_ok q.2]
      exact List.mem_cons_self
    | false => rw [q] at h; exact List.mem_cons_of_mem _ (constIs_in h)
theorem constB_ok {M : Mo} {K : PySem.W.Frag} {h : Heap} {mg : Str → Option Value} {x : Str} {v : Val} (X : K.In h) (G : h.Ns mainGlobals mg) (b : constB K (x, v) = true) : ∃ u y, mg x = some u ∧ RelV y u ∧ ∀ c, RV M c v y := by
  unfold constB at b
  dsimp only at b
  split at b
  · rename_i j t e
    cases v <;> first | (cases b; done) | skip
    rename_i i
    obtain rfl : j = i := of_decide_eq_true b
    exact ⟨_, .int j, PySem.W.mg_of X G e, ⟨_, rfl⟩, fun c => .int j⟩
  · rename_i y t e
    cases v <;> first | (cases b; done) | skip
    rename_i z
    obtain rfl : y = z := strEq_iff.mp b
    exact ⟨_, .str y, PySem.W.mg_of X G e, ⟨_, rfl⟩, fun c => .str y⟩
  · cases b
theorem fnIs_nth {x : Str} {n : Nat} : ∀ {l : List Df} {f : Nat}, fnIs x n (l.map fun d => (d.x, d.fn.ps)) f = true → ∃ d, nth l f = some d ∧ d.x = x ∧ d.fn.ps = n ∧ d ∈ l
  | [], _, h => by cases h
  | d :: l, 0, h => by
    rw [List.map_cons] at h
    unfold fnIs at h
    rw [Bool.and_eq_true] at h
    exact ⟨d, rfl, (strEq_iff.mp h.1).symm, (Nat.eq_of_beq_eq_true h.2).symm, List.mem_cons_self⟩
  | d :: l, f + 1, h => by
    obtain ⟨e, a, b, c, m⟩ := fnIs_nth (l := l) (f := f) h
    exact ⟨e, a, b, c, List.mem_cons_of_mem _ m⟩
theorem excIs_nth {x : Str} {n : Nat} : ∀ {l : List (Str × List Str × XB)} {c : Nat}, excIs x n (l.map fun p => (p.1, p.2.1)) c = true → ∃ p, nth l c = some p ∧ p.1 = x ∧ p.2.1.length = n ∧ p ∈ l
  | [], _, h => by cases h
  | d :: l, 0, h => by
    rw [List.map_cons] at h
    unfold excIs at h
    rw [Bool.and_eq_true] at h
    exact ⟨d, rfl, (strEq_iff.mp h.1).symm, (Nat.eq_of_beq_eq_true h.2).symm, List.mem_cons_self⟩
  | d :: l, f + 1, h => by
    obtain ⟨e, a, b, c, m⟩ := excIs_nth (l := l) (c := f) h
    exact ⟨e, a, b, c, List.mem_cons_of_mem _ m⟩
theorem clsIs_nth {x : Str} : ∀ {l : List (Str × List Str × XB)} {c : Nat}, clsIs x (l.map fun p => (p.1, p.2.1)) c = true → ∃ p, nth l c = some p ∧ p.1 = x ∧ p ∈ l
  | [], _, h => by cases h
  | d :: l, 0, h => ⟨d, rfl, (strEq_iff.mp h).symm, List.mem_cons_self⟩
  | d :: l, f + 1, h => by
    obtain ⟨e, a, b, m⟩ := clsIs_nth (l := l) (c := f) h
    exact ⟨e, a, b, List.mem_cons_of_mem _ m⟩
theorem nth_mem {α : Type} : ∀ {l : List α} {i : Nat} {a : α}, nth l i = some a → a ∈ l
  | [], _, _, h => by cases h
  | x :: l, 0, a, h => by cases h; exact List.mem_cons_self
  | x :: l, i + 1, a, h => List.mem_cons_of_mem _ (nth_mem (show nth l i = some a from h))
theorem catR_nth {K : PySem.W.Frag} {C : Addr} : ∀ {ps : List (Str × List Str × XB)} {bs : List Bool} {d : Nat} {b : Bool}, catR K C ps bs = true → nth bs d = some b → ∃ p, nth ps d = some p ∧ PySem.W.exmOne K (.ref C) (.ref (He.ga K p.1)) = some b
  | _, [], _, _, _, h => by cases h
  | [], _ :: _, _, _, h, _ => by cases h
  | p :: ps, a :: bs, 0, b, h, e => by
    unfold catR at h
    rw [Bool.and_eq_true] at h
    cases e
    exact ⟨p, rfl, of_decide_eq_true h.1⟩
  | p :: ps, a :: bs, d + 1, b, h, e => by
    unfold catR at h
    rw [Bool.and_eq_true] at h
    exact catR_nth (ps := ps) (bs := bs) (d := d) h.2 e
theorem catB_nth {K : PySem.W.Frag} {all : List (Str × List Str × XB)} : ∀ {ps : List (Str × List Str × XB)} {rs : List (List Bool)} {c : Nat} {r : List Bool}, catB K all ps rs = true → nth rs c = some r → ∃ p, nth ps c = some p ∧ catR K (He.ga K p.1) all r = true
  | _, [], _, _, _, h => by cases h
  | [], _ :: _, _, _, h, _ => by cases h
  | p :: ps, a :: rs, 0, r, h, e => by
    unfold catB at h
    rw [Bool.and_eq_true] at h
    cases e
    exact ⟨p, rfl, h.1⟩
  | p :: ps, a :: rs, c + 1, r, h, e => by
    unfold catB at h
    rw [Bool.and_eq_true] at h
    exact catB_nth (ps := ps) (rs := rs) (c := c) h.2 e
theorem inS_in {x : Str} : ∀ {ys : List Str}, inS x ys = true → x ∈ ys
  | [], h => by cases h
  | y :: ys, h => by
    unfold inS at h
    cases q : strEq x y with
    | true => rw [strEq_iff.mp q]; exact List.mem_cons_self
    | false => rw [q] at h; exact List.mem_cons_of_mem _ (inS_in h)
def fd0 : FuncData := PySem.W.fnOf "" "" ⟨[], [], none, [], [], none, []⟩ [] ⟨.function, [], false, false, []⟩ .none .none .none .none none .none .none
theorem mod_env (m : Mod) {P : Program} {w : World} {K : PySem.W.Frag} {h base : Heap} {mg : Str → Option Value} (X : K.In h) (G : h.Ns mainGlobals mg) (b : m.ok K = true) (hfile : ((P.main.file : Str) == m.file) = true) (htop : (P.main.scope.names.lookup ("super" : Str)).isSome = false) :
    ∀ k, Env1 (m.mo P w K mg base) m.md m.cl k (callN m.cl m.fns k) := by
  unfold Mod.ok at b
  simp only [Bool.and_eq_true] at b
  obtain ⟨⟨⟨⟨⟨b1, b2⟩, b3⟩, b4⟩, b5⟩, b6⟩ := b
  have hmd : MdOk (m.mo P w K mg base) m.md := by
    refine ⟨fun x hx => freeB_ok X G (List.all_eq_true.mp b1 x (memS_in hx)), fun x v hx => constB_ok X G (List.all_eq_true.mp b3 (x, v) (constIs_in hx))⟩
  have hcl : ClOk (m.mo P w K mg base) m.cl := by
    refine ⟨fun c d bb e => ?_, fun c f e => ?_⟩
    · have e : (match nth m.cat c with
        | some r => nth r d
        | none => none) = some bb := e
      cases q : nth m.cat c with
      | none => rw [q] at e; cases e
      | some r =>
        rw [q] at e
        obtain ⟨p, e1, e2⟩ := catB_nth b6 q
        obtain ⟨p2, e3, e4⟩ := catR_nth e2 e
        show PySem.W.exmOne K (.ref (match nth m.excs c with
          | some p => He.ga K p.1
          | none => 0)) (.ref (match nth m.excs d with
          | some p => He.ga K p.1
          | none => 0)) = some bb
        rw [e1, e3]
        exact e4
    · have e : inS f (match nth m.excs c with
        | some p => p.2.1
        | none => []) = true := e
      cases q : nth m.excs c with
      | none => rw [q] at e; cases e
      | some p =>
        rw [q] at e
        have hb := List.all_eq_true.mp b5 p (nth_mem q)
        unfold excB at hb
        rw [Bool.and_eq_true] at hb
        have hb2 := hb.2
        show L2.XfC K (match nth m.excs c with
          | some p => He.ga K p.1
          | none => 0) ∧ PySem.W.findIn K (.ref (match nth m.excs c with
          | some p => He.ga K p.1
          | none => 0)) f = some none
        rw [q]
        dsimp only at e ⊢
        cases q2 : p.2.1 with
        | nil => rw [q2] at e; cases e
        | cons a l =>
          rw [q2] at hb2 e
          simp only [Bool.and_eq_true] at hb2
          exact ⟨L2.xfB_ok hb2.1.2, eqOO_ok (List.all_eq_true.mp hb2.2 f (inS_in e))⟩
  have hsup : ∃ file, SupOk (m.mo P w K mg base) file ∧ (∀ c x n, 1 ≤ n → excIs x n m.md.excs c = true → ∃ bb, clsB (m.mo P w K mg base).K file ((m.mo P w K mg base).ca c) (m.cl.fields c) bb = true) := by
    refine ⟨m.file, ⟨freeB_ok X G b2, hfile, htop⟩, fun c x n hn e => ?_⟩
    obtain ⟨p, e1, e2, e3, e4⟩ := excIs_nth e
    have hb := List.all_eq_true.mp b5 p e4
    unfold excB at hb
    rw [Bool.and_eq_true] at hb
    have hb2 := hb.2
    show ∃ bb, clsB K m.file (match nth m.excs c with
      | some p => He.ga K p.1
      | none => 0) (match nth m.excs c with
      | some p => p.2.1
      | none => []) bb = true
    rw [e1]
    dsimp only
    cases q2 : p.2.1 with
    | nil => rw [q2] at e3; rw [← e3] at hn; simp at hn
    | cons a l =>
      rw [q2] at hb2
      simp only [Bool.and_eq_true] at hb2
      exact ⟨p.2.2, hb2.1.1⟩
  have hcls : ∀ c x, clsIs x m.md.excs c = true → (m.mo P w K mg base).mg x = some (.ref ((m.mo P w K mg base).ca c)) := by
    intro c x e
    obtain ⟨p, e1, e2, e3⟩ := clsIs_nth e
    have hb := List.all_eq_true.mp b5 p e3
    unfold excB at hb
    rw [Bool.and_eq_true] at hb
    show mg x = some (.ref (match nth m.excs c with
      | some p => He.ga K p.1
      | none => 0))
    rw [e1, ← e2]
    exact gloB_ok X G hb.1
  intro k
  induction k with
  | zero =>
    refine ⟨hmd, fun f x n e => ?_, hcl, hsup, hcls⟩
    obtain ⟨d, e1, e2, e3, e4⟩ := fnIs_nth e
    have hb := List.all_eq_true.mp b4 d e4
    rw [Bool.and_eq_true] at hb
    have hfa : (m.mo P w K mg base).fa f = He.ga K d.x := by
      show (match nth m.dfs f with
        | some d => He.ga K d.x
        | none => 0) = _
      rw [e1]
    refine ⟨?_, ?_, fd0, [], ⟨fun vs H Q E q => ?_, fun A outer s H args us vs Q E _ _ _ _ q => ?_⟩, .all fun us hl => bind_plain fd0 us rfl rfl rfl rfl rfl hl List.nodup_nil⟩
    · rw [hfa, ← e2]; exact gloB_ok X G hb.1
    · have hb2 := hb.2
      unfold dfB at hb2
      rw [hfa]
      show PySem.W.keepIn K (.ref (He.ga K d.x)) = true
      unfold PySem.W.keepIn
      dsimp only
      split at hb2
      · rename_i lk
        rw [lk]
      · cases hb2
    · obtain ⟨c, hh, us, _, _, _, g⟩ := q
      exact g.elim
    · obtain ⟨c, hh, us, _, _, _, g⟩ := q
      exact g.elim
  | succ k ih =>
    refine ⟨hmd, fun f x n e => ?_, hcl, hsup, hcls⟩
    obtain ⟨d, e1, e2, e3, e4⟩ := fnIs_nth e
    have hb := List.all_eq_true.mp b4 d e4
    rw [Bool.and_eq_true] at hb
    have hfa : (m.mo P w K mg base).fa f = He.ga K d.x := by
      show (match nth m.dfs f with
        | some d => He.ga K d.x
        | none => 0) = _
      rw [e1]
    rw [hfa, ← e2, ← e3]
    refine df_fnk ih hb.2 ?_ (gloB_ok X G hb.1)
    show (match nth m.dfs f with
      | some d => some d.fn
      | none => none) = some d.fn
    rw [e1]
end Ev

set_option Elab.async false
set_option linter.all false
set_option maxRecDepth 100000
set_option maxHeartbeats 4000000
/-! The head and the end of a law over the evaluator. -/
namespace Ev
open PySem PySem.Spec PyProof.Rows L2
/-! ### what the module's names reach -/
inductive Sg where
  | nil
  | node (b : Bool) (l r : Sg)
def Sg.has : Nat → Sg → Nat → Bool
  | 0, _, _ => false
  | f + 1, t, a => match t with
    | .nil => false
    | .node b l r => match a with
      | 0 => b
      | a + 1 => match Nat.beq (a % 2) 0 with
        | true => Sg.has f l (a / 2)
        | false => Sg.has f r (a / 2)
def Sg.add : Nat → Sg → Nat → Sg
  | 0, t, _ => t
  | f + 1, t, a => match t with
    | .nil => (match a with
      | 0 => .node true .nil .nil
      | a + 1 => match Nat.beq (a % 2) 0 with
        | true => .node false (Sg.add f .nil (a / 2)) .nil
        | false => .node false .nil (Sg.add f .nil (a / 2)))
    | .node b l r => (match a with
      | 0 => .node true l r
      | a + 1 => match Nat.beq (a % 2) 0 with
        | true => .node b (Sg.add f l (a / 2)) r
        | false => .node b l (Sg.add f r (a / 2)))
/-- one level: what is new, what it names -/
def level (g : Addr → Option Obj) : List Addr → Sg → List Addr → List Addr → Sg × List Addr × List Addr
  | [], s, acc, nx => (s, acc, nx)
  | a :: as, s, acc, nx => match Sg.has 40 s a with
    | true => level g as s acc nx
    | false => match g a with
      | some o => level g as (Sg.add 40 s a) (a :: acc) (He.refsD o ++ nx)
      | none => level g as (Sg.add 40 s a) acc nx
def reach (g : Addr → Option Obj) : Nat → List Addr → Sg → List Addr → List Addr
  | 0, _, _, acc => acc.reverse
  | n + 1, as, s, acc => match level g as s acc [] with
    | (s, acc, nx) => reach g n nx s acc
def fragE (g : Addr → Option Obj) : PySem.W.Frag := He.frT g (reach g 7 [mainGlobals, cStatics] .nil [])
def hookE (ex : PySem.W.Frag → Bool) : PySem.W.Hook where
  α := Bool
  obs := fun s => ex (fragE s.heap.get?)
  val := fun _ => true
  says := fun w h => ∃ K : PySem.W.Frag, K.In h ∧ ex K = true
  of := fun _ _ e => ⟨_, He.frT_in, e⟩
  keeps := fun _ _ _ ⟨K, hK, c⟩ k => ⟨K, PySem.W.Frag.In.keeps hK k, c⟩
def obE (ex : PySem.W.Frag → Bool) (s : PySem.W.SharedT) : Bool := ex (fragE (HandSHeadRun.getT s))
theorem obE_eq (ex : PySem.W.Frag → Bool) (s : PySem.W.SharedT) : obE ex s = (hookE ex).obs s.abs := by
  have e : HandSHeadRun.getT s = s.abs.heap.get? := funext (HandSHeadRun.getT_eq s)
  unfold obE
  rw [e]
  rfl
/-! ### the start -/
def heap0 (ns : List Int) : LHeap := ⟨1, Tr.set 2 .nil 0 (.frz (ns.map Val.int))⟩
theorem heap0_get (ns : List Int) (l : Nat) : (heap0 ns).get l = if l = 0 then some (.frz (ns.map Val.int)) else none := by
  by_cases h : l = 0
  · subst h; rfl
  · rw [if_neg h]; exact LHeap.get_ge (show 1 ≤ l by omega)
theorem rvs_ints {M : Mo} {c : Cf} : ∀ ns : List Int, RVs M c (ns.map Val.int) (ns.map V.int)
  | [] => .nil
  | i :: ns => .cons (.int i) (rvs_ints ns)
theorem start_has {M : Mo} {H : Hp} {a : Addr} {ns : List Int} (hO : Only H) (hS : SqL M.K H a (ns.map V.int)) : ∃ c, Has M c (heap0 ns) H ∧ RVs M c [.ref 0] [.ref a] := by
  have fz : FzL M.K H a (ns.map V.int) := by
    rcases hS with (h | ⟨o, h⟩) | h
    · rcases hO a with z | ⟨o, xs, z⟩
      · rw [z] at h; cases h
      · rw [z] at h; cases h
    · exact .inl ⟨o, h⟩
    · exact .inr h
  refine ⟨⟨1, fun _ => a, fun _ => false, H⟩, ⟨rfl, ⟨rfl, fun l o e => ?_, fun l k o u e1 e2 m1 _ _ => ?_, fun l _ h => ?_, fun l o e m => ?_⟩⟩, .cons (.ref (l := 0) (Nat.zero_lt_one)) .nil⟩
  · rw [heap0_get] at e
    split at e
    · cases e; exact .frz fz (rvs_ints ns)
    · cases e
  · rw [heap0_get] at e1
    split at e1
    · cases e1; cases m1
    · cases e1
  · cases h
  · rw [heap0_get] at e
    split at e
    · cases e; cases m
    · cases e
/-! ### the end -/
theorem walk_ev {l : PySem.W.OpenLaw} {n k : Nat} {q : Program} {loose : List Str} {XP : (Str → Option Value) → Heap → Prop} {YP : World → Heap → Prop} {d : DefRec} {x : Str}
    (hn : l.most = some n) (hn2 : n ≤ sizeLine) (hdf : d.params.defaults = []) (hr : Room k callerA)
    (F : ∀ (w : World) (mg : Str → Option Value) (fa : Addr) (h : Heap), YP w h → h.Ns mainGlobals mg → mg d.name = some (.ref fa) →
      ∃ (K : PySem.W.Frag) (fd : FuncData) (sp : Sp), K.In h ∧ (∀ (s : Shared) (u : Value), BindsTo s fd ⟨[u], []⟩ [(x, u)]) ∧
        (∀ (H : Hp) (a : Addr) (ns : List Int), ns.length ≤ n → Only H → SqL K H a (ns.map V.int) → sp [.ref a] H (fun v _ => v = .bl true) fun _ _ _ => False) ∧
        ∀ base : Heap, K.In base → base.Ns mainGlobals mg → FnOk l.prog w K mg base (L2.CX l.prog w) k fa fd [x] sp) :
    PySem.W.WalkO q loose XP YP l.row.toRowW d [] (fun f vs => PySem.call f vs) := by
  refine Att.attach_call hn hdf fun w s₀ s₁ mg mb fa o pm cd doc a vs ns G Y ho hd hcd hmg hobj hints hlen hg => ?_
  obtain ⟨K, fd, sp, KX, hb, hsp, hF⟩ := F w mg fa _ Y G.T.g hmg
  refine law_call KX G.T.g G.T.b G.T.builtins G.T.nolimit hg hobj hints (Nat.le_trans hlen hn2) hr hF hb (fun H hO hS => hsp H a ns hlen hO hS) fun H e s' z => ?_
  obtain ⟨_, _, _, _, _, _, _, _, _, _, _, _, z⟩ := z
  exact z
/-- F of walk_ev, from the run of the evaluator -/
theorem law_at (m : Mod) {l : PySem.W.OpenLaw} {n k i : Nat} {dL : Df} {x : Str} (hi : nth m.dfs i = some dL) (hps : dL.fn.ps = 1) (hN : dL.N.take 1 = [x]) (hfile : ((l.prog.main.file : Str) == m.file) = true) (htop : (l.prog.main.scope.names.lookup ("super" : Str)).isSome = false)
    (run : ∀ ns : List Int, ns.length ≤ n → ∃ h', callN m.cl m.fns (k + 1) i [.ref 0] (heap0 ns) = .ok (.bl true) h')
    (w : World) (mg : Str → Option Value) (fa : Addr) (h : Heap) (Y : (hookE m.ok).says w h) (G : h.Ns mainGlobals mg) (hm : mg dL.x = some (.ref fa)) :
      ∃ (K : PySem.W.Frag) (fd : FuncData) (sp : Sp), K.In h ∧ (∀ (s : Shared) (u : Value), BindsTo s fd ⟨[u], []⟩ [(x, u)]) ∧
        (∀ (H : Hp) (a : Addr) (ns : List Int), ns.length ≤ n → Only H → SqL K H a (ns.map V.int) → sp [.ref a] H (fun v _ => v = .bl true) fun _ _ _ => False) ∧
        ∀ base : Heap, K.In base → base.Ns mainGlobals mg → FnOk l.prog w K mg base (L2.CX l.prog w) (k + 1) fa fd [x] sp := by
  obtain ⟨K, KX, ok⟩ := Y
  have hdL : (gloB K dL.x && dfB m.md K (He.ga K dL.x) dL) = true := by
    have ok' := ok
    unfold Mod.ok at ok'
    simp only [Bool.and_eq_true] at ok'
    obtain ⟨⟨⟨_, b4⟩, _⟩, _⟩ := ok'
    rw [List.all_eq_true] at b4
    exact b4 dL (nth_mem hi)
  rw [Bool.and_eq_true] at hdL
  have hfa : fa = He.ga K dL.x := by
    have := gloB_ok KX G hdL.1
    rw [hm] at this
    cases this
    rfl
  have hf : m.fns i = some dL.fn := by
    show (match nth m.dfs i with
      | some d => some d.fn
      | none => none) = some dL.fn
    rw [hi]
  have key : ∃ fd : FuncData, (∀ (s : Shared) (u : Value), BindsTo s fd ⟨[u], []⟩ [(x, u)]) ∧ ∀ base : Heap, K.In base → base.Ns mainGlobals mg → FnOk l.prog w K mg base (L2.CX l.prog w) (k + 1) fa fd [x] (spOf (m.mo l.prog w K mg base) 1 (callN m.cl m.fns (k + 1) i)) := by
    subst hfa
    have hb := hdL.2
    have key2 : ∀ (base : Heap) (kk : Nat), Env1 (m.mo l.prog w K mg base) m.md m.cl kk (callN m.cl m.fns kk) := fun base kk => mod_env m (h := h) KX G ok hfile htop kk
    obtain ⟨fd, hfd, hbd⟩ : ∃ fd : FuncData, (∃ oc od osl, K.lookup (He.ga K dL.x) = some ⟨oc, od, .func fd, osl⟩) ∧ dfFd m.md K dL fd = true := by
      unfold dfB at hb
      split at hb
      · rename_i oc od fd osl lk
        exact ⟨fd, ⟨oc, od, osl, lk⟩, hb⟩
      · cases hb
    have F : ∀ base : Heap, FnOk l.prog w K mg base (L2.CX l.prog w) (k + 1) (He.ga K dL.x) fd (dL.N.take dL.fn.ps) (spOf (m.mo l.prog w K mg base) dL.fn.ps (callN m.cl m.fns (k + 1) i)) := fun base => df_fnok (key2 base k) hfd hbd hf
    rw [hps, hN] at F
    exact ⟨fd, fun s u => BindsTo.of_eq (by
      have := df_binds hbd [u] (by rw [hps]; rfl)
      rw [hps, hN] at this
      exact this), fun base _ _ => F base⟩
  obtain ⟨fd, hbd, hF⟩ := key
  refine ⟨K, fd, fun vs H Q E => ∀ base, spOf (m.mo l.prog w K mg base) 1 (callN m.cl m.fns (k + 1) i) vs H Q E, KX, hbd, fun H a ns hl hO hS base => ?_, fun base hKb hGb => (hF base hKb hGb).imp fun vs H Q E q => q base⟩
  obtain ⟨c, hs, rs⟩ := start_has (M := m.mo l.prog w K mg base) hO hS
  obtain ⟨h', e⟩ := run ns hl
  refine ⟨c, heap0 ns, [.ref 0], hs, rs, rfl, ?_⟩
  rw [e]
  intro c' y _ _ r
  cases r
  rfl
end Ev

set_option Elab.async false
set_option linter.all false
set_option maxRecDepth 100000
set_option maxHeartbeats 1000000
/-! Stepping the evaluator by equations. -/
namespace Ev
open PySem
section
variable {cl : Cl} {C : Nat → List Val → LHeap → Res Val} {n : Nat} {s : LSt} {h : LHeap}
def RS.next (r : RS) (k : LSt → LHeap → RS) : RS := match r with
  | .ok (.nx s1) h1 => k s1 h1
  | r => r
theorem execs_nil {rc : Rec} : execs rc [] s h = .ok (.nx s) h := rfl
theorem execs_cons {rc : Rec} {x : S} {xs : List S} : execs rc (x :: xs) s h = (rc.s x s h).next (execs rc xs) := rfl
theorem next_nx {s1 : LSt} {h1 : LHeap} {k : LSt → LHeap → RS} : (RS.ok (.nx s1) h1).next k = k s1 h1 := rfl
theorem next_rt {v : Val} {h1 : LHeap} {k : LSt → LHeap → RS} : (RS.ok (.rt v) h1).next k = .ok (.rt v) h1 := rfl
theorem next_bk {s1 : LSt} {h1 : LHeap} {k : LSt → LHeap → RS} : (RS.ok (.bk s1) h1).next k = .ok (.bk s1) h1 := rfl
theorem next_ct {s1 : LSt} {h1 : LHeap} {k : LSt → LHeap → RS} : (RS.ok (.ct s1) h1).next k = .ok (.ct s1) h1 := rfl
theorem next_exc {c : Nat} {fs : List (Str × Val)} {s1 : LSt} {h1 : LHeap} {k : LSt → LHeap → RS} : (RS.exc c fs s1 h1).next k = .exc c fs s1 h1 := rfl
theorem bind_okE {α β : Type} {a : α} {k : α → LHeap → Res β} : (Res.ok a h).bind k = k a h := rfl
theorem bind_excE {α β : Type} {c : Nat} {fs : List (Str × Val)} {k : α → LHeap → Res β} : (Res.exc c fs h : Res α).bind k = .exc c fs h := rfl
theorem inS_okE {α : Type} {a : α} {k : α → LHeap → RS} : (Res.ok a h).inS s k = k a h := rfl
theorem inS_excE {α : Type} {c : Nat} {fs : List (Str × Val)} {k : α → LHeap → RS} : (Res.exc c fs h : Res α).inS s k = .exc c fs s h := rfl
theorem optR_some {α : Type} {a : α} : optR (some a) h = .ok a h := rfl
theorem evs_nilE {rc : Rec} : evs rc [] s h = .ok [] h := rfl
theorem evs_consE {rc : Rec} {e : E} {es : List E} : evs rc (e :: es) s h = (rc.e e s h).bind fun v h1 => (evs rc es s h1).bind fun vs h2 => .ok (v :: vs) h2 := rfl
theorem e_var {i : Nat} : (rec cl C (n + 1)).e (.var i) s h = optR (getV s i) h := rfl
theorem e_lit {v : Val} : (rec cl C (n + 1)).e (.lit v) s h = .ok v h := rfl
theorem e_glb {x : Str} {v : Val} : (rec cl C (n + 1)).e (.glb x v) s h = .ok v h := rfl
theorem e_bin {o : BOp} {a b : E} : (rec cl C (n + 1)).e (.bin o a b) s h = ((rec cl C n).e a s h).bind fun x h1 => ((rec cl C n).e b s h1).bind fun y h2 => binOp o x y h2 := rfl
theorem e_cmp {o : COp} {a b : E} : (rec cl C (n + 1)).e (.cmp o a b) s h = ((rec cl C n).e a s h).bind fun x h1 => ((rec cl C n).e b s h1).bind fun y h2 => (optR (cmpOp o x y h2) h2).bind fun c h3 => .ok (.bl c) h3 := rfl
theorem e_not {a : E} : (rec cl C (n + 1)).e (.not a) s h = ((rec cl C n).e a s h).bind fun x h1 => match x with
    | .bl c => .ok (.bl (!c)) h1
    | _ => .bad := rfl
theorem e_tup {es : List E} : (rec cl C (n + 1)).e (.tup es) s h = (evs (rec cl C n) es s h).bind fun vs h1 => match Nat.ble vs.length line with
    | true => .ok (.tup vs) h1
    | false => .bad := rfl
theorem e_lst {es : List E} : (rec cl C (n + 1)).e (.lst es) s h = (evs (rec cl C n) es s h).bind fun vs h1 => match Nat.ble vs.length line with
    | true => alloc (.lst vs) h1
    | false => .bad := rfl
theorem e_sub {a i : E} : (rec cl C (n + 1)).e (.sub a i) s h = ((rec cl C n).e a s h).bind fun x h1 => ((rec cl C n).e i s h1).bind fun y h2 => optR (subVal h2 x y) h2 := rfl
theorem e_slc {a : E} {lo hi : Option E} : (rec cl C (n + 1)).e (.slc a lo hi) s h = ((rec cl C n).e a s h).bind fun x h1 => (evOpt (rec cl C n) lo s h1).bind fun l h2 => (evOpt (rec cl C n) hi s h2).bind fun r h3 => sliceVal h3 x l r := rfl
theorem evOpt_none {rc : Rec} : evOpt rc none s h = .ok none h := rfl
theorem evOpt_some {rc : Rec} {e : E} : evOpt rc (some e) s h = (rc.e e s h).bind fun v h1 => match v with
    | .int i => .ok (some i) h1
    | _ => .bad := rfl
theorem e_call {f : Nat} {es : List E} : (rec cl C (n + 1)).e (.call f es) s h = (evs (rec cl C n) es s h).bind fun vs h1 => C f vs h1 := rfl
theorem e_pcall {f : Nat} {es : List E} : (rec cl C (n + 1)).e (.pcall f es) s h = (evs (rec cl C n) es s h).bind fun vs h1 => match pureVs vs with
    | true => sand (C f vs heapE) h1
    | false => .bad := rfl
theorem e_bi {b : Bi} {es : List E} : (rec cl C (n + 1)).e (.bi b es) s h = (evs (rec cl C n) es s h).bind fun vs h1 => biCall b vs h1 := rfl
theorem e_comp {own : List Nat} {tg : Tg} {it : It} {c : Option E} {elt : E} : (rec cl C (n + 1)).e (.comp own tg it c elt) s h = (evComp (rec cl C n) own tg it c elt s h).bind fun ys h1 => match Nat.ble ys.length line with
    | true => alloc (.lst ys) h1
    | false => .bad := rfl
theorem e_dsp {kvs : List (Str × E)} : (rec cl C (n + 1)).e (.dsp kvs) s h = (evKVs (rec cl C n) kvs s h).bind fun ps h1 => match Nat.ble ps.length 15 with
    | true => alloc (.dK (mergeL [] ps)) h1
    | false => .bad := rfl
theorem evKVs_nilE {rc : Rec} : evKVs rc [] s h = .ok [] h := rfl
theorem evKVs_consE {rc : Rec} {p : Str × E} {ps : List (Str × E)} : evKVs rc (p :: ps) s h = (rc.e p.2 s h).bind fun v h1 => (evKVs rc ps s h1).bind fun vs h2 => .ok ((.inr p.1, v) :: vs) h2 := rfl
theorem t_and {a b : E} : (rec cl C (n + 1)).t (.and a b) s h = ((rec cl C n).t a s h).bind fun x h1 => match x with
    | true => (rec cl C n).t b s h1
    | false => .ok false h1 := rfl
theorem t_or {a b : E} : (rec cl C (n + 1)).t (.or a b) s h = ((rec cl C n).t a s h).bind fun x h1 => match x with
    | true => .ok true h1
    | false => (rec cl C n).t b s h1 := rfl
theorem t_not {a : E} : (rec cl C (n + 1)).t (.not a) s h = ((rec cl C n).t a s h).bind fun x h1 => .ok (!x) h1 := rfl
theorem t_cmp {o : COp} {a b : E} : (rec cl C (n + 1)).t (.cmp o a b) s h = ((rec cl C n).e (.cmp o a b) s h).bind toB := rfl
theorem t_call {f : Nat} {es : List E} : (rec cl C (n + 1)).t (.call f es) s h = ((rec cl C n).e (.call f es) s h).bind toB := rfl
theorem t_pcall {f : Nat} {es : List E} : (rec cl C (n + 1)).t (.pcall f es) s h = ((rec cl C n).e (.pcall f es) s h).bind toB := rfl
theorem s_set {i : Nat} {e : E} : (rec cl C (n + 1)).s (.set i e) s h = ((rec cl C n).e e s h).inS s fun v h1 => .ok (.nx (setV s i v)) h1 := rfl
theorem s_ex {e : E} : (rec cl C (n + 1)).s (.ex e) s h = ((rec cl C n).e e s h).inS s fun _ h1 => .ok (.nx s) h1 := rfl
theorem s_ret {e : E} : (rec cl C (n + 1)).s (.ret e) s h = ((rec cl C n).e e s h).inS s fun v h1 => .ok (.rt v) h1 := rfl
theorem s_ife {c : E} {a b : List S} : (rec cl C (n + 1)).s (.ife c a b) s h = ((rec cl C n).t c s h).inS s fun k h1 => match k with
    | true => execs (rec cl C n) a s h1
    | false => execs (rec cl C n) b s h1 := rfl
theorem s_whl {c : E} {b : List S} : (rec cl C (n + 1)).s (.whl c b) s h = (rec cl C n).w c b s h := rfl
theorem s_loop {tg : Tg} {it : It} {b : List S} : (rec cl C (n + 1)).s (.loop tg it b) s h = (evIt (rec cl C n) it s h).inS s fun src h1 => loopAll (loopOne (rec cl C n) tg b) src s h1 := rfl
theorem w_step {c : E} {b : List S} : (rec cl C (n + 1)).w c b s h = ((rec cl C n).t c s h).inS s fun k h1 => match k with
  | true => turn (execs (rec cl C n) b s h1) ((rec cl C n).w c b)
  | false => .ok (.nx s) h1 := rfl
/-- d[k] = v, d a dict with text keys -/
theorem s_put {o i e : E} : (rec cl C (n + 1)).s (.put o i e) s h = ((rec cl C n).e e s h).inS s fun v h1 => ((rec cl C n).e o s h1).inS s fun x h2 => ((rec cl C n).e i s h2).inS s fun y h3 => match x with
    | .ref l => (match h3.get l with
      | some (.dK kvs) => (match keyOf y with
        | some k => (match Nat.blt kvs.length line with
          | true => (store l (.dK (putKV k v kvs)) h3 ()).inS s fun _ h4 => .ok (.nx s) h4
          | false => .bad)
        | none => .bad)
      | some (.dT kvs) => (match y with
        | .tup ys => (match keysOf ys with
          | some k => (match Nat.blt kvs.length line with
            | true => (store l (.dT (putTV k v kvs)) h3 ()).inS s fun _ h4 => .ok (.nx s) h4
            | false => .bad)
          | none => .bad)
        | _ => .bad)
      | _ => .bad)
    | _ => .bad := rfl
theorem evIt_val {rc : Rec} {e : E} : evIt rc (.val e) s h = (rc.e e s h).bind fun v h1 => optR (srcOf h1 v) h1 := rfl
theorem evComp_eq {rc : Rec} {own : List Nat} {tg : Tg} {it : It} {c : Option E} {elt : E} : evComp rc own tg it c elt s h = (evIt rc it s h).bind fun src h1 => noExc (compAll (compOne rc own tg c elt s) src h1) := rfl
theorem loopAll_dyn {f : Val → LSt → LHeap → RS} {l : Nat} : loopAll f (.dyn l) s h = loopDyn f (.dyn l) 100000 0 s h := rfl
theorem loopAll_st {f : Val → LSt → LHeap → RS} {xs : List Val} : loopAll f (.st xs) s h = loopSt f xs s h := rfl
theorem compAll_dyn {f : Val → LHeap → Res (Option Val)} {l : Nat} : compAll f (.dyn l) h = compDyn f (.dyn l) 100000 0 h := rfl
theorem compAll_st {f : Val → LHeap → Res (Option Val)} {xs : List Val} : compAll f (.st xs) h = compSt f xs h := rfl
theorem turn_nx {s1 : LSt} {h1 : LHeap} {k : LSt → LHeap → RS} : turn (RS.ok (.nx s1) h1) k = k s1 h1 := rfl
theorem turn_rt {v : Val} {h1 : LHeap} {k : LSt → LHeap → RS} : turn (RS.ok (.rt v) h1) k = .ok (.rt v) h1 := rfl
end
/-! ### heaps -/
theorem get_push_same {h : LHeap} {o : LObj} : (h.push o).get h.n = some o := by rw [LHeap.get_push, if_pos rfl]
theorem get_push_old {h : LHeap} {o : LObj} {a : Nat} (l : a < h.n) : (h.push o).get a = h.get a := by rw [LHeap.get_push, if_neg (Nat.ne_of_lt l)]
theorem push_n {h : LHeap} {o : LObj} : (h.push o).n = h.n + 1 := by obtain ⟨n, t⟩ := h; rfl
theorem put_n {h : LHeap} {a : Nat} {o : LObj} : (h.put a o).n = h.n := rfl
theorem get_put_same {h : LHeap} {o : LObj} {a : Nat} (l : a < h.n) : (h.put a o).get a = some o := by rw [LHeap.get_put l, if_pos rfl]
theorem get_put_ne {h : LHeap} {o : LObj} {a b : Nat} (l : a < h.n) (ne : b ≠ a) : (h.put a o).get b = h.get b := by rw [LHeap.get_put l, if_neg ne]
theorem get_push_some {h : LHeap} {o u : LObj} {a : Nat} (e : h.get a = some u) : (h.push o).get a = some u := by rw [get_push_old (LHeap.get_lt e)]; exact e
theorem sub_dK {h : LHeap} {l : Nat} {kvs : List (Key × Val)} {y : Val} {k : Key} (e : h.get l = some (.dK kvs)) (hk : keyOf y = some k) : subVal h (.ref l) y = lookK k kvs := by
  unfold subVal isDict dget
  dsimp only
  rw [e]
  dsimp only
  rw [hk]
  dsimp only
  cases lookK k kvs <;> rfl
theorem sub_lst {h : LHeap} {l : Nat} {xs : List Val} {i : Int} (e : h.get l = some (.lst xs)) : subVal h (.ref l) (.int i) = match ix xs.length i with
    | some j => nth xs j
    | none => none := by
  unfold subVal isDict items
  dsimp only
  rw [e] <;> rfl
theorem sub_tup {h : LHeap} {xs : List Val} {i : Int} : subVal h (.tup xs) (.int i) = match ix xs.length i with
    | some j => nth xs j
    | none => none := rfl
theorem slice_lst {h : LHeap} {l : Nat} {xs : List Val} {lo hi : Option Int} (e : h.get l = some (.lst xs)) : sliceVal h (.ref l) lo hi = alloc (.lst (cut xs lo hi)) h := by
  unfold sliceVal
  dsimp only
  rw [e]
theorem add_lst {h : LHeap} {l k : Nat} {xs ys : List Val} (e1 : h.get l = some (.lst xs)) (e2 : h.get k = some (.lst ys)) (hl : xs.length + ys.length ≤ 16777216) : binOp .add (.ref l) (.ref k) h = alloc (.lst (xs ++ ys)) h := by
  unfold binOp
  dsimp only
  rw [e1, e2]
  dsimp only
  rw [show Nat.ble (xs.length + ys.length) line = true from Nat.ble_eq_true_of_le hl]
/-! ### data -/
theorem toD_ints {m : Nat} {h : LHeap} : ∀ xs : List Int, mapOpt (toD (m + 1) h) (xs.map Val.int) = some (xs.map PyData.int)
  | [] => rfl
  | x :: xs => by
    rw [List.map_cons, List.map_cons]
    unfold mapOpt
    rw [show toD (m + 1) h (.int x) = some (.int x) from rfl, toD_ints xs]
theorem lay_ints : ∀ xs : List Int, PyData.canLayAll0 (xs.map PyData.int) = true
  | [] => rfl
  | x :: xs => by rw [List.map_cons]; simp [PyData.canLayAll0, PyData.canLay0, lay_ints xs]
theorem depth_ints : ∀ xs : List Int, PyData.depthAll (xs.map PyData.int) = 0
  | [] => rfl
  | x :: xs => by rw [List.map_cons]; simp [PyData.depthAll, PyData.depth, depth_ints xs]
theorem shaped_ints (xs : List Int) : SeqAt.shaped (.list (xs.map PyData.int)) = true := by
  simp [SeqAt.shaped, PyData.canLay0, lay_ints, PyData.depth, depth_ints]
/-! ### walks over a list that stays -/
theorem nth_len {α : Type} : ∀ {xs : List α} {i : Nat}, i < xs.length → ∃ x, nth xs i = some x ∧ x ∈ xs
  | [], _, h => by simp at h
  | x :: xs, 0, _ => ⟨x, rfl, List.mem_cons_self⟩
  | x :: xs, i + 1, h => by
    obtain ⟨y, e, m⟩ := nth_len (xs := xs) (i := i) (by simpa using h)
    exact ⟨y, e, List.mem_cons_of_mem _ m⟩
theorem nth_ge {α : Type} : ∀ {xs : List α} {i : Nat}, xs.length ≤ i → nth xs i = none
  | [], _, _ => rfl
  | x :: xs, 0, h => by simp at h
  | x :: xs, i + 1, h => nth_ge (xs := xs) (i := i) (by simpa using h)
theorem itemAt_dyn {h : LHeap} {l i : Nat} {xs : List Val} (e : itemsL h (.ref l) = some xs) : itemAt (.dyn l) i h = some (nth xs i) := by
  unfold itemAt
  dsimp only
  rw [e]
theorem loopDyn_keep {f : Val → LSt → LHeap → RS} {l : Nat} {h : LHeap} {xs : List Val} (hx : itemsL h (.ref l) = some xs) (P : LSt → Prop) (step : ∀ x s, x ∈ xs → P s → ∃ s', f x s h = .ok (.nx s') h ∧ P s') :
    ∀ (m i : Nat) (s : LSt), xs.length - i < m → P s → ∃ s', loopDyn f (.dyn l) m i s h = .ok (.nx s') h ∧ P s'
  | 0, i, s, hm, p => absurd hm (Nat.not_lt_zero _)
  | m + 1, i, s, hm, p => by
    unfold loopDyn
    rw [itemAt_dyn hx]
    by_cases hi : i < xs.length
    · obtain ⟨x, e, hm'⟩ := nth_len hi
      rw [e]
      obtain ⟨s', e', p'⟩ := step x s hm' p
      dsimp only
      rw [e', turn_nx]
      exact loopDyn_keep hx P step m (i + 1) s' (by omega) p'
    · rw [nth_ge (Nat.le_of_not_lt hi)]
      exact ⟨s, rfl, p⟩
theorem compDyn_keep {f : Val → LHeap → Res (Option Val)} {l : Nat} {h : LHeap} {xs : List Val} (hx : itemsL h (.ref l) = some xs) (Q : Val → Prop) (step : ∀ x, x ∈ xs → ∃ o, f x h = .ok o h ∧ ∀ y, o = some y → Q y) :
    ∀ (m i : Nat), xs.length - i < m → ∃ ys, compDyn f (.dyn l) m i h = .ok ys h ∧ ys.length ≤ xs.length - i ∧ ∀ y ∈ ys, Q y
  | 0, i, hm => absurd hm (Nat.not_lt_zero _)
  | m + 1, i, hm => by
    unfold compDyn
    rw [itemAt_dyn hx]
    by_cases hi : i < xs.length
    · obtain ⟨x, e, hm'⟩ := nth_len hi
      rw [e]
      obtain ⟨o, e', q⟩ := step x hm'
      obtain ⟨ys, e2, l2, q2⟩ := compDyn_keep hx Q step m (i + 1) (by omega)
      dsimp only
      rw [e', bind_okE, e2, bind_okE]
      cases o with
      | none => exact ⟨ys, rfl, by omega, q2⟩
      | some y =>
        refine ⟨y :: ys, rfl, by rw [List.length_cons]; omega, fun z hz => ?_⟩
        rcases List.mem_cons.mp hz with e | e
        · rw [e]; exact q y rfl
        · exact q2 z e
    · rw [nth_ge (Nat.le_of_not_lt hi)]
      exact ⟨[], rfl, Nat.zero_le _, fun _ h => by cases h⟩
theorem ints_of : ∀ {ys : List Val}, (∀ y ∈ ys, ∃ i, y = Val.int i) → ∃ is : List Int, ys = is.map Val.int
  | [], _ => ⟨[], rfl⟩
  | y :: ys, h => by
    obtain ⟨i, e⟩ := h y List.mem_cons_self
    obtain ⟨is, e2⟩ := ints_of (ys := ys) fun z hz => h z (List.mem_cons_of_mem _ hz)
    exact ⟨i :: is, by rw [e, e2]; rfl⟩
end Ev

set_option Elab.async false
set_option linter.all false
set_option maxRecDepth 100000
set_option maxHeartbeats 1000000
/-! The laws' own draws: _law_begun, _law_draw. -/
namespace Ev
open PySem
abbrev kGreat : Str := ⟨⟨[103, 114, 101, 97, 116]⟩⟩
abbrev kSeed : Str := ⟨⟨[115, 101, 101, 100]⟩⟩
abbrev kTurns : Str := ⟨⟨[116, 117, 114, 110, 115]⟩⟩
def fBegun : Fn := ⟨1, 3, [(.set 1 (.lit (.int 11))), (.loop (.name 2) (.val (.var 0)) [(.set 1 (.bin .mod (.bi .int [(.bin .add (.bin .add (.bin .mul (.var 1) (.lit (.int 69621))) (.bin .mod (.bi .int [(.var 2)]) (.lit (.int 2147483629)))) (.lit (.int 7)))]) (.lit (.int 2147483647))))]), (.ret (.dsp [(kGreat, (.comp [2] (.name 2) (.val (.var 0)) (some (.cmp .ge (.var 2) (.bin .pow (.lit (.int 10)) (.lit (.int 18))))) (.var 2))), (kSeed, (.var 1)), (kTurns, (.lit (.int 0)))]))]⟩
def gE : E := .sub (.var 0) (.lit (.str kGreat))
def tE : E := .sub (.var 0) (.lit (.str kTurns))
def condE : E := .and (.cmp .ne gE (.lst [])) (.cmp .eq (.sub gE (.lit (.int 0))) (.lit (.int 0)))
def bodyE : List S := [.put (.var 0) (.lit (.str kGreat)) (.slc gE (some (.lit (.int 1))) none)]
def fDraw : Fn := ⟨2, 4, [(.whl condE bodyE), (.ife (.cmp .ne gE (.lst [])) [(.set 3 (.sub gE (.lit (.int 0)))), (.put (.var 0) (.lit (.str kGreat)) (.bin .add (.lst [(.bin .fdiv (.var 3) (.var 1))]) (.slc gE (some (.lit (.int 1))) none))), (.ret (.bin .mod (.bi .int [(.var 3)]) (.var 1)))] []),
  (.put (.var 0) (.lit (.str kTurns)) (.bin .add tE (.lit (.int 1)))), (.set 2 (.bin .mod (.bi .int [(.bin .add (.bin .add (.bin .mul (.sub (.var 0) (.lit (.str kSeed))) (.lit (.int 48271))) (.bin .mul (.bin .mul tE tE) (.lit (.int 16807)))) tE)]) (.lit (.int 2147483647)))),
  (.set 2 (.bin .mod (.bi .int [(.bin .add (.bin .mul (.var 2) (.lit (.int 69621))) (.lit (.int 12345)))]) (.lit (.int 2147483629)))), (.ret (.bin .mod (.bin .fdiv (.bin .mod (.bi .int [(.bin .add (.bin .mul (.var 2) (.lit (.int 40014))) tE)]) (.lit (.int 2147483563))) (.lit (.int 64))) (.var 1)))]⟩
/-- the dict of the draws -/
abbrev mD (g : Nat) (sd t : Int) : LObj := .dK [(.inr kGreat, .ref g), (.inr kSeed, .int sd), (.inr kTurns, .int t)]
structure Mat (h : LHeap) (l g : Nat) (xs : List Int) (sd t : Int) : Prop where
  d : h.get l = some (mD g sd t)
  g : h.get g = some (.lst (xs.map Val.int))
/-- what the draws lean on: at most T draws so far -/
def Mst (h : LHeap) (l T : Nat) : Prop := ∃ g xs sd t, Mat h l g xs sd t ∧ xs.length ≤ 63 ∧ 0 ≤ t ∧ t ≤ T
/-- what draws leave as it was -/
structure Kp (l : Nat) (h h' : LHeap) : Prop where
  n : h.n ≤ h'.n
  o : ∀ a, a < h.n → a ≠ l → h'.get a = h.get a
theorem Kp.refl (l : Nat) (h : LHeap) : Kp l h h := ⟨Nat.le_refl _, fun _ _ _ => rfl⟩
theorem Kp.trans {l : Nat} {h h' h'' : LHeap} (a : Kp l h h') (b : Kp l h' h'') : Kp l h h'' := ⟨Nat.le_trans a.n b.n, fun x hx ne => (b.o x (Nat.lt_of_lt_of_le hx a.n) ne).trans (a.o x hx ne)⟩
theorem Kp.push (l : Nat) (h : LHeap) (o : LObj) : Kp l h (h.push o) := ⟨by rw [push_n]; omega, fun a ha _ => get_push_old ha⟩
theorem Kp.put {l : Nat} {h : LHeap} (o : LObj) (hl : l < h.n) : Kp l h (h.put l o) := ⟨Nat.le_refl _, fun a _ ne => get_put_ne hl ne⟩
section
variable {cl : Cl} {C : Nat → List Val → LHeap → Res Val} {n : Nat} {s : LSt} {h : LHeap} {l g : Nat} {xs : List Int} {sd t : Int}
theorem Mat.push (m : Mat h l g xs sd t) (o : LObj) : Mat (h.push o) l g xs sd t := ⟨get_push_some m.d, get_push_some m.g⟩
theorem Mat.sub_g (m : Mat h l g xs sd t) : subVal h (.ref l) (.str kGreat) = some (.ref g) := (sub_dK m.d rfl).trans rfl
theorem Mat.sub_s (m : Mat h l g xs sd t) : subVal h (.ref l) (.str kSeed) = some (.int sd) := (sub_dK m.d rfl).trans rfl
theorem Mat.sub_t (m : Mat h l g xs sd t) : subVal h (.ref l) (.str kTurns) = some (.int t) := (sub_dK m.d rfl).trans rfl
theorem gE_ok (m : Mat h l g xs sd t) (hs : getV s 0 = some (.ref l)) : (rec cl C (n + 2)).e gE s h = .ok (.ref g) h := by
  unfold gE
  rw [e_sub, e_var, hs, optR_some, bind_okE, e_lit, bind_okE, m.sub_g, optR_some]
theorem tE_ok (m : Mat h l g xs sd t) (hs : getV s 0 = some (.ref l)) : (rec cl C (n + 2)).e tE s h = .ok (.int t) h := by
  unfold tE
  rw [e_sub, e_var, hs, optR_some, bind_okE, e_lit, bind_okE, m.sub_t, optR_some]
theorem gNe_ok (m : Mat h l g xs sd t) (hs : getV s 0 = some (.ref l)) : (rec cl C (n + 3)).e (.cmp .ne gE (.lst [])) s h = .ok (.bl (!xs.isEmpty)) (h.push (.lst [])) := by
  rw [e_cmp, gE_ok m hs, bind_okE, e_lst, evs_nilE, bind_okE]
  show (Res.ok (Val.ref h.n) (h.push (.lst []))).bind _ = _
  rw [bind_okE]
  have e : cmpOp .ne (.ref g) (.ref h.n) (h.push (.lst [])) = some (!xs.isEmpty) := by
    show optNot (eqD (h.push (.lst [])) (.ref g) (.ref h.n)) = _
    have e1 : toD 66 (h.push (.lst [])) (.ref g) = some (.list (xs.map PyData.int)) := by
      show (match (h.push (.lst [])).get g with
        | some (.lst xs) => (match mapOpt (toD 65 (h.push (.lst []))) xs with
          | some ds => some (PyData.list ds)
          | none => none)
        | some (.frz xs) => (match mapOpt (toD 65 (h.push (.lst []))) xs with
          | some ds => some (PyData.list ds)
          | none => none)
        | _ => none) = _
      rw [get_push_some m.g]
      dsimp only
      rw [toD_ints]
    have e2 : toD 66 (h.push (.lst [])) (.ref h.n) = some (.list []) := by
      show (match (h.push (.lst [])).get h.n with
        | some (.lst xs) => (match mapOpt (toD 65 (h.push (.lst []))) xs with
          | some ds => some (PyData.list ds)
          | none => none)
        | some (.frz xs) => (match mapOpt (toD 65 (h.push (.lst []))) xs with
          | some ds => some (PyData.list ds)
          | none => none)
        | _ => none) = _
      rw [get_push_same]
      rfl
    unfold eqD
    rw [e1, e2]
    dsimp only
    rw [shaped_ints, show SeqAt.shaped (.list []) = true by decide]
    cases xs <;> rfl
  rw [e, optR_some, bind_okE]
theorem g0_ok {x : Int} (m : Mat h l g (x :: xs) sd t) (hs : getV s 0 = some (.ref l)) : (rec cl C (n + 3)).e (.sub gE (.lit (.int 0))) s h = .ok (.int x) h := by
  rw [e_sub, gE_ok m hs, bind_okE, e_lit, bind_okE]
  have e : subVal h (.ref g) (.int 0) = some (.int x) := by
    rw [sub_lst m.g]
    have e : ix (Val.int x :: xs.map Val.int).length 0 = some 0 := by
      unfold ix
      rw [show decide ((0 : Int) ≤ 0) = true from rfl]
      dsimp only
      rw [decide_eq_true (by rw [List.length_cons]; omega)]
      rfl
    rw [show (x :: xs).map Val.int = Val.int x :: xs.map Val.int from rfl, e]
    rfl
  rw [e, optR_some]
theorem gTl_ok {x : Int} (m : Mat h l g (x :: xs) sd t) (hs : getV s 0 = some (.ref l)) : (rec cl C (n + 3)).e (.slc gE (some (.lit (.int 1))) none) s h = .ok (.ref h.n) (h.push (.lst (xs.map Val.int))) := by
  rw [e_slc, gE_ok m hs, bind_okE, evOpt_some, e_lit, bind_okE, bind_okE, evOpt_none, bind_okE]
  rw [slice_lst m.g]
  show alloc (.lst (cut (Val.int x :: xs.map Val.int) (some 1) none)) h = _
  have e : cut (Val.int x :: xs.map Val.int) (some 1) none = xs.map Val.int := by
    unfold cut bnd
    simp
    exact List.take_of_length_le (by simp)
  rw [e]
  rfl
theorem put_great {v : Nat} (m : Mat h l g xs sd t) : putKV (.inr kGreat) (.ref v) [(.inr kGreat, .ref g), (.inr kSeed, .int sd), (.inr kTurns, .int t)] = [(.inr kGreat, .ref v), (.inr kSeed, .int sd), (.inr kTurns, .int t)] := rfl
theorem put_turns {v : Int} : putKV (.inr kTurns) (.int v) [(.inr kGreat, .ref g), (.inr kSeed, .int sd), (.inr kTurns, .int t)] = [(.inr kGreat, .ref g), (.inr kSeed, .int sd), (.inr kTurns, .int v)] := rfl
/-- d["great"] = e, e a new list at v -/
theorem setg_ok {e : E} {v : Nat} {h1 : LHeap} (m : Mat h1 l g xs sd t) (hs : getV s 0 = some (.ref l)) (he : (rec cl C (n + 1)).e e s h = .ok (.ref v) h1) : (rec cl C (n + 2)).s (.put (.var 0) (.lit (.str kGreat)) e) s h = .ok (.nx s) (h1.put l (mD v sd t)) := by
  rw [s_put, he, inS_okE, e_var, hs, optR_some, inS_okE, e_lit, inS_okE]
  dsimp only
  rw [m.d]
  rfl
theorem sett_ok {e : E} {v : Int} {h1 : LHeap} (m : Mat h1 l g xs sd t) (hs : getV s 0 = some (.ref l)) (he : (rec cl C (n + 1)).e e s h = .ok (.int v) h1) : (rec cl C (n + 2)).s (.put (.var 0) (.lit (.str kTurns)) e) s h = .ok (.nx s) (h1.put l (mD g sd v)) := by
  rw [s_put, he, inS_okE, e_var, hs, optR_some, inS_okE, e_lit, inS_okE]
  dsimp only
  rw [m.d]
  rfl
/-- noughts ahead are dropped -/
theorem drop_ok (hs : getV s 0 = some (.ref l)) : ∀ (xs : List Int) (g n : Nat) (h : LHeap), xs.length ≤ n → Mat h l g xs sd t → ∃ g' xs' h', (rec cl C (n + 8)).w condE bodyE s h = .ok (.nx s) h' ∧ Mat h' l g' xs' sd t ∧ xs'.length ≤ xs.length ∧ Kp l h h'
  | [], g, n, h, hn, m => by
    refine ⟨g, [], h.push (.lst []), ?_, m.push _, Nat.le_refl _, Kp.push l h _⟩
    rw [w_step]
    unfold condE
    rw [t_and, t_cmp, gNe_ok m hs]
    rfl
  | x :: xs, g, n, h, hn, m => by
    have m1 := m.push (.lst [])
    by_cases hx : x = 0
    · have m2 : Mat ((h.push (.lst [])).push (.lst (xs.map Val.int))) l g (x :: xs) sd t := m1.push _
      have hl : l < ((h.push (.lst [])).push (.lst (xs.map Val.int))).n := LHeap.get_lt m2.d
      have ne : l ≠ (h.push (.lst [])).n := by have := LHeap.get_lt m1.d; omega
      have m3 : Mat (((h.push (.lst [])).push (.lst (xs.map Val.int))).put l (mD (h.push (.lst [])).n sd t)) l (h.push (.lst [])).n xs sd t := ⟨get_put_same hl, by rw [get_put_ne hl (Ne.symm ne)]; exact get_push_same⟩
      have hn' : xs.length + 1 ≤ n := hn
      obtain ⟨g', xs', h', e, m4, l4, k4⟩ := drop_ok hs xs _ (n - 1) _ (by omega) m3
      refine ⟨g', xs', h', ?_, m4, by rw [List.length_cons]; omega, ((Kp.push l h _).trans (Kp.push l _ _)).trans ((Kp.put _ hl).trans k4)⟩
      have en : n + 8 = (n - 1 + 8) + 1 := by omega
      rw [en, w_step]
      unfold condE
      rw [t_and, t_cmp, gNe_ok m hs]
      show ((rec cl C (n - 1 + 7)).t (.cmp .eq (.sub gE (.lit (.int 0))) (.lit (.int 0))) s (h.push (.lst []))).inS s _ = _
      rw [t_cmp, e_cmp, g0_ok m1 hs, bind_okE, e_lit, bind_okE, hx]
      show turn (execs (rec cl C (n - 1 + 8)) bodyE s (h.push (.lst []))) ((rec cl C (n - 1 + 8)).w condE bodyE) = _
      unfold bodyE
      rw [execs_cons, setg_ok m2 hs (gTl_ok m1 hs), next_nx, execs_nil, turn_nx]
      exact e
    · refine ⟨g, x :: xs, h.push (.lst []), ?_, m1, Nat.le_refl _, Kp.push l h _⟩
      rw [w_step]
      unfold condE
      rw [t_and, t_cmp, gNe_ok m hs]
      show ((rec cl C (n + 6)).t (.cmp .eq (.sub gE (.lit (.int 0))) (.lit (.int 0))) s (h.push (.lst []))).inS s _ = _
      rw [t_cmp, e_cmp, g0_ok m1 hs, bind_okE, e_lit, bind_okE]
      have e : cmpOp .eq (.int x) (.int 0) (h.push (.lst [])) = some false := by
        show some (decide (x = 0)) = _
        rw [decide_eq_false hx]
      rw [e]
      rfl
end
theorem fuel_eq : ∃ n, fuel = n + 200 := ⟨99800, rfl⟩
theorem small_lt {i : Int} (a : 0 ≤ i) (b : i < 18446744073709551616) : small i = true := by
  unfold small
  rw [decide_eq_true (by omega), decide_eq_true (by omega)]
  rfl
theorem draw_ok {cl : Cl} {C : Nat → List Val → LHeap → Res Val} {h : LHeap} {l T : Nat} {lim : Int} (M : Mst h l T) (h0 : 0 < lim) (h1 : lim < 1073741824) (hT : T < 1152921504606846976) :
    ∃ d h', runFn cl C fDraw [.ref l, .int lim] h = .ok (.int d) h' ∧ 0 ≤ d ∧ d < lim ∧ Mst h' l (T + 1) ∧ Kp l h h' := by
  obtain ⟨g, xs, sd, t, m, hl, t0, t1⟩ := M
  obtain ⟨n, hn⟩ := fuel_eq
  have key : ∃ d h', execs (rec cl C fuel) fDraw.body [some (.ref l), some (.int lim), none, none] h = .ok (.rt (.int d)) h' ∧ 0 ≤ d ∧ d < lim ∧ Mst h' l (T + 1) ∧ Kp l h h' := by
    rw [hn]
    have hs : getV [some (.ref l), some (.int lim), none, none] 0 = some (.ref l) := rfl
    obtain ⟨g', xs', h', e, m', l', k'⟩ := drop_ok (cl := cl) (C := C) hs xs g (n + 191) h (by omega) m
    show ∃ d h', execs (rec cl C (n + 200)) ((.whl condE bodyE) :: _) _ h = _ ∧ _
    rw [execs_cons, s_whl, e, next_nx, execs_cons, s_ife, t_cmp, gNe_ok m' hs]
    cases xs' with
    | nil =>
      show ∃ d h'', (execs (rec cl C (n + 199)) [] _ (h'.push (.lst []))).next _ = _ ∧ _
      rw [execs_nil, next_nx, execs_cons]
      have m2 := m'.push (.lst [])
      have hl2 : l < (h'.push (.lst [])).n := LHeap.get_lt m2.d
      have ne : g' ≠ l := fun z => by
        have := m2.g
        rw [z, m2.d] at this
        cases this
      have m3 : Mat ((h'.push (.lst [])).put l (mD g' sd (t + 1))) l g' [] sd (t + 1) := ⟨get_put_same hl2, by rw [get_put_ne hl2 ne]; exact m2.g⟩
      have ea : (rec cl C (n + 199)).e (.bin .add tE (.lit (.int 1))) [some (.ref l), some (.int lim), none, none] (h'.push (.lst [])) = .ok (.int (t + 1)) (h'.push (.lst [])) := by
        rw [e_bin, tE_ok m2 hs, bind_okE, e_lit, bind_okE]
        rfl
      rw [sett_ok m2 hs ea, next_nx]
      refine ⟨((((((sd * 48271 + (t + 1) * (t + 1) * 16807 + (t + 1)) % 2147483647 * 69621 + 12345) % 2147483629 * 40014 + (t + 1)) % 2147483563) / 64) % lim), (h'.push (.lst [])).put l (mD g' sd (t + 1)), ?_, ?_, ?_, ⟨g', [], sd, t + 1, m3, Nat.zero_le _, by omega, by omega⟩, k'.trans ((Kp.push l _ _).trans (Kp.put _ hl2))⟩
      rotate_left 1
      · exact Int.emod_nonneg _ (by omega)
      · exact Int.emod_lt_of_pos _ h0
      · have sm : small (t + 1) = true := small_lt (by omega) (by omega)
        have hs1 : ∀ v, getV [some (.ref l), some (.int lim), some v, none] 0 = some (.ref l) := fun _ => rfl
        have es : ∀ (k : Nat) (s : LSt), getV s 0 = some (.ref l) → (rec cl C (k + 2)).e (.sub (.var 0) (.lit (.str kSeed))) s ((h'.push (.lst [])).put l (mD g' sd (t + 1))) = .ok (.int sd) ((h'.push (.lst [])).put l (mD g' sd (t + 1))) := fun k s q => by
          rw [e_sub, e_var, q, optR_some, bind_okE, e_lit, bind_okE, m3.sub_s, optR_some]
        generalize hH : (h'.push (.lst [])).put l (mD g' sd (t + 1)) = H at *
        have b1 : binOp .mul (.int sd) (.int 48271) H = .ok (.int (sd * 48271)) H := by
          show (match small sd || small 48271 with
            | true => Res.ok (Val.int (sd * 48271)) H
            | false => .bad) = _
          rw [show small 48271 = true from rfl, Bool.or_true]
        have b2 : binOp .mul (.int (t + 1)) (.int (t + 1)) H = .ok (.int ((t + 1) * (t + 1))) H := by
          show (match small (t + 1) || small (t + 1) with
            | true => Res.ok (Val.int ((t + 1) * (t + 1))) H
            | false => .bad) = _
          rw [sm]; rfl
        have b3 : ∀ (x c : Int), small c = true → binOp .mul (.int x) (.int c) H = .ok (.int (x * c)) H := fun x c hc => by
          show (match small x || small c with
            | true => Res.ok (Val.int (x * c)) H
            | false => .bad) = _
          rw [hc, Bool.or_true]
        have b4 : ∀ (x y : Int), binOp .add (.int x) (.int y) H = .ok (.int (x + y)) H := fun _ _ => rfl
        have b5 : ∀ (x y : Int), 0 < y → binOp .mod (.int x) (.int y) H = .ok (.int (x % y)) H := fun x y q => by
          show (match decide (0 < y) with
            | true => Res.ok (Val.int (x % y)) H
            | false => .bad) = _
          rw [decide_eq_true q]
        have b6 : ∀ (x : Int), binOp .fdiv (.int x) (.int 64) H = .ok (.int (x / 64)) H := fun _ => rfl
        have b7 : ∀ (x : Int), biCall .int [.int x] H = .ok (.int x) H := fun _ => rfl
        simp only [execs_cons, s_set, s_ret, execs_nil, e_bin, e_bi, evs_consE, evs_nilE, es _ _ hs, tE_ok m3 hs, e_lit, bind_okE, b1, b2, b3 _ 16807 rfl, b4, b7, b5 _ 2147483647 (by decide), inS_okE, next_nx, setV]
        simp only [execs_cons, s_set, s_ret, execs_nil, e_bin, e_bi, evs_consE, evs_nilE, e_var, getV, optR_some, e_lit, bind_okE, b3 _ 69621 rfl, b4, b7, b5 _ 2147483629 (by decide), inS_okE, next_nx, setV]
        simp only [execs_cons, s_set, s_ret, execs_nil, e_bin, e_bi, evs_consE, evs_nilE, e_var, getV, optR_some, e_lit, bind_okE, tE_ok m3 (hs1 _), b3 _ 40014 rfl, b4, b7, b5 _ 2147483563 (by decide), b6, b5 _ lim h0, inS_okE, next_rt, setV]
    | cons x xs' =>
      show ∃ d h'', (execs (rec cl C (n + 199)) _ _ (h'.push (.lst []))).next _ = _ ∧ _
      have m2 := m'.push (.lst [])
      refine ⟨x % lim, ((((h'.push (.lst [])).push (.lst [.int (x / lim)])).push (.lst (xs'.map Val.int))).push (.lst ((x / lim :: xs').map Val.int))).put l (mD (((h'.push (.lst [])).push (.lst [.int (x / lim)])).push (.lst (xs'.map Val.int))).n sd t), ?_, Int.emod_nonneg _ (by omega), Int.emod_lt_of_pos _ h0, ?_, ?_⟩
      · rw [execs_cons, s_set, g0_ok m2 hs, inS_okE, next_nx, execs_cons]
        have hs2 : getV (setV [some (.ref l), some (.int lim), none, none] 3 (.int x)) 0 = some (.ref l) := rfl
        have m3 := m2.push (.lst [.int (x / lim)])
        have ea : (rec cl C (n + 198)).e (.bin .add (.lst [(.bin .fdiv (.var 3) (.var 1))]) (.slc gE (some (.lit (.int 1))) none)) (setV [some (.ref l), some (.int lim), none, none] 3 (.int x)) (h'.push (.lst [])) =
            .ok (.ref (((h'.push (.lst [])).push (.lst [.int (x / lim)])).push (.lst (xs'.map Val.int))).n) ((((h'.push (.lst [])).push (.lst [.int (x / lim)])).push (.lst (xs'.map Val.int))).push (.lst ((x / lim :: xs').map Val.int))) := by
          have b : binOp .fdiv (.int x) (.int lim) (h'.push (.lst [])) = .ok (.int (x / lim)) (h'.push (.lst [])) := by
            show (match decide (0 < lim) && decide (lim < 1073741824) with
              | true => Res.ok (Val.int (x / lim)) (h'.push (.lst []))
              | false => .bad) = _
            rw [decide_eq_true h0, decide_eq_true h1]; rfl
          rw [e_bin, e_lst, evs_consE, e_bin, e_var, show getV (setV [some (.ref l), some (.int lim), none, none] 3 (.int x)) 3 = some (.int x) from rfl, optR_some, bind_okE, e_var, show getV (setV [some (.ref l), some (.int lim), none, none] 3 (.int x)) 1 = some (.int lim) from rfl, optR_some, bind_okE]
          rw [b, bind_okE, evs_nilE, bind_okE, bind_okE]
          show (Res.ok (Val.ref (h'.push (.lst [])).n) ((h'.push (.lst [])).push (.lst [.int (x / lim)]))).bind _ = _
          rw [bind_okE, gTl_ok m3 hs2, bind_okE]
          rw [add_lst (get_push_some (get_push_same)) get_push_same (by
            rw [List.length_map, List.length_singleton]
            rw [List.length_cons] at l'
            omega)]
          rfl
        have m5 : Mat ((((h'.push (.lst [])).push (.lst [.int (x / lim)])).push (.lst (xs'.map Val.int))).push (.lst ((x / lim :: xs').map Val.int))) l g' (x :: xs') sd t := (m3.push _).push _
        rw [setg_ok m5 hs2 ea, next_nx]
        generalize (((((h'.push (.lst [])).push (.lst [.int (x / lim)])).push (.lst (xs'.map Val.int))).push (.lst ((x / lim :: xs').map Val.int))).put l (mD (((h'.push (.lst [])).push (.lst [.int (x / lim)])).push (.lst (xs'.map Val.int))).n sd t)) = H
        have b : binOp .mod (.int x) (.int lim) H = .ok (.int (x % lim)) H := by
          show (match decide (0 < lim) with
            | true => Res.ok (Val.int (x % lim)) H
            | false => .bad) = _
          rw [decide_eq_true h0]
        have b7 : biCall .int [.int x] H = .ok (.int x) H := rfl
        simp only [execs_cons, execs_nil, s_ret, e_bin, e_bi, evs_consE, evs_nilE, e_var, getV, setV, optR_some, bind_okE, b7, b, inS_okE, next_rt]
      · have m5 : Mat ((((h'.push (.lst [])).push (.lst [.int (x / lim)])).push (.lst (xs'.map Val.int))).push (.lst ((x / lim :: xs').map Val.int))) l g' (x :: xs') sd t := ((m2.push _).push _).push _
        have hl5 := LHeap.get_lt m5.d
        have ne : l ≠ (((h'.push (.lst [])).push (.lst [.int (x / lim)])).push (.lst (xs'.map Val.int))).n := by
          have := LHeap.get_lt ((m2.push (.lst [.int (x / lim)])).push (.lst (xs'.map Val.int))).d
          omega
        refine ⟨_, x / lim :: xs', sd, t, ⟨get_put_same hl5, by rw [get_put_ne hl5 (Ne.symm ne)]; exact get_push_same⟩, ?_, t0, by omega⟩
        rw [List.length_cons] at l' ⊢
        omega
      · have m5 : Mat ((((h'.push (.lst [])).push (.lst [.int (x / lim)])).push (.lst (xs'.map Val.int))).push (.lst ((x / lim :: xs').map Val.int))) l g' (x :: xs') sd t := ((m2.push _).push _).push _
        exact k'.trans ((((Kp.push l _ _).trans (Kp.push l _ _)).trans ((Kp.push l _ _).trans (Kp.push l _ _))).trans (Kp.put _ (LHeap.get_lt m5.d)))
  obtain ⟨d, h', e, r⟩ := key
  refine ⟨d, h', ?_, r⟩
  show (match execs (rec cl C fuel) fDraw.body [some (.ref l), some (.int lim), none, none] h with
    | .ok (.nx _) h1 => Res.ok Val.non h1
    | .ok (.rt v) h1 => .ok v h1
    | .ok _ _ => .bad
    | .exc c fs _ h1 => .exc c fs h1
    | .bad => .bad) = _
  rw [e]
theorem heap0_items (ns : List Int) : itemsL (heap0 ns) (.ref 0) = some (ns.map Val.int) := by
  unfold itemsL
  dsimp only
  rw [heap0_get, if_pos rfl]
theorem begun_ok {cl : Cl} {C : Nat → List Val → LHeap → Res Val} {ns : List Int} (hl : ns.length ≤ 63) : ∃ h', runFn cl C fBegun [.ref 0] (heap0 ns) = .ok (.ref 2) h' ∧ Mst h' 2 0 ∧ Kp 2 (heap0 ns) h' := by
  obtain ⟨n, hn⟩ := fuel_eq
  have hsrc : srcOf (heap0 ns) (.ref 0) = some (.dyn 0) := by
    unfold srcOf
    dsimp only
    rw [heap0_get, if_pos rfl]
  have b3 : ∀ (x c : Int) (H : LHeap), small c = true → binOp .mul (.int x) (.int c) H = .ok (.int (x * c)) H := fun x c H hc => by
    show (match small x || small c with
      | true => Res.ok (Val.int (x * c)) H
      | false => .bad) = _
    rw [hc, Bool.or_true]
  have b4 : ∀ (x y : Int) (H : LHeap), binOp .add (.int x) (.int y) H = .ok (.int (x + y)) H := fun _ _ _ => rfl
  have b5 : ∀ (x y : Int) (H : LHeap), 0 < y → binOp .mod (.int x) (.int y) H = .ok (.int (x % y)) H := fun x y H q => by
    show (match decide (0 < y) with
      | true => Res.ok (Val.int (x % y)) H
      | false => .bad) = _
    rw [decide_eq_true q]
  have b7 : ∀ (x : Int) (H : LHeap), biCall .int [.int x] H = .ok (.int x) H := fun _ _ => rfl
  have b8 : ∀ H : LHeap, binOp .pow (.int 10) (.int 18) H = .ok (.int 1000000000000000000) H := fun _ => rfl
  have key : ∃ h', execs (rec cl C fuel) fBegun.body [some (.ref 0), none, none] (heap0 ns) = .ok (.rt (.ref 2)) h' ∧ Mst h' 2 0 ∧ Kp 2 (heap0 ns) h' := by
    rw [hn]
    show ∃ h', execs (rec cl C (n + 200)) ((.set 1 (.lit (.int 11))) :: _) _ _ = _ ∧ _
    rw [execs_cons, s_set, e_lit, inS_okE, next_nx, execs_cons, s_loop, evIt_val, e_var, show getV (setV [some (Val.ref 0), none, none] 1 (.int 11)) 0 = some (.ref 0) from rfl, optR_some, bind_okE, hsrc, optR_some, inS_okE, loopAll_dyn]
    obtain ⟨s', e, sd, u, rfl⟩ := loopDyn_keep (f := loopOne (rec cl C (n + 199)) (.name 2) [(.set 1 (.bin .mod (.bi .int [(.bin .add (.bin .add (.bin .mul (.var 1) (.lit (.int 69621))) (.bin .mod (.bi .int [(.var 2)]) (.lit (.int 2147483629)))) (.lit (.int 7)))]) (.lit (.int 2147483647))))]) (heap0_items ns) (fun s => ∃ sd u, s = [some (.ref 0), some (.int sd), u]) (fun x s hx p => by
      obtain ⟨sd, u, rfl⟩ := p
      obtain ⟨i, _, rfl⟩ := List.mem_map.mp hx
      refine ⟨[some (.ref 0), some (.int ((sd * 69621 + i % 2147483629 + 7) % 2147483647)), some (.int i)], ?_, _, _, rfl⟩
      show execs (rec cl C (n + 199)) _ [some (.ref 0), some (.int sd), some (.int i)] _ = _
      simp only [execs_cons, execs_nil, s_set, e_bin, e_bi, evs_consE, evs_nilE, e_var, getV, setV, optR_some, e_lit, bind_okE, b3 _ 69621 _ rfl, b4, b7, b5 _ 2147483629 _ (by decide), b5 _ 2147483647 _ (by decide), inS_okE, next_nx]) 100000 0 [some (.ref 0), some (.int 11), none] (by rw [List.length_map]; omega) ⟨_, _, rfl⟩
    rw [show setV [some (Val.ref 0), none, none] 1 (.int 11) = [some (.ref 0), some (.int 11), none] from rfl, e, next_nx, execs_cons, s_ret, e_dsp, evKVs_consE]
    obtain ⟨ys, e2, l2, q2⟩ := compDyn_keep (f := compOne (rec cl C (n + 197)) [2] (.name 2) (some (.cmp .ge (.var 2) (.bin .pow (.lit (.int 10)) (.lit (.int 18))))) (.var 2) [some (.ref 0), some (.int sd), u]) (heap0_items ns) (fun y => ∃ i, y = Val.int i) (fun x hx => by
      obtain ⟨i, _, rfl⟩ := List.mem_map.mp hx
      show ∃ o, ((rec cl C (n + 197)).t (.cmp .ge (.var 2) (.bin .pow (.lit (.int 10)) (.lit (.int 18)))) [some (.ref 0), some (.int sd), some (.int i)] (heap0 ns)).bind (fun b h1 => match b with
        | true => ((rec cl C (n + 197)).e (.var 2) [some (.ref 0), some (.int sd), some (.int i)] h1).bind fun y h2 => .ok (some y) h2
        | false => .ok none h1) = .ok o (heap0 ns) ∧ _
      simp only [t_cmp, e_cmp, e_bin, e_var, e_lit, getV, optR_some, bind_okE, b8]
      show ∃ o, (match decide ((1000000000000000000 : Int) ≤ i) with
        | true => Res.ok (some (Val.int i)) (heap0 ns)
        | false => .ok none (heap0 ns)) = _ ∧ _
      cases decide ((1000000000000000000 : Int) ≤ i) with
      | true => exact ⟨some (.int i), rfl, fun y q => ⟨i, (Option.some.inj q).symm⟩⟩
      | false => exact ⟨none, rfl, fun y q => by cases q⟩) 100000 0 (by rw [List.length_map]; omega)
    obtain ⟨is, rfl⟩ := ints_of q2
    rw [List.length_map, List.length_map] at l2
    have ec : (rec cl C (n + 198)).e (.comp [2] (.name 2) (.val (.var 0)) (some (.cmp .ge (.var 2) (.bin .pow (.lit (.int 10)) (.lit (.int 18))))) (.var 2)) [some (.ref 0), some (.int sd), u] (heap0 ns) = .ok (.ref 1) ((heap0 ns).push (.lst (is.map Val.int))) := by
      rw [e_comp, evComp_eq, evIt_val, e_var, show getV [some (Val.ref 0), some (.int sd), u] 0 = some (.ref 0) from rfl, optR_some, bind_okE, hsrc, optR_some, bind_okE, compAll_dyn]
      rw [show compDyn (compOne (rec cl C (n + 197)) [2] (.name 2) (some (.cmp .ge (.var 2) (.bin .pow (.lit (.int 10)) (.lit (.int 18))))) (.var 2) [some (.ref 0), some (.int sd), u]) (.dyn 0) 100000 0 (heap0 ns) = .ok (is.map Val.int) (heap0 ns) from ?_]
      · show (Res.ok (is.map Val.int) (heap0 ns)).bind _ = _
        rw [bind_okE, show Nat.ble (is.map Val.int).length line = true from Nat.ble_eq_true_of_le (by rw [List.length_map]; show _ ≤ 16777216; omega)]
        rfl
      · exact e2
    rw [ec, bind_okE]
    simp only [evKVs_consE, evKVs_nilE, e_var, e_lit, getV, optR_some, bind_okE, inS_okE]
    refine ⟨((heap0 ns).push (.lst (is.map Val.int))).push (mD 1 sd 0), rfl, ⟨1, is, sd, 0, ⟨get_push_same, get_push_some get_push_same⟩, by omega, Int.le_refl _, Int.le_refl _⟩, (Kp.push 2 _ _).trans (Kp.push 2 _ _)⟩
  obtain ⟨h', e, r⟩ := key
  refine ⟨h', ?_, r⟩
  show (match execs (rec cl C fuel) fBegun.body [some (.ref 0), none, none] (heap0 ns) with
    | .ok (.nx _) h1 => Res.ok Val.non h1
    | .ok (.rt v) h1 => .ok v h1
    | .ok _ _ => .bad
    | .exc c fs _ h1 => .exc c fs h1
    | .bad => .bad) = _
  rw [e]
end Ev

set_option Elab.async false
set_option linter.all false
set_option maxRecDepth 100000
set_option maxHeartbeats 0
namespace Ev.Law
open PySem
def f_is_word : Fn := ⟨1, 2, [(.ife (.or (.not (.isi (.var 0) .str)) (.not (.cmp2 .le .le (.lit (.int 1)) (.bi .len [(.var 0)]) (.glb (⟨⟨[77, 79, 83, 84, 95, 76, 69, 84, 84, 69, 82, 83]⟩⟩) (.int 6))))) [(.ret (.lit (.bl false)))] []), (.ret (.bi .all [(.comp [1] (.name 1) (.val (.var 0)) none (.cmp .inn (.var 1) (.glb (⟨⟨[76, 69, 84, 84, 69, 82, 83]⟩⟩) (.str (⟨⟨[97, 98, 99, 100, 101, 102, 103, 104, 105, 106, 107, 108, 109, 110, 111, 112, 113, 114, 115, 116, 117, 118, 119, 120, 121, 122]⟩⟩)))))]))]⟩
def d_is_word : Df := ⟨⟨⟨[105, 115, 95, 119, 111, 114, 100]⟩⟩, [⟨⟨[116, 104, 105, 110, 103]⟩⟩, ⟨⟨[108, 101, 116, 116, 101, 114]⟩⟩], f_is_word⟩
def f_names_fault : Fn := ⟨1, 3, [(.ife (.or (.not (.isi (.var 0) .tuple)) (.not (.cmp2 .le .le (.lit (.int 1)) (.bi .len [(.var 0)]) (.glb (⟨⟨[77, 79, 83, 84, 95, 78, 65, 77, 69, 83]⟩⟩) (.int 8))))) [(.ret (.lst [(.lit .non)]))] []), (.loop (.tup [1, 2]) (.enum (.var 0)) [(.ife (.or (.not (.pcall 0 [(.var 2)])) (.and (.cmp .gt (.var 1) (.lit (.int 0))) (.cmp .le (.var 2) (.sub (.var 0) (.bin .sub (.var 1) (.lit (.int 1))))))) [(.ret (.lst [(.var 1)]))] [])]), (.ret (.lst []))]⟩
def d_names_fault : Df := ⟨⟨⟨[110, 97, 109, 101, 115, 95, 102, 97, 117, 108, 116]⟩⟩, [⟨⟨[116, 104, 105, 110, 103]⟩⟩, ⟨⟨[110, 117, 109, 98, 101, 114]⟩⟩, ⟨⟨[110, 97, 109, 101]⟩⟩], f_names_fault⟩
def f_extent : Fn := ⟨2, 4, [(.ife (.isi (.var 1) .str) [(.ret (.ife (.cmp .inn (.var 1) (.var 0)) (.tup [(.lit (.int 1)), (.lit (.int 1))]) (.lit .non)))] []), (.ife (.or (.not (.isi (.var 1) .tuple)) (.or (.cmp .ne (.bi .len [(.var 1)]) (.lit (.int 3))) (.not (.isi (.sub (.var 1) (.lit (.int 0))) .str)))) [(.ret (.lit .non))] []), (.ife (.cmp .nin (.sub (.var 1) (.lit (.int 0))) (.tup [(.glb (⟨⟨[77, 69, 84]⟩⟩) (.str (⟨⟨[109, 101, 116]⟩⟩))), (.glb (⟨⟨[74, 79, 73, 78, 69, 68]⟩⟩) (.str (⟨⟨[106, 111, 105, 110, 101, 100]⟩⟩)))])) [(.ret (.lit .non))] []), (.par 2 3 (.pcall 2 [(.var 0), (.sub (.var 1) (.lit (.int 1)))]) (.pcall 2 [(.var 0), (.sub (.var 1) (.lit (.int 2)))])), (.ife (.or (.cmp .isb (.var 2) (.lit .non)) (.cmp .isb (.var 3) (.lit .non))) [(.ret (.lit .non))] []), (.ret (.tup [(.bin .add (.lit (.int 1)) (.bi .max [(.sub (.var 2) (.lit (.int 0))), (.sub (.var 3) (.lit (.int 0)))])), (.bin .add (.bin .add (.lit (.int 1)) (.sub (.var 2) (.lit (.int 1)))) (.sub (.var 3) (.lit (.int 1))))]))]⟩
def d_extent : Df := ⟨⟨⟨[101, 120, 116, 101, 110, 116]⟩⟩, [⟨⟨[110, 97, 109, 101, 115]⟩⟩, ⟨⟨[116, 104, 105, 110, 103]⟩⟩, ⟨⟨[111, 110, 101]⟩⟩, ⟨⟨[111, 116, 104, 101, 114]⟩⟩], f_extent⟩
def f_is_term : Fn := ⟨2, 3, [(.set 2 (.pcall 2 [(.var 0), (.var 1)])), (.ret (.and (.cmp .nsb (.var 2) (.lit .non)) (.and (.cmp .le (.sub (.var 2) (.lit (.int 0))) (.glb (⟨⟨[77, 79, 83, 84, 95, 68, 69, 69, 80]⟩⟩) (.int 12))) (.cmp .le (.sub (.var 2) (.lit (.int 1))) (.glb (⟨⟨[77, 79, 83, 84, 95, 84, 69, 82, 77, 83]⟩⟩) (.int 60))))))]⟩
def d_is_term : Df := ⟨⟨⟨[105, 115, 95, 116, 101, 114, 109]⟩⟩, [⟨⟨[110, 97, 109, 101, 115]⟩⟩, ⟨⟨[116, 104, 105, 110, 103]⟩⟩, ⟨⟨[102, 111, 117, 110, 100]⟩⟩], f_is_term⟩
def f_is_number : Fn := ⟨2, 2, [(.ret (.and (.isi (.var 0) .int) (.and (.not (.isi (.var 0) .bool)) (.cmp2 .le .lt (.lit (.int 0)) (.var 0) (.var 1)))))]⟩
def d_is_number : Df := ⟨⟨⟨[105, 115, 95, 110, 117, 109, 98, 101, 114]⟩⟩, [⟨⟨[116, 104, 105, 110, 103]⟩⟩, ⟨⟨[109, 97, 110, 121]⟩⟩], f_is_number⟩
def f_is_row : Fn := ⟨3, 5, [(.ife (.or (.not (.isi (.var 0) .tuple)) (.not (.bi .all [(.comp [3] (.name 3) (.val (.var 0)) none (.pcall 4 [(.var 3), (.var 2)]))]))) [(.ret (.lit (.bl false)))] []), (.ret (.and (.cmp .inn (.var 1) (.var 0)) (.bi .all [(.comp [3, 4] (.tup [3, 4]) (.zip (.var 0) (.slc (.var 0) (some (.lit (.int 1))) none)) none (.cmp .lt (.var 3) (.var 4)))])))]⟩
def d_is_row : Df := ⟨⟨⟨[105, 115, 95, 114, 111, 119]⟩⟩, [⟨⟨[116, 104, 105, 110, 103]⟩⟩, ⟨⟨[110, 117, 109, 98, 101, 114]⟩⟩, ⟨⟨[109, 97, 110, 121]⟩⟩, ⟨⟨[111, 110, 101]⟩⟩, ⟨⟨[111, 116, 104, 101, 114]⟩⟩], f_is_row⟩
def f_meet_in : Fn := ⟨3, 6, [(.set 3 (.comp [5] (.name 5) (.val (.sub (.var 0) (.var 1))) (some (.cmp .inn (.var 5) (.sub (.var 0) (.var 2)))) (.var 5))), (.set 4 (.comp [5] (.name 5) (.val (.var 3)) (some (.cmp .eq (.bi .len [(.sub (.var 0) (.var 5))]) (.bi .len [(.var 3)]))) (.var 5))), (.ret (.ife (.cmp .ne (.var 4) (.lst [])) (.sub (.var 4) (.lit (.int 0))) (.lit .non)))]⟩
def d_meet_in : Df := ⟨⟨⟨[109, 101, 101, 116, 95, 105, 110]⟩⟩, [⟨⟨[111, 114, 100, 101, 114]⟩⟩, ⟨⟨[111, 110, 101]⟩⟩, ⟨⟨[111, 116, 104, 101, 114]⟩⟩, ⟨⟨[99, 111, 109, 109, 111, 110]⟩⟩, ⟨⟨[102, 111, 117, 110, 100]⟩⟩, ⟨⟨[116, 104, 105, 110, 103]⟩⟩], f_meet_in⟩
def f_join_in : Fn := ⟨3, 8, [(.set 3 (.comp [5, 6] (.tup [5, 6]) (.enum (.var 0)) (some (.and (.cmp .inn (.var 1) (.var 6)) (.cmp .inn (.var 2) (.var 6)))) (.var 5))), (.set 4 (.comp [5] (.name 5) (.val (.var 3)) (some (.bi .all [(.comp [7] (.name 7) (.val (.var 3)) none (.cmp .inn (.var 5) (.sub (.var 0) (.var 7))))])) (.var 5))), (.ret (.ife (.cmp .ne (.var 4) (.lst [])) (.sub (.var 4) (.lit (.int 0))) (.lit .non)))]⟩
def d_join_in : Df := ⟨⟨⟨[106, 111, 105, 110, 95, 105, 110]⟩⟩, [⟨⟨[111, 114, 100, 101, 114]⟩⟩, ⟨⟨[111, 110, 101]⟩⟩, ⟨⟨[111, 116, 104, 101, 114]⟩⟩, ⟨⟨[99, 111, 109, 109, 111, 110]⟩⟩, ⟨⟨[102, 111, 117, 110, 100]⟩⟩, ⟨⟨[116, 104, 105, 110, 103]⟩⟩, ⟨⟨[114, 111, 119]⟩⟩, ⟨⟨[102, 97, 114]⟩⟩], f_join_in⟩
def f_rows_fault : Fn := ⟨1, 5, [(.loop (.tup [1, 2]) (.enum (.var 0)) [(.loop (.name 3) (.val (.var 2)) [(.ife (.or (.and (.cmp .ne (.var 3) (.var 1)) (.cmp .inn (.var 1) (.sub (.var 0) (.var 3)))) (.not (.bi .all [(.comp [4] (.name 4) (.val (.sub (.var 0) (.var 3))) none (.cmp .inn (.var 4) (.var 2)))]))) [(.ret (.tup [(.var 1), (.var 3)]))] [])])]), (.loop (.name 1) (.rng1 (.bi .len [(.var 0)])) [(.loop (.name 3) (.rng2 (.bin .add (.var 1) (.lit (.int 1))) (.bi .len [(.var 0)])) [(.ife (.or (.cmp .isb (.pcall 6 [(.var 0), (.var 1), (.var 3)]) (.lit .non)) (.cmp .isb (.pcall 7 [(.var 0), (.var 1), (.var 3)]) (.lit .non))) [(.ret (.tup [(.var 1), (.var 3)]))] [])])]), (.ret (.lit .non))]⟩
def d_rows_fault : Df := ⟨⟨⟨[114, 111, 119, 115, 95, 102, 97, 117, 108, 116]⟩⟩, [⟨⟨[111, 114, 100, 101, 114]⟩⟩, ⟨⟨[111, 110, 101]⟩⟩, ⟨⟨[114, 111, 119]⟩⟩, ⟨⟨[111, 116, 104, 101, 114]⟩⟩, ⟨⟨[116, 104, 105, 110, 103]⟩⟩], f_rows_fault⟩
def f_order_fault : Fn := ⟨1, 3, [(.ife (.or (.not (.isi (.var 0) .tuple)) (.not (.cmp2 .le .le (.lit (.int 1)) (.bi .len [(.var 0)]) (.glb (⟨⟨[77, 79, 83, 84, 95, 84, 72, 73, 78, 71, 83]⟩⟩) (.int 64))))) [(.ret (.tup []))] []), (.loop (.tup [1, 2]) (.enum (.var 0)) [(.ife (.not (.pcall 5 [(.var 2), (.var 1), (.bi .len [(.var 0)])])) [(.ret (.tup [(.var 1)]))] [])]), (.ret (.pcall 8 [(.var 0)]))]⟩
def d_order_fault : Df := ⟨⟨⟨[111, 114, 100, 101, 114, 95, 102, 97, 117, 108, 116]⟩⟩, [⟨⟨[116, 104, 105, 110, 103]⟩⟩, ⟨⟨[110, 117, 109, 98, 101, 114]⟩⟩, ⟨⟨[114, 111, 119]⟩⟩], f_order_fault⟩
def f_is_placing : Fn := ⟨3, 4, [(.ife (.or (.not (.isi (.var 2) .tuple)) (.cmp .ne (.bi .len [(.var 2)]) (.bi .len [(.var 1)]))) [(.ret (.lit (.bl false)))] []), (.ret (.bi .all [(.comp [3] (.name 3) (.val (.var 2)) none (.pcall 4 [(.var 3), (.bi .len [(.var 0)])]))]))]⟩
def d_is_placing : Df := ⟨⟨⟨[105, 115, 95, 112, 108, 97, 99, 105, 110, 103]⟩⟩, [⟨⟨[111, 114, 100, 101, 114]⟩⟩, ⟨⟨[110, 97, 109, 101, 115]⟩⟩, ⟨⟨[116, 104, 105, 110, 103]⟩⟩, ⟨⟨[111, 110, 101]⟩⟩], f_is_placing⟩
def f_value_in : Fn := ⟨3, 5, [(.ife (.isi (.var 2) .str) [(.ret (.sub (.var 1) (.var 2)))] []), (.par 3 4 (.call 11 [(.var 0), (.var 1), (.sub (.var 2) (.lit (.int 1)))]) (.call 11 [(.var 0), (.var 1), (.sub (.var 2) (.lit (.int 2)))])), (.ret (.ife (.cmp .eq (.sub (.var 2) (.lit (.int 0))) (.glb (⟨⟨[77, 69, 84]⟩⟩) (.str (⟨⟨[109, 101, 116]⟩⟩)))) (.pcall 6 [(.var 0), (.var 3), (.var 4)]) (.pcall 7 [(.var 0), (.var 3), (.var 4)])))]⟩
def d_value_in : Df := ⟨⟨⟨[118, 97, 108, 117, 101, 95, 105, 110]⟩⟩, [⟨⟨[111, 114, 100, 101, 114]⟩⟩, ⟨⟨[112, 108, 97, 99, 101, 115]⟩⟩, ⟨⟨[116, 101, 114, 109]⟩⟩, ⟨⟨[111, 110, 101]⟩⟩, ⟨⟨[111, 116, 104, 101, 114]⟩⟩], f_value_in⟩
def f_is_fact : Fn := ⟨2, 2, [(.ife (.or (.not (.isi (.var 1) .tuple)) (.or (.cmp .ne (.bi .len [(.var 1)]) (.lit (.int 3))) (.not (.isi (.sub (.var 1) (.lit (.int 0))) .str)))) [(.ret (.lit (.bl false)))] []), (.ret (.and (.cmp .inn (.sub (.var 1) (.lit (.int 0))) (.tup [(.glb (⟨⟨[85, 78, 68, 69, 82]⟩⟩) (.str (⟨⟨[117, 110, 100, 101, 114]⟩⟩))), (.glb (⟨⟨[65, 76, 73, 75, 69]⟩⟩) (.str (⟨⟨[97, 108, 105, 107, 101]⟩⟩))), (.glb (⟨⟨[78, 79, 84]⟩⟩) (.str (⟨⟨[110, 111, 116]⟩⟩)))])) (.and (.pcall 3 [(.var 0), (.sub (.var 1) (.lit (.int 1)))]) (.pcall 3 [(.var 0), (.sub (.var 1) (.lit (.int 2)))]))))]⟩
def d_is_fact : Df := ⟨⟨⟨[105, 115, 95, 102, 97, 99, 116]⟩⟩, [⟨⟨[110, 97, 109, 101, 115]⟩⟩, ⟨⟨[116, 104, 105, 110, 103]⟩⟩], f_is_fact⟩
def f_fact_for : Fn := ⟨2, 2, [(.ife (.not (.pcall 12 [(.var 0), (.var 1)])) [(.raise 1 [(.var 1)])] []), (.ret (.var 1))]⟩
def d_fact_for : Df := ⟨⟨⟨[102, 97, 99, 116, 95, 102, 111, 114]⟩⟩, [⟨⟨[110, 97, 109, 101, 115]⟩⟩, ⟨⟨[116, 104, 105, 110, 103]⟩⟩], f_fact_for⟩
def f_holds_in : Fn := ⟨3, 5, [(.par 3 4 (.call 11 [(.var 0), (.var 1), (.sub (.var 2) (.lit (.int 1)))]) (.call 11 [(.var 0), (.var 1), (.sub (.var 2) (.lit (.int 2)))])), (.ife (.cmp .eq (.sub (.var 2) (.lit (.int 0))) (.glb (⟨⟨[65, 76, 73, 75, 69]⟩⟩) (.str (⟨⟨[97, 108, 105, 107, 101]⟩⟩)))) [(.ret (.cmp .eq (.var 3) (.var 4)))] []), (.ret (.cmp .eq (.cmp .inn (.var 3) (.sub (.var 0) (.var 4))) (.cmp .eq (.sub (.var 2) (.lit (.int 0))) (.glb (⟨⟨[85, 78, 68, 69, 82]⟩⟩) (.str (⟨⟨[117, 110, 100, 101, 114]⟩⟩))))))]⟩
def d_holds_in : Df := ⟨⟨⟨[104, 111, 108, 100, 115, 95, 105, 110]⟩⟩, [⟨⟨[111, 114, 100, 101, 114]⟩⟩, ⟨⟨[112, 108, 97, 99, 101, 115]⟩⟩, ⟨⟨[102, 97, 99, 116]⟩⟩, ⟨⟨[111, 110, 101]⟩⟩, ⟨⟨[111, 116, 104, 101, 114]⟩⟩], f_holds_in⟩
def f_need_book : Fn := ⟨1, 5, [(.ife (.or (.not (.isi (.var 0) .tuple)) (.cmp .ne (.bi .len [(.var 0)]) (.lit (.int 2)))) [(.raise 2 [(.lit (.str (⟨⟨[102, 111, 114, 109]⟩⟩))), (.lit .non)])] []), (.unp [2, 3] (.var 0)), (.loop (.name 1) (.val (.pcall 1 [(.var 2)])) [(.raise 2 [(.lit (.str (⟨⟨[110, 97, 109, 101, 115]⟩⟩))), (.var 1)])]), (.ife (.or (.not (.isi (.var 3) .tuple)) (.cmp .gt (.bi .len [(.var 3)]) (.glb (⟨⟨[77, 79, 83, 84, 95, 70, 65, 67, 84, 83]⟩⟩) (.int 10)))) [(.raise 2 [(.lit (.str (⟨⟨[102, 97, 99, 116, 115]⟩⟩))), (.lit .non)])] []), (.loop (.tup [1, 4]) (.enum (.var 3)) [(.ife (.not (.pcall 12 [(.var 2), (.var 4)])) [(.raise 2 [(.lit (.str (⟨⟨[102, 97, 99, 116, 115]⟩⟩))), (.var 1)])] [])]), (.ret (.var 0))]⟩
def d_need_book : Df := ⟨⟨⟨[110, 101, 101, 100, 95, 98, 111, 111, 107]⟩⟩, [⟨⟨[116, 104, 105, 110, 103]⟩⟩, ⟨⟨[110, 117, 109, 98, 101, 114]⟩⟩, ⟨⟨[110, 97, 109, 101, 115]⟩⟩, ⟨⟨[102, 97, 99, 116, 115]⟩⟩, ⟨⟨[102, 97, 99, 116]⟩⟩], f_need_book⟩
def f_is_model_in : Fn := ⟨3, 5, [(.set 3 (.dzip (.sub (.var 0) (.lit (.int 0))) (.var 2))), (.ret (.bi .all [(.comp [4] (.name 4) (.val (.sub (.var 0) (.lit (.int 1)))) none (.call 14 [(.var 1), (.var 3), (.var 4)]))]))]⟩
def d_is_model_in : Df := ⟨⟨⟨[105, 115, 95, 109, 111, 100, 101, 108, 95, 105, 110]⟩⟩, [⟨⟨[98, 111, 111, 107]⟩⟩, ⟨⟨[111, 114, 100, 101, 114]⟩⟩, ⟨⟨[112, 108, 97, 99, 105, 110, 103]⟩⟩, ⟨⟨[112, 108, 97, 99, 101, 115]⟩⟩, ⟨⟨[102, 97, 99, 116]⟩⟩], f_is_model_in⟩
def f_is_half : Fn := ⟨2, 2, [(.ife (.and (.not (.isi (.var 0) .str)) (.and (.cmp .eq (.sub (.var 0) (.lit (.int 0))) (.glb (⟨⟨[77, 69, 84]⟩⟩) (.str (⟨⟨[109, 101, 116]⟩⟩)))) (.cmp .inn (.var 1) (.slc (.var 0) (some (.lit (.int 1))) none)))) [(.ret (.lit (.bl true)))] []), (.ret (.and (.not (.isi (.var 1) .str)) (.and (.cmp .eq (.sub (.var 1) (.lit (.int 0))) (.glb (⟨⟨[74, 79, 73, 78, 69, 68]⟩⟩) (.str (⟨⟨[106, 111, 105, 110, 101, 100]⟩⟩)))) (.cmp .inn (.var 0) (.slc (.var 1) (some (.lit (.int 1))) none)))))]⟩
def d_is_half : Df := ⟨⟨⟨[105, 115, 95, 104, 97, 108, 102]⟩⟩, [⟨⟨[108, 111, 119]⟩⟩, ⟨⟨[104, 105, 103, 104]⟩⟩], f_is_half⟩
def f_is_told_by : Fn := ⟨3, 3, [(.ife (.and (.cmp .eq (.sub (.var 0) (.lit (.int 0))) (.glb (⟨⟨[65, 76, 73, 75, 69]⟩⟩) (.str (⟨⟨[97, 108, 105, 107, 101]⟩⟩)))) (.cmp .eq (.tup [(.sub (.var 0) (.lit (.int 1))), (.sub (.var 0) (.lit (.int 2)))]) (.tup [(.var 2), (.var 1)]))) [(.ret (.lit (.bl true)))] []), (.ret (.and (.cmp .ne (.sub (.var 0) (.lit (.int 0))) (.glb (⟨⟨[78, 79, 84]⟩⟩) (.str (⟨⟨[110, 111, 116]⟩⟩)))) (.cmp .eq (.tup [(.sub (.var 0) (.lit (.int 1))), (.sub (.var 0) (.lit (.int 2)))]) (.tup [(.var 1), (.var 2)]))))]⟩
def d_is_told_by : Df := ⟨⟨⟨[105, 115, 95, 116, 111, 108, 100, 95, 98, 121]⟩⟩, [⟨⟨[102, 97, 99, 116]⟩⟩, ⟨⟨[108, 111, 119]⟩⟩, ⟨⟨[104, 105, 103, 104]⟩⟩], f_is_told_by⟩
def f_do_make : Fn := ⟨5, 5, [(.ife (.cmp .eq (.var 0) (.glb (⟨⟨[67, 72, 65, 73, 78]⟩⟩) (.str (⟨⟨[99, 104, 97, 105, 110]⟩⟩)))) [(.ret (.and (.cmp .eq (.sub (.var 3) (.lit (.int 0))) (.var 1)) (.and (.cmp .eq (.sub (.var 3) (.lit (.int 1))) (.sub (.var 4) (.lit (.int 0)))) (.cmp .eq (.sub (.var 4) (.lit (.int 1))) (.var 2)))))] []), (.ife (.cmp .eq (.var 0) (.glb (⟨⟨[77, 69, 84]⟩⟩) (.str (⟨⟨[109, 101, 116]⟩⟩)))) [(.ret (.and (.cmp .eq (.tup [(.glb (⟨⟨[77, 69, 84]⟩⟩) (.str (⟨⟨[109, 101, 116]⟩⟩))), (.sub (.var 3) (.lit (.int 1))), (.sub (.var 4) (.lit (.int 1)))]) (.var 2)) (.and (.cmp .eq (.sub (.var 3) (.lit (.int 0))) (.var 1)) (.cmp .eq (.sub (.var 4) (.lit (.int 0))) (.var 1)))))] []), (.ret (.and (.cmp .eq (.var 0) (.glb (⟨⟨[74, 79, 73, 78, 69, 68]⟩⟩) (.str (⟨⟨[106, 111, 105, 110, 101, 100]⟩⟩)))) (.and (.cmp .eq (.tup [(.glb (⟨⟨[74, 79, 73, 78, 69, 68]⟩⟩) (.str (⟨⟨[106, 111, 105, 110, 101, 100]⟩⟩))), (.sub (.var 3) (.lit (.int 0))), (.sub (.var 4) (.lit (.int 0)))]) (.var 1)) (.and (.cmp .eq (.sub (.var 3) (.lit (.int 1))) (.var 2)) (.cmp .eq (.sub (.var 4) (.lit (.int 1))) (.var 2))))))]⟩
def d_do_make : Df := ⟨⟨⟨[100, 111, 95, 109, 97, 107, 101]⟩⟩, [⟨⟨[114, 117, 108, 101]⟩⟩, ⟨⟨[108, 111, 119]⟩⟩, ⟨⟨[104, 105, 103, 104]⟩⟩, ⟨⟨[111, 110, 101]⟩⟩, ⟨⟨[111, 116, 104, 101, 114]⟩⟩], f_do_make⟩
def f_are_refs : Fn := ⟨3, 4, [(.ret (.and (.isi (.var 0) .tuple) (.and (.cmp .eq (.bi .len [(.var 0)]) (.var 1)) (.bi .all [(.comp [3] (.name 3) (.val (.var 0)) none (.pcall 4 [(.var 3), (.var 2)]))]))))]⟩
def d_are_refs : Df := ⟨⟨⟨[97, 114, 101, 95, 114, 101, 102, 115]⟩⟩, [⟨⟨[116, 104, 105, 110, 103]⟩⟩, ⟨⟨[109, 97, 110, 121]⟩⟩, ⟨⟨[98, 111, 117, 110, 100]⟩⟩, ⟨⟨[111, 110, 101]⟩⟩], f_are_refs⟩
def f_is_line : Fn := ⟨4, 8, [(.ife (.or (.not (.isi (.var 2) .tuple)) (.or (.cmp .ne (.bi .len [(.var 2)]) (.lit (.int 4))) (.not (.isi (.sub (.var 2) (.lit (.int 0))) .str)))) [(.ret (.lit (.bl false)))] []), (.unp [4, 5, 6, 7] (.var 2)), (.ife (.or (.not (.pcall 3 [(.sub (.var 0) (.lit (.int 0))), (.var 5)])) (.not (.pcall 3 [(.sub (.var 0) (.lit (.int 0))), (.var 6)]))) [(.ret (.lit (.bl false)))] []), (.ife (.cmp .eq (.var 4) (.glb (⟨⟨[70, 65, 67, 84]⟩⟩) (.str (⟨⟨[102, 97, 99, 116]⟩⟩)))) [(.ret (.and (.pcall 20 [(.var 7), (.lit (.int 1)), (.bi .len [(.sub (.var 0) (.lit (.int 1)))])]) (.pcall 18 [(.sub (.sub (.var 0) (.lit (.int 1))) (.sub (.var 7) (.lit (.int 0)))), (.var 5), (.var 6)])))] []), (.ife (.cmp .inn (.var 4) (.tup [(.glb (⟨⟨[67, 72, 65, 73, 78]⟩⟩) (.str (⟨⟨[99, 104, 97, 105, 110]⟩⟩))), (.glb (⟨⟨[77, 69, 84]⟩⟩) (.str (⟨⟨[109, 101, 116]⟩⟩))), (.glb (⟨⟨[74, 79, 73, 78, 69, 68]⟩⟩) (.str (⟨⟨[106, 111, 105, 110, 101, 100]⟩⟩)))])) [(.ret (.and (.pcall 20 [(.var 7), (.lit (.int 2)), (.bi .len [(.var 3)])]) (.pcall 19 [(.var 4), (.var 5), (.var 6), (.sub (.var 3) (.sub (.var 7) (.lit (.int 0)))), (.sub (.var 3) (.sub (.var 7) (.lit (.int 1))))])))] []), (.ife (.not (.pcall 20 [(.var 7), (.lit (.int 0)), (.lit (.int 0))])) [(.ret (.lit (.bl false)))] []), (.ife (.cmp .eq (.var 4) (.glb (⟨⟨[67, 76, 65, 73, 77]⟩⟩) (.str (⟨⟨[99, 108, 97, 105, 109]⟩⟩)))) [(.ret (.cmp .eq (.var 1) (.tup [(.glb (⟨⟨[78, 79, 84]⟩⟩) (.str (⟨⟨[110, 111, 116]⟩⟩))), (.var 5), (.var 6)])))] []), (.ret (.or (.and (.cmp .eq (.var 4) (.glb (⟨⟨[83, 65, 77, 69]⟩⟩) (.str (⟨⟨[115, 97, 109, 101]⟩⟩)))) (.cmp .eq (.var 5) (.var 6))) (.and (.cmp .eq (.var 4) (.glb (⟨⟨[80, 65, 82, 84]⟩⟩) (.str (⟨⟨[112, 97, 114, 116]⟩⟩)))) (.pcall 17 [(.var 5), (.var 6)]))))]⟩
def d_is_line : Df := ⟨⟨⟨[105, 115, 95, 108, 105, 110, 101]⟩⟩, [⟨⟨[98, 111, 111, 107]⟩⟩, ⟨⟨[99, 108, 97, 105, 109]⟩⟩, ⟨⟨[108, 105, 110, 101]⟩⟩, ⟨⟨[112, 97, 105, 114, 115]⟩⟩, ⟨⟨[114, 117, 108, 101]⟩⟩, ⟨⟨[108, 111, 119]⟩⟩, ⟨⟨[104, 105, 103, 104]⟩⟩, ⟨⟨[114, 101, 102, 115]⟩⟩], f_is_line⟩
def f_pairs_of : Fn := ⟨3, 5, [(.set 3 (.lst [])), (.ife (.cmp .gt (.bi .len [(.var 2)]) (.glb (⟨⟨[77, 79, 83, 84, 95, 76, 73, 78, 69, 83]⟩⟩) (.int 4000))) [(.ret (.lit .non))] []), (.loop (.name 4) (.val (.var 2)) [(.ife (.not (.call 21 [(.var 0), (.var 1), (.var 4), (.var 3)])) [(.ret (.lit .non))] []), (.ex (.app (.var 3) (.tup [(.sub (.var 4) (.lit (.int 1))), (.sub (.var 4) (.lit (.int 2)))])))]), (.ret (.var 3))]⟩
def d_pairs_of : Df := ⟨⟨⟨[112, 97, 105, 114, 115, 95, 111, 102]⟩⟩, [⟨⟨[98, 111, 111, 107]⟩⟩, ⟨⟨[99, 108, 97, 105, 109]⟩⟩, ⟨⟨[108, 105, 110, 101, 115]⟩⟩, ⟨⟨[102, 111, 117, 110, 100]⟩⟩, ⟨⟨[108, 105, 110, 101]⟩⟩], f_pairs_of⟩
def f_do_steps_hold : Fn := ⟨3, 4, [(.set 3 (.pcall 22 [(.var 0), (.var 1), (.var 2)])), (.ife (.or (.cmp .isb (.var 3) (.lit .non)) (.or (.cmp .eq (.sub (.var 1) (.lit (.int 0))) (.glb (⟨⟨[78, 79, 84]⟩⟩) (.str (⟨⟨[110, 111, 116]⟩⟩)))) (.cmp .nin (.tup [(.sub (.var 1) (.lit (.int 1))), (.sub (.var 1) (.lit (.int 2)))]) (.var 3)))) [(.ret (.lit (.bl false)))] []), (.ret (.or (.cmp .eq (.sub (.var 1) (.lit (.int 0))) (.glb (⟨⟨[85, 78, 68, 69, 82]⟩⟩) (.str (⟨⟨[117, 110, 100, 101, 114]⟩⟩)))) (.cmp .inn (.tup [(.sub (.var 1) (.lit (.int 2))), (.sub (.var 1) (.lit (.int 1)))]) (.var 3))))]⟩
def d_do_steps_hold : Df := ⟨⟨⟨[100, 111, 95, 115, 116, 101, 112, 115, 95, 104, 111, 108, 100]⟩⟩, [⟨⟨[98, 111, 111, 107]⟩⟩, ⟨⟨[99, 108, 97, 105, 109]⟩⟩, ⟨⟨[108, 105, 110, 101, 115]⟩⟩, ⟨⟨[112, 97, 105, 114, 115]⟩⟩], f_do_steps_hold⟩
def f_do_lines_break : Fn := ⟨4, 5, [(.ife (.or (.not (.pcall 4 [(.var 2), (.bi .len [(.sub (.var 0) (.lit (.int 1)))])])) (.cmp .ne (.sub (.sub (.sub (.var 0) (.lit (.int 1))) (.var 2)) (.lit (.int 0))) (.glb (⟨⟨[78, 79, 84]⟩⟩) (.str (⟨⟨[110, 111, 116]⟩⟩))))) [(.ret (.lit (.bl false)))] []), (.set 4 (.pcall 22 [(.var 0), (.var 1), (.var 3)])), (.ret (.and (.cmp .nsb (.var 4) (.lit .non)) (.cmp .inn (.slc (.sub (.sub (.var 0) (.lit (.int 1))) (.var 2)) (some (.lit (.int 1))) none) (.var 4))))]⟩
def d_do_lines_break : Df := ⟨⟨⟨[100, 111, 95, 108, 105, 110, 101, 115, 95, 98, 114, 101, 97, 107]⟩⟩, [⟨⟨[98, 111, 111, 107]⟩⟩, ⟨⟨[99, 108, 97, 105, 109]⟩⟩, ⟨⟨[110, 117, 109, 98, 101, 114]⟩⟩, ⟨⟨[108, 105, 110, 101, 115]⟩⟩, ⟨⟨[112, 97, 105, 114, 115]⟩⟩], f_do_lines_break⟩
def f_does_part : Fn := ⟨4, 4, [(.ife (.or (.cmp .nsb (.pcall 9 [(.var 2)]) (.lit .non)) (.not (.pcall 10 [(.var 2), (.sub (.var 0) (.lit (.int 0))), (.var 3)]))) [(.ret (.lit (.bl false)))] []), (.ret (.and (.pcall 16 [(.var 0), (.var 2), (.var 3)]) (.not (.call 14 [(.var 2), (.dzip (.sub (.var 0) (.lit (.int 0))) (.var 3)), (.var 1)]))))]⟩
def d_does_part : Df := ⟨⟨⟨[100, 111, 101, 115, 95, 112, 97, 114, 116]⟩⟩, [⟨⟨[98, 111, 111, 107]⟩⟩, ⟨⟨[99, 108, 97, 105, 109]⟩⟩, ⟨⟨[111, 114, 100, 101, 114]⟩⟩, ⟨⟨[112, 108, 97, 99, 105, 110, 103]⟩⟩], f_does_part⟩
def f_word_of : Fn := ⟨1, 2, [(.ife (.or (.not (.isi (.var 0) .tuple)) (.or (.cmp .eq (.var 0) (.tup [])) (.not (.isi (.sub (.var 0) (.lit (.int 0))) .str)))) [(.raise 3 [(.glb (⟨⟨[70, 79, 82, 77]⟩⟩) (.str (⟨⟨[102, 111, 114, 109]⟩⟩)))])] []), (.set 1 (.dsp [(⟨⟨[115, 116, 101, 112, 115]⟩⟩, (.lit (.int 2))), (⟨⟨[97, 103, 97, 105, 110, 115, 116]⟩⟩, (.lit (.int 3))), (⟨⟨[111, 114, 100, 101, 114]⟩⟩, (.lit (.int 3)))])), (.ife (.or (.cmp .ne (.get1 (.var 1) (.sub (.var 0) (.lit (.int 0)))) (.bi .len [(.var 0)])) (.not (.isi (.sub (.var 0) (.neg (.lit (.int 1)))) .tuple))) [(.raise 3 [(.glb (⟨⟨[70, 79, 82, 77]⟩⟩) (.str (⟨⟨[102, 111, 114, 109]⟩⟩)))])] []), (.ife (.and (.cmp .eq (.sub (.var 0) (.lit (.int 0))) (.glb (⟨⟨[79, 82, 68, 69, 82]⟩⟩) (.str (⟨⟨[111, 114, 100, 101, 114]⟩⟩)))) (.not (.isi (.sub (.var 0) (.lit (.int 1))) .tuple))) [(.raise 3 [(.glb (⟨⟨[70, 79, 82, 77]⟩⟩) (.str (⟨⟨[102, 111, 114, 109]⟩⟩)))])] []), (.ife (.and (.cmp .eq (.sub (.var 0) (.lit (.int 0))) (.glb (⟨⟨[65, 71, 65, 73, 78, 83, 84]⟩⟩) (.str (⟨⟨[97, 103, 97, 105, 110, 115, 116]⟩⟩)))) (.or (.not (.isi (.sub (.var 0) (.lit (.int 1))) .int)) (.isi (.sub (.var 0) (.lit (.int 1))) .bool))) [(.raise 3 [(.glb (⟨⟨[70, 79, 82, 77]⟩⟩) (.str (⟨⟨[102, 111, 114, 109]⟩⟩)))])] []), (.ret (.sub (.var 0) (.lit (.int 0))))]⟩
def d_word_of : Df := ⟨⟨⟨[119, 111, 114, 100, 95, 111, 102]⟩⟩, [⟨⟨[112, 97, 112, 101, 114]⟩⟩, ⟨⟨[115, 105, 122, 101, 115]⟩⟩], f_word_of⟩
def f_check_claim : Fn := ⟨3, 5, [(.ex (.pcall 15 [(.var 0)])), (.ex (.pcall 13 [(.sub (.var 0) (.lit (.int 0))), (.var 1)])), (.set 3 (.pcall 26 [(.var 2)])), (.ife (.cmp .eq (.var 3) (.glb (⟨⟨[83, 84, 69, 80, 83]⟩⟩) (.str (⟨⟨[115, 116, 101, 112, 115]⟩⟩)))) [(.set 4 (.pcall 23 [(.var 0), (.var 1), (.sub (.var 2) (.lit (.int 1)))]))] [(.ife (.cmp .eq (.var 3) (.glb (⟨⟨[65, 71, 65, 73, 78, 83, 84]⟩⟩) (.str (⟨⟨[97, 103, 97, 105, 110, 115, 116]⟩⟩)))) [(.set 4 (.pcall 24 [(.var 0), (.var 1), (.sub (.var 2) (.lit (.int 1))), (.sub (.var 2) (.lit (.int 2)))]))] [(.set 4 (.pcall 25 [(.var 0), (.var 1), (.sub (.var 2) (.lit (.int 1))), (.sub (.var 2) (.lit (.int 2)))]))])]), (.ife (.not (.var 4)) [(.raise 3 [(.var 3)])] []), (.ret (.var 3))]⟩
def d_check_claim : Df := ⟨⟨⟨[99, 104, 101, 99, 107, 95, 99, 108, 97, 105, 109]⟩⟩, [⟨⟨[98, 111, 111, 107]⟩⟩, ⟨⟨[99, 108, 97, 105, 109]⟩⟩, ⟨⟨[112, 97, 112, 101, 114]⟩⟩, ⟨⟨[119, 111, 114, 100]⟩⟩, ⟨⟨[105, 115, 95, 103, 111, 111, 100]⟩⟩], f_check_claim⟩
def f__law_begun : Fn := ⟨1, 3, [(.set 1 (.lit (.int 11))), (.loop (.name 2) (.val (.var 0)) [(.set 1 (.bin .mod (.bi .int [(.bin .add (.bin .add (.bin .mul (.var 1) (.lit (.int 69621))) (.bin .mod (.bi .int [(.var 2)]) (.lit (.int 2147483629)))) (.lit (.int 7)))]) (.lit (.int 2147483647))))]), (.ret (.dsp [(⟨⟨[103, 114, 101, 97, 116]⟩⟩, (.comp [2] (.name 2) (.val (.var 0)) (some (.cmp .ge (.var 2) (.bin .pow (.lit (.int 10)) (.lit (.int 18))))) (.var 2))), (⟨⟨[115, 101, 101, 100]⟩⟩, (.var 1)), (⟨⟨[116, 117, 114, 110, 115]⟩⟩, (.lit (.int 0)))]))]⟩
def d__law_begun : Df := ⟨⟨⟨[95, 108, 97, 119, 95, 98, 101, 103, 117, 110]⟩⟩, [⟨⟨[95, 108, 97, 119, 95, 115, 99, 114, 105, 112, 116]⟩⟩, ⟨⟨[95, 108, 97, 119, 95, 115, 101, 101, 100]⟩⟩, ⟨⟨[95, 108, 97, 119, 95, 99, 101, 108, 108]⟩⟩], f__law_begun⟩
def f__law_draw : Fn := ⟨2, 4, [(.whl (.and (.cmp .ne (.sub (.var 0) (.lit (.str (⟨⟨[103, 114, 101, 97, 116]⟩⟩)))) (.lst [])) (.cmp .eq (.sub (.sub (.var 0) (.lit (.str (⟨⟨[103, 114, 101, 97, 116]⟩⟩)))) (.lit (.int 0))) (.lit (.int 0)))) [(.put (.var 0) (.lit (.str (⟨⟨[103, 114, 101, 97, 116]⟩⟩))) (.slc (.sub (.var 0) (.lit (.str (⟨⟨[103, 114, 101, 97, 116]⟩⟩)))) (some (.lit (.int 1))) none))]), (.ife (.cmp .ne (.sub (.var 0) (.lit (.str (⟨⟨[103, 114, 101, 97, 116]⟩⟩)))) (.lst [])) [(.set 3 (.sub (.sub (.var 0) (.lit (.str (⟨⟨[103, 114, 101, 97, 116]⟩⟩)))) (.lit (.int 0)))), (.put (.var 0) (.lit (.str (⟨⟨[103, 114, 101, 97, 116]⟩⟩))) (.bin .add (.lst [(.bin .fdiv (.var 3) (.var 1))]) (.slc (.sub (.var 0) (.lit (.str (⟨⟨[103, 114, 101, 97, 116]⟩⟩)))) (some (.lit (.int 1))) none))), (.ret (.bin .mod (.bi .int [(.var 3)]) (.var 1)))] []), (.put (.var 0) (.lit (.str (⟨⟨[116, 117, 114, 110, 115]⟩⟩))) (.bin .add (.sub (.var 0) (.lit (.str (⟨⟨[116, 117, 114, 110, 115]⟩⟩)))) (.lit (.int 1)))), (.set 2 (.bin .mod (.bi .int [(.bin .add (.bin .add (.bin .mul (.sub (.var 0) (.lit (.str (⟨⟨[115, 101, 101, 100]⟩⟩)))) (.lit (.int 48271))) (.bin .mul (.bin .mul (.sub (.var 0) (.lit (.str (⟨⟨[116, 117, 114, 110, 115]⟩⟩)))) (.sub (.var 0) (.lit (.str (⟨⟨[116, 117, 114, 110, 115]⟩⟩))))) (.lit (.int 16807)))) (.sub (.var 0) (.lit (.str (⟨⟨[116, 117, 114, 110, 115]⟩⟩)))))]) (.lit (.int 2147483647)))), (.set 2 (.bin .mod (.bi .int [(.bin .add (.bin .mul (.var 2) (.lit (.int 69621))) (.lit (.int 12345)))]) (.lit (.int 2147483629)))), (.ret (.bin .mod (.bin .fdiv (.bin .mod (.bi .int [(.bin .add (.bin .mul (.var 2) (.lit (.int 40014))) (.sub (.var 0) (.lit (.str (⟨⟨[116, 117, 114, 110, 115]⟩⟩)))))]) (.lit (.int 2147483563))) (.lit (.int 64))) (.var 1)))]⟩
def d__law_draw : Df := ⟨⟨⟨[95, 108, 97, 119, 95, 100, 114, 97, 119]⟩⟩, [⟨⟨[95, 108, 97, 119, 95, 109]⟩⟩, ⟨⟨[95, 108, 97, 119, 95, 108, 105, 109, 105, 116]⟩⟩, ⟨⟨[95, 108, 97, 119, 95, 109, 105, 120, 101, 100]⟩⟩, ⟨⟨[95, 108, 97, 119, 95, 99, 101, 108, 108]⟩⟩], f__law_draw⟩
def f__law_of : Fn := ⟨2, 2, [(.ret (.sub (.var 1) (.call 29 [(.var 0), (.bi .len [(.var 1)])])))]⟩
def d__law_of : Df := ⟨⟨⟨[95, 108, 97, 119, 95, 111, 102]⟩⟩, [⟨⟨[95, 108, 97, 119, 95, 109]⟩⟩, ⟨⟨[95, 108, 97, 119, 95, 115, 111, 109, 101]⟩⟩], f__law_of⟩
def f__law_heard : Fn := ⟨3, 5, [(.set 3 (.lit .non)), (.tri [(.set 3 (.lst [(.pcall 27 [(.var 0), (.var 1), (.var 2)])]))] [(3, 4, (.set1 3 (.fld ⟨⟨[112, 108, 97, 99, 101]⟩⟩)))]), (.ret (.var 3))]⟩
def d__law_heard : Df := ⟨⟨⟨[95, 108, 97, 119, 95, 104, 101, 97, 114, 100]⟩⟩, [⟨⟨[95, 108, 97, 119, 95, 98, 111, 111, 107]⟩⟩, ⟨⟨[95, 108, 97, 119, 95, 99, 108, 97, 105, 109]⟩⟩, ⟨⟨[95, 108, 97, 119, 95, 112, 97, 112, 101, 114]⟩⟩, ⟨⟨[95, 108, 97, 119, 95, 102, 111, 117, 110, 100]⟩⟩, ⟨⟨[101]⟩⟩], f__law_heard⟩
def f__law_orders_right : Fn := ⟨1, 4, [(.set 1 (.tup [(.tup [(.lit (.int 0))]), (.tup [(.lit (.int 0)), (.lit (.int 1))])])), (.set 2 (.lst [(.tup [(.lit (.str (⟨⟨[111, 114, 100, 101, 114]⟩⟩))), (.var 1), (.tup [(.lit (.int 0)), (.lit (.int 1)), (.lit (.int 1))])]), (.tup [(.lit (.str (⟨⟨[111, 114, 100, 101, 114]⟩⟩))), (.var 1), (.tup [(.lit (.int 0)), (.lit (.int 0)), (.lit (.int 1))])]), (.tup [(.lit (.str (⟨⟨[111, 114, 100, 101, 114]⟩⟩))), (.var 1), (.tup [(.lit (.int 0)), (.lit (.int 1))])])])), (.set 2 (.bin .add (.var 2) (.lst [(.tup [(.lit (.str (⟨⟨[111, 114, 100, 101, 114]⟩⟩))), (.tup [(.tup [(.lit (.int 0))])]), (.tup [(.lit (.int 0)), (.lit (.int 0)), (.lit (.int 0))])]), (.tup [(.lit (.str (⟨⟨[111, 114, 100, 101, 114]⟩⟩))), (.var 1), (.tup [(.lit (.int 0)), (.lit (.int 1)), (.lit (.int 0))])]), (.tup [(.lit (.str (⟨⟨[111, 114, 100, 101, 114]⟩⟩))), (.tup [(.tup [(.lit (.int 0))]), (.tup [(.lit (.int 1))])]), (.tup [(.lit (.int 0)), (.lit (.int 1)), (.lit (.int 1))])])]))), (.ret (.cmp .eq (.comp [3] (.name 3) (.val (.var 2)) none (.pcall 31 [(.var 0), (.tup [(.lit (.str (⟨⟨[117, 110, 100, 101, 114]⟩⟩))), (.lit (.str (⟨⟨[98]⟩⟩))), (.lit (.str (⟨⟨[97]⟩⟩)))]), (.var 3)])) (.bin .add (.lst [(.lst [(.lit (.str (⟨⟨[111, 114, 100, 101, 114]⟩⟩)))])]) (.bin .mul (.lst [(.lit (.str (⟨⟨[111, 114, 100, 101, 114]⟩⟩)))]) (.lit (.int 5))))))]⟩
def d__law_orders_right : Df := ⟨⟨⟨[95, 108, 97, 119, 95, 111, 114, 100, 101, 114, 115, 95, 114, 105, 103, 104, 116]⟩⟩, [⟨⟨[95, 108, 97, 119, 95, 98, 111, 111, 107]⟩⟩, ⟨⟨[95, 108, 97, 119, 95, 99, 104, 97, 105, 110]⟩⟩, ⟨⟨[95, 108, 97, 119, 95, 115, 111, 109, 101]⟩⟩, ⟨⟨[95, 108, 97, 119, 95, 111, 110, 101]⟩⟩], f__law_orders_right⟩
def f__law_hand_right : Fn := ⟨1, 5, [(.set 1 (.lst [(.tup [(.lit (.str (⟨⟨[102, 97, 99, 116]⟩⟩))), (.lit (.str (⟨⟨[97]⟩⟩))), (.lit (.str (⟨⟨[98]⟩⟩))), (.tup [(.lit (.int 0))])]), (.tup [(.lit (.str (⟨⟨[102, 97, 99, 116]⟩⟩))), (.lit (.str (⟨⟨[98]⟩⟩))), (.lit (.str (⟨⟨[99]⟩⟩))), (.tup [(.lit (.int 1))])]), (.tup [(.lit (.str (⟨⟨[102, 97, 99, 116]⟩⟩))), (.lit (.str (⟨⟨[99]⟩⟩))), (.lit (.str (⟨⟨[98]⟩⟩))), (.tup [(.lit (.int 1))])]), (.tup [(.lit (.str (⟨⟨[99, 104, 97, 105, 110]⟩⟩))), (.lit (.str (⟨⟨[97]⟩⟩))), (.lit (.str (⟨⟨[99]⟩⟩))), (.tup [(.lit (.int 0)), (.lit (.int 1))])])])), (.set 2 (.tup [(.lit (.str (⟨⟨[117, 110, 100, 101, 114]⟩⟩))), (.lit (.str (⟨⟨[97]⟩⟩))), (.lit (.str (⟨⟨[99]⟩⟩)))])), (.set 3 (.lst [(.tup [(.lit (.str (⟨⟨[115, 116, 101, 112, 115]⟩⟩))), (.bi .tuple [(.var 1)])]), (.tup [(.lit (.str (⟨⟨[115, 116, 101, 112, 115]⟩⟩))), (.bi .tuple [(.slc (.var 1) none (some (.lit (.int 2))))])]), (.tup [(.lit (.str (⟨⟨[115, 116, 101, 112, 115]⟩⟩))), (.bi .tuple [(.rev (.var 1))])])])), (.ex (.app (.var 3) (.tup [(.lit (.str (⟨⟨[97, 103, 97, 105, 110, 115, 116]⟩⟩))), (.lit (.int 2)), (.bi .tuple [(.var 1)])]))), (.ex (.app (.var 3) (.tup [(.lit (.str (⟨⟨[115, 116, 101, 112, 115]⟩⟩))), (.bi .tuple [(.bin .add (.var 1) (.lst [(.tup [(.lit (.str (⟨⟨[112, 97, 114, 116]⟩⟩))), (.tup [(.lit (.str (⟨⟨[109, 101, 116]⟩⟩))), (.lit (.str (⟨⟨[97]⟩⟩))), (.lit (.str (⟨⟨[98]⟩⟩)))]), (.lit (.str (⟨⟨[98]⟩⟩))), (.tup [])])]))])]))), (.ife (.cmp .ne (.comp [4] (.name 4) (.val (.var 3)) none (.pcall 31 [(.var 0), (.var 2), (.var 4)])) (.lst [(.lst [(.lit (.str (⟨⟨[115, 116, 101, 112, 115]⟩⟩)))]), (.lit (.str (⟨⟨[115, 116, 101, 112, 115]⟩⟩))), (.lit (.str (⟨⟨[115, 116, 101, 112, 115]⟩⟩))), (.lit (.str (⟨⟨[97, 103, 97, 105, 110, 115, 116]⟩⟩))), (.lst [(.lit (.str (⟨⟨[115, 116, 101, 112, 115]⟩⟩)))])])) [(.ret (.lit (.bl false)))] []), (.set 1 (.lst [(.tup [(.lit (.str (⟨⟨[99, 108, 97, 105, 109]⟩⟩))), (.lit (.str (⟨⟨[98]⟩⟩))), (.lit (.str (⟨⟨[97]⟩⟩))), (.tup [])]), (.tup [(.lit (.str (⟨⟨[102, 97, 99, 116]⟩⟩))), (.lit (.str (⟨⟨[99]⟩⟩))), (.lit (.str (⟨⟨[98]⟩⟩))), (.tup [(.lit (.int 1))])]), (.tup [(.lit (.str (⟨⟨[99, 104, 97, 105, 110]⟩⟩))), (.lit (.str (⟨⟨[99]⟩⟩))), (.lit (.str (⟨⟨[97]⟩⟩))), (.tup [(.lit (.int 1)), (.lit (.int 0))])])])), (.set 3 (.lst [(.tup [(.lit (.str (⟨⟨[97, 103, 97, 105, 110, 115, 116]⟩⟩))), (.lit (.int 2)), (.bi .tuple [(.var 1)])]), (.tup [(.lit (.str (⟨⟨[115, 116, 101, 112, 115]⟩⟩))), (.bi .tuple [(.var 1)])]), (.tup [(.lit (.str (⟨⟨[97, 103, 97, 105, 110, 115, 116]⟩⟩))), (.lit (.int 1)), (.bi .tuple [(.var 1)])])])), (.ife (.cmp .ne (.comp [4] (.name 4) (.val (.var 3)) none (.pcall 31 [(.var 0), (.tup [(.lit (.str (⟨⟨[110, 111, 116]⟩⟩))), (.lit (.str (⟨⟨[98]⟩⟩))), (.lit (.str (⟨⟨[97]⟩⟩)))]), (.var 4)])) (.lst [(.lst [(.lit (.str (⟨⟨[97, 103, 97, 105, 110, 115, 116]⟩⟩)))]), (.lit (.str (⟨⟨[115, 116, 101, 112, 115]⟩⟩))), (.lit (.str (⟨⟨[97, 103, 97, 105, 110, 115, 116]⟩⟩)))])) [(.ret (.lit (.bl false)))] []), (.ret (.lit (.bl true)))]⟩
def d__law_hand_right : Df := ⟨⟨⟨[95, 108, 97, 119, 95, 104, 97, 110, 100, 95, 114, 105, 103, 104, 116]⟩⟩, [⟨⟨[95, 108, 97, 119, 95, 98, 111, 111, 107]⟩⟩, ⟨⟨[95, 108, 97, 119, 95, 114, 111, 119, 115]⟩⟩, ⟨⟨[95, 108, 97, 119, 95, 99, 108, 97, 105, 109]⟩⟩, ⟨⟨[95, 108, 97, 119, 95, 115, 111, 109, 101]⟩⟩, ⟨⟨[95, 108, 97, 119, 95, 111, 110, 101]⟩⟩], f__law_hand_right⟩
def f__law_lines_right : Fn := ⟨1, 10, [(.set 1 (.tup [(.lit (.str (⟨⟨[117, 110, 100, 101, 114]⟩⟩))), (.lit (.str (⟨⟨[97]⟩⟩))), (.lit (.str (⟨⟨[99]⟩⟩)))])), (.set 2 (.lst [(.tup [(.lit (.str (⟨⟨[115, 116, 101, 112, 115]⟩⟩))), (.tup [(.tup [(.lit (.str (⟨⟨[115, 97, 109, 101]⟩⟩))), (.lit (.str (⟨⟨[97]⟩⟩))), (.lit (.str (⟨⟨[99]⟩⟩))), (.tup [])])])]), (.tup [(.lit (.str (⟨⟨[115, 116, 101, 112, 115]⟩⟩))), (.tup [(.tup [(.lit (.str (⟨⟨[99, 108, 97, 105, 109]⟩⟩))), (.lit (.str (⟨⟨[97]⟩⟩))), (.lit (.str (⟨⟨[99]⟩⟩))), (.tup [])])])])])), (.set 3 (.tup [(.tup [(.lit (.str (⟨⟨[102, 97, 99, 116]⟩⟩))), (.lit (.str (⟨⟨[97]⟩⟩))), (.lit (.str (⟨⟨[98]⟩⟩))), (.tup [(.lit (.int 0))])]), (.tup [(.lit (.str (⟨⟨[102, 97, 99, 116]⟩⟩))), (.lit (.str (⟨⟨[99]⟩⟩))), (.lit (.str (⟨⟨[98]⟩⟩))), (.tup [(.lit (.int 1))])]), (.tup [(.lit (.str (⟨⟨[99, 104, 97, 105, 110]⟩⟩))), (.lit (.str (⟨⟨[97]⟩⟩))), (.lit (.str (⟨⟨[98]⟩⟩))), (.tup [(.lit (.int 0)), (.lit (.int 1))])])])), (.set 2 (.bin .add (.var 2) (.lst [(.tup [(.lit (.str (⟨⟨[115, 116, 101, 112, 115]⟩⟩))), (.bin .add (.slc (.var 3) none (some (.lit (.int 2)))) (.tup [(.tup [(.lit (.str (⟨⟨[99, 104, 97, 105, 110]⟩⟩))), (.lit (.str (⟨⟨[97]⟩⟩))), (.lit (.str (⟨⟨[99]⟩⟩))), (.tup [(.lit (.int 0)), (.lit (.int 1))])])]))]), (.tup [(.lit (.str (⟨⟨[115, 116, 101, 112, 115]⟩⟩))), (.tup [(.tup [(.lit (.str (⟨⟨[112, 97, 114, 116]⟩⟩))), (.lit (.str (⟨⟨[97]⟩⟩))), (.lit (.str (⟨⟨[99]⟩⟩))), (.tup [])])])])]))), (.unp [6, 7] (.tup [(.lit (.str (⟨⟨[97]⟩⟩))), (.lit (.str (⟨⟨[97]⟩⟩)))])), (.loop (.name 4) (.rng1 (.lit (.int 12))) [(.set 6 (.tup [(.lit (.str (⟨⟨[109, 101, 116]⟩⟩))), (.var 6), (.lit (.str (⟨⟨[97]⟩⟩)))]))]), (.loop (.name 4) (.rng1 (.lit (.int 5))) [(.set 7 (.tup [(.lit (.str (⟨⟨[109, 101, 116]⟩⟩))), (.var 7), (.var 7)]))]), (.set 5 (.tup [(.tup [(.lit (.str (⟨⟨[102, 97, 99, 116]⟩⟩))), (.lit (.str (⟨⟨[97]⟩⟩))), (.lit (.str (⟨⟨[98]⟩⟩))), (.tup [(.lit (.int 0))])]), (.tup [(.lit (.str (⟨⟨[102, 97, 99, 116]⟩⟩))), (.lit (.str (⟨⟨[98]⟩⟩))), (.lit (.str (⟨⟨[99]⟩⟩))), (.tup [(.lit (.int 1))])]), (.tup [(.lit (.str (⟨⟨[99, 104, 97, 105, 110]⟩⟩))), (.lit (.str (⟨⟨[97]⟩⟩))), (.lit (.str (⟨⟨[99]⟩⟩))), (.tup [(.lit (.int 0)), (.lit (.int 1))])])])), (.set 2 (.bin .add (.var 2) (.comp [8] (.name 8) (.val (.tup [(.var 6), (.var 7)])) none (.tup [(.lit (.str (⟨⟨[115, 116, 101, 112, 115]⟩⟩))), (.bin .add (.var 5) (.tup [(.tup [(.lit (.str (⟨⟨[115, 97, 109, 101]⟩⟩))), (.var 8), (.var 8), (.tup [])])]))])))), (.ife (.cmp .ne (.comp [9] (.name 9) (.val (.var 2)) none (.pcall 31 [(.var 0), (.var 1), (.var 9)])) (.bin .mul (.lst [(.lit (.str (⟨⟨[115, 116, 101, 112, 115]⟩⟩)))]) (.lit (.int 6)))) [(.ret (.lit (.bl false)))] []), (.ife (.cmp .ne (.pcall 31 [(.var 0), (.var 1), (.tup [(.lit (.str (⟨⟨[115, 116, 101, 112, 115]⟩⟩))), (.bin .add (.var 5) (.tup [(.tup [(.lit (.str (⟨⟨[115, 97, 109, 101]⟩⟩))), (.sub (.var 6) (.lit (.int 1))), (.sub (.var 6) (.lit (.int 1))), (.tup [])])]))])]) (.lst [(.lit (.str (⟨⟨[115, 116, 101, 112, 115]⟩⟩)))])) [(.ret (.lit (.bl false)))] []), (.set 2 (.lst [(.tup [(.lit (.str (⟨⟨[115, 116, 101, 112, 115]⟩⟩))), (.tup [(.tup [(.lit (.str (⟨⟨[102, 97, 99, 116]⟩⟩))), (.lit (.str (⟨⟨[98]⟩⟩))), (.lit (.str (⟨⟨[99]⟩⟩))), (.tup [(.lit (.int 1))])])])]), (.tup [(.lit (.str (⟨⟨[115, 116, 101, 112, 115]⟩⟩))), (.tup [(.sub (.var 3) (.lit (.int 1)))])]), (.tup [(.lit (.str (⟨⟨[115, 116, 101, 112, 115]⟩⟩))), (.tup [(.sub (.var 5) (.lit (.int 1))), (.sub (.var 3) (.lit (.int 1)))])])])), (.ife (.cmp .ne (.comp [9] (.name 9) (.val (.var 2)) none (.pcall 31 [(.var 0), (.tup [(.lit (.str (⟨⟨[97, 108, 105, 107, 101]⟩⟩))), (.lit (.str (⟨⟨[98]⟩⟩))), (.lit (.str (⟨⟨[99]⟩⟩)))]), (.var 9)])) (.lst [(.lit (.str (⟨⟨[115, 116, 101, 112, 115]⟩⟩))), (.lit (.str (⟨⟨[115, 116, 101, 112, 115]⟩⟩))), (.lst [(.lit (.str (⟨⟨[115, 116, 101, 112, 115]⟩⟩)))])])) [(.ret (.lit (.bl false)))] []), (.ife (.cmp .ne (.pcall 31 [(.var 0), (.tup [(.lit (.str (⟨⟨[117, 110, 100, 101, 114]⟩⟩))), (.lit (.str (⟨⟨[97]⟩⟩))), (.lit (.str (⟨⟨[98]⟩⟩)))]), (.tup [(.lit (.str (⟨⟨[115, 116, 101, 112, 115]⟩⟩))), (.var 3)])]) (.lit (.str (⟨⟨[115, 116, 101, 112, 115]⟩⟩)))) [(.ret (.lit (.bl false)))] []), (.ret (.lit (.bl true)))]⟩
def d__law_lines_right : Df := ⟨⟨⟨[95, 108, 97, 119, 95, 108, 105, 110, 101, 115, 95, 114, 105, 103, 104, 116]⟩⟩, [⟨⟨[95, 108, 97, 119, 95, 98, 111, 111, 107]⟩⟩, ⟨⟨[95, 108, 97, 119, 95, 99, 108, 97, 105, 109]⟩⟩, ⟨⟨[95, 108, 97, 119, 95, 115, 111, 109, 101]⟩⟩, ⟨⟨[95, 108, 97, 119, 95, 114, 111, 119, 115]⟩⟩, ⟨⟨[95, 108, 97, 119, 95, 107]⟩⟩, ⟨⟨[95, 108, 97, 119, 95, 103, 111, 111, 100]⟩⟩, ⟨⟨[95, 108, 97, 119, 95, 100, 101, 101, 112]⟩⟩, ⟨⟨[95, 108, 97, 119, 95, 119, 105, 100, 101]⟩⟩, ⟨⟨[95, 108, 97, 119, 95, 111, 100, 100]⟩⟩, ⟨⟨[95, 108, 97, 119, 95, 111, 110, 101]⟩⟩], f__law_lines_right⟩
def f_law : Fn := ⟨1, 6, [(.set 1 (.call 28 [(.var 0)])), (.set 2 (.tup [(.tup [(.lit (.str (⟨⟨[97]⟩⟩))), (.lit (.str (⟨⟨[98]⟩⟩))), (.lit (.str (⟨⟨[99]⟩⟩)))]), (.tup [(.tup [(.lit (.str (⟨⟨[117, 110, 100, 101, 114]⟩⟩))), (.lit (.str (⟨⟨[97]⟩⟩))), (.lit (.str (⟨⟨[98]⟩⟩)))]), (.tup [(.lit (.str (⟨⟨[97, 108, 105, 107, 101]⟩⟩))), (.lit (.str (⟨⟨[98]⟩⟩))), (.lit (.str (⟨⟨[99]⟩⟩)))]), (.tup [(.lit (.str (⟨⟨[110, 111, 116]⟩⟩))), (.lit (.str (⟨⟨[99]⟩⟩))), (.lit (.str (⟨⟨[97]⟩⟩)))])])])), (.set 3 (.call 29 [(.var 1), (.lit (.int 3))])), (.loop (.name 4) (.rng1 (.lit (.int 3))) [(.set 5 (.bin .mod (.bi .int [(.bin .add (.var 3) (.var 4))]) (.lit (.int 3)))), (.ife (.or (.and (.cmp .eq (.var 5) (.lit (.int 0))) (.not (.pcall 33 [(.var 2)]))) (.and (.cmp .eq (.var 5) (.lit (.int 1))) (.not (.pcall 34 [(.var 2)])))) [(.ret (.lit (.bl false)))] []), (.ife (.and (.cmp .eq (.var 5) (.lit (.int 2))) (.not (.pcall 32 [(.var 2)]))) [(.ret (.lit (.bl false)))] [])]), (.ret (.lit (.bl true)))]⟩
def d_law : Df := ⟨⟨⟨[108, 97, 119]⟩⟩, [⟨⟨[95, 108, 97, 119, 95, 115, 99, 114, 105, 112, 116]⟩⟩, ⟨⟨[95, 108, 97, 119, 95, 109]⟩⟩, ⟨⟨[95, 108, 97, 119, 95, 98, 111, 111, 107]⟩⟩, ⟨⟨[95, 108, 97, 119, 95, 102, 105, 114, 115, 116]⟩⟩, ⟨⟨[95, 108, 97, 119, 95, 116, 117, 114, 110]⟩⟩, ⟨⟨[95, 108, 97, 119, 95, 119, 97, 121]⟩⟩], f_law⟩
def dfs : List Df := [d_is_word, d_names_fault, d_extent, d_is_term, d_is_number, d_is_row, d_meet_in, d_join_in, d_rows_fault, d_order_fault, d_is_placing, d_value_in, d_is_fact, d_fact_for, d_holds_in, d_need_book, d_is_model_in, d_is_half, d_is_told_by, d_do_make, d_are_refs, d_is_line, d_pairs_of, d_do_steps_hold, d_do_lines_break, d_does_part, d_word_of, d_check_claim, d__law_begun, d__law_draw, d__law_of, d__law_heard, d__law_orders_right, d__law_hand_right, d__law_lines_right, d_law]
def consts : List (Str × Val) := [(⟨⟨[76, 69, 84, 84, 69, 82, 83]⟩⟩, (.str (⟨⟨[97, 98, 99, 100, 101, 102, 103, 104, 105, 106, 107, 108, 109, 110, 111, 112, 113, 114, 115, 116, 117, 118, 119, 120, 121, 122]⟩⟩))), (⟨⟨[77, 79, 83, 84, 95, 76, 69, 84, 84, 69, 82, 83]⟩⟩, (.int 6)), (⟨⟨[77, 79, 83, 84, 95, 78, 65, 77, 69, 83]⟩⟩, (.int 8)), (⟨⟨[77, 79, 83, 84, 95, 68, 69, 69, 80]⟩⟩, (.int 12)), (⟨⟨[77, 79, 83, 84, 95, 84, 69, 82, 77, 83]⟩⟩, (.int 60)), (⟨⟨[77, 69, 84]⟩⟩, (.str (⟨⟨[109, 101, 116]⟩⟩))), (⟨⟨[74, 79, 73, 78, 69, 68]⟩⟩, (.str (⟨⟨[106, 111, 105, 110, 101, 100]⟩⟩))), (⟨⟨[77, 79, 83, 84, 95, 84, 72, 73, 78, 71, 83]⟩⟩, (.int 64)), (⟨⟨[85, 78, 68, 69, 82]⟩⟩, (.str (⟨⟨[117, 110, 100, 101, 114]⟩⟩))), (⟨⟨[65, 76, 73, 75, 69]⟩⟩, (.str (⟨⟨[97, 108, 105, 107, 101]⟩⟩))), (⟨⟨[78, 79, 84]⟩⟩, (.str (⟨⟨[110, 111, 116]⟩⟩))), (⟨⟨[77, 79, 83, 84, 95, 70, 65, 67, 84, 83]⟩⟩, (.int 10)), (⟨⟨[83, 65, 77, 69]⟩⟩, (.str (⟨⟨[115, 97, 109, 101]⟩⟩))), (⟨⟨[70, 65, 67, 84]⟩⟩, (.str (⟨⟨[102, 97, 99, 116]⟩⟩))), (⟨⟨[80, 65, 82, 84]⟩⟩, (.str (⟨⟨[112, 97, 114, 116]⟩⟩))), (⟨⟨[67, 72, 65, 73, 78]⟩⟩, (.str (⟨⟨[99, 104, 97, 105, 110]⟩⟩))), (⟨⟨[67, 76, 65, 73, 77]⟩⟩, (.str (⟨⟨[99, 108, 97, 105, 109]⟩⟩))), (⟨⟨[77, 79, 83, 84, 95, 76, 73, 78, 69, 83]⟩⟩, (.int 4000)), (⟨⟨[83, 84, 69, 80, 83]⟩⟩, (.str (⟨⟨[115, 116, 101, 112, 115]⟩⟩))), (⟨⟨[65, 71, 65, 73, 78, 83, 84]⟩⟩, (.str (⟨⟨[97, 103, 97, 105, 110, 115, 116]⟩⟩))), (⟨⟨[79, 82, 68, 69, 82]⟩⟩, (.str (⟨⟨[111, 114, 100, 101, 114]⟩⟩))), (⟨⟨[70, 79, 82, 77]⟩⟩, (.str (⟨⟨[102, 111, 114, 109]⟩⟩)))]
def free : List Str := [⟨⟨[86, 97, 108, 117, 101, 69, 114, 114, 111, 114]⟩⟩, ⟨⟨[97, 108, 108]⟩⟩, ⟨⟨[98, 111, 111, 108]⟩⟩, ⟨⟨[100, 105, 99, 116]⟩⟩, ⟨⟨[101, 110, 117, 109, 101, 114, 97, 116, 101]⟩⟩, ⟨⟨[105, 110, 116]⟩⟩, ⟨⟨[105, 115, 105, 110, 115, 116, 97, 110, 99, 101]⟩⟩, ⟨⟨[108, 101, 110]⟩⟩, ⟨⟨[109, 97, 120]⟩⟩, ⟨⟨[114, 97, 110, 103, 101]⟩⟩, ⟨⟨[115, 116, 114]⟩⟩, ⟨⟨[115, 117, 112, 101, 114]⟩⟩, ⟨⟨[116, 117, 112, 108, 101]⟩⟩, ⟨⟨[122, 105, 112]⟩⟩]
def excs : List (Str × List Str × XB) := [(⟨⟨[75, 105, 110, 100, 69, 114, 114, 111, 114]⟩⟩, [], .ve), (⟨⟨[66, 97, 100, 70, 97, 99, 116]⟩⟩, [⟨⟨[103, 105, 118, 101, 110]⟩⟩], .ve), (⟨⟨[66, 97, 100, 66, 111, 111, 107]⟩⟩, [⟨⟨[112, 97, 114, 116]⟩⟩, ⟨⟨[110, 117, 109, 98, 101, 114]⟩⟩], .ve), (⟨⟨[66, 97, 100, 80, 97, 112, 101, 114]⟩⟩, [⟨⟨[112, 108, 97, 99, 101]⟩⟩], .ve)]
def cat : List (List Bool) := [[true, false, false, false], [true, true, false, false], [true, false, true, false], [true, false, false, true]]
def mod : Mod := ⟨dfs, consts, free, excs, cat, ⟨⟨[47, 99, 108, 97, 105, 109, 47, 99, 117, 116, 46, 112, 121]⟩⟩⟩
-- law index 35

def book : Val := .tup [.tup [.str ⟨⟨[97]⟩⟩, .str ⟨⟨[98]⟩⟩, .str ⟨⟨[99]⟩⟩], .tup [.tup [.str ⟨⟨[117, 110, 100, 101, 114]⟩⟩, .str ⟨⟨[97]⟩⟩, .str ⟨⟨[98]⟩⟩], .tup [.str ⟨⟨[97, 108, 105, 107, 101]⟩⟩, .str ⟨⟨[98]⟩⟩, .str ⟨⟨[99]⟩⟩], .tup [.str ⟨⟨[110, 111, 116]⟩⟩, .str ⟨⟨[99]⟩⟩, .str ⟨⟨[97]⟩⟩]]]
def isT (r : Res Val) : Bool := match r with
  | .ok (.bl true) _ => true
  | _ => false
theorem isT_ok {r : Res Val} (h : isT r = true) : ∃ h', r = .ok (.bl true) h' := by
  unfold isT at h
  split at h
  · exact ⟨_, rfl⟩
  · cases h
theorem sand_ok {r : Res Val} (e : isT r = true) (h : LHeap) : sand r h = .ok (.bl true) h := by
  obtain ⟨h', rfl⟩ := isT_ok e
  rfl
theorem t32 : isT (callN mod.cl mod.fns 60 32 [book] heapE) = true := by decide +kernel
theorem t33 : isT (callN mod.cl mod.fns 60 33 [book] heapE) = true := by decide +kernel
theorem t34 : isT (callN mod.cl mod.fns 60 34 [book] heapE) = true := by decide +kernel
theorem law_body {C : Nat → List Val → LHeap → Res Val} {h0 h1 h2 : LHeap} {d : Int} (e1 : C 28 [.ref 0] h0 = .ok (.ref 2) h1) (e2 : C 29 [.ref 2, .int 3] h1 = .ok (.int d) h2) (d0 : 0 ≤ d) (d3 : d < 3)
    (p32 : ∀ h, sand (C 32 [book] heapE) h = .ok (.bl true) h) (p33 : ∀ h, sand (C 33 [book] heapE) h = .ok (.bl true) h) (p34 : ∀ h, sand (C 34 [book] heapE) h = .ok (.bl true) h) : runFn mod.cl C f_law [.ref 0] h0 = .ok (.bl true) h2 := by
  obtain ⟨n, hn⟩ := fuel_eq
  have key : execs (rec mod.cl C fuel) f_law.body [some (.ref 0), none, none, none, none, none] h0 = .ok (.rt (.bl true)) h2 := by
    rw [hn]
    have hd : d = 0 ∨ d = 1 ∨ d = 2 := by omega
    have pb : pureVs [book] = true := rfl
    have eb : (rec mod.cl C (n + 199)).e (.tup [(.tup [(.lit (.str (⟨⟨[97]⟩⟩))), (.lit (.str (⟨⟨[98]⟩⟩))), (.lit (.str (⟨⟨[99]⟩⟩)))]), (.tup [(.tup [(.lit (.str (⟨⟨[117, 110, 100, 101, 114]⟩⟩))), (.lit (.str (⟨⟨[97]⟩⟩))), (.lit (.str (⟨⟨[98]⟩⟩)))]), (.tup [(.lit (.str (⟨⟨[97, 108, 105, 107, 101]⟩⟩))), (.lit (.str (⟨⟨[98]⟩⟩))), (.lit (.str (⟨⟨[99]⟩⟩)))]), (.tup [(.lit (.str (⟨⟨[110, 111, 116]⟩⟩))), (.lit (.str (⟨⟨[99]⟩⟩))), (.lit (.str (⟨⟨[97]⟩⟩)))])])]) [some (.ref 0), some (.ref 2), none, none, none, none] h1 = .ok book h1 := rfl
    have b : ∀ (k : Nat) (s : LSt), getV s 2 = some book → evs (rec mod.cl C (k + 1)) [.var 2] s h2 = .ok [book] h2 := fun k s q => by
      rw [evs_consE, e_var, q, optR_some, bind_okE, evs_nilE, bind_okE]
    have q32 : ∀ (k : Nat) (s : LSt), getV s 2 = some book → (rec mod.cl C (k + 3)).t (.pcall 32 [.var 2]) s h2 = .ok true h2 := fun k s q => by
      rw [t_pcall, e_pcall, b _ _ q, bind_okE, pb]
      dsimp only
      rw [p32]
      rfl
    have q33 : ∀ (k : Nat) (s : LSt), getV s 2 = some book → (rec mod.cl C (k + 3)).t (.pcall 33 [.var 2]) s h2 = .ok true h2 := fun k s q => by
      rw [t_pcall, e_pcall, b _ _ q, bind_okE, pb]
      dsimp only
      rw [p33]
      rfl
    have q34 : ∀ (k : Nat) (s : LSt), getV s 2 = some book → (rec mod.cl C (k + 3)).t (.pcall 34 [.var 2]) s h2 = .ok true h2 := fun k s q => by
      rw [t_pcall, e_pcall, b _ _ q, bind_okE, pb]
      dsimp only
      rw [p34]
      rfl
    unfold f_law
    dsimp only
    rw [execs_cons, s_set, e_call, evs_consE, e_var, show getV [some (Val.ref 0), none, none, none, none, none] 0 = some (.ref 0) from rfl, optR_some, bind_okE, evs_nilE, bind_okE, bind_okE, e1, inS_okE, next_nx]
    rw [show setV [some (Val.ref 0), none, none, none, none, none] 1 (.ref 2) = [some (.ref 0), some (.ref 2), none, none, none, none] from rfl, execs_cons, s_set, eb, inS_okE, next_nx]
    rw [execs_cons, s_set, e_call]
    rw [show evs (rec mod.cl C (n + 198)) [.var 1, .lit (.int 3)] (setV [some (.ref 0), some (.ref 2), none, none, none, none] 2 book) h1 = .ok [.ref 2, .int 3] h1 from rfl, bind_okE, e2, inS_okE, next_nx]
    rw [execs_cons, s_loop, show evIt (rec mod.cl C (n + 199)) (.rng1 (.lit (.int 3))) (setV (setV [some (.ref 0), some (.ref 2), none, none, none, none] 2 book) 3 (.int d)) h2 = .ok (.st [.int 0, .int 1, .int 2]) h2 from rfl, inS_okE, loopAll_st]
    have turn1 : ∀ (s : LSt) (i : Int) (u v : Option Val), i = 0 ∨ i = 1 ∨ i = 2 → ∃ v', loopOne (rec mod.cl C (n + 199)) (.name 4) [(.set 5 (.bin .mod (.bi .int [(.bin .add (.var 3) (.var 4))]) (.lit (.int 3)))), (.ife (.or (.and (.cmp .eq (.var 5) (.lit (.int 0))) (.not (.pcall 33 [(.var 2)]))) (.and (.cmp .eq (.var 5) (.lit (.int 1))) (.not (.pcall 34 [(.var 2)])))) [(.ret (.lit (.bl false)))] []), (.ife (.and (.cmp .eq (.var 5) (.lit (.int 2))) (.not (.pcall 32 [(.var 2)]))) [(.ret (.lit (.bl false)))] [])] (.int i)
        [some (.ref 0), some (.ref 2), some book, some (.int d), u, v] h2 = .ok (.nx [some (.ref 0), some (.ref 2), some book, some (.int d), some (.int i), some v']) h2 := by
      intro s i u v hi
      have way : ∃ w : Int, (d + i) % 3 = w ∧ (w = 0 ∨ w = 1 ∨ w = 2) := ⟨_, rfl, by omega⟩
      obtain ⟨w, ew, hw⟩ := way
      refine ⟨.int w, ?_⟩
      show execs (rec mod.cl C (n + 199)) _ [some (.ref 0), some (.ref 2), some book, some (.int d), some (.int i), v] h2 = _
      rw [execs_cons, s_set, show (rec mod.cl C (n + 198)).e (.bin .mod (.bi .int [(.bin .add (.var 3) (.var 4))]) (.lit (.int 3))) [some (.ref 0), some (.ref 2), some book, some (.int d), some (.int i), v] h2 = .ok (.int ((d + i) % 3)) h2 from rfl, ew, inS_okE, next_nx]
      rw [show setV [some (.ref 0), some (.ref 2), some book, some (.int d), some (.int i), v] 5 (.int w) = [some (.ref 0), some (.ref 2), some book, some (.int d), some (.int i), some (.int w)] from rfl]
      have hg : getV [some (.ref 0), some (.ref 2), some book, some (.int d), some (.int i), some (.int w)] 2 = some book := rfl
      have c : ∀ (k : Nat) (j : Int), (rec mod.cl C (k + 4)).t (.cmp .eq (.var 5) (.lit (.int j))) [some (.ref 0), some (.ref 2), some book, some (.int d), some (.int i), some (.int w)] h2 = .ok (decide (w = j)) h2 := fun k j => rfl
      rw [execs_cons, s_ife, t_or, t_and, c, bind_okE]
      rcases hw with rfl | rfl | rfl
      · simp only [t_and, t_not, q33 _ _ hg, q32 _ _ hg, q34 _ _ hg, c, bind_okE, inS_okE, execs_cons, execs_nil, s_ife, next_nx, next_rt, decide_true, Bool.not_true, show decide ((0 : Int) = 1) = false from rfl, show decide ((0 : Int) = 2) = false from rfl, show decide ((0 : Int) = 0) = true from rfl]
      · simp only [t_and, t_not, q33 _ _ hg, q32 _ _ hg, q34 _ _ hg, c, bind_okE, inS_okE, execs_cons, execs_nil, s_ife, next_nx, next_rt, decide_true, Bool.not_true, show decide ((1 : Int) = 1) = true from rfl, show decide ((1 : Int) = 2) = false from rfl, show decide ((1 : Int) = 0) = false from rfl]
      · simp only [t_and, t_not, q33 _ _ hg, q32 _ _ hg, q34 _ _ hg, c, bind_okE, inS_okE, execs_cons, execs_nil, s_ife, next_nx, next_rt, decide_true, Bool.not_true, show decide ((2 : Int) = 1) = false from rfl, show decide ((2 : Int) = 2) = true from rfl, show decide ((2 : Int) = 0) = false from rfl]
    rw [show setV (setV [some (.ref 0), some (.ref 2), none, none, none, none] 2 book) 3 (.int d) = [some (.ref 0), some (.ref 2), some book, some (.int d), none, none] from rfl]
    unfold loopSt
    obtain ⟨v1, z1⟩ := turn1 [] 0 none none (by omega)
    rw [z1, turn_nx]
    unfold loopSt
    obtain ⟨v2, z2⟩ := turn1 [] 1 (some (.int 0)) (some v1) (by omega)
    rw [z2, turn_nx]
    unfold loopSt
    obtain ⟨v3, z3⟩ := turn1 [] 2 (some (.int 1)) (some v2) (by omega)
    rw [z3, turn_nx]
    rfl
  show (match execs (rec mod.cl C fuel) f_law.body [some (.ref 0), none, none, none, none, none] h0 with
    | .ok (.nx _) h1 => Res.ok Val.non h1
    | .ok (.rt v) h1 => .ok v h1
    | .ok _ _ => .bad
    | .exc c fs _ h1 => .exc c fs h1
    | .bad => .bad) = _
  rw [key]
theorem law_run (ns : List Int) (hl : ns.length ≤ 63) : ∃ h', callN mod.cl mod.fns 61 35 [.ref 0] (heap0 ns) = .ok (.bl true) h' := by
  obtain ⟨h1, e1, m1, k1⟩ := begun_ok (cl := mod.cl) (C := callN mod.cl mod.fns 59) hl
  obtain ⟨d, h2, e2, d0, d3, m2, k2⟩ := draw_ok (cl := mod.cl) (C := callN mod.cl mod.fns 59) (lim := 3) m1 (by decide) (by decide) (by decide)
  exact ⟨h2, law_body (C := callN mod.cl mod.fns 60) e1 e2 d0 d3 (sand_ok t32) (sand_ok t33) (sand_ok t34)⟩

abbrev R : PySem.W.OpenRow := PySem.W.OpenLaw.row PySem.Challenge.rw_metjoined_k17_papers_by_hand
abbrev qv : Program := PySem.W.view R.prog [67]
def names0 : List PySem.Str := ["KindError", "BadFact", "BadBook", "BadPaper", "LETTERS", "MOST_LETTERS", "MOST_NAMES", "MOST_DEEP", "MOST_TERMS", "MET", "JOINED", "is_word", "names_fault", "extent", "is_term", "MOST_THINGS", "UNDER", "ALIKE", "NOT", "is_number", "is_row", "meet_in", "join_in", "rows_fault", "order_fault", "is_placing", "value_in", "is_fact", "fact_for", "holds_in"]
def names1 : List PySem.Str := ["MOST_FACTS", "need_book", "is_model_in", "SAME", "FACT", "PART", "CHAIN", "CLAIM", "MOST_LINES", "STEPS", "AGAINST", "ORDER", "FORM", "is_half", "is_told_by", "do_make", "are_refs", "is_line", "pairs_of", "do_steps_hold", "do_lines_break", "does_part", "word_of", "check_claim", "_law_begun", "_law_draw", "_law_of", "_law_heard", "_law_orders_right", "_law_hand_right"]
def names2 : List PySem.Str := ["_law_lines_right"]
def names : List PySem.Str := names0 ++ names1 ++ names2
theorem run (w : World) : HandSHeadRun.RunEq R qv (hookE mod.ok) (obE mod.ok) 40000 names w := by
  intro os
  kernel_rfl
end Ev.Law
open PySem PySem.W PySem.Calls PyProof.Rows
theorem PySem.Challenge.cw_metjoined_k17_papers_by_hand_holds : PySem.Challenge.rw_metjoined_k17_papers_by_hand.Holds := by
  w_on; o_law
  refine HandSHeadRun.head_any (r := OpenLaw.row PySem.Challenge.rw_metjoined_k17_papers_by_hand) (q := Ev.Law.qv) (H := Ev.hookE Ev.Law.mod.ok) (ob := Ev.obE Ev.Law.mod.ok) (M := 40000) (loose := Ev.Law.names) (d := HandSHeadRun.topDef (OpenLaw.row PySem.Challenge.rw_metjoined_k17_papers_by_hand).prog 67) (kwd := []) (Ev.obE_eq Ev.Law.mod.ok)
    (by kernel_rfl) (fun s => by kernel_rfl) Ev.Law.run (by kernel_rfl) (by kernel_rfl) (by kernel_rfl) (by rfl) (by first | assumption | decide +kernel) (by decide +kernel) ⟨rfl, rfl, rfl, rfl, rfl, by decide +kernel⟩ ?hw ?hc
  case hw => w_witness2
  case hc =>
    refine Ev.walk_ev (l := PySem.Challenge.rw_metjoined_k17_papers_by_hand) (n := 63) (k := 61) (x := "_law_script") rfl (by decide) (by kernel_rfl) ⟨rfl, by decide, by decide⟩ ?F
    intro w mg fa h Y G hmg0
    have hmg : mg Ev.Law.d_law.x = some (.ref fa) := by
      have e : (HandSHeadRun.topDef (OpenLaw.row PySem.Challenge.rw_metjoined_k17_papers_by_hand).prog 67).name = Ev.Law.d_law.x := by kernel_rfl
      rw [← e]
      exact hmg0
    exact Ev.law_at Ev.Law.mod (l := PySem.Challenge.rw_metjoined_k17_papers_by_hand) (n := 63) (k := 60) (i := 35) (dL := Ev.Law.d_law) (by kernel_rfl) (by kernel_rfl) (by kernel_rfl) (by kernel_rfl) (by kernel_rfl) Ev.Law.law_run w mg fa h Y G hmg


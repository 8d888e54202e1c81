import PyProof.Rows.All
import HandS.ForMost
import HandS.Wide
import HandS.WideBits
import HandS.Deep
import HandS.Star
import HandS.TupAny
import HandS.SortInts
import HandS.RaiseMore
import HandS.Codes
import HandS.Property
import HandS.TupMul
import HandS.SetFor
import HandS.IsInst
import HandS.Rev
import HandS.Style
import HandS.Iter
import HandS.Zip
import KE.GoesEnum
import HandS.Comp
import HandS.TryOnly
import HandS.Words
import HandS.EndBits
import HandS.Text
import PySem.Challenge.RW_countertables_k56_whole_machines_that_ar
set_option Elab.async false
section
set_option linter.all false
set_option maxRecDepth 100000
/-! Co1: a small core language: values as trees, an abstract heap of what is changed, an interpreter. -/
namespace Co
open PySem L2

inductive Val where
  | non | bl (b : Bool) | int (i : Int) | str (s : Str)
  | tup (vs : List Val) | lst (vs : List Val) | ro (vs : List Val)
  | dct (kvs : List (Key × Val))
  | ins (c : Nat) (fs : List (Key × Val))
  | ref (n : Nat)
  deriving Inhabited

mutual
def Val.beq : Val → Val → Bool
  | .non, .non => true
  | .bl a, .bl b => decide (a = b)
  | .int a, .int b => decide (a = b)
  | .str a, .str b => decide (a = b)
  | .tup a, .tup b => Val.beqL a b
  | .lst a, .lst b => Val.beqL a b
  | .ro a, .ro b => Val.beqL a b
  | .dct a, .dct b => Val.beqK a b
  | .ins c a, .ins d b => decide (c = d) && Val.beqK a b
  | .ref a, .ref b => decide (a = b)
  | _, _ => false
def Val.beqL : List Val → List Val → Bool
  | [], [] => true
  | a :: r, b :: s => Val.beq a b && Val.beqL r s
  | _, _ => false
def Val.beqK : List (Key × Val) → List (Key × Val) → Bool
  | [], [] => true
  | (k, a) :: r, (m, b) :: s => decide (k = m) && (Val.beq a b && Val.beqK r s)
  | _, _ => false
end
mutual
theorem Val.beq_eq : ∀ a b : Val, Val.beq a b = true → a = b
  | .non, b, h => by cases b <;> simp_all [Val.beq]
  | .bl a, b, h => by cases b <;> simp_all [Val.beq]
  | .int a, b, h => by cases b <;> simp_all [Val.beq]
  | .str a, b, h => by cases b <;> simp_all [Val.beq]
  | .tup a, b, h => by cases b <;> simp [Val.beq] at h; rw [Val.beqL_eq _ _ h]
  | .lst a, b, h => by cases b <;> simp [Val.beq] at h; rw [Val.beqL_eq _ _ h]
  | .ro a, b, h => by cases b <;> simp [Val.beq] at h; rw [Val.beqL_eq _ _ h]
  | .dct a, b, h => by cases b <;> simp [Val.beq] at h; rw [Val.beqK_eq _ _ h]
  | .ins c a, b, h => by cases b <;> simp [Val.beq] at h; rw [h.1, Val.beqK_eq _ _ h.2]
  | .ref a, b, h => by cases b <;> simp_all [Val.beq]
theorem Val.beqL_eq : ∀ a b : List Val, Val.beqL a b = true → a = b
  | [], b, h => by cases b <;> simp_all [Val.beqL]
  | x :: r, b, h => by
    cases b with
    | nil => simp [Val.beqL] at h
    | cons y s => simp [Val.beqL] at h; rw [Val.beq_eq _ _ h.1, Val.beqL_eq _ _ h.2]
theorem Val.beqK_eq : ∀ a b : List (Key × Val), Val.beqK a b = true → a = b
  | [], b, h => by cases b <;> simp_all [Val.beqK]
  | (k, x) :: r, b, h => by
    cases b with
    | nil => simp [Val.beqK] at h
    | cons y s =>
      obtain ⟨m, y⟩ := y
      simp [Val.beqK] at h
      rw [h.1, Val.beq_eq _ _ h.2.1, Val.beqK_eq _ _ h.2.2]
end
mutual
theorem Val.beq_refl : ∀ a : Val, Val.beq a a = true
  | .non => rfl
  | .bl a => by simp [Val.beq]
  | .int a => by simp [Val.beq]
  | .str a => by simp [Val.beq]
  | .tup a => by simp [Val.beq, Val.beqL_refl a]
  | .lst a => by simp [Val.beq, Val.beqL_refl a]
  | .ro a => by simp [Val.beq, Val.beqL_refl a]
  | .dct a => by simp [Val.beq, Val.beqK_refl a]
  | .ins c a => by simp [Val.beq, Val.beqK_refl a]
  | .ref a => by simp [Val.beq]
theorem Val.beqL_refl : ∀ a : List Val, Val.beqL a a = true
  | [] => rfl
  | x :: r => by simp [Val.beqL, Val.beq_refl x, Val.beqL_refl r]
theorem Val.beqK_refl : ∀ a : List (Key × Val), Val.beqK a a = true
  | [] => rfl
  | (k, x) :: r => by simp [Val.beqK, Val.beq_refl x, Val.beqK_refl r]
end
instance : DecidableEq Val := fun a b => if h : Val.beq a b = true then .isTrue (Val.beq_eq a b h) else .isFalse fun e => h (e ▸ Val.beq_refl a)

/-- an object that may change -/
inductive Ob where
  | lst (vs : List Val)
  | ins (c : Nat) (fs : List (Key × Val))
abbrev Hh := List Ob

/-- what a run gives -/
inductive Res (α : Type) where
  | ok (a : α) (h : Hh)
  | bad
def Res.bind {α β : Type} : Res α → (α → Hh → Res β) → Res β
  | .ok a h, f => f a h
  | .bad, _ => .bad
@[simp] theorem Res.bind_ok {α β : Type} (a : α) (h : Hh) (f : α → Hh → Res β) : (Res.ok a h).bind f = f a h := rfl
@[simp] theorem Res.bind_bad {α β : Type} (f : α → Hh → Res β) : (Res.bad : Res α).bind f = .bad := rfl
theorem Res.bind_eq {α β : Type} {r : Res α} {f : α → Hh → Res β} {b : β} {h' : Hh} (e : r.bind f = .ok b h') : ∃ a h, r = .ok a h ∧ f a h = .ok b h' := by
  cases r with
  | ok a h => exact ⟨a, h, rfl, e⟩
  | bad => cases e
def opt {α : Type} (o : Option α) (h : Hh) : Res α := match o with | some a => .ok a h | none => .bad
@[simp] theorem opt_some {α : Type} (a : α) (h : Hh) : opt (some a) h = .ok a h := rfl
@[simp] theorem opt_none {α : Type} (h : Hh) : opt (none : Option α) h = .bad := rfl
theorem opt_eq {α : Type} {o : Option α} {h h' : Hh} {a : α} (e : opt o h = .ok a h') : o = some a ∧ h' = h := by
  cases o with
  | none => cases e
  | some b => cases e; exact ⟨rfl, rfl⟩

/-! ### operations by values -/
/-- the most items, signs -/
abbrev lim : Nat := 16777216
/-- a list that may change, as it stands -/
def rd (h : Hh) (v : Val) : Val := match v with
  | .ref n => (match h[n]? with | some (.lst vs) => .lst vs | _ => v)
  | v => v

def asL (vs : List Val) (h : Hh) : List Val := vs.map (rd h)
/-! data: nested to so deep -/
mutual
def toD : Nat → Val → Option PyData
  | _, .non => some .none
  | _, .bl b => some (.bool b)
  | _, .int i => some (.int i)
  | _, .str s => if s.cps.all (· < 0x110000) then some (.str s) else none
  | k + 1, .tup vs => (toDL k vs).map .tuple
  | k + 1, .lst vs => (toDL k vs).map .list
  | _, _ => none
def toDL : Nat → List Val → Option (List PyData)
  | _, [] => some []
  | k, v :: r => (toD k v).bind fun d => (toDL k r).map fun ds => d :: ds
end
def eqD (a b : Val) : Option Bool := (toD 60 a).bind fun d => (toD 60 b).map fun e => PyData.eqv d e
def inD (a : Val) : List Val → Option Bool
  | [] => some false
  | b :: r => (eqD b a).bind fun k => (inD a r).map fun m => k || m

def mulOk (i j : Int) : Bool := decide (i.natAbs < 2 ^ 64) || (decide (j.natAbs < 2 ^ 64) || decide (i.natAbs.log2 + j.natAbs.log2 < 1000000))
def divOk (i j : Int) : Bool := !decide (j = 0) && !Builtin.divisionGoesByPylong i j
def powOk (i j : Int) : Bool := decide (0 ≤ j) && (decide (j ≤ 1000000) && decide (i.natAbs < 2 ^ 64))
def repOk (n : Nat) (k : Int) : Bool := decide (0 ≤ k) && (decide (k < 2 ^ 63) && decide (n * k.toNat ≤ lim))
def bop : Operator → Val → Val → Option Val
  | .Add, .int i, .int j => some (.int (i + j))
  | .Add, .str x, .str y => if x.length + y.length ≤ lim then some (.str (x ++ y)) else none
  | .Add, .lst xs, .lst ys => if xs.length + ys.length ≤ lim then some (.lst (xs ++ ys)) else none
  | .Add, .tup xs, .tup ys => if xs.length + ys.length ≤ lim then some (.tup (xs ++ ys)) else none
  | .Sub, .int i, .int j => some (.int (i - j))
  | .Mult, .int i, .int j => if mulOk i j = true then some (.int (i * j)) else none
  | .Mult, .lst xs, .int k => if repOk xs.length k = true then some (.lst (List.replicate k.toNat xs).flatten) else none
  | .Mult, .tup xs, .int k => if xs ≠ [] ∧ 1 ≤ k ∧ k ≤ 1000 ∧ xs.length ≤ 1000 then some (.tup (List.replicate k.toNat xs).flatten) else none
  | .FloorDiv, .int i, .int j => if divOk i j = true then some (.int (i.fdiv j)) else none
  | .Mod, .int i, .int j => if j = 0 then none else some (.int (i.fmod j))
  | .Pow, .int i, .int j => if powOk i j = true then some (.int (i ^ j.toNat)) else none
  | _, _, _ => none
def lexLt : List Int
                        → List Int → Bool
  | [], [] => false
  | [], _ :: _ => true
  | _ :: _, [] => false
  | x :: xs, y :: ys => if x = y then lexLt xs ys else decide
                          (x < y)
def intsV : List Val → Option (List Int)
  | [] => some []
  | .int i :: r => (intsV r).map (i :: ·)
  | _ :: _ => none
def blsV : List Val → Option (List Bool)
  | [] => some []
  | .bl i :: r => (blsV r).map (i :: ·)
  | _ :: _ => none
def strsV : List Val → Option (List Str)
  | [] => some []
  | .str i :: r => (strsV r).map (i :: ·)
  | _ :: _ => none
def putW (k : Key) (v : Val) : List (Key × Val) → List (Key × Val)
  | [] => [(k, v)]
  | (m, w) :: r => if m = k then (m, v) :: r else (m, w) :: putW k v r
def isNon : Val → Bool
  | .non => true
  | _ => false
def keyOf : Val → Option Key
  | .int i => some (.inl i)
  | .str s => some (.inr s)
  | _ => none
def keyIn (k : Key) (kvs : List (Key × Val)) : Bool := (kvs.find? fun p => decide (p.1 = k)).isSome
def keyGet (k : Key) (kvs : List (Key × Val)) : Option Val := (kvs.find? fun p => decide (p.1 = k)).map (·.2)
def memb (a : Val) : Val → Option Bool
  | .lst xs => (toD 60 a).bind fun _ => inD a xs
  | .tup xs => (toD 60 a).bind fun _ => inD a xs
  | .dct kvs => (keyOf a).map fun k => keyIn k kvs
  | .str z => (match a with | .str t => (match t.cps.toList with | [c] => some (decide (c ∈ z.cps.toList)) | _ => none) | _ => none)
  | _ => none
def isTr (b : Bool) : Val → Option Bool
  | .bl a => some (decide (a = b))
  | .non => some false
  | _ => none
def cop : CmpOp → Val → Val → Option Bool
  | .Eq, .str x, .str y => some (decide (x = y))
  | .NotEq, .str x, .str y => some (!decide (x = y))
  | .Eq, .lst (_ :: _), .lst [] => some false
  | .NotEq, .lst (_ :: _), .lst [] => some true
  | .Eq, a, b => eqD a b
  | .NotEq, a, b => (eqD a b).map not
  | .Lt, .int i, .int j => some (decide (i < j))
  | .LtE, .int i, .int j => some (decide (i ≤ j))
  | .Gt, .int i, .int j => some (decide (j < i))
  | .GtE, .int i, .int j => some (decide (j ≤ i))
  | .Is, a, .non => some (isNon a)
  | .IsNot, a, .non => some (!isNon a)
  | .Is, a, .bl b => isTr b a
  | .IsNot, a, .bl b => (isTr b a).map not
  | .In, a, b => memb a b
  | .NotIn, a, b => (memb a b).map not
  | _, _, _ => none

/-! ### built-in functions by values -/
inductive IsT where
  | int | bool | str | tuple | list | dict | cls (c : Nat)
  deriving DecidableEq
def isIns (h : Hh) : IsT → Val → Bool
  | .int, .int _ => true
  | .int, .bl _ => true
  | .bool, .bl _ => true
  | .str, .str _ => true
  | .tuple, .tup _ => true
  | .list, .lst _ => true
  | .list, .ro _ => true
  | .list, .ref n => (match h[n]? with | some (.lst _) => true | _ => false)
  | .dict, .dct _ => true
  | .cls c, .ins d _ => decide (d = c)
  | .cls c, .ref n => (match h[n]? with | some (.ins d _) => decide (d = c) | _ => false)
  | _, _ => false
/-- its class is known -/
def kindOk (ncl : Nat) (h : Hh) : Val → Bool
  | .ins c _ => decide (c < ncl)
  | .ref n => (match h[n]? with | some (.ins c _) => decide (c < ncl) | some (.lst _) => true | none => false)
  | _ => true
def insI
                        (x : Int) : List Int → List Int
  | [] => [x]
  | y :: r => if x ≤ y then x :: y :: r else y :: insI x r
def sortI : List Int → List Int
  | [] => []
  | x :: r => insI x (sortI r)
def maxI : Int → List Int → Int
  | x, [] => x
  | x, y :: r => maxI (if x < y then y else x) r
def minI : Int → List Int → Int
  | x, [] => x
  | x, y :: r => minI (if y < x then y else x) r
def nodupI : List Int → List Int
  | [] => []
  | x :: r => if decide (x ∈ r) = true then nodupI r else x :: nodupI r
inductive Bi where
  | abs | all | any | bool | divmod | int | len | max | min | str | sum | tuple | list | sorted | sset | repr
  deriving DecidableEq
def seqOf : Val → Option (List Val)
  | .lst xs => some xs
  | .tup xs => some xs
  | _ => none
def bi : Bi → List Val → Option Val
  | .abs, [.int i] => some (.int (if i < 0 then -i else i))
  | .all, [.lst xs] => (blsV xs).map fun bs => .bl (bs.all id)
  | .any, [.lst xs] => (blsV xs).map fun bs => .bl (bs.any id)
  | .bool, [.bl b] => some (.bl b)
  | .bool, [.int i] => some (.bl (i != 0))
  | .divmod, [.int i, .int j] => if 0 < j ∧ Builtin.divisionGoesByPylong i j = false then some (.tup [.int (i / j), .int (i % j)]) else none
  | .int, [.int i] => some (.int i)
  | .int, [.bl b] => some (.int (if b then 1 else 0))
  | .int, [.str s] => if s.length ≤ 640 then (PySem.intText? s).map .int else none
  | .len, [.lst xs] => some (.int xs.length)
  | .len, [.tup xs] => some (.int xs.length)
  | .len, [.ro xs] => some (.int xs.length)
  | .len, [.dct xs] => some (.int xs.length)
  | .len, [.str s] => if s.length ≤ lim then some (.int s.length) else none
  | .max, [.int i, .int j] => some (.int (if j > i then j else i))
  | .min, [.int i, .int j] => some (.int (if j < i then j else i))
  | .max, [.lst xs] => (intsV xs).bind fun l => (match l with | [] => none | x :: r => some (.int (maxI x r)))
  | .min, [.lst xs] => (intsV xs).bind fun l => (match l with | [] => none | x :: r => some (.int (minI x r)))
  | .str, [.int i] => if i.natAbs.log2 < 1920 then some (.str (toString i : String)) else none
  | .str, [.str s] => some (.str s)
  | .sum, [.lst xs] => (intsV xs).map fun l => .int l.sum
  | .tuple, [v] => (seqOf v).map .tup
  | .list, [.str s] => if s.cps.size ≤ lim then some (.lst ((s.cps.toList.map fun c => (⟨#[c]⟩ : Str)).map .str)) else none
  | .list, [v] => (seqOf v).map .lst
  | .sorted, [.lst xs] => (intsV xs).map fun l => .lst ((sortI l).map .int)
  | .sorted, [.tup xs] => (intsV xs).map fun l => .lst ((sortI l).map .int)
  | .repr, [.lst xs] => (toD 60 (.lst xs)).bind fun d => if d.showable = true ∧ d.shown.length ≤ lim then some (.str d.shown) else none
  | .repr, [.tup xs] => (toD 60 (.tup xs)).bind fun d => if d.showable = true ∧ d.shown.length ≤ lim then some (.str d.shown) else none
  | .sset, [.lst xs] => (intsV xs).map fun l => .lst ((sortI (nodupI l)).map .int)
  | _, _ => none
def cut {α : Type} (xs : List α) (lo hi : Option Int) : List α := (xs.drop (HT.sIx xs.length 0 lo)).take (HT.sIx xs.length xs.length hi - HT.sIx xs.length 0 lo)
def sliceV (v : Val) (lo hi : Option Int) : Option Val := match v with
  | .lst xs => some (.lst (cut xs lo hi))
  | .tup xs => some (.tup (cut xs lo hi))
  | .ro xs => some (.lst (cut xs lo hi))
  | .str s => if s.length ≤ lim then some (.str (cutS s lo hi)) else none
  | _ => none
def idxV : Val → Val → Option Val
  | .lst xs, .int i => atI xs i
  | .tup xs, .int i => atI xs i
  | .ro xs, .int i => atI xs i
  | .str s, .int i => if s.length ≤ lim then (atI s.cps.toList i).map fun c => .str ⟨#[c]⟩ else none
  | .dct kvs, v => (keyOf v).bind fun k => keyGet k kvs
  | _, _ => none
inductive Me where
  | join | split | count | index | append | extend
  deriving DecidableEq
def ixD (a : Val) : List Val → Option Nat
  | [] => none
  | b :: r => (eqD b a).bind fun k => if k then some 0 else (ixD a r).map (· + 1)
def meV : Me → Val → List Val → Option Val
  | .join, .str s, [v] => (seqOf v).bind fun xs => (strsV xs).bind fun ys => if (ys.map (·.length)).sum + ys.length * s.length ≤ lim then some (.str (Txt.join s ys)) else none
  | .split, .str s, [.str t] => if (t.length == 0) = false ∧ s.length + 2 ≤ lim then some (.lst ((Txt.split s t).map .str)) else none
  | .count, .lst xs, [.int i] => (intsV xs).map fun l => .int (l.count i : Nat)
  | .index, .lst xs, [v] => (toDL 60 xs).bind fun _ => (ixD v xs).map fun n => .int (n : Nat)
  | _, _, _ => none

/-! ### the syntax -/
inductive CE where
  | var (i : Nat)
  | cst (v : Val)
  | bin (op : Operator) (a b : CE)
  | neg (a : CE)
  | not (a : CE)
  | and (a b : CE)
  | or (a b : CE)
  | cmp (op : CmpOp) (a b : CE)
  | chain (o1 o2 : CmpOp) (a b c : CE)
  | ite (c a b : CE)
  | tup (es : List CE)
  | lst (m : Bool) (es : List CE)
  | star (e : CE)
  | dct (ks : List Key) (es : List CE)
  | callF (f : Nat) (es : List CE)
  | callK (f : Nat) (perm : List Nat) (es : List CE)
  | callB (b : Bi) (es : List CE)
  | listM (e : CE)
  | splitM (o e : CE)
  | isI (t : IsT) (e : CE)
  | meth (m : Me) (o : CE) (es : List CE)
  | fld (o : CE) (f : Str)
  | make (c : Nat) (es : List CE)
  | mcall (o : CE) (m : Str) (es : List CE)
  | idx (a i : CE)
  | slice (a : CE) (lo hi : Option CE)
  | rev (a : CE)
  | comp (m : Bool) (own : List Nat) (tg : List Nat) (one : Bool) (it : CE) (ifs : List CE) (elt : CE)
  | range1 (a : CE)
  | range2 (a b : CE)
  | enum (a : CE)
  | zip (a b : CE)
  | zipS (a : CE)
  | of (a : CE)
  | bad
  deriving Inhabited

/-- the values of the parameters, from the keywords' values -/
def permL {α : Type} (perm : List Nat) (vs : List α) : List α := perm.filterMap fun i => vs[i]?
/-- what the interpreter leans on -/
structure G where
  call : Nat → List Val → Hh → Res Val
  make : Nat → List Val → Hh → Res Val
  meth : Nat → Str → Option Nat
  prop : Nat → Str → Option Nat
  ncl : Nat
  base : Nat
abbrev Env := List (Option Val)
abbrev Gd := List (Nat × List Val)
def guardOk (h : Hh) : Gd → Bool
  | [] => true
  | (n, vs) :: r => (match h[n]? with | some (.lst ws) => Val.beqL ws vs | _ => false) && guardOk h r
def wipeE (s : Env) : List Nat → Env
  | [] => s
  | v :: vs => (wipeE s vs).set v none
def setMany : List Nat → List Val → Env → Option Env
  | [], [], s => some s
  | i :: r, v :: vs, s => setMany r vs (s.set i (some v))
  | _, _, _ => none
def setT (one : Bool) (tg : List Nat) (v : Val) (h : Hh) (s : Env) : Option Env :=
  if one = true then setMany tg [v] s else match rd h v with
    | .tup vs => setMany tg vs s
    | .lst vs => setMany tg vs s
    | _ => none
def compL (gd : Gd) (step : Val → Hh → Res (Option Val)) : List Val → Hh → Res (List Val)
  | [], h => if guardOk h gd = true then .ok [] h else .bad
  | v :: vs, h => if guardOk h gd = true then (step v h).bind fun o h1 => (compL gd step vs h1).bind fun r h2 => .ok (match o with | some x => x :: r | none => r) h2 else .bad
def allocL (m : Bool) (vs : List Val) (h : Hh) : Res Val := if m = true then .ok (.ref h.length) (h ++ [.lst vs]) else .ok (.lst vs) h
mutual
/-- all its objects stand below n -/
def below (n : Nat) : Val → Bool
  | .tup vs => belowL n vs
  | .lst vs => belowL n vs
  | .ro vs => belowL n vs
  | .dct kvs => belowK n kvs
  | .ins _ kvs => belowK n kvs
  | .ref m => decide (m < n)
  | _ => true
def belowL (n : Nat) : List Val → Bool
  | [] => true
  | v :: r => below n v && belowL n r
def belowK (n : Nat) : List (Key × Val) → Bool
  | [] => true
  | (_, v) :: r => below n v && belowK n r
end
/-- may v be stored in the object at n -/
def mayStore (base n : Nat) (v : Val) : Bool := decide (base ≤ n) || below n v
def tyOk : Me → Val → Bool
  | .join, .str _ => true
  | .split, .str _ => true
  | .join, _ => false
  | .split, _ => false
  | _, .lst _ => true
  | _, _ => false
def meM (g : G) (m : Me) (o : Val) (vs : List Val) (h : Hh) : Res Val := match m, o, vs with
  | .append, .ref n, [v] => (match h[n]? with
    | some (.lst ws) => if ws.length < lim ∧ mayStore g.base n v = true then .ok .non (h.set n (.lst (ws ++ [v]))) else .bad
    | _ => .bad)
  | .extend, .ref n, [v] => (match h[n]?, rd h v with
    | some (.lst ws), .lst us => if ws.length + us.length ≤ lim ∧ mayStore g.base n (.lst us) = true then .ok .non (h.set n (.lst (ws ++ us))) else .bad
    | _, _ => .bad)
  | m, o, vs => opt (meV m (rd h o) (asL vs h)) h
def fldV (h : Hh) (v : Val) : Option (Nat × List (Key × Val)) := match v with
  | .ins c fs => some (c, fs)
  | .ref n => (match h[n]? with | some (.ins c fs) => some (c, fs) | _ => none)
  | _ => none
def pairs : List Val → List Val → List Val
  | a :: r, b :: s => .tup [a, b] :: pairs r s
  | _, _ => []
def enumFrom : Nat → List Val → List Val
  | _, [] => []
  | n, v :: r => .tup [.int n, v] :: enumFrom (n + 1) r
def rangeL (lo : Int) : Nat → List Val
  | 0 => []
  | n + 1 => .int lo :: rangeL (lo + 1) n
/-- a walked thing: its items, and what must stand meanwhile -/
def itOf (h : Hh) (v : Val) : Option (List Val × Gd) := match v with
  | .lst xs => some (xs, [])
  | .tup xs => some (xs, [])
  | .ro xs => some (xs, [])
  | .str s => some (s.cps.toList.map fun c => .str ⟨#[c]⟩, [])
  | .ref n => (match h[n]? with | some (.lst ws) => some (ws, [(n, ws)]) | _ => none)
  | _ => none
/-- .. a list or a tuple -/
def itOf2 (h : Hh) (v : Val) : Option (List Val × Gd) := match v with
  | .str _ => none
  | v => itOf h v
/-- .. a list -/
def itOfL (h : Hh) (v : Val) : Option (List Val × Gd) := match v with
  | .lst xs => some (xs, [])
  | .ro xs => some (xs, [])
  | .ref n => itOf h (.ref n)
  | _ => none
mutual
def evE (g : G) : CE → Env → Hh → Res Val
  | .var i, s, h => (match s[i]? with | some (some v) => .ok v h | _ => .bad)
  | .cst v, _, h => .ok v h
  | .bin op a b, s, h => (evE g a s h).bind fun x h1 => (evE g b s h1).bind fun y h2 => opt (bop op (rd h2 x) (rd h2 y)) h2
  | .neg a, s, h => (evE g a s h).bind fun x h1 => (match x with | .int i => .ok (.int (-i)) h1 | _ => .bad)
  | .not a, s, h => (evE g a s h).bind fun x h1 => (match x with | .bl b => .ok (.bl (!b)) h1 | _ => .bad)
  | .and a b, s, h => (evE g a s h).bind fun x h1 => (match x with | .bl true => evE g b s h1 | .bl false => .ok (.bl false) h1 | _ => .bad)
  | .or a b, s, h => (evE g a s h).bind fun x h1 => (match x with | .bl true => .ok (.bl true) h1 | .bl false => evE g b s h1 | _ => .bad)
  | .cmp op a b, s, h => (evE g a s h).bind fun x h1 => (evE g b s h1).bind fun y h2 => opt ((cop op (rd h2 x) (rd h2 y)).map .bl) h2
  | .chain o1 o2 a b c, s, h => (evE g a s h).bind fun x h1 => (evE g b s h1).bind fun y h2 => (match cop o1 (rd h2 x) (rd h2 y) with
      | some true => (evE g c s h2).bind fun z h3 => opt ((cop o2 (rd h3 y) (rd h3 z)).map .bl) h3
      | some false => .ok (.bl false) h2
      | none => .bad)
  | .ite c a b, s, h => (evE g c s h).bind fun x h1 => (match x with | .bl true => evE g a s h1 | .bl false => evE g b s h1 | _ => .bad)
  | .tup es, s, h => (evEs g es s h).bind fun vs h1 => if vs.length ≤ lim then .ok (.tup vs) h1 else .bad
  | .lst m es, s, h => (evEs g es s h).bind fun vs h1 => if vs.length ≤ lim then allocL m vs h1 else .bad
  | .dct ks es, s, h => (evEs g es s h).bind fun vs h1 => if ks.length = vs.length ∧ ks.length ≤ 15 ∧ ks.Nodup then .ok (.dct (ks.zip vs)) h1 else .bad
  | .callF f es, s, h => (evEs g es s h).bind fun vs h1 => g.call f vs h1
  | .callK f perm es, s, h => (evEs g es s h).bind fun vs h1 => g.call f (permL perm vs) h1
  | .callB b es, s, h => (evEs g es s h).bind fun vs h1 => opt (bi b (asL vs h1)) h1
  | .listM e, s, h => (evE g e s h).bind fun v h1 => (match seqOf (rd h1 v) with | some vs => allocL true vs h1 | none => .bad)
  | .splitM o e, s, h => (evE g o s h).bind fun x h1 => (match x with
      | .str a => (evE g e s h1).bind fun y h2 => (match y with
        | .str t => if (t.length == 0) = false ∧ a.length + 2 ≤ lim then allocL true ((Txt.split a t).map .str) h2 else .bad
        | _ => .bad)
      | _ => .bad)
  | .isI t e, s, h => (evE g e s h).bind fun v h1 => if kindOk g.ncl h1 v = true then .ok (.bl (isIns h1 t v)) h1 else .bad
  | .meth m o es, s, h => (evE g o s h).bind fun x h1 => if tyOk m (rd h1 x) = true then (evEs g es s h1).bind fun vs h2 => meM g m x vs h2 else .bad
  | .fld o f, s, h => (evE g o s h).bind fun x h1 => (match fldV h1 x with
      | some (c, fs) => if c < g.ncl then (match g.prop c f with
        | some p => g.call p [x] h1
        | none => if (g.meth c f).isSome = true then .bad else opt (keyGet (.inr f) fs) h1) else .bad
      | none => .bad)
  | .make c es, s, h => (evEs g es s h).bind fun vs h1 => g.make c vs h1
  | .mcall o m es, s, h => (evE g o s h).bind fun x h1 => (evEs g es s h1).bind fun vs h2 => (match fldV h1 x with
      | some (c, _) => (match g.meth c m with | some p => g.call p (x :: vs) h2 | none => .bad)
      | none => .bad)
  | .idx a i, s, h => (evE g a s h).bind fun x h1 => (evE g i s h1).bind fun y h2 => opt (idxV (rd h2 x) y) h2
  | .slice a lo hi, s, h => (evE g a s h).bind fun x h1 => (evO g lo s h1).bind fun l h2 => (evO g hi s h2).bind fun u h3 => opt (sliceV (rd h3 x) l u) h3
  | .rev a, s, h => (evE g a s h).bind fun x h1 => (match rd h1 x with | .lst xs => .ok (.lst xs.reverse) h1 | .tup xs => .ok (.tup xs.reverse) h1 | _ => .bad)
  | .comp m own tg one it ifs elt, s, h => (evI g it s h).bind fun p h1 =>
      if p.1.length ≤ lim then (compL p.2 (fun v h => match setT one tg v h (wipeE s own) with
        | some s1 => (evC g ifs s1 h).bind fun b h2 => if b = true then (evE g elt s1 h2).bind fun x h3 => .ok (some x) h3 else .ok none h2
        | none => .bad) p.1 h1).bind fun vs h2 => allocL m vs h2 else .bad
  | .star _, _, _ => .bad
  | .range1 _, _, _ => .bad
  | .range2 _ _, _, _ => .bad
  | .enum _, _, _ => .bad
  | .zip _ _, _, _ => .bad
  | .zipS _, _, _ => .bad
  | .of _, _, _ => .bad
  | .bad, _, _ => .bad
def evEs (g : G) : List CE → Env → Hh → Res (List Val)
  | [], _, h => .ok [] h
  | .star e :: r, s, h => (evE g e s h).bind fun x h1 => (match seqOf (rd h1 x) with
      | some vs => (evEs g r s h1).bind fun ws h2 => .ok (vs ++ ws) h2
      | none => .bad)
  | e :: r, s, h => (evE g e s h).bind fun v h1 => (evEs g r s h1).bind fun ws h2 => .ok (v :: ws) h2
def evO (g : G) : Option CE → Env → Hh → Res (Option Int)
  | none, _, h => .ok none h
  | some e, s, h => (evE g e s h).bind fun v h1 => (match v with | .int i => .ok (some i) h1 | _ => .bad)
def evC (g : G) : List CE → Env → Hh → Res Bool
  | [], _, h => .ok true h
  | c :: r, s, h => (evE g c s h).bind fun v h1 => (match v with | .bl true => evC g r s h1 | .bl false => .ok false h1 | _ => .bad)
def evI (g : G) : CE → Env → Hh → Res (List Val × Gd)
  | .range1 a, s, h => (evE g a s h).bind fun x h1 => (match x with | .int j => if -lim ≤ j ∧ j ≤ lim then .ok (rangeL 0 j.toNat, []) h1 else .bad | _ => .bad)
  | .range2 a b, s, h => (evE g a s h).bind fun x h1 => (evE g b s h1).bind fun y h2 => (match x, y with
      | .int i, .int j => if -lim ≤ i ∧ i ≤ lim ∧ -lim ≤ j ∧ j - i ≤ lim ∧ j ≤ lim then .ok (rangeL i (j - i).toNat, []) h2 else .bad
      | _, _ => .bad)
  | .enum a, s, h => (evE g a s h).bind fun x h1 => (match itOfL h1 x with | some (vs, gd) => .ok (enumFrom 0 vs, gd) h1 | none => .bad)
  | .zip a b, s, h => (evE g a s h).bind fun x h1 => (evE g b s h1).bind fun y h2 => (match itOf2 h2 x, itOf2 h2 y with
      | some (vs, gd), some (ws, gd2) => .ok (pairs vs ws, gd ++ gd2) h2
      | _, _ => .bad)
  | .of e, s, h => (evE g e s h).bind fun x h1 => opt (itOf h1 x) h1
  | _, _, _ => .bad
end
end Co
end

section
set_option linter.all false
set_option maxRecDepth 100000
/-! Co2: statements, functions, the run. -/
namespace Co
open PySem L2

inductive CT where
  | name (i : Nat)
  | sub (o i : CE)
  | tup (ts : List CT)
  deriving Inhabited
inductive CS where
  | asg (t : CT) (e : CE)
  | fld (o : CE) (f : Str) (e : CE)
  | for (t : CT) (it : CE) (b : List CS)
  | while (c : CE) (b : List CS)
  | ifs (c : CE) (a b : List CS)
  | ret (e : CE)
  | retN
  | expr (e : CE)
  | brk
  | cont
  | pass
  | bad
  deriving Inhabited
inductive Ctl where
  | next | brk | cont | ret (v : Val)
mutual
def asgT (g : G) : CT → Val → Env → Hh → Res Env
  | .name i, v, s, h => .ok (s.set i (some v)) h
  | .sub o i, v, s, h => (evE g o s h).bind fun x h1 => (evE g i s h1).bind fun y h2 => (match x, y with
      | .ref n, .int k => (match h2[n]? with
        | some (.lst ws) => (match ixN ws.length k with
          | some j => if mayStore g.base n v = true then .ok s (h2.set n (.lst (ws.set j v))) else .bad
          | none => .bad)
        | _ => .bad)
      | _, _ => .bad)
  | .tup ts, v, s, h => (match rd h v with
      | .tup vs => asgTs g ts vs s h
      | .lst vs => asgTs g ts vs s h
      | _ => .bad)
def asgTs (g : G) : List CT → List Val → Env → Hh → Res Env
  | [], [], s, h => .ok s h
  | t :: r, v :: vs, s, h => (asgT g t v s h).bind fun s1 h1 => asgTs g r vs s1 h1
  | _, _, _, _ => .bad
end
def forL (gd : Gd) (step : Val → Env → Hh → Res (Ctl × Env)) : List Val → Env → Hh → Res (Ctl × Env)
  | [], s, h => if guardOk h gd = true then .ok (.next, s) h else .bad
  | v :: vs, s, h => if guardOk h gd = true then (step v s h).bind fun p h1 => (match p.1 with
      | .next => forL gd step vs p.2 h1
      | .cont => forL gd step vs p.2 h1
      | .brk => .ok (.next, p.2) h1
      | .ret v => .ok (.ret v, p.2) h1) else .bad
def whileL (test : Env → Hh → Res Bool) (step : Env → Hh → Res (Ctl × Env)) : Nat → Env → Hh → Res (Ctl × Env)
  | 0, _, _ => .bad
  | n + 1, s, h => (test s h).bind fun b h1 => if b = true then (step s h1).bind fun p h2 => (match p.1 with
      | .next => whileL test step n p.2 h2
      | .cont => whileL test step n p.2 h2
      | .brk => .ok (.next, p.2) h2
      | .ret v => .ok (.ret v, p.2) h2) else .ok (.next, s) h1
/-- turns that a while may make -/
def turns : Nat := 1000000000
def truthR (r : Res Val) : Res Bool := r.bind fun v h => match v with | .bl b => .ok b h | _ => .bad
def setFld (g : G) (o : Val) (f : Str) (v : Val) (h : Hh) : Res Unit := match o with
  | .ref n => (match h[n]? with
    | some (.ins c fs) => if c < g.ncl ∧ (g.prop c f).isSome = false ∧ (g.meth c f).isSome = false ∧ fs.length < 900 ∧ mayStore g.base n v = true then .ok () (h.set n (.ins c (putW (.inr f) v fs))) else .bad
    | _ => .bad)
  | _ => .bad
mutual
def exS (g : G) : CS → Env → Hh → Res (Ctl × Env)
  | .asg t e, s, h => (evE g e s h).bind fun v h1 => (asgT g t v s h1).bind fun s1 h2 => .ok (.next, s1) h2
  | .fld o f e, s, h => (evE g e s h).bind fun v h1 => (evE g o s h1).bind fun x h2 => (setFld g x f v h2).bind fun _ h3 => .ok (.next, s) h3
  | .for t it b, s, h => (evI g it s h).bind fun p h1 => forL p.2 (fun v s h => (asgT g t v s h).bind fun s1 h1 => exSs g b s1 h1) p.1 s h1
  | .while c b, s, h => whileL (fun s h => truthR (evE g c s h)) (fun s h => exSs g b s h) turns s h
  | .ifs c a b, s, h => (truthR (evE g c s h)).bind fun k h1 => if k = true then exSs g a s h1 else exSs g b s h1
  | .ret e, s, h => (evE g e s h).bind fun v h1 => .ok (.ret v, s) h1
  | .retN, s, h => .ok (.ret .non, s) h
  | .expr e, s, h => (evE g e s h).bind fun _ h1 => .ok (.next, s) h1
  | .brk, s, h => .ok (.brk, s) h
  | .cont, s, h => .ok (.cont, s) h
  | .pass, s, h => .ok (.next, s) h
  | .bad, _, _ => .bad
def exSs (g : G) : List CS → Env → Hh → Res (Ctl × Env)
  | [], s, h => .ok (.next, s) h
  | c :: r, s, h => (exS g c s h).bind fun p h1 => (match p.1 with
      | .next => exSs g r p.2 h1
      | k => .ok (k, p.2) h1)
end

/-! ### functions -/
structure Fn where
  np : Nat
  n : Nat
  body : List CS
  keep : Bool
structure Cl where
  init : Option Nat
  frozen : Bool
  meths : List (Str × Nat)
  props : List (Str × Nat)
structure Prog where
  fns : List Fn
  cls : List Cl
def frz1 (base : Nat) (h : Hh) (w : Val) : Option Val := if below base w = true then some w else match w with
  | .ref n => (match h[n]? with | some (.lst us) => if belowL base us = true then some (.lst us) else none | _ => none)
  | _ => none
def frz1L (base : Nat) (h : Hh) : List Val → Option (List Val)
  | [] => some []
  | v :: r => (frz1 base h v).bind fun w => (frz1L base h r).map fun ws => w :: ws
def frz (base : Nat) (h : Hh) (v : Val) : Option Val := if below base v = true then some v else match v with
  | .ref n => (match h[n]? with | some (.lst ws) => (frz1L base h ws).map .lst | _ => none)
  | .tup vs => (frz1L base h vs).map .tup
  | _ => none
def retR (keep : Bool) (base : Nat) (p : Ctl) (h : Hh) : Res Val := match p with
  | .next => if keep = true then .ok .non h else .ok .non (h.take base)
  | .ret v => if keep = true then .ok v h else (match frz base h v with | some w => .ok w (h.take base) | none => .bad)
  | _ => .bad
def clOf (P : Prog) (c : Nat) : Option Cl := P.cls[c]?
def tab (l : List (Str × Nat)) (f : Str) : Option Nat := (l.find? fun p => decide (p.1 = f)).map (·.2)
def makeR (P : Prog) (call : Nat → List Val → Hh → Res Val) (c : Nat) (vs : List Val) (h : Hh) : Res Val := match P.cls[c]? with
  | some cl => (match cl.init with
    | some f => (call f (.ref h.length :: vs) (h ++ [.ins c []])).bind fun r h1 =>
        if isNon r = true then (if cl.frozen = true then (match h1[h.length]? with
          | some (.ins d fs) => if belowK h.length fs = true ∧ h1.length = h.length + 1 then .ok (.ins d fs) (h1.take h.length) else .bad
          | _ => .bad) else .ok (.ref h.length) h1) else .bad
    | none => .bad)
  | none => .bad
def gOf (P : Prog) (call : Nat → List Val → Hh → Res Val) (base : Nat) : G where
  call := call
  make := makeR P call
  meth := fun c m => (P.cls[c]?).bind fun cl => tab cl.meths m
  prop := fun c m => (P.cls[c]?).bind fun cl => tab cl.props m
  ncl := P.cls.length
  base := base
def runF (P : Prog) : Nat → Nat → List Val → Hh → Res Val
  | 0, _, _, _ => .bad
  | d + 1, f, args, h => match P.fns[f]? with
    | some fn => if args.length = fn.np then
        (exSs (gOf P (runF P d) h.length) fn.body (args.map some ++ List.replicate (fn.n - args.length) none) h).bind fun p h1 => retR fn.keep h.length p.1 h1 else .bad
    | none => .bad
example (g : G) : evE g (.bin .Add (.cst (.int 1)) (.cst (.int 2))) [] [] = .ok (.int 3) [] := rfl
end Co
end

section
set_option linter.all false
set_option maxRecDepth 100000
/-! Co3: what a value, a heap of the core stands for; readings; first constructs. -/
namespace Co
open PySem PySem.Spec
                        PyProof.Rows L2

/-- the addresses of our changing objects; addresses that no value stands at meanwhile -/
structure Rg where
  own : List Addr
  no : List Addr
instance : Membership Addr Rg := ⟨fun R a => a ∈ R.own ∨ a ∈ R.no⟩
theorem Rg.mem_own {R : Rg} {a : Addr} (h : a ∈ R.own) : a ∈ R := .inl h
theorem Rg.not_own {R : Rg} {a : Addr} (h : a ∉ R) : a ∉ R.own := fun z => h (.inl z)
/-- one more of ours -/
def Rg.add (R : Rg) (p : Addr) : Rg := ⟨R.own ++ [p], R.no⟩
theorem sz : (sizeLine : Nat) = lim := sizeLine_eq
/-! ### values -/
def TupAt (K : PySem.W.Frag) (R : Rg) (H : Hp) (a : Addr) (xs : List V) : Prop :=
  xs.length ≤ sizeLine ∧ ((Rd H a (.tup xs) ∧ a ∉ R) ∨ ∃ (o : Obj) (its : Array Value) (n : Nat), K.lookup a = some o ∧ o.cls = .type "tuple" ∧ o.data = .seq its n ∧ its.size ≤ sizeLine ∧ Vals xs its.toList)
def LstAt (R : Rg) (H : Hp) (a : Addr) (xs : List V) : Prop := xs.length ≤ sizeLine ∧ H a = some (.lst xs) ∧ a ∉ R
def RoAt (K : PySem.W.Frag) (R : Rg) (H : Hp) (a : Addr) (xs : List V) : Prop :=
  xs.length ≤ sizeLine ∧ ((Rd H a (.lst xs) ∧ a ∉ R) ∨ ∃ (o : Obj) (its : Array Value) (n : Nat), K.lookup a = some o ∧ o.cls = .type "list" ∧ o.dict = none ∧ o.data = .seq its n ∧ its.size ≤ sizeLine ∧ Vals xs its.toList)
theorem RoAt.sq {K : PySem.W.Frag} {R : Rg} {H : Hp} {a : Addr} {xs : List V} (t : RoAt K R H a xs) : SqL K H a xs := by
  rcases t.2 with h | h
  · exact .inl h.1
  · exact .inr h
theorem TupAt.sq {K : PySem.W.Frag} {R : Rg} {H : Hp} {a : Addr} {xs : List V} (t : TupAt K R H a xs) : SqT K H a xs := by
  rcases t.2 with h | h
  · exact .inl h.1
  · exact .inr h
theorem LstAt.sq {K : PySem.W.Frag} {R : Rg} {H : Hp} {a : Addr} {xs : List V} (t : LstAt R H a xs) : SqL K H a xs := .inl (.inl t.2.1)
mutual
def Den (K : PySem.W.Frag) (C : Nat → Addr) (R : Rg) (H : Hp) : Val → V → Prop
  | .non, x => x = .non
  | .bl b, x => x = .bl b
  | .int i, x => x = .int i
  | .str s, x => x = .str s
  | .tup vs, x => ∃ a xs, x = .ref a ∧ TupAt K R H a xs ∧ DenL K C R H vs xs
  | .lst vs, x => ∃ a xs, x = .ref a ∧ LstAt R H a xs ∧ DenL K C R H vs xs
  | .ro vs, x => ∃ a xs, x = .ref a ∧ RoAt K R H a xs ∧ DenL K C R H vs xs
  | .dct kvs, x => ∃ a xs, x = .ref a ∧ H a = some (.dK xs) ∧ a ∉ R ∧ DenK K C R H kvs xs
  | .ins c kvs, x => ∃ (a dx : Addr) (gs : List (Str × V)), x = .ref a ∧ H a = some (.ins (C c) dx gs) ∧ a ∉ R ∧ DenK K C R H kvs (gs.map fun p => (Sum.inr p.1, p.2))
  | .ref n, x => ∃ a, R.own[n]? = some a ∧ x = .ref a
def DenL (K : PySem.W.Frag) (C : Nat → Addr) (R : Rg) (H : Hp) : List Val → List V → Prop
  | [], xs => xs = []
  | v :: r, xs => ∃ x ys, xs = x :: ys ∧ Den K C R H v x ∧ DenL K C R H r ys
def DenK (K : PySem.W.Frag) (C : Nat → Addr) (R : Rg) (H : Hp) : List (Key × Val) → List (Key × V) → Prop
  | [], xs => xs = []
  | (k, v) :: r, xs => ∃ x ys, xs = (k, x) :: ys ∧ Den K C R H v x ∧ DenK K C R H r ys
end
/-- what stands stays -/
structure Ext (R R' : Rg) (H H' : Hp) : Prop where
  more : ∃ r, R'.own = R.own ++ r ∧ ∀ a ∈ r, H a = none
  no : ∀ a ∈ R'.no, a ∈ R.no ∨ H a = none
  yes : ∀ a ∈ R.no, a ∈ R'.no
  keep : ∀ a o, H a = some o → a ∉ R.own → H' a = some o
  there : ∀ a, H a ≠ none → H' a ≠ none
theorem Ext.refl (R : Rg) (H : Hp) : Ext R R H H := ⟨⟨[], by simp, by simp⟩, fun _ h => .inl h, fun _ h => h, fun _ _ h _ => h, fun _ h => h⟩
theorem Ext.outO {R R' : Rg} {H H' : Hp} (e : Ext R R' H H') {a : Addr} {o : HO} (h : H a = some o) (n : a ∉ R.own) : a ∉ R'.own := by
  obtain ⟨⟨r, e1, hr⟩, _, _, _⟩ := e
  intro m
  rw [e1] at m
  rcases List.mem_append.mp m with m | m
  · exact n m
  · rw [hr a m] at h; cases h
theorem Ext.out {R R' : Rg} {H H' : Hp} (e : Ext R R' H H') {a : Addr} {o : HO} (h : H a = some o) (n : a ∉ R) : a ∉ R' := by
  rintro (m | m)
  · exact e.outO h (Rg.not_own n) m
  · rcases e.no a m with m | m
    · exact n (.inr m)
    · rw [m] at h; cases h
theorem Ext.trans {R R1 R2 : Rg} {H H1 H2 : Hp} (a : Ext R R1 H H1) (b : Ext R1 R2 H1 H2) : Ext R R2 H H2 := by
  have nn : ∀ c, H1 c = none → H c = none := fun c m => by
    cases q : H c with
    | none => rfl
    | some o => exact absurd m (a.there c (by rw [q]; exact fun z => by cases z))
  refine ⟨?_, fun c m => ?_, fun c m => b.yes c (a.yes c m), fun c o h n => b.keep c o (a.keep c o h n) (a.outO h n), fun c h => b.there c (a.there c h)⟩
  · obtain ⟨⟨r, e1, hr⟩, _, _, _, _⟩ := id a
    obtain ⟨⟨r2, e2, hr2⟩, _, _, _, _⟩ := id b
    refine ⟨r ++ r2, by rw [e2, e1, List.append_assoc], fun c hc => ?_⟩
    rcases List.mem_append.mp hc with m | m
    · exact hr c m
    · exact nn c (hr2 c m)
  · rcases b.no c m with m | m
    · exact a.no c m
    · exact .inr (nn c m)
/-- a new object that is not ours -/
theorem Ext.new {R : Rg} {H : Hp} {p : Addr} {o : HO} (h : H p = none) : Ext R R H (upd H p o) :=
  ⟨⟨[], by simp, by simp⟩, fun _ h => .inl h, fun _ h => h, fun a u e _ => by rw [upd_ne (ne_of_none e h)]; exact e, fun a e => by
    cases q : H a with
    | none => exact absurd q e
    | some u => rw [upd_ne (ne_of_none q h), q]; exact fun z => by cases z⟩
/-- .. that is ours -/
theorem Ext.own {R : Rg} {H : Hp} {p : Addr} {o : HO} (h : H p = none) : Ext R (R.add p) H (upd H p o) :=
  ⟨⟨[p], rfl, fun a m => by rw [List.mem_singleton.mp m]; exact h⟩, fun _ h => .inl h, fun _ h => h, (Ext.new (R := R) h).keep, (Ext.new (R := R) h).there⟩
/-- one of ours is written -/
theorem Ext.set {R : Rg} {H : Hp} {p : Addr} {o : HO} (h : p ∈ R.own) : Ext R R H (upd H p o) :=
  ⟨⟨[], by simp, by simp⟩, fun _ h => .inl h, fun _ h => h, fun a u e n => by rw [upd_ne (show a ≠ p from fun z => n (by rw [z]; exact h))]; exact e, fun a e => by
    by_cases q : a = p
    · subst q; rw [upd_same]; exact fun z => by cases z
    · rw [upd_ne q]; exact e⟩
theorem Rd.mono {R R' : Rg} {H H' : Hp} (e : Ext R R' H H') {a : Addr} {o : HO} (h : Rd H a o) (n : a ∉ R) : Rd H' a o := by
  rcases h with h | ⟨u, h⟩
  · exact .inl (e.keep a _ h (Rg.not_own n))
  · exact .inr ⟨u, e.keep a _ h (Rg.not_own n)⟩
theorem Rd.out {R R' : Rg} {H H' : Hp} (e : Ext R R' H H') {a : Addr} {o : HO} (h : Rd H a o) (n : a ∉ R) : a ∉ R' := by
  rcases h with h | ⟨u, h⟩ <;> exact e.out h n
section
variable {K : PySem.W.Frag} {C : Nat → Addr} {R R' : Rg} {H H' : Hp}
theorem TupAt.mono (e : Ext R R' H H') {a : Addr} {xs : List V} (t : TupAt K R H a xs) : TupAt K R' H' a xs :=
  ⟨t.1, t.2.elim (fun h => .inl ⟨Rd.mono e h.1 h.2, Rd.out e h.1 h.2⟩) .inr⟩
theorem LstAt.mono (e : Ext R R' H H') {a : Addr} {xs : List V} (t : LstAt R H a xs) : LstAt R' H' a xs :=
  ⟨t.1, e.keep a _ t.2.1 (Rg.not_own t.2.2), e.out t.2.1 t.2.2⟩
theorem RoAt.mono (e : Ext R R' H H') {a : Addr} {xs : List V} (t : RoAt K R H a xs) : RoAt K R' H' a xs :=
  ⟨t.1, t.2.elim (fun h => .inl ⟨Rd.mono e h.1 h.2, Rd.out e h.1 h.2⟩) .inr⟩
mutual
theorem Den.mono (e : Ext R R' H H') : ∀ (v : Val) (x : V), Den K C R H v x → Den K C R' H' v x
  | .non, _, h => h
  | .bl _, _, h => h
  | .int _, _, h => h
  | .str _, _, h => h
  | .tup vs, x, h => by
    obtain ⟨a, xs, q, t, d⟩ := h
    exact ⟨a, xs, q, t.mono e, DenL.mono e vs xs d⟩
  | .lst vs, x, h => by
    obtain ⟨a, xs, q, t, d⟩ := h
    exact ⟨a, xs, q, t.mono e, DenL.mono e vs xs d⟩
  | .ro vs, x, h => by
    obtain ⟨a, xs, q, t, d⟩ := h
    exact ⟨a, xs, q, t.mono e, DenL.mono e vs xs d⟩
  | .dct vs, x, h => by
    obtain ⟨a, xs, q, t, n, d⟩ := h
    exact ⟨a, xs, q, e.keep a _ t (Rg.not_own n), e.out t n, DenK.mono e vs xs d⟩
  | .ins c vs, x, h => by
    obtain ⟨a, dx, gs, q, t, n, d⟩ := h
    exact ⟨a, dx, gs, q, e.keep a _ t (Rg.not_own n), e.out t n, DenK.mono e vs _ d⟩
  | .ref n, x, h => by
    obtain ⟨a, q, r⟩ := h
    obtain ⟨r', er, _⟩ := e.more
    exact ⟨a, by rw [er, List.getElem?_append_left (List.getElem?_eq_some_iff.mp q).1]; exact q, r⟩
theorem DenL.mono (e : Ext R R' H H') : ∀ (vs : List Val) (xs : List V), DenL K C R H vs xs → DenL K C R' H' vs xs
  | [], _, h => h
  | v :: r, _, h => by
    obtain ⟨x, ys, q, d, d2⟩ := h
    exact ⟨x, ys, q, Den.mono e v x d, DenL.mono e r ys d2⟩
theorem DenK.mono (e : Ext R R' H H') : ∀ (vs : List (Key × Val)) (xs : List (Key × V)), DenK K C R H vs xs → DenK K C R' H' vs xs
  | [], _, h => h
  | (k, v) :: r, _, h => by
    obtain ⟨x, ys, q, d, d2⟩ := h
    exact ⟨x, ys, q, Den.mono e v x d, DenK.mono e r ys d2⟩
end
theorem DenL.length : ∀ {vs : List Val} {xs : List V}, DenL K C R H vs xs → vs.length = xs.length
  | [], _, h => by rw [show _ = ([] : List V) from h]; rfl
  | v :: r, _, h => by
    obtain ⟨x, ys, q, d, d2⟩ := h
    rw [q, List.length_cons, List.length_cons, DenL.length d2]
theorem DenL.append : ∀ {vs ws : List Val} {xs ys : List V}, DenL K C R H vs xs → DenL K C R H ws ys → DenL K C R H (vs ++ ws) (xs ++ ys)
  | [], _, _, _, h, k => by rw [show _ = ([] : List V) from h]; exact k
  | v :: r, _, _, _, h, k => by
    obtain ⟨x, zs, q, d, d2⟩ := h
    exact ⟨x, _, by rw [q]; rfl, d, DenL.append d2 k⟩
theorem DenL.get : ∀ {vs : List Val} {xs : List V} {i : Nat} {v : Val}, DenL K C R H vs xs → vs[i]? = some v → ∃ x, xs[i]? = some x ∧ Den K C R H v x
  | [], _, _, _, _, e => by simp at e
  | v :: r, _, 0, _, h, e => by
    obtain ⟨x, zs, q, d, d2⟩ := h
    cases e
    exact ⟨x, by rw [q]; rfl, d⟩
  | v :: r, _, i + 1, _, h, e => by
    obtain ⟨x, zs, q, d, d2⟩ := h
    obtain ⟨y, e1, e2⟩ := DenL.get (i := i) d2 (by simpa using e)
    exact ⟨y, by rw [q]; simpa using e1, e2⟩
theorem DenL.get' : ∀ {vs : List Val} {xs : List V} {i : Nat} {x : V}, DenL K C R H vs xs → xs[i]? = some x → ∃ v, vs[i]? = some v ∧ Den K C R H v x
  | [], _, _, _, h, e => by rw [show _ = ([] : List V) from h] at e; simp at e
  | v :: r, _, 0, _, h, e => by
    obtain ⟨x, zs, q, d, d2⟩ := h
    rw [q] at e
    cases e
    exact ⟨v, rfl, d⟩
  | v :: r, _, i + 1, _, h, e => by
    obtain ⟨x, zs, q, d, d2⟩ := h
    rw [q] at e
    obtain ⟨y, e1, e2⟩ := DenL.get' (i := i) d2 (by simpa using e)
    exact ⟨y, by simpa using e1, e2⟩
theorem DenL.set : ∀ {vs : List Val} {xs : List V} (i : Nat) {v : Val} {x : V}, DenL K C R H vs xs → Den K C R H v x → DenL K C R H (vs.set i v) (xs.set i x)
  | [], _, _, _, _, h, k => by rw [show _ = ([] : List V) from h]; rfl
  | v :: r, _, 0, _, _, h, k => by
    obtain ⟨x, zs, q, d, d2⟩ := h
    rw [q]
    exact ⟨_, _, rfl, k, d2⟩
  | v :: r, _, i + 1, _, _, h, k => by
    obtain ⟨x, zs, q, d, d2⟩ := h
    rw [q]
    exact ⟨_, _, rfl, d, DenL.set i d2 k⟩
theorem DenL.take : ∀ {vs : List Val} {xs : List V} (i : Nat), DenL K C R H vs xs → DenL K C R H (vs.take i) (xs.take i)
  | [], _, i, h => by rw [show _ = ([] : List V) from h]; simp [DenL]
  | v :: r, _, 0, h => by simp [DenL]
  | v :: r, _, i + 1, h => by
    obtain ⟨x, zs, q, d, d2⟩ := h
    rw [q]
    exact ⟨_, _, rfl, d, DenL.take i d2⟩
theorem DenL.drop : ∀ {vs : List Val} {xs : List V} (i : Nat), DenL K C R H vs xs → DenL K C R H (vs.drop i) (xs.drop i)
  | [], _, i, h => by rw [show _ = ([] : List V) from h]; simp [DenL]
  | v :: r, _, 0, h => by simpa using h
  | v :: r, _, i + 1, h => by
    obtain ⟨x, zs, q, d, d2⟩ := h
    rw [q]
    exact DenL.drop i d2
theorem DenL.rep {vs : List Val} {xs : List V} (h : DenL K C R H vs xs) : ∀ n : Nat, DenL K C R H (List.replicate n vs).flatten (List.replicate n xs).flatten
  | 0 => rfl
  | n + 1 => by rw [List.replicate_succ, List.replicate_succ, List.flatten_cons, List.flatten_cons]; exact h.append (DenL.rep h n)
theorem DenL.cut {vs : List Val} {xs : List V} (h : DenL K C R H vs xs) (lo hi : Option Int) : DenL K C R H (Co.cut vs lo hi) (cutV xs lo hi) := by
  unfold Co.cut cutV
  rw [h.length]
  exact (h.drop _).take _
theorem DenL.rev {vs : List Val} {xs : List V} (h : DenL K C R H vs xs) : DenL K C R H vs.reverse xs.reverse := by
  induction vs generalizing xs with
  | nil => rw [show xs = ([] : List V) from h]; rfl
  | cons v r ih =>
    obtain ⟨x, zs, q, d, d2⟩ := h
    rw [q, List.reverse_cons, List.reverse_cons]
    exact (ih d2).append ⟨x, [], rfl, d, rfl⟩
theorem DenL.ints : ∀ {vs : List Val} {xs : List V} {ns : List Int}, DenL K C R H vs xs → intsV vs = some ns → xs = ns.map V.int
  | [], _, _, h, e => by rw [show _ = ([] : List V) from h]; cases e; rfl
  | v :: r, _, ns, h, e => by
    obtain ⟨x, zs, q, d, d2⟩ := h
    cases v <;> simp [intsV] at e
    obtain ⟨l, e1, e2⟩ := e
    rw [q, ← e2, DenL.ints d2 e1, show x = _ from d]; rfl
theorem DenL.bls : ∀ {vs : List Val} {xs : List V} {ns : List Bool}, DenL K C R H vs xs → blsV vs = some ns → xs = ns.map V.bl
  | [], _, _, h, e => by rw [show _ = ([] : List V) from h]; cases e; rfl
  | v :: r, _, ns, h, e => by
    obtain ⟨x, zs, q, d, d2⟩ := h
    cases v <;> simp [blsV] at e
    obtain ⟨l, e1, e2⟩ := e
    rw [q, ← e2, DenL.bls d2 e1, show x = _ from d]; rfl
theorem DenL.strs : ∀ {vs : List Val} {xs : List V} {ns : List Str}, DenL K C R H vs xs → strsV vs = some ns → xs = ns.map V.str
  | [], _, _, h, e => by rw [show _ = ([] : List V) from h]; cases e; rfl
  | v :: r, _, ns, h, e => by
    obtain ⟨x, zs, q, d, d2⟩ := h
    cases v <;> simp [strsV] at e
    obtain ⟨l, e1, e2⟩ := e
    rw [q, ← e2, DenL.strs d2 e1, show x = _ from d]; rfl
theorem DenL.ofInts : ∀ (ns : List Int), DenL K C R H (ns.map Val.int) (ns.map V.int)
  | [] => rfl
  | i :: r => ⟨_, _, rfl, rfl, DenL.ofInts r⟩
theorem DenL.ofStrs : ∀ (ns : List Str), DenL K C R H (ns.map Val.str) (ns.map V.str)
  | [] => rfl
  | i :: r => ⟨_, _, rfl, rfl, DenL.ofStrs r⟩
/-! data -/
mutual
theorem Den.dp : ∀ (k : Nat) (v : Val) (x : V) (d : PyData), Den K C R H v x → toD k v = some d → Dp K H x d ∧ d.canLay0 = true ∧ d.depth ≤ k
  | k, .non, x, d, h, e => by
    cases k <;> (simp [toD] at e; subst e; rw [show x = _ from h]; exact ⟨.non, rfl, Nat.zero_le _⟩)
  | k, .bl b, x, d, h, e => by
    cases k <;> (simp [toD] at e; subst e; rw [show x = _ from h]; exact ⟨.bl b, rfl, Nat.zero_le _⟩)
  | k, .int b, x, d, h, e => by
    cases k <;> (simp [toD] at e; subst e; rw [show x = _ from h]; exact ⟨.int b, rfl, Nat.zero_le _⟩)
  | k, .str b, x, d, h, e => by
    cases k <;> (simp only [toD] at e; split at e <;> cases e; rename_i hb; rw [show x = _ from h]; exact ⟨.str b, hb, Nat.zero_le _⟩)
  | 0, .tup vs, x, d, h, e => by simp [toD] at e
  | 0, .lst vs, x, d, h, e => by simp [toD] at e
  | k + 1, .tup vs, x, d, h, e => by
    simp only [toD, Option.map_eq_some_iff] at e
    obtain ⟨ds, e, rfl⟩ := e
    obtain ⟨a, xs, rfl, t, dl⟩ := h
    obtain ⟨p, q, r⟩ := DenL.dp k vs xs ds dl e
    exact ⟨.tup t.sq p, q, Nat.succ_le_succ r⟩
  | k + 1, .lst vs, x, d, h, e => by
    simp only [toD, Option.map_eq_some_iff] at e
    obtain ⟨ds, e, rfl⟩ := e
    obtain ⟨a, xs, rfl, t, dl⟩ := h
    obtain ⟨p, q, r⟩ := DenL.dp k vs xs ds dl e
    exact ⟨.lst t.sq p, q, Nat.succ_le_succ r⟩
  | k, .dct _, x, d, h, e => by cases k <;> simp [toD] at e
  | k, .ro _, x, d, h, e => by cases k <;> simp [toD] at e
  | k, .ins _ _, x, d, h, e => by cases k <;> simp [toD] at e
  | k, .ref _, x, d, h, e => by cases k <;> simp [toD] at e
theorem DenL.dp : ∀ (k : Nat) (vs : List Val) (xs : List V) (ds : List PyData), DenL K C R H vs xs → toDL k vs = some ds → DpAll K H xs ds ∧ PyData.canLayAll0 ds = true ∧ PyData.depthAll ds ≤ k
  | k, [], xs, ds, h, e => by
    simp [toDL] at e; subst e; rw [show xs = _ from h]; exact ⟨.nil, rfl, Nat.zero_le _⟩
  | k, v :: r, xs, ds, h, e => by
    simp only [toDL, Option.bind_eq_some_iff, Option.map_eq_some_iff] at e
    obtain ⟨d, e1, es, e2, rfl⟩ := e
    obtain ⟨x, ys, rfl, h1, h2⟩ := h
    obtain ⟨p, q, t⟩ := Den.dp k v x d h1 e1
    obtain ⟨p2, q2, t2⟩ := DenL.dp k r ys es h2 e2
    exact ⟨.cons p p2, by simp [PyData.canLayAll0, q, q2], by simp only [PyData.depthAll]; omega⟩
end
theorem Den.shaped {v : Val} {x : V} {d : PyData} (h : Den K C R H v x) (e : toD 60 v = some d) : Dp K H x d ∧ SeqAt.shaped d = true := by
  obtain ⟨p, q, r⟩ := Den.dp 60 v x d h e
  refine ⟨p, ?_⟩
  unfold SeqAt.shaped
  rw [q, Bool.true_and]
  exact decide_eq_true
                          (by omega)
end
end Co
end

section
set_option linter.all false
set_option maxRecDepth 100000
set_option autoImplicit false
/-! Co4: states, readings, the first expressions. -/
namespace Co
open PySem PySem.Spec
                        PyProof.Rows L2

def obBelow (b : Nat) : Ob → Bool
  | .lst vs => belowL b vs
  | .ins _ fs => belowK b fs
def ObD (K : PySem.W.Frag) (C : Nat → Addr) (R : Rg) (H : Hp) : Ob → Option HO → Prop
  | .lst vs, some (.lst xs) => xs.length ≤ sizeLine ∧ DenL K C R H vs xs
  | .ins c kvs, some (.ins a dx gs) => a = C c ∧ DenK K C R H kvs (gs.map fun p => (Sum.inr p.1, p.2))
  | _, _ => False
structure Sim (K : PySem.W.Frag) (C : Nat → Addr) (bs : List Nat) (base : Nat) (R : Rg) (h : Hh) (H : Hp) : Prop where
  len : R.own.length = h.length
  nd : R.own.Nodup
  dj : ∀ a ∈ R.own, a ∉ R.no
  obj : ∀ (n : Nat) (o : Ob) (a : Addr), h[n]? = some o → R.own[n]? = some a → ObD K C R H o (H a)
  cl : ∀ b ∈ bs, ∀ (n : Nat) (o : Ob), n < b → h[n]? = some o → obBelow b o = true
  le : ∀ b ∈ bs, b ≤ base
  nn : ∀ a ∈ R.no, H a ≠ none
def DenS (K : PySem.W.Frag) (C : Nat → Addr) (R : Rg) (H : Hp) (s : Env) (σ : L2.St) : Prop :=
  s.length = σ.length ∧ ∀ (i : Nat) (v : Val), s[i]? = some (some v) → ∃ x, σ[i]? = some (some x) ∧ Den K C R H v x
section
variable {K : PySem.W.Frag} {C : Nat → Addr} {bs : List Nat} {base : Nat} {R R' : Rg} {h h' : Hh} {H H' : Hp} {s : Env} {σ : L2.St}
theorem DenS.mono (d : DenS K C R H s σ) (e : Ext R R' H H') : DenS K C R' H' s σ :=
  ⟨d.1, fun i v q => let ⟨x, a, b⟩ := d.2 i v q; ⟨x, a, b.mono e⟩⟩
theorem DenS.set (d : DenS K C R H s σ) (i : Nat) {v : Val} {x : V} (k : Den K C R H v x) : DenS K C R H (s.set i (some v)) (σ.set i (some x)) := by
  refine ⟨by simp [d.1], fun j w q => ?_⟩
  by_cases hj : i = j
  · subst hj
    have hl : i < s.length := by
      have := (List.getElem?_eq_some_iff.mp q).1
      simpa using this
    rw [List.getElem?_set_self hl] at q
    cases q
    exact ⟨x, by rw [List.getElem?_set_self (by rw [← d.1]; exact hl)], k⟩
  · rw [List.getElem?_set_ne hj] at q
    obtain ⟨y, a, b⟩ := d.2 j w q
    exact ⟨y, by rw [List.getElem?_set_ne hj]; exact a, b⟩
theorem DenS.unset (d : DenS K C R H s σ) (i : Nat) : DenS K C R H (s.set i none) (σ.set i none) := by
  refine ⟨by simp [d.1], fun j w q => ?_⟩
  by_cases hj : i = j
  · subst hj
    by_cases hl : i < s.length
    · rw [List.getElem?_set_self hl] at q; cases q
    · rw [List.getElem?_eq_none (by simpa using hl)] at q; cases q
  · rw [List.getElem?_set_ne hj] at q
    obtain ⟨y, a, b⟩ := d.2 j w q
    exact ⟨y, by rw [List.getElem?_set_ne hj]; exact a, b⟩
theorem DenS.wipe (d : DenS K C R H s σ) : ∀ vs : List Nat, DenS K C R H (wipeE s vs) (L2.wipe σ vs)
  | [] => d
  | v :: vs => (DenS.wipe d vs).unset v
/-- a new object that is not ours -/
theorem Sim.new (S : Sim K C bs base R h H) {p : Addr} {o : HO} (n : H p = none) : Sim K C bs base R h (upd H p o) := by
  refine ⟨S.len, S.nd, S.dj, fun i ob a e r => ?_, S.cl, S.le, fun a m => (Ext.new (R := R) n).there a (S.nn a m)⟩
  have q := S.obj i ob a e r
  have np : a ≠ p := by
    intro z
    subst z
    rw [n] at q
    cases ob <;> exact q.elim
  rw [upd_ne np]
  have X : Ext R R H (upd H p o) := Ext.new n
  cases ob with
  | lst vs =>
    cases ha : H a with
    | none => rw [ha] at q; exact q.elim
    | some u =>
      rw [ha] at q
      cases u <;> first | exact q.elim | exact ⟨q.1, q.2.mono X⟩
  | ins c kvs =>
    cases ha : H a with
    | none => rw [ha] at q; exact q.elim
    | some u =>
      rw [ha] at q
      cases u <;> first | exact q.elim | exact ⟨q.1, DenK.mono X _ _ q.2⟩
theorem ObD.mono {ob : Ob} {u : Option HO} (q : ObD K C R H ob u) (X : Ext R R' H H') : ObD K C R' H' ob u := by
  cases ob with
  | lst vs =>
    cases u with
    | none => exact q.elim
    | some u => cases u <;> first | exact q.elim | exact ⟨q.1, q.2.mono X⟩
  | ins c kvs =>
    cases u with
    | none => exact q.elim
    | some u => cases u <;> first | exact q.elim | exact ⟨q.1, DenK.mono X _ _ q.2⟩
theorem Sim.there (S : Sim K C bs base R h H) {i : Nat} {a : Addr} (r : R.own[i]? = some a) : ∃ o, h[i]? = some o ∧ ObD K C R H o (H a) := by
  have hl : i < h.length := by rw [← S.len]; exact (List.getElem?_eq_some_iff.mp r).1
  exact ⟨h[i], List.getElem?_eq_getElem hl, S.obj i _ a (List.getElem?_eq_getElem hl) r⟩
/-- a new list of ours -/
theorem Sim.alloc (S : Sim K C bs base R h H) (hb : base ≤ h.length) {p : Addr} {vs : List Val} {xs : List V} (n : H p = none) (hl : xs.length ≤ sizeLine) (d : DenL K C R H vs xs) :
    Sim K C bs base (R.add p) (h ++ [.lst vs]) (upd H p (.lst xs)) := by
  have X : Ext R (R.add p) H (upd H p (.lst xs)) := Ext.own n
  have nR : p ∉ R.own := fun m => by
    obtain ⟨i, hi⟩ := List.getElem?_of_mem m
    obtain ⟨o, _, q⟩ := S.there hi
    rw [n] at q
    cases o <;> exact q.elim
  refine ⟨by simp [S.len, Rg.add], ?_, ?_, fun i ob a e r => ?_, fun b hb2 i ob hi e => ?_, S.le, fun a m => X.there a (S.nn a m)⟩
  · simp only [Rg.add]
    rw [List.nodup_append]
    refine ⟨S.nd, by simp, fun a ha b hb2 => ?_⟩
    rw [List.mem_singleton.mp hb2]
    exact fun z => nR (by rw [← z]; exact ha)
  · intro a ha hb2
    rcases List.mem_append.mp ha with m | m
    · exact S.dj a m hb2
    · rw [List.mem_singleton.mp m] at hb2
      exact S.nn p hb2 n
  · simp only [Rg.add] at r
    by_cases hi : i < h.length
    · rw [List.getElem?_append_left hi] at e
      rw [List.getElem?_append_left (by rw [S.len]; exact hi)] at r
      have q := S.obj i ob a e r
      have np : a ≠ p := fun z => nR (by rw [← z]; exact List.mem_of_getElem? r)
      rw [upd_ne np]
      exact q.mono X
    · have hi2 : i = h.length := by
        have := (List.getElem?_eq_some_iff.mp e).1
        simp at this
        omega
      subst hi2
      rw [List.getElem?_append_right (Nat.le_refl _), Nat.sub_self] at e
      rw [← S.len, List.getElem?_append_right (Nat.le_refl _), Nat.sub_self] at r
      cases e; cases r
      rw [upd_same]
      exact ⟨hl, d.mono X⟩
  · have : i < h.length := Nat.lt_of_lt_of_le hi (Nat.le_trans (S.le b hb2) hb)
    rw [List.getElem?_append_left this] at e
    exact S.cl b hb2 i ob hi e
mutual
theorem below_le {m n : Nat} (hmn : m ≤ n) : ∀ v : Val, below m v = true → below n v = true
  | .non, _ => rfl
  | .bl _, _ => rfl
  | .int _, _ => rfl
  | .str _, _ => rfl
  | .tup vs, h => by simp only [below] at h ⊢; exact belowL_le hmn vs h
  | .lst vs, h => by simp only [below] at h ⊢; exact belowL_le hmn vs h
  | .ro vs, h => by simp only [below] at h ⊢; exact belowL_le hmn vs h
  | .dct vs, h => by simp only [below] at h ⊢; exact belowK_le hmn vs h
  | .ins _ vs, h => by simp only [below] at h ⊢; exact belowK_le hmn vs h
  | .ref k, h => by simp only [below, decide_eq_true_eq] at h ⊢; omega
theorem belowL_le {m n : Nat} (hmn : m ≤ n) : ∀ v : List Val, belowL m v = true → belowL n v = true
  | [], _ => rfl
  | v :: r, h => by simp only [belowL, Bool.and_eq_true] at h ⊢; exact ⟨below_le hmn v h.1, belowL_le hmn r h.2⟩
theorem belowK_le {m n : Nat} (hmn : m ≤ n) : ∀ v : List (Key × Val), belowK m v = true → belowK n v = true
  | [], _ => rfl
  | (k, v) :: r, h => by simp only [belowK, Bool.and_eq_true] at h ⊢; exact ⟨below_le hmn v h.1, belowK_le hmn r h.2⟩
end
/-- one of ours is written: a list -/
theorem Sim.setL (S : Sim K C bs base R h H) {n : Nat} {p : Addr} {ws : List Val} {ys : List V} (r : R.own[n]? = some p) (hn : n < h.length) (hl : ys.length ≤ sizeLine) (d : DenL K C R H ws ys)
    (hm : base ≤ n ∨ belowL n ws = true ∨ ∀ b ∈ bs, n < b → belowL b ws = true) : Sim K C bs base R (h.set n (.lst ws)) (upd H p (.lst ys)) := by
  have mp : p ∈ R.own := List.mem_of_getElem? r
  have X : Ext R R H (upd H p (.lst ys)) := Ext.set mp
  refine ⟨by simp [S.len], S.nd, S.dj, fun i ob a e r2 => ?_, fun b hb i ob hi e => ?_, S.le, fun a m => X.there a (S.nn a m)⟩
  · by_cases hin : n = i
    · subst hin
      rw [List.getElem?_set_self hn] at e
      cases e
      rw [r] at r2; cases r2
      rw [upd_same]
      exact ⟨hl, d.mono X⟩
    · rw [List.getElem?_set_ne hin] at e
      have np : a ≠ p := fun z => by
        subst z
        have h1 := List.getElem?_eq_some_iff.mp r
        have h2 := List.getElem?_eq_some_iff.mp r2
        exact hin ((List.getElem_inj S.nd).mp (h1.2.trans h2.2.symm))
      rw [upd_ne np]
      exact (S.obj i ob a e r2).mono X
  · by_cases hin : n = i
    · subst hin
      rw [List.getElem?_set_self hn] at e
      cases e
      rcases hm with hm | hm | hm
      · exact absurd (Nat.lt_of_lt_of_le hi (S.le b hb)) (Nat.not_lt.mpr hm)
      · exact belowL_le (Nat.le_of_lt hi) ws hm
      · exact hm b hb hi
    · rw [List.getElem?_set_ne hin] at e
      exact S.cl b hb i ob hi e
/-- a list that is read: ours, or not -/
theorem Den.rd (S : Sim K C bs base R h H) {v : Val} {x : V} (d : Den K C R H v x) {vs : List Val} (e : rd h v = .lst vs) : ∃ a xs, x = .ref a ∧ H a = some (.lst xs) ∧ xs.length ≤ sizeLine ∧ DenL K C R H vs xs := by
  cases v <;> simp only [Co.rd] at e
  case lst ws =>
    cases e
    obtain ⟨a, xs, q, t, dl⟩ := d
    exact ⟨a, xs, q, t.2.1, t.1, dl⟩
  case ref n =>
    obtain ⟨a, r, q⟩ := d
    obtain ⟨o, ho, ob⟩ := S.there r
    rw [ho] at e
    cases o with
    | lst ws =>
      cases e
      cases ha : H a with
      | none => rw [ha] at ob; exact ob.elim
      | some u =>
        rw [ha] at ob
        cases u <;> first | exact ob.elim | exact ⟨a, _, q, ha, ob.1, ob.2⟩
    | ins c fs => cases e
  all_goals cases e
theorem rd_eq {v w : Val} (e : Co.rd h v = w) (n : ∀ vs, w ≠ .lst vs) : v = w := by
  cases v <;> simp only [Co.rd] at e <;> try exact e
  split at e
  · exact absurd e.symm (n _)
  · exact e
end
/-! ### readings -/
structure Sx where
  K : PySem.W.Frag
  C : Nat → Addr
  bs : List Nat
  g : G
def trE (Z : Sx) (c : CE) : TE := fun σ H Q => ∃ s h R v h', Sim Z.K Z.C Z.bs Z.g.base R h H ∧ Z.g.base ≤ h.length ∧ DenS Z.K Z.C R H s σ ∧ evE Z.g c s h = .ok v h' ∧
  ∀ R' H' x, Ext R R' H H' → Sim Z.K Z.C Z.bs Z.g.base R' h' H' → DenS Z.K Z.C R' H' s σ → Den Z.K Z.C R' H' v x → Q x H'
def trT (Z : Sx) (c : CE) : TT := fun σ H Q => ∃ s h R b h', Sim Z.K Z.C Z.bs Z.g.base R h H ∧ Z.g.base ≤ h.length ∧ DenS Z.K Z.C R H s σ ∧ evE Z.g c s h = .ok (.bl b) h' ∧
  ∀ R' H', Ext R R' H H' → Sim Z.K Z.C Z.bs Z.g.base R' h' H' → DenS Z.K Z.C R' H' s σ → Q b H'
def trA (Z : Sx) (es : List CE) : TA := fun σ H Q => ∃ s h R vs h', Sim Z.K Z.C Z.bs Z.g.base R h H ∧ Z.g.base ≤ h.length ∧ DenS Z.K Z.C R H s σ ∧ evEs Z.g es s h = .ok vs h' ∧
  ∀ R' H' xs, Ext R R' H H' → Sim Z.K Z.C Z.bs Z.g.base R' h' H' → DenS Z.K Z.C R' H' s σ → DenL Z.K Z.C R' H' vs xs → Q xs H'
theorem base_of {Z : Sx} {R R' : Rg} {h h' : Hh} {H H' : Hp} (X : Ext R R' H H') (S : Sim Z.K Z.C Z.bs Z.g.base R h H) (S' : Sim Z.K Z.C Z.bs Z.g.base R' h' H') (b : Z.g.base ≤ h.length) : Z.g.base ≤ h'.length := by
  obtain ⟨r, e, _⟩ := X.more
  rw [← S'.len, e, List.length_append, S.len]
  omega
/-- the names of a def's scope, and what stands around -/
structure Stc where
  N : List Str
  fns : List (Str × Nat)
  cls : List (Str × Nat)
  cst : List (Str × Val)
  blt : List Str
  mks : List Nat
  flds : List Str
  kws : List (Nat × List Str × List Nat)
/-- a promise of a def: without exceptions, where no guard stands -/
abbrev SpV := List V → Hp → VK → Prop
structure FnG (P : Program) (w : World) (K : PySem.W.Frag) (mg : Str → Option Value) (base : Heap) (k : Nat) (f : Addr) (fd : FuncData) (ps : List Str) (sp : SpV) : Prop where
  len : ∀ (vs : List V) (H : Hp) (Q : VK), sp vs H Q → vs.length = ps.length
  run : ∀ (A : Around) (outer : List PySem.Env) (s : Shared) (H : Hp) (args : Args) (us : List Value) (vs : List V) (Q : VK), Room k A → A.guards = some [] → Env0 P w K mg base A outer s H → BindsTo s fd args (ps.zip us) → Vals vs us → sp vs H Q →
    codeAny (model P w) A (.call (.ref f) args) (CR CX0 outer P w H s Q E0) s
/-- what the interpreter's call of def f promises -/
def spZ (Z : Sx) (f : Nat) : SpV := fun xs H Q => ∃ R h vs v h', Sim Z.K Z.C Z.bs Z.g.base R h H ∧ Z.g.base ≤ h.length ∧ DenL Z.K Z.C R H vs xs ∧ Z.g.call f vs h = .ok v h' ∧
  ∀ R' H' x, Ext R R' H H' → Sim Z.K Z.C Z.bs Z.g.base R' h' H' → Den Z.K Z.C R' H' v x → Q x H'
/-- .. of the making of an instance of class c: what its __init__ promises -/
def spM (Z : Sx) (c : Nat) : List V → Hp → VK → Prop := fun xs H Q => ∃ R h vs v h', Sim Z.K Z.C Z.bs Z.g.base R h H ∧ Z.g.base ≤ h.length ∧ DenL Z.K Z.C R H vs xs ∧ Z.g.make c vs h = .ok v h' ∧
  ∀ R' H' x, Ext R R' H H' → Sim Z.K Z.C Z.bs Z.g.base R' h' H' → Den Z.K Z.C R' H' v x → Q x H'
/-- a class that is looked at -/
structure ClsK (K : PySem.W.Frag) (C : Nat → Addr) (c : Nat) : Prop where
  cl : Cls K (C c)
  ha : PySem.W.findIn K (.ref (C c)) "__class__" = some (some (.builtin "object.__class__"))
  hn : PySem.W.specialIn K (.builtin "object.__class__") "__get__" = some
                          (some (.builtin "getset_descriptor.__get__"))
  htk : PySem.W.takesIn K
                          (.builtin "object.__class__") = some true
  hm : PySem.W.mroIn K (C c) (.type "object") = some true
def tyNames : List String := ["NoneType", "bool", "int", "str", "list", "tuple", "dict"]
/-- a call by names alone binds so -/
def KwB (fd : FuncData) (ps ks : List Str) (perm : List Nat) : Prop := ∀ (s : Shared) (ws : List Value), ws.length = ks.length → BindsTo s fd ⟨[], ks.zip ws⟩ (ps.zip (permL perm ws))
structure XOk (T : Stc) (Z : Sx) (X : Cx) (sc : Scope) : Prop where
  K : Z.K = X.K
  N : X.N = T.N
  nd : T.N.Nodup
  sc : X.env.scope = sc
  calm : X.calm = true
  room : Room 1 X.A
  gd : X.A.guards = some []
  blt : ∀ x ∈ T.blt, X.mg x = none
  cst : ∀ x v, T.cst.lookup x = some v → ∃ u xv, X.mg x = some u ∧ RelV xv u ∧ ∀ R H, Den X.K Z.C R H v xv
  fns : ∀ x f, T.fns.lookup x = some f → ∃ (k : Nat) (fa : Addr) (fd : FuncData) (ps : List Str), FnG X.prog X.w X.K X.mg X.base k fa fd ps (spZ Z f) ∧ Room k X.A ∧ X.mg x = some (.ref fa) ∧
    PySem.W.keepIn X.K (.ref fa) = true ∧ Binds X.K fd ps [] ∧ ∀ ks perm, (f, ks, perm) ∈ T.kws → KwB fd ps ks perm
  mks : ∀ x c, T.cls.lookup x = some c → X.mg x = some (.ref (Z.C c)) ∧ c < Z.g.ncl ∧ (∀ t ∈ tyNames, PySem.W.kitOne X.K (.type t) (.ref (Z.C c)) = some false) ∧
    (∀ d, d < Z.g.ncl → PySem.W.kitOne X.K (.ref (Z.C d)) (.ref (Z.C c)) = some (decide (d = c))) ∧
    (c ∈ T.mks → ∃ (k : Nat) (fa : Addr) (fd : FuncData) (ps : List Str) (sp : SpV), Mk X.K (Z.C c) fa ∧ FnG X.prog X.w X.K X.mg X.base k fa fd ps sp ∧ Room (k + 1) X.A ∧ Binds X.K fd ps [] ∧
      ∀ xs H Q, spM Z c xs H Q → ∀ x dx, H x = none → H dx = none → dx ≠ x → sp (.ref x :: xs) (upd (upd H dx (.own x)) x (.ins (Z.C c) dx [])) (fun v H2 => v = .non ∧ Q (.ref x) H2))
  cls : ∀ c, c < Z.g.ncl → ClsK X.K Z.C c
  isb : ∀ c, c < Z.g.ncl → ∀ t ∈ tyNames, PySem.W.kitOne X.K (.ref (Z.C c)) (.type t) = some false
  noat : ∀ c f, c < Z.g.ncl → f ∈ T.flds → (Z.g.prop c f).isSome = false → (Z.g.meth c f).isSome = false → NoAttr X.K (Z.C c) f
  prs : ∀ c f p, c < Z.g.ncl → Z.g.prop c f = some p → ∃ (k : Nat) (pa fa : Addr) (fd : FuncData) (ps : List Str), PropOf X.K (Z.C c) f pa fa ∧ FnG X.prog X.w X.K X.mg X.base k fa fd ps (spZ Z p) ∧ Room (k + 1) X.A ∧ Binds X.K fd ps []
def SE (T : Stc) (sc : Scope) (e : Expr) (c : CE) : Prop := ∀ (Z : Sx) (X : Cx), XOk T Z X sc → PE X e (trE Z c)
def ST (T : Stc) (sc : Scope) (e : Expr) (c : CE) : Prop := ∀ (Z : Sx) (X : Cx), XOk T Z X sc → PT X e (trT Z c)
def SA (T : Stc) (sc : Scope) (es : List Expr) (cs : List CE) : Prop := ∀ (Z : Sx) (X : Cx), XOk T Z X sc → PA X es (trA Z cs)
theorem bad_e {T : Stc} {sc : Scope} {e : Expr} : SE T sc e .bad := fun Z X ok => ⟨fun pins s σ H Q I h => by
  obtain ⟨s, h, R, v, h', _, _, _, e, _⟩ := h
  cases e⟩
theorem bad_t {T : Stc} {sc : Scope} {e : Expr} : ST T sc e .bad := fun Z X ok => ⟨fun pins s σ H Q I h => by
  obtain ⟨s, h, R, v, h', _, _, _, e, _⟩ := h
  cases e⟩
section
variable {T : Stc} {sc : Scope} {Z : Sx} {X : Cx}
theorem var_e {x : Str} {pos : Pos} {i : Nat} (hi : T.N[i]? = some x) (hv : Vis sc x) (h1 : (x == ("__debug__" : Str)) = false) (h2 : (x == ("__classdict__" : Str)) = false) : SE T sc (.Name x pos) (.var i) := fun Z X ok => by
  refine
                          ⟨fun pins s σ H Q I h => ?_⟩
  obtain ⟨s, h, R, v, h', S, b, D, e, k⟩ := h
  refine (pe_var (i := i) (by rw [ok.N]; exact hi) (by rw [ok.sc]; exact hv) h1 h2).run pins _ σ H Q I ?_
  simp only [evE] at e
  split at e
  · rename_i w hw
    cases e
    obtain ⟨x, a1, a2⟩ := D.2 i _ hw
    exact ⟨x, a1, k R H x (Ext.refl _ _) S D a2⟩
  · cases e
theorem two {a b : CE} {σ : L2.St} {H : Hp} {s : Env} {h h1 h2 : Hh} {R : Rg} {v w : Val} {W : V → V → Hp → Prop} (S : Sim Z.K Z.C Z.bs Z.g.base R h H) (hb : Z.g.base ≤ h.length) (D : DenS Z.K Z.C R H s σ)
    (ea : evE Z.g a s h = .ok v h1) (eb : evE Z.g b s h1 = .ok w h2)
    (k : ∀ R' H' x y, Ext R R' H H' → Sim Z.K Z.C Z.bs Z.g.base R' h2 H' → Z.g.base ≤ h2.length → DenS Z.K Z.C R' H' s σ → Den Z.K Z.C R' H' v x → Den Z.K Z.C R' H' w y → W x y H') :
    trE Z a σ H fun x H1 => trE Z b σ H1 fun y H2 => W x y H2 := by
  refine ⟨s, h, R, v, h1, S, hb, D, ea, fun R1 H1 x X1 S1 D1 dx => ?_⟩
  have b1 := base_of X1 S S1 hb
  refine ⟨s, h1, R1, w, h2, S1, b1, D1, eb, fun R2 H2 y X2 S2 D2 dy => ?_⟩
  exact k R2 H2 x y (X1.trans X2) S2 (base_of X2 S1 S2 b1) D2 (dx.mono X2) dy
end
end Co
end

section
set_option linter.all false
set_option maxRecDepth 100000
set_option autoImplicit false
/-! Co5: operations by values. -/
namespace Co
open PySem PySem.Spec
                        PyProof.Rows L2
section
variable {Z : Sx} {X : Cx} {R R' : Rg} {h h' : Hh} {H H' : Hp}
/-- what is known of a value behind an operation -/
abbrev Aft (Z : Sx) (R : Rg) (h : Hh) (H : Hp) (v : Val) (Q : VK) : Prop :=
  ∀ H' x, Ext R R H H' → Sim Z.K Z.C Z.bs Z.g.base R h H' → Den Z.K Z.C R H' v x → Q x H'
abbrev SimZ (Z : Sx) (R : Rg) (h : Hh) (H : Hp) : Prop := Sim Z.K Z.C Z.bs Z.g.base R h H
abbrev DenZ (Z : Sx) (R : Rg) (H : Hp) (v : Val) (x : V) : Prop := Den Z.K Z.C R H v x
abbrev DenLZ (Z : Sx) (R : Rg) (H : Hp) (v : List Val) (x : List V) : Prop := DenL Z.K Z.C R H v x
theorem Aft.here {v : Val} {Q : VK} (k : Aft Z R h H v Q) (S : SimZ Z R h H) {x : V} (d : DenZ Z R H v x) : Q x H := k H x (Ext.refl _ _) S d
theorem Sim.notin {K : PySem.W.Frag} {C : Nat → Addr} {bs : List Nat} {base : Nat} (S : Sim K C bs base R h H) {p : Addr} (n : H p = none) : p ∉ R := by
  rintro (m | m)
  · obtain ⟨i, hi⟩ := List.getElem?_of_mem m
    obtain ⟨o, _, q⟩ := S.there hi
    rw [n] at q
    cases o <;> exact q.elim
  · exact S.nn p m n
theorem Aft.lst {vs : List Val} {Q : VK} (k : Aft Z R h H (.lst vs) Q) (S : SimZ Z R h H) {p : Addr} {xs : List V} (n : H p = none) (hl : xs.length ≤ sizeLine) (d : DenLZ Z R H vs xs) : Q (.ref p) (upd H p (.lst xs)) :=
  k _ _ (Ext.new n) (S.new n) ⟨p, xs, rfl, ⟨hl, upd_same, S.notin n⟩, d.mono (Ext.new n)⟩
theorem Aft.tup {vs : List Val} {Q : VK} (k : Aft Z R h H (.tup vs) Q) (S : SimZ Z R h H) {p : Addr} {xs : List V} (n : H p = none) (hl : xs.length ≤ sizeLine) (d : DenLZ Z R H vs xs) : Q (.ref p) (upd H p (.tup xs)) :=
  k _ _ (Ext.new n) (S.new n) ⟨p, xs, rfl, ⟨hl, .inl ⟨.inl upd_same, S.notin n⟩⟩, d.mono (Ext.new n)⟩
theorem op_fdivP : OpR X (binaryOp .FloorDiv) (rI (fun i j => j ≠ 0 ∧ Builtin.divisionGoesByPylong i j = false) fun i j => .int (i.fdiv j)) := opI fun _ _ _ _ _ _ _ hc q => floordiv_int hc.1 q (.inl hc.2)
theorem op_mulA : OpR X (binaryOp .Mult) (rI (fun i j => mulOk i j = true) fun i j => .int (i * j)) := opI fun i j _ _ _ _ _ hc q => by
  refine mul_int q ?_
  unfold mulOk at hc
  simp only [Bool.or_eq_true, decide_eq_true_eq] at hc
  rcases hc with hc | hc | hc
  · exact .of_left (intBits_le_64 (by omega) (by omega))
  · exact .of_right (intBits_le_64 (by omega) (by omega))
  · exact CMulW.ok hc
theorem ints_den : ∀ {vs : List Val} {ns : List Int}, intsV vs = some ns → vs = ns.map Val.int
  | [], _, e => by cases e; rfl
  | v :: r, ns, e => by
    cases v <;> simp [intsV] at e
    obtain ⟨l, e1, e2⟩ := e
    rw [← e2, ints_den e1]; rfl
set_option maxHeartbeats
                        4000000 in
/-- a tuple, once -/
theorem tup_once (l : Addr) (its : Array Value) (n : Nat) (dd : Option Addr) (sl : Array (Option Value)) (u : Tok) :
    Meets (Builtin.«tuple.__mul__» ⟨[.ref l, .int 1 u], []⟩) (fun _ R s => s.heap.get? l = some { cls := .type "tuple", dict := dd, data := .seq its n, slots := sl } ∧ R (.ok (.ret (.ref l))) s) :=
  .of_wp fun P W A R s h => by
    obtain
                            ⟨hp, g, d, tk, os⟩ := s
    obtain ⟨hl, h⟩ := h
    have f1 := AutoSeq1.idx_int
    have one : (its.isEmpty || (1 : Int) == 1) = true := by simp
    wp_walk using
                            wpAny_loadPart' hl
    repeat (first
      | (refine wpAny_ite_true (decide_eq_true one) ?_; wp_walk using wpAny_loadPart' hl)
      | (refine wpAny_ite_false (by decide) ?_; wp_walk using wpAny_loadPart' hl))
    exact ⟨_, rfl, h⟩
def rOnce (K : PySem.W.Frag) : R2 := fun x y H Q => ∃ l xs, x = .ref l ∧ y = .int 1 ∧ SqT K H l xs ∧ Q (.ref l) H
theorem op_once : OpR X (binaryOp .Mult) (rOnce X.K) := by
  intro pins s σ H x
                          y v u Q I rx ry h
  obtain ⟨l, xs, rfl, rfl, hT, q⟩ := h
  cases rx
  obtain ⟨t, rfl⟩ := ry
  obtain ⟨its, r,
                          ⟨⟨cls, dd, data, sl⟩, ho, hc, n, hd⟩, hs⟩ := I.tuple hT
  simp only at hc hd
  subst hc hd
  exact wpAny_binaryOp_repeat_ref (T := "tuple") (U := "int") (by decide) ⟨_, ho, rfl⟩ (fun s2 => typeIs_int s2 1 t) noFill_tuple_mul F.fills_int_mul F.slot_int_rmul repeat_tuple F.slot_int_index.lookup
    (call_meets F.slot_int_rmul (typeIs_int s 1 t) F.entry_int_rmul (F.args_int_rmul_2 _ _) (int_rmul_tuple 1 t l its.toArray n dd sl)
      ⟨ho, rfl, ⟨_, ho, rfl⟩, call_meets F.slot_tuple_mul ⟨_, ho, rfl⟩ F.entry_tuple_mul (F.args_tuple_mul_2 _ _) (tup_once l its.toArray n dd sl t) ⟨ho, .ref l, H, I, rfl, q⟩⟩)
/-- a op b -/
theorem bop_ok (hK : Z.K = X.K) (S : SimZ Z R h H) {op : Operator} {v w r : Val} {x y : V} (e : bop op (rd h v) (rd h w) = some r) (dv : DenZ Z R H v x) (dw : DenZ Z R H w y) :
    ∃ rr : R2, OpR X (binaryOp op) rr ∧ ∀ Q, Aft Z R h H r Q → rr x y H Q := by
  generalize ea : rd h v = a at e
  generalize eb : rd h w = b at e
  have ii : ∀ {i : Int}, a = .int i → x = .int i := fun q => by
    subst q
    have := rd_eq ea (by simp)
    subst this
    exact dv
  have jj : ∀ {i : Int}, b = .int i → y = .int i := fun q => by
    subst q
    have := rd_eq eb (by simp)
    subst this
    exact dw
  have is : ∀ {i : Str}, a = .str i → x = .str i := fun q => by
    subst q
    have := rd_eq ea (by simp)
    subst this
    exact dv
  have js : ∀ {i : Str}, b = .str i → y = .str i := fun q => by
    subst q
    have := rd_eq eb (by simp)
    subst this
    exact dw
  unfold bop at e
  split at e
  · cases e
    exact ⟨_, op_add, fun Q k => ⟨_, _, ii rfl, jj rfl, k.here S rfl⟩⟩
  · split at e <;> cases e
    rename_i hl
    exact ⟨_, op_add_str, fun Q k => ⟨_, _, is rfl, js rfl, by rw [sz]; exact hl, k.here S rfl⟩⟩
  · split at e <;> cases e
    rename_i hl
    obtain ⟨p, xs, rfl, tp, l1, d1⟩ := dv.rd S ea
    obtain ⟨q, ys, rfl, tq, l2, d2⟩ := dw.rd S eb
    have hz : xs.length + ys.length ≤ sizeLine := by rw [← d1.length, ← d2.length, sz]; exact hl
    exact ⟨_, op_cat, fun Q k => ⟨p, q, xs, ys, rfl, rfl, tp, tq, hz, fun n hn => k.lst S hn (by rw [List.length_append]; exact hz) (d1.append d2)⟩⟩
  · split at e <;> cases e
    rename_i hl
    have e1 := rd_eq ea (by simp)
    have e2 := rd_eq eb (by simp)
    subst e1; subst e2
    obtain ⟨p, xs, rfl, tp, d1⟩ := dv
    obtain ⟨q, ys, rfl, tq, d2⟩ := dw
    have hz : xs.length + ys.length ≤ sizeLine := by rw [← d1.length, ← d2.length, sz]; exact hl
    refine ⟨_, op_catA, fun Q k => ⟨p, q, xs, ys, rfl, rfl, by rw [← hK]; exact tp.sq, by rw [← hK]; exact tq.sq, hz, fun z => ?_, fun _ z => ?_, fun _ _ n hn => k.tup S hn (by rw [List.length_append]; exact hz) (d1.append d2)⟩⟩
    · have : _ = 0 := d1.length.trans (by rw [z]; rfl)
      rw [List.length_eq_zero_iff.mp this] at k
      exact k.here S ⟨q, ys, rfl, tq, d2⟩
    · have : _ = 0 := d2.length.trans (by rw [z]; rfl)
      rw [List.length_eq_zero_iff.mp this, List.append_nil] at k
      exact k.here S ⟨p, xs, rfl, tp, d1⟩
  · cases e
    exact ⟨_, op_sub, fun Q k => ⟨_, _, ii rfl, jj rfl, k.here S rfl⟩⟩
  · split at e <;> cases e
    rename_i hl
    exact ⟨_, op_mulA, fun Q k => ⟨_, _, ii rfl, jj rfl, hl, k.here S rfl⟩⟩
  · split at e <;> cases e
    rename_i hl
    unfold repOk at hl
    simp only [Bool.and_eq_true, decide_eq_true_eq] at hl
    obtain ⟨p, xs, rfl, tp, l1, d1⟩ := dv.rd S ea
    have hz := hl.2.2
    rw [d1.length, ← sz] at hz
    exact ⟨_, op_rep, fun Q k => ⟨p, _, xs, rfl, jj rfl, tp, by omega, hl.2.1, hz, fun n hn => k.lst S hn (by rw [lm_len_rep_flat, Nat.mul_comm]; exact hz) (d1.rep _)⟩⟩
  · rename_i kk
    split at e <;> cases e
    rename_i hl
    have e1 := rd_eq ea (by simp)
    subst e1
    obtain ⟨p, xs, rfl, tp, d1⟩ := dv
    rw [d1.length] at hl
    have hx : xs ≠ [] := fun z => hl.1 (by have := d1.length; rw [z] at this; exact List.length_eq_zero_iff.mp this)
    by_cases one : kk = 1
    · subst one
      refine ⟨_, op_once, fun Q k => ⟨p, xs, rfl, jj rfl, by rw [← hK]; exact tp.sq, k.here S ⟨p, xs, rfl, tp, ?_⟩⟩⟩
      have := d1.rep 1
      simpa using this
    exact ⟨_, op_repT, fun Q k => ⟨p, _, xs, rfl, jj rfl, by rw [← hK]; exact tp.sq, hx, by omega, hl.2.2.1, hl.2.2.2, fun n hn => k.tup S hn (by
      rw [lm_len_rep_flat, sz]
      have h1 := hl.2.2.2
      have h2 := hl.2.2.1
      have hlim : lim = 16777216 := rfl
      have : kk.toNat * xs.length ≤ 1000 * 1000 := Nat.mul_le_mul (show kk.toNat ≤ 1000 by omega) h1
      omega) (d1.rep _)⟩⟩
  · split at e <;> cases e
    rename_i hl
    unfold divOk at hl
    simp only [Bool.and_eq_true, Bool.not_eq_true', decide_eq_false_iff_not] at hl
    exact ⟨_, op_fdivP, fun Q k => ⟨_, _, ii rfl, jj rfl, hl, k.here S rfl⟩⟩
  · split at e <;> cases e
    rename_i hl
    exact ⟨_, op_modN, fun Q k => ⟨_, _, ii rfl, jj rfl, hl, k.here S rfl⟩⟩
  · split at e <;> cases e
    rename_i hl
    unfold powOk at hl
    simp only [Bool.and_eq_true, decide_eq_true_eq] at hl
    exact ⟨_, op_pow, fun Q k => ⟨_, _, ii rfl, jj rfl, hl, k.here S rfl⟩⟩
  · cases e

/-! ### comparisons -/
theorem inD_eq (a : Val) : ∀ (bs : List Val) (k : Bool), inD a bs = some k → bs ≠ [] → ∃ d ds, toD 60 a = some d ∧ toDL 60 bs = some ds ∧ k = ds.any fun z => PyData.eqv z d
  | [], _, _, hn => absurd rfl hn
  | b :: r, k, e, _ => by
    simp only [inD, Option.bind_eq_some_iff, Option.map_eq_some_iff] at e
    obtain ⟨j, e1, m, e2, rfl⟩ := e
    simp only [eqD, Option.bind_eq_some_iff, Option.map_eq_some_iff] at e1
    obtain ⟨z, f1, d, f2, rfl⟩ := e1
    by_cases hr : r = []
    · subst hr
      simp only [inD] at e2
      cases e2
      exact ⟨d, [z], f2, by simp [toDL, f1], by simp⟩
    · obtain ⟨d', ds, g1, g2, rfl⟩ := inD_eq a r m e2 hr
      rw [f2] at g1; cases g1
      exact ⟨d, z :: ds, f2, by simp [toDL, f1, g2], by simp⟩
theorem shapedL {bs : List Val} {xs : List V} {ds : List PyData} (h : DenLZ Z R H bs xs) (e : toDL 60 bs = some ds) : DpAll Z.K H xs ds ∧ SeqAt.shaped (.list ds) = true ∧ SeqAt.shaped (.tuple ds) = true := by
  obtain ⟨p, q, r⟩ := DenL.dp 60 bs xs ds h e
  refine ⟨p, ?_, ?_⟩ <;> (unfold SeqAt.shaped; simp only [PyData.canLay0, PyData.depth, q]; rw [Bool.true_and]; exact decide_eq_true (by omega))
theorem op_inT (hu : X.A.units + 65 < cLine) : OpR X (compareOp .In) (fun x y H Q => ∃ d ds, Dp X.K H x d ∧ Dp X.K H y (.tuple ds) ∧ SeqAt.shaped d = true ∧ SeqAt.shaped (.tuple ds) = true ∧ Q (.bl (ds.any fun z => PyData.eqv z d)) H) := by
  rintro pins s σ H x y v u Q I rx ry ⟨d, ds, hd, he, sd, se, q⟩
  obtain
                          ⟨as, r1⟩ := Dp.reads I d x v hd rx
  obtain ⟨bs, r2⟩ := Dp.reads I (.tuple ds) y u he ry
  exact SeqAt.in_tuple_reads r2 r1 (SeqAt.canLay_of_shaped se) (SeqAt.canLay_of_shaped sd) (by
    have h1 := SeqAt.depth_of_shaped sd
    have h2 : min (PyData.depthAll ds) d.depth ≤ d.depth := Nat.min_le_right _ _
    omega) ⟨.bl _, H, I, rfl, q⟩
theorem op_notInT (hu : X.A.units + 65 < cLine) : OpR X (compareOp .NotIn) (fun x y H Q => ∃ d ds, Dp X.K H x d ∧ Dp X.K H y (.tuple ds) ∧ SeqAt.shaped d = true ∧ SeqAt.shaped (.tuple ds) = true ∧ Q (.bl (!ds.any fun z => PyData.eqv z d)) H) := by
  rintro pins s σ H x y v u Q I rx ry ⟨d, ds, hd, he, sd, se, q⟩
  obtain
                          ⟨as, r1⟩ := Dp.reads I d x v hd rx
  obtain ⟨bs, r2⟩ := Dp.reads I (.tuple ds) y u he ry
  exact SeqAt.notIn_tuple_reads r2 r1 (SeqAt.canLay_of_shaped se) (SeqAt.canLay_of_shaped sd) (by
    have h1 := SeqAt.depth_of_shaped sd
    have h2 : min (PyData.depthAll ds) d.depth ≤ d.depth := Nat.min_le_right _ _
    omega) ⟨.bl _, H, I, rfl, q⟩
theorem room65 (hr : Room 1 X.A) : X.A.units + 65 < cLine := by have := hr.un; omega
theorem room64 (hr : Room 1 X.A) : X.A.units + 64 < cLine := by have := hr.un; omega
theorem isNon_den {a : Val} {x : V} (d : DenZ Z R H a x) : decide (x = .non) = isNon a := by
  cases a with
  | non => rw [show x = _ from d]; rfl
  | bl b => rw [show x = _ from d]; rfl
  | int b => rw [show x = _ from d]; rfl
  | str b => rw [show x = _ from d]; rfl
  | tup b => obtain ⟨a, xs, rfl, _⟩ := d; rfl
  | lst b => obtain ⟨a, xs, rfl, _⟩ := d; rfl
  | ro b => obtain ⟨a, xs, rfl, _⟩ := d; rfl
  | dct b => obtain ⟨a, xs, rfl, _⟩ := d; rfl
  | ins c b => obtain ⟨a, dx, gs, rfl, _⟩ := d; rfl
  | ref n => obtain ⟨a, _, rfl⟩ := d; rfl
/-- what is read of a value -/
theorem rd_den (S : SimZ Z R h H) {v w : Val} {x : V} (e : rd h v = w) (d : DenZ Z R H v x) : (∃ a xs vs, w = .lst vs ∧ x = .ref a ∧ H a = some (.lst xs) ∧ xs.length ≤ sizeLine ∧ DenLZ Z R H vs xs) ∨ (DenZ Z R H w x ∧ ∀ vs, w ≠ .lst vs) := by
  by_cases hw : ∃ vs, w = .lst vs
  · obtain ⟨vs, rfl⟩ := hw
    obtain ⟨a, xs, h1, h2, h3, h4⟩ := d.rd S e
    exact .inl ⟨a, xs, vs, rfl, h1, h2, h3, h4⟩
  · have n : ∀ vs, w ≠ .lst vs := fun vs z => hw ⟨vs, z⟩
    rw [← rd_eq e n]
    exact .inr ⟨d, fun vs z => n vs (by rw [← rd_eq e n]; exact z)⟩
/-- .. data -/
theorem rd_dp (S : SimZ Z R h H) {v : Val} {x : V} {d : PyData} (dv : DenZ Z R H v x) (e : toD 60 (rd h v) = some d) : Dp Z.K H x d ∧ SeqAt.shaped d = true := by
  rcases rd_den S rfl dv with ⟨a, xs, vs, hw, rfl, t, l, dl⟩ | ⟨dw, _⟩
  · rw [hw] at e
    simp only [toD, Option.map_eq_some_iff] at e
    obtain ⟨ds, e, rfl⟩ := e
    obtain ⟨p, q, r⟩ := DenL.dp 59 vs xs ds dl e
    refine ⟨.lst (.inl (.inl t)) p, ?_⟩
    unfold SeqAt.shaped
    simp only [PyData.canLay0, PyData.depth, q]
    rw [Bool.true_and]
    exact decide_eq_true
                            (by omega)
  · exact dw.shaped e
theorem key_den {v : Val} {x : V} {k : Key} (e : keyOf (rd h v) = some k) (d : DenZ Z R H v x) : x = kV k := by
  generalize ea : rd h v = a at e
  cases a <;> simp only [keyOf] at e <;> cases e
  · have := rd_eq ea (by simp)
    subst this
    exact d
  · have := rd_eq ea (by simp)
    subst this
    exact d
theorem DenK.find : ∀ {kvs : List (Key × Val)} {xs : List (Key × V)}, DenK Z.K Z.C R H kvs xs → ∀ k : Key, (∀ v, keyGet k kvs = some v → ∃ x, valV xs k = some x ∧ DenZ Z R H v x) ∧ (valV xs k).isSome = keyIn k kvs
  | [], _, h, k => by
    rw [show _ = ([] : List (Key × V)) from h]
    exact ⟨fun v e => by simp [keyGet] at e, rfl⟩
  | (m, v) :: r, _, h, k => by
    obtain ⟨x, ys, q, d, d2⟩ := h
    subst q
    obtain ⟨i1, i2⟩ := DenK.find d2 k
    by_cases hm : m = k
    · subst hm
      refine ⟨fun w e => ?_, ?_⟩
      · simp [keyGet] at e
        subst e
        exact ⟨x, by simp [valV], d⟩
      · simp [valV, keyIn]
    · refine ⟨fun w e => ?_, ?_⟩
      · have e' : keyGet k r = some w := by simpa [keyGet, List.find?_cons, hm] using e
        obtain ⟨y, e2, d3⟩ := i1 w e'
        exact ⟨y, by simpa [valV, List.find?_cons, hm] using e2, d3⟩
      · have a1 : (valV ((m, x) :: ys) k) = valV ys k := by simp [valV, List.find?_cons, hm]
        have a2 : keyIn k ((m, v) :: r) = keyIn k r := by simp [keyIn, List.find?_cons, hm]
        rw [a1, a2, i2]
theorem op_inDict (hu : X.A.units + 64 < cLine) : OpR X (compareOp .In) (fun x y H Q => ∃ a o, y = .ref a ∧ DGet H a x o ∧ Q (.bl o.isSome) H) := by
  rintro pins s σ H x y v u Q I rx ry ⟨a, o, rfl, g, q⟩
  obtain rfl : u =
                          Value.ref a := ry
  exact d_in (by omega) I g rx fun s3 I3 => ⟨.bl o.isSome, H, I3, rfl, q⟩
theorem op_notInDict (hu : X.A.units + 64 < cLine) : OpR X (compareOp .NotIn) (fun x y H Q => ∃ a o, y = .ref a ∧ DGet H a x o ∧ Q (.bl (!o.isSome)) H) := by
  rintro pins s σ H x y v u Q I rx ry ⟨a, o, rfl, g, q⟩
  obtain rfl : u =
                          Value.ref a := ry
  exact d_notIn (by omega) I g rx fun s3 I3 => ⟨.bl (!o.isSome), H, I3, rfl, q⟩
theorem memb_ok (hK : Z.K = X.K) (hr : Room 1 X.A) (S : SimZ Z R h H) {v w : Val} {x y : V} {k : Bool} (e : memb (rd h v) (rd h w) = some k) (dv : DenZ Z R H v x) (dw : DenZ Z R H w y) :
    ∃ rr ss : R2, OpR X (compareOp .In) rr ∧ OpR X (compareOp .NotIn) ss ∧ (∀ Q, Aft Z R h H (.bl k) Q → rr x y H Q) ∧ ∀ Q, Aft Z R h H (.bl (!k)) Q → ss x y H Q := by
  generalize eb : rd h w = b at e
  unfold memb at e
  split at e
  · rename_i bs
    obtain ⟨p, xs, rfl, tp, l1, d1⟩ := dw.rd S eb
    simp only [Option.bind_eq_some_iff] at e
    obtain ⟨d, ed, e⟩ := e
    obtain ⟨pd, sd⟩ := rd_dp S dv ed
    rw [hK] at pd
    have main : ∃ ds, DpAll X.K H xs ds ∧ SeqAt.shaped (.list ds) = true ∧ k = ds.any fun z => PyData.eqv z d := by
      by_cases hn : bs = []
      · subst hn
        rw [show xs = [] from d1]
        simp only [inD] at e
        cases e
        exact ⟨[], .nil, rfl, rfl⟩
      · obtain ⟨d', ds, g1, g2, g3⟩ := inD_eq _ bs k e hn
        rw [ed] at g1; cases g1
        obtain ⟨a1, a2, _⟩ := shapedL d1 g2
        exact ⟨ds, by rw [← hK]; exact a1, a2, g3⟩
    obtain ⟨ds, a1, a2, rfl⟩ := main
    exact ⟨_, _, op_inD (room65 hr), op_notInD (room65 hr), fun Q k => ⟨d, ds, pd, .lst (.inl (.inl tp)) a1, sd, a2, k.here S rfl⟩, fun Q k => ⟨d, ds, pd, .lst (.inl (.inl tp)) a1, sd, a2, k.here S rfl⟩⟩
  · rename_i bs
    have e1 := rd_eq eb (by simp)
    subst e1
    obtain ⟨p, xs, rfl, tp, d1⟩ := dw
    simp only [Option.bind_eq_some_iff] at e
    obtain ⟨d, ed, e⟩ := e
    obtain ⟨pd, sd⟩ := rd_dp S dv ed
    rw [hK] at pd
    have main : ∃ ds, DpAll X.K H xs ds ∧ SeqAt.shaped (.tuple ds) = true ∧ k = ds.any fun z => PyData.eqv z d := by
      by_cases hn : bs = []
      · subst hn
        rw [show xs = [] from d1]
        simp only [inD] at e
        cases e
        exact ⟨[], .nil, rfl, rfl⟩
      · obtain ⟨d', ds, g1, g2, g3⟩ := inD_eq _ bs k e hn
        rw [ed] at g1; cases g1
        obtain ⟨a1, _, a2⟩ := shapedL d1 g2
        exact ⟨ds, by rw [← hK]; exact a1, a2, g3⟩
    obtain ⟨ds, a1, a2, rfl⟩ := main
    have tq : SqT X.K H p xs := by rw [← hK]; exact tp.sq
    exact ⟨_, _, op_inT (room65 hr), op_notInT (room65 hr), fun Q k => ⟨d, ds, pd, .tup tq a1, sd, a2, k.here S rfl⟩, fun Q k => ⟨d, ds, pd, .tup tq a1, sd, a2, k.here S rfl⟩⟩
  · rename_i kvs
    simp only [Option.map_eq_some_iff] at e
    obtain ⟨key, ek, rfl⟩ := e
    have e1 := rd_eq eb (by simp)
    subst e1
    obtain ⟨p, xs, rfl, tp, nr, d1⟩ := dw
    have g := key_den ek dv
    have gk := (DenK.find d1 key).2
    exact ⟨_, _, op_inDict (room64 hr), op_notInDict (room64 hr), fun Q k => ⟨p, _, rfl, by rw [g]; exact DGet.k tp, by rw [gk]; exact k.here S rfl⟩, fun Q k => ⟨p, _, rfl, by rw [g]; exact DGet.k tp, by rw [gk]; exact k.here S rfl⟩⟩
  · rename_i z
    have e1 := rd_eq eb (by simp)
    subst e1
    split at e
    · rename_i t ha
      split at e
      · rename_i c hc
        cases e
        have e2 := rd_eq ha (by simp)
        subst e2
        have et : t = ⟨#[c]⟩ := by
          obtain ⟨arr⟩ := t
          have : arr = #[c] := by rw [← Array.toArray_toList (xs := arr), hc]
          rw [this]
        rw [et] at dv
        exact ⟨_, _, op_in_sign, op_notIn_sign, fun Q k => ⟨c, z, dv, dw, k.here S rfl⟩, fun Q k => ⟨c, z, dv, dw, k.here S rfl⟩⟩
      · cases e
    · cases e
  · cases e
/-- is a truth: no other object than that -/
theorem op_isTr : OpR X (compareOp .Is) (fun x y H Q => ∃ d, y = .bl d ∧ ((∃ c, x = .bl c ∧ Q (.bl (decide (c = d))) H) ∨ (x = .non ∧ Q (.bl false) H))) := by
  intro pins s σ H x
                          y v u Q I rx ry h
  obtain ⟨d, rfl, h⟩ := h
  cases ry
  rcases h with ⟨c, rfl, q⟩ | ⟨rfl, q⟩
  · cases rx
    exact is_bool (fin_bl I q (by cases c <;> cases d <;> rfl))
  · cases rx
    exact wpAny_pure (a := Value.bool (Value.none == Value.bool d)) (fin_bl I q (by cases d <;> rfl))
theorem op_isntTr : OpR X (compareOp .IsNot) (fun x y H Q => ∃ d, y = .bl d ∧ ((∃ c, x = .bl c ∧ Q (.bl (!decide (c = d))) H) ∨ (x = .non ∧ Q (.bl true) H))) := by
  intro pins s σ H x
                          y v u Q I rx ry h
  obtain ⟨d, rfl, h⟩ := h
  cases ry
  rcases h with ⟨c, rfl, q⟩ | ⟨rfl, q⟩
  · cases rx
    exact isnot_bool (fin_bl I q (by cases c <;> cases d <;> rfl))
  · cases rx
    exact wpAny_pure (a := Value.bool (!(Value.none == Value.bool d))) (fin_bl I q (by cases d <;> rfl))
theorem op_eqS : OpR X (compareOp .Eq) (fun x y H Q => ∃ i j, x = .str i ∧ y = .str j ∧ Q (.bl (decide (i = j))) H) := by
  intro pins s σ H x
                          y v u Q I rx ry h
  obtain
                          ⟨i, j, rfl, rfl, q⟩ := h
  obtain ⟨t, rfl⟩ := rx
  obtain ⟨w, rfl⟩ := ry
  exact PyProof.Rows.eq_str (fin_bl I q (by by_cases z : i = j <;> simp [z]))
theorem op_neS : OpR X (compareOp .NotEq) (fun x y H Q => ∃ i j, x = .str i ∧ y = .str j ∧ Q (.bl (!decide (i = j))) H) := by
  intro pins s σ H x
                          y v u Q I rx ry h
  obtain
                          ⟨i, j, rfl, rfl, q⟩ := h
  obtain ⟨t, rfl⟩ := rx
  obtain ⟨w, rfl⟩ := ry
  exact PyProof.Rows.ne_str (fin_bl I q (by by_cases z : i = j <;> simp [z]))
/-- a list with items, and one without -/
theorem op_eqLen (hu : X.A.units + 64 < cLine) : OpR X (compareOp .Eq) (fun x y H Q => ∃ a b u us, x = .ref a ∧ y = .ref b ∧ H a = some (.lst (u :: us)) ∧ H b = some (.lst []) ∧ Q (.bl false) H) := by
  intro pins s σ H x y v w Q I rx ry h
  obtain ⟨a, b, u, us, rfl, rfl, ha, hb, q⟩ := h
  obtain rfl : v =
                          Value.ref a := rx
  obtain rfl : w = Value.ref b := ry
  obtain ⟨its, n, r, e, _⟩ := I.lst ha
  obtain ⟨its2, n2, r2, e2, _⟩ := I.lst hb
  cases r
  cases r2
  exact SeqAt.eq_list_lengthsAt ⟨_, e, rfl, n, rfl⟩ ⟨_, e2, rfl, n2, rfl⟩ (by simp) (by omega) ⟨.bl _, H, I, rfl, q⟩
theorem op_neLen (hu : X.A.units + 64 < cLine) : OpR X (compareOp .NotEq) (fun x y H Q => ∃ a b u us, x = .ref a ∧ y = .ref b ∧ H a = some (.lst (u :: us)) ∧ H b = some (.lst []) ∧ Q (.bl true) H) := by
  intro pins s σ H x y v w Q I rx ry h
  obtain ⟨a, b, u, us, rfl, rfl, ha, hb, q⟩ := h
  obtain rfl : v =
                          Value.ref a := rx
  obtain rfl : w = Value.ref b := ry
  obtain ⟨its, n, r, e, _⟩ := I.lst ha
  obtain ⟨its2, n2, r2, e2, _⟩ := I.lst hb
  cases r
  cases r2
  exact SeqAt.RcNeAt.lists_lengths ⟨_, e, rfl, n, rfl⟩ ⟨_, e2, rfl, n2, rfl⟩ (by simp) (by omega) _ _ _ _ ⟨.bl _, H, I, rfl, q⟩
theorem cop_ok (hK : Z.K = X.K) (hr : Room 1 X.A) (S : SimZ Z R h H) {op : CmpOp} {v w : Val} {x y : V} {k : Bool} (e : cop op (rd h v) (rd h w) = some k) (dv : DenZ Z R H v x) (dw : DenZ Z R H w y) :
    ∃ rr : R2, OpR X (compareOp op) rr ∧ ∀ Q, Aft Z R h H (.bl k) Q → rr x y H Q := by
  generalize ea : rd h v = a at e
  generalize eb : rd h w = b at e
  have ii : ∀ {i : Int}, a = .int i → x = .int i := fun q => by
    subst q
    have := rd_eq ea (by simp)
    subst this
    exact dv
  have jj : ∀ {i : Int}, b = .int i → y = .int i := fun q => by
    subst q
    have := rd_eq eb (by simp)
    subst this
    exact dw
  have bb : ∀ {i : Bool}, a = .bl i → x = .bl i := fun q => by
    subst q
    have := rd_eq ea (by simp)
    subst this
    exact dv
  have es : ∀ {i : Str}, a = .str i → x = .str i := fun q => by
    subst q
    have := rd_eq ea (by simp)
    subst this
    exact dv
  have et : ∀ {i : Str}, b = .str i → y = .str i := fun q => by
    subst q
    have := rd_eq eb (by simp)
    subst this
    exact dw
  unfold cop at e
  split at e
  · cases e
    exact ⟨_, op_eqS, fun Q k => ⟨_, _, es rfl, et rfl, k.here S rfl⟩⟩
  · cases e
    exact ⟨_, op_neS, fun Q k => ⟨_, _, es rfl, et rfl, k.here S rfl⟩⟩
  · cases e
    rcases rd_den S ea dv with ⟨a, xs, vs, hw, rfl, ta, _, dl⟩ | ⟨_, n⟩
    · rcases rd_den S eb dw with ⟨b, ys, ws, hw2, rfl, tb, _, dl2⟩ | ⟨_, n⟩
      · cases hw
        cases hw2
        obtain ⟨u, us, rfl, _⟩ := dl
        obtain rfl : ys = [] := dl2
        exact ⟨_, op_eqLen (room64 hr), fun Q k => ⟨_, _, _, _, rfl, rfl, ta, tb, k.here S rfl⟩⟩
      · exact absurd rfl (n _)
    · exact absurd rfl (n _)
  · cases e
    rcases rd_den S ea dv with ⟨a, xs, vs, hw, rfl, ta, _, dl⟩ | ⟨_, n⟩
    · rcases rd_den S eb dw with ⟨b, ys, ws, hw2, rfl, tb, _, dl2⟩ | ⟨_, n⟩
      · cases hw
        cases hw2
        obtain ⟨u, us, rfl, _⟩ := dl
        obtain rfl : ys = [] := dl2
        exact ⟨_, op_neLen (room64 hr), fun Q k => ⟨_, _, _, _, rfl, rfl, ta, tb, k.here S rfl⟩⟩
      · exact absurd rfl (n _)
    · exact absurd rfl (n _)
  · subst ea eb
    simp only [eqD, Option.bind_eq_some_iff, Option.map_eq_some_iff] at e
    obtain ⟨d, e1, d2, e2, rfl⟩ := e
    obtain ⟨p1, s1⟩ := rd_dp S dv e1
    obtain ⟨p2, s2⟩ := rd_dp S dw e2
    rw [hK] at p1 p2
    exact ⟨_, op_eqD (room64 hr), fun Q k => ⟨d, d2, p1, p2, s1, s2, k.here S rfl⟩⟩
  · subst ea eb
    simp only [eqD, Option.bind_eq_some_iff, Option.map_eq_some_iff] at e
    obtain ⟨_, ⟨d, e1, d2, e2, rfl⟩, rfl⟩ := e
    obtain ⟨p1, s1⟩ := rd_dp S dv e1
    obtain ⟨p2, s2⟩ := rd_dp S dw e2
    rw [hK] at p1 p2
    exact ⟨_, op_neD (room64 hr), fun Q k => ⟨d, d2, p1, p2, s1, s2, k.here S rfl⟩⟩
  · cases e
    exact ⟨_, op_lt, fun Q k => ⟨_, _, ii rfl, jj rfl, k.here S rfl⟩⟩
  · cases e
    exact ⟨_, op_le, fun Q k => ⟨_, _, ii rfl, jj rfl, k.here S rfl⟩⟩
  · cases e
    exact ⟨_, op_gt, fun Q k => ⟨_, _, ii rfl, jj rfl, k.here S rfl⟩⟩
  · cases e
    exact ⟨_, op_ge, fun Q k => ⟨_, _, ii rfl, jj rfl, k.here S rfl⟩⟩
  · cases e
    have e1 := rd_eq eb (by simp)
    subst e1
    have e2 : isNon (rd h v) = isNon v := by
      cases v <;> try rfl
      simp only [rd]
      split <;> rfl
    refine ⟨_, op_isN, fun Q k => ⟨dw, k.here S ?_⟩⟩
    show V.bl _ = V.bl _
    rw [isNon_den dv, ← ea, e2]
  · cases e
    have e1 := rd_eq eb (by simp)
    subst e1
    have e2 : isNon (rd h v) = isNon v := by
      cases v <;> try rfl
      simp only [rd]
      split <;> rfl
    refine ⟨_, op_notN, fun Q k => ⟨dw, k.here S ?_⟩⟩
    show V.bl _ = V.bl _
    rw [isNon_den dv, ← ea, e2]
  · have e1 := rd_eq eb (by simp)
    subst e1
    unfold isTr at e
    split at e <;> cases e
    · rw [show x = .bl _ from bb rfl]
      exact ⟨_, op_isTr, fun Q k => ⟨_, dw, .inl ⟨_, rfl, k.here S rfl⟩⟩⟩
    · have := rd_eq ea (by simp)
      subst this
      rw [show x = .non from dv]
      exact ⟨_, op_isTr, fun Q k => ⟨_, dw, .inr ⟨rfl, k.here S rfl⟩⟩⟩
  · have e1 := rd_eq eb (by simp)
    subst e1
    simp only [Option.map_eq_some_iff] at e
    obtain ⟨t, e, rfl⟩ := e
    unfold isTr at e
    split at e <;> cases e
    · rw [show x = .bl _ from bb rfl]
      exact ⟨_, op_isntTr, fun Q k => ⟨_, dw, .inl ⟨_, rfl, k.here S rfl⟩⟩⟩
    · have := rd_eq ea (by simp)
      subst this
      rw [show x = .non from dv]
      exact ⟨_, op_isntTr, fun Q k => ⟨_, dw, .inr ⟨rfl, k.here S rfl⟩⟩⟩
  · subst ea eb
    obtain ⟨rr, ss, h1, h2, h3, h4⟩ := memb_ok hK hr S e dv dw
    exact ⟨rr, h1, h3⟩
  · subst ea eb
    simp only [Option.map_eq_some_iff] at e
    obtain ⟨k', e, rfl⟩ := e
    obtain ⟨rr, ss, h1, h2, h3, h4⟩ := memb_ok hK hr S e dv dw
    exact ⟨ss, h2, h4⟩
  · cases e

/-! ### built-in functions -/
theorem call_lenD2 : CallR X (.builtin "len") (fun xs H Q => ∃ a kvs, xs = [V.ref a] ∧ H a = some (.dK kvs) ∧ Q (.int kvs.length) H) := call_lenD
theorem DenK.length : ∀ {kvs : List (Key × Val)} {xs : List (Key × V)}, DenK Z.K Z.C R H kvs xs → kvs.length = xs.length
  | [], _, h => by rw [show _ = ([] : List (Key × V)) from h]; rfl
  | (m, v) :: r, _, h => by
    obtain ⟨x, ys, q, d, d2⟩ := h
    rw [q, List.length_cons, List.length_cons, DenK.length d2]
theorem maxI_spec : ∀ (r : List Int) (x m : Int), m ∈ x :: r → (∀ y, y ∈ x :: r → y ≤ m) → m = maxI x r
  | [], x, m, hm, _ => by simpa [maxI] using hm
  | y :: r, x, m, hm, hle => by
    unfold maxI
    refine maxI_spec r _ m ?_ ?_
    · by_cases h : x < y
      · rw [if_pos h]
        rcases List.mem_cons.mp
                                hm with e | e
        · subst e
          have := hle y (by simp)
          omega
        · exact e
      · rw [if_neg h]
        rcases List.mem_cons.mp
                                hm with e | e
        · rw [e]; simp
        · rcases List.mem_cons.mp
                                e with e | e
          · have := hle x (by simp)
            have : m = x := by omega
            rw [this]; simp
          · exact List.mem_cons_of_mem _ e
    · intro z hz
      by_cases h : x < y
      · rw [if_pos h] at hz
        exact hle z (List.mem_cons_of_mem _ hz)
      · rw [if_neg h] at hz
        rcases List.mem_cons.mp hz with e | e
        · rw [e]; exact hle x (by simp)
        · exact hle z (by simp [e])
theorem minI_spec : ∀ (r : List Int) (x m : Int), m ∈ x :: r → (∀ y, y ∈ x :: r → m ≤ y) → m = minI x r
  | [], x, m, hm, _ => by simpa [minI] using hm
  | y :: r, x, m, hm, hle => by
    unfold minI
    refine minI_spec r _ m ?_ ?_
    · by_cases h : y < x
      · rw [if_pos h]
        rcases List.mem_cons.mp
                                hm with e | e
        · subst e
          have := hle y (by simp)
          omega
        · exact e
      · rw [if_neg h]
        rcases List.mem_cons.mp
                                hm with e | e
        · rw [e]; simp
        · rcases List.mem_cons.mp
                                e with e | e
          · have := hle x (by simp)
            have : m = x := by omega
            rw [this]; simp
          · exact List.mem_cons_of_mem _ e
    · intro z hz
      by_cases h : y < x
      · rw [if_pos h] at hz
        exact hle z (List.mem_cons_of_mem _ hz)
      · rw [if_neg h] at hz
        rcases List.mem_cons.mp hz with e | e
        · rw [e]; exact hle x (by simp)
        · exact hle z (by simp [e])
theorem insI_perm (x : Int) : ∀ l : List Int, (insI x l).Perm (x :: l)
  | [] => .refl _
  | y :: r => by
    unfold insI
    split
    · exact .refl _
    · exact ((insI_perm x r).cons y).trans (.swap x y r)
theorem sortI_perm : ∀ l : List Int, (sortI l).Perm l
  | [] => .refl _
  | x :: r => (insI_perm x (sortI r)).trans ((sortI_perm r).cons x)
theorem insI_sorted (x : Int) : ∀ {l : List Int}, l.Pairwise (· ≤ ·) → (insI x l).Pairwise (· ≤ ·)
  | [], _ => by simp [insI]
  | y :: r, h => by
    rw [List.pairwise_cons] at h
    unfold insI
    split
    · rename_i hxy
      rw [List.pairwise_cons]
      refine ⟨fun z hz => ?_, List.pairwise_cons.mpr h⟩
      rcases List.mem_cons.mp hz with e | e
      · rw [e]; exact hxy
      · have := h.1 z e
        omega
    · rename_i hxy
      rw [List.pairwise_cons]
      refine ⟨fun z hz => ?_, insI_sorted x h.2⟩
      rcases List.mem_cons.mp ((insI_perm x r).mem_iff.mp hz) with e | e
      · omega
      · exact h.1 z e
theorem sortI_sorted : ∀ l : List Int, (sortI l).Pairwise (· ≤ ·)
  | [] => .nil
  | x :: r => insI_sorted x (sortI_sorted r)
theorem sortI_the {l m : List Int} (p : m.Perm l) (s : m.Pairwise (· ≤ ·)) : m = sortI l :=
  (p.trans (sortI_perm l).symm).eq_of_pairwise (le := fun a b => decide (a ≤ b) = true) (fun a b _ _ h1 h2 => by simp at h1 h2; omega) (s.imp fun h => by simpa using h) ((sortI_sorted l).imp fun h => by simpa using h)
end
end Co
end

section
set_option linter.all false
set_option maxRecDepth 100000
set_option autoImplicit false
/-! Co6: built-in functions, methods, slices, places, by values. -/
namespace Co
open PySem PySem.Spec
                        PyProof.Rows L2
section
variable {Z : Sx} {X : Cx} {R R' : Rg} {h h' : Hh} {H H' : Hp}
def biV : Bi → Value
  | .abs => .builtin "abs"
  | .all => .builtin "all"
  | .any => .builtin "any"
  | .bool => .type "bool"
  | .divmod => .builtin "divmod"
  | .int => .type "int"
  | .len => .builtin "len"
  | .max => .builtin "max"
  | .min => .builtin "min"
  | .str => .type "str"
  | .sum => .builtin "sum"
  | .tuple => .type "tuple"
  | .list => .type "list"
  | .sorted => .builtin "sorted"
  | .sset => .none
  | .repr => .builtin "repr"
theorem asL_one {vs : List Val} {xs : List V} {w : Val} (d : DenLZ Z R H vs xs) (e : asL vs h = [w]) : ∃ v x, vs = [v] ∧ xs = [x] ∧ DenZ Z R H v x ∧ rd h v = w := by
  cases vs with
  | nil => cases e
  | cons v r =>
    cases r with
    | nil =>
      obtain ⟨x, ys, q, d1, d2⟩ := d
      rw [show ys = [] from d2] at q
      exact ⟨v, x, rfl, q, d1, (List.cons.inj e).1⟩
    | cons _ _ => cases e
theorem asL_two {vs : List Val} {xs : List V} {w u : Val} (d : DenLZ Z R H vs xs) (e : asL vs h = [w, u]) : ∃ v v' x x', vs = [v, v'] ∧ xs = [x, x'] ∧ DenZ Z R H v x ∧ DenZ Z R H v' x' ∧ rd h v = w ∧ rd h v' = u := by
  cases vs with
  | nil => cases e
  | cons v r =>
    cases r with
    | nil => cases e
    | cons v' r =>
      cases r with
      | nil =>
        obtain ⟨x, ys, q, d1, x', zs, q2, d3, d4⟩ := d
        rw [show zs = [] from d4] at q2
        rw [q2] at q
        exact ⟨v, v', x, x', rfl, q, d1, d3, (List.cons.inj e).1, (List.cons.inj (List.cons.inj e).2).1⟩
      | cons _ _ => cases e
theorem rd_int {v : Val} {x : V} {i : Int} (e : rd h v = .int i) (d : DenZ Z R H v x) : x = .int i := by
  have := rd_eq e (by simp)
  subst this
  exact d
theorem rd_bl {v : Val} {x : V} {i : Bool} (e : rd h v = .bl i) (d : DenZ Z R H v x) : x = .bl i := by
  have := rd_eq e (by simp)
  subst this
  exact d
theorem rd_str {v : Val} {x : V} {i : Str} (e : rd h v = .str i) (d : DenZ Z R H v x) : x = .str i := by
  have := rd_eq e (by simp)
  subst this
  exact d
theorem rd_tup {v : Val} {x : V} {vs : List Val} (e : rd h v = .tup vs) (d : DenZ Z R H v x) : DenZ Z R H (.tup vs) x := by
  have := rd_eq e (by simp)
  subst this
  exact d
theorem rd_ro {v : Val} {x : V} {vs : List Val} (e : rd h v = .ro vs) (d : DenZ Z R H v x) : DenZ Z R H (.ro vs) x := by
  have := rd_eq e (by simp)
  subst this
  exact d
theorem rd_dct {v : Val} {x : V} {vs : List (Key × Val)} (e : rd h v = .dct vs) (d : DenZ Z R H v x) : DenZ Z R H (.dct vs) x := by
  have := rd_eq e (by simp)
  subst this
  exact d
theorem cr_sortedTu : CallR X (.builtin "sorted") (fun vs H Q => ∃ (a : Addr) (ns : List Int), vs = [V.ref a] ∧ SqT X.K H a (ns.map V.int) ∧
    ∀ (ns' : List Int) (p : Addr), ns'.Perm ns → ns'.Pairwise (· ≤ ·) → H p = none → Q (.ref p) (upd H p (.lst (ns'.map V.int)))) := by
  intro pins s σ
                          H vs us Q I r h
  obtain
                          ⟨a, ns, rfl, hs, q⟩ := h
  obtain ⟨its, rv, ht, hz⟩ := I.tuple hs
  rw [Vals.ref1 r]
  have hi := rv.ints
  have hzl : its.length ≤ sizeLine := by rw [← rv.length]; exact hz
  obtain
                          ⟨o, ho, hc, n, hd⟩ := id ht
  refine Calls.call_function_entry PyProof.Rows.kind_sorted PyProof.Rows.plain_sorted PyProof.Rows.entry_sorted
                          (PyProof.Rows.args_sorted1 _) ?_
  unfold Builtin.«sorted»
  refine wpAny_bind
                          (m := checkCount "sorted" 1 1 _) (wpAny_pure ?_)
  refine wpAny_bind (wpAny_collect_seq a (.inr rfl) ho hc hd (fun h' hk => ?_) (by rw [List.size_toArray]; exact hzl))
  rw [List.toList_toArray]
  refine wpAny_bind (wpAny_newList ?_ hzl)
  have hoL : (h'.push (seqObj "list" its.toArray 0)).get? h'.objs.size = some (seqObj "list" its.toArray 0) := Heap.get?_push_size _ rfl
  show wpAny _ _ _ _ _ { s with heap := h'.push (seqObj "list" its.toArray 0) }
  refine wpAny_bind (wpAny_holding (wpAny_call_entry PyProof.Rows.slot_list_sort
                          ⟨_, hoL, rfl⟩ PyProof.Rows.entry_list_sort
    (SrtO.list_sort_ord (s := { s with heap := h'.push (seqObj "list" its.toArray 0) }) SrtO.swo_int hoL hzl (fun h2 => SrtO.ints_sortable hi h2) fun out h1 h2 => ⟨_, rfl, ?_⟩) (PyProof.Rows.args_list_sort _)))
  refine wpAny_pure
                          ⟨_, rfl, ?_⟩
  obtain
                          ⟨k1, k2, k3⟩ := SrtO.ints_out hi h1 h2
  obtain ⟨ep, he'⟩ := PyProof.Rows.sortedHeap_at (vs := its) (out := out.toArray) hoL
  have hlen :
                          ((out.map SrtO.iv).map V.int).length ≤ sizeLine := by
    rw [List.length_map,
                            k2.length_eq]
    rw [List.length_map] at hz
    exact hz
  have I0 : Inv X pins σ H { s with heap := h' } := I.kept (t' := s.toks) hk
  refine ⟨.ref h'.objs.size, upd H h'.objs.size (.lst ((out.map SrtO.iv).map V.int)), I0.laid (t' := s.toks) (fun b u hb => ?_) (Nat.le_refl _) ⟨hlen, out, ep, vals_of_ints k1, he'⟩, rfl, q _ _ k2 k3 (I0.hok.fresh (Nat.le_refl _))⟩
  have hlt : b < h'.objs.size := Heap.lt_size hb
  have hb2 : (h'.push (seqObj "list" its.toArray 0)).get? b = some u := Heap.get?_push_of_some _ hb
  rw [PyProof.Rows.sortedHeap_old (Nat.ne_of_lt hlt) (Heap.lt_size hb2)]
  exact hb2
theorem cr_repr (hr : Room 1 X.A) (hg : X.A.guards = some []) : CallR X (.builtin "repr") (fun xs H Q => ∃ (a : Addr) (d : PyData), xs = [.ref a] ∧ Dp X.K H (.ref a) d ∧ d.depth ≤ 60 ∧ d.canLay0 = true ∧ d.showable = true ∧ d.shown.length ≤ sizeLine ∧ Q (.str d.shown) H) := by
  intro pins s σ
                          H xs us Q I r h
  obtain ⟨a, d, rfl, dp, hd, hl, hs, hz, q⟩ := h
  rw [Vals.ref1 r]
  obtain ⟨as, rr⟩ := Dp.reads I d (.ref a) (.ref a) dp rfl
  have hu := hr.un
  exact PySem.repr_of_reads' rr hs (PyData.noDict_hsm (PyData.hasDict_of_canLay d hl)) hg (by omega) (fun b o e => e) (fun h' u tk hk => ⟨.str d.shown, H, I.kept (t' := tk) hk, ⟨u, rfl⟩, q⟩) hz
theorem vals_of : ∀ {xs : List V} {us : List Value}, xs.length = us.length → (∀ (j : Nat) (x : V) (v : Value), xs[j]? = some x → us[j]? = some v → RelV x v) → Vals xs us
  | [], [], _, _ => .nil
  | x :: xs, u :: us, e, f => .cons (f 0 x u rfl rfl) (vals_of (by simpa using e) fun j y v p q => f (j + 1) y v (by simpa using p) (by simpa using q))
  | [], _ :: _, e, _ => by cases e
  | _ :: _, [], e, _ => by cases e
/-- list(text) -/
theorem call_list_signs {X : Cx} (hc : X.calm = true) : CallR X (.type "list") (fun xs H Q => ∃ z : Str, xs = [.str z] ∧ z.cps.size ≤ sizeLine ∧ ∀ p, H p = none → Q (.ref p) (upd H p (.lst ((z.cps.toList.map fun c => (⟨#[c]⟩ : Str)).map V.str)))) := by
  intro pins s σ
                          H xs us Q I r q
  obtain ⟨z, rfl, hz, q⟩ := q
  obtain
                          ⟨u, rfl, t, rfl⟩ := vals1 r
  refine call_list_str (hn := hz) (I.ok.hd hc) z t fun h1 tk acc c1 hk hD hacc => ?_
  have hl : (z.cps.toList.map fun c => (⟨#[c]⟩ : Str)).length = acc.toList.length := by
    rw [List.length_map, Array.length_toList, Array.length_toList, hacc.1]
  have hv : Vals ((z.cps.toList.map fun c => (⟨#[c]⟩ : Str)).map V.str) acc.toList := by
    refine vals_of (by rw [List.length_map]; exact hl) fun j x v ex ev => ?_
    rw [Array.getElem?_toList] at ev
    obtain ⟨c, u, e1, rfl⟩ := hacc.2 j v ev
    have : x = .str ⟨#[c]⟩ := by
      simp only [List.getElem?_map, Array.getElem?_toList, e1, Option.map_some] at ex
      cases ex
      rfl
    subst this
    exact ⟨u, rfl⟩
  exact ⟨.ref s.heap.objs.size, _, I.laid (t' := tk) hk (Nat.le_refl _)
    (show ObjOk X.prog X.w _ _ _ (.lst ((z.cps.toList.map fun c => (⟨#[c]⟩ : Str)).map V.str)) from ⟨by rw [List.length_map, List.length_map, Array.length_toList]; exact hz, acc.toList, c1, hv, by rw [Array.toArray_toList]; exact hD⟩), rfl, q _ (I.hok.fresh (Nat.le_refl _))⟩
theorem bi_ok (hK : Z.K = X.K) (hr : Room 1 X.A) (hgd : X.A.guards = some []) (hc : X.calm = true) (S : SimZ Z R h H) {b : Bi} {vs : List Val} {xs : List V} {r : Val} (hb : b ≠ .sset) (e : bi b (asL vs h) = some r) (d : DenLZ Z R H vs xs) :
    ∃ rr : List V → Hp → VK → Prop, CallR X (biV b) rr ∧ ∀ Q, Aft Z R h H r Q → rr xs H Q := by
  generalize ea : asL vs h = as at e
  unfold bi at e
  split at e
  · -- abs
    cases e
    obtain ⟨v, x, rfl, rfl, dv, ev⟩ := asL_one d ea
    exact ⟨_, call_abs, fun Q k => ⟨_, by rw [rd_int ev dv], k.here S rfl⟩⟩
  · -- all
    simp only [Option.map_eq_some_iff] at e
    obtain ⟨bs, e, rfl⟩ := e
    obtain ⟨v, x, rfl, rfl, dv, ev⟩ := asL_one d ea
    obtain ⟨a, ys, rfl, t, l, dl⟩ := dv.rd S ev
    exact ⟨_, cr_all hc, fun Q k => ⟨a, bs, rfl, .inl (.inl (by rw [t, dl.bls e])), k.here S rfl⟩⟩
  · -- any
    simp only [Option.map_eq_some_iff] at e
    obtain ⟨bs, e, rfl⟩ := e
    obtain ⟨v, x, rfl, rfl, dv, ev⟩ := asL_one d ea
    obtain ⟨a, ys, rfl, t, l, dl⟩ := dv.rd S ev
    exact ⟨_, cr_any hc, fun Q k => ⟨a, bs, rfl, .inl (.inl (by rw [t, dl.bls e])), k.here S rfl⟩⟩
  · cases e
    obtain ⟨v, x, rfl, rfl, dv, ev⟩ := asL_one d ea
    exact ⟨_, call_bool1, fun Q k => .inr ⟨_, by rw [rd_bl ev dv], k.here S rfl⟩⟩
  · cases e
    obtain ⟨v, x, rfl, rfl, dv, ev⟩ := asL_one d ea
    exact ⟨_, call_bool1, fun Q k => .inl ⟨_, by rw [rd_int ev dv], k.here S rfl⟩⟩
  · -- divmod
    split at e <;> cases e
    rename_i hl
    obtain ⟨v, v', x, x', rfl, rfl, dv, dv', ev, ev'⟩ := asL_two d ea
    exact ⟨_, call_divmodW, fun Q k => ⟨_, _, by rw [rd_int ev dv, rd_int ev' dv'], hl, fun p n => k.tup S n (by rw [sz]; show 2 ≤ 16777216; decide) ⟨_, _, rfl, rfl, _, _, rfl, rfl, rfl⟩⟩⟩
  · cases e
    obtain ⟨v, x, rfl, rfl, dv, ev⟩ := asL_one d ea
    exact ⟨_, call_int1, fun Q k => .inl ⟨_, by rw [rd_int ev dv], k.here S rfl⟩⟩
  · cases e
    obtain ⟨v, x, rfl, rfl, dv, ev⟩ := asL_one d ea
    exact ⟨_, call_int1, fun Q k => .inr ⟨_, by rw [rd_bl ev dv], k.here S rfl⟩⟩
  · split at e
    · rename_i hl
      simp only [Option.map_eq_some_iff] at e
      obtain ⟨n, e, rfl⟩ := e
      obtain ⟨v, x, rfl, rfl, dv, ev⟩ := asL_one d ea
      exact ⟨_, call_int_str, fun Q k => ⟨_, n, by rw [rd_str ev dv], e, hl, k.here S rfl⟩⟩
    · cases e
  · -- len
    cases e
    obtain ⟨v, x, rfl, rfl, dv, ev⟩ := asL_one d ea
    obtain ⟨a, ys, rfl, t, l, dl⟩ := dv.rd S ev
    exact ⟨_, call_len_seq, fun Q k => ⟨a, ys, rfl, .inl (.inl (.inl t)), by rw [← dl.length]; exact k.here S rfl⟩⟩
  · cases e
    obtain ⟨v, x, rfl, rfl, dv, ev⟩ := asL_one d ea
    obtain ⟨a, ys, rfl, t, dl⟩ := rd_tup ev dv
    exact ⟨_, call_len_seq, fun Q k => ⟨a, ys, rfl, .inr (by rw [← hK]; exact t.sq), by rw [← dl.length]; exact k.here S rfl⟩⟩
  · cases e
    obtain ⟨v, x, rfl, rfl, dv, ev⟩ := asL_one d ea
    obtain ⟨a, ys, rfl, t, dl⟩ := rd_ro ev dv
    exact ⟨_, call_len_seq, fun Q k => ⟨a, ys, rfl, .inl (by rw [← hK]; exact t.sq), by rw [← dl.length]; exact k.here S rfl⟩⟩
  · cases e
    obtain ⟨v, x, rfl, rfl, dv, ev⟩ := asL_one d ea
    obtain ⟨a, ys, rfl, t, nr, dl⟩ := rd_dct ev dv
    exact ⟨_, call_lenD, fun Q k => ⟨a, ys, rfl, t, by rw [← dl.length]; exact k.here S rfl⟩⟩
  · split at e <;> cases e
    rename_i hl
    obtain ⟨v, x, rfl, rfl, dv, ev⟩ := asL_one d ea
    exact ⟨_, call_len_str, fun Q k => ⟨_, by rw [rd_str ev dv], by rw [sz]; exact hl, k.here S rfl⟩⟩
  · cases e
    obtain ⟨v, v', x, x', rfl, rfl, dv, dv', ev, ev'⟩ := asL_two d ea
    exact ⟨_, call_max2 hc, fun Q k => ⟨_, _, by rw [rd_int ev dv, rd_int ev' dv'], k.here S rfl⟩⟩
  · cases e
    obtain ⟨v, v', x, x', rfl, rfl, dv, dv', ev, ev'⟩ := asL_two d ea
    exact ⟨_, call_min2 hc, fun Q k => ⟨_, _, by rw [rd_int ev dv, rd_int ev' dv'], k.here S rfl⟩⟩
  · simp only [Option.bind_eq_some_iff] at e
    obtain ⟨l, e1, e⟩ := e
    split at e <;> cases e
    rename_i y q
    obtain ⟨v, x, rfl, rfl, dv, ev⟩ := asL_one d ea
    obtain ⟨a, ys, rfl, t, lz, dl⟩ := dv.rd S ev
    exact ⟨_, cr_max hc, fun Q k => ⟨a, _, rfl, .inl (.inl (by rw [t, dl.ints e1])), by simp, fun m h1 h2 => by rw [maxI_spec _ _ _ h1 h2]; exact k.here S rfl⟩⟩
  · simp only [Option.bind_eq_some_iff] at e
    obtain ⟨l, e1, e⟩ := e
    split at e <;> cases e
    rename_i y q
    obtain ⟨v, x, rfl, rfl, dv, ev⟩ := asL_one d ea
    obtain ⟨a, ys, rfl, t, lz, dl⟩ := dv.rd S ev
    exact ⟨_, cr_min hc, fun Q k => ⟨a, _, rfl, .inl (.inl (by rw [t, dl.ints e1])), by simp, fun m h1 h2 => by rw [minI_spec _ _ _ h1 h2]; exact k.here S rfl⟩⟩
  · split at e <;> cases e
    rename_i hl
    obtain ⟨v, x, rfl, rfl, dv, ev⟩ := asL_one d ea
    exact ⟨_, call_str_int, fun Q k => ⟨_, by rw [rd_int ev dv], hl, k.here S rfl⟩⟩
  · cases e
    obtain ⟨v, x, rfl, rfl, dv, ev⟩ := asL_one d ea
    exact ⟨_, SkE.call_str_str, fun Q k => ⟨_, by rw [rd_str ev dv], k.here S rfl⟩⟩
  · simp only [Option.map_eq_some_iff] at e
    obtain ⟨l, e1, rfl⟩ := e
    obtain ⟨v, x, rfl, rfl, dv, ev⟩ := asL_one d ea
    obtain ⟨a, ys, rfl, t, lz, dl⟩ := dv.rd S ev
    exact ⟨_, cr_sum hc, fun Q k => ⟨a, l, rfl, .inl (.inl (by rw [t, dl.ints e1])), k.here S rfl⟩⟩
  · -- tuple
    simp only [Option.map_eq_some_iff] at e
    obtain ⟨ws, e1, rfl⟩ := e
    obtain ⟨v, x, rfl, rfl, dv, ev⟩ := asL_one d ea
    unfold seqOf at e1
    split at e1 <;> cases e1
    · obtain ⟨a, ys, rfl, t, lz, dl⟩ := dv.rd S ev
      exact ⟨_, call_tuple_of, fun Q k => ⟨a, ys, rfl, .inl ⟨.inl (.inl t), fun p n => k.tup S n lz dl⟩⟩⟩
    · have dt := rd_tup ev dv
      obtain ⟨a, ys, rfl, t, dl⟩ := id dt
      exact ⟨_, call_tuple_of, fun Q k => ⟨a, ys, rfl, .inr ⟨by rw [← hK]; exact t.sq, k.here S dt⟩⟩⟩
  · -- list of a text
    split at e <;> cases e
    rename_i hl
    obtain ⟨v, x, rfl, rfl, dv, ev⟩ := asL_one d ea
    refine ⟨_, call_list_signs hc, fun Q k => ⟨_, by rw [rd_str ev dv], by rw [sz]; exact hl, fun p n => ?_⟩⟩
    exact k.lst S n (by rw [List.length_map, List.length_map, Array.length_toList, sz]; exact hl) (DenL.ofStrs _)
  · -- list
    simp only [Option.map_eq_some_iff] at e
    obtain ⟨ws, e1, rfl⟩ := e
    obtain ⟨v, x, rfl, rfl, dv, ev⟩ := asL_one d ea
    unfold seqOf at e1
    split at e1 <;> cases e1
    · obtain ⟨a, ys, rfl, t, lz, dl⟩ := dv.rd S ev
      exact ⟨_, call_list_of, fun Q k => ⟨a, ys, rfl, .inl (.inl (.inl t)), fun p n => k.lst S n lz dl⟩⟩
    · obtain ⟨a, ys, rfl, t, dl⟩ := rd_tup ev dv
      exact ⟨_, call_list_of, fun Q k => ⟨a, ys, rfl, .inr (by rw [← hK]; exact t.sq), fun p n => k.lst S n t.1 dl⟩⟩
  · -- sorted
    simp only [Option.map_eq_some_iff] at e
    obtain ⟨l, e2, rfl⟩ := e
    obtain ⟨v, x, rfl, rfl, dv, ev⟩ := asL_one d ea
    obtain ⟨a, ys, rfl, t, lz, dl⟩ := dv.rd S ev
    exact ⟨_, cr_sortedI, fun Q k => ⟨a, l, rfl, .inl (.inl (by rw [t, dl.ints e2])), fun ns' p hp hs n => by
        rw [sortI_the hp hs]
        exact k.lst S n (by rw [List.length_map, (sortI_perm l).length_eq]; rw [dl.ints e2, List.length_map] at lz; exact lz) (DenL.ofInts _)⟩⟩
  · simp only [Option.map_eq_some_iff] at e
    obtain ⟨l, e2, rfl⟩ := e
    obtain ⟨v, x, rfl, rfl, dv, ev⟩ := asL_one d ea
    obtain ⟨a, ys, rfl, t, dl⟩ := rd_tup ev dv
    exact ⟨_, cr_sortedTu, fun Q k => ⟨a, l, rfl, by rw [← hK, ← dl.ints e2]; exact t.sq, fun ns' p hp hs n => by
        rw [sortI_the hp hs]
        have lz := t.1
        exact k.lst S n (by rw [List.length_map, (sortI_perm l).length_eq]; rw [dl.ints e2, List.length_map] at lz; exact lz) (DenL.ofInts _)⟩⟩
  · simp only [Option.bind_eq_some_iff] at e
    obtain ⟨dd, e1, e2⟩ := e
    split at e2 <;> cases e2
    rename_i hl
    obtain ⟨v, x, rfl, rfl, dv, ev⟩ := asL_one d ea
    obtain ⟨a, ys, rfl, t, lz, dl⟩ := dv.rd S ev
    simp only [toD, Option.map_eq_some_iff] at e1
    obtain ⟨ds, e1, rfl⟩ := e1
    obtain ⟨p, q, r⟩ := DenL.dp 59 _ ys ds dl e1
    rw [hK] at p
    exact ⟨_, cr_repr hr hgd, fun Q k => ⟨a, _, rfl, .lst (.inl (.inl t)) p, by simp only [PyData.depth]; omega, q, hl.1, by rw [sz]; exact hl.2, k.here S rfl⟩⟩
  · simp only [Option.bind_eq_some_iff] at e
    obtain ⟨dd, e1, e2⟩ := e
    split at e2 <;> cases e2
    rename_i hl
    obtain ⟨v, x, rfl, rfl, dv, ev⟩ := asL_one d ea
    have dt := rd_tup ev dv
    obtain ⟨a, ys, rfl, t, dl⟩ := id dt
    obtain ⟨p, q, r⟩ := Den.dp 60 _ _ _ dt e1
    rw [hK] at p
    exact ⟨_, cr_repr hr hgd, fun Q k => ⟨a, _, rfl, p, r, q, hl.1, by rw [sz]; exact hl.2, k.here S rfl⟩⟩
  · exact absurd rfl hb
  · cases e

/-! ### methods -/
def meId : Me → String
  | .join => "str.join"
  | .split => "str.split"
  | .count => "list.count"
  | .index => "list.index"
  | .append => "list.append"
  | .extend => "list.extend"
def meTy : Me → String
  | .join => "str"
  | .split => "str"
  | .count => "list"
  | .index => "list"
  | .append => "list"
  | .extend => "list"
def meNm : Me → Str
  | .join => "join"
  | .split => "split"
  | .count => "count"
  | .index => "index"
  | .append => "append"
  | .extend => "extend"
theorem ixD_eq (a : Val) : ∀ (bs : List Val) (k : Nat), ixD a bs = some k → toDL 60 bs ≠ none → ∃ (d : PyData) (ds : List PyData) (z : PyData), toD 60 a = some d ∧ toDL 60 bs = some ds ∧ ds[k]? = some z ∧ PyData.eqv z d = true ∧ ∀ (m : Nat) (z' : PyData), m < k → ds[m]? = some z' → PyData.eqv z' d = false
  | [], _, e, _ => by cases e
  | b :: r, k, e, hn => by
    simp only [ixD, Option.bind_eq_some_iff] at e
    obtain ⟨j, e1, e2⟩ := e
    simp only [eqD, Option.bind_eq_some_iff, Option.map_eq_some_iff] at e1
    obtain ⟨z, f1, d, f2, rfl⟩ := e1
    have hr : toDL 60 r ≠ none := fun q => hn (by simp [toDL, f1, q])
    cases hd : toDL 60 r with
    | none => exact absurd hd hr
    | some ds =>
      by_cases hz : PyData.eqv z d = true
      · rw [if_pos hz] at e2
        cases e2
        exact ⟨d, z :: ds, z, f2, by simp [toDL, f1, hd], rfl, hz, fun m z' hm => by omega⟩
      · rw [if_neg hz] at e2
        simp only [Option.map_eq_some_iff] at e2
        obtain ⟨k', e2, rfl⟩ := e2
        obtain ⟨d', ds', z2, g1, g2, g3, g4, g5⟩ := ixD_eq a r k' e2 hr
        rw [f2] at g1; cases g1
        rw [hd] at g2; cases g2
        refine ⟨d, z :: ds, z2, f2, by simp [toDL, f1, hd], by simpa using g3, g4, fun m z' hm he => ?_⟩
        cases m with
        | zero =>
          have : z = z' := by simpa using he
          rw [← this]
          simpa using hz
        | succ m => exact g5 m z' (by omega) (by simpa using he)
theorem strs_den : ∀ {vs : List Val} {ns : List Str}, strsV vs = some ns → vs = ns.map Val.str
  | [], _, e => by cases e; rfl
  | v :: r, ns, e => by
    cases v <;> simp [strsV] at e
    obtain ⟨l, e1, e2⟩ := e
    rw [← e2, strs_den e1]; rfl
theorem meV_ok (hK : Z.K = X.K) (hr : Room 1 X.A) (S : SimZ Z R h H) {m : Me} {o : Val} {vs : List Val} {x : V} {xs : List V} {r : Val} (e : meV m (rd h o) (asL vs h) = some r) (d0 : DenZ Z R H o x) (d : DenLZ Z R H vs xs) :
    ∃ rr : V → List V → Hp → VK → Prop, MtR X (meId m) rr ∧ ∀ Q, Aft Z R h H r Q → rr x xs H Q := by
  generalize ea : asL vs h = as at e
  generalize eo : rd h o = oo at e
  unfold meV at e
  split at e
  · -- join
    simp only [Option.bind_eq_some_iff] at e
    obtain ⟨ys, e1, zs, e2, e3⟩ := e
    split at e3 <;> cases e3
    rename_i hl
    obtain ⟨v, y, rfl, rfl, dv, ev⟩ := asL_one d ea
    rw [rd_str eo d0]
    unfold seqOf at e1
    split at e1 <;> cases e1
    · obtain ⟨a, us, rfl, t, lz, dl⟩ := dv.rd S ev
      exact ⟨_, mt_join, fun Q k => ⟨_, a, zs, rfl, rfl, .inl (.inl (.inl (by rw [t, dl.strs e2]))), hl, k.here S rfl⟩⟩
    · obtain ⟨a, us, rfl, t, dl⟩ := rd_tup ev dv
      exact ⟨_, mt_join, fun Q k => ⟨_, a, zs, rfl, rfl, .inr (by rw [← hK, ← dl.strs e2]; exact t.sq), hl, k.here S rfl⟩⟩
  · -- split
    split at e <;> cases e
    rename_i hl
    obtain ⟨v, y, rfl, rfl, dv, ev⟩ := asL_one d ea
    rw [rd_str eo d0, rd_str ev dv]
    refine ⟨_, mt_split, fun Q k => ⟨_, _, rfl, rfl, hl.1, by rw [sz]; exact hl.2, fun p n => k.lst S n (by
      rw [List.length_map, sz]
      exact Nat.le_trans (PyProof.Rows.split_le _ _) hl.2) (DenL.ofStrs _)⟩⟩
  · -- count
    simp only [Option.map_eq_some_iff] at e
    obtain ⟨l, e1, rfl⟩ := e
    obtain ⟨v, y, rfl, rfl, dv, ev⟩ := asL_one d ea
    obtain ⟨a, us, rfl, t, lz, dl⟩ := d0.rd S eo
    exact ⟨_, mt_lcount, fun Q k => ⟨a, l, _, rfl, by rw [rd_int ev dv], .inl (.inl (by rw [t, dl.ints e1])), k.here S rfl⟩⟩
  · -- index
    simp only [Option.bind_eq_some_iff, Option.map_eq_some_iff] at e
    obtain ⟨ds, e1, n, e2, rfl⟩ := e
    obtain ⟨v, y, rfl, rfl, dv, ev⟩ := asL_one d ea
    obtain ⟨a, us, rfl, t, lz, dl⟩ := d0.rd S eo
    obtain ⟨dd, ds', z, g1, g2, g3, g4, g5⟩ := ixD_eq _ _ _ e2 (by rw [e1]; exact fun q => by cases q)
    rw [e1] at g2; cases g2
    obtain ⟨a1, a2, _⟩ := shapedL dl e1
    rw [← ev] at g1
    obtain ⟨p1, p2⟩ := rd_dp S dv g1
    rw [hK] at a1 p1
    exact ⟨_, mt_indexD (room65 hr), fun Q k => ⟨a, y, dd, ds, n, z, rfl, rfl, .lst (.inl (.inl t)) a1, p1, a2, p2, g3, g4, g5, k.here S rfl⟩⟩
  · cases e
theorem tyOk_ok (S : SimZ Z R h H) {m : Me} {o : Val} {x : V} (e : tyOk m (rd h o) = true) (d : DenZ Z R H o x) : tyV X.K (meTy m) x H := by
  have hs : ∀ z, rd h o = .str z → x = .str z := fun z q => rd_str q d
  have hl : ∀ z, rd h o = .lst z → tyV X.K "list" x H := fun z q => by
    obtain ⟨a, us, rfl, t, lz, dl⟩ := d.rd S q
    exact .inl ⟨rfl, us, .inl (.inl t)⟩
  generalize rd h o = w at e hs hl
  cases m <;> cases w <;> first | exact hl _ rfl | (rw [hs _ rfl]; rfl) | exact absurd e (by simp [tyOk])
theorem belowL_append (n : Nat) : ∀ xs ys : List Val, belowL n (xs ++ ys) = (belowL n xs && belowL n ys)
  | [], ys => by simp [belowL]
  | x :: r, ys => by simp [belowL, belowL_append n r ys, Bool.and_assoc]
/-- a method that may change its list -/
theorem meM_ok (hK : Z.K = X.K) (hr : Room 1 X.A) (S : SimZ Z R h H) {m : Me} {o : Val} {vs : List Val} {x : V} {xs : List V} {r : Val} (e : meM Z.g m o vs h = .ok r h') (d0 : DenZ Z R H o x) (d : DenLZ Z R H vs xs) :
    ∃ rr : V → List V → Hp → VK → Prop, MtR X (meId m) rr ∧ ∀ Q : VK, (∀ H' x, Ext R R H H' → Sim Z.K Z.C Z.bs Z.g.base R h' H' → Den Z.K Z.C R H' r x → Q x H') → rr x xs H Q := by
  unfold meM at e
  split at e
  · -- append
    rename_i n v
    split at e
    · rename_i ws hn
      split at e <;> cases e
      rename_i hl
      obtain ⟨a, ra, rfl⟩ := id d0
      obtain ⟨y, ys, rfl, dv, rfl⟩ := id d
      have hlt := (List.getElem?_eq_some_iff.mp hn).1
      have ho := S.obj n _ a hn ra
      cases ha : H a with
      | none => rw [ha] at ho; exact ho.elim
      | some u =>
        rw [ha] at ho
        cases u <;> first | exact ho.elim | skip
        rename_i us
        obtain ⟨l1, d1⟩ := ho
        have dn := d1.append (show DenL Z.K Z.C R H [v] [y] from ⟨y, [], rfl, dv, rfl⟩)
        have hz : us.length < sizeLine := by rw [← d1.length, sz]; exact hl.1
        refine ⟨_, mt_append, fun Q k => ⟨a, us, y, rfl, rfl, ha, hz, k _ _ (Ext.set (List.mem_of_getElem? ra)) (S.setL ra hlt (by rw [List.length_append, List.length_singleton]; omega) dn ?_) rfl⟩⟩
        have hm := hl.2
        unfold mayStore at hm
        simp only [Bool.or_eq_true, decide_eq_true_eq] at hm
        rcases hm with hm | hm
        · exact .inl hm
        · refine .inr (.inr fun b hb hnb => ?_)
          have q := S.cl b hb n _ hnb hn
          simp only [obBelow] at q
          rw [belowL_append, q]
          simp [belowL, below_le (Nat.le_of_lt hnb) v hm]
    · cases e
  · -- extend
    rename_i n v
    split at e
    · rename_i ws us hn hv
      split at e <;> cases e
      rename_i hl
      obtain ⟨a, ra, rfl⟩ := id d0
      obtain ⟨y, ys, rfl, dv, rfl⟩ := id d
      obtain ⟨b, zs, rfl, tb, lb, db⟩ := dv.rd S hv
      have hlt := (List.getElem?_eq_some_iff.mp hn).1
      have ho := S.obj n _ a hn ra
      cases ha : H a with
      | none => rw [ha] at ho; exact ho.elim
      | some u =>
        rw [ha] at ho
        cases u <;> first | exact ho.elim | skip
        rename_i us2
        obtain ⟨l1, d1⟩ := ho
        have dn := d1.append db
        have hz : us2.length + zs.length ≤ sizeLine := by rw [← d1.length, ← db.length, sz]; exact hl.1
        refine ⟨_, mt_extend, fun Q k => ⟨a, b, us2, zs, rfl, rfl, ha, tb, hz, k _ _ (Ext.set (List.mem_of_getElem? ra)) (S.setL ra hlt (by rw [List.length_append]; exact hz) dn ?_) rfl⟩⟩
        have hm := hl.2
        unfold mayStore at hm
        simp only [Bool.or_eq_true, decide_eq_true_eq] at hm
        rcases hm with hm | hm
        · exact .inl hm
        · refine .inr (.inr fun b hb hnb => ?_)
          have q := S.cl b hb n _ hnb hn
          simp only [obBelow] at q
          simp only [below] at hm
          rw [belowL_append, q, belowL_le (Nat.le_of_lt hnb) _ hm]
          rfl
    · cases e
  · obtain ⟨e1, rfl⟩ := opt_eq e
    exact meV_ok hK hr S e1 d0 d
/-! ### slices, places -/
theorem sl_ro : SlR X (fun x lo hi H Q => ∃ a xs, x = .ref a ∧ RoAt X.K R H a xs ∧ ∀ p, H p = none → Q (.ref p) (upd H p (.lst (cutV xs lo hi)))) := by
  intro pins s σ H x v vl vu lo hi sl Q I rx hs pl pu ⟨a, xs, e, t, q⟩
  exact sl_list pins s σ H x v vl vu lo hi sl Q I rx hs pl pu ⟨a, xs, e, t.sq, q⟩
theorem sIx_le (n : Nat) {d : Nat} (hd : d ≤ n) (o : Option Int) : HT.sIx n d o ≤ n := HT.sIx_le _ _ hd o
theorem cut_whole {α : Type} {vs : List α} {lo hi : Option Int} (hw : HT.sIx vs.length 0 lo = 0 ∧ HT.sIx vs.length vs.length hi = vs.length) : cut vs lo hi = vs := by
  unfold cut
  rw [hw.1, hw.2]
  simp
theorem sl_ok (hK : Z.K = X.K) (S : SimZ Z R h H) {v : Val} {x : V} {lo hi : Option Int} {r : Val} (e : sliceV (rd h v) lo hi = some r) (dv : DenZ Z R H v x) :
    ∃ rr : V → Option Int → Option Int → Hp → VK → Prop, SlR X rr ∧ ∀ Q, Aft Z R h H r Q → rr x lo hi H Q := by
  generalize ev : rd h v = w at e
  unfold sliceV at e
  split at e
  · cases e
    obtain ⟨a, ys, rfl, t, lz, dl⟩ := dv.rd S ev
    exact ⟨_, sl_list, fun Q k => ⟨a, ys, rfl, .inl (.inl t), fun p n => k.lst S n (Nat.le_trans (cutV_length _ _ _) lz) (dl.cut lo hi)⟩⟩
  · cases e
    have dt := rd_tup ev dv
    obtain ⟨a, ys, rfl, t, dl⟩ := id dt
    refine ⟨_, sl_tupA, fun Q k => ⟨a, ys, rfl, by rw [← hK]; exact t.sq, fun hw => ?_, fun _ p n => k.tup S n (Nat.le_trans (cutV_length _ _ _) t.1) (dl.cut lo hi)⟩⟩
    rw [cut_whole (by rw [dl.length]; exact hw)] at k
    exact k.here S dt
  · cases e
    obtain ⟨a, ys, rfl, t, dl⟩ := rd_ro ev dv
    exact ⟨_, sl_list, fun Q k => ⟨a, ys, rfl, by rw [← hK]; exact t.sq, fun p n => k.lst S n (Nat.le_trans (cutV_length _ _ _) t.1) (dl.cut lo hi)⟩⟩
  · split at e <;> cases e
    rename_i hl
    exact ⟨_, sl_str, fun Q k => ⟨_, rd_str ev dv, by rw [sz]; exact hl, k.here S rfl⟩⟩
  · cases e
theorem atI_den {vs : List Val} {xs : List V} (d : DenLZ Z R H vs xs) {i : Int} {r : Val} (e : atI vs i = some r) : ∃ y, atI xs i = some y ∧ DenZ Z R H r y := by
  unfold atI at e ⊢
  rw [← d.length]
  simp only [Option.bind_eq_some_iff] at e ⊢
  obtain ⟨j, e1, e2⟩ := e
  obtain ⟨y, e3, e4⟩ := d.get e2
  exact ⟨y, ⟨j, e1, e3⟩, e4⟩
theorem ix_dict (hu : X.A.units + 64 < cLine) : IxR X (fun x y H Q => ∃ a v, x = .ref a ∧ DGet H a y (some v) ∧ Q v H) := by
  intro value slice pins s σ
                          H x y v u Q I rx ry h hs
  obtain ⟨a, z, rfl, g, q⟩ := h
  obtain rfl : v =
                          Value.ref a := rx
  exact tail_any (dict_typeIs I g) PySem.F.slot_dict_getitem.lookup (d_getItem (by omega) I g ry fun w' s3 I3 rw' => ⟨z, H, I3, rw', q⟩) hs
theorem ix_ok (hK : Z.K = X.K) (hr : Room 1 X.A) (S : SimZ Z R h H) {v w : Val} {x y : V} {r : Val} (e : idxV (rd h v) w = some r) (dv : DenZ Z R H v x) (dw : DenZ Z R H w y) :
    ∃ rr : R2, IxR X rr ∧ ∀ Q, Aft Z R h H r Q → rr x y H Q := by
  generalize ev : rd h v = u at e
  unfold idxV at e
  split at e
  · obtain ⟨a, ys, rfl, t, lz, dl⟩ := dv.rd S ev
    obtain ⟨z, e1, dz⟩ := atI_den dl e
    exact ⟨_, ix_list, fun Q k => ⟨a, ys, _, z, rfl, dw, .inl (.inl t), e1, k.here S dz⟩⟩
  · obtain ⟨a, ys, rfl, t, dl⟩ := rd_tup ev dv
    obtain ⟨z, e1, dz⟩ := atI_den dl e
    exact ⟨_, ix_tup, fun Q k => ⟨a, ys, _, z, rfl, dw, by rw [← hK]; exact t.sq, e1, k.here S dz⟩⟩
  · obtain ⟨a, ys, rfl, t, dl⟩ := rd_ro ev dv
    obtain ⟨z, e1, dz⟩ := atI_den dl e
    exact ⟨_, ix_list, fun Q k => ⟨a, ys, _, z, rfl, dw, by rw [← hK]; exact t.sq, e1, k.here S dz⟩⟩
  · split at e
    · rename_i hl
      simp only [Option.map_eq_some_iff] at e
      obtain ⟨c, e, rfl⟩ := e
      exact ⟨_, ix_str, fun Q k => ⟨_, _, c, rd_str ev dv, dw, by rw [sz]; exact hl, e, k.here S rfl⟩⟩
    · cases e
  · simp only [Option.bind_eq_some_iff] at e
    obtain ⟨kk, e1, e2⟩ := e
    obtain ⟨a, ys, rfl, t, nr, dk⟩ := rd_dct ev dv
    obtain ⟨z, f1, f2⟩ := (dk.find kk).1 _ e2
    have ey : y = kV kk := by
      cases w <;> simp only [keyOf] at e1 <;> cases e1 <;> exact dw
    exact ⟨_, ix_dict (room64 hr), fun Q k => ⟨a, z, rfl, .inl ⟨ys, kk, .inl t, ey, f1.symm⟩, k.here S f2⟩⟩
  · cases e
end
end Co
end

section
set_option linter.all false
set_option maxRecDepth 100000
set_option autoImplicit false
/-! Co7: expressions. -/
namespace Co
open PySem PySem.Spec
                        PyProof.Rows L2

/-! ### what is asked of the text -/
def starred : Expr → Bool
  | .Starred _ _ => true
  | _ => false
def noStar (es : List Expr) : Bool := es.all fun e => !starred e
theorem star1 {e : Expr} {es : List Expr} {env : PySem.Env} (h : starred e = false) : starEach (e :: es) env = (false, eval e env) :: starEach es env := by
  cases e <;> first | rfl | cases h
theorem any_no {pos : Pos} {env : PySem.Env} : ∀ {es : List Expr}, noStar es = true → (backTo pos (starEach es env)).any (·.1) = false
  | [], _ => rfl
  | e :: r, h => by
    simp only [noStar, List.all_cons, Bool.and_eq_true, Bool.not_eq_true'] at h
    rw [star1 h.1]
    show (false || (backTo pos (starEach r env)).any (·.1)) = false
    rw [any_no (show noStar r = true from h.2)]
    rfl
theorem all_no {pos : Pos} {env : PySem.Env} : ∀ {es : List Expr}, noStar es = true → (backTo pos (starEach es env)).all (fun x => !x.1) = true
  | [], _ => rfl
  | e :: r, h => by
    simp only [noStar, List.all_cons, Bool.and_eq_true, Bool.not_eq_true'] at h
    rw [star1 h.1]
    show (true && (backTo pos (starEach r env)).all (fun x => !x.1)) = true
    rw [all_no (show noStar r = true from h.2)]
    rfl
/-- no call without arguments -/
def plainBase : Expr → Bool
  | .Call (.Name _ _) [] [] _ => false
  | _ => true
theorem base_ok {o : Expr} {f : Str} {env : PySem.Env} {w : Sem Value} (h : plainBase o = true) : attributeBase o f env w = w := by
  unfold attributeBase
  split
  · rename_i e
    simp [plainBase] at h
  · rfl
theorem few_ok {pos : Pos} {env : PySem.Env} {es : List Expr} (h : noStar es = true) (hl : es.length < 30) :
    ((backTo pos (starEach es env)).all (fun x => !x.1) && (backToKw pos (keywordEach [] env)).all (fun x => x.1.isSome) && decide (es.length + ([] : List Keyword).length + (if ([] : List Keyword).isEmpty then 0 else 1) < 30)) = true := by
  rw [all_no h]
  show (true && true && decide (es.length + 0 + 0 < 30)) = true
  simp [hl]
/-- a test of no own kind -/
def plainTest : Expr → Bool
  | .UnaryOp .Not _ _ => false
  | .BoolOp .. => false
  | .IfExp .. => false
  | .Compare .. => false
  | _ => true
theorem test_ok {e : Expr} {env : PySem.Env} (h : plainTest e = true) (whole : Sem Value) : isTrue e env whole = (do let v ← whole; standAt e.pos; holding [v] (truthy v)) := by
  cases e
  case UnaryOp op x pos => cases op <;> first | rfl | cases h
  all_goals first | rfl | cases h
def notSet : Expr → Bool
  | .Set .. => false
  | _ => true
theorem marks_ok {op : CmpOp} {b : Expr} (h : notSet b = true) : behindInMarks op b = false := by
  cases b <;> first | rfl | cases h
def notSlice : Expr → Bool
  | .Slice .. => false
  | _ => true
theorem plainIx_ok {b : Expr} (h : notSlice b = true) : PlainIx b := fun o i => by
  unfold subscripted
  cases b <;> first | rfl | cases h

theorem OpR.one {X : Cx} {f : Value → Value → Sem Value} : OpR X f (fun x y H Q => ∃ rr : R2, OpR X f rr ∧ rr x y H Q) := by
  intro pins s σ H x y v u Q I rx ry ⟨rr, o, q⟩
  exact o pins s σ H x y v u Q I rx ry q
theorem MtR.one {X : Cx} {id : String} : MtR X id (fun x xs H Q => ∃ rr : V → List V → Hp → VK → Prop, MtR X id rr ∧ rr x xs H Q) := by
  intro pins s σ H x xs v us Q I rx rs ⟨rr, o, q⟩
  exact o pins s σ H x xs v us Q I rx rs q
theorem CallR.one {X : Cx} {f : Value} : CallR X f (fun xs H Q => ∃ rr : List V → Hp → VK → Prop, CallR X f rr ∧ rr xs H Q) := by
  intro pins s σ H xs us Q I rs ⟨rr, o, q⟩
  exact o pins s σ H xs us Q I rs q
theorem SlR.one {X : Cx} : SlR X (fun x lo hi H Q => ∃ rr : V → Option Int → Option Int → Hp → VK → Prop, SlR X rr ∧ rr x lo hi H Q) := by
  intro pins s σ H x v vl vu lo hi sl Q I rx hs pl pu ⟨rr, o, q⟩
  exact o pins s σ H x v vl vu lo hi sl Q I rx hs pl pu q
theorem IxR.one {X : Cx} : IxR X (fun x y H Q => ∃ rr : R2, IxR X rr ∧ rr x y H Q) := by
  intro value slice pins s σ H x y v u Q I rx ry ⟨rr, o, q⟩ hs
  exact o value slice pins s σ H x y v u Q I rx ry q hs

section
variable {T : Stc} {sc : Scope} {a b c : Expr} {ca cb cc : CE} {pos : Pos}
/-! ### constants -/
theorem int_e {i : Int} {j} : SE T sc (.Constant (.int i) j pos) (.cst (.int i)) := fun Z X ok => ⟨fun pins s σ H Q I h => by
  obtain ⟨se, h0, R, v, h1, S, bb, D, e, k⟩ := h
  cases e
  exact pe_int.run pins _ σ H Q I (k R H _ (Ext.refl _ _) S D rfl)⟩
theorem bl_e {i : Bool} {j} : SE T sc (.Constant (.bool i) j pos) (.cst (.bl i)) := fun Z X ok => ⟨fun pins s σ H Q I h => by
  obtain ⟨se, h0, R, v, h1, S, bb, D, e, k⟩ := h
  cases e
  exact pe_bl.run pins _ σ H Q I (k R H _ (Ext.refl _ _) S D rfl)⟩
theorem non_e {j} : SE T sc (.Constant .none j pos) (.cst .non) := fun Z X ok => ⟨fun pins s σ H Q I h => by
  obtain ⟨se, h0, R, v, h1, S, bb, D, e, k⟩ := h
  cases e
  exact pe_non.run pins _ σ H Q I (k R H _ (Ext.refl _ _) S D rfl)⟩
theorem str_e {x : Str} {j} : SE T sc (.Constant (.str x) j pos) (.cst (.str x)) := fun Z X ok => ⟨fun pins s σ H Q I h => by
  obtain ⟨se, h0, R, v, h1, S, bb, D, e, k⟩ := h
  cases e
  exact pe_str.run pins _ σ H Q I (k R H _ (Ext.refl _ _) S D rfl)⟩
/-- a global name of a scope -/
def isGl (sc : Scope) (x : Str) : Bool := sc.names.lookup x == some .globalImplicit
theorem gl_of {Z : Sx} {X : Cx} (ok : XOk T Z X sc) {x : Str} (h : isGl sc x = true) : Gl X x := by
  unfold Gl Env.kindOf
  rw [ok.sc]
  simpa [isGl] using h
theorem glob_e {x : Str} {v : Val} (hg : isGl sc x = true) (hc : T.cst.lookup x = some v) (hd : (x == ("__debug__" : Str)) = false) : SE T sc (.Name x pos) (.cst v) := fun Z X ok => ⟨fun pins s σ H Q I h => by
  obtain ⟨se, h0, R, v, h1, S, bb, D, e, k⟩ := h
  cases e
  obtain ⟨u, xv, e1, r, dd⟩ := ok.cst x _ hc
  refine (pe_glob (gl_of ok hg) e1 r hd).run pins _ σ H Q I (k R H _ (Ext.refl _ _) S D ?_)
  rw [ok.K]
  exact dd R H⟩
/-! ### operators -/
theorem bin_e {op : Operator} (ha : SE T sc a ca) (hb : SE T sc b cb) : SE T sc (.BinOp a op b pos) (.bin op ca cb) := fun Z X ok => by
  refine
                          ⟨fun pins s σ H Q I h => ?_⟩
  obtain ⟨se, h0, R, v, h1, S, bb, D, e, k⟩ := h
  simp only [evE] at e
  obtain ⟨x, h2, e1, e⟩ := Res.bind_eq e
  obtain ⟨y, h3, e2, e⟩ := Res.bind_eq e
  obtain ⟨e3, rfl⟩ := opt_eq e
  refine (pe_op OpR.one (ha Z X ok) (hb Z X ok)).run pins _ σ H Q I ?_
  exact two S bb D e1 e2 fun R' H' vx vy X' S' b' D' dx dy =>
    let ⟨rr, o, q⟩ := bop_ok ok.K S' e3 dx dy
    ⟨rr, o, q Q fun H2 x2 X2 S2 d2 => k R' H2 x2 (X'.trans X2) S2 (D'.mono X2) d2⟩
theorem one {Z : Sx} {a : CE} {σ : L2.St} {H : Hp} {s : Env} {h h1 : Hh} {R : Rg} {v : Val} {W : V → Hp → Prop} (S : Sim Z.K Z.C Z.bs Z.g.base R h H) (hb : Z.g.base ≤ h.length) (D : DenS Z.K Z.C R H s σ)
    (ea : evE Z.g a s h = .ok v h1)
    (k : ∀ R' H' x, Ext R R' H H' → Sim Z.K Z.C Z.bs Z.g.base R' h1 H' → Z.g.base ≤ h1.length → DenS Z.K Z.C R' H' s σ → Den Z.K Z.C R' H' v x → W x H') :
    trE Z a σ H fun x H1 => W x H1 :=
  ⟨s, h, R, v, h1, S, hb, D, ea, fun R1 H1 x X1 S1 D1 dx => k R1 H1 x X1 S1 (base_of X1 S S1 hb) D1 dx⟩
theorem neg_e (ha : SE T sc a ca) : SE T sc (.UnaryOp .USub a pos) (.neg ca) := fun Z X ok => by
  refine
                          ⟨fun pins s σ H Q I h => ?_⟩
  obtain ⟨se, h0, R, v, h1, S, bb, D, e, k⟩ := h
  simp only [evE] at e
  obtain ⟨x, h2, e1, e⟩ := Res.bind_eq e
  split at e <;> cases e
  refine (pe_un un_neg (ha Z X ok)).run pins _ σ H Q I ?_
  exact one S bb D e1 fun R' H' vx X' S' b' D' dx => ⟨_, dx, k R' H' _ X' S' D' rfl⟩
theorem not_e (ha : SE T sc a ca) : SE T sc (.UnaryOp .Not a pos) (.not ca) := fun Z X ok => by
  refine
                          ⟨fun pins s σ H Q I h => ?_⟩
  obtain ⟨se, h0, R, v, h1, S, bb, D, e, k⟩ := h
  simp only [evE] at e
  obtain ⟨x, h2, e1, e⟩ := Res.bind_eq e
  split at e <;> cases e
  refine (pe_not (ha Z X ok)).run pins _ σ H Q I ?_
  exact one S bb D e1 fun R' H' vx X' S' b' D' dx => ⟨_, dx, k R' H' _ X' S' D' rfl⟩
theorem and_e {rest : List Expr} (ha : SE T sc a ca) (hb : SE T sc (.BoolOp .And (b :: rest) pos) cb) : SE T sc (.BoolOp .And (a :: b :: rest) pos) (.and ca cb) := fun Z X ok => by
  refine
                          ⟨fun pins s σ H Q I h => ?_⟩
  obtain ⟨se, h0, R, v, h1, S, bb, D, e, k⟩ := h
  simp only [evE] at e
  obtain ⟨x, h2, e1, e⟩ := Res.bind_eq e
  refine (pe_and (ha Z X ok) (hb Z X ok)).run pins _ σ H Q I ?_
  refine one S bb D e1 fun R' H' vx X' S' b' D' dx => ?_
  split at e
  · exact ⟨true, dx, se, h2, R', v, h1, S', b', D', e, fun R2 H2 x2 X2 S2 D2 d2 => k R2 H2 x2 (X'.trans X2) S2 D2 d2⟩
  · cases e
    exact ⟨false, dx, k R' H' _ X' S' D' rfl⟩
  · cases e
theorem or_e {rest : List Expr} (ha : SE T sc a ca) (hb : SE T sc (.BoolOp .Or (b :: rest) pos) cb) : SE T sc (.BoolOp .Or (a :: b :: rest) pos) (.or ca cb) := fun Z X ok => by
  refine
                          ⟨fun pins s σ H Q I h => ?_⟩
  obtain ⟨se, h0, R, v, h1, S, bb, D, e, k⟩ := h
  simp only [evE] at e
  obtain ⟨x, h2, e1, e⟩ := Res.bind_eq e
  refine (pe_or (ha Z X ok) (hb Z X ok)).run pins _ σ H Q I ?_
  refine one S bb D e1 fun R' H' vx X' S' b' D' dx => ?_
  split at e
  · cases e
    exact ⟨true, dx, k R' H' _ X' S' D' rfl⟩
  · exact ⟨false, dx, se, h2, R', v, h1, S', b', D', e, fun R2 H2 x2 X2 S2 D2 d2 => k R2 H2 x2 (X'.trans X2) S2 D2 d2⟩
  · cases e
theorem bone_e {op} (ha : SE T sc a ca) : SE T sc (.BoolOp op [a] pos) ca := fun Z X ok => pe_one (ha Z X ok)
theorem cmp_e {op : CmpOp} (hm : notSet b = true) (ha : SE T sc a ca) (hb : SE T sc b cb) : SE T sc (.Compare a [op] [b] pos) (.cmp op ca cb) := fun Z X ok => by
  refine
                          ⟨fun pins s σ H Q I h => ?_⟩
  obtain ⟨se, h0, R, v, h1, S, bb, D, e, k⟩ := h
  simp only [evE] at e
  obtain ⟨x, h2, e1, e⟩ := Res.bind_eq e
  obtain ⟨y, h3, e2, e⟩ := Res.bind_eq e
  obtain ⟨e3, rfl⟩ := opt_eq e
  simp only [Option.map_eq_some_iff] at e3
  obtain ⟨kk, e3, rfl⟩ := e3
  refine (pe_cmpR OpR.one (ha Z X ok) (hb Z X ok) (marks_ok hm)).run pins _ σ H Q I ?_
  exact two S bb D e1 e2 fun R' H' vx vy X' S' b' D' dx dy =>
    let ⟨rr, o, q⟩ := cop_ok ok.K ok.room S' e3 dx dy
    ⟨rr, o, q Q fun H2 x2 X2 S2 d2 => k R' H2 x2 (X'.trans X2) S2 (D'.mono X2) d2⟩
theorem cmp_t {op : CmpOp} (hm : notSet b = true) (ha : SE T sc a ca) (hb : SE T sc b cb) : ST T sc (.Compare a [op] [b] pos) (.cmp op ca cb) := fun Z X ok => by
  refine
                          ⟨fun pins s σ H Q I h => ?_⟩
  obtain ⟨se, h0, R, v, h1, S, bb, D, e, k⟩ := h
  simp only [evE] at e
  obtain ⟨x, h2, e1, e⟩ := Res.bind_eq e
  obtain ⟨y, h3, e2, e⟩ := Res.bind_eq e
  obtain ⟨e3, rfl⟩ := opt_eq e
  simp only [Option.map_eq_some_iff] at e3
  obtain ⟨kk, e3, e4⟩ := e3
  cases e4
  refine (pt_cmpR OpR.one (ha Z X ok) (hb Z X ok) (marks_ok hm)).run pins _ σ H Q I ?_
  exact two S bb D e1 e2 fun R' H' vx vy X' S' b' D' dx dy =>
    let ⟨rr, o, q⟩ := cop_ok ok.K ok.room S' e3 dx dy
    ⟨rr, o, q _ fun H2 x2 X2 S2 d2 => ⟨_, d2, k R' H2 (X'.trans X2) S2 (D'.mono X2)⟩⟩
theorem chain_core {Z : Sx} {X : Cx} {o1 o2 : CmpOp} {σ : L2.St} {H : Hp} {Q : VK} {v : Val} {s : Env} {h h' : Hh} {R : Rg} (ok : XOk T Z X sc) (S : Sim Z.K Z.C Z.bs Z.g.base R h H) (hb : Z.g.base ≤ h.length) (D : DenS Z.K Z.C R H s σ)
    (e : evE Z.g (.chain o1 o2 ca cb cc) s h = .ok v h') (k : ∀ R' H' x, Ext R R' H H' → Sim Z.K Z.C Z.bs Z.g.base R' h' H' → DenS Z.K Z.C R' H' s σ → Den Z.K Z.C R' H' v x → Q x H') :
    tChain (fun x y H Q => ∃ rr : R2, OpR X (compareOp o1) rr ∧ rr x y H Q) (fun x y H Q => ∃ rr : R2, OpR X (compareOp o2) rr ∧ rr x y H Q) (trE Z ca) (trE Z cb) (trE Z cc) σ H Q := by
  simp only [evE] at e
  obtain ⟨x, h2, e1, e⟩ := Res.bind_eq e
  obtain ⟨y, h3, e2, e⟩ := Res.bind_eq e
  refine two S hb D e1 e2 fun R' H' vx vy X' S' b' D' dx dy => ?_
  split at e
  · rename_i hk
    obtain ⟨z, h4, e3, e⟩ := Res.bind_eq e
    obtain ⟨e4, rfl⟩ := opt_eq e
    simp only [Option.map_eq_some_iff] at e4
    obtain ⟨kk, e4, rfl⟩ := e4
    obtain ⟨rr, o, q⟩ := cop_ok ok.K ok.room S' hk dx dy
    refine ⟨rr, o, q _ fun H2 x2 X2 S2 d2 => ⟨true, d2, ?_⟩⟩
    rw [if_pos rfl]
    refine one S2 b' (D'.mono X2) e3 fun R3 H3 x3 X3 S3 b3 D3 d3 => ?_
    obtain ⟨rr, o, q⟩ := cop_ok ok.K ok.room S3 e4 ((dy.mono X2).mono X3) d3
    exact ⟨rr, o, q Q fun H4 x4 X4 S4 d4 => k R3 H4 x4 (((X'.trans X2).trans X3).trans X4) S4 (D3.mono X4) d4⟩
  · rename_i hk
    cases e
    obtain ⟨rr, o, q⟩ := cop_ok ok.K ok.room S' hk dx dy
    refine ⟨rr, o, q _ fun H2 x2 X2 S2 d2 => ⟨false, d2, ?_⟩⟩
    rw [if_neg
                            Bool.false_ne_true]
    exact k R' H2 _ (X'.trans X2) S2 (D'.mono X2) rfl
  · cases e
theorem marks2_ok {o1 o2 : CmpOp} (h2 : notSet c = true) : lastMarks [o1, o2] [b, c] = false := by
  show behindInMarks o2 c = false
  exact marks_ok h2
theorem chain_e {o1 o2 : CmpOp} (hm : notSet c = true) (ha : SE T sc a ca) (hb : SE T sc b cb) (hc : SE T sc c cc) : SE T sc (.Compare a [o1, o2] [b, c] pos) (.chain o1 o2 ca cb cc) := fun Z X ok => by
  refine
                          ⟨fun pins s σ H Q I h => ?_⟩
  obtain ⟨se, h0, R, v, h1, S, bb, D, e, k⟩ := h
  exact (pe_chain OpR.one OpR.one (ha Z X ok) (hb Z X ok) (hc Z X ok) (marks2_ok hm)).run pins _ σ H Q I (chain_core ok S bb D e k)
theorem chain_t {o1 o2 : CmpOp} (hm : notSet c = true) (ha : SE T sc a ca) (hb : SE T sc b cb) (hc : SE T sc c cc) : ST T sc (.Compare a [o1, o2] [b, c] pos) (.chain o1 o2 ca cb cc) := fun Z X ok => by
  refine
                          ⟨fun pins s σ H Q I h => ?_⟩
  obtain ⟨se, h0, R, v, h1, S, bb, D, e, k⟩ := h
  refine (pt_chain OpR.one OpR.one (ha Z X ok) (hb Z X ok) (hc Z X ok) (marks2_ok hm)).run pins _ σ H Q I (chain_core ok S bb D e fun R' H' x X' S' D' d' => ⟨v, d', k R' H' X' S' D'⟩)
theorem val_t (ht : plainTest a = true) (ha : SE T sc a ca) : ST T sc a ca := fun Z X ok => by
  refine
                          ⟨fun pins s σ H Q I h => ?_⟩
  obtain ⟨se, h0, R, v, h1, S, bb, D, e, k⟩ := h
  exact (pt_val (ha Z X ok) (test_ok ht)).run pins _ σ H Q I ⟨se, h0, R, _, h1, S, bb, D, e, fun R' H' x X' S' D' d' => ⟨v, d', k R' H' X' S' D'⟩⟩
theorem not_t (ha : ST T sc a ca) : ST T sc (.UnaryOp .Not a pos) (.not ca) := fun Z X ok => by
  refine
                          ⟨fun pins s σ H Q I h => ?_⟩
  obtain ⟨se, h0, R, v, h1, S, bb, D, e, k⟩ := h
  simp only [evE] at e
  obtain ⟨x, h2, e1, e⟩ := Res.bind_eq e
  split at e <;> cases e
  exact (pt_not (ha Z X ok)).run pins _ σ H Q I ⟨se, h0, R, _, _, S, bb, D, e1, fun R' H' X' S' D' => k R' H' X' S' D'⟩
def SW (T : Stc) (sc : Scope) (e : Expr) (c : CE) : Prop := ∀ (Z : Sx) (X : Cx), XOk T Z X sc → PW X e (trT Z c)
theorem SW.st (h : SW T sc a ca) : ST T sc a ca := fun Z X ok => (h Z X ok).pt
theorem wand1 (ha : ST T sc a ca) : SW T sc (.BoolOp .And [a] pos) ca := fun Z X ok => pw_and1 (ha Z X ok)
theorem wor1 (ha : ST T sc a ca) : SW T sc (.BoolOp .Or [a] pos) ca := fun Z X ok => pw_or1 (ha Z X ok)
theorem wand {rest : List Expr} (ha : ST T sc a ca) (hb : SW T sc (.BoolOp .And (b :: rest) pos) cb) : SW T sc (.BoolOp .And (a :: b :: rest) pos) (.and ca cb) := fun Z X ok => by
  refine
                          ⟨fun wh pins s σ H Q I h => ?_⟩
  obtain ⟨se, h0, R, v, h1, S, bb, D, e, k⟩ := h
  simp only [evE] at e
  obtain ⟨x, h2, e1, e⟩ := Res.bind_eq e
  refine (pw_and (ha Z X ok) (hb Z X ok)).run wh pins _ σ H Q I ?_
  split at e
  · refine ⟨se, h0, R, _, h2, S, bb, D, e1, fun R' H' X' S' D' => ?_⟩
    show
                            (if true = true then _ else _)
    rw [if_pos rfl]
    exact ⟨se, h2, R', v, h1, S', base_of X' S S' bb, D', e, fun R2 H2 X2 S2 D2 => k R2 H2 (X'.trans X2) S2 D2⟩
  · cases e
    refine ⟨se, h0, R, _, _, S, bb, D, e1, fun R' H' X' S' D' => ?_⟩
    show (if false = true then _ else _)
    rw [if_neg
                            Bool.false_ne_true]
    exact k R' H' X' S' D'
  · cases e
theorem wor {rest : List Expr} (ha : ST T sc a ca) (hb : SW T sc (.BoolOp .Or (b :: rest) pos) cb) : SW T sc (.BoolOp .Or (a :: b :: rest) pos) (.or ca cb) := fun Z X ok => by
  refine
                          ⟨fun wh pins s σ H Q I h => ?_⟩
  obtain ⟨se, h0, R, v, h1, S, bb, D, e, k⟩ := h
  simp only [evE] at e
  obtain ⟨x, h2, e1, e⟩ := Res.bind_eq e
  refine (pw_or (ha Z X ok) (hb Z X ok)).run wh pins _ σ H Q I ?_
  split at e
  · cases e
    refine ⟨se, h0, R, _, _, S, bb, D, e1, fun R' H' X' S' D' => ?_⟩
    show
                            (if true = true then _ else _)
    rw [if_pos rfl]
    exact k R' H' X' S' D'
  · refine ⟨se, h0, R, _, h2, S, bb, D, e1, fun R' H' X' S' D' => ?_⟩
    show (if false = true then _ else _)
    rw [if_neg
                            Bool.false_ne_true]
    exact ⟨se, h2, R', v, h1, S', base_of X' S S' bb, D', e, fun R2 H2 X2 S2 D2 => k R2 H2 (X'.trans X2) S2 D2⟩
  · cases e
theorem ite_e (hc : ST T sc c cc) (ha : SE T sc a ca) (hb : SE T sc b cb) : SE T sc (.IfExp c a b pos) (.ite cc ca cb) := fun Z X ok => by
  refine
                          ⟨fun pins s σ H Q I h => ?_⟩
  obtain ⟨se, h0, R, v, h1, S, bb, D, e, k⟩ := h
  simp only [evE] at e
  obtain ⟨x, h2, e1, e⟩ := Res.bind_eq e
  refine (pe_ifExp (hc Z X ok) (ha Z X ok) (hb Z X ok)).run pins _ σ H Q I ?_
  split at e
  · refine ⟨se, h0, R, _, h2, S, bb, D, e1, fun R' H' X' S' D' => ?_⟩
    show
                            (if true = true then _ else _)
    rw [if_pos rfl]
    exact ⟨se, h2, R', v, h1, S', base_of X' S S' bb, D', e, fun R2 H2 x2 X2 S2 D2 d2 => k R2 H2 x2 (X'.trans X2) S2 D2 d2⟩
  · refine ⟨se, h0, R, _, h2, S, bb, D, e1, fun R' H' X' S' D' => ?_⟩
    show (if false = true then _ else _)
    rw [if_neg
                            Bool.false_ne_true]
    exact ⟨se, h2, R', v, h1, S', base_of X' S S' bb, D', e, fun R2 H2 x2 X2 S2 D2 d2 => k R2 H2 x2 (X'.trans X2) S2 D2 d2⟩
  · cases e
end
end Co
end

section
set_option linter.all false
set_option maxRecDepth 100000
set_option autoImplicit false
/-! Co8: displays, calls, methods, places. -/
namespace Co
open PySem PySem.Spec
                        PyProof.Rows L2
section
variable {T : Stc} {sc : Scope} {a b c : Expr} {ca cb cc : CE} {pos : Pos}
/-! ### argument lists -/
def starC : CE → Bool
  | .star _ => true
  | _ => false
theorem evEs_cons {g : G} {c : CE} {cs : List CE} {s : Env} {h : Hh} (hc : starC c = false) : evEs g (c :: cs) s h = (evE g c s h).bind fun v h1 => (evEs g cs s h1).bind fun ws h2 => .ok (v :: ws) h2 := by
  cases c <;> first | rfl | cases hc
theorem nil_a : SA T sc [] [] := fun Z X ok => ⟨fun ps pins s σ H Q I h => by
  obtain ⟨se, h0, R, v, h1, S, bb, D, e, k⟩ := h
  cases e
  exact pa_nil.run ps pins _ σ H Q I (k R H _ (Ext.refl _ _) S D rfl)⟩
theorem cons_a {es : List Expr} {cs : List CE} (hs : starred a = false) (hc : starC ca = false) (ha : SE T sc a ca) (hr : SA T sc es cs) : SA T sc (a :: es) (ca :: cs) := fun Z X ok => ⟨fun ps pins s σ H Q I h => by
  obtain ⟨se, h0, R, v, h1, S, bb, D, e, k⟩ := h
  rw [evEs_cons hc] at e
  obtain ⟨x, h2, e1, e⟩ := Res.bind_eq e
  obtain ⟨xs, h3, e2, e⟩ := Res.bind_eq e
  cases e
  refine (pa_cons (ha Z X ok) (hr Z X ok) (star1 hs)).run ps pins _ σ H Q I ?_
  refine one S bb D e1 fun R' H' vx X' S' b' D' dx => ?_
  exact ⟨se, h2, R', _, _, S', b', D', e2, fun R2 H2 ys X2 S2 D2 d2 => k R2 H2 (vx :: ys) (X'.trans X2) S2 D2 ⟨vx, ys, rfl, dx.mono X2, d2⟩⟩⟩
theorem seq_den {Z : Sx} {X : Cx} {R : Rg} {h : Hh} {H : Hp} {v : Val} {x : V} {vs : List Val} (hK : Z.K = X.K) (S : SimZ Z R h H) (e : seqOf (rd h v) = some vs) (d : DenZ Z R H v x) :
    ∃ (p : Addr) (xs : List V), x = .ref p ∧ (SqT X.K H p xs ∨ SqL X.K H p xs) ∧ xs.length ≤ sizeLine ∧ DenLZ Z R H vs xs := by
  generalize ew : rd h v = w at e
  unfold seqOf at e
  split at e <;> cases e
  · obtain ⟨p, xs, rfl, t, l, dl⟩ := d.rd S ew
    exact ⟨p, xs, rfl, .inr (.inl (.inl t)), l, dl⟩
  · obtain ⟨p, xs, rfl, t, dl⟩ := rd_tup ew d
    exact ⟨p, xs, rfl, .inl (by rw [← hK]; exact t.sq), t.1, dl⟩
theorem star_a {es : List Expr} {cs : List CE} {p : Pos} (ha : SE T sc a ca) (hr : SA T sc es cs) : SA T sc (.Starred a p :: es) (.star ca :: cs) := fun Z X ok => ⟨fun ps pins s σ H Q I h => by
  obtain ⟨se, h0, R, v, h1, S, bb, D, e, k⟩ := h
  simp only [evEs] at e
  obtain ⟨x, h2, e1, e⟩ := Res.bind_eq e
  split at e
  · rename_i vs hv
    obtain ⟨xs, h3, e2, e⟩ := Res.bind_eq e
    cases e
    refine (StX.pa_star (ha Z X ok) (hr Z X ok) rfl).run ps pins _ σ H Q I ?_
    refine one S bb D e1 fun R' H' vx X' S' b' D' dx => ?_
    obtain ⟨p, ys, rfl, hq, _, dl⟩ := seq_den ok.K S' hv dx
    exact ⟨p, ys, rfl, hq, se, h2, R', _, _, S', b', D', e2, fun R2 H2 zs X2 S2 D2 d2 => k R2 H2 (ys ++ zs) (X'.trans X2) S2 D2 ((dl.mono X2).append d2)⟩
  · cases e⟩
theorem more {Z : Sx} {es : List CE} {σ : L2.St} {H : Hp} {s : Env} {h h1 : Hh} {R : Rg} {vs : List Val} {W : List V → Hp → Prop} (S : Sim Z.K Z.C Z.bs Z.g.base R h H) (hb : Z.g.base ≤ h.length) (D : DenS Z.K Z.C R H s σ)
    (ea : evEs Z.g es s h = .ok vs h1)
    (k : ∀ R' H' xs, Ext R R' H H' → Sim Z.K Z.C Z.bs Z.g.base R' h1 H' → Z.g.base ≤ h1.length → DenS Z.K Z.C R' H' s σ → DenL Z.K Z.C R' H' vs xs → W xs H') :
    trA Z es σ H fun x H1 => W x H1 :=
  ⟨s, h, R, vs, h1, S, hb, D, ea, fun R1 H1 x X1 S1 D1 dx => k R1 H1 x X1 S1 (base_of X1 S S1 hb) D1 dx⟩
/-! ### displays -/
theorem alloc_ok {Z : Sx} {R : Rg} {h h' : Hh} {H : Hp} {m : Bool} {vs : List Val} {xs : List V} {v : Val} {σ : L2.St} {s : Env} {p : Addr} {Q : VK} (S : SimZ Z R h H) (hb : Z.g.base ≤ h.length) (D : DenS Z.K Z.C R H s σ) (e : allocL m vs h = .ok v h') (hl : xs.length ≤ sizeLine)
    (d : DenLZ Z R H vs xs) (n : H p = none) (k : ∀ R' H' x, Ext R R' H H' → Sim Z.K Z.C Z.bs Z.g.base R' h' H' → DenS Z.K Z.C R' H' s σ → Den Z.K Z.C R' H' v x → Q x H') : Q (.ref p) (upd H p (.lst xs)) := by
  unfold allocL at e
  split at e <;> cases e
  · refine k (R.add p) _ _ (Ext.own n) (S.alloc hb n hl d) (D.mono (Ext.own n)) ⟨p, ?_, rfl⟩
    show (R.own ++ [p])[h.length]? = some p
    rw [← S.len, List.getElem?_append_right (Nat.le_refl _), Nat.sub_self]
    rfl
  · exact Aft.lst (Z := Z) (R := R) (h := h) (H := H) (Q := Q) (fun H' x X' S' d' => k R H' x X' S' (D.mono X') d') S n hl d
theorem tup_e {es : List Expr} {cs : List CE} {j} (h : SA T sc es cs) : SE T sc (.Tuple es j pos) (.tup cs) := fun Z X ok => by
  refine ⟨fun pins s σ H Q I hh => ?_⟩
  obtain ⟨se, h0, R, v, h1, S, bb, D, e, k⟩ := hh
  simp only [evE] at e
  obtain ⟨vs, h2, e1, e⟩ := Res.bind_eq e
  split at e <;> cases e
  rename_i hl
  refine (pe_tup (h Z X ok)).run pins _ σ H Q I (more S bb D e1 fun R' H' xs X' S' b' D' dx => ?_)
  have hz : xs.length ≤ sizeLine := by rw [← dx.length, sz]; exact hl
  exact ⟨hz, fun p n => Aft.tup (Z := Z) (R := R') (h := h1) (H := H') (Q := Q) (fun H2 x X2 S2 d2 => k R' H2 x (X'.trans X2) S2 (D'.mono X2) d2) S' n hz dx⟩
theorem lst_e {es : List Expr} {cs : List CE} {m : Bool} (h : SA T sc es cs) : SE T sc (.List es pos) (.lst m cs) := fun Z X ok => by
  refine ⟨fun pins s σ H Q I hh => ?_⟩
  obtain ⟨se, h0, R, v, h1, S, bb, D, e, k⟩ := hh
  simp only [evE] at e
  obtain ⟨vs, h2, e1, e⟩ := Res.bind_eq e
  split at e <;> try cases e
  rename_i hl
  refine (pe_lst (h Z X ok)).run pins _ σ H Q I (more S bb D e1 fun R' H' xs X' S' b' D' dx => ?_)
  have hz : xs.length ≤ sizeLine := by rw [← dx.length, sz]; exact hl
  exact ⟨hz, fun p n => alloc_ok S' b' D' e hz dx n fun R2 H2 x X2 S2 D2 d2 => k R2 H2 x (X'.trans X2) S2 D2 d2⟩
/-! ### calls of built-ins -/
theorem call_ok {Z : Sx} {X : Cx} {R : Rg} {h : Hh} {H : Hp} {bb : Bi} {vs : List Val} {xs : List V} {r : Val} {Q : VK} (ok : XOk T Z X sc) (S : SimZ Z R h H) (hb : bb ≠ .sset) (e : bi bb (asL vs h) = some r) (d : DenLZ Z R H vs xs) (k : Aft Z R h H r Q) :
    ∃ rr : List V → Hp → VK → Prop, CallR X (biV bb) rr ∧ rr xs H Q :=
  let ⟨rr, o, q⟩ := bi_ok ok.K ok.room ok.gd ok.calm S hb e d
  ⟨rr, o, q Q k⟩
theorem callB_e {es : List Expr} {ces : List CE} {x : Str} {bb : Bi} {id : String} {p : Pos} (hb : bb ≠ .sset) (hv : biV bb = .builtin id) (hx : bootBuiltins x = some (.builtin id)) (hg : isGl sc x = true) (hm : x ∈ T.blt) (hn : x ≠ "__name__") (hdb : (x == ("__debug__" : Str)) = false)
    (hs : noStar (a :: es) = true) (ha : SA T sc (a :: es) ces) : SE T sc (.Call (.Name x p) (a :: es) [] pos) (.callB bb ces) := fun Z X ok => by
  refine
                          ⟨fun pins s σ H Q I h => ?_⟩
  obtain ⟨se, h0, R, v, h1, S, b0, D, e, k⟩ := h
  simp only [evE] at e
  obtain ⟨vs, h2, e1, e⟩ := Res.bind_eq e
  obtain ⟨e3, rfl⟩ := opt_eq e
  simp only [noStar, List.all_cons, Bool.and_eq_true, Bool.not_eq_true'] at hs
  have hc : CallR X (.builtin id) (fun xs H Q => ∃ rr : List V → Hp → VK → Prop, CallR X (biV bb) rr ∧ rr xs H Q) := by rw [hv]; exact CallR.one
  refine (pe_callB hc (gl_of ok hg) (ok.blt x hm) hx (ha Z X ok) hn hdb (star1 hs.1) (any_no hs.2)).run pins _ σ H Q I ?_
  exact more S b0 D e1 fun R' H' xs X' S' b' D' dx => call_ok ok S' hb e3 dx fun H2 x2 X2 S2 d2 => k R' H2 x2 (X'.trans X2) S2 (D'.mono X2) d2
theorem callT_e {es : List Expr} {ces : List CE} {x : Str} {bb : Bi} {id : String} {p : Pos} (hb : bb ≠ .sset) (hv : biV bb = .type id) (hx : bootBuiltins x = some (.type id)) (hg : isGl sc x = true) (hm : x ∈ T.blt) (hn : x ≠ "__name__") (hdb : (x == ("__debug__" : Str)) = false)
    (hs : noStar (a :: es) = true) (ha : SA T sc (a :: es) ces) : SE T sc (.Call (.Name x p) (a :: es) [] pos) (.callB bb ces) := fun Z X ok => by
  refine
                          ⟨fun pins s σ H Q I h => ?_⟩
  obtain ⟨se, h0, R, v, h1, S, b0, D, e, k⟩ := h
  simp only [evE] at e
  obtain ⟨vs, h2, e1, e⟩ := Res.bind_eq e
  obtain ⟨e3, rfl⟩ := opt_eq e
  simp only [noStar, List.all_cons, Bool.and_eq_true, Bool.not_eq_true'] at hs
  have hc : CallR X (.type id) (fun xs H Q => ∃ rr : List V → Hp → VK → Prop, CallR X (biV bb) rr ∧ rr xs H Q) := by rw [hv]; exact CallR.one
  refine (pe_callTy hc (gl_of ok hg) (ok.blt x hm) hx (ha Z X ok) hn hdb (star1 hs.1) (any_no hs.2)).run pins _ σ H Q I ?_
  exact more S b0 D e1 fun R' H' xs X' S' b' D' dx => call_ok ok S' hb e3 dx fun H2 x2 X2 S2 d2 => k R' H2 x2 (X'.trans X2) S2 (D'.mono X2) d2
/-- list(e) that is changed later -/
theorem listM_e {p : Pos} (hg : isGl sc "list" = true) (hm : ("list" : Str) ∈ T.blt) (hs : starred a = false) (hc : starC ca = false) (ha : SE T sc a ca) : SE T sc (.Call (.Name "list" p) [a] [] pos) (.listM ca) := fun Z X ok => by
  refine
                          ⟨fun pins s σ H Q I h => ?_⟩
  obtain ⟨se, h0, R, v, h1, S, b0, D, e, k⟩ := h
  simp only [evE] at e
  obtain ⟨w, h2, e1, e⟩ := Res.bind_eq e
  split at e
  case h_2 => cases e
  rename_i vs hv
  refine (pe_callTy call_list_of (gl_of ok hg) (ok.blt _ hm) boot_list (cons_a hs hc ha nil_a Z X ok) (by decide) (by decide) (star1 hs) rfl).run pins _ σ H Q I ?_
  have e2 : evEs Z.g [ca] se h0 = .ok [w] h2 := by
    rw [evEs_cons hc, e1]
    rfl
  refine more S b0 D e2 fun R' H' xs X' S' b' D' dx => ?_
  obtain ⟨x, ys, rfl, d1, d2⟩ := dx
  rw [show ys = [] from d2]
  obtain ⟨q, zs, rfl, hq, hl, dl⟩ := seq_den ok.K S' hv d1
  exact ⟨q, zs, rfl, hq.elim .inr .inl, fun l n => alloc_ok S' b' D' e hl dl n fun R2 H2 x X2 S2 D2 d2 => k R2 H2 x (X'.trans X2) S2 D2 d2⟩
end
end Co
end

section
set_option linter.all false
set_option maxRecDepth 100000
set_option autoImplicit false
/-! Co9: calls of own defs, making, fields, properties, methods, places, slices. -/
namespace Co
open PySem PySem.Spec
                        PyProof.Rows L2
section
variable {P : Program} {w : World} {K : PySem.W.Frag} {mg : Str → Option Value} {base : Heap} {k : Nat} {f : Addr} {fd : FuncData} {ps : List Str} {sp : SpV} {X : Cx} {pins : List (Addr × Obj)} {σ : L2.St} {H : Hp} {s : Shared} {Q : VK} {us : List Value} {vs : List V}
theorem crEnd {A : Around} {outer : List PySem.Env} {r : Result} {s' : Shared} (h : CR CX0 outer P w H s Q E0 r s') : ∃ u, r = .ok (.ret u) ∧ L2.CE outer P w H s Q u s' := by
  cases r with
  | error e => exact False.elim h
  | ok fl =>
    cases fl with
    | ret u => exact ⟨u, rfl, h⟩
    | next => exact False.elim h
    | brk => exact False.elim h
    | cont => exact False.elim h
theorem bindsN {s : Shared} (hb : Binds K fd ps []) (hk : K.In s.heap) (hl : us.length = ps.length) : BindsTo s fd ⟨us, []⟩ (ps.zip us) := by
  have := hb s us hk (by rw [List.append_nil]; exact hl)
  rwa [List.append_nil] at this
theorem run_fnG (F : FnG X.prog X.w X.K X.mg X.base k f fd ps sp) (hr : Room k X.A) (hgd : X.A.guards = some []) (hb : Binds X.K fd ps []) (I : Inv X pins σ H s) (r : Vals vs us) (h : sp vs H Q) :
    wpAny (model X.prog X.w) X.A (call
                            (.ref f) us) (EP X pins σ Q) X.xe s := by
  have hl : us.length = ps.length := by rw [← r.length]; exact F.len _ _ _ h
  refine wpAny_call (codeAny_mono (F.run X.A X.stack s H ⟨us, []⟩ us vs Q hr hgd I.env0 (bindsN hb I.kIn hl) r h) fun r s' hq => ?_)
  obtain ⟨u, rfl, q⟩ := crEnd (A := X.A) hq
  exact I.after q
theorem permL_vals {vs : List V} {us : List Value} (r : Vals vs us) (perm : List Nat) : Vals (permL perm vs) (permL perm us) := by
  induction perm with
  | nil => exact .nil
  | cons i t ih =>
    unfold permL at ih ⊢
    rw [List.filterMap_cons, List.filterMap_cons]
    cases e : vs[i]? with
    | none =>
      have : us[i]? = none := List.getElem?_eq_none (by rw [← r.length]; exact List.getElem?_eq_none_iff.mp e)
      rw [this]
      exact ih
    | some x =>
      obtain ⟨u, eu, ru⟩ := r.get e
      rw [eu]
      exact .cons ru ih
theorem run_fnGK {ks : List Str} {perm : List Nat} (F : FnG X.prog X.w X.K X.mg X.base k f fd ps sp) (hr : Room k X.A) (hgd : X.A.guards = some []) (hb : KwB fd ps ks perm) (hl : us.length = ks.length) (I : Inv X pins σ H s) (r : Vals vs us) (h : sp (permL perm vs) H Q) :
    wpAny (model X.prog X.w) X.A (call (.ref f) [] (ks.zip us)) (EP X pins σ Q) X.xe s := by
  refine wpAny_call (codeAny_mono (F.run X.A X.stack s H ⟨[], ks.zip us⟩ (permL perm us) (permL perm vs) Q hr hgd I.env0 (hb s us hl) (permL_vals r perm) h) fun r s' hq => ?_)
  obtain ⟨u, rfl, q⟩ := crEnd (A := X.A) hq
  exact I.after q
theorem make_guards {A : Around} {C : Addr} {us : List Value} {kw : List (Str × Value)} : (A.under (.builtin "type.__call__" ⟨.ref C :: us, kw⟩)).guards = A.guards := by
  have e : (Code.builtin "type.__call__" ⟨.ref C :: us, kw⟩).guards = [] := by
    first | rfl | simp [Code.guards, Code.isGuard, guardIds]
  unfold Around.under
  rw [e]
  cases A.guards <;> rfl
theorem run_makeG {C : Addr} (M : Mk X.K C f) (F : FnG X.prog X.w X.K X.mg X.base k f fd ps sp) (hr : Room (k + 1) X.A) (hgd : X.A.guards = some []) (hb : Binds X.K fd ps []) (I : Inv X pins σ H s) (r : Vals vs us)
    (h : ∀ x dx, H x = none → H dx = none → dx ≠ x → sp (.ref x :: vs) (upd (upd H dx (.own x)) x (.ins C dx [])) (fun v H2 => v = .non ∧ Q (.ref x) H2)) :
    wpAny (model X.prog X.w) X.A (call
                            (.ref C) us) (EP X pins σ Q) X.xe s := by
  have hq := h (s.heap.objs.size + 1) s.heap.objs.size (I.hok.fresh (Nat.le_succ _))
                          (I.hok.fresh (Nat.le_refl _)) (Nat.ne_of_lt (Nat.lt_succ_self _))
  have I2 := Inv.made
                          (C := C) I
  have r2 : Vals (V.ref (s.heap.objs.size + 1) :: vs)
                          (Value.ref (s.heap.objs.size + 1) :: us) := .cons rfl r
  have hl : (Value.ref (s.heap.objs.size + 1) :: us).length = ps.length := by rw [← r2.length]; exact F.len _ _ _ hq
  refine wpAny_call (make_map (f := f) I.kIn M.makes M.init (beq_iff_eq.mp M.fn) (codeAny_mono (F.run _ X.stack _ _ ⟨Value.ref (s.heap.objs.size + 1) :: us, []⟩ (Value.ref (s.heap.objs.size + 1) :: us) _ _ (hr.make C us []) (make_guards.trans hgd)
    (I2.env0.make C us []) (bindsN hb I2.kIn hl) r2 hq) fun r s' hq' => ?_))
  obtain ⟨u, rfl, q⟩ := crEnd (A := X.A) hq'
  obtain ⟨v, H', I3, rv, ev, q3⟩ := I2.after q
  subst ev
  exact ⟨rv, ⟨V.ref
                          (s.heap.objs.size + 1), H', I3, rfl, q3⟩⟩
theorem getpropG {a dx C p g : Addr} {fs : List (Str × V)} {n : Str} {b : Bool} {E' : Value → Shared → Prop} (I : Inv X pins σ H s) (ea : H a = some (.ins C dx fs)) (c : Cls X.K C) (hp : PropOf X.K C n p g)
    (F : FnG X.prog X.w X.K X.mg X.base k g fd ps sp) (hr : Room (k + 1) X.A) (hgd : X.A.guards = some []) (hb : Binds X.K fd ps []) (h : sp [.ref a] H Q) : wpAny (model X.prog X.w) X.A (getAttr (.ref a) n b) (EP X pins σ Q) E' s := by
  obtain
                          ⟨mA, O, _, _, _, _⟩ := ins_get I.hok ea
  obtain ⟨od, J, _⟩ := O.look
  obtain
                          ⟨rest, hrec⟩ := hp.rec_
  have I1 := I.tok (s.toks + 1)
  have hl : [Value.ref a].length = ps.length := by rw [← F.len _ _ _ h]; rfl
  have hc :
                          (PySem.W.clsIn X.K C).isSome = true := by
    obtain
                            ⟨cd, hc, _⟩ := PySem.W.any_some c.hd
    rw [hc]
    rfl
  refine PySem.W.get_bind I.kIn J (PySem.W.plainGet_of (c.get n)).1 (PySem.W.findObj_data hc hp.at_ hp.get hp.tak) (PySem.W.plainGet_of (c.get n)).2 (wpAny_call (PySem.W.prop_get (s := { s with toks := s.toks + 1 }) I.kIn hrec ?_))
  refine codeAny_mono (F.run X.A.in1 X.stack { s with toks := s.toks + 1 } H ⟨[.ref a], []⟩ [.ref a] [.ref a] Q hr.in1 hgd I1.env0.in1 (bindsN hb I1.kIn hl) (.cons rfl .nil) h) fun r s' hq => ?_
  obtain ⟨u, rfl, q⟩ := crEnd (A := X.A) hq
  obtain ⟨v, H', I3, rv, q3⟩ := I1.after q
  show wpAny _ _
                          (handedOut u) _ _ _
  rw [PySem.W.handedOut_of
                          (handed_of rv)]
  exact wpAny_pure
                          ⟨v, H', I3, rv, q3⟩
end
section
variable {T : Stc} {sc : Scope} {a b c : Expr} {ca cb cc : CE} {pos : Pos}
theorem callF_e {es : List Expr} {ces : List CE} {x : Str} {f : Nat} {p : Pos} (hx : T.fns.lookup x = some f) (hg : isGl sc x = true) (hdb : (x == ("__debug__" : Str)) = false) (hs : noStar (a :: es) = true) (ha : SA T sc (a :: es) ces) :
    SE T sc (.Call (.Name x p) (a :: es) [] pos) (.callF f ces) := fun Z X ok => by
  refine
                          ⟨fun pins s σ H Q I h => ?_⟩
  obtain ⟨se, h0, R, v, h1, S, b0, D, e, k⟩ := h
  simp only [evE] at e
  obtain ⟨vs, h2, e1, e⟩ := Res.bind_eq e
  simp only [noStar, List.all_cons, Bool.and_eq_true, Bool.not_eq_true'] at hs
  obtain ⟨kk, fa, fd, ps, F, hr, hm, hk, hb, _⟩ := ok.fns x f hx
  refine wpAny_Call_Name_kw (ld_glob I (gl_of ok hg) hm ?_ hdb)
  refine PySem.W.callWith_K (h₀ := X.base) I.ok.mod.kin hk (thn ((ha Z X ok).run pos pins s σ H _ I (more S b0 D e1 fun R' H' xs X' S' b' D' dx => ?_)) fun us s1 ⟨vs, H1, I1, r, q⟩ => ⟨I1.kIn, run_fnG F hr ok.gd hb I1 r q⟩) (star1 hs.1) (any_no hs.2)
  exact ⟨R', h2, vs, v, h1, S', b', dx, e, fun R2 H2 x2 X2 S2 d2 => k R2 H2 x2 (X'.trans X2) S2 (D'.mono X2) d2⟩
theorem callF0_e {x : Str} {f : Nat} {p : Pos} (hx : T.fns.lookup x = some f) (hg : isGl sc x = true) (hdb : (x == ("__debug__" : Str)) = false) : SE T sc (.Call (.Name x p) [] [] pos) (.callF f []) := fun Z X ok => by
  refine
                          ⟨fun pins s σ H Q I h => ?_⟩
  obtain ⟨se, h0, R, v, h1, S, b0, D, e, k⟩ := h
  simp only [evE, evEs, Res.bind_ok] at e
  obtain ⟨kk, fa, fd, ps, F, hr, hm, hk, hb, _⟩ := ok.fns x f hx
  refine wpAny_Call_Name_kw (ld_glob I (gl_of ok hg) hm ?_ hdb)
  refine PySem.W.callWith_K0 I.kIn hk (run_fnG (us := []) (vs := []) F hr ok.gd hb I .nil ?_)
  exact ⟨R, h0, [], v, h1, S, b0, rfl, e, fun R2 H2 x2 X2 S2 d2 => k R2 H2 x2 X2 S2 (D.mono X2) d2⟩
/-! by names alone -/
def SK (T : Stc) (sc : Scope) (kws : List Keyword) (cs : List CE) : Prop := ∀ (Z : Sx) (X : Cx), XOk T Z X sc → PK X kws (trA Z cs)
theorem nil_k : SK T sc [] [] := fun Z X ok => ⟨fun ps pins s σ H Q I h => by
  obtain ⟨se, h0, R, v, h1, S, bb, D, e, k⟩ := h
  cases e
  exact pk_nil.run ps pins s σ H Q I (k R H _ (Ext.refl R H) S D rfl)⟩
theorem cons_k {kws : List Keyword} {cs : List CE} {nm : Option Str} {kp : Pos} (hc : starC ca = false) (ha : SE T sc a ca) (hr : SK T sc kws cs) : SK T sc (⟨nm, a, kp⟩ :: kws) (ca :: cs) := fun Z X ok => ⟨fun ps pins s σ H Q I h => by
  obtain ⟨se, h0, R, v, h1, S, bb, D, e, k⟩ := h
  rw [evEs_cons hc] at e
  obtain ⟨x, h2, e1, e⟩ := Res.bind_eq e
  obtain ⟨xs, h3, e2, e⟩ := Res.bind_eq e
  cases e
  refine (pk_cons (ha Z X ok) (hr Z X ok)).run ps pins s σ H Q I ?_
  exact one S bb D e1 fun R1 H1 vx X1 S1 b1 D1 dx => ⟨se, h2, R1, xs, _, S1, b1, D1, e2, fun R2 H2 ys X2 S2 D2 d2 => k R2 H2 (vx :: ys) (X1.trans X2) S2 D2 ⟨vx, ys, rfl, dx.mono X2, d2⟩⟩⟩
/-- the names of keywords -/
def kwNm : List Keyword → Option (List Str)
  | [] => some []
  | ⟨some nm, _, _⟩ :: r => (kwNm r).map (nm :: ·)
  | _ :: _ => none
theorem kwNm_ok {env : PySem.Env} {pos : Pos} : ∀ {kws : List Keyword} {ks : List Str}, kwNm kws = some ks → (backToKw pos (keywordEach kws env)).all (·.1.isSome) = true ∧ (backToKw pos (keywordEach kws env)).filterMap (·.1) = ks ∧ (backToKw pos (keywordEach kws env)).any (·.1.isNone) = false
  | [], ks, h => by cases h; exact ⟨rfl, rfl, rfl⟩
  | ⟨none, e, kp⟩ :: r, ks, h => nomatch h
  | ⟨some nm, e, kp⟩ :: r, ks, h => by
    obtain ⟨l, h1, rfl⟩ := Option.map_eq_some_iff.mp h
    obtain ⟨q1, q2, q3⟩ := kwNm_ok (env := env) (pos := pos) h1
    refine ⟨?_, ?_, ?_⟩
    · show (true && (backToKw pos (keywordEach r env)).all (·.1.isSome)) = true
      rw [q1]; rfl
    · show nm :: (backToKw pos (keywordEach r env)).filterMap (·.1) = nm :: l
      rw [q2]
    · show (false || (backToKw pos (keywordEach r env)).any (·.1.isNone)) = false
      rw [q3]; rfl
theorem permL_den {K : PySem.W.Frag} {C : Nat → Addr} {R : Rg} {H : Hp} {vs : List Val} {xs : List V} (d : DenL K C R H vs xs) (perm : List Nat) : DenL K C R H (permL perm vs) (permL perm xs) := by
  induction perm with
  | nil => exact rfl
  | cons i t ih =>
    unfold permL at ih ⊢
    rw [List.filterMap_cons, List.filterMap_cons]
    cases e : vs[i]? with
    | none =>
      have : xs[i]? = none := List.getElem?_eq_none (by rw [← d.length]; exact List.getElem?_eq_none_iff.mp e)
      rw [this]
      exact ih
    | some v =>
      obtain ⟨x, ex, dx⟩ := d.get e
      rw [ex]
      exact ⟨x, _, rfl, dx, ih⟩
theorem evEs_len {g : G} : ∀ {cs : List CE} {s : Env} {h h' : Hh} {vs : List Val}, (∀ c ∈ cs, starC c = false) → evEs g cs s h = .ok vs h' → vs.length = cs.length
  | [], _, _, _, _, _, e => by simp only [evEs] at e; cases e; rfl
  | c :: r, s, h, h', vs, hc, e => by
    rw [evEs_cons (hc c List.mem_cons_self)] at e
    obtain ⟨x, h2, e1, e⟩ := Res.bind_eq e
    obtain ⟨xs, h3, e2, e⟩ := Res.bind_eq e
    cases e
    rw [List.length_cons, List.length_cons, evEs_len (fun c m => hc c (List.mem_cons_of_mem _ m)) e2]
theorem callK_e {kws : List Keyword} {ces : List CE} {x : Str} {f : Nat} {ks : List Str} {perm : List Nat} {p : Pos} (hx : T.fns.lookup x = some f) (hg : isGl sc x = true) (hdb : (x == ("__debug__" : Str)) = false) (hks : kwNm kws = some ks) (hm : (f, ks, perm) ∈ T.kws) (hl : ces.length = ks.length) (hc : ∀ c ∈ ces, starC c = false) (ha : SK T sc kws ces) :
    SE T sc (.Call (.Name x p) [] kws pos) (.callK f perm ces) := fun Z X ok => by
  refine
                          ⟨fun pins s σ H Q I h => ?_⟩
  obtain ⟨se, h0, R, v, h1, S, b0, D, e, k⟩ := h
  simp only [evE] at e
  obtain ⟨vs, h2, e1, e⟩ := Res.bind_eq e
  obtain ⟨kk, fa, fd, ps, F, hr, hmm, hk, hb, hkb⟩ := ok.fns x f hx
  obtain ⟨q1, q2, q3⟩ := kwNm_ok (env := X.env) (pos := pos) hks
  have hpl : ((backTo pos (starEach [] X.env)).any (·.1) || (backToKw pos (keywordEach kws X.env)).any (·.1.isNone)) = false := by
    rw [q3]; rfl
  refine wpAny_Call_Name_kw (ld_glob I (gl_of ok hg) hmm ?_ hdb)
  refine PySem.W.callWith_KW0 (h₀ := X.base) I.ok.mod.kin hk q1 (thn ((ha Z X ok).run pos pins s σ H _ I (more S b0 D e1 (W := fun xs H' => xs.length = ks.length ∧ spZ Z f (permL perm xs) H' Q) fun R' H' xs X' S' b' D' dx => ?_)) fun us s1 ⟨vs, H1, I1, r, q⟩ => ⟨I1.kIn, ?_⟩) hpl
  · refine ⟨by rw [← dx.length, evEs_len hc e1, hl], R', h2, permL perm vs, v, h1, S', b', permL_den dx perm, e, fun R2 H2 x2 X2 S2 d2 => k R2 H2 x2 (X'.trans X2) S2 (D'.mono X2) d2⟩
  · rw [q2]
    exact run_fnGK F hr ok.gd (hkb ks perm hm) (by rw [← r.length]; exact q.1) I1 r q.2
theorem make_e {es : List Expr} {ces : List CE} {x : Str} {cl : Nat} {p : Pos} (hx : T.cls.lookup x = some cl) (hmk : cl ∈ T.mks) (hg : isGl sc x = true) (hdb : (x == ("__debug__" : Str)) = false) (hs : noStar (a :: es) = true) (ha : SA T sc (a :: es) ces) :
    SE T sc (.Call (.Name x p) (a :: es) [] pos) (.make cl ces) := fun Z X ok => by
  refine
                          ⟨fun pins s σ H Q I h => ?_⟩
  obtain ⟨se, h0, R, v, h1, S, b0, D, e, k⟩ := h
  simp only [evE] at e
  obtain ⟨vs, h2, e1, e⟩ := Res.bind_eq e
  simp only [noStar, List.all_cons, Bool.and_eq_true, Bool.not_eq_true'] at hs
  obtain ⟨hm, _, _, _, hmm⟩ := ok.mks x cl hx
  obtain ⟨kk, fa, fd, ps, sp, M, F, hr, hb, hsp⟩ := hmm hmk
  refine wpAny_Call_Name_kw (ld_glob I (gl_of ok hg) hm ?_ hdb)
  refine PySem.W.callWith_K (h₀ := X.base) I.ok.mod.kin M.kp (thn ((ha Z X ok).run pos pins s σ H _ I (more S b0 D e1 fun R' H' xs X' S' b' D' dx => ?_)) fun us s1 ⟨vs, H1, I1, r, q⟩ => ⟨I1.kIn, run_makeG M F hr ok.gd hb I1 r (hsp vs H1 Q q)⟩) (star1 hs.1) (any_no hs.2)
  exact ⟨R', h2, vs, v, h1, S', b', dx, e, fun R2 H2 x2 X2 S2 d2 => k R2 H2 x2 (X'.trans X2) S2 (D'.mono X2) d2⟩
/-! ### fields -/
theorem look_map (f : Str) : ∀ gs : List (Str × V), valV (gs.map fun p => (Sum.inr p.1, p.2)) (Sum.inr f : Key) = gs.lookup f
  | [] => rfl
  | (g, x) :: r => by
    by_cases h : g = f
    · subst h
      simp [valV, List.find?_cons, List.lookup_cons]
    · have h2 : (f == g) = false := beq_eq_false_iff_ne.mpr fun z => h z.symm
      have h3 : ¬ (Sum.inr g : Key) = Sum.inr f := fun z => h (Sum.inr.inj z)
      rw [List.lookup_cons, h2]
      have := look_map f r
      simpa [valV, List.find?_cons, h3] using this
theorem fld_den {Z : Sx} {R : Rg} {h : Hh} {H : Hp} {v : Val} {x : V} {cl : Nat} {fs : List (Key × Val)} (S : SimZ Z R h H) (e : fldV h v = some (cl, fs)) (d : DenZ Z R H v x) :
    ∃ (p dx : Addr) (gs : List (Str × V)), x = .ref p ∧ H p = some (.ins (Z.C cl) dx gs) ∧ DenK Z.K Z.C R H fs (gs.map fun p => (Sum.inr p.1, p.2)) := by
  unfold fldV at e
  split at e
  · cases e
    obtain ⟨p, dx, gs, e1, e2, e3, e4⟩ := d
    exact ⟨p, dx, gs, e1, e2, e4⟩
  · rename_i n
    split at e
    · rename_i cl' fs' hn
      cases e
      obtain ⟨p, r, rfl⟩ := id d
      have o := S.obj n _ p hn r
      cases ha : H p with
      | none => rw [ha] at o; exact o.elim
      | some u =>
        rw [ha] at o
        cases u <;> first | exact o.elim | skip
        obtain ⟨e1, e2⟩ := o
        subst e1
        exact ⟨p, _, _, rfl, ha, e2⟩
    · cases e
  · cases e
theorem fld_e {f : Str} (hf : f ∈ T.flds) (hb : plainBase a = true) (ha : SE T sc a ca) : SE T sc (.Attribute a f pos) (.fld ca f) := fun Z X ok => by
  refine
                          ⟨fun pins s σ H Q I h => ?_⟩
  obtain ⟨se, h0, R, v, h1, S, b0, D, e, k⟩ := h
  simp only [evE] at e
  obtain ⟨w, h2, e1, e⟩ := Res.bind_eq e
  split at e
  case h_2 => cases e
  rename_i cl fs hfl
  split at e
  case isFalse => cases e
  rename_i hcl
  refine attr_of (base_ok hb) (thn ((ha Z X ok).run pins s σ H _ I (one (W := fun x H1 => ∃ R', Ext R R' H H1 ∧ Sim Z.K Z.C Z.bs Z.g.base R' h2 H1 ∧ Z.g.base ≤ h2.length ∧ DenS Z.K Z.C R' H1 se σ ∧ Den Z.K Z.C R' H1 w x) S b0 D e1 fun R' H' x X' S' b' D' dx => ⟨R', X', S', b', D', dx⟩)) fun u s1 ⟨x, H1, I1, r1, R', X', S', b', D', dx⟩ => ?_)
  obtain ⟨p, dd, gs, rfl, hp, dk⟩ := fld_den S' hfl dx
  obtain rfl : u = Value.ref p := r1
  have ck := ok.cls cl hcl
  split at e
  · rename_i pr hpr
    obtain ⟨kk, pa, fa, fd, ps, PO, F, hr, hbb⟩ := ok.prs cl f pr hcl hpr
    refine getpropG I1 hp ck.cl PO F hr ok.gd hbb ?_
    exact ⟨R', h2, [w], v, h1, S', b', ⟨_, _, rfl, dx, rfl⟩, e, fun R2 H2 x2 X2 S2 d2 => k R2 H2 x2 (X'.trans X2) S2 (D'.mono X2) d2⟩
  · rename_i hpr
    split at e
    · cases e
    · rename_i hme
      obtain ⟨e3, rfl⟩ := opt_eq e
      obtain ⟨y, f1, f2⟩ := (dk.find (Sum.inr f)).1 v e3
      rw [look_map] at f1
      refine getattr_ok I1 hp ck.cl (ok.noat cl f hcl hf (by rw [hpr]; rfl) (by simpa using hme)) f1 fun u' s2 I2 ru => ⟨y, H1, I2, ru, ?_⟩
      exact k R' H1 y X' S' D' f2
/-! ### methods of lists and strs -/
theorem me_slot (m : Me) : Slot (meTy m) (meNm m) (meId m) := by
  cases m
  · exact PySem.F.slot_str_join
  · exact PySem.F.slot_str_split
  · exact PySem.F.slot_list_count
  · exact PySem.F.slot_list_index
  · exact PySem.F.slot_list_append
  · exact PySem.F.slot_list_extend
theorem me_ty (m : Me) : typeOf (.builtin (meId m)) = pure (.type "method_descriptor") := by
  cases m
  · exact PySem.F.type_str_join
  · exact PySem.F.type_str_split
  · exact PySem.F.type_list_count
  · exact PySem.F.type_list_index
  · exact PySem.F.type_list_append
  · exact PySem.F.type_list_extend
theorem me_plain (m : Me) : PlainAttrs (meTy m) := by
  cases m <;> first | exact PySem.F.plainAttrs_str | exact PySem.F.plainAttrs_list
theorem meth_e {m : Me} {es : List Expr} {ces : List CE} {apos : Pos} (hb : plainBase a = true) (hs : noStar (b :: es) = true) (hl : (b :: es).length < 30) (hline : (apos.endLine == pos.line) = true) (ha : SE T sc a ca) (hes : SA T sc (b :: es) ces) :
    SE T sc (.Call (.Attribute a (meNm m) apos) (b :: es) [] pos) (.meth m ca ces) := fun Z X ok => by
  refine
                          ⟨fun pins s σ H Q I h => ?_⟩
  obtain ⟨se, h0, R, v, h1, S, b0, D, e, k⟩ := h
  simp only [evE] at e
  obtain ⟨w, h2, e1, e⟩ := Res.bind_eq e
  split at e
  case isFalse => cases e
  rename_i hty
  obtain ⟨vs, h3, e2, e⟩ := Res.bind_eq e
  have few := few_ok (pos := pos) (env := X.env) hs hl
  simp only [noStar, List.all_cons, Bool.and_eq_true, Bool.not_eq_true'] at hs
  refine (pe_bm (me_plain m) (me_slot m) (me_ty m) MtR.one (ha Z X ok) (hes Z X ok) (base_ok hb) few hline (star1 hs.1) (any_no hs.2)).run pins _ σ H Q I ?_
  refine one S b0 D e1 fun R' H' x X' S' b' D' dx => ?_
  refine ⟨tyOk_ok S' hty dx, more S' b' D' e2 fun R2 H2 xs X2 S2 b2 D2 d2 => ?_⟩
  obtain ⟨rr, o, q⟩ := meM_ok ok.K ok.room S2 e (dx.mono X2) d2
  exact ⟨rr, o, q Q fun H3 y X3 S3 d3 => k R2 H3 y ((X'.trans X2).trans X3) S3 (D2.mono X3) d3⟩
/-- a text's parts, in a list that is changed later -/
theorem splitM_e {apos : Pos} (hb : plainBase a = true) (hs : starred b = false) (hc : starC cb = false) (hline : (apos.endLine == pos.line) = true) (ha : SE T sc a ca) (hes : SE T sc b cb) :
    SE T sc (.Call (.Attribute a "split" apos) [b] [] pos) (.splitM ca cb) := fun Z X ok => by
  refine
                          ⟨fun pins s σ H Q I h => ?_⟩
  obtain ⟨se, h0, R, v, h1, S, b0, D, e, k⟩ := h
  simp only [evE] at e
  obtain ⟨w, h2, e1, e⟩ := Res.bind_eq e
  split at e
  case h_2 => cases e
  rename_i z
  obtain ⟨y, h3, e2, e⟩ := Res.bind_eq e
  split at e
  case h_2 => cases e
  rename_i t
  split at e
  case isFalse => cases e
  rename_i hl
  have few := few_ok (pos := pos) (env := X.env) (es := [b]) (by simp [noStar, hs]) (by simp)
  refine (pe_bm (me_plain .split) (me_slot .split) (me_ty .split) mt_split (ha Z X ok) (cons_a hs hc hes nil_a Z X ok) (base_ok hb) few hline (star1 hs) rfl).run pins _ σ H Q I ?_
  have e3 : evEs Z.g [cb] se h2 = .ok [.str t] h3 := by
    rw [evEs_cons hc, e2]
    rfl
  refine one S b0 D e1 fun R' H' x X' S' b' D' dx => ?_
  rw [show x = .str z from dx]
  refine ⟨rfl, more S' b' D' e3 fun R2 H2 xs X2 S2 b2 D2 d2 => ?_⟩
  obtain ⟨x2, ys, rfl, d3, d4⟩ := d2
  rw [show ys = [] from d4, show x2 = .str t from d3]
  refine ⟨_, _, rfl, rfl, hl.1, by rw [sz]; exact hl.2, fun p n => ?_⟩
  exact alloc_ok S2 b2 D2 e (by rw [List.length_map, sz]; exact Nat.le_trans (PyProof.Rows.split_le _ _) hl.2) (DenL.ofStrs _) n fun R3 H3 y X3 S3 D3 d3 => k R3 H3 y ((X'.trans X2).trans X3) S3 D3 d3
/-! ### places, slices -/
theorem idx_e (hn : notSlice b = true) (ha : SE T sc a ca) (hb : SE T sc b cb) : SE T sc (.Subscript a b pos) (.idx ca cb) := fun Z X ok => by
  refine
                          ⟨fun pins s σ H Q I h => ?_⟩
  obtain ⟨se, h0, R, v, h1, S, b0, D, e, k⟩ := h
  simp only [evE] at e
  obtain ⟨x, h2, e1, e⟩ := Res.bind_eq e
  obtain ⟨y, h3, e2, e⟩ := Res.bind_eq e
  obtain ⟨e3, rfl⟩ := opt_eq e
  refine (pe_ix IxR.one (ha Z X ok) (hb Z X ok) (plainIx_ok hn)).run pins _ σ H Q I ?_
  exact two S b0 D e1 e2 fun R' H' vx vy X' S' b' D' dx dy =>
    let ⟨rr, o, q⟩ := ix_ok ok.K ok.room S' e3 dx dy
    ⟨rr, o, q Q fun H2 x2 X2 S2 d2 => k R' H2 x2 (X'.trans X2) S2 (D'.mono X2) d2⟩
/-- a part of a slice -/
def trO (Z : Sx) (c : Option CE) : TO := fun σ H Q => ∃ s h R o h', Sim Z.K Z.C Z.bs Z.g.base R h H ∧ Z.g.base ≤ h.length ∧ DenS Z.K Z.C R H s σ ∧ evO Z.g c s h = .ok o h' ∧
  ∀ R' H', Ext R R' H H' → Sim Z.K Z.C Z.bs Z.g.base R' h' H' → DenS Z.K Z.C R' H' s σ → Q o H'
def SO (T : Stc) (sc : Scope) (e : Option Expr) (c : Option CE) : Prop := ∀ (Z : Sx) (X : Cx), XOk T Z X sc → PO X e (trO Z c)
theorem none_o : SO T sc none none := fun Z X ok => ⟨fun pins s σ H Q I h => by
  obtain ⟨se, h0, R, v, h1, S, b0, D, e, k⟩ := h
  cases e
  exact po_none.run pins _ σ H Q I (k R H (Ext.refl _ _) S D)⟩
theorem some_o (ha : SE T sc a ca) : SO T sc (some a) (some ca) := fun Z X ok => ⟨fun pins s σ H Q I h => by
  obtain ⟨se, h0, R, v, h1, S, b0, D, e, k⟩ := h
  simp only [evO] at e
  obtain ⟨x, h2, e1, e⟩ := Res.bind_eq e
  split at e <;> cases e
  exact (po_some (ha Z X ok)).run pins _ σ H Q I (one S b0 D e1 fun R' H' vx X' S' b' D' dx => ⟨_, dx, k R' H' X' S' D'⟩)⟩
theorem slice_e {lo hi : Option Expr} {cl ch : Option CE} {p2 : Pos} (ha : SE T sc a ca) (hl : SO T sc lo cl) (hh : SO T sc hi ch) : SE T sc (.Subscript a (.Slice lo hi none p2) pos) (.slice ca cl ch) := fun Z X ok => by
  refine
                          ⟨fun pins s σ H Q I h => ?_⟩
  obtain ⟨se, h0, R, v, h1, S, b0, D, e, k⟩ := h
  simp only [evE] at e
  obtain ⟨x, h2, e1, e⟩ := Res.bind_eq e
  obtain ⟨l, h3, e2, e⟩ := Res.bind_eq e
  obtain ⟨u, h4, e3, e⟩ := Res.bind_eq e
  obtain ⟨e4, rfl⟩ := opt_eq e
  refine (pe_slice SlR.one (ha Z X ok) (hl Z X ok) (hh Z X ok)).run pins _ σ H Q I ?_
  refine one S b0 D e1 fun R' H' vx X' S' b' D' dx => ⟨se, h2, R', l, h3, S', b', D', e2, fun R2 H2 X2 S2 D2 => ?_⟩
  have b2 := base_of X2 S' S2 b'
  refine ⟨se, h3, R2, u, _, S2, b2, D2, e3, fun R3 H3 X3 S3 D3 => ?_⟩
  obtain ⟨rr, o, q⟩ := sl_ok ok.K S3 e4 ((dx.mono X2).mono X3)
  exact ⟨rr, o, q Q fun H4 x4 X4 S4 d4 => k R3 H4 x4 (((X'.trans X2).trans X3).trans X4) S4 (D3.mono X4) d4⟩
end
end Co
end

section
set_option linter.all false
set_option maxRecDepth 100000
set_option autoImplicit false
/-! Co10: isinstance, reversed slices, the empty dict. -/
namespace Co
open PySem PySem.Spec
                        PyProof.Rows L2
/-- a built-in type's name -/
def tyOf : IsT → Option String
  | .int => some "int"
  | .bool => some "bool"
  | .str => some "str"
  | .tuple => some "tuple"
  | .list => some "list"
  | .dict => some "dict"
  | .cls _ => none
def subT (t : String) (q : IsT) : Bool := match q with
  | .int => t == "int" || t == "bool"
  | .bool => t == "bool"
  | .str => t == "str"
  | .tuple => t == "tuple"
  | .list => t == "list"
  | .dict => t == "dict"
  | .cls _ => false
theorem kb_all : (tyNames.all fun t => [IsT.int, .bool, .str, .tuple, .list, .dict].all fun q => match tyOf q with | some nm => decide (kitB t nm = some (subT t q)) | none => true) = true := by decide +kernel
theorem kb {t : String} (ht : t ∈ tyNames) {q : IsT} {nm : String} (hn : tyOf q = some nm) : kitB t nm = some (subT t q) := by
  have h := List.all_eq_true.mp kb_all t ht
  have h2 := List.all_eq_true.mp h q (by cases q <;> simp [tyOf] at hn ⊢)
  rw [hn] at h2
  simpa using h2
section
variable {T : Stc} {sc : Scope} {a b c : Expr} {ca cb cc : CE} {pos : Pos}
/-- the type of a value: a built-in, or an own class -/
theorem tyx {Z : Sx} {X : Cx} {R : Rg} {h : Hh} {H : Hp} {v : Val} {x : V} (ok : XOk T Z X sc) (S : SimZ Z R h H) (hk : kindOk Z.g.ncl h v = true) (d : DenZ Z R H v x) :
    (∃ t ∈ tyNames, TyX X.K H x (.type t) ∧ ∀ q : IsT, isIns h q v = subT t q) ∨
    ∃ cl, cl < Z.g.ncl ∧ TyX X.K H x (.ref (Z.C cl)) ∧ ∀ q, isIns h q v = (match q with | .cls d => decide (cl = d) | _ => false) := by
  have hK := ok.K
  have ins : ∀ {cl : Nat} {p dx : Addr} {gs : List (Str × V)}, cl < Z.g.ncl → H p = some (.ins (Z.C cl) dx gs) → TyX X.K H (.ref p) (.ref (Z.C cl)) := fun hc hp =>
    let k := ok.cls _ hc
    .base (.ins hp k.cl k.ha k.hn k.htk k.hm)
  cases v with
  | non => rw [show x = _ from d]; exact .inl ⟨"NoneType", by simp [tyNames], .base .non, fun q => by cases q <;> rfl⟩
  | bl i => rw [show x = _ from d]; exact .inl ⟨"bool", by simp [tyNames], .base (.bl i), fun q => by cases q <;> rfl⟩
  | int i => rw [show x = _ from d]; exact .inl ⟨"int", by simp [tyNames], .base (.int i), fun q => by cases q <;> rfl⟩
  | str i => rw [show x = _ from d]; exact .inl ⟨"str", by simp [tyNames], .base (.str i), fun q => by cases q <;> rfl⟩
  | tup vs =>
    obtain ⟨p, xs, rfl, t, dl⟩ := d
    refine .inl ⟨"tuple", by simp [tyNames], ?_, fun q => by cases q <;> rfl⟩
    rcases t.2 with ⟨(t | ⟨u, t⟩), _⟩ | ⟨o, its, n, h1, h2, _⟩
    · exact .base (.tup t)
    · exact .fTuple t
    · exact .kTuple (by rw [← hK]; exact h1) h2
  | lst vs =>
    obtain ⟨p, xs, rfl, t, dl⟩ := d
    exact .inl ⟨"list", by simp [tyNames], .base (.lst t.2.1), fun q => by cases q <;> rfl⟩
  | ro vs =>
    obtain ⟨p, xs, rfl, t, dl⟩ := d
    refine .inl ⟨"list", by simp [tyNames], ?_, fun q => by cases q <;> rfl⟩
    rcases t.2 with ⟨(t | ⟨u, t⟩), _⟩ | ⟨o, its, n, h1, h2, _⟩
    · exact .base (.lst t)
    · exact .base (.frz t)
    · exact .kList (by rw [← hK]; exact h1) h2
  | dct vs =>
    obtain ⟨p, xs, rfl, t, n, dl⟩ := d
    exact .inl ⟨"dict", by simp [tyNames], .base (.dK t), fun q => by cases q <;> rfl⟩
  | ins cl fs =>
    obtain ⟨p, dx, gs, rfl, t, n, dl⟩ := d
    have hc : cl < Z.g.ncl := by simpa [kindOk] using hk
    exact .inr ⟨cl, hc, ins hc t, fun q => by cases q <;> rfl⟩
  | ref n =>
    obtain ⟨p, r, rfl⟩ := id d
    obtain ⟨o, ho, od⟩ := S.there r
    cases hp : H p with
    | none => rw [hp] at od; cases o <;> exact od.elim
    | some u =>
      rw [hp] at od
      cases o with
      | lst vs =>
        cases u <;> first | exact od.elim | skip
        refine .inl ⟨"list", by simp [tyNames], .base (.lst hp), fun q => ?_⟩
        cases q <;> simp [isIns, ho, subT]
      | ins cl fs =>
        cases u <;> first | exact od.elim | skip
        obtain ⟨e1, e2⟩ := od
        subst e1
        have hc : cl < Z.g.ncl := by simpa [kindOk, ho] using hk
        refine .inr ⟨cl, hc, ins hc hp, fun q => ?_⟩
        cases q <;> simp [isIns, ho]
theorem boot_isinstance : bootBuiltins "isinstance" = some
                        (.builtin "isinstance") := by decide +kernel
theorem isB_e {q : IsT} {nm : String} {x : Str} {p p2 : Pos} (hn : tyOf q = some nm) (hx : bootBuiltins x = some (.type nm)) (hg : isGl sc "isinstance" = true) (hm : ("isinstance" : Str) ∈ T.blt) (hg2 : isGl sc x = true) (hm2 : x ∈ T.blt) (hxn : x ≠ "__name__") (hdb : (x == ("__debug__" : Str)) = false)
    (hs : starred a = false) (ha : SE T sc a ca) : SE T sc (.Call (.Name "isinstance" p) [a, .Name x p2] [] pos) (.isI q ca) := fun Z X ok => by
  refine
                          ⟨fun pins s σ H Q I h => ?_⟩
  obtain ⟨se, h0, R, v, h1, S, b0, D, e, k⟩ := h
  simp only [evE] at e
  obtain ⟨w, h2, e1, e⟩ := Res.bind_eq e
  split at e <;> cases e
  rename_i hk
  have pa : PA X [a, .Name x p2] (tCons (trE Z ca) (tCons (tC (.ty nm)) tNil)) :=
    pa_cons (ha Z X ok) (pa_cons (pe_bltn (gl_of ok hg2) (ok.blt _ hm2) hx rfl hxn hdb) pa_nil rfl) (star1 hs)
  refine (pe_callB call_isi (gl_of ok hg) (ok.blt _ hm) boot_isinstance pa (by decide) (by decide) (star1 hs) rfl).run pins _ σ H Q I ?_
  refine one S b0 D e1 fun R' H' y X' S' b' D' dy => ?_
  rcases tyx ok S' hk dy with ⟨t, ht, ty, hi⟩ | ⟨cl, hc, ty, hi⟩
  · exact ⟨y, _, _, _, _, rfl, .ty nm, ty, (kit_ty (kb ht hn)).trans (by rw [hi]), k R' H' _ X' S' D' rfl⟩
  · refine ⟨y, _, _, _, false, rfl, .ty nm, ty, ok.isb cl hc nm ?_, ?_⟩
    · cases q <;> simp [tyOf] at hn <;> subst hn <;> simp [tyNames]
    · refine k R' H' _ X' S' D' ?_
      rw [hi]
      cases q <;> first | rfl | cases hn
theorem isC_e {cl : Nat} {x : Str} {p p2 : Pos} (hx : T.cls.lookup x = some cl) (hg : isGl sc "isinstance" = true) (hm : ("isinstance" : Str) ∈ T.blt) (hg2 : isGl sc x = true) (hdb : (x == ("__debug__" : Str)) = false)
    (hs : starred a = false) (ha : SE T sc a ca) : SE T sc (.Call (.Name "isinstance" p) [a, .Name x p2] [] pos) (.isI (.cls cl) ca) := fun Z X ok => by
  refine
                          ⟨fun pins s σ H Q I h => ?_⟩
  obtain ⟨se, h0, R, v, h1, S, b0, D, e, k⟩ := h
  simp only [evE] at e
  obtain ⟨w, h2, e1, e⟩ := Res.bind_eq e
  split at e <;> cases e
  rename_i hk
  obtain ⟨hmg, hcl, k1, k2, _⟩ := ok.mks x cl hx
  have pa : PA X [a, .Name x p2] (tCons (trE Z ca) (tCons (tC (.ref (Z.C cl))) tNil)) :=
    pa_cons (ha Z X ok) (pa_cons (pe_glob (gl_of ok hg2) hmg rfl hdb) pa_nil rfl) (star1 hs)
  refine (pe_callB call_isi (gl_of ok hg) (ok.blt _ hm) boot_isinstance pa (by decide) (by decide) (star1 hs) rfl).run pins _ σ H Q I ?_
  refine one S b0 D e1 fun R' H' y X' S' b' D' dy => ?_
  rcases tyx ok S' hk dy with ⟨t, ht, ty, hi⟩ | ⟨d, hc, ty, hi⟩
  · exact ⟨y, _, _, _, false, rfl, .own _, ty, k1 t ht, k R' H' _ X' S' D' (by rw [hi]; rfl)⟩
  · refine ⟨y, _, _, _, _, rfl, .own _, ty, k2 d hc, k R' H' _ X' S' D' ?_⟩
    rw [hi]
    rfl
/-- what stands at t[::-1] -/
theorem back_range (xs : Array Value) : ((List.range xs.size).filterMap fun (k : Nat) => xs[((xs.size : Int) - 1 + (k : Int) * -1).toNat]?).toArray = xs.toList.reverse.toArray := by
  congr 1
  have e : ∀ k ∈ List.range xs.size, xs[((xs.size : Int) - 1 + (k : Int) * -1).toNat]? = some (xs.toList.reverse.getD k .none) := fun k mk => by
    have lk := List.mem_range.mp mk
    rw [show ((xs.size : Int) - 1 + (k : Int) * -1).toNat = xs.size - 1 - k from by omega]
    rw [Array.getElem?_eq_getElem (by omega), List.getD_eq_getElem?_getD, List.getElem?_reverse (by rw [Array.length_toList]; exact lk), Array.length_toList, List.getElem?_eq_getElem (by rw [Array.length_toList]; omega)]
    rfl
  have g : ∀ (l : List Nat), (∀ k ∈ l, xs[((xs.size : Int) - 1 + (k : Int) * -1).toNat]? = some (xs.toList.reverse.getD k .none)) → (l.filterMap fun (k : Nat) => xs[((xs.size : Int) - 1 + (k : Int) * -1).toNat]?) = l.map fun k => xs.toList.reverse.getD k .none := fun l => by
    induction l with
    | nil => intro _; rfl
    | cons k l ih =>
      intro h
      rw [List.filterMap_cons, h k List.mem_cons_self, ih fun j mj => h j (List.mem_cons_of_mem _ mj)]
      rfl
  rw [g _ e]
  refine List.ext_getElem
                          (by simp) fun i h1 h2 => ?_
  rw [List.getElem_map, List.getElem_range,
                          List.getD_eq_getElem?_getD, List.getElem?_eq_getElem h2]
  rfl
section
variable {prog : Program}
                        {w : World} {A : Around} {E : Value → Shared → Prop} {s : Shared}
theorem tuple_back {t sl : Addr} {items : Array Value} {vl vu vs : Value} {Q : Value → Shared → Prop} (ht : IsTup s.heap t items) (hs : s.heap.IsSliceOf sl vl vu vs) (pl : IsPart vl none) (pu : IsPart vu none) (ps : IsPart vs (some (-1)))
    (h : Q (.ref s.heap.objs.size) { s with heap := s.heap.push { cls := .type "tuple", data := .seq items.toList.reverse.toArray } }) (hsz : items.size ≤ sizeLine) : wpAny (model prog w) A (getItem (.ref t) (.ref sl)) Q E s := by
  have room : sizeOk (.seq items.toList.reverse.toArray) := by
    show items.toList.reverse.toArray.size ≤ sizeLine
    simpa using hsz
  obtain
                          ⟨os, hos, hcs, hds⟩ := id hs
  have isl : s.TypeIs (.ref sl) "slice" := ⟨os, hos, hcs⟩
  unfold getItem
  try with_reducible
                          refine wpAny_holding ?_
  first | refine wpAny_bind
                          (wpAny_pure ?_) | skip
  refine wpAny_bind
                          (wpAny_sequenceKey ht.typeIs (by decide) ?_)
  refine wpAny_bind (wpAny_callSpecial?_slot (name := Str.ofString "__getitem__") ht.typeIs
    PyProof.Rows.slot_tuple_getitem (wpAny_call_entry PyProof.Rows.slot_tuple_getitem
      ht.typeIs entry_tuple_getitem ?_ (args_tuple_getitem _ _)))
  show wpAny _ _ (Builtin.Tuple.tupleItemsOf
                          (.ref t) >>= _) _ _ s
  refine wpAny_bind (PyProof.Rows.tupleItemsOf_ ht ?_)
  refine wpAny_bind (wpAny_typeOf isl ?_)
  rw [if_pos (by decide)]
  have told : ∀ {R : Int × Int × Nat → Shared → Prop}, R ((items.size : Int) - 1, -1, items.size) s → wpAny (model prog w) A.in1 (Builtin.Slice.sliceApplied (.ref sl) (pure (items.size : Int))) R E s := fun {R} hR => by
    unfold Builtin.Slice.sliceApplied
                            Builtin.Slice.sliceFields
    refine wpAny_bind (wpAny_bind (wpAny_field hos hds (x := vl) rfl (wpAny_bind (wpAny_field hos hds (x := vu) rfl (wpAny_bind (wpAny_field hos hds (x := vs) rfl (wpAny_pure ?_)))))))
    refine wpAny_bind (HT.slicePart_ ps ?_)
    show wpAny _ _ (if ((-1 : Int) == 0) = true then _ else _) _ _ s
    rw [if_neg (by decide)]
    refine wpAny_bind (HT.slicePart_ pl (wpAny_bind (HT.slicePart_ pu (wpAny_bind (wpAny_pure ?_)))))
    have e1 : Builtin.Slice.sliceAdjust none none (-1) (items.size : Int) = ((items.size : Int) - 1, -1) := rfl
    show wpAny _ _ (match Builtin.Slice.sliceAdjust none none (-1) (items.size : Int) with | (lo, hi) => pure (lo, (-1 : Int), Builtin.Slice.slicePlaces lo hi (-1))) _ _ s
    rw [e1]
    have e2 : Builtin.Slice.slicePlaces ((items.size : Int) - 1) (-1) (-1) = items.size := by
      unfold
                              Builtin.Slice.slicePlaces
      rw [if_neg (by decide)]
      by_cases z : items.size = 0
      · rw [if_neg (by omega), z]; rfl
      · rw [if_pos (by omega)]
        have : ((items.size : Int) - 1 - -1 - 1) / (- -1) = (items.size : Int) - 1 := by
          rw [Int.neg_neg, Int.ediv_one]; omega
        rw [this]
        omega
    show wpAny _ _ (pure ((items.size : Int) - 1, (-1 : Int), Builtin.Slice.slicePlaces ((items.size : Int) - 1) (-1) (-1))) _ _ s
    rw [e2]
    exact wpAny_pure hR
  refine wpAny_bind (told ?_)
  have nw : ¬ ((((items.size : Int) - 1 == 0) && (-1 : Int) == 1 && items.size == items.size) = true) := by simp
  show wpAny _ _ (if (((items.size : Int) - 1 == 0) && (-1 : Int) == 1 && items.size == items.size) = true then _ else _) _ _ s
  rw [if_neg nw]
  show wpAny _ _ (Builtin.Tuple.tupleExact ((List.range items.size).filterMap fun (k : Nat) => items[((items.size : Int) - 1 + (k : Int) * -1).toNat]?).toArray >>= _) _ _ s
  rw [back_range]
  first
    | exact wpAny_bind (m := Builtin.Tuple.tupleExact _) (wpAny_newObj_type (wpAny_pure ⟨_, rfl, wpAny_pure h⟩) room)
    | exact wpAny_bind (m := Builtin.Tuple.tupleExact _) (wpAny_newObj_type (wpAny_bind (wpAny_pure (wpAny_pure ⟨_, rfl, wpAny_pure h⟩))) room)
    | exact wpAny_bind (wpAny_bind (m := Builtin.Tuple.tupleExact _) (wpAny_newObj_type (wpAny_pure (wpAny_pure ⟨_, rfl, wpAny_pure h⟩)) room))
    | exact wpAny_bind (wpAny_bind (m := Builtin.Tuple.tupleExact _) (wpAny_newObj_type (wpAny_pure ⟨_, rfl, wpAny_pure h⟩) room))
end
def tBack (K : PySem.W.Frag) (te : TE) : TE := fun σ H Q => te σ H fun x H1 => (∃ a xs, x = .ref a ∧ SqL K H1 a xs ∧ ∀ p, H1 p = none → Q (.ref p) (upd H1 p (.lst xs.reverse))) ∨ (∃ a xs, x = .ref a ∧ SqT K H1 a xs ∧ ∀ p, H1 p = none → Q (.ref p) (upd H1 p (.tup xs.reverse)))
theorem pe_back {X : Cx} {e : Expr} {te : TE} {k : Nat} {p1 p2 p3 pos : Pos} (he : PE X e te) : PE X (.Subscript e (.Slice none none (some (.UnaryOp .USub (.Constant (.int 1) k p1) p2)) p3) pos) (tBack X.K te) := by
  refine
                          ⟨fun pins s σ H Q I h => ?_⟩
  refine Subscript_ (thn (he.run pins s σ H _ I h)
                          fun v s1 ⟨x, H1, I1, r1, q1⟩ => ?_)
  obtain ⟨a, ex⟩ : ∃ a, x = .ref a := by rcases q1 with ⟨a, xs, ex, _⟩ | ⟨a, xs, ex, _⟩ <;> exact ⟨a, ex⟩
  subst ex
  cases r1
  have hst : PO X (some (.UnaryOp .USub (.Constant (.int 1) k p1) p2)) (tPart
                          (tUn (rU fun i => .int (-i)) (tC (.int 1)))) := po_some (pe_un un_neg pe_int)
  refine wpAny_Slice (thn (po_none.run pins s1 σ H1 (fun o H2 => o = none ∧ H2 = H1) I1
                          ⟨rfl, rfl⟩) fun vl s2 ⟨l, H2, I2, pl, el, e2⟩ => ?_)
  subst el e2
  refine thn (po_none.run pins s2 σ H2 (fun o H3 => o = none ∧ H3 = H2) I2
                          ⟨rfl, rfl⟩) fun vu s3 ⟨u, H3, I3, pu, eu, e3⟩ => ?_
  subst eu e3
  refine thn (hst.run pins s3 σ H3 (fun o H4 => o = some (-1) ∧ H4 = H3) I3
                          ⟨1, rfl, -1, rfl, rfl, rfl⟩) fun vs s4 ⟨o, H4, I4, ps, eo, e4⟩ => ?_
  subst eo e4
  have I5 : Inv X pins σ H4 { s4 with heap := s4.heap.push { cls := .type "slice", data := .fields #[vl, vu, vs] } } := I4.kept
                          (t' := s4.toks) fun b ob q => Heap.get?_push_of_some _ q
  show wpAny (model X.prog X.w) X.A (subscriptTail e (.Slice none none (some (.UnaryOp .USub (.Constant (.int 1) k p1) p2)) p3) (.ref a)
                          (.ref s4.heap.objs.size)) (EP X pins σ Q) X.xe { s4 with heap := s4.heap.push { cls := .type "slice", data := .fields #[vl, vu, vs] } }
  rcases q1 with ⟨a', xs, ex, hx, q⟩ | ⟨a', xs, ex, hx, q⟩
  · cases ex
    obtain
                            ⟨its, r, ht, hz⟩ := I5.list hx
    have hlen := r.length
    refine tail_any (ops := [.ref a, .ref s4.heap.objs.size]) ht.isList.typeIs
                            (PySem.slot_list_getitem.lookup) ?_ (by with_unfolding_all rfl)
    refine wpAny_getItem_list_slice ht.isList (Heap.IsSliceOf.new _ vl vu vs) pl pu ps
                            (by decide) ?_ (by rw [List.size_toArray]; omega)
    rw [PySem.W.krv_pick]
    refine ⟨.ref _, _, I5.laid (t' := s4.toks) (o := .lst xs.reverse)
                            (fun b ob q => Heap.get?_push_of_some _ q) (Nat.le_refl _) ?_, rfl, q _ (I5.hok.fresh (Nat.le_refl _))⟩
    exact
                            ⟨by rw [List.length_reverse]; exact hz, _, 0, r.reverse, Heap.get?_push_size _ rfl⟩
  · cases ex
    obtain ⟨its, r, ht, hz⟩ := I5.tuple hx
    have hlen := r.length
    refine tail_any (ops := [.ref a, .ref s4.heap.objs.size]) ht.typeIs (PyProof.Rows.slot_tuple_getitem.lookup) ?_ (by with_unfolding_all rfl)
    refine tuple_back ht (Heap.IsSliceOf.new _ vl vu vs) pl pu ps ?_ (by rw [List.size_toArray]; omega)
    refine ⟨.ref _, _, I5.laid (t' := s4.toks) (o := .tup xs.reverse) (fun b ob q => Heap.get?_push_of_some _ q) (Nat.le_refl _) ?_, rfl, q _ (I5.hok.fresh (Nat.le_refl _))⟩
    exact ⟨by rw [List.length_reverse]; exact hz, _, r.reverse, IsTup.new _ _⟩
/-- xs[::-1] -/
theorem rev_e {j : Nat} {p1 p2 p3 : Pos} (ha : SE T sc a ca) : SE T sc (.Subscript a (.Slice none none (some (.UnaryOp .USub (.Constant (.int 1) j p1) p2)) p3) pos) (.rev ca) := fun Z X ok => by
  refine
                          ⟨fun pins s σ H Q I h => ?_⟩
  obtain ⟨se, h0, R, v, h1, S, b0, D, e, k⟩ := h
  simp only [evE] at e
  obtain ⟨w, h2, e1, e⟩ := Res.bind_eq e
  split at e
  · rename_i vs hv
    cases e
    refine (pe_back (ha Z X ok)).run pins _ σ H Q I ?_
    refine one S b0 D e1 fun R' H' y X' S' b' D' dy => .inl ?_
    obtain ⟨p, ys, rfl, t, l, dl⟩ := dy.rd S' hv
    refine ⟨p, ys, rfl, .inl (.inl t), fun n hn => ?_⟩
    exact Aft.lst (Z := Z) (R := R') (h := h1) (H := H') (Q := Q) (fun H2 x X2 S2 d2 => k R' H2 x (X'.trans X2) S2 (D'.mono X2) d2) S' hn (by rw [List.length_reverse]; exact l) dl.rev
  · rename_i vs hv
    cases e
    refine (pe_back (ha Z X ok)).run pins _ σ H Q I ?_
    refine one S b0 D e1 fun R' H' y X' S' b' D' dy => .inr ?_
    rcases rd_den S' hv dy with ⟨_, _, _, z, _⟩ | ⟨dt, _⟩
    · cases z
    obtain ⟨p, ys, rfl, t, dl⟩ := dt
    refine ⟨p, ys, rfl, by rw [← ok.K]; exact t.sq, fun n hn => ?_⟩
    exact Aft.tup (Z := Z) (R := R') (h := h1) (H := H') (Q := Q) (fun H2 x X2 S2 d2 => k R' H2 x (X'.trans X2) S2 (D'.mono X2) d2) S' hn (by rw [List.length_reverse]; exact t.1) dl.rev
  · cases e
theorem dct0_e : SE T sc (.Dict [] [] pos) (.dct [] []) := fun Z X ok => by
  refine
                          ⟨fun pins s σ H Q I h => ?_⟩
  obtain ⟨se, h0, R, v, h1, S, b0, D, e, k⟩ := h
  simp only [evE, evEs, Res.bind_ok] at e
  rw [if_pos (by simp)] at e
  cases e
  refine pe_dnewK.run pins _ σ H Q I fun p n => ?_
  exact k R _ _ (Ext.new n) (S.new n) (D.mono (Ext.new n)) ⟨p, [], rfl, upd_same, S.notin n, rfl⟩
end
end Co
end

section
set_option linter.all false
set_option maxRecDepth 100000
set_option autoImplicit false
/-! Co11: what is walked. -/
namespace Co
open PySem PySem.Spec
                        PyProof.Rows L2
/-! ### zip of a list and a tuple, in any order -/
inductive Src where
  | lst (a : Addr)
  | tup (a : Addr)
def Src.at : Src → Addr
  | .lst a => a
  | .tup a => a
def Src.has (K : PySem.W.Frag) (H : Hp) : Src → List V → Prop
  | .lst a, xs => SqL K H a xs
  | .tup a, xs => SqT K H a xs
def Src.it (h : Heap) : Src → Addr → Nat → Prop
  | .lst a, i, n => h.IsListIter i a n
  | .tup a, i, n => h.IsTupleIter i a n
def Src.sq (h : Heap) : Src → Array Value → Prop
  | .lst a, xs => h.IsList a xs
  | .tup a, xs => h.IsTuple a xs
def Src.ob : Src → Obj
  | .lst l => { cls := .type "list_iterator", data := .fields #[.ref l, .int 0 0] }
  | .tup t => { cls := .type "tuple_iterator", data := .fields #[.ref t, .int 0 0] }
theorem Src.items {X : Cx} {pins : List (Addr × Obj)} {σ : L2.St} {H : Hp} {s : Shared} {r : Src} {xs : List V} (I : Inv X pins σ H s) (h : r.has X.K H xs) : ∃ its : List Value, Vals xs its ∧ r.sq s.heap its.toArray ∧ xs.length ≤ sizeLine ∧ r.at < s.heap.objs.size := by
  cases r with
  | lst a =>
    obtain ⟨its, rv, p, z⟩ := I.list h
    exact ⟨its, rv, p.isList, z, p.lt⟩
  | tup a =>
    obtain ⟨its, rv, p, z⟩ := I.tuple h
    obtain ⟨o, ho, _⟩ := id p
    exact ⟨its, rv, p, z, Heap.lt_size ho⟩
theorem Src.inj {X : Cx} {pins : List (Addr × Obj)} {σ : L2.St} {H : Hp} {s : Shared} {r : Src} {xs ys : List V} (I : Inv X pins σ H s) (h : r.has X.K H xs) (h2 : r.has X.K H ys) : xs = ys := by
  cases r with
  | lst a => exact I.list_inj h h2
  | tup a => exact I.tuple_inj h h2
theorem Src.draws {P : Program} {w : World} {A : Around} (hh : A.handled = none) (r : Src) (it : Addr) (hne : r.at ≠ it) (items : Array Value) : Draws P w A it [it, r.at] items.size (fun i v => items[i]? = some v) (fun i h => r.it h it i ∧ r.sq h items) := by
  cases r with
  | lst a => exact .list hh it a hne items
  | tup a => exact .tuple hh it a hne items
theorem Src.begins (r : Src) (items : Array Value) : Begins (.ref r.at) r.ob fun h => r.sq h items := by
  cases r with
  | lst a => exact begins_list a items
  | tup a => exact begins_tuple a items
theorem Src.it_at {r : Src} {h h' : Heap} {i : Addr} {n : Nat} (st : r.it h i n) (k : ∀ o, h.get? i = some o → h'.get? i = some o) : r.it h' i n := by
  cases r with
  | lst a => exact Heap.IsListIter.at st k
  | tup a => exact Heap.IsTupleIter.at st k
theorem Src.it_ob {r : Src} {h : Heap} {i : Addr} {n : Nat} (st : r.it h i n) : ∃ o, h.get? i = some o ∧ ∀ v, o.data ≠ .cell v := by
  cases r <;> (obtain ⟨o, e, c, d⟩ := st; exact ⟨o, e, fun v q => by rw [d] at q; cases q⟩)
theorem Src.it_new {r : Src} {h : Heap} {i : Addr} (e : h.get? i = some r.ob) : r.it h i 0 := by
  cases r <;> exact ⟨_, e, rfl, rfl⟩
/-- the sequences at the two sources, the items in new pairs -/
def ItZ (K : PySem.W.Frag) (r q : Src) : It :=
  ⟨fun i H => ∃ (xs ys : List V) (x y : V), r.has K H xs ∧ q.has K H ys ∧ xs[i]? = some x ∧ ys[i]? = some y,
    fun i H v H' => ∃ T x y, v = .ref T ∧ H T = none ∧ H' = upd H T (.tup [x, y]) ∧ (∀ xs, r.has K H xs → xs[i]? = some x) ∧ ∀ ys, q.has K H ys → ys[i]? = some y,
    fun i H => ∃ xs ys : List V, r.has K H xs ∧ q.has K H ys ∧ i ≤ xs.length ∧ i ≤ ys.length ∧ (i = xs.length ∨ i = ys.length)⟩
theorem turn_Z {P : Program} {w : World} {K : PySem.W.Frag} {elts : List Expr} {kk : Nat} {tpos : Pos} {r q : Src} {z TI TO i1 i2 : Addr} (D : ZipSep2 z TI TO i1 i2 [i1, r.at] [i2, q.at]) (n1 : r.at ≠ i1) (n2 : q.at ≠ i2) :
    Turn P w K (.Tuple elts kk tpos) (ItZ K r q) [z, TI, TO, i1, i2] z (fun i h => IsZip h z TI TO .none ∧ IsTupOf2 h TI (.ref i1) (.ref i2) ∧ (∃ x y, IsTupOf2 h TO x y) ∧ r.it h i1 i ∧ q.it h i2 i) where
  mem := by simp
  obj := fun i h st c hc => by
    obtain ⟨hz, hTI,
                            ⟨x, y, hTO⟩, h1, h2⟩ := st
    have e' : c = z ∨ c = TI ∨ c = TO ∨
                            c = i1 ∨ c = i2 := by simpa using hc
    rcases e' with e | e | e | e | e <;> rw [e]
    · exact ⟨_, hz, fun v q => nomatch q⟩
    · exact ⟨_, hTI, fun v q => nomatch q⟩
    · exact ⟨_, hTO, fun v q => nomatch q⟩
    · exact Src.it_ob h1
    · exact Src.it_ob h2
  keep := fun i h h' st k => by
    obtain ⟨hz, hTI,
                            ⟨x, y, hTO⟩, h1, h2⟩ := st
    exact ⟨k z (by simp) _ hz, k TI (by simp) _ hTI, ⟨x, y, k TO (by simp) _ hTO⟩, Src.it_at h1 fun o e => k i1 (by simp) o e, Src.it_at h2 fun o e => k i2 (by simp) o e⟩
  item := by
    intro X hP hw hK hc i
                            pins s σ H E I hf st hg
    subst hP hw hK
    obtain ⟨hz, hTI,
                            ⟨x0, y0, hTO⟩, h1, h2⟩ := st
    obtain
                            ⟨xs, ys, x, y, hqx, hqy, hx, hy⟩ := hg
    obtain ⟨its, rv, p, _, l1⟩ := Src.items I hqx
    obtain ⟨its2, rv2, p2, _, l2⟩ := Src.items I hqy
    obtain
                            ⟨u, hu, ru⟩ := rv.get hx
    obtain
                            ⟨u2, hu2, ru2⟩ := rv2.get hy
    have hzl : z < s.heap.objs.size
                            := Heap.lt_size hz
    have hi1 : i < its.toArray.size := by
      have := (List.getElem?_eq_some_iff.mp hu).1
      simpa using this
    have hi2 : i < its2.toArray.size := by
      have := (List.getElem?_eq_some_iff.mp hu2).1
      simpa using this
    have hh : X.A.in1.handled = none := I.ok.hd hc
    refine wpAny_pyNext_zipD2_item D (Src.draws (P := X.prog) (w := X.w) hh r i1 n1 its.toArray) (Src.draws (P := X.prog) (w := X.w) hh q i2 n2 its2.toArray) hz hTI hTO ⟨h1, p⟩ ⟨h2, p2⟩ hi1 hi2 fun x1 x2 h' tk y1 y2 b1 b2 d1 d2 b5 hsz hk => ?_
    have ex1 : x1 = u := by
      have y1' : its.toArray[i]? = some x1 := y1
      rw [show its.toArray[i]? = some u by simpa using hu] at y1'
      exact (Option.some.inj y1').symm
    have ex2 : x2 = u2 := by
      have y2' : its2.toArray[i]? = some x2 := y2
      rw [show its2.toArray[i]? = some u2 by simpa using hu2] at y2'
      exact (Option.some.inj y2').symm
    subst ex1 ex2
    refine ⟨_, rfl, wpAny_letOwnedTupleGo_zip (s := { s with heap := h', toks := tk }) b1 fun h'' z'' sb => ?_⟩
    have hT2 : h''.get? s.heap.objs.size = some { cls := .type "tuple", data := .seq #[x1, x2] } := (sb.2 _ (Nat.ne_of_gt hzl)).trans b5
    have new : ObjOk X.prog X.w (upd H s.heap.objs.size
                            (.tup [x, y])) h'' s.heap.objs.size (.tup [x, y]) :=
      ⟨by show 2 ≤ sizeLine; decide, [x1, x2], .cons ru (.cons ru2 .nil), ⟨_, hT2, rfl, _, rfl⟩⟩
    have I1 : Inv X pins σ (upd H s.heap.objs.size (.tup [x, y])) { s with heap := h'', toks := tk } :=
      I.turnedNew (t' := tk) (ch := [z, TI, TO, i1, i2]) (fun c o hb e => (sb.2 c (fun e' => hb (by simp [e']))).trans (hk c o (fun e' => hb (by simp [e'])) (fun e' => hb (by simp [e'])) (fun e' => hb (by simp [e'])) (fun e' => hb (by simp [e'])) e)) hf (Nat.le_refl _) new
    refine ⟨.ref s.heap.objs.size, _, I1, rfl, ⟨_, x, y, rfl, I.hok.fresh (Nat.le_refl _), rfl, fun l hl => by rw [Src.inj I hl hqx]; exact hx, fun l hl => by rw [Src.inj I hl hqy]; exact hy⟩, ⟨z'', ?_, ⟨x1, x2, ?_⟩, ?_, ?_⟩, fun c hcm => ?_⟩
    · exact (sb.2 _ D.TIz).trans
                            (hk _ _ D.TIz D.TITO D.TIi1 D.TIi2 hTI)
    · exact (sb.2 _ D.TOz).trans b2
    · exact Src.it_at d1.1 fun o e => (sb.2 _ (Ne.symm D.zi1)).trans e
    · exact Src.it_at d2.1 fun o e => (sb.2 _ (Ne.symm D.zi2)).trans e
    · have hlt : c <
                            s.heap.objs.size := by
        have e' : c = z ∨ c = TI ∨ c = TO ∨ c
                                = i1 ∨ c = i2 := by simpa using hcm
        rcases e' with e | e | e | e | e <;> rw [e]
        · exact hzl
        · exact Heap.lt_size hTI
        · exact Heap.lt_size hTO
        · obtain ⟨_, e1, _⟩ := Src.it_ob h1; exact Heap.lt_size e1
        · obtain ⟨_, e2, _⟩ := Src.it_ob h2; exact Heap.lt_size e2
      rw [upd_ne
                              (Nat.ne_of_lt hlt)]
      exact (hf c hcm).1
  done := by
    intro X hP hw hK hc i
                            pins s σ H E I hf st hg
    subst hP hw hK
    obtain ⟨hz, hTI,
                            ⟨x0, y0, hTO⟩, h1, h2⟩ := st
    obtain ⟨xs, ys, hqx, hqy, e1, e2, hend⟩ := hg
    obtain ⟨its, rv, p, _, l1⟩ := Src.items I hqx
    obtain ⟨its2, rv2, p2, _, l2⟩ := Src.items I hqy
    have g1 := rv.length
    have g2 := rv2.length
    have hh : X.A.in1.handled = none := I.ok.hd hc
    exact wpAny_pyNext_zipD2_end D (Src.draws (P := X.prog) (w := X.w) hh r i1 n1 its.toArray) (Src.draws (P := X.prog) (w := X.w) hh q i2 n2 its2.toArray) hz hTI hTO ⟨h1, p⟩ ⟨h2, p2⟩
      (by rw [List.size_toArray]; omega) (by rw [List.size_toArray]; omega) (by rw [List.size_toArray, List.size_toArray]; omega) fun h' tk hk => ⟨rfl, I.turnedL (t' := tk) (ch := [z, TI, TO, i1, i2]) (fun c o hb e =>
      hk c o (fun e' => hb (by simp [e'])) (fun e' => hb (by simp [e'])) (fun e' => hb (by simp [e'])) (fun e' => hb (by simp [e'])) e) hf⟩
  self :=
                          fun A i s Q E st h => wpAny_pyIter_zip st.1 h
/-- zip(a, b), the sources by the values -/
def srcV (K : PySem.W.Frag) (H : Hp) (x : V) (r : Src) (xs : List V) : Prop := x = .ref r.at ∧ r.has K H xs
def iZ (K : PySem.W.Frag) (ta : TA) : TI := fun σ H R => ta σ H fun vs H1 => ∃ (r q : Src) (xs ys : List V), vs = [.ref r.at, .ref q.at] ∧ r.has K H1 xs ∧ q.has K H1 ys ∧ R (ItZ K r q) H1
theorem pi_Z {X : Cx} {e e2 : Expr} {ta : TA} {p pos tpos : Pos} {elts : List Expr} {kk : Nat} (hg : Gl X "zip") (hm : X.mg "zip" = none) (ha : PA X [e, e2] ta)
    (hs : starEach [e, e2] X.env = (false, eval e X.env) :: starEach [e2] X.env) (hpl : (backTo pos (starEach [e2] X.env)).any (·.1) = false) :
    PI X (.Tuple elts kk tpos) (.Call (.Name "zip" p) [e, e2] [] pos) (iZ X.K ta) := by
  refine
                          ⟨fun pins s σ H R I h => ?_⟩
  refine Call_ (ld_blt I hg hm PyProof.Rows.boot_zip (PyProof.Rows.callWith_type1
                          (thn (ha.run pos pins s σ H _ I h) fun us s1 ⟨vs, H1, I1, r1, q1⟩ => ?_) hs hpl))
  obtain ⟨r, q, xs, ys, ex, hqx, hqy, k⟩ := q1
  subst ex
  obtain ⟨u1, u2, rfl, ra, rb⟩ := r1.two
  cases ra
  cases rb
  obtain ⟨its, rv, p1, _, la⟩ := Src.items I1 hqx
  obtain ⟨its2, rv2, p2, _, lb⟩ := Src.items I1 hqy
  refine zip_begins2 (Src.begins r its.toArray) (Src.begins q its2.toArray) p1 p2 fun h' hz hTI hTO h1 h2 hsz hk => wpAny_pyIter_zip hz ?_
  have I2 : Inv X pins σ H1 { s1 with heap := h' } := I1.kept
                          (t' := s1.toks) hk
  have D := zip_sep2 (N := s1.heap.objs.size) (fp1 := [r.at]) (fp2 := [q.at]) (fun b hb => by rw [List.mem_singleton.mp hb]; exact la) (fun b hb => by rw [List.mem_singleton.mp hb]; exact lb)
  refine ⟨s1.heap.objs.size + 4, [s1.heap.objs.size + 4, s1.heap.objs.size + 2, s1.heap.objs.size + 3, s1.heap.objs.size, s1.heap.objs.size + 1], _, _, H1, rfl, I2, turn_Z D (Nat.ne_of_lt la) (Nat.ne_of_lt (Nat.lt_succ_of_lt lb)), ⟨hz, hTI, ⟨_, _, hTO⟩, Src.it_new h1, Src.it_new h2⟩, fun c hcm => ?_, k⟩
  have e' : c = s1.heap.objs.size + 4 ∨ c = s1.heap.objs.size + 2 ∨ c = s1.heap.objs.size
                          + 3 ∨ c = s1.heap.objs.size ∨ c = s1.heap.objs.size + 1 := by simpa using hcm
  have hle :
                          s1.heap.objs.size ≤ c := by
    rcases e' with z | z | z | z | z <;> rw [z] <;> first | exact Nat.le_refl _ | exact Nat.le_add_right _ _
  exact I1.fpOk hle
                          (I1.hok.fresh hle)
/-! ### a list, a tuple, a str, by the value -/
/-- an iterator just made over a source -/
def ItS (K : PySem.W.Frag) (r : Src) : It := ⟨fun i H => ∃ xs x, r.has K H xs ∧ xs[i]? = some x, fun i H x H' => H' = H ∧ ∀ xs, r.has K H xs → xs[i]? = some x, fun i H => ∃ xs, r.has K H xs ∧ xs.length ≤ i⟩
def iAny (K : PySem.W.Frag) (tl : TE) : TI := fun σ H R => tl σ H fun x H1 => (∃ a, x = .ref a ∧ (∃ xs, SqL K H1 a xs) ∧ R (Itl K a) H1) ∨ (∃ a, x = .ref a ∧ (∃ xs, SqT K H1 a xs) ∧ R (Itt K a) H1) ∨ ∃ z, x = .str z ∧ R (Its z) H1
theorem pi_any {X : Cx} {tg l : Expr} {tl : TE} (hl : PE X l tl) : PI X tg l (iAny X.K tl) := by
  refine
                          ⟨fun pins s σ H R I h => ?_⟩
  refine thn (hl.run pins s σ H _ I h)
                          fun v s1 ⟨x, H1, I1, r1, q1⟩ => ?_
  rcases q1 with ⟨a, e, ⟨xs, hq⟩, q⟩ | ⟨a, e, ⟨xs, hq⟩, q⟩ | ⟨z, e, q⟩
  · subst e
    cases r1
    obtain
                            ⟨its, rv, p, hz⟩ := I1.list hq
    refine wpAny_pyIter_list
                            p.isList ?_
    refine ⟨s1.heap.objs.size, [s1.heap.objs.size], _, _, H1, rfl, I1.kept (t' := s1.toks)
                            fun b o e => Heap.get?_push_of_some _ e, turn_list a _, ⟨_, Heap.get?_push_size _ rfl, rfl, rfl⟩, fun b hb => ?_, q⟩
    rw [List.mem_singleton.mp hb]
    exact I1.fpOk (Nat.le_refl _)
                            (I1.hok.fresh (Nat.le_refl _))
  · subst e
    cases r1
    obtain
                            ⟨its, rv, p, hz⟩ := I1.tuple hq
    refine wpAny_pyIter_tuple
                            (show s1.heap.IsTuple a its.toArray from p) ?_
    refine ⟨s1.heap.objs.size, [s1.heap.objs.size], _, _, H1, rfl, I1.kept (t' := s1.toks)
                            fun b o e => Heap.get?_push_of_some _ e, turn_tuple a _, ⟨_, Heap.get?_push_size _ rfl, rfl, rfl⟩, fun b hb => ?_, q⟩
    rw [List.mem_singleton.mp hb]
    exact I1.fpOk (Nat.le_refl _)
                            (I1.hok.fresh (Nat.le_refl _))
  · subst e
    obtain ⟨t, rfl⟩ := r1
    cases ha : z.cps.all (· < 128)
    · exact wpAny_pyIter_wide ha (pi_one (tk := s1.toks) I1 _ (turn_str _ z t "str_iterator" (.inr rfl)) ⟨_, Heap.get?_push_size _ rfl, rfl, rfl⟩ q)
    · exact wpAny_pyIter_ascii ha (pi_one (tk := s1.toks) I1 _ (turn_str _ z t "str_ascii_iterator" (.inl rfl)) ⟨_, Heap.get?_push_size _ rfl, rfl, rfl⟩ q)
end Co
end

section
set_option linter.all false
set_option maxRecDepth 100000
set_option autoImplicit false
/-! Co12: what is walked, by values. -/
namespace Co
open PySem PySem.Spec
                        PyProof.Rows L2
def ItD (Z : Sx) (R : Rg) (H : Hp) (vs : List Val) (gd : Gd) (J : It) : Prop :=
  ∀ (R2 : Rg) (h2 : Hh) (H2 : Hp), Ext R R2 H H2 → Sim Z.K Z.C Z.bs Z.g.base R2 h2 H2 → guardOk h2 gd = true →
    (∀ (i : Nat) (v : Val), vs[i]? = some v → J.go i H2 ∧ ∀ (x : V) (H3 : Hp), J.yld i H2 x H3 → Ext R2 R2 H2 H3 ∧ Sim Z.K Z.C Z.bs Z.g.base R2 h2 H3 ∧ Den Z.K Z.C R2 H3 v x) ∧ J.stop vs.length H2
def trI (Z : Sx) (c : CE) : TI := fun σ H RR => ∃ s h R p h', Sim Z.K Z.C Z.bs Z.g.base R h H ∧ Z.g.base ≤ h.length ∧ DenS Z.K Z.C R H s σ ∧ evI Z.g c s h = .ok p h' ∧
  ∀ R' H' J, Ext R R' H H' → Sim Z.K Z.C Z.bs Z.g.base R' h' H' → DenS Z.K Z.C R' H' s σ → ItD Z R' H' p.1 p.2 J → RR J H'
def SI (T : Stc) (sc : Scope) (tg e : Expr) (c : CE) : Prop := ∀ (Z : Sx) (X : Cx), XOk T Z X sc → PI X tg e (trI Z c)
section
variable {Z : Sx} {R R' : Rg} {h : Hh} {H H' : Hp}
theorem guard_one {n : Nat} {ws : List Val} (g : guardOk h [(n, ws)] = true) : h[n]? = some (.lst ws) := by
  simp only [guardOk, Bool.and_true] at g
  split at g
  · rename_i w hw
    rw [hw, Val.beqL_eq _ _ g]
  · cases g
theorem guard_app {a b : Gd} (g : guardOk h (a ++ b) = true) : guardOk h a = true ∧ guardOk h b = true := by
  induction a with
  | nil => exact ⟨rfl, g⟩
  | cons p r ih =>
    obtain ⟨n, vs⟩ := p
    simp only [List.cons_append, guardOk, Bool.and_eq_true] at g ⊢
    exact ⟨⟨g.1, (ih g.2).1⟩, (ih g.2).2⟩
/-- where the items of a walked value stand -/
theorem itOf_src {v : Val} {x : V} {vs : List Val} {gd : Gd} (S : SimZ Z R h H) (e : itOf h v = some (vs, gd)) (d : DenZ Z R H v x) (ns : ∀ z, v ≠ .str z) :
    ∃ r : Src, x = .ref r.at ∧ ∀ (R2 : Rg) (h2 : Hh) (H2 : Hp), Ext R R2 H H2 → Sim Z.K Z.C Z.bs Z.g.base R2 h2 H2 → guardOk h2 gd = true → ∃ xs, r.has Z.K H2 xs ∧ DenLZ Z R2 H2 vs xs := by
  unfold itOf at e
  split at e
  · cases e
    obtain ⟨a, xs, rfl, t, dl⟩ := d
    exact ⟨.lst a, rfl, fun R2 h2 H2 X2 S2 g => ⟨xs, (t.mono X2).sq, dl.mono X2⟩⟩
  · cases e
    obtain ⟨a, xs, rfl, t, dl⟩ := d
    exact ⟨.tup a, rfl, fun R2 h2 H2 X2 S2 g => ⟨xs, (t.mono X2).sq, dl.mono X2⟩⟩
  · cases e
    obtain ⟨a, xs, rfl, t, dl⟩ := d
    exact ⟨.lst a, rfl, fun R2 h2 H2 X2 S2 g => ⟨xs, (t.mono X2).sq, dl.mono X2⟩⟩
  · exact absurd rfl (ns _)
  · rename_i n
    split at e
    · rename_i ws hn
      cases e
      have d' := d
      obtain ⟨a, ra, rfl⟩ := d
      refine ⟨.lst a, rfl, fun R2 h2 H2 X2 S2 g => ?_⟩
      have hg := guard_one g
      obtain ⟨b, xs, e1, t, l, dl⟩ := Den.rd S2 (d'.mono X2) (show rd h2 (.ref n) = .lst vs by simp [rd, hg])
      cases e1
      exact ⟨xs, .inl (.inl t), dl⟩
    · cases e
  · cases e
theorem srcItl {r : Src} {K : PySem.W.Frag} : ∃ J : It, (∀ a, r = .lst a → J = Itl K a) ∧ (∀ a, r = .tup a → J = Itt K a) := by
  cases r with
  | lst a => exact ⟨Itl K a, fun b e => by cases e; rfl, fun b e => by cases e⟩
  | tup a => exact ⟨Itt K a, fun b e => by (cases e), fun b e => by cases e; rfl⟩
theorem itOf2_of {v : Val} {p : List Val × Gd} (e : itOf2 h v = some p) : itOf h v = some p ∧ ∀ z, v ≠ .str z := by
  unfold itOf2 at e
  split at e
  · cases e
  · rename_i hn
    exact ⟨e, hn⟩
theorem itOfL_src {v : Val} {x : V} {vs : List Val} {gd : Gd} (S : SimZ Z R h H) (e : itOfL h v = some (vs, gd)) (d : DenZ Z R H v x) :
    ∃ a, x = .ref a ∧ ∀ (R2 : Rg) (h2 : Hh) (H2 : Hp), Ext R R2 H H2 → Sim Z.K Z.C Z.bs Z.g.base R2 h2 H2 → guardOk h2 gd = true → ∃ xs, SqL Z.K H2 a xs ∧ DenLZ Z R2 H2 vs xs := by
  unfold itOfL at e
  split at e
  · cases e
    obtain ⟨a, xs, rfl, t, dl⟩ := d
    exact ⟨a, rfl, fun R2 h2 H2 X2 S2 g => ⟨xs, (t.mono X2).sq, dl.mono X2⟩⟩
  · cases e
    obtain ⟨a, xs, rfl, t, dl⟩ := d
    exact ⟨a, rfl, fun R2 h2 H2 X2 S2 g => ⟨xs, (t.mono X2).sq, dl.mono X2⟩⟩
  · rename_i n
    simp only [itOf] at e
    split at e
    · rename_i ws hn
      cases e
      have d' := d
      obtain ⟨a, ra, rfl⟩ := d
      refine ⟨a, rfl, fun R2 h2 H2 X2 S2 g => ?_⟩
      have hg := guard_one g
      obtain ⟨b, xs, e1, t, l, dl⟩ := Den.rd S2 (d'.mono X2) (show rd h2 (.ref n) = .lst vs by simp [rd, hg])
      cases e1
      exact ⟨xs, .inl (.inl t), dl⟩
    · cases e
  · cases e
theorem of_itD {v : Val} {x : V} {vs : List Val} {gd : Gd} (S : SimZ Z R h H) (e : itOf h v = some (vs, gd)) (g0 : guardOk h gd = true) (d : DenZ Z R H v x) :
    (∃ a, x = .ref a ∧ (∃ xs, SqL Z.K H a xs) ∧ ItD Z R H vs gd (Itl Z.K a)) ∨ (∃ a, x = .ref a ∧ (∃ xs, SqT Z.K H a xs) ∧ ItD Z R H vs gd (Itt Z.K a)) ∨ ∃ z, x = .str z ∧ ItD Z R H vs gd (Its z) := by
  by_cases hs : ∃ z, v = .str z
  · obtain ⟨z, rfl⟩ := hs
    simp only [itOf] at e
    cases e
    refine .inr (.inr ⟨z, d, fun R2 h2 H2 X2 S2 g => ⟨fun i v hv => ?_, ?_⟩⟩)
    · simp only [List.getElem?_map, Option.map_eq_some_iff] at hv
      obtain ⟨c, hc, rfl⟩ := hv
      have hc' : z.cps[i]? = some c := by simpa using hc
      refine ⟨(Array.getElem?_eq_some_iff.mp hc').1, fun x H3 ⟨e1, c2, e2, e3⟩ => ?_⟩
      subst e1
      rw [hc'] at e2
      cases e2
      exact ⟨Ext.refl _ _, S2, e3⟩
    · show z.cps.size ≤ _
      simp
  · obtain ⟨r, hx, hr⟩ := itOf_src S e d fun z q => hs ⟨z, q⟩
    obtain ⟨xs0, h0, _⟩ := hr R h H (Ext.refl _ _) S g0
    cases r with
    | lst a =>
      refine .inl ⟨a, hx, ⟨xs0, h0⟩, fun R2 h2 H2 X2 S2 g => ?_⟩
      obtain ⟨xs, hq, dl⟩ := hr R2 h2 H2 X2 S2 g
      refine ⟨fun i v hv => ?_, ⟨xs, hq, Nat.le_of_eq dl.length.symm⟩⟩
      obtain ⟨y, hy, dy⟩ := dl.get hv
      refine ⟨⟨xs, y, hq, hy⟩, fun x H3 ⟨e1, e2⟩ => ?_⟩
      subst e1
      have := e2 xs hq
      rw [hy] at this
      cases this
      exact ⟨Ext.refl _ _, S2, dy⟩
    | tup a =>
      refine .inr (.inl ⟨a, hx, ⟨xs0, h0⟩, fun R2 h2 H2 X2 S2 g => ?_⟩)
      obtain ⟨xs, hq, dl⟩ := hr R2 h2 H2 X2 S2 g
      refine ⟨fun i v hv => ?_, ⟨xs, hq, Nat.le_of_eq dl.length.symm⟩⟩
      obtain ⟨y, hy, dy⟩ := dl.get hv
      refine ⟨⟨xs, y, hq, hy⟩, fun x H3 ⟨e1, e2⟩ => ?_⟩
      subst e1
      have := e2 xs hq
      rw [hy] at this
      cases this
      exact ⟨Ext.refl _ _, S2, dy⟩
theorem guard_of {v : Val} {vs : List Val} {gd : Gd} (e : itOf h v = some (vs, gd)) : guardOk h gd = true := by
  unfold itOf at e
  split at e <;> first | (cases e; rfl) | skip
  · rename_i n
    split at e
    · rename_i ws hn
      cases e
      simp only [guardOk, hn, Bool.and_true]
      exact Val.beqL_refl _
    · cases e
  · cases e
theorem guard_ofL {v : Val} {vs : List Val} {gd : Gd} (e : itOfL h v = some (vs, gd)) : guardOk h gd = true := by
  unfold itOfL at e
  split at e <;> first | (cases e; rfl) | exact guard_of e | cases e
theorem rangeL_get : ∀ (n : Nat) (lo : Int) (i : Nat) (v : Val), (rangeL lo n)[i]? = some v → i < n ∧ v = .int (lo + i)
  | 0, lo, i, v, e => by simp [rangeL] at e
  | n + 1, lo, 0, v, e => by
    simp [rangeL] at e
    exact ⟨Nat.succ_pos _, by rw [← e]; simp⟩
  | n + 1, lo, i + 1, v, e => by
    simp only [rangeL, List.getElem?_cons_succ] at e
    obtain ⟨h1, h2⟩ := rangeL_get n (lo + 1) i v e
    exact ⟨Nat.succ_lt_succ h1, by rw [h2]; congr 1; omega⟩
theorem rangeL_len : ∀ (n : Nat) (lo : Int), (rangeL lo n).length = n
  | 0, _ => rfl
  | n + 1, lo => by rw [rangeL, List.length_cons, rangeL_len]
theorem range_itD (lo : Int) (n : Nat) : ItD Z R H (rangeL lo n) [] (Itr lo n) := fun R2 h2 H2 X2 S2 g => by
  refine ⟨fun i v hv => ?_, ?_⟩
  · obtain ⟨h1, h2⟩ := rangeL_get n lo i v hv
    subst h2
    refine ⟨h1, fun x H3 ⟨e1, e2⟩ => ?_⟩
    subst e1
    exact ⟨Ext.refl _ _, S2, e2⟩
  · show n ≤ _
    rw [rangeL_len]
    exact Nat.le_refl _
theorem enum_get : ∀ (vs : List Val) (n i : Nat) (v : Val), (enumFrom n vs)[i]? = some v → ∃ w, vs[i]? = some w ∧ v = .tup [.int ((n + i : Nat) : Int), w]
  | [], n, i, v, e => by simp [enumFrom] at e
  | w :: r, n, 0, v, e => by
    simp [enumFrom] at e
    exact ⟨w, rfl, by rw [← e]; simp⟩
  | w :: r, n, i + 1, v, e => by
    simp only [enumFrom, List.getElem?_cons_succ] at e
    obtain ⟨u, h1, h2⟩ := enum_get r (n + 1) i v e
    exact ⟨u, by simpa using h1, by rw [h2, show n + 1 + i = n + (i + 1) by omega]⟩
theorem enum_len : ∀ (vs : List Val) (n : Nat), (enumFrom n vs).length = vs.length
  | [], _ => rfl
  | w :: r, n => by rw [enumFrom, List.length_cons, enum_len, List.length_cons]
theorem pairs_get : ∀ (vs ws : List Val) (i : Nat) (v : Val), (pairs vs ws)[i]? = some v → ∃ a b, vs[i]? = some a ∧ ws[i]? = some b ∧ v = .tup [a, b]
  | [], ws, i, v, e => by simp [pairs] at e
  | _ :: _, [], i, v, e => by simp [pairs] at e
  | a :: r, b :: s, 0, v, e => by
    simp [pairs] at e
    exact ⟨a, b, rfl, rfl, e.symm⟩
  | a :: r, b :: s, i + 1, v, e => by
    simp only [pairs, List.getElem?_cons_succ] at e
    obtain ⟨x, y, h1, h2, h3⟩ := pairs_get r s i v e
    exact ⟨x, y, by simpa using h1, by simpa using h2, h3⟩
theorem pairs_len : ∀ (vs ws : List Val), (pairs vs ws).length = min vs.length ws.length
  | [], ws => by simp [pairs]
  | _ :: _, [] => by simp [pairs]
  | a :: r, b :: s => by rw [pairs, List.length_cons, pairs_len, List.length_cons, List.length_cons]; omega
/-- a pair just made -/
theorem pair_new {R2 : Rg} {h2 : Hh} {H2 : Hp} {T : Addr} {a b : Val} {x y : V} (S2 : Sim Z.K Z.C Z.bs Z.g.base R2 h2 H2) (n : H2 T = none) (da : DenZ Z R2 H2 a x) (db : DenZ Z R2 H2 b y) :
    Ext R2 R2 H2 (upd H2 T (.tup [x, y])) ∧ Sim Z.K Z.C Z.bs Z.g.base R2 h2 (upd H2 T (.tup [x, y])) ∧ Den Z.K Z.C R2 (upd H2 T (.tup [x, y])) (.tup [a, b]) (.ref T) := by
  have X2 : Ext R2 R2 H2 (upd H2 T (.tup [x, y])) := Ext.new n
  exact ⟨X2, S2.new n, ⟨T, [x, y], rfl, ⟨by rw [sz]; show 2 ≤ 16777216; decide, .inl ⟨.inl upd_same, S2.notin n⟩⟩, ⟨x, [y], rfl, da.mono X2, y, [], rfl, db.mono X2, rfl⟩⟩⟩
end
section
variable {T : Stc} {sc : Scope} {a b c : Expr} {ca cb cc : CE} {pos : Pos} {tg : Expr}
theorem of_i (ha : SE T sc a ca) : SI T sc tg a (.of ca) := fun Z X ok => by
  refine ⟨fun pins s σ H RR I hh => ?_⟩
  obtain ⟨se, h0, R, p, h1, S, b0, D, e, k⟩ := hh
  simp only [evI] at e
  obtain ⟨w, h2, e1, e⟩ := Res.bind_eq e
  obtain ⟨e2, rfl⟩ := opt_eq e
  obtain ⟨vs, gd⟩ := p
  refine (pi_any (ha Z X ok)).run pins _ σ H RR I ?_
  refine one S b0 D e1 fun R' H' x X' S' b' D' dx => ?_
  rw [← ok.K]
  rcases of_itD S' e2 (guard_of e2) dx with ⟨y, q1, q2, q3⟩ | ⟨y, q1, q2, q3⟩ | ⟨y, q1, q3⟩
  · exact .inl ⟨y, q1, q2, k R' H' _ X' S' D' q3⟩
  · exact .inr (.inl ⟨y, q1, q2, k R' H' _ X' S' D' q3⟩)
  · exact .inr (.inr ⟨y, q1, k R' H' _ X' S' D' q3⟩)
theorem range1_i {p : Pos} (hg : isGl sc "range" = true) (hm : ("range" : Str) ∈ T.blt) (hs : starred a = false) (hc : starC ca = false) (ha : SE T sc a ca) : SI T sc tg (.Call (.Name "range" p) [a] [] pos) (.range1 ca) := fun Z X ok => by
  refine ⟨fun pins s σ H RR I hh => ?_⟩
  obtain ⟨se, h0, R, q, h1, S, b0, D, e, k⟩ := hh
  simp only [evI] at e
  obtain ⟨w, h2, e1, e⟩ := Res.bind_eq e
  split at e
  case h_2 => cases e
  split at e
  case isFalse => cases e
  rename_i j hj
  cases e
  have e2 : evEs Z.g [ca] se h0 = .ok [.int j] h1 := by rw [evEs_cons hc, e1]; rfl
  refine (pi_range1 (gl_of ok hg) (ok.blt _ hm) (cons_a hs hc ha nil_a Z X ok) (star1 hs)).run pins _ σ H RR I ?_
  refine more S b0 D e2 fun R' H' xs X' S' b' D' dx => ?_
  obtain ⟨x, ys, rfl, d1, d2⟩ := dx
  rw [show ys = [] from d2, show x = .int j from d1]
  exact ⟨j, rfl, by have : lim = 16777216 := rfl; omega, by have : lim = 16777216 := rfl; omega, k R' H' _ X' S' D' (range_itD 0 j.toNat)⟩
theorem range2_i {p : Pos} (hg : isGl sc "range" = true) (hm : ("range" : Str) ∈ T.blt) (hs : starred a = false) (hc : starC ca = false) (hs2 : starred b = false) (hc2 : starC cb = false) (ha : SE T sc a ca) (hb : SE T sc b cb) :
    SI T sc tg (.Call (.Name "range" p) [a, b] [] pos) (.range2 ca cb) := fun Z X ok => by
  refine ⟨fun pins s σ H RR I hh => ?_⟩
  obtain ⟨se, h0, R, q, h1, S, b0, D, e, k⟩ := hh
  simp only [evI] at e
  obtain ⟨w, h2, e1, e⟩ := Res.bind_eq e
  obtain ⟨w2, h3, e2, e⟩ := Res.bind_eq e
  split at e
  case h_2 => cases e
  rename_i i j e0
  split at e
  case isFalse => cases e
  rename_i hj
  cases e
  have e3 : evEs Z.g [ca, cb] se h0 = .ok [.int i, .int j] h1 := by rw [evEs_cons hc, e1, Res.bind_ok, evEs_cons hc2, e2]; rfl
  refine (pi_range2 (gl_of ok hg) (ok.blt _ hm) (cons_a hs hc ha (cons_a hs2 hc2 hb nil_a) Z X ok) ((star1 hs).trans (by rw [star1 hs2]; rfl)) (star1 hs2)).run pins _ σ H RR I ?_
  refine more S b0 D e3 fun R' H' xs X' S' b' D' dx => ?_
  obtain ⟨x, ys, rfl, d1, y, zs, rfl, d2, d3⟩ := dx
  rw [show zs = [] from d3, show x = .int i from d1, show y = .int j from d2]
  have hl : lim = 16777216 := rfl
  exact ⟨i, j, rfl, ⟨by omega, by omega, by omega, by omega⟩, k R' H' _ X' S' D' (range_itD i (j - i).toNat)⟩
theorem zip_i {p tpos : Pos} {elts : List Expr} {kk : Nat} (hg : isGl sc "zip" = true) (hm : ("zip" : Str) ∈ T.blt) (hs : starred a = false) (hc : starC ca = false) (hs2 : starred b = false) (hc2 : starC cb = false) (ha : SE T sc a ca) (hb : SE T sc b cb) :
    SI T sc (.Tuple elts kk tpos) (.Call (.Name "zip" p) [a, b] [] pos) (.zip ca cb) := fun Z X ok => by
  refine ⟨fun pins s σ H RR I hh => ?_⟩
  obtain ⟨se, h0, R, q, h1, S, b0, D, e, k⟩ := hh
  simp only [evI] at e
  obtain ⟨w, h2, e1, e⟩ := Res.bind_eq e
  obtain ⟨w2, h3, e2, e⟩ := Res.bind_eq e
  split at e
  case h_2 => cases e
  rename_i vs gd ws gd2 hv hw
  cases e
  have e3 : evEs Z.g [ca, cb] se h0 = .ok [w, w2] h1 := by rw [evEs_cons hc, e1, Res.bind_ok, evEs_cons hc2, e2]; rfl
  have hz : noStar [b] = true := by simp [noStar, hs2]
  refine (pi_Z (gl_of ok hg) (ok.blt _ hm) (cons_a hs hc ha (cons_a hs2 hc2 hb nil_a) Z X ok) (star1 hs) (any_no hz)).run pins _ σ H RR I ?_
  refine more S b0 D e3 fun R' H' xs X' S' b' D' dx => ?_
  obtain ⟨x, ys, rfl, d1, y, zs, rfl, d2, d3⟩ := dx
  rw [show zs = [] from d3]
  obtain ⟨hv, n1⟩ := itOf2_of hv
  obtain ⟨hw, n2⟩ := itOf2_of hw
  obtain ⟨r, rfl, hr⟩ := itOf_src S' hv d1 n1
  obtain ⟨q, rfl, hq⟩ := itOf_src S' hw d2 n2
  obtain ⟨xs0, f1, _⟩ := hr R' h1 H' (Ext.refl _ _) S' (guard_of hv)
  obtain ⟨ys0, f2, _⟩ := hq R' h1 H' (Ext.refl _ _) S' (guard_of hw)
  rw [← ok.K]
  refine ⟨r, q, xs0, ys0, rfl, f1, f2, k R' H' _ X' S' D' fun R2 h2 H2 X2 S2 g => ?_⟩
  obtain ⟨g1, g2⟩ := guard_app g
  obtain ⟨xs2, k1, dl1⟩ := hr R2 h2 H2 X2 S2 g1
  obtain ⟨ys2, k2, dl2⟩ := hq R2 h2 H2 X2 S2 g2
  refine ⟨fun i v hv2 => ?_, ?_⟩
  · obtain ⟨a1, b1, q1, q2, rfl⟩ := pairs_get vs ws i v hv2
    obtain ⟨x1, j1, e1'⟩ := dl1.get q1
    obtain ⟨y1, j2, e2'⟩ := dl2.get q2
    refine ⟨⟨xs2, ys2, x1, y1, k1, k2, j1, j2⟩, fun x3 H3 ⟨TT, x4, y4, u1, u2, u3, u4, u5⟩ => ?_⟩
    have v1 := u4 xs2 k1
    have v2 := u5 ys2 k2
    rw [j1] at v1; cases v1
    rw [j2] at v2; cases v2
    subst u1 u3
    exact pair_new S2 u2 e1' e2'
  · rw [pairs_len]
    have l1 := dl1.length
    have l2 := dl2.length
    exact ⟨xs2, ys2, k1, k2, by omega, by omega, by omega⟩
theorem enum_i {p tpos : Pos} {elts : List Expr} {kk : Nat} (hg : isGl sc "enumerate" = true) (hm : ("enumerate" : Str) ∈ T.blt) (hs : starred a = false) (hc : starC ca = false) (ha : SE T sc a ca) :
    SI T sc (.Tuple elts kk tpos) (.Call (.Name "enumerate" p) [a] [] pos) (.enum ca) := fun Z X ok => by
  refine ⟨fun pins s σ H RR I hh => ?_⟩
  obtain ⟨se, h0, R, q, h1, S, b0, D, e, k⟩ := hh
  simp only [evI] at e
  obtain ⟨w, h2, e1, e⟩ := Res.bind_eq e
  split at e
  case h_2 => cases e
  rename_i vs gd hv
  cases e
  have e2 : evEs Z.g [ca] se h0 = .ok [w] h1 := by rw [evEs_cons hc, e1]; rfl
  refine (pi_enum (gl_of ok hg) (ok.blt _ hm) (cons_a hs hc ha nil_a Z X ok) (star1 hs)).run pins _ σ H RR I ?_
  refine more S b0 D e2 fun R' H' xs X' S' b' D' dx => ?_
  obtain ⟨x, ys, rfl, d1, d2⟩ := dx
  rw [show ys = [] from d2]
  obtain ⟨a, rfl, hr⟩ := itOfL_src S' hv d1
  obtain ⟨xs0, f1, _⟩ := hr R' h1 H' (Ext.refl _ _) S' (guard_ofL hv)
  rw [← ok.K]
  refine ⟨a, xs0, rfl, f1, k R' H' _ X' S' D' fun R2 h2 H2 X2 S2 g => ?_⟩
  obtain ⟨xs2, k1, dl1⟩ := hr R2 h2 H2 X2 S2 g
  refine ⟨fun i v hv2 => ?_, ⟨xs2, k1, by rw [enum_len, dl1.length]; exact Nat.le_refl _⟩⟩
  obtain ⟨u, q1, rfl⟩ := enum_get vs 0 i v hv2
  obtain ⟨x1, j1, e1'⟩ := dl1.get q1
  refine ⟨⟨xs2, x1, k1, j1⟩, fun x3 H3 ⟨TT, x4, u1, u2, u3, u4⟩ => ?_⟩
  have v1 := u4 xs2 k1
  rw [j1] at v1; cases v1
  subst u1 u3
  rw [Nat.zero_add]
  exact pair_new S2 u2 rfl e1'
end
end Co
end

section
set_option linter.all false
set_option maxRecDepth 100000
set_option autoImplicit false
/-! Co13: comprehensions. -/
namespace Co
open PySem PySem.Spec
                        PyProof.Rows L2
/-! ### regions -/
section
variable {K : PySem.W.Frag} {C : Nat → Addr} {R R' : Rg} {H : Hp}
/-- another region under the same heap -/
structure Sub (R R' : Rg) : Prop where
  own : ∃ r, R'.own = R.own ++ r
  out : ∀ a, a ∉ R → a ∉ R'
mutual
theorem Den.sub (e : Sub R R') : ∀ (v : Val) (x : V), Den K C R H v x → Den K C R' H v x
  | .non, _, h => h
  | .bl _, _, h => h
  | .int _, _, h => h
  | .str _, _, h => h
  | .tup vs, x, h => by
    obtain ⟨a, xs, q, t, d⟩ := h
    exact ⟨a, xs, q, ⟨t.1, t.2.elim (fun z => .inl ⟨z.1, e.out a z.2⟩) .inr⟩, DenL.sub e vs xs d⟩
  | .lst vs, x, h => by
    obtain ⟨a, xs, q, t, d⟩ := h
    exact ⟨a, xs, q, ⟨t.1, t.2.1, e.out a t.2.2⟩, DenL.sub e vs xs d⟩
  | .ro vs, x, h => by
    obtain ⟨a, xs, q, t, d⟩ := h
    exact ⟨a, xs, q, ⟨t.1, t.2.elim (fun z => .inl ⟨z.1, e.out a z.2⟩) .inr⟩, DenL.sub e vs xs d⟩
  | .dct vs, x, h => by
    obtain ⟨a, xs, q, t, n, d⟩ := h
    exact ⟨a, xs, q, t, e.out a n, DenK.sub e vs xs d⟩
  | .ins c vs, x, h => by
    obtain ⟨a, dx, gs, q, t, n, d⟩ := h
    exact ⟨a, dx, gs, q, t, e.out a n, DenK.sub e vs _ d⟩
  | .ref n, x, h => by
    obtain ⟨a, q, r⟩ := h
    obtain ⟨r', er⟩ := e.own
    exact ⟨a, by rw [er, List.getElem?_append_left (List.getElem?_eq_some_iff.mp q).1]; exact q, r⟩
theorem DenL.sub (e : Sub R R') : ∀ (vs : List Val) (xs : List V), DenL K C R H vs xs → DenL K C R' H vs xs
  | [], _, h => h
  | v :: r, _, h => by
    obtain ⟨x, ys, q, d, d2⟩ := h
    exact ⟨x, ys, q, Den.sub e v x d, DenL.sub e r ys d2⟩
theorem DenK.sub (e : Sub R R') : ∀ (vs : List (Key × Val)) (xs : List (Key × V)), DenK K C R H vs xs → DenK K C R' H vs xs
  | [], _, h => h
  | (k, v) :: r, _, h => by
    obtain ⟨x, ys, q, d, d2⟩ := h
    exact ⟨x, ys, q, Den.sub e v x d, DenK.sub e r ys d2⟩
end
theorem ObD.sub (e : Sub R R') {ob : Ob} {u : Option HO} (q : ObD K C R H ob u) : ObD K C R' H ob u := by
  cases ob with
  | lst vs =>
    cases u with
    | none => exact q.elim
    | some u => cases u <;> first | exact q.elim | exact ⟨q.1, q.2.sub e⟩
  | ins c kvs =>
    cases u with
    | none => exact q.elim
    | some u => cases u <;> first | exact q.elim | exact ⟨q.1, DenK.sub e _ _ q.2⟩
theorem DenS.sub {s : Env} {σ : L2.St} (d : DenS K C R H s σ) (e : Sub R R') : DenS K C R' H s σ :=
  ⟨d.1, fun i v q => let ⟨x, a, b⟩ := d.2 i v q; ⟨x, a, b.sub e⟩⟩
end
section
variable {Z : Sx} {R R1 R' : Rg} {h h' : Hh} {H H1 H' : Hp}
/-- an address kept out -/
def Rg.put (R : Rg) (p : Addr) : Rg := ⟨R.own, p :: R.no⟩
theorem Sim.put (S : SimZ Z R h H) {p : Addr} (n : H p = none) (o : HO) : SimZ Z (R.put p) h (upd H p o) ∧ Ext R (R.put p) H (upd H p o) := by
  have X : Ext R (R.put p) H (upd H p o) := by
    have X0 : Ext R R H (upd H p o) := Ext.new n
    refine ⟨⟨[], by simp [Rg.put], by simp⟩, fun a m => ?_, fun a m => List.mem_cons_of_mem _ m, X0.keep, X0.there⟩
    rcases List.mem_cons.mp m with e | m
    · rw [e]; exact .inr n
    · exact .inl m
  refine ⟨⟨S.len, S.nd, fun a m m2 => ?_, fun i ob a e r => ?_, S.cl, S.le, fun a m => ?_⟩, X⟩
  · rcases List.mem_cons.mp m2 with e | m2
    · rw [e] at m
      exact (S.notin n) (.inl m)
    · exact S.dj a m m2
  · have q := S.obj i ob a e r
    have np : a ≠ p := by
      intro z
      subst z
      rw [n] at q
      cases ob <;> exact q.elim
    rw [upd_ne np]
    exact ObD.mono q X
  · rcases List.mem_cons.mp m with e | m
    · rw [e, upd_same]; exact fun z => by cases z
    · exact X.there a (S.nn a m)
/-- what is kept out changes -/
theorem Ext.putW {p : Addr} {o : HO} (X : Ext R R' H H') (n : H p = none) (hp : H' p ≠ none) : Ext R R' H (upd H' p o) :=
  ⟨X.more, X.no, X.yes, fun a u e m => by rw [upd_ne (ne_of_none e n)]; exact X.keep a u e m, fun a e => by
    by_cases q : a = p
    · rw [q, upd_same]; exact fun z => by cases z
    · rw [upd_ne q]; exact X.there a e⟩
theorem Ext.self {p : Addr} {o u : HO} (hp : H p = some u) : (∀ a x, H a = some x → a ∉ R → a ≠ p → upd H p o a = some x) := fun a x e _ q => by rw [upd_ne q]; exact e
mutual
theorem Den.putW {p : Addr} {o : HO} (hp : p ∈ R.no) : ∀ (v : Val) (x : V), Den Z.K Z.C R H v x → Den Z.K Z.C R (upd H p o) v x
  | .non, _, h => h
  | .bl _, _, h => h
  | .int _, _, h => h
  | .str _, _, h => h
  | .tup vs, x, h => by
    obtain ⟨a, xs, q, t, d⟩ := h
    refine ⟨a, xs, q, ⟨t.1, t.2.elim (fun z => .inl ⟨?_, z.2⟩) .inr⟩, DenL.putW hp vs xs d⟩
    have ne : a ≠ p := fun e => z.2 (by rw [e]; exact .inr hp)
    unfold Rd at z ⊢
    rw [upd_ne ne]
    exact z.1
  | .lst vs, x, h => by
    obtain ⟨a, xs, q, t, d⟩ := h
    have ne : a ≠ p := fun e => t.2.2 (by rw [e]; exact .inr hp)
    exact ⟨a, xs, q, ⟨t.1, by rw [upd_ne ne]; exact t.2.1, t.2.2⟩, DenL.putW hp vs xs d⟩
  | .ro vs, x, h => by
    obtain ⟨a, xs, q, t, d⟩ := h
    refine ⟨a, xs, q, ⟨t.1, t.2.elim (fun z => .inl ⟨?_, z.2⟩) .inr⟩, DenL.putW hp vs xs d⟩
    have ne : a ≠ p := fun e => z.2 (by rw [e]; exact .inr hp)
    unfold Rd at z ⊢
    rw [upd_ne ne]
    exact z.1
  | .dct vs, x, h => by
    obtain ⟨a, xs, q, t, n, d⟩ := h
    have ne : a ≠ p := fun e => n (by rw [e]; exact .inr hp)
    exact ⟨a, xs, q, by rw [upd_ne ne]; exact t, n, DenK.putW hp vs xs d⟩
  | .ins c vs, x, h => by
    obtain ⟨a, dx, gs, q, t, n, d⟩ := h
    have ne : a ≠ p := fun e => n (by rw [e]; exact .inr hp)
    exact ⟨a, dx, gs, q, by rw [upd_ne ne]; exact t, n, DenK.putW hp vs _ d⟩
  | .ref n, x, h => h
theorem DenL.putW {p : Addr} {o : HO} (hp : p ∈ R.no) : ∀ (vs : List Val) (xs : List V), DenL Z.K Z.C R H vs xs → DenL Z.K Z.C R (upd H p o) vs xs
  | [], _, h => h
  | v :: r, _, h => by
    obtain ⟨x, ys, q, d, d2⟩ := h
    exact ⟨x, ys, q, Den.putW hp v x d, DenL.putW hp r ys d2⟩
theorem DenK.putW {p : Addr} {o : HO} (hp : p ∈ R.no) : ∀ (vs : List (Key × Val)) (xs : List (Key × V)), DenK Z.K Z.C R H vs xs → DenK Z.K Z.C R (upd H p o) vs xs
  | [], _, h => h
  | (k, v) :: r, _, h => by
    obtain ⟨x, ys, q, d, d2⟩ := h
    exact ⟨x, ys, q, Den.putW hp v x d, DenK.putW hp r ys d2⟩
end
theorem Sim.putW (S : SimZ Z R h H) {p : Addr} (hp : p ∈ R.no) (o : HO) : SimZ Z R h (upd H p o) := by
  refine ⟨S.len, S.nd, S.dj, fun i ob a e r => ?_, S.cl, S.le, fun a m => ?_⟩
  · have q := S.obj i ob a e r
    have np : a ≠ p := fun z => S.dj a (List.mem_of_getElem? r) (by rw [z]; exact hp)
    rw [upd_ne np]
    cases ob with
    | lst vs =>
      cases ha : H a with
      | none => rw [ha] at q; exact q.elim
      | some u =>
        rw [ha] at q
        cases u <;> first | exact q.elim | exact ⟨q.1, DenL.putW hp _ _ q.2⟩
    | ins c kvs =>
      cases ha : H a with
      | none => rw [ha] at q; exact q.elim
      | some u =>
        rw [ha] at q
        cases u <;> first | exact q.elim | exact ⟨q.1, DenK.putW hp _ _ q.2⟩
  · by_cases q : a = p
    · rw [q, upd_same]; exact fun z => by cases z
    · rw [upd_ne q]; exact S.nn a m
/-- what was kept out is a list of ours -/
theorem Sim.adopt (S : SimZ Z R h H) (hb : Z.g.base ≤ h.length) {p : Addr} (hp : p ∈ R.no) {no : List Addr} (hno : ∀ a ∈ no, a ∈ R.no) (hn : p ∉ no) {vs : List Val} {xs : List V} (t : H p = some (.lst xs)) (hl : xs.length ≤ sizeLine) (d : DenLZ Z R H vs xs) :
    SimZ Z ⟨R.own ++ [p], no⟩ (h ++ [.lst vs]) H ∧ Sub R ⟨R.own ++ [p], no⟩ := by
  have hs : Sub R ⟨R.own ++ [p], no⟩ := by
    refine ⟨⟨[p], rfl⟩, fun a m => ?_⟩
    rintro (q | q)
    · rcases List.mem_append.mp
                            q with q | q
      · exact m (.inl q)
      · rw [List.mem_singleton.mp q] at m; exact m (.inr hp)
    · exact m (.inr (hno a q))
  have nR : p ∉ R.own := fun z => S.dj p z hp
  refine ⟨⟨by simp [S.len], ?_, fun a m m2 => ?_, fun i ob a e r => ?_, fun b hb2 i ob hi e => ?_, S.le, fun a m => S.nn a (hno a m)⟩, hs⟩
  · show (R.own ++ [p]).Nodup
    rw [List.nodup_append]
    refine ⟨S.nd, by simp, fun a ha b hb2 => ?_⟩
    rw [List.mem_singleton.mp hb2]
    exact fun z => nR (by rw [← z]; exact ha)
  · have m : a ∈ R.own ++ [p] := m
    rcases List.mem_append.mp m with m | m
    · exact S.dj a m (hno a m2)
    · rw [List.mem_singleton.mp m] at m2; exact hn m2
  · have r : (R.own ++ [p])[i]? = some a := r
    by_cases hi : i < h.length
    · rw [List.getElem?_append_left hi] at e
      rw [List.getElem?_append_left (by rw [S.len]; exact hi)] at r
      exact (S.obj i ob a e r).sub hs
    · have hi2 : i = h.length := by
        have := (List.getElem?_eq_some_iff.mp e).1
        simp at this
        omega
      subst hi2
      rw [List.getElem?_append_right (Nat.le_refl _), Nat.sub_self] at e
      rw [← S.len, List.getElem?_append_right (Nat.le_refl _), Nat.sub_self] at r
      cases e; cases r
      rw [t]
      exact ⟨hl, d.sub hs⟩
  · have : i < h.length := Nat.lt_of_lt_of_le hi (Nat.le_trans (S.le b hb2) hb)
    rw [List.getElem?_append_left this] at e
    exact S.cl b hb2 i ob hi e
theorem Sim.less (S : SimZ Z R h H) {no : List Addr} (hno : ∀ a ∈ no, a ∈ R.no) : SimZ Z ⟨R.own, no⟩ h H ∧ Sub R ⟨R.own, no⟩ := by
  have hs : Sub R ⟨R.own, no⟩ := ⟨⟨[], by simp⟩, fun a m => by
    rintro (q | q)
    · exact m (.inl q)
    · exact m (.inr (hno a q))⟩
  exact ⟨⟨S.len, S.nd, fun a m m2 => S.dj a m (hno a m2), fun i ob a e r => (S.obj i ob a e r).sub hs, S.cl, S.le, fun a m => S.nn a (hno a m)⟩, hs⟩
end
end Co
end

section
set_option linter.all false
set_option maxRecDepth 100000
set_option autoImplicit false
/-! Co14: comprehensions, ended. -/
namespace Co
open PySem PySem.Spec
                        PyProof.Rows L2
/-! ### names that are set -/
theorem wipe_comm {σ : L2.St} {i : Nat} {x : Option V} : ∀ {vs : List Nat}, i ∉ vs → wipe (σ.set i x) vs = (wipe σ vs).set i x
  | [], _ => rfl
  | v :: vs, h => by
    simp only [List.mem_cons, not_or] at h
    unfold wipe
    rw [wipe_comm h.2, List.set_comm _ _ h.1]
theorem wipe_set {σ : L2.St} {i : Nat} {x : Option V} : ∀ {vs : List Nat}, i ∈ vs → wipe (σ.set i x) vs = wipe σ vs
  | v :: vs, h => by
    unfold wipe
    by_cases hi : i ∈ vs
    · rw [wipe_set hi]
    · have e : i = v := by
        rcases List.mem_cons.mp
                                h with e | e
        · exact e
        · exact absurd e hi
      subst e
      rw [wipe_comm hi, List.set_set]
theorem wipe_wipe {σ : L2.St} : ∀ {vs ws : List Nat}, (∀ v ∈ vs, v ∈ ws) → wipe (wipe σ vs) ws = wipe σ ws
  | [], _, _ => rfl
  | v :: vs, ws, h => by
    show wipe ((wipe σ vs).set v none) ws = _
    rw [wipe_set (h v List.mem_cons_self), wipe_wipe fun u hu => h u (List.mem_cons_of_mem _ hu)]
def gSeq (K : PySem.W.Frag) (n : Nat) (t : TGs) : TG := fun v σ H Q => ∃ a xs, v = .ref a ∧ (SqT K H a xs ∨ SqL K H a xs) ∧ xs.length = n ∧ t xs σ H Q
def gNames : List Nat → TGs
  | [] => gNil
  | i :: r => gCons (gName i) (gNames r)
def trGn (K : PySem.W.Frag) (one : Bool) (tg : List Nat) : TG := if one = true then (match tg with | [i] => gName i | _ => fun _ _ _ _ => False) else gSeq K tg.length (gNames tg)
theorem pg_seq {X : Cx} {es : List Expr} {k : Nat} {t : TGs} {n : Nat} {pos : Pos} (hc : X.calm = true) (h : PGs X es t) (hn : (assignEach es X.env).length = n) (hst : (assignEach es X.env).findIdx? (·.1) = none) : PG X (.Tuple es k pos) (gSeq X.K n t) := by
  refine
                          ⟨fun pins s σ H v u Q I r hw => ?_⟩
  obtain
                          ⟨a, xs, e1, hq, hl, hw⟩ := hw
  rcases hq with hq | hq
  · exact (pg_tup hc h hn hst).run pins s σ H v u Q I r ⟨a, xs, e1, hq, hl, hw⟩
  · exact (pg_lst hc h hn hst).run pins s σ H v u Q I r ⟨a, xs, e1, hq, hl, hw⟩
/-- the names may be set -/
def nmOk (N : List Str) (can : Str → Bool) : List Expr → List Nat → Bool
  | [], [] => true
  | .Name x _ :: r, i :: is => decide (N[i]? = some x) && (can x && nmOk N can r is)
  | _, _ => false
theorem nm_each {N : List Str} {can : Str → Bool} {env : PySem.Env} : ∀ {es : List Expr} {is : List Nat}, nmOk N can es is = true → (assignEach es env).length = is.length ∧ (assignEach es env).findIdx? (·.1) = none
  | [], [], _ => ⟨rfl, rfl⟩
  | [], _ :: _, h => by simp [nmOk] at h
  | .Name x p :: r, i :: is, h => by
    simp only [nmOk, Bool.and_eq_true] at h
    obtain ⟨h1, h2⟩ := nm_each (env := env) h.2.2
    refine ⟨?_, ?_⟩
    · show (assignEach r env).length + 1 = is.length + 1
      rw [h1]
    · show List.findIdx? _ ((false, assign (.Name x p) env) :: assignEach r env) = none
      rw [List.findIdx?_cons, h2]
      rfl
  | .Name x p :: r, [], h => by simp [nmOk] at h
theorem nm_pgs {X : Cx} {can : Str → Bool} (hN : X.N.Nodup) (hcan : ∀ x, can x = true → Loc X.env.scope x ∧ (X.fn x = true ∨ X.env.scope.names.lookup x = some .local)) : ∀ {es : List Expr} {is : List Nat}, nmOk X.N can es is = true → PGs X es (gNames is)
  | [], [], _ => pgs_nil
  | [], _ :: _, h => by simp [nmOk] at h
  | .Name x p :: r, i :: is, h => by
    simp only [nmOk, Bool.and_eq_true, decide_eq_true_eq] at h
    obtain ⟨c1, c2⟩ := hcan x h.2.1
    exact pgs_cons (pg_name hN h.1 c1 c2) (nm_pgs hN hcan h.2.2) rfl
  | .Name x p :: r, [], h => by simp [nmOk] at h
section
variable {Z : Sx} {R : Rg} {h : Hh} {H : Hp} {s s1 : Env} {σ : L2.St}
theorem gNames_run {Q : L2.St → Hp → Prop} : ∀ {tg : List Nat} {vs : List Val} {xs : List V} {s : Env} {σ : L2.St}, setMany tg vs s = some s1 → DenL Z.K Z.C R H vs xs → DenS Z.K Z.C R H s σ →
    (∀ σ1, DenS Z.K Z.C R H s1 σ1 → (∀ own : List Nat, (∀ i ∈ tg, i ∈ own) → wipe σ1 own = wipe σ own) → Q σ1 H) → gNames tg xs σ H Q
  | [], [], xs, s, σ, e, d, ds, k => by
    cases e
    exact ⟨d, k σ ds fun _ _ => rfl⟩
  | [], _ :: _, xs, s, σ, e, d, ds, k => by cases e
  | _ :: _, [], xs, s, σ, e, d, ds, k => by cases e
  | i :: r, v :: vs, xs, s, σ, e, d, ds, k => by
    obtain ⟨x, ys, rfl, d1, d2⟩ := d
    refine ⟨x, ys, rfl, gNames_run (show setMany r vs (s.set i (some v)) = some s1 from e) d2 (ds.set i d1) fun σ1 ds1 hw => k σ1 ds1 fun own ho => ?_⟩
    rw [hw own fun j hj => ho j (List.mem_cons_of_mem _ hj), wipe_set (ho i List.mem_cons_self)]
theorem trGn_run {X : Cx} (hK : Z.K = X.K) {one : Bool} {tg : List Nat} {v : Val} {x : V} {Q : L2.St → Hp → Prop} (S : SimZ Z R h H) (e : setT one tg v h s = some s1) (d : DenZ Z R H v x) (ds : DenS Z.K Z.C R H s σ)
    (k : ∀ σ1, DenS Z.K Z.C R H s1 σ1 → (∀ own : List Nat, (∀ i ∈ tg, i ∈ own) → wipe σ1 own = wipe σ own) → Q σ1 H) : trGn X.K one tg x σ H Q := by
  unfold setT at e
  unfold trGn
  cases one with
  | true =>
    simp only [if_true] at e ⊢
    match tg, e with
    | [], e => cases e
    | [i], e =>
      obtain ⟨y, r, e1, hg⟩ := gNames_run (Z := Z) (R := R) (tg := [i]) (vs := [v]) (xs := [x]) e ⟨x, [], rfl, d, rfl⟩ ds k
      cases e1
      exact hg.2
    | _ :: _ :: _, e => cases e
  | false =>
    simp only [Bool.false_eq_true, if_false] at e ⊢
    generalize ew : rd h v = w at e
    have main : ∀ vs : List Val, setMany tg vs s = some s1 → (∃ (a : Addr) (xs : List V), x = .ref a ∧ (SqT X.K H a xs ∨ SqL X.K H a xs) ∧ DenLZ Z R H vs xs) → gSeq X.K tg.length (gNames tg) x σ H Q := fun vs e2 ⟨a, xs, q1, q2, q3⟩ => by
      refine ⟨a, xs, q1, q2, ?_, gNames_run e2 q3 ds k⟩
      rw [← q3.length]
      have : ∀ (tg : List Nat) (vs : List Val) (s : Env), setMany tg vs s = some s1 → vs.length = tg.length := by
        intro tg
        induction tg with
        | nil => intro vs s e; cases vs <;> first | rfl | cases e
        | cons i r ih => intro vs s e; cases vs with
          | nil => cases e
          | cons v vs => exact congrArg Nat.succ (ih vs _ e)
      exact this tg vs s e2
    split at e
    · obtain ⟨a, xs, q1, t, dl⟩ := rd_tup ew d
      exact main _ e ⟨a, xs, q1, .inl (by rw [← hK]; exact t.sq), dl⟩
    · obtain ⟨a, xs, q1, t, l, dl⟩ := d.rd S ew
      exact main _ e ⟨a, xs, q1, .inr (.inl (.inl t)), dl⟩
    · cases e
end
/-! ### the block's context -/
theorem XOk.blk {T : Stc} {Z : Sx} {X : Cx} {sc : Scope} (ok : XOk T Z X sc) (s : Shared) (H : Hp) (scope : Scope) (C : Addr) (cl : List (Str × Addr)) (fp : List Addr) : XOk T Z (X.blk s H scope (compEnvC scope cl C X.env) fp) (relS scope sc) where
  K := ok.K
  N := ok.N
  nd := ok.nd
  sc := by
    show relabel scope X.env = relS scope sc
    unfold relabel relS
    rw [← ok.sc]
    rfl
  calm := ok.calm
  room := ok.room
  gd := ok.gd
  blt := ok.blt
  cst := ok.cst
  fns := ok.fns
  mks := ok.mks
  cls := ok.cls
  isb := ok.isb
  noat := ok.noat
  prs := ok.prs
/-- may a name be set in a block -/
def canB (scope rsc : Scope) (x : Str) : Bool := rsc.names.lookup x == some .local || (rsc.names.lookup x == some .cell && scope.names.lookup x == some .cell)
/-- the tests of a clause -/
def trTs (Z : Sx) : List CE → TT
  | [] => tYes
  | [c] => trT Z c
  | _ => fun _ _ _ => False
def STs (T : Stc) (sc : Scope) (es : List Expr) (cs : List CE) : Prop := ∀ (Z : Sx) (X : Cx), XOk T Z X sc → PTs X es (trTs Z cs)
theorem ts_nil {T : Stc} {sc : Scope} : STs T sc [] [] := fun Z X ok => pts_nil
theorem ts_one {T : Stc} {sc : Scope} {a : Expr} {ca : CE} (h : ST T sc a ca) : STs T sc [a] [ca] := fun Z X ok => pts_one (h Z X ok)
theorem ts_run {Z : Sx} {cs : List CE} {σ : L2.St} {H : Hp} {s : Env} {h h1 : Hh} {R : Rg} {b : Bool} {W : Bool → Hp → Prop} (hl : cs.length ≤ 1) (S : Sim Z.K Z.C Z.bs Z.g.base R h H) (hb : Z.g.base ≤ h.length) (D : DenS Z.K Z.C R H s σ) (e : evC Z.g cs s h = .ok b h1)
    (k : ∀ R' H', Ext R R' H H' → Sim Z.K Z.C Z.bs Z.g.base R' h1 H' → Z.g.base ≤ h1.length → DenS Z.K Z.C R' H' s σ → W b H') : trTs Z cs σ H W := by
  match cs, hl, e with
  | [], _, e =>
    cases e
    exact k R H (Ext.refl _ _) S hb D
  | [c], _, e =>
    simp only [evC] at e
    obtain ⟨v, h2, e1, e⟩ := Res.bind_eq e
    split at e
    · cases e
      exact ⟨s, h, R, true, h1, S, hb, D, e1, fun R' H' X' S' D' => k R' H' X' S' (base_of X' S S' hb) D'⟩
    · cases e
      exact ⟨s, h, R, false, h1, S, hb, D, e1, fun R' H' X' S' D' => k R' H' X' S' (base_of X' S S' hb) D'⟩
    · cases e
  | _ :: _ :: _, hl, _ => exact absurd hl (by simp)
theorem comp_core {T : Stc} {sc : Scope} {Z : Sx} {X : Cx} {m one : Bool} {own tg : List Nat} {ci ce : CE} {cs : List CE} {σ : L2.St} {H : Hp} {s : Env} {h h' : Hh} {R : Rg} {v : Val} {Q : VK} (ok : XOk T Z X sc) (hl : cs.length ≤ 1) (ho : ∀ i ∈ tg, i ∈ own)
    (S : Sim Z.K Z.C Z.bs Z.g.base R h H) (hb : Z.g.base ≤ h.length) (D : DenS Z.K Z.C R H s σ) (e : evE Z.g (.comp m own tg one ci cs ce) s h = .ok v h')
    (k : ∀ R' H' x, Ext R R' H H' → Sim Z.K Z.C Z.bs Z.g.base R' h' H' → DenS Z.K Z.C R' H' s σ → Den Z.K Z.C R' H' v x → Q x H') :
    tLc (trI Z ci) (trGn X.K one tg) (trTs Z cs) (trE Z ce) own σ H Q := by
  simp only [evE] at e
  obtain ⟨p, h1, e1, e⟩ := Res.bind_eq e
  split at e
  case isFalse => cases e
  rename_i hlim
  obtain ⟨vals, h2, e2, e⟩ := Res.bind_eq e
  refine ⟨s, h, R, p, h1, S, hb, D, e1, fun R1 H1 J X1 S1 D1 itd => ?_⟩
  have b1 := base_of X1 S S1 hb
  intro Dd hD
  obtain ⟨S0, X0⟩ := S1.put hD (.lst [])
  generalize hstep : (fun (v : Val) (h : Hh) => match setT one tg v h (wipeE s own) with
        | some s1 => (evC Z.g cs s1 h).bind fun b h2 => if b = true then (evE Z.g ce s1 h2).bind fun x h3 => .ok (some x) h3 else .ok none h2
        | none => (.bad : Res (Option Val))) = step at e2
  refine ⟨fun i mm Hi => i + mm = p.1.length ∧ ∃ (Ri : Rg) (hi : Hh) (accV : List Val) (accX : List V) (rest : List Val), Ext R1 Ri H1 Hi ∧ Dd ∈ Ri.no ∧ Sim Z.K Z.C Z.bs Z.g.base Ri hi Hi ∧ Hi Dd = some (.lst accX) ∧ DenL Z.K Z.C Ri Hi accV accX ∧ accX.length ≤ i ∧
      compL p.2 step (p.1.drop i) hi = .ok rest h2 ∧ vals = accV ++ rest, ⟨p.1.length, by simp, R1.put Dd, h1, [], [], vals, X0, List.mem_cons_self, S0, upd_same, rfl, Nat.le_refl _, e2, rfl⟩, ?_⟩
  rintro i mm Hi ⟨him, Ri, hi, accV, accX, rest, Xi, hno, Si, hDi, dacc, hacc, ecl, evals⟩
  have bi := base_of Xi S1 Si b1
  cases hd : p.1.drop i with
  | nil =>
    rw [hd] at ecl
    have hi_len : i = p.1.length := by
      have := congrArg List.length hd
      simp at this
      omega
    simp only [compL] at ecl
    split at ecl
    case isFalse => cases ecl
    rename_i hg
    cases ecl
    obtain ⟨_, hstop⟩ := itd Ri h2 Hi Xi Si hg
    refine .inl ⟨by rw [hi_len]; exact hstop, ?_⟩
    rw [List.append_nil] at evals
    subst evals
    have hlX : accX.length ≤ sizeLine := by rw [sz]; omega
    have hn1 : Dd ∉ R1.no := fun z => S1.nn Dd z hD
    have hn1o : ∀ a ∈ R1.no, a ∈ Ri.no := Xi.yes
    unfold allocL at e
    split at e <;> cases e
    · obtain ⟨Sa, sub⟩ := Si.adopt bi hno hn1o hn1 hDi hlX dacc
      have Xe : Ext R1 ⟨Ri.own ++ [Dd], R1.no⟩ H1 Hi := by
        refine ⟨?_, fun a q => .inl q, fun a q => q, Xi.keep, Xi.there⟩
        obtain ⟨r, q1, q2⟩ := Xi.more
        refine ⟨r ++ [Dd], by show Ri.own ++ [Dd] = _; rw [q1, List.append_assoc], fun a ha => ?_⟩
        rcases List.mem_append.mp ha with q | q
        · exact q2 a q
        · rw [List.mem_singleton.mp q]; exact hD
      refine k _ Hi _ (X1.trans Xe) Sa (((D1.mono Xi).sub sub)) ⟨Dd, ?_, rfl⟩
      · show (Ri.own ++ [Dd])[h2.length]? = some Dd
        rw [← Si.len, List.getElem?_append_right (Nat.le_refl _), Nat.sub_self]
        rfl
    · obtain ⟨Sa, sub⟩ := Si.less hn1o
      have Xe : Ext R1 ⟨Ri.own, R1.no⟩ H1 Hi := ⟨Xi.more, fun a q => .inl q, fun a q => q, Xi.keep, Xi.there⟩
      refine k _ Hi _ (X1.trans Xe) Sa ((D1.mono Xi).sub sub) ⟨Dd, accX, rfl, ⟨hlX, hDi, ?_⟩, dacc.sub sub⟩
      rintro (q | q)
      · exact Si.dj Dd q hno
      · exact hn1 q
  | cons u us =>
    rw [hd] at ecl
    have hiu : p.1[i]? = some u := by
      have := congrArg (fun l => l[0]?) hd
      simpa using this
    have hilt : i < p.1.length := (List.getElem?_eq_some_iff.mp hiu).1
    have hus : us = p.1.drop (i + 1) := by
      have := congrArg List.tail hd
      simpa using this.symm
    simp only [compL] at ecl
    split at ecl
    case isFalse => cases ecl
    rename_i hg
    obtain ⟨o, h3, e3, ecl⟩ := Res.bind_eq ecl
    obtain ⟨r2, h4, e4, ecl⟩ := Res.bind_eq ecl
    obtain ⟨hgo, _⟩ := itd Ri hi Hi Xi Si hg
    obtain ⟨go, yld⟩ := hgo i u hiu
    refine .inr ⟨go, fun H' => i + 1 + (mm - 1) = p.1.length ∧ ∃ (Ri : Rg) (hi : Hh) (accV : List Val) (accX : List V) (rest : List Val), Ext R1 Ri H1 H' ∧ Dd ∈ Ri.no ∧ Sim Z.K Z.C Z.bs Z.g.base Ri hi H' ∧ H' Dd = some (.lst accX) ∧ DenL Z.K Z.C Ri H' accV accX ∧ accX.length ≤ i + 1 ∧
      compL p.2 step (p.1.drop (i + 1)) hi = .ok rest h2 ∧ vals = accV ++ rest, fun H' w => ⟨mm - 1, by omega, w⟩, fun x H' y => ?_⟩
    obtain ⟨Xy, Sy, dx⟩ := yld x H' y
    have X2 : Ext R1 Ri H1 H' := Xi.trans Xy
    have D2 : DenS Z.K Z.C Ri H' (wipeE s own) (wipe σ own) := (D1.mono X2).wipe own
    rw [← hstep] at e3
    dsimp only at e3
    split at e3
    case h_2 => cases e3
    rename_i s1 hs1
    refine trGn_run ok.K Sy hs1 dx D2 fun σ1 D3 hw => ⟨?_, ?_⟩
    · rw [hw own ho, wipe_wipe fun v hv => hv]
    obtain ⟨b, h5, e5, e3⟩ := Res.bind_eq e3
    refine ts_run hl Sy bi D3 e5 fun R6 H6 X6 S6 b6 D6 => ?_
    cases b with
    | false =>
      simp only [Bool.false_eq_true, if_false] at e3 ⊢
      cases e3
      cases ecl
      exact ⟨by omega, R6, h3, accV, accX, _, X2.trans X6, X6.yes _ hno, S6, X6.keep _ _ (Xy.keep _ _ hDi fun q => Si.dj _ q hno) fun q => Si.dj _ q hno, (dacc.mono Xy).mono X6, by omega, by rw [← hus]; exact e4, evals⟩
    | true =>
      simp only [if_true] at e3 ⊢
      obtain ⟨w, h7, e7, e3⟩ := Res.bind_eq e3
      cases e3
      cases ecl
      refine Co.one S6 b6 D6 e7 fun R8 H8 y8 X8 S8 b8 D8 d8 => ?_
      have hD8 : H8 Dd = some (.lst accX) := X8.keep _ _ (X6.keep _ _ (Xy.keep _ _ hDi fun q => Si.dj _ q hno) fun q => Si.dj _ q hno) fun q => S6.dj _ q (X6.yes _ hno)
      have hn8 : Dd ∈ R8.no := X8.yes _ (X6.yes _ hno)
      refine ⟨accX, hD8, by rw [sz]; omega, by omega, R8, h3, accV ++ [w], accX ++ [y8], r2, ((X2.trans X6).trans X8).putW hD (by rw [hD8]; exact fun z => by cases z), hn8, S8.putW hn8 _, upd_same, DenL.putW hn8 _ _ ((((dacc.mono Xy).mono X6).mono X8).append ⟨y8, [], rfl, d8, rfl⟩), by rw [List.length_append]; show accX.length + 1 ≤ i + 1; omega, by rw [← hus]; exact e4, by rw [evals]; simp⟩
section
variable {T : Stc} {sc : Scope} {a b c : Expr} {ca cb cc : CE} {pos : Pos}
/-- the target of a clause -/
def tgOk (N : List Str) (can : Str → Bool) (one : Bool) (tg : List Nat) : Expr → Bool
  | .Name x p => one && nmOk N can [.Name x p] tg
  | .Tuple es _ _ => !one && nmOk N can es tg
  | _ => false
theorem tg_pg {X : Cx} {can : Str → Bool} {one : Bool} {tg : List Nat} {e : Expr} (hc : X.calm = true) (hN : X.N.Nodup) (hcan : ∀ x, can x = true → Loc X.env.scope x ∧ (X.fn x = true ∨ X.env.scope.names.lookup x = some .local)) (h : tgOk X.N can one tg e = true) : PG X e (trGn X.K one tg) := by
  cases e <;> simp only [tgOk, Bool.false_eq_true] at h
  case Name x p =>
    simp only
                            [Bool.and_eq_true] at h
    obtain ⟨rfl, h⟩ := h
    match tg, h with
    | [], h => simp [nmOk] at h
    | [i], h =>
      simp only [nmOk, Bool.and_eq_true, decide_eq_true_eq] at h
      obtain ⟨c1, c2⟩ := hcan x h.2.1
      exact pg_name hN h.1 c1 c2
    | i :: j :: r, h => simp [nmOk] at h
  case Tuple es k p =>
    simp only [Bool.and_eq_true,
                            Bool.not_eq_true'] at h
    obtain ⟨rfl, h⟩ := h
    obtain ⟨h1, h2⟩ := nm_each (env := X.env) h
    exact pg_seq hc (nm_pgs hN hcan h) h1 h2
theorem can_b {X : Cx} {scope rsc : Scope} (hsc : X.env.scope = rsc) (hfn : X.fn = fun x => scope.names.lookup x == some .cell) (x : Str) (h : canB scope rsc x = true) : Loc X.env.scope x ∧ (X.fn x = true ∨ X.env.scope.names.lookup x = some .local) := by
  simp only [canB, Bool.or_eq_true, Bool.and_eq_true] at h
  rcases h with h | ⟨h1, h2⟩
  · have : rsc.names.lookup x = some .local := by simpa using h
    exact ⟨.inl (by rw [hsc]; exact this), .inr (by rw [hsc]; exact this)⟩
  · have : rsc.names.lookup x = some .cell := by simpa using h1
    exact ⟨.inr (by rw [hsc]; exact this), .inl (by rw [hfn]; exact h2)⟩
theorem comp_e {m one : Bool} {tg : List Nat} {own : List (Str × Nat)} {elt tge iter : Expr} {ifs : List Expr} {scope : Scope} {ci ce : CE} {cs : List CE} (hset : notSet iter = true) (hok : BlkOk T.N sc scope own) (hl : cs.length ≤ 1) (ho : ∀ i ∈ tg, i ∈ own.map (·.2))
    (htg : tgOk T.N (canB scope (relS scope sc)) one tg tge = true) (hi : SI T sc tge iter ci) (ht : STs T (relS scope sc) ifs cs) (he : SE T (relS scope sc) elt ce) :
    SE T sc (.ListComp elt [⟨tge, iter, ifs, 0⟩] scope pos) (.comp m (own.map (·.2)) tg one ci cs ce) := fun Z X ok => by
  refine
                          ⟨fun pins s σ H Q I h => ?_⟩
  obtain ⟨se, h0, R, v, h1, S, b0, D, e, k⟩ := h
  refine (pe_lc (wi := trI Z ci) (g := trGn X.K one tg) (tt := trTs Z cs) (te := trE Z ce) ok.calm (by rw [ok.N]; exact ok.nd) (hi Z X ok) (by rw [ok.N, ok.sc]; exact hok) (fun s H C cl fp => ?_) (fun s H C cl fp => ht Z _ (ok.blk s H scope C cl fp)) (fun s H C cl fp => he Z _ (ok.blk s H scope C cl fp)) (fun x => ?_)).run pins _ σ H Q I (comp_core ok hl ho S b0 D e k)
  · refine tg_pg (X := X.blk s H scope (compEnvC scope cl C X.env) fp) ok.calm (by show X.N.Nodup; rw [ok.N]; exact ok.nd) (can_b (ok.blk s H scope C cl fp).sc rfl) ?_
    show tgOk X.N _ one tg tge = true
    rw [ok.N]
    exact htg
  · unfold foldedSetIterable
    cases iter <;> first | rfl | cases hset
/-! ### dict displays -/
/-- the pairs of a display -/
def SPr (T : Stc) (sc : Scope) (keys : List (Option Expr)) (ks : List Key) (vals : List Expr) (ces : List CE) : Prop := ∀ (Z : Sx) (X : Cx), XOk T Z X sc → ∀ pos : Pos, ∃ trs : List (TE × TE), PPs X pos keys vals trs ∧
  ∀ (σ : L2.St) (H : Hp) (Q : List (V × V) → Hp → Prop) (s : Env) (h h' : Hh) (R : Rg) (vs : List Val), SimZ Z R h H → Z.g.base ≤ h.length → DenS Z.K Z.C R H s σ → evEs Z.g ces s h = .ok vs h' →
    (∀ R' H' xs, Ext R R' H H' → SimZ Z R' h' H' → DenS Z.K Z.C R' H' s σ → DenLZ Z R' H' vs xs → Q ((ks.zip xs).map fun kv => (kV kv.1, kv.2)) H') → tPairs trs σ H Q
theorem nil_p : SPr T sc [] [] [] [] := fun Z X ok pos => ⟨[], pps_nil, fun σ H Q s h h' R vs S hb D e k => by
  cases e
  exact k R H [] (Ext.refl R H) S D rfl⟩
theorem cons_p {keys : List (Option Expr)} {ks : List Key} {vals : List Expr} {ces : List CE} {kx : Expr} {key : Key} (hc : starC ca = false) (hk : ∀ X : Cx, PE X kx (tC (kV key))) (ha : SE T sc a ca) (hr : SPr T sc keys ks vals ces) : SPr T sc (some kx :: keys) (key :: ks) (a :: vals) (ca :: ces) := fun Z X ok pos => by
  obtain ⟨trs, hp, hq⟩ := hr Z X ok pos
  refine ⟨(tC (kV key), trE Z ca) :: trs, pps_cons (hk X) (ha Z X ok) hp, fun σ H Q s h h' R vs S hb D e k => ?_⟩
  rw [evEs_cons hc] at e
  obtain ⟨v, h2, e1, e⟩ := Res.bind_eq e
  obtain ⟨ws, h3, e2, e⟩ := Res.bind_eq e
  cases e
  show trE Z ca σ H fun y H2 => tPairs trs σ H2 fun ps H3 => Q ((kV key, y) :: ps) H3
  exact Co.one S hb D e1 fun R1 H1 y X1 S1 b1 D1 dy => hq σ H1 _ s h2 _ R1 ws S1 b1 D1 e2 fun R2 H2 xs X2 S2 D2 dx => k R2 H2 (y :: xs) (X1.trans X2) S2 D2 ⟨y, xs, rfl, dy.mono X2, dx⟩
theorem merge_nd : ∀ {more kvs : List (Key × V)}, ((kvs ++ more).map (·.1)).Nodup → mergeK kvs more = kvs ++ more
  | [], kvs, _ => (List.append_nil kvs).symm
  | p :: r, kvs, h => by
    have e : putK kvs p.1 p.2 = kvs ++ [p] := by
      unfold putK
      have : (kvs.any fun kv => decide (kv.1 = p.1)) = false := by
        rw [Bool.eq_false_iff]
        intro q
        obtain ⟨kv, m, z⟩ := List.any_eq_true.mp q
        rw [List.map_append, List.map_cons, List.nodup_append] at h
        exact h.2.2 kv.1 (List.mem_map_of_mem m) p.1 List.mem_cons_self (of_decide_eq_true z)
      rw [this]
      rfl
    show mergeK (putK kvs p.1 p.2) r = _
    rw [e, merge_nd (by rw [List.append_assoc]; exact h), List.append_assoc]
    rfl
theorem zip_denK {K : PySem.W.Frag} {C : Nat → Addr} {R : Rg} {H : Hp} : ∀ {ks : List Key} {vs : List Val} {xs : List V}, DenL K C R H vs xs → DenK K C R H (ks.zip vs) (ks.zip xs)
  | [], _, _, _ => rfl
  | k :: ks, [], _, d => by rw [show _ = ([] : List V) from d]; rfl
  | k :: ks, v :: vs, _, d => by
    obtain ⟨x, ys, rfl, d1, d2⟩ := d
    exact ⟨x, _, rfl, d1, zip_denK d2⟩
theorem disp_e {keys : List (Option Expr)} {ks : List Key} {vals : List Expr} {ces : List CE} (hall : keys.all (·.isSome) = true) (hl : keys.length = vals.length) (h0 : keys ≠ []) (h15 : keys.length ≤ 15) (hp : SPr T sc keys ks vals ces) : SE T sc (.Dict keys vals pos) (.dct ks ces) := fun Z X ok => by
  refine
                          ⟨fun pins s σ H Q I h => ?_⟩
  obtain ⟨se, h1, R, v, h2, S, b0, D, e, k⟩ := h
  simp only [evE] at e
  obtain ⟨vs, h3, e1, e⟩ := Res.bind_eq e
  split at e <;> cases e
  rename_i hc
  obtain ⟨trs, hpp, hq⟩ := hp Z X ok pos
  refine (pe_disp hpp hall hl h0 h15).run pins s σ H Q I fun p hn => ?_
  obtain ⟨S0, X0⟩ := S.put hn (.dK [])
  refine hq σ _ _ se h1 h2 (R.put p) vs S0 b0 (D.mono X0) e1 fun R' H' xs X' S' D' dx => ?_
  have hpR : p ∉ R.own := fun m => S.notin hn (.inl m)
  have hpno : p ∈ R'.no := X'.yes p List.mem_cons_self
  have hd : H' p = some (.dK []) := X'.keep p _ upd_same hpR
  have hxl : xs.length = ks.length := by rw [← dx.length, hc.1]
  refine ⟨hd, ks.zip xs, rfl, by rw [List.length_zip, hxl, Nat.min_self]; exact hc.2.1, ?_⟩
  have hm : mergeK [] (ks.zip xs) = ks.zip xs := by
    refine merge_nd ?_
    rw [List.nil_append, List.map_fst_zip (by omega)]
    exact hc.2.2
  rw [hm]
  have hn1 : p ∉ R.no := fun z => S.nn p z hn
  have hsub : ∀ q ∈ R.no, q ∈ R'.no := fun q m => X'.yes q (List.mem_cons_of_mem _ m)
  have Sw := S'.putW hpno (.dK (ks.zip xs))
  obtain ⟨Sa, sub⟩ := Sw.less hsub
  have XX : Ext R R' H H' := X0.trans X'
  have Xw : Ext R R' H (upd H' p (.dK (ks.zip xs))) := XX.putW hn (by rw [hd]; exact fun z => by cases z)
  have Xe : Ext R ⟨R'.own, R.no⟩ H (upd H' p (.dK (ks.zip xs))) := ⟨Xw.more, fun a q => .inl q, fun a q => q, Xw.keep, Xw.there⟩
  refine k _ _ _ Xe Sa (D.mono Xe) ⟨p, ks.zip xs, rfl, upd_same, ?_, zip_denK ((DenL.putW hpno _ _ dx).sub sub)⟩
  rintro (q | q)
  · exact S'.dj p q hpno
  · exact hn1 q
end
end Co
end

section
set_option linter.all false
set_option maxRecDepth 100000
set_option autoImplicit false
/-! Co15: targets, statements. -/
namespace Co
open PySem PySem.Spec
                        PyProof.Rows L2
/-- a def's own context, no exception leaves -/
structure XD (X : Cx) : Prop where
  fn : ∀ x, X.fn x = true
  px : PassesOwn (model X.prog X.w) X.A X.env X.xe
  kd : X.env.scope.kind = .function
def trG (Z : Sx) (ct : CT) : TG := fun x σ H Q => ∃ s h R v s1 h', Sim Z.K Z.C Z.bs Z.g.base R h H ∧ Z.g.base ≤ h.length ∧ DenS Z.K Z.C R H s σ ∧ Den Z.K Z.C R H v x ∧ asgT Z.g ct v s h = .ok s1 h' ∧
  ∀ R' H' σ', Ext R R' H H' → Sim Z.K Z.C Z.bs Z.g.base R' h' H' → DenS Z.K Z.C R' H' s1 σ' → Q σ' H'
def trGs (Z : Sx) (cts : List CT) : TGs := fun xs σ H Q => ∃ s h R vs s1 h', Sim Z.K Z.C Z.bs Z.g.base R h H ∧ Z.g.base ≤ h.length ∧ DenS Z.K Z.C R H s σ ∧ DenL Z.K Z.C R H vs xs ∧ asgTs Z.g cts vs s h = .ok s1 h' ∧
  ∀ R' H' σ', Ext R R' H H' → Sim Z.K Z.C Z.bs Z.g.base R' h' H' → DenS Z.K Z.C R' H' s1 σ' → Q σ' H'
def SG (T : Stc) (sc : Scope) (e : Expr) (c : CT) : Prop := ∀ (Z : Sx) (X : Cx), XOk T Z X sc → XD X → PG X e (trG Z c)
def SGs (T : Stc) (sc : Scope) (es : List Expr) (cs : List CT) : Prop := ∀ (Z : Sx) (X : Cx), XOk T Z X sc → XD X → PGs X es (trGs Z cs)
section
variable {T : Stc} {sc : Scope} {a b c : Expr} {ca cb cc : CE} {pos : Pos}
theorem name_g {x : Str} {i : Nat} (hi : T.N[i]? = some x) (hl : Loc sc x) : SG T sc (.Name x pos) (.name i) := fun Z X ok xd => by
  refine
                          ⟨fun pins s σ H v u Q I r h => ?_⟩
  obtain ⟨se, h0, R, w, s1, h1, S, b0, D, dw, e, k⟩ := h
  simp only [asgT] at e
  cases e
  exact (pg_name (i := i) (by rw [ok.N]; exact ok.nd) (by rw [ok.N]; exact hi) (by rw [ok.sc]; exact hl) (.inl (xd.fn x))).run pins s σ H v u Q I r (k R H _ (Ext.refl _ _) S (D.set i dw))
theorem nil_g : SGs T sc [] [] := fun Z X ok xd => ⟨fun pins s σ H vs us Q I r h => by
  obtain ⟨se, h0, R, ws, s1, h1, S, b0, D, dw, e, k⟩ := h
  cases ws with
  | nil =>
    simp only [asgTs] at e
    cases e
    exact pgs_nil.run pins s σ H vs us Q I r ⟨dw, k R H _ (Ext.refl _ _) S D⟩
  | cons v r => simp only [asgTs] at e; cases e⟩
theorem cons_g {es : List Expr} {ct : CT} {cts : List CT} (hs : starred a = false) (ha : SG T sc a ct) (hr : SGs T sc es cts) : SGs T sc (a :: es) (ct :: cts) := fun Z X ok xd => ⟨fun pins s σ H vs us Q I r h => by
  obtain ⟨se, h0, R, ws, s1, h1, S, b0, D, dw, e, k⟩ := h
  cases ws with
  | nil => simp only [asgTs] at e; cases e
  | cons v ws =>
    simp only [asgTs] at e
    obtain ⟨s2, h2, e1, e2⟩ := Res.bind_eq e
    obtain ⟨x, ys, rfl, d1, d2⟩ := dw
    refine (pgs_cons (ha Z X ok xd) (hr Z X ok xd) ?_).run pins s σ H _ us Q I r ⟨x, ys, rfl, se, h0, R, v, s2, h2, S, b0, D, d1, e1, fun R' H' σ' X' S' D' => ?_⟩
    · cases a <;> first | rfl | cases hs
    · exact ⟨s2, h2, R', ws, s1, h1, S', base_of X' S S' b0, D', d2.mono X', e2, fun R2 H2 σ2 X2 S2 D2 => k R2 H2 σ2 (X'.trans X2) S2 D2⟩⟩
theorem each_len {env : PySem.Env} : ∀ {es : List Expr}, noStar es = true → (assignEach es env).length = es.length ∧ (assignEach es env).findIdx? (·.1) = none
  | [], _ => ⟨rfl, rfl⟩
  | e :: r, h => by
    simp only [noStar, List.all_cons, Bool.and_eq_true, Bool.not_eq_true'] at h
    obtain ⟨h1, h2⟩ := each_len (env := env) (show noStar r = true from h.2)
    have e1 : assignEach (e :: r) env = (false, assign e env) :: assignEach r env := by
      cases e <;> first | rfl | cases h.1
    rw [e1]
    refine ⟨by rw [List.length_cons, h1, List.length_cons], ?_⟩
    rw [List.findIdx?_cons, h2]
    rfl
theorem asgTs_len {g : G} {cts : List CT} {vs : List Val} {s s1 : Env} {h h1 : Hh} (e : asgTs g cts vs s h = .ok s1 h1) : vs.length = cts.length := by
  induction cts generalizing vs s h with
  | nil =>
    cases vs with
    | nil => rfl
    | cons v r => simp only [asgTs] at e; cases e
  | cons c cts ih =>
    cases vs with
    | nil => simp only [asgTs] at e; cases e
    | cons v r =>
      simp only [asgTs] at e
      obtain ⟨s2, h2, e1, e2⟩ := Res.bind_eq e
      rw [List.length_cons, ih e2, List.length_cons]
theorem tup_g {es : List Expr} {cts : List CT} {k : Nat} (hs : noStar es = true) (hl : cts.length = es.length) (h : SGs T sc es cts) : SG T sc (.Tuple es k pos) (.tup cts) := fun Z X ok xd => by
  refine ⟨fun pins s σ H v u Q I r hh => ?_⟩
  obtain ⟨se, h0, R, w, s1, h1, S, b0, D, dw, e, k⟩ := hh
  simp only [asgT] at e
  obtain ⟨l1, l2⟩ := each_len (env := X.env) hs
  refine (pg_seq (n := es.length) ok.calm (h Z X ok xd) l1 l2).run pins s σ H v u Q I r ?_
  generalize ew : rd h0 w = ww at e
  split at e
  · obtain ⟨p, xs, rfl, t, dl⟩ := rd_tup ew dw
    exact ⟨p, xs, rfl, .inl (by rw [← ok.K]; exact t.sq), by rw [← dl.length, asgTs_len e, hl], se, h0, R, _, s1, h1, S, b0, D, dl, e, k⟩
  · obtain ⟨p, xs, rfl, t, l, dl⟩ := dw.rd S ew
    exact ⟨p, xs, rfl, .inr (.inl (.inl t)), by rw [← dl.length, asgTs_len e, hl], se, h0, R, _, s1, h1, S, b0, D, dl, e, k⟩
  · cases e
theorem ixN_lt {n : Nat} {k : Int} {j : Nat} (e : ixN n k = some j) : j < n := (ixN_seq e).2.1
theorem sub_g (hn : notSlice b = true) (ha : SE T sc a ca) (hb : SE T sc b cb) : SG T sc (.Subscript a b pos) (.sub ca cb) := fun Z X ok xd => by
  refine ⟨fun pins s σ H v u Q I r hh => ?_⟩
  obtain ⟨se, h0, R, w, s1, h1, S, b0, D, dw, e, k⟩ := hh
  simp only [asgT] at e
  obtain ⟨x, h2, e1, e⟩ := Res.bind_eq e
  obtain ⟨y, h3, e2, e⟩ := Res.bind_eq e
  split at e
  case h_2 => cases e
  rename_i n kk e0
  split at e
  case h_2 => cases e
  rename_i ws hws
  split at e
  case h_2 => cases e
  rename_i j hj
  split at e
  case isFalse => cases e
  rename_i hm
  cases e
  refine (pg_sub (ha Z X ok) (hb Z X ok) set_list ?_).run pins s σ H v u Q I r ?_
  · intro v
    cases b <;> first | rfl | cases hn
  · refine two S b0 D e1 e2 fun R' H' vx vy X' S' b' D' dx dy => ?_
    obtain ⟨p, rp, rfl⟩ := dx
    have ob := S'.obj n _ p hws rp
    cases hp : H' p with
    | none => rw [hp] at ob; exact ob.elim
    | some o =>
      rw [hp] at ob
      cases o <;> first | exact ob.elim | skip
      rename_i xs
      obtain ⟨l1, d1⟩ := ob
      have hlt := (List.getElem?_eq_some_iff.mp hws).1
      refine ⟨p, xs, kk, j, rfl, dy, hp, by rw [← d1.length]; exact hj, ?_⟩
      have X2 : Ext R' R' H' (upd H' p (.lst (xs.set j v))) := Ext.set (List.mem_of_getElem? rp)
      have dn := d1.set j (dw.mono X')
      refine k R' _ σ (X'.trans X2) (S'.setL rp hlt (by rw [List.length_set]; exact l1) dn ?_) (D'.mono X2)
      unfold mayStore at hm
      simp only [Bool.or_eq_true, decide_eq_true_eq] at hm
      rcases hm with hm | hm
      · exact .inl hm
      · refine .inr (.inr fun bb hbb hnb => ?_)
        have q := S'.cl bb hbb n _ hnb hws
        simp only [obBelow] at q
        have hw2 := below_le (Nat.le_of_lt hnb) w hm
        have : ∀ (l : List Val) (j : Nat), belowL bb l = true → belowL bb (l.set j w) = true := by
          intro l
          induction l with
          | nil => intro j h; exact h
          | cons v r ih =>
            intro j h
            simp only [belowL, Bool.and_eq_true] at h
            cases j with
            | zero => simp only [List.set_cons_zero, belowL, Bool.and_eq_true]; exact ⟨hw2, h.2⟩
            | succ j => simp only [List.set_cons_succ, belowL, Bool.and_eq_true]; exact ⟨h.1, ih j h.2⟩
        exact this ws j q
/-! ### statements -/
def ctlQ (Z : Sx) (D : Ends) (R : Rg) (σ : L2.St) (H : Hp) : Ctl → Prop
  | .next => D.nx σ H
  | .brk => D.bk σ H
  | .cont => D.ct σ H
  | .ret v => ∀ x, Den Z.K Z.C R H v x → D.rt x H
def trS (Z : Sx) (c : CS) : TS := fun D σ H => ∃ s h R p h', Sim Z.K Z.C Z.bs Z.g.base R h H ∧ Z.g.base ≤ h.length ∧ DenS Z.K Z.C R H s σ ∧ exS Z.g c s h = .ok p h' ∧
  ∀ R' H' σ', Ext R R' H H' → Sim Z.K Z.C Z.bs Z.g.base R' h' H' → DenS Z.K Z.C R' H' p.2 σ' → ctlQ Z D R' σ' H' p.1
def trSs (Z : Sx) (cs : List CS) : TS := fun D σ H => ∃ s h R p h', Sim Z.K Z.C Z.bs Z.g.base R h H ∧ Z.g.base ≤ h.length ∧ DenS Z.K Z.C R H s σ ∧ exSs Z.g cs s h = .ok p h' ∧
  ∀ R' H' σ', Ext R R' H H' → Sim Z.K Z.C Z.bs Z.g.base R' h' H' → DenS Z.K Z.C R' H' p.2 σ' → ctlQ Z D R' σ' H' p.1
def SS (T : Stc) (sc : Scope) (st : Stmt) (c : CS) : Prop := ∀ (Z : Sx) (X : Cx), XOk T Z X sc → XD X → PS X st (trS Z c)
def SSs (T : Stc) (sc : Scope) (st : List Stmt) (c : List CS) : Prop := ∀ (Z : Sx) (X : Cx), XOk T Z X sc → XD X → PSs X st (trSs Z c)
theorem nil_s : SSs T sc [] [] := fun Z X ok xd => ⟨fun pins s σ H D I h => by
  obtain ⟨se, h0, R, p, h1, S, b0, Ds, e, k⟩ := h
  simp only [exSs] at e
  cases e
  exact pss_nil.run pins s σ H D I (k R H σ (Ext.refl _ _) S Ds)⟩
theorem cons_s {st : Stmt} {sts : List Stmt} {c : CS} {cs : List CS} (ha : SS T sc st c) (hr : SSs T sc sts cs) : SSs T sc (st :: sts) (c :: cs) := fun Z X ok xd => ⟨fun pins s σ H D I h => by
  obtain ⟨se, h0, R, p, h1, S, b0, Ds, e, k⟩ := h
  simp only [exSs] at e
  obtain ⟨q, h2, e1, e2⟩ := Res.bind_eq e
  refine (pss_cons (ha Z X ok xd) (hr Z X ok xd)).run pins s σ H D I ⟨se, h0, R, q, h2, S, b0, Ds, e1, fun R' H' σ' X' S' D' => ?_⟩
  obtain ⟨ctl, s2⟩ := q
  cases ctl with
  | next => exact ⟨s2, h2, R', p, h1, S', base_of X' S S' b0, D', e2, fun R2 H2 σ2 X2 S2 D2 => k R2 H2 σ2 (X'.trans X2) S2 D2⟩
  | brk =>
    cases e2
    exact k R' H' σ' X' S' D'
  | cont =>
    cases e2
    exact k R' H' σ' X' S' D'
  | ret v =>
    cases e2
    exact k R' H' σ' X' S' D'⟩
theorem pass_s : SS T sc (.Pass pos) .pass := fun Z X ok xd => ⟨fun pins s σ H D I h => by
  obtain ⟨se, h0, R, p, h1, S, b0, Ds, e, k⟩ := h
  simp only [exS] at e
  cases e
  exact ps_pass.run pins s σ H D I (k R H σ (Ext.refl _ _) S Ds)⟩
theorem break_s : SS T sc (.Break pos) .brk := fun Z X ok xd => ⟨fun pins s σ H D I h => by
  obtain ⟨se, h0, R, p, h1, S, b0, Ds, e, k⟩ := h
  simp only [exS] at e
  cases e
  exact ps_break.run pins s σ H D I (k R H σ (Ext.refl _ _) S Ds)⟩
theorem cont_s : SS T sc (.Continue pos) .cont := fun Z X ok xd => ⟨fun pins s σ H D I h => by
  obtain ⟨se, h0, R, p, h1, S, b0, Ds, e, k⟩ := h
  simp only [exS] at e
  cases e
  exact ps_continue.run pins s σ H D I (k R H σ (Ext.refl _ _) S Ds)⟩
theorem doc_s {x : Str} {j} {p2 : Pos} : SS T sc (.Expr (.Constant (.str x) j p2) pos) .pass := fun Z X ok xd => ⟨fun pins s σ H D I h => by
  obtain ⟨se, h0, R, p, h1, S, b0, Ds, e, k⟩ := h
  simp only [exS] at e
  cases e
  exact ps_doc.run pins s σ H D I (k R H σ (Ext.refl _ _) S Ds)⟩
theorem ret_s (ha : SE T sc a ca) : SS T sc (.Return (some a) pos) (.ret ca) := fun Z X ok xd => ⟨fun pins s σ H D I h => by
  obtain ⟨se, h0, R, p, h1, S, b0, Ds, e, k⟩ := h
  simp only [exS] at e
  obtain ⟨v, h2, e1, e2⟩ := Res.bind_eq e
  cases e2
  exact (ps_ret (ha Z X ok)).run pins s σ H D I (Co.one S b0 Ds e1 fun R' H' x X' S' b' D' dx => k R' H' σ X' S' D' x dx)⟩
theorem retN_s : SS T sc (.Return none pos) .retN := fun Z X ok xd => ⟨fun pins s σ H D I h => by
  obtain ⟨se, h0, R, p, h1, S, b0, Ds, e, k⟩ := h
  simp only [exS] at e
  cases e
  exact ps_retN.run pins s σ H D I (k R H σ (Ext.refl _ _) S Ds _ rfl)⟩
theorem if_s {s1 s2 : List Stmt} {c1 c2 : List CS} (hc : ST T sc c cc) (h1 : SSs T sc s1 c1) (h2 : SSs T sc s2 c2) : SS T sc (.If c s1 s2 pos) (.ifs cc c1 c2) := fun Z X ok xd => ⟨fun pins s σ H D I h => by
  obtain ⟨se, h0, R, p, h3, S, b0, Ds, e, k⟩ := h
  simp only [exS, truthR] at e
  obtain ⟨b, h4, e1, e2⟩ := Res.bind_eq e
  obtain ⟨v, h5, e3, e4⟩ := Res.bind_eq e1
  split at e4 <;> cases e4
  refine (ps_if (hc Z X ok) (h1 Z X ok xd) (h2 Z X ok xd)).run pins s σ H D I ⟨se, h0, R, b, h4, S, b0, Ds, e3, fun R' H' X' S' D' => ?_⟩
  have bb := base_of X' S S' b0
  cases b with
  | true => exact ⟨se, h4, R', p, h3, S', bb, D', e2, fun R2 H2 σ2 X2 S2 D2 => k R2 H2 σ2 (X'.trans X2) S2 D2⟩
  | false => exact ⟨se, h4, R', p, h3, S', bb, D', e2, fun R2 H2 σ2 X2 S2 D2 => k R2 H2 σ2 (X'.trans X2) S2 D2⟩⟩
/-- no comprehension -/
def notComp : Expr → Bool
  | .ListComp .. => false
  | .SetComp .. => false
  | .DictComp .. => false
  | _ => true
theorem swaps_ok {e : Expr} {t : Option Expr} {l : Nat} {env : PySem.Env} (h : notComp e = true) : swapsWith e t l env = pure false := by
  cases e <;> first | rfl | cases h
theorem expr_s (hn : notComp a = true) (ha : SE T sc a ca) : SS T sc (.Expr a pos) (.expr ca) := fun Z X ok xd => ⟨fun pins s σ H D I h => by
  obtain ⟨se, h0, R, p, h1, S, b0, Ds, e, k⟩ := h
  simp only [exS] at e
  obtain ⟨v, h2, e1, e2⟩ := Res.bind_eq e
  cases e2
  exact (ps_expr (ha Z X ok) (swaps_ok hn)).run pins s σ H D I (Co.one S b0 Ds e1 fun R' H' x X' S' b' D' dx => k R' H' σ X' S' D')⟩
end
end Co
end

section
set_option linter.all false
set_option maxRecDepth 100000
set_option autoImplicit false
/-! Co16: loops, stores. -/
namespace Co
open PySem PySem.Spec
                        PyProof.Rows L2
section
variable {T : Stc} {sc : Scope} {a b c : Expr} {ca cb cc : CE} {pos : Pos}
theorem folded_ok {iter : Expr} {env : PySem.Env} (h : notSet iter = true) (x : Value) : foldedSetIterable iter env x = pure x := by
  unfold foldedSetIterable
  cases iter <;> first | rfl | cases h
theorem for_s {tg iter : Expr} {ct : CT} {ci : CE} {body : List Stmt} {cs : List CS} (hset : notSet iter = true) (hg : SG T sc tg ct) (hi : SI T sc tg iter ci) (hb : SSs T sc body cs) : SS T sc (.For tg iter body [] pos) (.for ct ci cs) := fun Z X ok xd => ⟨fun pins s σ H D I h => by
  obtain ⟨se, h0, R, q, h', S, b0, Ds, e, k⟩ := h
  simp only [exS] at e
  obtain ⟨p, h1, e1, e⟩ := Res.bind_eq e
  refine (ps_for xd.px ok.calm (hi Z X ok) (hg Z X ok xd) (hb Z X ok xd) (folded_ok hset)).run pins s σ H D I ⟨se, h0, R, p, h1, S, b0, Ds, e1, fun R1 H1 J X1 S1 D1 itd => ?_⟩
  have b1 := base_of X1 S S1 b0
  generalize hstep : (fun (v : Val) (s : Env) (h : Hh) => (asgT Z.g ct v s h).bind fun s1 h1 => exSs Z.g cs s1 h1) = step at e
  refine ⟨fun i mm σi Hi => i + mm = p.1.length ∧ ∃ (si : Env) (hi : Hh) (Ri : Rg), Ext R1 Ri H1 Hi ∧ Sim Z.K Z.C Z.bs Z.g.base Ri hi Hi ∧ DenS Z.K Z.C Ri Hi si σi ∧ forL p.2 step (p.1.drop i) si hi = .ok q h',
    ⟨p.1.length, by simp, se, h1, R1, Ext.refl _ _, S1, D1, e⟩, ?_⟩
  rintro i mm σi Hi ⟨him, si, hi, Ri, Xi, Si, Di, ei⟩
  have bi := base_of Xi S1 Si b1
  cases hd : p.1.drop i with
  | nil =>
    rw [hd] at ei
    have hi_len : i = p.1.length := by
      have := congrArg List.length hd
      simp at this
      omega
    simp only [forL] at ei
    split at ei
    case isFalse => cases ei
    rename_i hg
    cases ei
    obtain ⟨_, hstop⟩ := itd Ri h' Hi Xi Si hg
    exact .inl ⟨by rw [hi_len]; exact hstop, k Ri Hi σi (X1.trans Xi) Si Di⟩
  | cons u us =>
    rw [hd] at ei
    have hiu : p.1[i]? = some u := by
      have := congrArg (fun l => l[0]?) hd
      simpa using this
    have hilt : i < p.1.length := (List.getElem?_eq_some_iff.mp hiu).1
    have hus : us = p.1.drop (i + 1) := by
      have := congrArg List.tail hd
      simpa using this.symm
    simp only [forL] at ei
    split at ei
    case isFalse => cases ei
    rename_i hg
    obtain ⟨r, h3, e3, e4⟩ := Res.bind_eq ei
    obtain ⟨hgo, _⟩ := itd Ri hi Hi Xi Si hg
    obtain ⟨go, yld⟩ := hgo i u hiu
    refine .inr ⟨go, fun σ' H' => i + 1 + (mm - 1) = p.1.length ∧ ∃ (si : Env) (hi : Hh) (Ri : Rg), Ext R1 Ri H1 H' ∧ Sim Z.K Z.C Z.bs Z.g.base Ri hi H' ∧ DenS Z.K Z.C Ri H' si σ' ∧ forL p.2 step (p.1.drop (i + 1)) si hi = .ok q h',
      fun σ' H' w => ⟨mm - 1, by omega, w⟩, fun x H' y => ?_⟩
    obtain ⟨Xy, Sy, dx⟩ := yld x H' y
    rw [← hstep] at e3
    dsimp only at e3
    obtain ⟨s5, h5, e5, e6⟩ := Res.bind_eq e3
    refine ⟨si, hi, Ri, u, s5, h5, Sy, bi, Di.mono Xy, dx, e5, fun R6 H6 σ6 X6 S6 D6 => ?_⟩
    refine ⟨s5, h5, R6, r, h3, S6, base_of X6 Sy S6 bi, D6, e6, fun R7 H7 σ7 X7 S7 D7 => ?_⟩
    have XX : Ext R1 R7 H1 H7 := ((Xi.trans Xy).trans X6).trans X7
    obtain ⟨ctl, s8⟩ := r
    cases ctl with
    | next => exact ⟨by omega, s8, h3, R7, XX, S7, D7, by rw [← hus]; exact e4⟩
    | cont => exact ⟨by omega, s8, h3, R7, XX, S7, D7, by rw [← hus]; exact e4⟩
    | brk =>
      cases e4
      exact k R7 H7 σ7 (X1.trans XX) S7 D7
    | ret v =>
      cases e4
      exact k R7 H7 σ7 (X1.trans XX) S7 D7⟩
theorem while_s {body : List Stmt} {cs : List CS} (hc : ST T sc c cc) (hb : SSs T sc body cs) : SS T sc (.While c body [] pos) (.while cc cs) := fun Z X ok xd => ⟨fun pins s σ H D I h => by
  obtain ⟨se, h0, R, q, h', S, b0, Ds, e, k⟩ := h
  simp only [exS] at e
  refine (ps_while xd.px (hc Z X ok) (hb Z X ok xd)).run pins s σ H D I ?_
  generalize htest : (fun (s : Env) (h : Hh) => truthR (evE Z.g cc s h)) = test at e
  generalize hstep : (fun (s : Env) (h : Hh) => exSs Z.g cs s h) = step at e
  refine ⟨fun mm σi Hi => ∃ (si : Env) (hi : Hh) (Ri : Rg), Ext R Ri H Hi ∧ Sim Z.K Z.C Z.bs Z.g.base Ri hi Hi ∧ DenS Z.K Z.C Ri Hi si σi ∧ whileL test step mm si hi = .ok q h', ⟨turns, se, h0, R, Ext.refl _ _, S, Ds, e⟩, ?_⟩
  rintro mm σi Hi ⟨si, hi, Ri, Xi, Si, Di, ei⟩
  have bi := base_of Xi S Si b0
  cases mm with
  | zero => simp only [whileL] at ei; cases ei
  | succ mm =>
    simp only [whileL] at ei
    obtain ⟨bb, h2, e1, e2⟩ := Res.bind_eq ei
    rw [← htest] at e1
    simp only [truthR] at e1
    obtain ⟨v, h3, e3, e4⟩ := Res.bind_eq e1
    split at e4 <;> cases e4
    refine ⟨si, hi, Ri, bb, h2, Si, bi, Di, e3, fun R4 H4 X4 S4 D4 => ?_⟩
    cases bb with
    | false =>
      rw [if_neg Bool.false_ne_true] at e2
      cases e2
      exact k R4 H4 σi (Xi.trans X4) S4 D4
    | true =>
      rw [if_pos rfl] at e2
      obtain ⟨r, h5, e5, e6⟩ := Res.bind_eq e2
      rw [← hstep] at e5
      show ∃ N : L2.St → Hp → Prop, _
      refine ⟨fun σ' H' => ∃ (si : Env) (hi : Hh) (Ri : Rg), Ext R Ri H H' ∧ Sim Z.K Z.C Z.bs Z.g.base Ri hi H' ∧ DenS Z.K Z.C Ri H' si σ' ∧ whileL test step mm si hi = .ok q h', fun σ' H' w => ⟨mm, Nat.lt_succ_self _, w⟩, ?_⟩
      refine ⟨si, h2, R4, r, h5, S4, base_of X4 Si S4 bi, D4, e5, fun R7 H7 σ7 X7 S7 D7 => ?_⟩
      have XX : Ext R R7 H H7 := (Xi.trans X4).trans X7
      obtain ⟨ctl, s8⟩ := r
      cases ctl with
      | next => exact ⟨s8, h5, R7, XX, S7, D7, e6⟩
      | cont => exact ⟨s8, h5, R7, XX, S7, D7, e6⟩
      | brk =>
        cases e6
        exact k R7 H7 σ7 XX S7 D7
      | ret v =>
        cases e6
        exact k R7 H7 σ7 XX S7 D7⟩
/-! ### stores -/
def isName : Expr → Bool
  | .Name .. => true
  | _ => false
theorem swapsT_ok {e tg : Expr} {l : Nat} {env : PySem.Env} (h : isName tg = false) : swapsWith e (some tg) l env = pure false := by
  cases tg <;> first | (cases e <;> rfl) | cases h
def isSeqT : Expr → Bool
  | .Tuple .. => true
  | .List .. => true
  | _ => false
def isTup : Expr → Bool
  | .Tuple .. => true
  | _ => false
theorem noSwap1 {e tg : Expr} {env : PySem.Env} (h : isSeqT tg = false ∨ isTup e = false) : swappedStores [tg] e env = pure none := by
  cases tg <;> first | (cases e <;> rfl) | (rcases h with h | h; cases h; cases e <;> first | rfl | cases h)
theorem asg_core {Z : Sx} {X : Cx} {tg e : Expr} {ct : CT} {c : CE} {pins : List (Addr × Obj)} {s : Shared} {σ : L2.St} {H : Hp} {D : Ends} (I : L2.Inv X pins σ H s) (hst : starred tg = false) (he : PE X e (trE Z c)) (hg : PG X tg (trG Z ct))
    (h1 : swapsWith e (some tg) pos.line X.env = pure false) (h2 : swappedStores [tg] e X.env = pure none) (h : trS Z (.asg ct c) D σ H) : wpAny (model X.prog X.w) X.A (exec (.Assign [tg] e pos) X.env) (SP X pins D) X.xe s := by
  obtain ⟨se, h0, R, q, h', S, b0, Ds, ee, k⟩ := h
  simp only [exS] at ee
  obtain ⟨v, h3, e1, ee⟩ := Res.bind_eq ee
  obtain ⟨s4, h4, e2, ee⟩ := Res.bind_eq ee
  cases ee
  refine (ps_asg he hg h1 h2 ?_).run pins s σ H D I (Co.one S b0 Ds e1 fun R' H' x X' S' b' D' dx => ?_)
  · cases tg <;> first | rfl | cases hst
  · exact ⟨se, h3, R', v, s4, h', S', b', D', dx, e2, fun R2 H2 σ2 X2 S2 D2 => k R2 H2 σ2 (X'.trans X2) S2 D2⟩
/-- a value that is no comprehension, a target or a value that is no tuple -/
theorem asg_s {tg : Expr} {ct : CT} (hst : starred tg = false) (h1 : notComp a = true ∨ isName tg = false) (h2 : isSeqT tg = false ∨ isTup a = false) (ha : SE T sc a ca) (hg : SG T sc tg ct) : SS T sc (.Assign [tg] a pos) (.asg ct ca) := fun Z X ok xd => ⟨fun pins s σ H D I h =>
  asg_core I hst (ha Z X ok) (hg Z X ok xd) (h1.elim swaps_ok swapsT_ok) (noSwap1 h2) h⟩
/-- is the stored comprehension exchanged -/
def lcSwap (sc : Scope) (y : Str) (py lp : Pos) (scope : Scope) : Bool := sc.names.lookup y == some .local && (py.line == lp.line && !(scope.names.any fun (n, k) => n == y && (k == .local || k == .cell)))
theorem lc_no {env : PySem.Env} {y : Str} {py lp : Pos} {elt : Expr} {gs : List Comprehension} {scope : Scope} {l : Nat} (h : lcSwap env.scope y py lp scope = false) : swapsWith (.ListComp elt gs scope lp) (some (.Name y py)) l env = pure false := by
  unfold swapsWith
  show (pure (env.blockKind == .function && env.kindOf y == some .local && py.line == lp.line && !(scope.names.any fun (n, k) => n == y && (k == .local || k == .cell))) : Sem Bool) = pure false
  congr 1
  unfold lcSwap at h
  have e : env.kindOf y = env.scope.names.lookup y := rfl
  rw [e]
  generalize (env.scope.names.lookup y == some NameKind.local) = u at h ⊢
  generalize (py.line == lp.line) = w at h ⊢
  generalize (env.blockKind == ScopeKind.function) = z
  generalize (!(scope.names.any fun (n, k) => n == y && (k == .local || k == .cell))) = q at h ⊢
  cases u <;> cases w <;> cases q <;> cases z <;> simp_all
theorem asgLc_s {m one : Bool} {tg : List Nat} {own : List (Str × Nat)} {elt tge iter : Expr} {ifs : List Expr} {scope : Scope} {ci ce : CE} {cs : List CE} {y : Str} {i : Nat} {py lp : Pos} (hy : T.N[i]? = some y) (hsw : lcSwap sc y py lp scope = true) (hset : notSet iter = true) (hok : BlkOk T.N sc scope own) (hl : cs.length ≤ 1)
    (ho : ∀ i ∈ tg, i ∈ own.map (·.2)) (htg : tgOk T.N (canB scope (relS scope sc)) one tg tge = true) (hi : SI T sc tge iter ci) (ht : STs T (relS scope sc) ifs cs) (he : SE T (relS scope sc) elt ce) :
    SS T sc (.Assign [.Name y py] (.ListComp elt [⟨tge, iter, ifs, 0⟩] scope lp) pos) (.asg (.name i) (.comp m (own.map (·.2)) tg one ci cs ce)) := fun Z X ok xd => ⟨fun pins s σ H D I h => by
  obtain ⟨se, h0, R, q, h', S, b0, Ds, ee, k⟩ := h
  simp only [exS, asgT] at ee
  obtain ⟨v, h3, e1, ee⟩ := Res.bind_eq ee
  simp only [Res.bind_ok] at ee
  cases ee
  simp only [lcSwap, Bool.and_eq_true, Bool.not_eq_true'] at hsw
  have hyl : X.env.scope.names.lookup y = some .local := by rw [ok.sc]; simpa using hsw.1
  refine (ps_setLc (i := i) (wi := trI Z ci) (g := trGn X.K one tg) (tt := trTs Z cs) (te := trE Z ce) ok.calm (by rw [ok.N]; exact ok.nd) (by rw [ok.N]; exact hy) hyl (sw_true xd.kd hyl hsw.2.1 hsw.2.2) (hi Z X ok) (by rw [ok.N, ok.sc]; exact hok) (fun s H C cl fp => ?_) (fun s H C cl fp => ht Z _ (ok.blk s H scope C cl fp)) (fun s H C cl fp => he Z _ (ok.blk s H scope C cl fp)) (folded_ok hset)).run pins _ σ H D I ?_
  · refine tg_pg (X := X.blk s H scope (compEnvC scope cl C X.env) fp) ok.calm (by show X.N.Nodup; rw [ok.N]; exact ok.nd) (can_b (ok.blk s H scope C cl fp).sc rfl) ?_
    show tgOk X.N _ one tg tge = true
    rw [ok.N]
    exact htg
  · exact comp_core ok hl ho S b0 Ds e1 fun R' H' x X' S' D' dx => k R' H' _ X' S' (D'.set i dx)⟩
/-! ### stores that are swapped -/
def swNames (sc : Scope) (ts : List Expr) : List Str := ts.filterMap fun
    | .Name id pos => if sc.names.lookup id == some .local && pos.line == (ts.head?.map (·.pos.line)).getD 0 then some id else none
    | _ => none
def swK (sc : Scope) (ts vs : List Expr) : Option Bool :=
  if (!(ts.length == 2 || ts.length == 3) || vs.length != ts.length) = true then some false else
  if (vs.any fun | .Starred .. => true | _ => false) = true then some false else
  if ((swNames sc ts).length != ts.length || (swNames sc ts).eraseDups.length != (swNames sc ts).length) = true then some false else
  if vs.all (foldedForSure 8) = true then some false else if vs.all (constantsAlone 8) = true then none else some true
theorem sw_eq {ts vs : List Expr} {k k2 : Nat} {p p2 : Pos} {env : PySem.Env} (hk : env.scope.kind = .function) : swappedStores [.Tuple ts k p] (.Tuple vs k2 p2) env =
    (match swK env.scope ts vs with | some false => pure none | some true => pure (some (swNames env.scope ts)) | none => unsupported "assign.tuple-of-constant-expressions:order-of-the-stores") := by
  have hb : env.blockKind = .function
                          := by unfold Env.blockKind; rw [hk]; rfl
  unfold swappedStores swK
  dsimp only
  rw [hb]
  have hf : (ScopeKind.function != ScopeKind.function) = false := by decide
  rw [hf, Bool.or_false]
  by_cases c1 : (!(ts.length == 2 || ts.length == 3) || vs.length != ts.length) = true
  · rw [if_pos c1, if_pos c1]
  · rw [if_neg c1, if_neg c1]
    by_cases c2 : (vs.any fun | .Starred .. => true | _ => false) = true
    · rw [if_pos c2]
      exact if_pos c2
    · rw [if_neg c2]
      refine Eq.trans (if_neg c2) ?_
      by_cases c3 : ((swNames env.scope ts).length != ts.length || (swNames env.scope ts).eraseDups.length != (swNames env.scope ts).length) = true
      · rw [if_pos c3]
        exact if_pos c3
      · rw [if_neg c3]
        refine Eq.trans (if_neg c3) ?_
        by_cases c4 : vs.all (foldedForSure 8) = true
        · rw [if_pos c4, if_pos c4]
        · rw [if_neg c4, if_neg c4]
          by_cases c5 : vs.all (constantsAlone 8) = true
          · rw [if_pos c5, if_pos c5]
            rfl
          · rw [if_neg c5, if_neg c5]
            rfl
theorem asgT_s {ts vs : List Expr} {cts : List CT} {cvs : List CE} {k k2 : Nat} {p p2 : Pos} (hsw : swK sc ts vs = some false) (ha : SE T sc (.Tuple vs k2 p2) ca) (hg : SG T sc (.Tuple ts k p) (.tup cts)) : SS T sc (.Assign [.Tuple ts k p] (.Tuple vs k2 p2) pos) (.asg (.tup cts) ca) := fun Z X ok xd => ⟨fun pins s σ H D I h =>
  asg_core I rfl (ha Z X ok) (hg Z X ok xd) (swaps_ok rfl) (by rw [sw_eq xd.kd, ok.sc, hsw]) h⟩
theorem tupE_den {Z : Sx} {es : List CE} {s : Env} {h h2 : Hh} {v : Val} (e : evE Z.g (.tup es) s h = .ok v h2) : ∃ vs, evEs Z.g es s h = .ok vs h2 ∧ v = .tup vs := by
  simp only [evE] at e
  obtain ⟨vs, h3, e1, e⟩ := Res.bind_eq e
  split at e <;> cases e
  exact ⟨vs, e1, rfl⟩
theorem par2_s {x y : Str} {i j : Nat} {px py pt p2 : Pos} {kt k2 : Nat} (hi : T.N[i]? = some x) (hj : T.N[j]? = some y) (hij : i ≠ j) (hx : sc.names.lookup x = some .local) (hy : sc.names.lookup y = some .local)
    (hsw : swK sc [.Name x px, .Name y py] [a, b] = some true) (hnm : swNames sc [.Name x px, .Name y py] = [x, y]) (h : SA T sc [a, b] [ca, cb]) :
    SS T sc (.Assign [.Tuple [.Name x px, .Name y py] kt pt] (.Tuple [a, b] k2 p2) pos) (.asg (.tup [.name i, .name j]) (.tup [ca, cb])) := fun Z X ok xd => ⟨fun pins s σ H D I hh => by
  obtain ⟨se, h0, R, q, h', S, b0, Ds, ee, k⟩ := hh
  rw [exS] at ee
  obtain ⟨v, h3, e1, ee⟩ := Res.bind_eq ee
  obtain ⟨vs, e8, rfl⟩ := tupE_den e1
  clear e1
  simp only [asgT, rd] at ee
  obtain ⟨s4, h4, e2, ee⟩ := Res.bind_eq ee
  cases ee
  match vs, e8, e2 with
  | [u, w], e1, e2 =>
    simp only [asgTs, asgT, Res.bind_ok] at e2
    cases e2
    refine (ps_par ok.calm (by rw [ok.N]; exact ok.nd) (by rw [ok.N]; exact hi) (by rw [ok.N]; exact hj) hij (by rw [ok.sc]; exact hx) (by rw [ok.sc]; exact hy) (h Z X ok) (by rw [sw_eq xd.kd, ok.sc, hsw]; show pure (some _) = _; rw [hnm]) rfl).run pins s σ H D I ?_
    refine more S b0 Ds e1 fun R' H' xs X' S' b' D' dx => ?_
    obtain ⟨x1, _, rfl, d1, y1, _, rfl, d2, d3⟩ := dx
    rw [show _ = ([] : List V) from d3]
    exact ⟨x1, y1, rfl, k R' H' _ X' S' ((D'.set i d1).set j d2)⟩
  | [], _, e2 => simp only [asgTs] at e2; cases e2
  | [_], _, e2 => simp only [asgTs, asgT, Res.bind_ok] at e2; cases e2
  | _ :: _ :: _ :: _, _, e2 => simp only [asgTs, asgT, Res.bind_ok] at e2; cases e2⟩
theorem par3_s {x y z : Str} {i j l : Nat} {px py pz pt p2 : Pos} {kt k2 : Nat} (hi : T.N[i]? = some x) (hj : T.N[j]? = some y) (hl : T.N[l]? = some z) (hij : i ≠ j) (hil : i ≠ l) (hjl : j ≠ l) (hx : sc.names.lookup x = some .local) (hy : sc.names.lookup y = some .local) (hz : sc.names.lookup z = some .local)
    (hsw : swK sc [.Name x px, .Name y py, .Name z pz] [a, b, c] = some true) (hnm : swNames sc [.Name x px, .Name y py, .Name z pz] = [x, y, z]) (h : SA T sc [a, b, c] [ca, cb, cc]) :
    SS T sc (.Assign [.Tuple [.Name x px, .Name y py, .Name z pz] kt pt] (.Tuple [a, b, c] k2 p2) pos) (.asg (.tup [.name i, .name j, .name l]) (.tup [ca, cb, cc])) := fun Z X ok xd => ⟨fun pins s σ H D I hh => by
  obtain ⟨se, h0, R, q, h', S, b0, Ds, ee, k⟩ := hh
  rw [exS] at ee
  obtain ⟨v, h3, e1, ee⟩ := Res.bind_eq ee
  obtain ⟨vs, e8, rfl⟩ := tupE_den e1
  clear e1
  simp only [asgT, rd] at ee
  obtain ⟨s4, h4, e2, ee⟩ := Res.bind_eq ee
  cases ee
  match vs, e8, e2 with
  | [u, w, t], e1, e2 =>
    simp only [asgTs, asgT, Res.bind_ok] at e2
    cases e2
    refine (ps_par3 ok.calm (by rw [ok.N]; exact ok.nd) (by rw [ok.N]; exact hi) (by rw [ok.N]; exact hj) (by rw [ok.N]; exact hl) hij hil hjl (by rw [ok.sc]; exact hx) (by rw [ok.sc]; exact hy) (by rw [ok.sc]; exact hz) (h Z X ok) (by rw [sw_eq xd.kd, ok.sc, hsw]; show pure (some _) = _; rw [hnm]) rfl).run pins s σ H D I ?_
    refine more S b0 Ds e1 fun R' H' xs X' S' b' D' dx => ?_
    obtain ⟨x1, _, rfl, d1, y1, _, rfl, d2, z1, _, rfl, d3, d4⟩ := dx
    rw [show _ = ([] : List V) from d4]
    exact ⟨x1, y1, z1, rfl, k R' H' _ X' S' (((D'.set i d1).set j d2).set l d3)⟩
  | [], _, e2 => simp only [asgTs] at e2; cases e2
  | [_], _, e2 => simp only [asgTs, asgT, Res.bind_ok] at e2; cases e2
  | [_, _], _, e2 => simp only [asgTs, asgT, Res.bind_ok] at e2; cases e2
  | _ :: _ :: _ :: _ :: _, _, e2 => simp only [asgTs, asgT, Res.bind_ok] at e2; cases e2⟩
end
end Co
end

section
set_option linter.all false
set_option maxRecDepth 100000
set_option autoImplicit false
/-! Co17: entering and leaving a def. -/
namespace Co
open PySem PySem.Spec
                        PyProof.Rows L2
section
variable {K : PySem.W.Frag} {C : Nat → Addr} {bs : List Nat} {base : Nat} {R R' : Rg} {h h' : Hh} {H H' : Hp}
/-- what stands below n, the first n of ours alone -/
def Rg.cut (R : Rg) (n : Nat) : Rg := ⟨R.own.take n, R.no⟩
theorem Rg.cut_out {R : Rg} {n : Nat} {a : Addr} (m : a ∉ R) : a ∉ R.cut n := by
  rintro (q | q)
  · exact m (.inl (List.mem_of_mem_take q))
  · exact m (.inr q)
mutual
theorem Den.cutR (n : Nat) : ∀ (v : Val) (x : V), below n v = true → Den K C R H v x → Den K C (R.cut n) H v x
  | .non, _, _, h => h
  | .bl _, _, _, h => h
  | .int _, _, _, h => h
  | .str _, _, _, h => h
  | .tup vs, x, b, h => by
    obtain ⟨a, xs, q, t, d⟩ := h
    exact ⟨a, xs, q, ⟨t.1, t.2.elim (fun z => .inl ⟨z.1, Rg.cut_out z.2⟩) .inr⟩, DenL.cutR n vs xs b d⟩
  | .lst vs, x, b, h => by
    obtain ⟨a, xs, q, t, d⟩ := h
    exact ⟨a, xs, q, ⟨t.1, t.2.1, Rg.cut_out t.2.2⟩, DenL.cutR n vs xs b d⟩
  | .ro vs, x, b, h => by
    obtain ⟨a, xs, q, t, d⟩ := h
    exact ⟨a, xs, q, ⟨t.1, t.2.elim (fun z => .inl ⟨z.1, Rg.cut_out z.2⟩) .inr⟩, DenL.cutR n vs xs b d⟩
  | .dct vs, x, b, h => by
    obtain ⟨a, xs, q, t, m, d⟩ := h
    exact ⟨a, xs, q, t, Rg.cut_out m, DenK.cutR n vs xs b d⟩
  | .ins c vs, x, b, h => by
    obtain ⟨a, dx, gs, q, t, m, d⟩ := h
    exact ⟨a, dx, gs, q, t, Rg.cut_out m, DenK.cutR n vs _ b d⟩
  | .ref k, x, b, h => by
    obtain ⟨a, q, r⟩ := h
    have hk : k < n := by simpa [below] using b
    exact ⟨a, by show (R.own.take n)[k]? = some a; rw [List.getElem?_take_of_lt hk]; exact q, r⟩
theorem DenL.cutR (n : Nat) : ∀ (vs : List Val) (xs : List V), belowL n vs = true → DenL K C R H vs xs → DenL K C (R.cut n) H vs xs
  | [], _, _, h => h
  | v :: r, _, b, h => by
    obtain ⟨x, ys, q, d, d2⟩ := h
    simp only [belowL, Bool.and_eq_true] at b
    exact ⟨x, ys, q, Den.cutR n v x b.1 d, DenL.cutR n r ys b.2 d2⟩
theorem DenK.cutR (n : Nat) : ∀ (vs : List (Key × Val)) (xs : List (Key × V)), belowK n vs = true → DenK K C R H vs xs → DenK K C (R.cut n) H vs xs
  | [], _, _, h => h
  | (k, v) :: r, _, b, h => by
    obtain ⟨x, ys, q, d, d2⟩ := h
    simp only [belowK, Bool.and_eq_true] at b
    exact ⟨x, ys, q, Den.cutR n v x b.1 d, DenK.cutR n r ys b.2 d2⟩
end
mutual
theorem Den.isBelow : ∀ (v : Val) (x : V), Den K C R H v x → below R.own.length v = true
  | .non, _, _ => rfl
  | .bl _, _, _ => rfl
  | .int _, _, _ => rfl
  | .str _, _, _ => rfl
  | .tup vs, x, h => by
    obtain ⟨a, xs, q, t, d⟩ := h
    exact DenL.isBelow vs xs d
  | .lst vs, x, h => by
    obtain ⟨a, xs, q, t, d⟩ := h
    exact DenL.isBelow vs xs d
  | .ro vs, x, h => by
    obtain ⟨a, xs, q, t, d⟩ := h
    exact DenL.isBelow vs xs d
  | .dct vs, x, h => by
    obtain ⟨a, xs, q, t, m, d⟩ := h
    exact DenK.isBelow vs xs d
  | .ins c vs, x, h => by
    obtain ⟨a, dx, gs, q, t, m, d⟩ := h
    exact DenK.isBelow vs _ d
  | .ref k, x, h => by
    obtain ⟨a, q, r⟩ := h
    exact decide_eq_true (List.getElem?_eq_some_iff.mp q).1
theorem DenL.isBelow : ∀ (vs : List Val) (xs : List V), DenL K C R H vs xs → belowL R.own.length vs = true
  | [], _, _ => rfl
  | v :: r, _, h => by
    obtain ⟨x, ys, q, d, d2⟩ := h
    simp only [belowL, Bool.and_eq_true]
    exact ⟨Den.isBelow v x d, DenL.isBelow r ys d2⟩
theorem DenK.isBelow : ∀ (vs : List (Key × Val)) (xs : List (Key × V)), DenK K C R H vs xs → belowK R.own.length vs = true
  | [], _, _ => rfl
  | (k, v) :: r, _, h => by
    obtain ⟨x, ys, q, d, d2⟩ := h
    simp only [belowK, Bool.and_eq_true]
    exact ⟨Den.isBelow v x d, DenK.isBelow r ys d2⟩
end
theorem ObD.isBelow {o : Ob} {u : Option HO} (d : ObD K C R H o u) : obBelow R.own.length o = true := by
  cases o with
  | lst vs =>
    cases u with
    | none => exact d.elim
    | some u => cases u <;> first | exact d.elim | exact d.2.isBelow
  | ins c kvs =>
    cases u with
    | none => exact d.elim
    | some u => cases u <;> first | exact d.elim | exact DenK.isBelow _ _ d.2
theorem ObD.cutR {o : Ob} {u : Option HO} {n : Nat} (b : obBelow n o = true) (d : ObD K C R H o u) : ObD K C (R.cut n) H o u := by
  cases o with
  | lst vs =>
    cases u with
    | none => exact d.elim
    | some u => cases u <;> first | exact d.elim | exact ⟨d.1, DenL.cutR n _ _ b d.2⟩
  | ins c kvs =>
    cases u with
    | none => exact d.elim
    | some u => cases u <;> first | exact d.elim | exact ⟨d.1, DenK.cutR n _ _ b d.2⟩
/-- a def is entered -/
theorem Sim.enter (S : Sim K C bs base R h H) (hb : base ≤ h.length) : Sim K C (h.length :: bs) h.length R h H := by
  refine ⟨S.len, S.nd, S.dj, S.obj, fun b m n o hn e => ?_, fun b m => ?_, S.nn⟩
  · rcases List.mem_cons.mp m with q | m
    · subst q
      have hl : n < R.own.length := by rw [S.len]; exact hn
      have q := S.obj n o _ e (List.getElem?_eq_getElem hl)
      have := q.isBelow
      rw [S.len] at this
      exact this
    · exact S.cl b m n o hn e
  · rcases List.mem_cons.mp m with q | m
    · exact Nat.le_of_eq q
    · exact Nat.le_trans (S.le b m) hb
/-- .. and left: what was made since goes -/
theorem Sim.leave {n : Nat} (S : Sim K C (n :: bs) n R h H) (hn : n ≤ h.length) (hle : ∀ b ∈ bs, b ≤ base) (hbn : base ≤ n) : Sim K C bs base (R.cut n) (h.take n) H := by
  have lenC : (R.cut n).own.length = (h.take n).length := by
    show (R.own.take n).length = _
    rw [List.length_take, List.length_take, S.len]
  refine ⟨lenC, S.nd.sublist (List.take_sublist _ _), fun a m m2 => S.dj a (List.mem_of_mem_take m) m2, fun i o a e r => ?_, fun b m i o hi e => ?_, hle, S.nn⟩
  · have hi : i < n := by
      have := (List.getElem?_eq_some_iff.mp e).1
      rw [List.length_take] at this
      omega
    rw [List.getElem?_take_of_lt hi] at e
    have r : (R.own.take n)[i]? = some a := r
    rw [List.getElem?_take_of_lt hi] at r
    exact (S.obj i o a e r).cutR (S.cl n List.mem_cons_self i o hi e)
  · have hi2 : i < n := by have := hle b m; omega
    rw [List.getElem?_take_of_lt hi2] at e
    exact S.cl b (List.mem_cons_of_mem _ m) i o hi e
theorem Sim.keep {n : Nat} (S : Sim K C (n :: bs) n R h H) (hle : ∀ b ∈ bs, b ≤ base) : Sim K C bs base R h H :=
  ⟨S.len, S.nd, S.dj, S.obj, fun b m => S.cl b (List.mem_cons_of_mem _ m), hle, S.nn⟩
theorem Ext.cutR {n : Nat} (X : Ext R R' H H') (hn : R.own.length = n) : Ext R (R'.cut n) H H' := by
  refine ⟨⟨[], ?_, by simp⟩, X.no, X.yes, X.keep, X.there⟩
  obtain ⟨r, e, _⟩ := X.more
  show R'.own.take n = _
  rw [e, ← hn, List.take_append_of_le_length (Nat.le_refl _), List.take_length, List.append_nil]
/-- one of ours that goes -/
theorem Sim.gone {n m : Nat} {a : Addr} (S : Sim K C bs base R h H) (hm : n ≤ m) (r : R.own[m]? = some a) : a ∉ R.cut n := by
  rintro (q | q)
  · obtain ⟨i, hi⟩ := List.getElem?_of_mem q
    have hi : (R.own.take n)[i]? = some a := hi
    have hlt : i < n := by
      have :=
                              (List.getElem?_eq_some_iff.mp hi).1
      rw [List.length_take] at this
      omega
    rw [List.getElem?_take_of_lt hlt] at hi
    have h1 := List.getElem?_eq_some_iff.mp r
    have h2 := List.getElem?_eq_some_iff.mp hi
    have := (List.getElem_inj S.nd).mp (h1.2.trans h2.2.symm)
    omega
  · exact S.dj a (List.mem_of_getElem? r) q
theorem lst_at (S : Sim K C bs base R h H) {m : Nat} {a : Addr} {ws : List Val} (r : R.own[m]? = some a) (e : h[m]? = some (.lst ws)) : ∃ xs, H a = some (.lst xs) ∧ xs.length ≤ sizeLine ∧ DenL K C R H ws xs := by
  have o := S.obj m _ a e r
  cases ha : H a with
  | none => rw [ha] at o; exact o.elim
  | some u =>
    rw [ha] at o
    cases u <;> first | exact o.elim | exact ⟨_, rfl, o.1, o.2⟩
theorem frz1_ok (S : Sim K C bs base R h H) {n : Nat} {v w : Val} {x : V} (e : frz1 n h v = some w) (d : Den K C R H v x) : Den K C (R.cut n) H w x := by
  unfold frz1 at e
  split at e
  · rename_i hb
    cases e
    exact d.cutR n _ _ hb
  · rename_i hb
    split at e
    · rename_i m
      split at e
      · rename_i us hu
        split at e <;> cases e
        rename_i hbl
        obtain ⟨a, r, rfl⟩ := d
        obtain ⟨xs, ha, hl, dl⟩ := lst_at S r hu
        exact ⟨a, xs, rfl, ⟨hl, ha, S.gone (Nat.le_of_not_lt fun z => hb (by simpa [below] using z)) r⟩, dl.cutR n _ _ hbl⟩
      · cases e
    · cases e
theorem frz1L_ok (S : Sim K C bs base R h H) {n : Nat} : ∀ {vs ws : List Val} {xs : List V}, frz1L n h vs = some ws → DenL K C R H vs xs → DenL K C (R.cut n) H ws xs
  | [], _, _, e, d => by cases e; exact d
  | v :: r, _, _, e, d => by
    simp only [frz1L, Option.bind_eq_some_iff, Option.map_eq_some_iff] at e
    obtain ⟨w, e1, ws, e2, rfl⟩ := e
    obtain ⟨x, ys, q, d1, d2⟩ := d
    exact ⟨x, ys, q, frz1_ok S e1 d1, frz1L_ok S e2 d2⟩
theorem frz_ok (S : Sim K C bs base R h H) {n : Nat} {v w : Val} {x : V} (e : frz n h v = some w) (d : Den K C R H v x) : Den K C (R.cut n) H w x := by
  unfold frz at e
  split at e
  · rename_i hb
    cases e
    exact d.cutR n _ _ hb
  · rename_i hb
    split at e
    · rename_i m
      split at e
      · rename_i us hu
        simp only [Option.map_eq_some_iff] at e
        obtain ⟨ws, e, rfl⟩ := e
        obtain ⟨a, r, rfl⟩ := d
        obtain ⟨xs, ha, hl, dl⟩ := lst_at S r hu
        exact ⟨a, xs, rfl, ⟨hl, ha, S.gone (Nat.le_of_not_lt fun z => hb (by simpa [below] using z)) r⟩, frz1L_ok S e dl⟩
      · cases e
    · simp only [Option.map_eq_some_iff] at e
      obtain ⟨ws, e, rfl⟩ := e
      obtain ⟨a, xs, rfl, t, dl⟩ := d
      exact ⟨a, xs, rfl, ⟨t.1, t.2.elim (fun z => .inl ⟨z.1, Rg.cut_out z.2⟩) .inr⟩, frz1L_ok S e dl⟩
    · cases e
end
end Co
end

section
set_option linter.all false
set_option maxRecDepth 100000
set_option autoImplicit false
/-! Co18: defs. -/
namespace Co
open PySem PySem.Spec
                        PyProof.Rows L2
theorem deeper_guards {A : Around} {env : PySem.Env} : (A.deeper env).guards = A.guards := by
  first | rfl | (cases A; rfl)
/-- a def by its body, where no guard stands -/
theorem fnG_of {P : Program} {w : World} {K : PySem.W.Frag} {mg : Str → Option Value} {base : Heap} {k : Nat} {f : Addr} {fd : FuncData} {x qual : Str} {st : Stmt} {N ps : List Str} {sp : SpV} (F : Fun K x qual st f fd) (S : FnScope N ps (defScope st)) (ln : ∀ (vs : List V) (H : Hp) (Q : VK), sp vs H Q → vs.length = ps.length)
    (body : ∀ (cdv : Value) (A : Around) (outer : List PySem.Env) (s : Shared) (H : Hp) (vs : List V) (Q : VK), Room k (A.deeper (envOfC qual (defScope st) s.heap.objs.size f cdv)) → A.guards = some [] → sp vs H Q →
      ∃ t : TS, PSs (cxOf CX0 P w K mg base N qual (defScope st) f cdv A outer s H E0).nox (defBody st) t ∧ t { nx := fun _ H' => Q .non H', rt := Q } (L2.start N vs) H) : FnG P w K mg base (k + 1) f fd ps sp := by
  obtain ⟨oc, od, kV, doc, pm, an, cdv, ct, osl, rfl, lkp, hcode⟩ := F.ex
  refine ⟨ln, fun A outer s H args us vs Q room gd ev bind rel want => ?_⟩
  have hlen := ln _ _ _ want
  have inK : K.In s.heap := ev.mod.kin.keeps fun c u q => (ev.bs c u q).1
  have noLim : s.heap.NoLimit := ev.mod.nolimit.keeps fun c u q => (ev.bs c u q).1
  have kinds : ∀ y ∈ ps.zip us, (defScope st).names.lookup y.1 = some .local ∨ ((defScope st).names.lookup y.1 = some .cell ∧ ((cellsFrom (s.heap.objs.size + 1) (defScope st).names []).lookup y.1).isSome = true) := fun ⟨nm, u⟩ hy => by
    rcases S.par nm (List.of_mem_zip hy).1 with z | z
    · exact .inl z
    · exact .inr ⟨z, PySem.W.cellsFrom_some _ _ _ (.inl z)⟩
  refine codeAny_call_function room.depth (inK _ _ lkp) rfl S.co S.gen rfl (PySem.W.codeRec_of inK hcode) (bind _ _ _ _ ?_)
  refine wpAny_newFunctionEnv_cells S.kind kinds fun env he s1 call => ?_
  subst he
  refine ⟨noLim.keeps call.toInCall.keep, codeAny_func ?_⟩
  obtain ⟨t, ht, hq⟩ := body cdv A outer s H vs Q (room.deeper _) gd want
  have I0 : Inv (cxOf CX0 P w K mg base N qual (defScope st) f cdv A outer s H E0) [] (L2.start N vs) H s1 := inv_start S room.hd ev hlen rel call
  refine wpAny_mono (ht.nox.run [] s1 (L2.start N vs) H _ I0 hq) (fun fl s2 res => ?_) fun er s2 res => res
  have done : ∀ {σ2 : L2.St} {H2 : Hp} {v : V} {u : Value}, Inv (cxOf CX0 P w K mg base N qual (defScope st) f cdv A outer s H E0) [] σ2 H2 s2 → RelV v u → Q v H2 → L2.CE outer P w H s Q u s2 :=
    fun {σ2 H2 v u} J rv q => ⟨v, H2, J.os, J.bare, J.base, J.hok, rv, q⟩
  cases fl with
  | ret u =>
    obtain ⟨v, σ2, H2, J, rv, q⟩ := res
    exact done J rv q
  | next =>
    obtain ⟨σ2, H2, J, q⟩ := res
    exact done (v := V.non) (u := Value.none) J rfl q
  | brk => exact res.elim fun _ z => z.elim fun _ q => q.2.elim
  | cont => exact res.elim fun _ z => z.elim fun _ q => q.2.elim
theorem FnG.imp {P : Program} {w : World} {K : PySem.W.Frag} {mg : Str → Option Value} {base : Heap} {k : Nat} {f : Addr} {fd : FuncData} {ps : List Str} {sp sp' : SpV} (F : FnG P w K mg base k f fd ps sp) (h : ∀ vs H Q, sp' vs H Q → sp vs H Q) : FnG P w K mg base k f fd ps sp' :=
  ⟨fun vs H Q q => F.len vs H Q (h _ _ _ q), fun A outer s H args us vs Q hr hg ev hb hv hs => F.run A outer s H args us vs Q hr hg ev hb hv (h _ _ _ hs)⟩
theorem FnG.mono {P : Program} {w : World} {K : PySem.W.Frag} {mg : Str → Option Value} {base : Heap} {j k : Nat} {f : Addr} {fd : FuncData} {ps : List Str} {sp : SpV} (F : FnG P w K mg base j f fd ps sp) (h : j ≤ k) : FnG P w K mg base k f fd ps sp :=
  ⟨F.len, fun A outer s H args us vs Q hr => F.run A outer s H args us vs Q (hr.mono h)⟩
/-- what the run of def f, to depth d, promises -/
def spF (Pg : Prog) (d : Nat) (K : PySem.W.Frag) (C : Nat → Addr) (f : Nat) : SpV := fun xs H Q => ∃ bs base R h vs v h', Sim K C bs base R h H ∧ base ≤ h.length ∧ DenL K C R H vs xs ∧ runF Pg d f vs h = .ok v h' ∧
  ∀ R' H' x, Ext R R' H H' → Sim K C bs base R' h' H' → Den K C R' H' v x → Q x H'
/-- a def of the text and of the core -/
structure FnS (P : Program) (w : World) (K : PySem.W.Frag) (mg : Str → Option Value) (C : Nat → Addr) (Pg : Prog) (f : Nat) (fn : Fn) (x qual : Str) (st : Stmt) (fa : Addr) (fd : FuncData) (N ps : List Str) (T : Stc) : Prop where
  at_ : Pg.fns[f]? = some fn
  np : fn.np = ps.length
  n : fn.n = N.length
  fun_ : Fun K x qual st fa fd
  sc : FnScope N ps (defScope st)
  N : T.N = N
  body : SSs T (defScope st) (defBody st) fn.body
/-- the static part of XOk -/
structure Stat (P : Program) (w : World) (K : PySem.W.Frag) (mg : Str → Option Value) (C : Nat → Addr) (Pg : Prog) (A : Nat → Addr) (D : Nat → FuncData) (ps : Nat → List Str) (T : Stc) : Prop where
  blt : ∀ x ∈ T.blt, mg x = none
  cst : ∀ x v, T.cst.lookup x = some v → ∃ u xv, mg x = some u ∧ RelV xv u ∧ ∀ R H, Den K C R H v xv
  fns : ∀ x f, T.fns.lookup x = some f → f < Pg.fns.length ∧ mg x = some (.ref (A f))
  kws : ∀ f ks perm, (f, ks, perm) ∈ T.kws → KwB (D f) (ps f) ks perm
  mks : ∀ x c, T.cls.lookup x = some c → mg x = some (.ref (C c)) ∧ c < Pg.cls.length ∧ (∀ t ∈ tyNames, PySem.W.kitOne K (.type t) (.ref (C c)) = some false) ∧
    (∀ d, d < Pg.cls.length → PySem.W.kitOne K (.ref (C d)) (.ref (C c)) = some (decide (d = c))) ∧ (c ∈ T.mks → ∃ cl fi, Pg.cls[c]? = some cl ∧ cl.init = some fi ∧ fi < Pg.fns.length ∧ Mk K (C c) (A fi))
  cls : ∀ c, c < Pg.cls.length → ClsK K C c
  isb : ∀ c, c < Pg.cls.length → ∀ t ∈ tyNames, PySem.W.kitOne K (.ref (C c)) (.type t) = some false
  noat : ∀ c cl f, Pg.cls[c]? = some cl → f ∈ T.flds → tab cl.props f = none → tab cl.meths f = none → NoAttr K (C c) f
  prs : ∀ c cl f p, Pg.cls[c]? = some cl → tab cl.props f = some p → p < Pg.fns.length ∧ ∃ pa, PropOf K (C c) f pa (A p)
section
variable {P : Program} {w : World} {K : PySem.W.Frag} {mg : Str → Option Value} {base : Heap} {C : Nat → Addr} {Pg : Prog} {A : Nat → Addr} {D : Nat → FuncData} {ps : Nat → List Str}
/-- the promise of the making -/
theorem spM_of {d c : Nat} {cl : Cl} {fi : Nat} {bs : List Nat} {b0 : Nat} (hc : Pg.cls[c]? = some cl) (hf : cl.init = some fi) {xs : List V} {H : Hp} {Q : VK} (h : spM ⟨K, C, bs, gOf Pg (runF Pg d) b0⟩ c xs H Q) {x dx : Addr} (nx : H x = none) (nd : H dx = none) (ne : dx ≠ x) :
    spF Pg d K C fi (.ref x :: xs) (upd (upd H dx (.own x)) x (.ins (C c) dx [])) (fun v H2 => v = .non ∧ Q (.ref x) H2) := by
  obtain ⟨R, hh, vs, v, h', S, hb, dl, e, k⟩ := h
  have e : makeR Pg (runF Pg d) c vs hh = .ok v h' := e
  simp only [makeR, hc, hf] at e
  obtain ⟨r, h1, e1, e⟩ := Res.bind_eq e
  split at e
  case isFalse => cases e
  rename_i hr
  have Xd : Ext R R H (upd H dx (.own x)) := Ext.new nd
  have Sd := S.new (o := .own x) nd
  have nx2 : (upd H dx (.own x)) x = none := by rw [upd_ne (Ne.symm ne)]; exact nx
  have Xx : Ext R (R.add x) (upd H dx (.own x)) (upd (upd H dx (.own x)) x (.ins (C c) dx [])) := Ext.own nx2
  have XX := Xd.trans Xx
  have nR : x ∉ R := S.notin nx
  have Sx : Sim K C (hh.length :: bs) hh.length (R.add x) (hh ++ [.ins c []]) (upd (upd H dx (.own x)) x (.ins (C c) dx [])) := by
    have S2 := Sd.enter hb
    refine ⟨by simp [S2.len, Rg.add], ?_, fun a m m2 => ?_, fun i o a e r => ?_, fun b m n o hn e => ?_, S2.le, fun a m => Xx.there a (S2.nn a m)⟩
    · show (R.own ++ [x]).Nodup
      rw [List.nodup_append]
      refine ⟨S.nd, by simp, fun a ha b hb2 => ?_⟩
      rw [List.mem_singleton.mp hb2]
      exact fun z => nR (.inl (by rw [← z]; exact ha))
    · have m : a ∈ R.own ++ [x] := m
      rcases List.mem_append.mp m with m | m
      · exact S.dj a m m2
      · rw [List.mem_singleton.mp m] at m2; exact nR (.inr m2)
    · have r : (R.own ++ [x])[i]? = some a := r
      by_cases hi : i < hh.length
      · rw [List.getElem?_append_left hi] at e
        rw [List.getElem?_append_left (by rw [S.len]; exact hi)] at r
        have q := S2.obj i o a e r
        have np : a ≠ x := fun z => nR (.inl (by rw [← z]; exact List.mem_of_getElem? r))
        rw [upd_ne np]
        exact q.mono Xx
      · have hi2 : i = hh.length := by
          have := (List.getElem?_eq_some_iff.mp e).1
          simp at this
          omega
        subst hi2
        rw [List.getElem?_append_right (Nat.le_refl _), Nat.sub_self] at e
        rw [← S.len, List.getElem?_append_right (Nat.le_refl _), Nat.sub_self] at r
        cases e; cases r
        rw [upd_same]
        exact ⟨rfl, rfl⟩
    · have : n < hh.length := Nat.lt_of_lt_of_le hn (S2.le b m)
      rw [List.getElem?_append_left this] at e
      exact S2.cl b m n o hn e
  have rx : (R.add x).own[hh.length]? = some x := by
    show (R.own ++ [x])[hh.length]? = some x
    rw [← S.len, List.getElem?_append_right (Nat.le_refl _), Nat.sub_self]
    rfl
  refine ⟨hh.length :: bs, hh.length, R.add x, hh ++ [.ins c []], .ref hh.length :: vs, r, h1, Sx, by simp, ⟨.ref x, xs, rfl, ⟨x, rx, rfl⟩, dl.mono XX⟩, e1, fun R' H' y X' S' dr => ?_⟩
  have hy : y = .non := by
    cases r <;> simp only [isNon] at hr <;> first | exact dr | cases hr
  refine ⟨hy, ?_⟩
  have hl1 : hh.length < h1.length := by
    obtain ⟨q, eq, _⟩ := X'.more
    rw [← S'.len, eq]
    show hh.length < ((R.own ++ [x]) ++ q).length
    rw [List.length_append, List.length_append, S.len]
    simp
    omega
  have rx' : R'.own[hh.length]? = some x := by
    obtain ⟨q, eq, _⟩ := X'.more
    rw [eq, List.getElem?_append_left (List.getElem?_eq_some_iff.mp rx).1]
    exact rx
  split at e
  · split at e
    case h_2 => cases e
    rename_i dc fs hob
    split at e <;> cases e
    rename_i hfz _
    have Sl := S'.leave (Nat.le_of_lt hl1) S.le hb
    have Xl : Ext R (R'.cut hh.length) H H' := (XX.trans X').cutR S.len
    refine k _ H' _ Xl Sl ?_
    have o := S'.obj hh.length _ x hob rx'
    cases hx : H' x with
    | none => rw [hx] at o; exact o.elim
    | some u =>
      rw [hx] at o
      cases u <;> first | exact o.elim | skip
      obtain ⟨o1, o2⟩ := o
      subst o1
      exact ⟨x, _, _, rfl, hx, S'.gone (Nat.le_refl _) rx', DenK.cutR _ _ _ hfz.1 o2⟩
  · cases e
    exact k R' H' _ (XX.trans X') (S'.keep S.le) ⟨x, rx', rfl⟩
theorem spZ_of {d f : Nat} {bs : List Nat} {b0 : Nat} {xs : List V} {H : Hp} {Q : VK} (h : spZ ⟨K, C, bs, gOf Pg (runF Pg d) b0⟩ f xs H Q) : spF Pg d K C f xs H Q := by
  obtain ⟨R, hh, vs, v, h', S, hb, dl, e, k⟩ := h
  exact ⟨bs, b0, R, hh, vs, v, h', S, hb, dl, e, k⟩
/-- the context of a body -/
theorem xok_of {d k : Nat} {T : Stc} {X : Cx} {sc : Scope} {bs : List Nat} {b0 : Nat} (st : Stat P w K mg C Pg A D ps T) (ih : ∀ f, f < Pg.fns.length → FnG P w K mg base k (A f) (D f) (ps f) (spF Pg d K C f)) (bi : ∀ f, f < Pg.fns.length → Binds K (D f) (ps f) [] ∧ PySem.W.keepIn K (.ref (A f)) = true)
    (eP : X.prog = P) (ew : X.w = w) (eK : X.K = K) (emg : X.mg = mg) (eb : X.base = base) (eN : X.N = T.N) (nd : T.N.Nodup) (esc : X.env.scope = sc) (calm : X.calm = true) (hr : Room (k + 1) X.A) (gd : X.A.guards = some []) : XOk T ⟨K, C, bs, gOf Pg (runF Pg d) b0⟩ X sc := by
  subst eP ew eK emg eb
  refine ⟨rfl, eN, nd, esc, calm, hr.mono (by omega), gd, st.blt, st.cst, fun x f hx => ?_, fun x c hx => ?_, st.cls, st.isb, fun c f hc hf h1 h2 => ?_, fun c f p hc hp => ?_⟩
  · obtain ⟨hlt, hm⟩ := st.fns x f hx
    exact ⟨k, A f, D f, ps f, (ih f hlt).imp fun _ _ _ => spZ_of, hr.mono (by omega), hm, (bi f hlt).2, (bi f hlt).1, st.kws f⟩
  · obtain ⟨h1, h2, h3, h4, h5⟩ := st.mks x c hx
    refine ⟨h1, h2, h3, h4, fun hm => ?_⟩
    obtain ⟨cl, fi, e1, e2, e3, M⟩ := h5 hm
    exact ⟨k, A fi, D fi, ps fi, _, M, ih fi e3, hr, (bi fi e3).1, fun xs H Q q x dx nx ndx ne => spM_of e1 e2 q nx ndx ne⟩
  · have hc : c < Pg.cls.length := hc
    have e : Pg.cls[c]? = some Pg.cls[c] := List.getElem?_eq_getElem hc
    have h1 : ((Pg.cls[c]?).bind fun cl => tab cl.props f).isSome = false := h1
    have h2 : ((Pg.cls[c]?).bind fun cl => tab cl.meths f).isSome = false := h2
    rw [e] at h1 h2
    exact st.noat c _ f e hf (by simpa using h1) (by simpa using h2)
  · have hc : c < Pg.cls.length := hc
    have e : Pg.cls[c]? = some Pg.cls[c] := List.getElem?_eq_getElem hc
    have hp : ((Pg.cls[c]?).bind fun cl => tab cl.props f) = some p := hp
    rw [e] at hp
    obtain ⟨h1, pa, h2⟩ := st.prs c _ f p e hp
    exact ⟨k, pa, A p, D p, ps p, h2, (ih p h1).imp fun _ _ _ => spZ_of, hr, (bi p h1).1⟩
theorem start_den {R : Rg} {H : Hp} {vs : List Val} {xs : List V} {N : List Str} {np n : Nat} (d : DenL K C R H vs xs) (hn : n = N.length) : DenS K C R H (vs.map some ++ List.replicate (n - vs.length) none) (L2.start N xs) := by
  have hl := d.length
  subst hn
  unfold L2.start
  refine ⟨by simp [hl], fun i v e => ?_⟩
  by_cases hi : i < vs.length
  · rw [List.getElem?_append_left (by simpa using hi), List.getElem?_map] at e
    cases ev : vs[i]? with
    | none => rw [ev] at e; cases e
    | some u =>
      rw [ev] at e
      cases e
      obtain ⟨x, ex, dx⟩ := d.get ev
      exact ⟨x, by rw [List.getElem?_append_left (by rw [List.length_map, ← hl]; exact hi), List.getElem?_map, ex]; rfl, dx⟩
  · rw [List.getElem?_append_right (by simpa using Nat.le_of_not_lt hi), List.getElem?_replicate] at e
    split at e <;> cases e
/-- THE PROMISE of every def of the core, to any depth -/
theorem fns_ok {Fn_ : Nat → Fn} {X Q_ : Nat → Str} {St : Nat → Stmt} {Ns : Nat → List Str} {Ts : Nat → Stc} (all : ∀ f, f < Pg.fns.length → FnS P w K mg C Pg f (Fn_ f) (X f) (Q_ f) (St f) (A f) (D f) (Ns f) (ps f) (Ts f) ∧ Stat P w K mg C Pg A D ps (Ts f))
    (bi : ∀ f, f < Pg.fns.length → Binds K (D f) (ps f) [] ∧ PySem.W.keepIn K (.ref (A f)) = true) : ∀ (d f : Nat), f < Pg.fns.length → FnG P w K mg base (2 * d + 1) (A f) (D f) (ps f) (spF Pg d K C f)
  | 0, f, hf => by
    refine ⟨fun vs H Q h => ?_, fun A outer s H args us vs Q hr hg ev hb hv h => ?_⟩ <;>
      (obtain ⟨bs, b0, R, hh, ws, v, h', S, hb, dl, e, k⟩ := h; simp only [runF] at e; cases e)
  | d + 1, f, hf => by
    obtain ⟨F, st⟩ := all f hf
    have ih := fns_ok all bi d
    have hN : (Ts f).N.Nodup := by rw [F.N]; exact F.sc.nd
    refine (fnG_of (k := 2 * d + 2) F.fun_ F.sc (fun vs H Q h => ?_) fun cdv Ar outer s H vs Q hr gd h => ?_)
    · obtain ⟨bs, b0, R, hh, ws, v, h', S, hb, dl, e, k⟩ := h
      simp only [runF, F.at_] at e
      split at e
      case isFalse => cases e
      rename_i hl
      rw [← dl.length, hl, F.np]
    · obtain ⟨bs, b0, R, hh, ws, v, h', S, hb, dl, e, k⟩ := h
      simp only [runF, F.at_] at e
      split at e
      case isFalse => cases e
      rename_i hl
      obtain ⟨p, h1, e1, e2⟩ := Res.bind_eq e
      have S2 := S.enter hb
      have xok : XOk (Ts f) ⟨K, C, hh.length :: bs, gOf Pg (runF Pg d) hh.length⟩ (cxOf CX0 P w K mg base (Ns f) (Q_ f) (defScope (St f)) (A f) cdv Ar outer s H E0).nox (defScope (St f)) :=
        xok_of st (fun g hg => (ih g hg)) bi rfl rfl rfl rfl rfl F.N.symm hN rfl rfl hr (deeper_guards.trans gd)
      refine ⟨trSs ⟨K, C, hh.length :: bs, gOf Pg (runF Pg d) hh.length⟩ (Fn_ f).body, F.body _ _ xok ⟨fun _ => rfl, PassesOwn.never, F.sc.kind⟩, _, hh, R, p, h1, S2, Nat.le_refl _, start_den (np := (Fn_ f).np) dl F.n, e1, fun R' H' σ' X' S' D' => ?_⟩
      have hlen : hh.length ≤ h1.length := by
        obtain ⟨r, er, _⟩ := X'.more
        rw [← S'.len, er, List.length_append, S.len]
        omega
      have Xc : Ext R (R'.cut hh.length) H H' := X'.cutR S.len
      have Sc : Sim K C bs b0 (R'.cut hh.length) (h1.take hh.length) H' := S'.leave hlen S.le hb
      obtain ⟨ctl, s9⟩ := p
      cases ctl with
      | next =>
        simp only [retR] at e2
        split at e2 <;> cases e2
        · exact k R' H' _ X' (S'.keep S.le) rfl
        · exact k _ H' _ Xc Sc rfl
      | brk => simp only [retR] at e2; cases e2
      | cont => simp only [retR] at e2; cases e2
      | ret u =>
        intro x dx
        simp only [retR] at e2
        split at e2
        · cases e2
          exact k R' H' _ X' (S'.keep S.le) dx
        · split at e2 <;> cases e2
          rename_i hz
          exact k _ H' _ Xc Sc (frz_ok S' hz dx)
end
end Co
end

section
set_option linter.all false
set_option maxRecDepth 100000
set_option autoImplicit false
/-! Co19: the end of a law. -/
namespace Co
open PySem PySem.Spec
                        PyProof.Rows L2
section
variable {P : Program} {w : World} {K : PySem.W.Frag} {mg mb : Str → Option Value} {k : Nat} {fa a : Addr} {fd : FuncData} {x : Str} {sp : SpV} {s : Shared} {vs : List Value} {ns : List Int}
/-- from an abstract heap in which at most the script is told of -/
theorem lawCore {H : Hp} (inK : K.In s.heap) (nsG : s.heap.Ns mainGlobals mg) (nsB : s.heap.Ns builtinsNs mb) (bl : ∀ x : Str, x ≠ "__name__" → mb x = bootBuiltins x) (lim : s.heap.NoLimit) (gens : s.gens = #[])
    (obA : s.heap.get? a = some { cls := .type "list", data := .seq vs.toArray }) (room : Room k callerA) (F : ∀ base : Heap, K.In base → base.Ns mainGlobals mg → FnG P w K mg base k fa fd [x] sp) (bind : ∀ (s : Shared) (u : Value), BindsTo s fd ⟨[u], []⟩ [(x, u)])
    (want : sp [.ref a] H (fun v _ => v = .bl true)) (only : Only H) (ok : HOk P w H s.heap) (isA : ∀ c, H c ≠ none → c = a) (noK : H a ≠ none → K.lookup a = none) :
    codeAny (model P w) callerA (.call (.ref fa) ⟨[.ref a], []⟩) (fun r s' => r = .ok (.ret (.bool true)) ∧ OldK s.heap s'.heap ∧ s'.os = s.os ∧ AllBare s'.gens) s := by
  have hid : ∀ {c : Addr} {o : Obj}, s.heap.get? c = some o → H c = none → (hidT s.heap H).get? c = some o := fun q n => hidT_get q n
  have isnt : ∀ {c : Addr} {o : Obj} {es : Array DictEntry} {ep : Nat}, s.heap.get? c = some o → o.data = .dict es ep → H c = none := fun {c o es ep} q d => by
    cases hc : H c with
    | none => rfl
    | some u =>
      have ec : c = a := isA c (by rw [hc]; simp)
      subst ec
      rw [obA] at q; cases q
      have d2 : Data.seq vs.toArray _ = Data.dict es ep := d
      cases d2
  have nsH : ∀ {c : Addr} {m : Str → Option Value}, s.heap.Ns c m → (hidT s.heap H).Ns c m := fun {c m} ⟨o, es, ep, q, d, r⟩ => ⟨o, es, ep, hid q (isnt q d), d, r⟩
  have inH : K.In (hidT s.heap H) := fun c o q => hid (inK c o q) (by
    cases hc : H c with
    | none => rfl
    | some u =>
      have ec : c = a := isA c (by rw [hc]; simp)
      subst ec
      rw [noK (by rw [hc]; simp)] at q; cases q)
  have md : Mod K mg (hidT s.heap H) := ⟨inH, nsH nsG, ⟨mb, nsH nsB, bl⟩, let ⟨mc, q1, q2⟩ := lim; ⟨mc, nsH q1, q2⟩⟩
  have ev : Env0 P w K mg (hidT s.heap H) callerA [] s H := ⟨rfl, md, fun c o q => of_hidT q, Nat.le_of_eq (hidT_size _ _), trivial, fun c hc => absurd (show c ∈ ([] : List Addr) from hc) (by simp), ok, .of_eq gens⟩
  refine codeAny_mono ((F _ inH (nsH nsG)).run callerA [] s H ⟨[.ref a], []⟩ [.ref a] [.ref a] _ room rfl ev (bind s (.ref a)) (.cons rfl .nil) want) fun r s' res => ?_
  obtain ⟨u, rfl, v, H', os, bare, un, ok', rel, q⟩ := crEnd (A := callerA) res
  have q2 : v = .bl true := q
  subst q2
  obtain rfl : u = Value.bool true := rel
  refine ⟨rfl, OldK.of_keep fun c o e => ?_, os, bare⟩
  cases hc : H c with
  | none => exact un.keep c o e hc (by intro z; exact absurd (show c ∈ ([] : List Addr) from z) (by simp)) (by simp)
  | some u =>
    rcases only c with z | ⟨ob, xs, z⟩
    · rw [hc] at z; cases z
    · obtain ⟨e1, _⟩ := ok c _ z
      obtain ⟨e2, _⟩ := ok' c _ (un.frzs c ob _ z)
      rw [e] at e1; cases e1
      exact e2
theorem lawCall (inK : K.In s.heap) (nsG : s.heap.Ns mainGlobals mg) (nsB : s.heap.Ns builtinsNs mb) (bl : ∀ x : Str, x ≠ "__name__" → mb x = bootBuiltins x) (lim : s.heap.NoLimit) (gens : s.gens = #[])
    (obA : s.heap.get? a = some { cls := .type "list", data := .seq vs.toArray }) (iA : IntsAre vs ns) (len : ns.length ≤ sizeLine) (room : Room k callerA) (F : ∀ base : Heap, K.In base → base.Ns mainGlobals mg → FnG P w K mg base k fa fd [x] sp)
    (bind : ∀ (s : Shared) (u : Value), BindsTo s fd ⟨[u], []⟩ [(x, u)]) (want : ∀ H : Hp, Only H → SqL K H a (ns.map V.int) → sp [.ref a] H (fun v _ => v = .bl true)) :
    codeAny (model P w) callerA (.call (.ref fa) ⟨[.ref a], []⟩) (fun r s' => r = .ok (.ret (.bool true)) ∧ OldK s.heap s'.heap ∧ s'.os = s.os ∧ AllBare s'.gens) s := by
  have rv := vals_ints iA
  cases hk : K.lookup a with
  | some o =>
    have q := inK a o hk
    rw [obA] at q
    cases q
    have no : Only (fun _ => none) := fun _ => .inl rfl
    exact lawCore (H := fun _ => none) inK nsG nsB bl lim gens obA room F bind (want _ no (.inr ⟨_, vs.toArray, _, hk, rfl, rfl, rfl, by rw [List.size_toArray, iA.length]; exact len, by simpa using rv⟩)) no (fun c u z => nomatch z) (fun c z => absurd rfl z) fun z => absurd rfl z
  | none =>
    have no : Only (fun c => if c = a then some (.frz { cls := .type "list", data := .seq vs.toArray } (.lst (ns.map V.int))) else none) := fun c => by
      by_cases hc : c = a
      · exact .inr ⟨_, _, if_pos hc⟩
      · exact .inl (if_neg hc)
    refine lawCore (H := fun c => if c = a then some (.frz { cls := .type "list", data := .seq vs.toArray } (.lst (ns.map V.int))) else none) inK nsG nsB bl lim gens obA room F bind (want _ no (.inl (.inr ⟨_, if_pos rfl⟩))) no (fun c u z => ?_) (fun c z => ?_) fun _ => hk
    · by_cases hc : c = a
      · have z2 := (if_pos hc).symm.trans z
        cases z2
        subst hc
        exact ⟨obA, by rw [List.length_map]; exact len, vs, _, rv, obA⟩
      · have z2 := (if_neg hc).symm.trans z
        cases z2
    · by_cases hc : c = a
      · exact hc
      · exact absurd (if_neg hc) z
end
/-- the goal that k_head leaves, from the run of the core's law -/
theorem walkG {l : PySem.W.OpenLaw} {n d f : Nat} {q : Program} {loose : List Str} {XP : (Str → Option Value) → Heap → Prop} {YP : World → Heap → Prop} {dr : DefRec} {K : Params → PySem.W.Frag} {x : Str} {Pg : Prog} {C : Params → Nat → Addr}
    (hn : l.most = some n) (hn2 : n ≤ sizeLine) (hdf : dr.params.defaults = []) (hr : Room (2 * d + 1) callerA) (hY : ∀ (w : World) (h : Heap), YP w h → (K w.params).In h)
    (F : ∀ (w : World) (mg : Str → Option Value) (fa : Addr) (h : Heap), (K w.params).In h → h.Ns mainGlobals mg → mg dr.name = some (.ref fa) →
      ∃ fd : FuncData, (∀ (s : Shared) (u : Value), BindsTo s fd ⟨[u], []⟩ [(x, u)]) ∧ ∀ base : Heap, (K w.params).In base → base.Ns mainGlobals mg → FnG l.prog w (K w.params) mg base (2 * d + 1) fa fd [x] (spF Pg d (K w.params) (C w.params) f))
    (run : ∀ ns : List Int, ns.length ≤ n → (∀ z ∈ ns, Builtin.Int.intBits z ≤ 1048576) → ∃ h, runF Pg d f [.ro (ns.map .int)] [] = .ok (.bl true) h) : PySem.W.WalkO q loose XP YP l.row.toRowW dr [] (fun f vs => PySem.call f vs) := by
  refine Att.attach_callB hn hdf
                          fun w s₀ s₁ mg mb fa o pm cd doc a vs ns G Y ho hd hcd hmg hobj hints hlen hbits hg => ?_
  have inK := hY w _ Y
  obtain ⟨fd, hb, hF⟩ := F w mg fa _ inK G.T.g hmg
  refine lawCall inK G.T.g G.T.b G.T.builtins G.T.nolimit hg hobj hints (Nat.le_trans hlen hn2) hr hF hb fun H hO hS => ?_
  obtain ⟨h', e⟩ := run ns hlen hbits
  have aR : a ∉ (⟨[], []⟩ : Rg) := by
    rintro (z | z) <;> cases z
  refine ⟨[], 0, ⟨[], []⟩, [], [.ro (ns.map .int)], .bl true, h', ⟨rfl, .nil, by simp, fun n o a e => by simp at e, by simp, by simp, by simp⟩, Nat.le_refl _, ⟨_, [], rfl, ⟨a, ns.map V.int, rfl, ⟨by rw [List.length_map]; exact Nat.le_trans hlen hn2, ?_⟩, DenL.ofInts ns⟩, rfl⟩, e, fun R' H' y X' S' dy => dy⟩
  rcases hS with z | z
  · exact .inl ⟨z, aR⟩
  · exact .inr z
end Co
end

section
set_option linter.all false
set_option maxRecDepth 100000
set_option autoImplicit false
/-! Co20: the text's form in the core, with its proof: expressions. -/
namespace Co
open PySem PySem.Spec
                        PyProof.Rows L2
def isBoolOp : Expr → Bool
  | .BoolOp .. => true
  | _ => false
structure GE (T : Stc) (sc : Scope) (e : Expr) where
  c : CE
  t : Bool
  se : SE T sc e c
  st : t = true → ST T sc e c
  sw : t = true → isBoolOp e = true → SW T sc e c
  ns : starC c = false
structure GA (T : Stc) (sc : Scope) (es : List Expr) where
  cs : List CE
  sa : SA T sc es cs
structure GO (T : Stc) (sc : Scope) (e : Option Expr) where
  c : Option CE
  so : SO T sc e c
structure GI (T : Stc) (sc : Scope) (tg e : Expr) where
  c : CE
  si : SI T sc tg e c
structure GT (T : Stc) (sc : Scope) (es : List Expr) where
  cs : List CE
  hl : cs.length ≤ 1
  ts : STs T sc es cs
/-- of an expression whose test is its truth -/
def GE.plain {T : Stc} {sc : Scope} {e : Expr} (c : CE) (se : SE T sc e c) (ns : starC c = false) (hb : isBoolOp e = false) : GE T sc e :=
  ⟨c, plainTest e, se, fun h => val_t h se, fun _ h => (by rw [hb] at h; cases h), ns⟩
def ixOf (x : Str) : List Str → Option Nat
  | [] => none
  | y :: r => if y = x then some 0 else (ixOf x r).map (· + 1)
theorem ixOf_eq {x : Str} : ∀ {l : List Str} {i : Nat}, ixOf x l = some i → l[i]? = some x
  | [], i, h => by cases h
  | y :: r, i, h => by
    unfold ixOf at h
    split at h
    · rename_i e
      cases h
      simp [e]
    · simp only [Option.map_eq_some_iff] at h
      obtain ⟨j, h, rfl⟩ := h
      simpa using ixOf_eq h
def visB (sc : Scope) (x : Str) : Bool := sc.names.lookup x == some .local || (sc.names.lookup x == some .cell || sc.names.lookup x == some .free)
theorem vis_of {sc : Scope} {x : Str} (h : visB sc x = true) : Vis sc x := by
  simp only [visB, Bool.or_eq_true, beq_iff_eq] at h
  exact h
def okNm (x : Str) : Bool := !(x == ("__debug__" : Str)) && !(x == ("__classdict__" : Str))
theorem okNm1 {x : Str} (h : okNm x = true) : (x == ("__debug__" : Str)) = false := by
  simp only [okNm, Bool.and_eq_true, Bool.not_eq_true'] at h
  exact h.1
theorem okNm2 {x : Str} (h : okNm x = true) : (x == ("__classdict__" : Str)) = false := by
  simp only [okNm, Bool.and_eq_true, Bool.not_eq_true'] at h
  exact h.2
/-! ### built-ins by name -/
def biNm : Bi → Str
  | .abs => "abs"
  | .all => "all"
  | .any => "any"
  | .bool => "bool"
  | .divmod => "divmod"
  | .int => "int"
  | .len => "len"
  | .max => "max"
  | .min => "min"
  | .str => "str"
  | .sum => "sum"
  | .tuple => "tuple"
  | .list => "list"
  | .sorted => "sorted"
  | .sset => ""
  | .repr => "repr"
def biAll : List Bi := [.abs, .all, .any, .bool, .divmod, .int, .len, .max, .min, .str, .sum, .tuple, .list, .sorted, .repr]
def biOf (x : Str) : Option Bi := biAll.find? fun b => decide (biNm b = x)
theorem biOf_eq {x : Str} {b : Bi} (h : biOf x = some b) : biNm b = x ∧ b ≠ .sset := by
  unfold biOf at h
  have h1 := List.find?_some h
  have h2 := List.mem_of_find?_eq_some h
  exact ⟨of_decide_eq_true h1, fun e => by subst e; exact absurd h2 (by decide)⟩
theorem boot_bi {b : Bi} (h : b ≠ .sset) : bootBuiltins (biNm b) = some (biV b) := by
  cases b <;> first | decide +kernel | exact absurd rfl h
theorem bi_e {T : Stc} {sc : Scope} {a : Expr} {es : List Expr} {ces : List CE} {x : Str} {b : Bi} {p pos : Pos} (hb : biOf x = some b) (hg : isGl sc x = true) (hm : x ∈ T.blt) (hs : noStar (a :: es) = true) (ha : SA T sc (a :: es) ces) : SE T sc (.Call (.Name x p) (a :: es) [] pos) (.callB b ces) := by
  obtain ⟨rfl, h⟩ := biOf_eq hb
  have hx := boot_bi h
  cases b <;> first
    | exact absurd rfl h
    | exact callB_e h rfl hx hg hm (by decide) (by decide) hs ha
    | exact callT_e h rfl hx hg hm (by decide) (by decide) hs ha
def meAll : List Me := [.join, .split, .count, .index, .append, .extend]
def meOf (x : Str) : Option Me := meAll.find? fun m => decide (meNm m = x)
theorem meOf_eq {x : Str} {m : Me} (h : meOf x = some m) : meNm m = x := of_decide_eq_true (List.find?_some (p := fun m => decide (meNm m = x)) h)
def tyAll : List IsT := [.int, .bool, .str, .tuple, .list, .dict]
def tyNm : IsT → Str
  | .int => "int"
  | .bool => "bool"
  | .str => "str"
  | .tuple => "tuple"
  | .list => "list"
  | .dict => "dict"
  | .cls _ => ""
def isOf (x : Str) : Option IsT := tyAll.find? fun q => decide (tyNm q = x)
theorem isI_e {T : Stc} {sc : Scope} {a : Expr} {ca : CE} {x : Str} {q : IsT} {p p2 pos : Pos} (hq : isOf x = some q) (hg : isGl sc "isinstance" = true) (hm : ("isinstance" : Str) ∈ T.blt) (hg2 : isGl sc x = true) (hm2 : x ∈ T.blt) (hs : starred a = false) (ha : SE T sc a ca) :
    SE T sc (.Call (.Name "isinstance" p) [a, .Name x p2] [] pos) (.isI q ca) := by
  unfold isOf at hq
  have h1 : tyNm q = x := of_decide_eq_true (List.find?_some (p := fun q => decide (tyNm q = x)) hq)
  have h2 := List.mem_of_find?_eq_some hq
  subst h1
  cases q
  case cls c => exact absurd h2 (by simp [tyAll])
  case int => exact isB_e (nm := "int") rfl (by decide +kernel) hg hm hg2 hm2 (by decide) (by decide) hs ha
  case bool => exact isB_e (nm := "bool") rfl (by decide +kernel) hg hm hg2 hm2 (by decide) (by decide) hs ha
  case str => exact isB_e (nm := "str") rfl (by decide +kernel) hg hm hg2 hm2 (by decide) (by decide) hs ha
  case tuple => exact isB_e (nm := "tuple") rfl (by decide +kernel) hg hm hg2 hm2 (by decide) (by decide) hs ha
  case list => exact isB_e (nm := "list") rfl (by decide +kernel) hg hm hg2 hm2 (by decide) (by decide) hs ha
  case dict => exact isB_e (nm := "dict") rfl (by decide +kernel) hg hm hg2 hm2 (by decide) (by decide) hs ha
/-! ### a block -/
def ownOf (N : List Str) (scope : Scope) : List (Str × Nat) := scope.names.filterMap fun p => if p.2 == .local || p.2 == .cell then (ixOf p.1 N).map fun i => (p.1, i) else none
def blkB (N : List Str) (sc scope : Scope) (own : List (Str × Nat)) : Bool :=
  decide (scope.kind = .function) && (scope.names.all (fun y => scope.names.lookup y.1 == some y.2) && (own.all (fun p => decide (N[p.2]? = some p.1)) &&
    (scope.names.all (fun y => !(y.2 == .free) || (sc.names.lookup y.1 == some .cell || sc.names.lookup y.1 == some .free)) && scope.names.all (fun y => !(y.2 == .local || y.2 == .cell) || (decide (y.1 ∈ own.map (·.1)) || decide (y.1 ∉ N))))))
theorem blk_of {N : List Str} {sc scope : Scope} {own : List (Str × Nat)} (h : blkB N sc scope own = true) : BlkOk N sc scope own := by
  simp only [blkB, Bool.and_eq_true, List.all_eq_true, decide_eq_true_eq, beq_iff_eq, Bool.or_eq_true, Bool.not_eq_true'] at h
  obtain ⟨h1, h2, h3, h4, h5⟩ := h
  refine ⟨h1, h2, h3, fun y hy e => ?_, fun y hy e => ?_⟩
  · rcases h4 y hy with q | q
    · rw [e] at q; cases q
    · exact q
  · rcases h5 y hy with q | q
    · rcases e with e | e <;> rw [e] at q <;> cases q
    · exact q
section
variable {T : Stc}
def compA {sc : Scope} (r : (e : Expr) → Option (GE T sc e)) : (es : List Expr) → Option (GA T sc es)
  | [] => some ⟨[], nil_a⟩
  | .Starred e p :: es => (r e).bind fun g => (compA r es).map fun ga => ⟨.star g.c :: ga.cs, star_a g.se ga.sa⟩
  | e :: es => if hs : starred e = false then (r e).bind fun g => (compA r es).map fun ga => ⟨g.c :: ga.cs, cons_a hs g.ns g.se ga.sa⟩ else none
def compK {sc : Scope} (r : (e : Expr) → Option (GE T sc e)) : (kws : List Keyword) → Option { cs : List CE // SK T sc kws cs ∧ (∀ c ∈ cs, starC c = false) }
  | [] => some ⟨[], nil_k, by simp⟩
  | ⟨nm, e, p⟩ :: kws => (r e).bind fun g => (compK r kws).map fun ga => ⟨g.c :: ga.1, cons_k g.ns g.se ga.2.1, fun c m => (List.mem_cons.mp m).elim (fun q => by rw [q]; exact g.ns) (ga.2.2 c)⟩
def kwFind (f : Nat) (ks : List Str) : List (Nat × List Str × List Nat) → Option (List Nat)
  | [] => none
  | q :: r => if q.1 = f ∧ q.2.1 = ks then some q.2.2 else kwFind f ks r
theorem kwFind_eq {f : Nat} {ks : List Str} {perm : List Nat} : ∀ {l : List (Nat × List Str × List Nat)}, kwFind f ks l = some perm → (f, ks, perm) ∈ l
  | [], h => nomatch h
  | q :: r, h => by
    unfold kwFind at h
    split at h
    · rename_i e
      cases h
      obtain ⟨a, b, c⟩ := q
      rw [← e.1, ← e.2]
      exact List.mem_cons_self
    · exact List.mem_cons_of_mem _ (kwFind_eq h)
def compD {sc : Scope} (r : (e : Expr) → Option (GE T sc e)) : (keys : List (Option Expr)) → (vals : List Expr) → Option { q : List Key × List CE // SPr T sc keys q.1 vals q.2 }
  | [], [] => some ⟨([], []), nil_p⟩
  | some (.Constant (.int i) j p) :: keys, v :: vals => (r v).bind fun g => (compD r keys vals).map fun gd => ⟨(.inl i :: gd.1.1, g.c :: gd.1.2), cons_p g.ns (fun X => pe_int) g.se gd.2⟩
  | some (.Constant (.str x) j p) :: keys, v :: vals => (r v).bind fun g => (compD r keys vals).map fun gd => ⟨(.inr x :: gd.1.1, g.c :: gd.1.2), cons_p g.ns (fun X => pe_str) g.se gd.2⟩
  | _, _ => none
def compO {sc : Scope} (r : (e : Expr) → Option (GE T sc e)) : (e : Option Expr) → Option (GO T sc e)
  | none => some ⟨none, none_o⟩
  | some e => (r e).map fun g => ⟨some g.c, some_o g.se⟩
def compTs {sc : Scope} (r : (e : Expr) → Option (GE T sc e)) : (es : List Expr) → Option (GT T sc es)
  | [] => some ⟨[], Nat.zero_le _, ts_nil⟩
  | [e] => (r e).bind fun g => if h : g.t = true then some ⟨[g.c], Nat.le_refl _, ts_one (g.st h)⟩ else none
  | _ => none
def compI {sc : Scope} (r : (e : Expr) → Option (GE T sc e)) (tg : Expr) : (e : Expr) → Option (GI T sc tg e)
  | .Call (.Name x p) [a] [] pos =>
    if h1 : x = "range" ∧ isGl sc "range" = true ∧ ("range" : Str) ∈ T.blt ∧ starred a = false then (r a).map fun g => ⟨.range1 g.c, h1.1 ▸ range1_i h1.2.1 h1.2.2.1 h1.2.2.2 g.ns g.se⟩
    else if h2 : x = "enumerate" ∧ isGl sc "enumerate" = true ∧ ("enumerate" : Str) ∈ T.blt ∧ starred a = false then (match tg with
      | .Tuple elts k tp => (r a).map fun g => ⟨.enum g.c, h2.1 ▸ enum_i h2.2.1 h2.2.2.1 h2.2.2.2 g.ns g.se⟩
      | _ => none)
    else (r (.Call (.Name x p) [a] [] pos)).map fun g => ⟨.of g.c, of_i g.se⟩
  | .Call (.Name x p) [a, b] [] pos =>
    if h1 : x = "range" ∧ isGl sc "range" = true ∧ ("range" : Str) ∈ T.blt ∧ starred a = false ∧ starred b = false then (r a).bind fun g => (r b).map fun g2 => ⟨.range2 g.c g2.c, h1.1 ▸ range2_i h1.2.1 h1.2.2.1 h1.2.2.2.1 g.ns h1.2.2.2.2 g2.ns g.se g2.se⟩
    else if h2 : x = "zip" ∧ isGl sc "zip" = true ∧ ("zip" : Str) ∈ T.blt ∧ starred a = false ∧ starred b = false then (match tg with
      | .Tuple elts k tp => (r a).bind fun g => (r b).map fun g2 => ⟨.zip g.c g2.c, h2.1 ▸ zip_i h2.2.1 h2.2.2.1 h2.2.2.2.1 g.ns h2.2.2.2.2 g2.ns g.se g2.se⟩
      | _ => none)
    else (r (.Call (.Name x p) [a, b] [] pos)).map fun g => ⟨.of g.c, of_i g.se⟩
  | e => (r e).map fun g => ⟨.of g.c, of_i g.se⟩
/-- the places of a clause's target -/
def tgNames (N : List Str) : Expr → Option (Bool × List Nat)
  | .Name x _ => (ixOf x N).map fun i => (true, [i])
  | .Tuple es _ _ => (es.mapM fun (e : Expr) => match e with | .Name x _ => ixOf x N | _ => none).map fun l => (false, l)
  | _ => none
theorem lc_e {sc : Scope} {m : Bool} {elt tge iter : Expr} {ifs : List Expr} {scope : Scope} {pos : Pos} {q : Bool × List Nat} (hset : notSet iter = true) (hb : blkB T.N sc scope (ownOf T.N scope) = true) (ho : (q.2.all fun i => decide (i ∈ (ownOf T.N scope).map (·.2))) = true)
    (htg : tgOk T.N (canB scope (relS scope sc)) q.1 q.2 tge = true) (gi : GI T sc tge iter) (gt : GT T (relS scope sc) ifs) (ge : GE T (relS scope sc) elt) :
    SE T sc (.ListComp elt [⟨tge, iter, ifs, 0⟩] scope pos) (.comp m ((ownOf T.N scope).map (·.2)) q.2 q.1 gi.c gt.cs ge.c) :=
  comp_e hset (blk_of hb) gt.hl (fun i hi => of_decide_eq_true (List.all_eq_true.mp ho i hi)) htg gi.si gt.ts ge.se
def compE (T : Stc) (own : Pos → Bool) : (n : Nat) → (sc : Scope) → (e : Expr) → Option (GE T sc e)
  | 0, _, _ => none
  | n + 1, sc, e => match e with
    | .Constant (.int i) _ _ => some (.plain _ int_e rfl rfl)
    | .Constant (.bool i) _ _ => some (.plain _ bl_e rfl rfl)
    | .Constant .none _ _ => some (.plain _ non_e rfl rfl)
    | .Constant (.str i) _ _ => some (.plain _ str_e rfl rfl)
    | .Name x pos => if ho : okNm x = true then (match hi : ixOf x T.N with
        | some i => if hv : visB sc x = true then some (.plain _ (var_e (ixOf_eq hi) (vis_of hv) (okNm1 ho) (okNm2 ho)) rfl rfl) else none
        | none => if hg : isGl sc x = true then (match hc : T.cst.lookup x with
          | some v => some (.plain _ (glob_e hg hc (okNm1 ho)) rfl rfl)
          | none => none) else none) else none
    | .BinOp a op b pos => (compE T own n sc a).bind fun ga => (compE T own n sc b).map fun gb => .plain _ (bin_e ga.se gb.se) rfl rfl
    | .UnaryOp .USub a pos => (compE T own n sc a).map fun ga => .plain _ (neg_e ga.se) rfl rfl
    | .UnaryOp .Not a pos => (compE T own n sc a).map fun ga => ⟨.not ga.c, ga.t, not_e ga.se, fun h => not_t (ga.st h), (fun _ h => nomatch h), rfl⟩
    | .BoolOp .And [a] pos => (compE T own n sc a).map fun ga => ⟨ga.c, ga.t, bone_e ga.se, fun h => (wand1 (ga.st h)).st, fun h _ => wand1 (ga.st h), ga.ns⟩
    | .BoolOp .Or [a] pos => (compE T own n sc a).map fun ga => ⟨ga.c, ga.t, bone_e ga.se, fun h => (wor1 (ga.st h)).st, fun h _ => wor1 (ga.st h), ga.ns⟩
    | .BoolOp .And (a :: b :: r) pos => (compE T own n sc a).bind fun ga => (compE T own n sc (.BoolOp .And (b :: r) pos)).map fun gb =>
        ⟨.and ga.c gb.c, ga.t && gb.t, and_e ga.se gb.se, fun h => (wand (ga.st (Bool.and_eq_true_iff.mp h).1) (gb.sw (Bool.and_eq_true_iff.mp h).2 rfl)).st, fun h _ => wand (ga.st (Bool.and_eq_true_iff.mp h).1) (gb.sw (Bool.and_eq_true_iff.mp h).2 rfl), rfl⟩
    | .BoolOp .Or (a :: b :: r) pos => (compE T own n sc a).bind fun ga => (compE T own n sc (.BoolOp .Or (b :: r) pos)).map fun gb =>
        ⟨.or ga.c gb.c, ga.t && gb.t, or_e ga.se gb.se, fun h => (wor (ga.st (Bool.and_eq_true_iff.mp h).1) (gb.sw (Bool.and_eq_true_iff.mp h).2 rfl)).st, fun h _ => wor (ga.st (Bool.and_eq_true_iff.mp h).1) (gb.sw (Bool.and_eq_true_iff.mp h).2 rfl), rfl⟩
    | .Compare a [op] [b] pos => if hm : notSet b = true then (compE T own n sc a).bind fun ga => (compE T own n sc b).map fun gb => ⟨.cmp op ga.c gb.c, true, cmp_e hm ga.se gb.se, fun _ => cmp_t hm ga.se gb.se, (fun _ h => nomatch h), rfl⟩ else none
    | .Compare a [o1, o2] [b, c] pos => if hm : notSet c = true then (compE T own n sc a).bind fun ga => (compE T own n sc b).bind fun gb => (compE T own n sc c).map fun gc =>
        ⟨.chain o1 o2 ga.c gb.c gc.c, true, chain_e hm ga.se gb.se gc.se, fun _ => chain_t hm ga.se gb.se gc.se, (fun _ h => nomatch h), rfl⟩ else none
    | .IfExp c a b pos => (compE T own n sc c).bind fun gc => (compE T own n sc a).bind fun ga => (compE T own n sc b).bind fun gb => if h : gc.t = true then some (.plain _ (ite_e (gc.st h) ga.se gb.se) rfl rfl) else none
    | .Tuple es j pos => (compA (compE T own n sc) es).map fun ga => .plain _ (tup_e ga.sa) rfl rfl
    | .List es pos => (compA (compE T own n sc) es).map fun ga => .plain _ (lst_e (m := own pos) ga.sa) rfl rfl
    | .Dict [] [] pos => some (.plain _ dct0_e rfl rfl)
    | .Dict (k :: keys) vals pos => if h : (k :: keys).all (·.isSome) = true ∧ (k :: keys).length = vals.length ∧ (k :: keys).length ≤ 15 then (compD (compE T own n sc) (k :: keys) vals).map fun gd => .plain _ (disp_e h.1 h.2.1 (List.cons_ne_nil _ _) h.2.2 gd.2) rfl rfl else none
    | .Attribute a f pos => if h : f ∈ T.flds ∧ plainBase a = true then (compE T own n sc a).map fun ga => .plain _ (fld_e h.1 h.2 ga.se) rfl rfl else none
    | .Subscript a (.Slice none none (some (.UnaryOp .USub (.Constant (.int 1) j p1) p2)) p3) pos => (compE T own n sc a).map fun ga => .plain _ (rev_e ga.se) rfl rfl
    | .Subscript a (.Slice lo hi none p2) pos => (compE T own n sc a).bind fun ga => (compO (compE T own n sc) lo).bind fun gl => (compO (compE T own n sc) hi).map fun gh => .plain _ (slice_e ga.se gl.so gh.so) rfl rfl
    | .Subscript a b pos => if hn : notSlice b = true then (compE T own n sc a).bind fun ga => (compE T own n sc b).map fun gb => .plain _ (idx_e hn ga.se gb.se) rfl rfl else none
    | .Call (.Name x p) [] [] pos => (match hf : T.fns.lookup x with
        | some f => if h : isGl sc x = true ∧ okNm x = true then some (.plain _ (callF0_e hf h.1 (okNm1 h.2)) rfl rfl) else none
        | none => none)
    | .Call (.Name x p) [] (kw :: kws) pos => (match hf : T.fns.lookup x with
        | some f => if h : isGl sc x = true ∧ okNm x = true then (match hks : kwNm (kw :: kws) with
          | some ks => (match hq : kwFind f ks T.kws with
            | some perm => (compK (compE T own n sc) (kw :: kws)).bind fun ga => if hl : ga.1.length = ks.length then some (.plain _ (callK_e hf h.1 (okNm1 h.2) hks (kwFind_eq hq) hl ga.2.2 ga.2.1) rfl rfl) else none
            | none => none)
          | none => none) else none
        | none => none)
    | .Call (.Name x p) (a :: es) [] pos => (match hf : T.fns.lookup x with
        | some f => if h : isGl sc x = true ∧ okNm x = true ∧ noStar (a :: es) = true then (compA (compE T own n sc) (a :: es)).map fun ga => .plain _ (callF_e hf h.1 (okNm1 h.2.1) h.2.2 ga.sa) rfl rfl else none
        | none => (match hc : T.cls.lookup x with
          | some c => if h : c ∈ T.mks ∧ isGl sc x = true ∧ okNm x = true ∧ noStar (a :: es) = true then (compA (compE T own n sc) (a :: es)).map fun ga => .plain _ (make_e hc h.1 h.2.1 (okNm1 h.2.2.1) h.2.2.2 ga.sa) rfl rfl else none
          | none => if hl : own pos = true ∧ x = "list" ∧ es = [] ∧ isGl sc "list" = true ∧ ("list" : Str) ∈ T.blt ∧ starred a = false then (compE T own n sc a).map fun ga => .plain (.listM ga.c) (hl.2.1 ▸ hl.2.2.1 ▸ listM_e hl.2.2.2.1 hl.2.2.2.2.1 hl.2.2.2.2.2 ga.ns ga.se) rfl rfl
            else (match hb : biOf x with
            | some b => if h : isGl sc x = true ∧ x ∈ T.blt ∧ noStar (a :: es) = true then (compA (compE T own n sc) (a :: es)).map fun ga => .plain _ (bi_e hb h.1 h.2.1 h.2.2 ga.sa) rfl rfl else none
            | none => (match es with
              | [.Name t p2] => if h : x = "isinstance" ∧ isGl sc "isinstance" = true ∧ ("isinstance" : Str) ∈ T.blt ∧ isGl sc t = true ∧ starred a = false ∧ okNm t = true then (match hq : isOf t with
                | some q => if h2 : t ∈ T.blt then (compE T own n sc a).map fun ga => .plain (.isI q ga.c) (h.1 ▸ isI_e hq h.2.1 h.2.2.1 h.2.2.2.1 h2 h.2.2.2.2.1 ga.se) rfl rfl else none
                | none => (match hc2 : T.cls.lookup t with
                  | some cl => (compE T own n sc a).map fun ga => .plain (.isI (.cls cl) ga.c) (h.1 ▸ isC_e hc2 h.2.1 h.2.2.1 h.2.2.2.1 (okNm1 h.2.2.2.2.2) h.2.2.2.2.1 ga.se) rfl rfl
                  | none => none)) else none
              | _ => none))))
    | .Call (.Attribute o m apos) (a :: es) [] pos => if ho : own pos = true ∧ m = "split" ∧ es = [] ∧ plainBase o = true ∧ starred a = false ∧ (apos.endLine == pos.line) = true then (compE T own n sc o).bind fun go => (compE T own n sc a).map fun ga =>
            .plain (.splitM go.c ga.c) (ho.2.1 ▸ ho.2.2.1 ▸ splitM_e ho.2.2.2.1 ho.2.2.2.2.1 ga.ns ho.2.2.2.2.2 go.se ga.se) rfl rfl
        else (match hm : meOf m with
        | some me => if h : plainBase o = true ∧ noStar (a :: es) = true ∧ (a :: es).length < 30 ∧ (apos.endLine == pos.line) = true then (compE T own n sc o).bind fun go => (compA (compE T own n sc) (a :: es)).map fun ga =>
            .plain _ (meOf_eq hm ▸ meth_e h.1 h.2.1 h.2.2.1 h.2.2.2 go.se ga.sa) rfl rfl else none
        | none => none)
    | .ListComp elt [⟨tge, iter, ifs, 0⟩] scope pos => (match tgNames T.N tge with
        | some q => if h : notSet iter = true ∧ blkB T.N sc scope (ownOf T.N scope) = true ∧ (q.2.all fun i => decide (i ∈ (ownOf T.N scope).map (·.2))) = true ∧ tgOk T.N (canB scope (relS scope sc)) q.1 q.2 tge = true then
            (compI (compE T own n sc) tge iter).bind fun gi => (compTs (compE T own n (relS scope sc)) ifs).bind fun gt => (compE T own n (relS scope sc) elt).map fun ge => .plain _ (lc_e (m := own pos) h.1 h.2.1 h.2.2.1 h.2.2.2 gi gt ge) rfl rfl else none
        | none => none)
    | _ => none
end
end Co
end

section
set_option linter.all false
set_option maxRecDepth 100000
set_option autoImplicit false
/-! Co21: the text's form in the core, with its proof: statements. -/
namespace Co
open PySem PySem.Spec
                        PyProof.Rows L2
structure GS (T : Stc) (sc : Scope) (st : Stmt) where
  c : CS
  ss : SS T sc st c
structure GSs (T : Stc) (sc : Scope) (sts : List Stmt) where
  cs : List CS
  ss : SSs T sc sts cs
structure GG (T : Stc) (sc : Scope) (e : Expr) where
  c : CT
  sg : SG T sc e c
structure GGs (T : Stc) (sc : Scope) (es : List Expr) where
  cs : List CT
  hl : cs.length = es.length
  sg : SGs T sc es cs
def locB (sc : Scope) (x : Str) : Bool := sc.names.lookup x == some .local || sc.names.lookup x == some .cell
theorem loc_of {sc : Scope} {x : Str} (h : locB sc x = true) : Loc sc x := by
  simp only [locB, Bool.or_eq_true, beq_iff_eq] at h
  exact h
theorem bad_st {T : Stc} {sc : Scope} {st : Stmt} : SS T sc st .bad := fun Z X ok xd => ⟨fun pins s σ H D I h => by
  obtain ⟨se, h0, R, p, h1, S, b0, Ds, e, k⟩ := h
  simp only [exS] at e
  cases e⟩
theorem bad_s {T : Stc} {sc : Scope} {sts : List Stmt} : SSs T sc sts [.bad] := fun Z X ok xd => ⟨fun pins s σ H D I h => by
  obtain ⟨se, h0, R, p, h1, S, b0, Ds, e, k⟩ := h
  simp only [exSs, exS] at e
  cases e⟩
section
variable {T : Stc} {sc : Scope}
theorem lc0_s {y : Str} {i : Nat} {py lp pos : Pos} {elt : Expr} {gs : List Comprehension} {scope : Scope} (hy : ixOf y T.N = some i) (hl : locB sc y = true) (hs : lcSwap sc y py lp scope = false) (g : GE T sc (.ListComp elt gs scope lp)) : SS T sc (.Assign [.Name y py] (.ListComp elt gs scope lp) pos) (.asg (.name i) g.c) := fun Z X ok xd =>
  ⟨fun pins s σ H D I h => asg_core I rfl (g.se Z X ok) (name_g (ixOf_eq hy) (loc_of hl) Z X ok xd) (lc_no (by rw [ok.sc]; exact hs)) rfl h⟩
def compGs (r : (e : Expr) → Option (GG T sc e)) : (es : List Expr) → Option (GGs T sc es)
  | [] => some ⟨[], rfl, nil_g⟩
  | e :: es => if hs : starred e = false then (r e).bind fun g => (compGs r es).map fun gs => ⟨g.c :: gs.cs, by rw [List.length_cons, gs.hl, List.length_cons], cons_g hs g.sg gs.sg⟩ else none
def compG (T : Stc) (sc : Scope) (r : (e : Expr) → Option (GE T sc e)) : (n : Nat) → (e : Expr) → Option (GG T sc e)
  | 0, _ => none
  | n + 1, e => match e with
    | .Name x pos => (match hi : ixOf x T.N with
      | some i => if hl : locB sc x = true then some ⟨_, name_g (ixOf_eq hi) (loc_of hl)⟩ else none
      | none => none)
    | .Tuple es k pos => if hs : noStar es = true then (compGs (compG T sc r n) es).map fun gs => ⟨_, tup_g hs gs.hl gs.sg⟩ else none
    | .Subscript a b pos => if hn : notSlice b = true then (r a).bind fun ga => (r b).map fun gb => ⟨_, sub_g hn ga.se gb.se⟩ else none
    | _ => none
/-- what has no form here is never to be reached -/
def orBad {st : Stmt} (o : Option (GS T sc st)) : GS T sc st := match o with
  | some g => g
  | none => ⟨.bad, bad_st⟩
def compB (r : (st : Stmt) → Option (GS T sc st)) : (sts : List Stmt) → Option (GSs T sc sts)
  | [] => some ⟨[], nil_s⟩
  | st :: sts => (compB r sts).map fun gs => ⟨(orBad (r st)).c :: gs.cs, cons_s (orBad (r st)).ss gs.ss⟩
/-- a store in general -/
def compAsg (r : (e : Expr) → Option (GE T sc e)) (q : (e : Expr) → Option (GG T sc e)) (tg e : Expr) (pos : Pos) : Option (GS T sc (.Assign [tg] e pos)) :=
  if h : starred tg = false ∧ (notComp e = true ∨ isName tg = false) ∧ (isSeqT tg = false ∨ isTup e = false) then (r e).bind fun ge => (q tg).map fun gg => ⟨_, asg_s h.1 h.2.1 h.2.2 ge.se gg.sg⟩ else none
/-- a tuple stored at a tuple -/
def compPar (r : (e : Expr) → Option (GE T sc e)) (ts vs : List Expr) (k k2 : Nat) (p p2 pos : Pos) : Option (GS T sc (.Assign [.Tuple ts k p] (.Tuple vs k2 p2) pos)) :=
  match ts, vs with
  | [.Name x px, .Name y py], [a, b] => (match hi : ixOf x T.N, hj : ixOf y T.N with
    | some i, some j => if h : i ≠ j ∧ sc.names.lookup x = some .local ∧ sc.names.lookup y = some .local ∧ swK sc [.Name x px, .Name y py] [a, b] = some true ∧ swNames sc [.Name x px, .Name y py] = [x, y] ∧ starred a = false ∧ starred b = false then
        (r a).bind fun ga => (r b).map fun gb => ⟨_, par2_s (ixOf_eq hi) (ixOf_eq hj) h.1 h.2.1 h.2.2.1 h.2.2.2.1 h.2.2.2.2.1 (cons_a h.2.2.2.2.2.1 ga.ns ga.se (cons_a h.2.2.2.2.2.2 gb.ns gb.se nil_a))⟩ else none
    | _, _ => none)
  | [.Name x px, .Name y py, .Name z pz], [a, b, c] => (match hi : ixOf x T.N, hj : ixOf y T.N, hl : ixOf z T.N with
    | some i, some j, some l => if h : (i ≠ j ∧ i ≠ l ∧ j ≠ l) ∧ (sc.names.lookup x = some .local ∧ sc.names.lookup y = some .local ∧ sc.names.lookup z = some .local) ∧ swK sc [.Name x px, .Name y py, .Name z pz] [a, b, c] = some true ∧ swNames sc [.Name x px, .Name y py, .Name z pz] = [x, y, z] ∧ starred a = false ∧ starred b = false ∧ starred c = false then
        (r a).bind fun ga => (r b).bind fun gb => (r c).map fun gc => ⟨_, par3_s (ixOf_eq hi) (ixOf_eq hj) (ixOf_eq hl) h.1.1 h.1.2.1 h.1.2.2 h.2.1.1 h.2.1.2.1 h.2.1.2.2 h.2.2.1 h.2.2.2.1
          (cons_a h.2.2.2.2.1 ga.ns ga.se (cons_a h.2.2.2.2.2.1 gb.ns gb.se (cons_a h.2.2.2.2.2.2 gc.ns gc.se nil_a)))⟩ else none
    | _, _, _ => none)
  | _, _ => none
def compSt (T : Stc) (own : Pos → Bool) (sc : Scope) : (n : Nat) → (st : Stmt) → Option (GS T sc st)
  | 0, _ => none
  | n + 1, st => match st with
    | .Assign [.Name y py] (.ListComp elt [⟨tge, iter, ifs, 0⟩] scope lp) pos => (match hy : ixOf y T.N with
      | some i => if hs : lcSwap sc y py lp scope = true then (match tgNames T.N tge with
          | some q => if h : notSet iter = true ∧ blkB T.N sc scope (ownOf T.N scope) = true ∧ (q.2.all fun i => decide (i ∈ (ownOf T.N scope).map (·.2))) = true ∧ tgOk T.N (canB scope (relS scope sc)) q.1 q.2 tge = true then
              (compI (compE T own n sc) tge iter).bind fun gi => (compTs (compE T own n (relS scope sc)) ifs).bind fun gt => (compE T own n (relS scope sc) elt).map fun ge =>
                ⟨_, asgLc_s (m := own lp) (ixOf_eq hy) hs h.1 (blk_of h.2.1) gt.hl (fun i hi => of_decide_eq_true (List.all_eq_true.mp h.2.2.1 i hi)) h.2.2.2 gi.si gt.ts ge.se⟩ else none
          | none => none)
        else if hl : locB sc y = true then (compE T own n sc (.ListComp elt [⟨tge, iter, ifs, 0⟩] scope lp)).map fun g => ⟨_, lc0_s hy hl (by simpa using hs) g⟩ else none
      | none => none)
    | .Assign [.Tuple ts k p] (.Tuple vs k2 p2) pos => if h : swK sc ts vs = some false then
        (if hs : noStar ts = true then (compE T own n sc (.Tuple vs k2 p2)).bind fun ge => (compGs (compG T sc (compE T own n sc) n) ts).map fun gg => ⟨_, asgT_s (cvs := []) h ge.se (tup_g hs gg.hl gg.sg)⟩ else none)
        else compPar (compE T own n sc) ts vs k k2 p p2 pos
    | .Assign [tg] e pos => compAsg (compE T own n sc) (compG T sc (compE T own n sc) n) tg e pos
    | .For tg iter body [] pos => if h : notSet iter = true then (compG T sc (compE T own n sc) n tg).bind fun gg => (compI (compE T own n sc) tg iter).bind fun gi => (compB (compSt T own sc n) body).map fun gb => ⟨_, for_s h gg.sg gi.si gb.ss⟩ else none
    | .While c body [] pos => (compE T own n sc c).bind fun gc => if h : gc.t = true then (compB (compSt T own sc n) body).map fun gb => ⟨_, while_s (gc.st h) gb.ss⟩ else none
    | .If c a b pos => (compE T own n sc c).bind fun gc => if h : gc.t = true then (compB (compSt T own sc n) a).bind fun ga => (compB (compSt T own sc n) b).map fun gb => ⟨_, if_s (gc.st h) ga.ss gb.ss⟩ else none
    | .Return none pos => some ⟨_, retN_s⟩
    | .Return (some e) pos => (compE T own n sc e).map fun g => ⟨_, ret_s g.se⟩
    | .Expr (.Constant (.str x) j p2) pos => some ⟨_, doc_s⟩
    | .Expr e pos => if h : notComp e = true then (compE T own n sc e).map fun g => ⟨_, expr_s h g.se⟩ else none
    | .Pass pos => some ⟨_, pass_s⟩
    | .Break pos => some ⟨_, break_s⟩
    | .Continue pos => some ⟨_, cont_s⟩
    | _ => none
/-- the code of a body -/
def codeOf (T : Stc) (own : Pos → Bool) (sc : Scope) (sts : List Stmt) : List CS := match compB (compSt T own sc 60) sts with
  | some g => g.cs
  | none => [.bad]
theorem code_ok {own : Pos → Bool} {sts : List Stmt} : SSs T sc sts (codeOf T own sc sts) := by
  unfold codeOf
  split
  · rename_i g _
    exact g.ss
  · exact bad_s
end
end Co
end

section
set_option linter.all false
set_option maxRecDepth 100000
set_option autoImplicit false
/-! Co22: a law's defs, told together. -/
namespace Co
open PySem PySem.Spec
                        PyProof.Rows L2
/-- a def of the module, as it stands behind the top -/
structure DefIn (K : PySem.W.Frag) (x : Str) (st : Stmt) (fa : Addr) : Prop where
  n : PySem.W.nsIn K mainGlobals x = some (some (.ref fa))
  ex : ∃ (oc : Value) (od : Option Addr) (kV doc pm : Value) (an : Option Addr) (cdv ct : Value) (osl : Array (Option Value)), K.lookup fa = some ⟨oc, od, .func (PySem.W.fnOf x x (defArgs st) (defBody st) (defScope st) .none kV doc pm an cdv ct), osl⟩ ∧ PySem.W.codeIn K cdv x = true
  k : PySem.W.keepIn K (.ref fa) = true
/-- one def of a law, from its text -/
structure One where
  nm : Str
  st : Stmt
  N : List Str
  ps : List Str
  T : Stc
  own : Pos → Bool
  keep : Bool
def One.fn (o : One) : Fn := ⟨o.ps.length, o.N.length, codeOf o.T o.own (defScope o.st) (defBody o.st), o.keep⟩
structure One.Ok (o : One) : Prop where
  sc : FnScope o.N o.ps (defScope o.st)
  N : o.T.N = o.N
  b : ∀ (kV doc pm : Value) (an : Option Addr) (cdv ct : Value) (us : List Value), us.length = o.ps.length → bindArgs (PySem.W.fnOf o.nm o.nm (defArgs o.st) (defBody o.st) (defScope o.st) .none kV doc pm an cdv ct) ⟨us, []⟩ = pure (o.ps.zip us)
/-- .. and by names alone -/
def KwOne (o : One) (ks : List Str) (perm : List Nat) : Prop := ∀ (kV doc pm : Value) (an : Option Addr) (cdv ct : Value) (ws : List Value), ws.length = ks.length → bindArgs (PySem.W.fnOf o.nm o.nm (defArgs o.st) (defBody o.st) (defScope o.st) .none kV doc pm an cdv ct) ⟨[], ks.zip ws⟩ = pure (o.ps.zip (permL perm ws))
def progOf (os : List One) : Prog := ⟨os.map One.fn, []⟩
/-- the law's promise (no classes) -/
theorem law_of {P : Program} {w : World} {K : PySem.W.Frag} {mg : Str → Option Value} {h : Heap} {os : List One} {x : Str} {f : Nat} {fa : Addr} {lo : One} (inK : K.In h) (G : h.Ns mainGlobals mg) (hfa : mg lo.nm = some (.ref fa)) (hf : os[f]? = some lo) (hx : lo.ps = [x])
    (ok : ∀ o ∈ os, o.Ok) (defs : ∀ (i : Nat) (o : One), os[i]? = some o → ∃ a, DefIn K o.nm o.st a)
    (blt : ∀ o ∈ os, ∀ y ∈ o.T.blt, PySem.W.nsIn K mainGlobals y = some none)
    (cst : ∀ o ∈ os, ∀ y v, o.T.cst.lookup y = some v → ∃ u xv, mg y = some u ∧ RelV xv u ∧ ∀ (R : Rg) (H : Hp), Den K (fun _ => 0) R H v xv)
    (fns : ∀ o ∈ os, ∀ y i, o.T.fns.lookup y = some i → ∃ p, os[i]? = some p ∧ p.nm = y) (cls : ∀ o ∈ os, o.T.cls = []) (kwo : ∀ o ∈ os, ∀ i ks perm, (i, ks, perm) ∈ o.T.kws → ∃ p, os[i]? = some p ∧ KwOne p ks perm) (d : Nat) :
    ∃ fd : FuncData, (∀ (s : Shared) (u : Value), BindsTo s fd ⟨[u], []⟩ [(x, u)]) ∧ ∀ base : Heap, K.In base → base.Ns mainGlobals mg → FnG P w K mg base (2 * d + 1) fa fd [x] (spF (progOf os) d K (fun _ => 0) f) := by
  have pick : ∀ i : Nat, ∃ (a : Addr) (fd : FuncData), ∀ o, os[i]? = some o → mg o.nm = some (.ref a) ∧ Fun K o.nm o.nm o.st a fd ∧ Binds K fd o.ps [] ∧ PySem.W.keepIn K (.ref a) = true ∧ ∀ ks perm, KwOne o ks perm → KwB fd o.ps ks perm := fun i => by
    cases e : os[i]? with
    | none => exact ⟨0, Inhabited.default, fun o q => nomatch q⟩
    | some o =>
      obtain ⟨a, D⟩ := defs i o e
      obtain ⟨oc, od, kV, doc, pm, an, cdv, ct, osl, l, c⟩ := D.ex
      have F := fun_mk (st := o.st) l c D.k
      refine ⟨a, PySem.W.fnOf o.nm o.nm (defArgs o.st) (defBody o.st) (defScope o.st) .none kV doc pm an cdv ct, fun p q => ?_⟩
      cases q
      exact ⟨PySem.W.mg_of inK G D.n, F, F.binds (ok o (List.mem_of_getElem? e)).b, D.k, fun ks perm z s ws hl => .of_eq (z kV doc pm an cdv ct ws hl)⟩
  obtain ⟨A, D, hD⟩ : ∃ (A : Nat → Addr) (D : Nat → FuncData), ∀ (i : Nat) (o : One), os[i]? = some o → mg o.nm = some (.ref (A i)) ∧ Fun K o.nm o.nm o.st (A i) (D i) ∧ Binds K (D i) o.ps [] ∧ PySem.W.keepIn K (.ref (A i)) = true ∧ ∀ ks perm, KwOne o ks perm → KwB (D i) o.ps ks perm :=
    ⟨fun i => (pick i).choose, fun i => (pick i).choose_spec.choose, fun i => (pick i).choose_spec.choose_spec⟩
  have hlen : (progOf os).fns.length = os.length := by simp [progOf]
  have good : ∀ i o, os[i]? = some o → i < os.length := fun i o e => (List.getElem?_eq_some_iff.mp e).1
  have main := fun (base : Heap) (hb : K.In base) (hn : base.Ns mainGlobals mg) => fns_ok (P := P) (w := w) (K := K) (mg := mg) (base := base) (C := fun _ => 0) (Pg := progOf os) (A := A) (D := D) (ps := fun i => ((os[i]?).map One.ps).getD [])
    (Fn_ := fun i => ((os[i]?).map One.fn).getD ⟨0, 0, [], false⟩) (X := fun i => ((os[i]?).map One.nm).getD "") (Q_ := fun i => ((os[i]?).map One.nm).getD "") (St := fun i => ((os[i]?).map One.st).getD (.Pass ⟨0, 0, 0, 0⟩)) (Ns := fun i => ((os[i]?).map One.N).getD []) (Ts := fun i => ((os[i]?).map One.T).getD ⟨[], [], [], [], [], [], [], []⟩)
    (fun i hi => by
      rw [hlen] at hi
      have e : os[i]? = some os[i] := List.getElem?_eq_getElem hi
      have m : os[i] ∈ os := List.getElem_mem hi
      obtain ⟨h1, h2, h3, h4, h5⟩ := hD i _ e
      have O := ok _ m
      simp only [e, Option.map_some, Option.getD_some]
      refine ⟨⟨by simp [progOf, e], rfl, rfl, h2, O.sc, O.N, code_ok⟩, ⟨fun y hy => PySem.W.mg_none_of inK G (blt _ m y hy), cst _ m, fun y j hy => ?_, fun j ks perm hy => ?_, fun y c hy => ?_, fun c hc => ?_, fun c hc => ?_, fun c cl f hc => ?_, fun c cl f p hc => ?_⟩⟩
      · obtain ⟨p, ep, rfl⟩ := fns _ m y j hy
        exact ⟨by rw [hlen]; exact good j p ep, (hD j p ep).1⟩
      · obtain ⟨p, ep, z⟩ := kwo _ m j ks perm hy
        have := (hD j p ep).2.2.2.2 ks perm z
        simpa [ep] using this
      · rw [cls _ m] at hy; cases hy
      · exact absurd hc (by simp [progOf])
      · exact absurd hc (by simp [progOf])
      · simp [progOf] at hc
      · simp [progOf] at hc)
    (fun i hi => by
      rw [hlen] at hi
      have e : os[i]? = some os[i] := List.getElem?_eq_getElem hi
      obtain ⟨h1, h2, h3, h4, h5⟩ := hD i _ e
      simp only [e, Option.map_some, Option.getD_some]
      exact ⟨h3, h4⟩)
  obtain ⟨h1, h2, h3, h4, h5⟩ := hD f lo hf
  have efa : A f = fa := by
    rw [hfa] at h1
    cases h1
    rfl
  refine ⟨D f, fun s u => ?_, fun base hb hn => ?_⟩
  · obtain ⟨oc, od, kV, doc, pm, an, cdv, ct, osl, e, _, _⟩ := h2.ex
    rw [e, ← show lo.ps.zip [u] = [(x, u)] by rw [hx]; rfl]
    exact .of_eq ((ok lo (List.mem_of_getElem? hf)).b kV doc pm an cdv ct [u] (by rw [hx]; rfl))
  · have := main base hb hn d f (by rw [hlen]; exact good f lo hf)
    rw [hf] at this
    simp only [Option.map_some, Option.getD_some] at this
    rw [← efa, ← hx]
    exact this
/-- what a law's defs share -/
structure Tab where
  nms : List Str
  cst : List (Str × Val)
  blt : List Str
  own : List (Nat × Nat)
  kws : List (Nat × List Str × List Nat)
def ixs : Nat → List Str → List (Str × Nat)
  | _, [] => []
  | n, x :: r => (x, n) :: ixs (n + 1) r
theorem ixs_at {y : Str} : ∀ {l : List Str} {n i : Nat}, (ixs n l).lookup y = some i → ∃ j, i = n + j ∧ l[j]? = some y
  | [], _, _, h => by cases h
  | x :: r, n, i, h => by
    unfold ixs at h
    rw [List.lookup_cons] at h
    split at h
    · rename_i e
      cases h
      exact ⟨0, rfl, by simp [beq_iff_eq.mp e]⟩
    · obtain ⟨j, h1, h2⟩ := ixs_at h
      exact ⟨j + 1, by omega, by simpa using h2⟩
/-- alt: defs that stand twice, and the one of the two that is meant -/
def Tab.T (t : Tab) (alt : List (Str × Nat)) (N : List Str) : Stc := ⟨N, alt ++ ixs 0 t.nms, [], t.cst, t.blt, [], [], t.kws⟩
def Tab.one (t : Tab) (nm : Str) (st : Stmt) (N ps : List Str) (keep : Bool) (alt : List (Str × Nat)) : One := ⟨nm, st, N, ps, t.T alt N, fun p => t.own.contains (p.line, p.col), keep⟩
def altB (nms : List Str) (alt : List (Str × Nat)) : Bool := alt.all fun p => decide (nms[p.2]? = some p.1)
theorem alt_at {nms : List Str} {y : Str} {i : Nat} : ∀ {alt : List (Str × Nat)}, altB nms alt = true → alt.lookup y = some i → nms[i]? = some y
  | [], _, h => nomatch h
  | (x, j) :: r, b, h => by
    simp only [altB, List.all_cons, Bool.and_eq_true, decide_eq_true_eq] at b
    rw [List.lookup_cons] at h
    split at h
    · rename_i e
      cases h
      rw [b.1, beq_iff_eq.mp e]
    · exact alt_at (alt := r) b.2 h
def AllDefs (K : PySem.W.Frag) : List One → Prop
  | [] => True
  | o :: r => (∃ a, DefIn K o.nm o.st a) ∧ AllDefs K r
theorem AllDefs.get {K : PySem.W.Frag} : ∀ {os : List One} {i : Nat} {o : One}, AllDefs K os → os[i]? = some o → ∃ a, DefIn K o.nm o.st a
  | [], _, _, _, e => by simp at e
  | _ :: _, 0, _, h, e => by cases e; exact h.1
  | _ :: _, i + 1, _, h, e => AllDefs.get (i := i) h.2 (by simpa using e)
def AllOk (t : Tab) : List One → Prop
  | [] => True
  | o :: r => (o.Ok ∧ ∃ alt, o.T = t.T alt o.N ∧ altB t.nms alt = true) ∧ AllOk t r
theorem AllOk.mem {t : Tab} : ∀ {os : List One} {o : One}, AllOk t os → o ∈ os → o.Ok ∧ ∃ alt, o.T = t.T alt o.N ∧ altB t.nms alt = true
  | [], _, _, e => by cases e
  | p :: r, o, h, e => by
    rcases List.mem_cons.mp e with q | q
    · rw [q]; exact h.1
    · exact AllOk.mem h.2 q
def AllNone (K : PySem.W.Frag) : List Str → Prop
  | [] => True
  | y :: r => PySem.W.nsIn K mainGlobals y = some none ∧ AllNone K r
theorem AllNone.mem {K : PySem.W.Frag} : ∀ {l : List Str} {y : Str}, AllNone K l → y ∈ l → PySem.W.nsIn K mainGlobals y = some none
  | [], _, _, e => by cases e
  | p :: r, y, h, e => by
    rcases List.mem_cons.mp e with q | q
    · rw [q]; exact h.1
    · exact AllNone.mem h.2 q
/-- a constant of the module -/
def CstIn (K : PySem.W.Frag) (y : Str) : Val → Prop
  | .int i => ∃ t, PySem.W.nsIn K mainGlobals y = some (some (.int i t))
  | .str x => ∃ t, PySem.W.nsIn K mainGlobals y = some (some (.str x t))
  | .bl b => PySem.W.nsIn K mainGlobals y = some (some (.bool b))
  | _ => False
theorem CstIn.den {K : PySem.W.Frag} {h : Heap} {mg : Str → Option Value} {y : Str} {v : Val} (inK : K.In h) (G : h.Ns mainGlobals mg) (c : CstIn K y v) : ∃ u xv, mg y = some u ∧ RelV xv u ∧ ∀ (R : Rg) (H : Hp), Den K (fun _ => 0) R H v xv := by
  cases v <;> first | exact c.elim | skip
  case int i =>
    obtain ⟨t, e⟩ := c
    exact ⟨_, .int i, PySem.W.mg_of inK G e, ⟨t, rfl⟩, fun _ _ => rfl⟩
  case str i =>
    obtain ⟨t, e⟩ := c
    exact ⟨_, .str i, PySem.W.mg_of inK G e, ⟨t, rfl⟩, fun _ _ => rfl⟩
  case bl i => exact ⟨_, .bl i, PySem.W.mg_of inK G c, rfl, fun _ _ => rfl⟩
def AllCst (K : PySem.W.Frag) : List (Str × Val) → Prop
  | [] => True
  | (y, v) :: r => CstIn K y v ∧ AllCst K r
theorem AllCst.get {K : PySem.W.Frag} : ∀ {l : List (Str × Val)} {y : Str} {v : Val}, AllCst K l → l.lookup y = some v → CstIn K y v
  | [], _, _, _, e => by cases e
  | (z, u) :: r, y, v, h, e => by
    rw [List.lookup_cons] at e
    split at e
    · rename_i q
      cases e
      rw [beq_iff_eq.mp q]
      exact h.1
    · exact AllCst.get h.2 e
def AllKw (os : List One) : List (Nat × List Str × List Nat) → Prop
  | [] => True
  | (i, ks, perm) :: r => (∃ o, os[i]? = some o ∧ KwOne o ks perm) ∧ AllKw os r
theorem AllKw.get {os : List One} : ∀ {l : List (Nat × List Str × List Nat)} {i : Nat} {ks : List Str} {perm : List Nat}, AllKw os l → (i, ks, perm) ∈ l → ∃ o, os[i]? = some o ∧ KwOne o ks perm
  | [], _, _, _, _, m => by cases m
  | (j, qs, p) :: r, i, ks, perm, h, m => by
    rcases List.mem_cons.mp m with q | q
    · cases q; exact h.1
    · exact AllKw.get h.2 q
theorem law_tab {P : Program} {w : World} {K : PySem.W.Frag} {mg : Str → Option Value} {h : Heap} {t : Tab} {os : List One} {x : Str} {f : Nat} {fa : Addr} {lo : One} (inK : K.In h) (G : h.Ns mainGlobals mg) (hfa : mg lo.nm = some (.ref fa)) (hf : os[f]? = some lo) (hx : lo.ps = [x]) (nms : os.map One.nm = t.nms) (ok : AllOk t os) (kwo : AllKw os t.kws)
    (defs : AllDefs K os) (blt : AllNone K t.blt) (cst : AllCst K t.cst) (d : Nat) :
    ∃ fd : FuncData, (∀ (s : Shared) (u : Value), BindsTo s fd ⟨[u], []⟩ [(x, u)]) ∧ ∀ base : Heap, K.In base → base.Ns mainGlobals mg → FnG P w K mg base (2 * d + 1) fa fd [x] (spF (progOf os) d K (fun _ => 0) f) := by
  refine law_of inK G hfa hf hx (fun o m => (ok.mem m).1) (fun i o e => defs.get e) (fun o m y hy => ?_) (fun o m y v e => ?_) (fun o m y i e => ?_) (fun o m => ?_) (fun o m i ks perm e => ?_) d
  · obtain ⟨_, alt, eT, _⟩ := ok.mem m
    rw [eT] at hy
    exact blt.mem hy
  · obtain ⟨_, alt, eT, _⟩ := ok.mem m
    rw [eT] at e
    exact (cst.get e).den inK G
  · obtain ⟨_, alt, eT, hA⟩ := ok.mem m
    rw [eT] at e
    have e : (alt ++ ixs 0 t.nms).lookup y = some i := e
    have hi : t.nms[i]? = some y := by
      rw [List.lookup_append] at e
      cases q : alt.lookup y with
      | some j =>
        rw [q] at e
        cases e
        exact alt_at hA q
      | none =>
        rw [q] at e
        obtain ⟨j, rfl, hj⟩ := ixs_at (show (ixs 0 t.nms).lookup y = some i from e)
        rw [Nat.zero_add]
        exact hj
    rw [← nms, List.getElem?_map, Option.map_eq_some_iff] at hi
    exact hi
  · obtain ⟨_, alt, eT, _⟩ := ok.mem m
    rw [eT]
    rfl
  · obtain ⟨_, alt, eT, _⟩ := ok.mem m
    rw [eT] at e
    exact kwo.get e
theorem def_mk {K : PySem.W.Frag} {x : Str} {st : Stmt} {fa : Addr} {oc : Value} {od : Option Addr} {kV doc pm : Value} {an : Option Addr} {cdv ct : Value} {osl : Array (Option Value)} (a : PySem.W.nsIn K mainGlobals x = some (some (.ref fa)))
    (l : K.lookup fa = some ⟨oc, od, .func (PySem.W.fnOf x x (defArgs st) (defBody st) (defScope st) .none kV doc pm an cdv ct), osl⟩) (c : PySem.W.codeIn K cdv x = true) (k : PySem.W.keepIn K (.ref fa) = true) : ∃ a, DefIn K x st a :=
  ⟨fa, a, ⟨oc, od, kV, doc, pm, an, cdv, ct, osl, l, c⟩, k⟩
theorem cst_int {K : PySem.W.Frag} {y : Str} {i : Int} {t : Tok} (e : PySem.W.nsIn K mainGlobals y = some (some (.int i t))) : CstIn K y (.int i) := ⟨t, e⟩
theorem cst_str {K : PySem.W.Frag} {y : Str} {i : Str} {t : Tok} (e : PySem.W.nsIn K mainGlobals y = some (some (.str i t))) : CstIn K y (.str i) := ⟨t, e⟩
theorem cst_bl {K : PySem.W.Frag} {y : Str} {i : Bool} (e : PySem.W.nsIn K mainGlobals y = some (some (.bool i))) : CstIn K y (.bl i) := e
end Co
end

section
set_option linter.all false
set_option maxRecDepth 100000
set_option autoImplicit false
/-! Sy: runs of the core, told by what they end in. -/
namespace Co
open PySem L2
def Ends {α : Type} (r : Res α) (Q : α → Hh → Prop) : Prop := ∃ a h, r = .ok a h ∧ Q a h
section
variable {α β : Type} {r : Res α} {f : α → Hh → Res β} {P Q : α → Hh → Prop} {W : β → Hh → Prop} {a : α} {h : Hh}
theorem Ends.ok (q : Q a h) : Ends (.ok a h) Q := ⟨a, h, rfl, q⟩
theorem Ends.bind (e : Ends r P) (k : ∀ a h, P a h → Ends (f a h) W) : Ends (r.bind f) W := by
  obtain ⟨a, h, rfl, p⟩ := e
  exact k a h p
theorem Ends.mono (e : Ends r P) (k : ∀ a h, P a h → Q a h) : Ends r Q := let ⟨a, h, e, p⟩ := e; ⟨a, h, e, k a h p⟩
theorem Ends.eq (e : r = .ok a h) (q : Q a h) : Ends r Q := ⟨a, h, e, q⟩
theorem Ends.bindE (e : r = .ok a h) (k : Ends (f a h) W) : Ends (r.bind f) W := by
  rw [e]
  exact k
end
theorem run_def {P : Prog} {d f : Nat} {fn : Fn} {args : List Val} {h : Hh} (e : P.fns[f]? = some fn) (hl : args.length = fn.np) :
    runF P (d + 1) f args h = (exSs (gOf P (runF P d) h.length) fn.body (args.map some ++ List.replicate (fn.n - args.length) none) h).bind fun p h1 => retR fn.keep h.length p.1 h1 := by
  simp only [runF, e, hl, if_true]
theorem compL_map {gd : Gd} {step : Val → Hh → Res (Option Val)} {f : Val → Val} {h : Hh} (hg : guardOk h gd = true) : ∀ {vs : List Val}, (∀ v ∈ vs, step v h = .ok (some (f v)) h) → compL gd step vs h = .ok (vs.map f) h
  | [], _ => by simp only [compL, hg, if_true, List.map_nil]
  | v :: vs, k => by
    simp only [compL, hg, if_true]
    rw [k v List.mem_cons_self, Res.bind_ok, compL_map hg (fun u m => k u (List.mem_cons_of_mem _ m))]
    rfl
theorem compL_fmap {gd : Gd} {step : Val → Hh → Res (Option Val)} {f : Val → Option Val} {h : Hh} (hg : guardOk h gd = true) : ∀ {vs : List Val}, (∀ v ∈ vs, step v h = .ok (f v) h) → compL gd step vs h = .ok (vs.filterMap f) h
  | [], _ => by simp only [compL, hg, if_true, List.filterMap_nil]
  | v :: vs, k => by
    simp only [compL, hg, if_true]
    rw [k v List.mem_cons_self, Res.bind_ok, compL_fmap hg (fun u m => k u (List.mem_cons_of_mem _ m)), Res.bind_ok, List.filterMap_cons]
    cases f v <;> rfl
section
variable {h : Hh} {n : Nat} {i j : Int} {vs ws : List Val} {x y : Str} {b c : Bool} {g : G} {s : Env}
theorem rd_i : rd h (.int i) = .int i := rfl
theorem rd_b : rd h (.bl b) = .bl b := rfl
theorem rd_s : rd h (.str x) = .str x := rfl
theorem rd_n : rd h .non = .non := rfl
theorem rd_t : rd h (.tup vs) = .tup vs := rfl
theorem rd_l : rd h (.lst vs) = .lst vs := rfl
theorem rd_o : rd h (.ro vs) = .ro vs := rfl
theorem rd_r (e : h[n]? = some (.lst vs)) : rd h (.ref n) = .lst vs := by simp only [rd, e]
theorem bop_ai : bop .Add (.int i) (.int j) = some (.int (i + j)) := rfl
theorem bop_si : bop .Sub (.int i) (.int j) = some (.int (i - j)) := rfl
theorem bop_mi (e : mulOk i j = true) : bop .Mult (.int i) (.int j) = some (.int (i * j)) := by simp only [bop, e, if_true]
theorem bop_fi (e : divOk i j = true) : bop .FloorDiv (.int i) (.int j) = some (.int (i.fdiv j)) := by simp only [bop, e, if_true]
theorem bop_di (e : j ≠ 0) : bop .Mod (.int i) (.int j) = some (.int (i.fmod j)) := by simp only [bop, e, if_false]
theorem bop_as (e : x.length + y.length ≤ lim) : bop .Add (.str x) (.str y) = some (.str (x ++ y)) := by simp only [bop, e, if_true]
theorem bop_al (e : vs.length + ws.length ≤ lim) : bop .Add (.lst vs) (.lst ws) = some (.lst (vs ++ ws)) := by simp only [bop, e, if_true]
theorem bop_ml (e : repOk vs.length j = true) : bop .Mult (.lst vs) (.int j) = some (.lst (List.replicate j.toNat vs).flatten) := by simp only [bop, e, if_true]
theorem cop_lt : cop .Lt (.int i) (.int j) = some (decide (i < j)) := rfl
theorem cop_le : cop .LtE (.int i) (.int j) = some (decide (i ≤ j)) := rfl
theorem cop_gt : cop .Gt (.int i) (.int j) = some (decide (j < i)) := rfl
theorem cop_ge : cop .GtE (.int i) (.int j) = some (decide (j ≤ i)) := rfl
theorem truthR_b : truthR (.ok (.bl b) h) = .ok b h := rfl
theorem bi_ii : Co.bi .int [.int i] = some (.int i) := rfl
theorem bi_ib : Co.bi .int [.bl b] = some (.int (if b then 1 else 0)) := rfl
theorem bi_ll : Co.bi .len [.lst vs] = some (.int vs.length) := rfl
theorem bi_lt : Co.bi .len [.tup vs] = some (.int vs.length) := rfl
theorem bi_lo : Co.bi .len [.ro vs] = some (.int vs.length) := rfl
theorem asL_n : asL [] h = [] := rfl
theorem asL_c {v : Val} : asL (v :: vs) h = rd h v :: asL vs h := rfl
theorem idx_l : idxV (.lst vs) (.int i) = atI vs i := rfl
theorem idx_t : idxV (.tup vs) (.int i) = atI vs i := rfl
theorem atI_nat {α : Type} {l : List α} {k : Nat} : atI l (k : Int) = l[k]? := by
  unfold atI ixN
  simp only [Int.natCast_nonneg, if_true]
  by_cases q : k < l.length
  · rw [if_pos (by omega)]; simp
  · rw [if_neg (by omega)]; simp; omega
theorem atI_at {α : Type} {l : List α} {a : α} (k : Nat) (e : l[k]? = some a) (q : i = k) : atI l i = some a := by rw [q, atI_nat, e]
theorem ixN_at {m : Nat} (k : Nat) (e : k < m) (q : i = k) : ixN m i = some k := by
  unfold ixN
  rw [if_pos (by omega), if_pos
                          (by omega)]
  simp [q]
theorem noPy (q : j.natAbs < 2 ^ 64) : Builtin.divisionGoesByPylong i j = false := by
  unfold Builtin.divisionGoesByPylong
  simp only [Bool.and_eq_false_iff, decide_eq_false_iff_not]
  left
  by_cases h0 : j = 0
  · subst h0; simp
  · rw [if_neg (by simpa using h0)]
    have : j.natAbs.log2 < 64 := (Nat.log2_lt (by omega)).mpr q
    omega
theorem divOk_s (h0 : j ≠ 0) (q : j.natAbs < 2 ^ 64) : divOk i j = true := by
  unfold divOk
  rw [noPy q]
  simp [h0]
theorem mulOk_l (q : i.natAbs < 2 ^ 64) : mulOk i j = true := by simp [mulOk, q]
theorem mulOk_r (q : j.natAbs < 2 ^ 64) : mulOk i j = true := by simp [mulOk, q]
/-- a place of an object of ours is written -/
theorem asg_sub {o e : CE} {v : Val} {k : Nat} {h1 h2 : Hh} (eo : evE g o s h = .ok (.ref n) h1) (ei : evE g e s h1 = .ok (.int i) h2) (hn : h2[n]? = some (.lst ws)) (hk : i = k) (hl : k < ws.length) (hm : mayStore g.base n v = true) :
    asgT g (.sub o e) v s h = .ok s (h2.set n (.lst (ws.set k v))) := by
  simp only [asgT, eo, ei, Res.bind_ok, hn, ixN_at k hl hk, hm, if_true]
theorem store_i {m : Nat} : mayStore n m (.int i) = true := by simp [mayStore, below]
end
/-! ### step by step -/
section
variable {P : Prog} {d base : Nat} {g : G} {s : Env} {h : Hh} {Q : Val → Hh → Prop} {QS : List Val → Hh → Prop} {QE : Env → Hh → Prop} {QC : Ctl × Env → Hh → Prop} {QB : Bool → Hh → Prop} {QO : Option Int → Hh → Prop} {QI : List Val × Gd → Hh → Prop}
  {a b c e : CE} {es : List CE} {v : Val} {i : Nat}
theorem w_opt {α : Type} {o : Option α} {x : α} {R : α → Hh → Prop} (e : o = some x) (q : R x h) : Ends (opt o h) R := by
  rw [e]; exact .ok q
theorem w_var (e : s[i]? = some (some v)) (q : Q v h) : Ends (evE g (.var i) s h) Q := by
  simp only [evE, e]; exact .ok q
theorem w_cst (q : Q v h) : Ends (evE g (.cst v) s h) Q := by
  simp only [evE]; exact .ok q
theorem w_bin {op : Operator} (q : Ends (evE g a s h) fun x h1 => Ends (evE g b s h1) fun y h2 => Ends (opt (bop op (rd h2 x) (rd h2 y)) h2) Q) : Ends (evE g (.bin op a b) s h) Q := by
  simp only [evE]; exact .bind q fun x h1 q => .bind q fun y h2 q => q
theorem w_neg (q : Ends (evE g a s h) fun x h1 => ∃ i, x = .int i ∧ Q (.int (-i)) h1) : Ends (evE g (.neg a) s h) Q := by
  simp only [evE]; exact .bind q fun x h1 ⟨i, e, q⟩ => by subst e; exact .ok q
theorem w_negC {i : Int} (q : Q (.int (-i)) h) : Ends (evE g (.neg (.cst (.int i))) s h) Q := w_neg (w_cst ⟨i, rfl, q⟩)
theorem w_not (q : Ends (evE g a s h) fun x h1 => ∃ i, x = .bl i ∧ Q (.bl (!i)) h1) : Ends (evE g (.not a) s h) Q := by
  simp only [evE]; exact .bind q fun x h1 ⟨i, e, q⟩ => by subst e; exact .ok q
theorem w_and (q : Ends (evE g a s h) fun x h1 => ∃ k, x = .bl k ∧ (k = true → Ends (evE g b s h1) Q) ∧ (k = false → Q (.bl false) h1)) : Ends (evE g (.and a b) s h) Q := by
  simp only [evE]; exact .bind q fun x h1 ⟨k, e, q1, q2⟩ => by subst e; cases k; exact .ok (q2 rfl); exact q1 rfl
theorem w_or (q : Ends (evE g a s h) fun x h1 => ∃ k, x = .bl k ∧ (k = true → Q (.bl true) h1) ∧ (k = false → Ends (evE g b s h1) Q)) : Ends (evE g (.or a b) s h) Q := by
  simp only [evE]; exact .bind q fun x h1 ⟨k, e, q1, q2⟩ => by subst e; cases k; exact q2 rfl; exact .ok (q1 rfl)
theorem w_ite (q : Ends (evE g c s h) fun x h1 => ∃ k, x = .bl k ∧ (k = true → Ends (evE g a s h1) Q) ∧ (k = false → Ends (evE g b s h1) Q)) : Ends (evE g (.ite c a b) s h) Q := by
  simp only [evE]; exact .bind q fun x h1 ⟨k, e, q1, q2⟩ => by subst e; cases k; exact q2 rfl; exact q1 rfl
theorem w_cmp {op : CmpOp} (q : Ends (evE g a s h) fun x h1 => Ends (evE g b s h1) fun y h2 => ∃ k, cop op (rd h2 x) (rd h2 y) = some k ∧ Q (.bl k) h2) : Ends (evE g (.cmp op a b) s h) Q := by
  simp only [evE]; exact .bind q fun x h1 q => .bind q fun y h2 ⟨k, e, q⟩ => by rw [e]; exact .ok q
theorem w_tup (q : Ends (evEs g es s h) fun vs h1 => vs.length ≤ lim ∧ Q (.tup vs) h1) : Ends (evE g (.tup es) s h) Q := by
  simp only [evE]; exact .bind q fun x h1 ⟨e, q⟩ => by rw [if_pos e]; exact .ok q
theorem w_lst (q : Ends (evEs g es s h) fun vs h1 => vs.length ≤ lim ∧ Q (.lst vs) h1) : Ends (evE g (.lst false es) s h) Q := by
  simp only [evE]; exact .bind q fun x h1 ⟨e, q⟩ => by rw [if_pos e]; exact .ok q
theorem w_lstM (q : Ends (evEs g es s h) fun vs h1 => vs.length ≤ lim ∧ Q (.ref h1.length) (h1 ++ [.lst vs])) : Ends (evE g (.lst true es) s h) Q := by
  simp only [evE]; exact .bind q fun x h1 ⟨e, q⟩ => by rw [if_pos e]; exact .ok q
theorem w_callF {f : Nat} (q : Ends (evEs g es s h) fun vs h1 => Ends (g.call f vs h1) Q) : Ends (evE g (.callF f es) s h) Q := by
  simp only [evE]; exact .bind q fun x h1 q => q
theorem w_callK {f : Nat} {p : List Nat} (q : Ends (evEs g es s h) fun vs h1 => Ends (g.call f (permL p vs) h1) Q) : Ends (evE g (.callK f p es) s h) Q := by
  simp only [evE]; exact .bind q fun x h1 q => q
theorem w_callB {k : Bi} (q : Ends (evEs g es s h) fun vs h1 => Ends (opt (Co.bi k (asL vs h1)) h1) Q) : Ends (evE g (.callB k es) s h) Q := by
  simp only [evE]; exact .bind q fun x h1 q => q
theorem w_listM (q : Ends (evE g a s h) fun x h1 => ∃ vs, seqOf (rd h1 x) = some vs ∧ Q (.ref h1.length) (h1 ++ [.lst vs])) : Ends (evE g (.listM a) s h) Q := by
  simp only [evE]; exact .bind q fun x h1 ⟨vs, e, q⟩ => by simp only [e]; exact .ok q
theorem w_isI {t : IsT} (q : Ends (evE g a s h) fun x h1 => kindOk g.ncl h1 x = true ∧ Q (.bl (isIns h1 t x)) h1) : Ends (evE g (.isI t a) s h) Q := by
  simp only [evE]; exact .bind q fun x h1 ⟨e, q⟩ => by rw [if_pos e]; exact .ok q
theorem w_meth {m : Me} (q : Ends (evE g a s h) fun x h1 => tyOk m (rd h1 x) = true ∧ Ends (evEs g es s h1) fun vs h2 => Ends (meM g m x vs h2) Q) : Ends (evE g (.meth m a es) s h) Q := by
  simp only [evE]; exact .bind q fun x h1 ⟨e, q⟩ => by rw [if_pos e]; exact .bind q fun vs h2 q => q
theorem w_splitM (q : Ends (evE g a s h) fun x h1 => ∃ z, x = .str z ∧ Ends (evE g b s h1) fun y h2 => ∃ t, y = .str t ∧ (t.length == 0) = false ∧ z.length + 2 ≤ lim ∧ Q (.ref h2.length) (h2 ++ [.lst ((Txt.split z t).map .str)])) : Ends (evE g (.splitM a b) s h) Q := by
  simp only [evE]; exact .bind q fun x h1 ⟨z, e, q⟩ => by subst e; exact .bind q fun y h2 ⟨t, e, q1, q2, q⟩ => by subst e; dsimp only; rw [if_pos ⟨q1, q2⟩]; exact .ok q
theorem w_idx (q : Ends (evE g a s h) fun x h1 => Ends (evE g b s h1) fun y h2 => Ends (opt (idxV (rd h2 x) y) h2) Q) : Ends (evE g (.idx a b) s h) Q := by
  simp only [evE]; exact .bind q fun x h1 q => .bind q fun y h2 q => q
theorem w_slice {lo hi : Option CE} (q : Ends (evE g a s h) fun x h1 => Ends (evO g lo s h1) fun l h2 => Ends (evO g hi s h2) fun u h3 => Ends (opt (sliceV (rd h3 x) l u) h3) Q) : Ends (evE g (.slice a lo hi) s h) Q := by
  simp only [evE]; exact .bind q fun x h1 q => .bind q fun y h2 q => .bind q fun z h3 q => q
theorem w_none (q : QO none h) : Ends (evO g none s h) QO := by
  simp only [evO]; exact .ok q
theorem w_some (q : Ends (evE g e s h) fun x h1 => ∃ i, x = .int i ∧ QO (some i) h1) : Ends (evO g (some e) s h) QO := by
  simp only [evO]; exact .bind q fun x h1 ⟨i, e, q⟩ => by subst e; exact .ok q
theorem w_nil (q : QS [] h) : Ends (evEs g [] s h) QS := by
  simp only [evEs]; exact .ok q
theorem w_cons (hs : starC e = false) (q : Ends (evE g e s h) fun v h1 => Ends (evEs g es s h1) fun vs h2 => QS (v :: vs) h2) : Ends (evEs g (e :: es) s h) QS := by
  rw [evEs_cons hs]; exact .bind q fun x h1 q => .bind q fun y h2 q => .ok q
theorem w_asg {t : CT} (q : Ends (evE g e s h) fun v h1 => Ends (asgT g t v s h1) fun s1 h2 => QC (.next, s1) h2) : Ends (exS g (.asg t e) s h) QC := by
  simp only [exS]; exact .bind q fun x h1 q => .bind q fun y h2 q => .ok q
theorem w_name {s1 : Env} (e : s.set i (some v) = s1) (q : QE s1 h) : Ends (asgT g (.name i) v s h) QE := by
  subst e; simp only [asgT]; exact .ok q
theorem w_subA {o k : CE} (q : Ends (evE g o s h) fun x h1 => Ends (evE g k s h1) fun y h2 => ∃ n ws j m, x = .ref n ∧ y = .int j ∧ h2[n]? = some (.lst ws) ∧ ixN ws.length j = some m ∧ mayStore g.base n v = true ∧ QE s (h2.set n (.lst (ws.set m v)))) : Ends (asgT g (.sub o k) v s h) QE := by
  simp only [asgT]
  exact .bind q fun x h1 q1 => .bind q1 fun y h2 ⟨n, ws, j, m, e1, e2, e3, e4, e5, q2⟩ => by
    subst e1 e2
    simp only [e3, e4, e5, if_true]
    exact .ok q2
theorem w_tupA {ts : List CT} {vs : List Val} (q : Ends (asgTs g ts vs s h) QE) : Ends (asgT g (.tup ts) (.tup vs) s h) QE := by
  simp only [asgT, rd]; exact q
theorem w_tA0 (q : QE s h) : Ends (asgTs g [] [] s h) QE := by
  simp only [asgTs]; exact .ok q
theorem w_tA1 {t : CT} {ts : List CT} {vs : List Val} (q : Ends (asgT g t v s h) fun s1 h1 => Ends (asgTs g ts vs s1 h1) QE) : Ends (asgTs g (t :: ts) (v :: vs) s h) QE := by
  simp only [asgTs]; exact .bind q fun x h1 q => q
theorem w_ifs {x y : List CS} (q : Ends (evE g c s h) fun v h1 => ∃ k, v = .bl k ∧ (k = true → Ends (exSs g x s h1) QC) ∧ (k = false → Ends (exSs g y s h1) QC)) : Ends (exS g (.ifs c x y) s h) QC := by
  simp only [exS, truthR]
  obtain ⟨v, h1, e, k, rfl, q1, q2⟩ := q
  rw [e]
  cases k
  · exact q2 rfl
  · exact q1 rfl
theorem w_ret (q : Ends (evE g e s h) fun v h1 => QC (.ret v, s) h1) : Ends (exS g (.ret e) s h) QC := by
  simp only [exS]; exact .bind q fun x h1 q => .ok q
theorem w_expr (q : Ends (evE g e s h) fun v h1 => QC (.next, s) h1) : Ends (exS g (.expr e) s h) QC := by
  simp only [exS]; exact .bind q fun x h1 q => .ok q
theorem w_done (q : QC (.next, s) h) : Ends (exSs g [] s h) QC := by
  simp only [exSs]; exact .ok q
theorem w_seq {x : CS} {r : List CS} (q : Ends (exS g x s h) fun p h1 => (p.1 = .next → Ends (exSs g r p.2 h1) QC) ∧ (p.1 ≠ .next → QC p h1)) : Ends (exSs g (x :: r) s h) QC := by
  simp only [exSs]
  refine .bind q fun p h1 q => ?_
  obtain ⟨k, s1⟩ := p
  cases k with
  | next => exact q.1 rfl
  | _ => exact .ok (q.2 (by simp))
end
theorem run_w {P : Prog} {d f : Nat} {fn : Fn} {args : List Val} {h : Hh} {Q : Val → Hh → Prop} (e : P.fns[f]? = some fn) (hl : args.length = fn.np)
    (q : Ends (exSs (gOf P (runF P d) h.length) fn.body (args.map some ++ List.replicate (fn.n - args.length) none) h) fun p h1 => Ends (retR fn.keep h.length p.1 h1) Q) : Ends (runF P (d + 1) f args h) Q := by
  rw [run_def e hl]; exact .bind q fun p h1 q => q
section
variable {h : Hh} {b : Nat} {v w : Val} {Q : Val → Hh → Prop} {i j : Int} {k : Bool} {A B : Prop} {s : Env} {R : Ctl × Env → Hh → Prop} {x y : Str} {vs ws : List Val}
theorem w_back (e : frz b h v = some w) (q : Q w (h.take b)) : Ends (retR false b (.ret v) h) Q := by
  simp only [retR, e]; exact .ok q
theorem w_backK (q : Q v h) : Ends (retR true b (.ret v) h) Q := by
  simp only [retR]; exact .ok q
theorem frz_low (e : below b v = true) : frz b h v = some v := by
  unfold frz; rw [if_pos e]
theorem w_if (p : k = true → A) (q : k = false → B) : ∃ m, Val.bl k = .bl m ∧ (m = true → A) ∧ (m = false → B) := ⟨k, rfl, p, q⟩
theorem w_bl {C : Bool → Prop} (q : C k) : ∃ m, Val.bl k = .bl m ∧ C m := ⟨k, rfl, q⟩
theorem w_in {C : Int → Prop} (q : C i) : ∃ m, Val.int i = .int m ∧ C m := ⟨i, rfl, q⟩
theorem w_go {C D : Prop} (q : C) : ((Ctl.next, s).1 = .next → C) ∧ ((Ctl.next, s).1 ≠ .next → D) := ⟨fun _ => q, fun z => absurd rfl z⟩
theorem w_out {C D : Prop} (q : D) : ((Ctl.ret v, s).1 = .next → C) ∧ ((Ctl.ret v, s).1 ≠ .next → D) := ⟨(fun z => nomatch z), fun _ => q⟩
theorem w_cop {op : CmpOp} {C : Bool → Prop} (e : cop op v w = some k) (q : C k) : ∃ m, cop op v w = some m ∧ C m := ⟨k, e, q⟩
theorem idx_ref {n : Nat} (hn : h[n]? = some (.lst ws)) (e : atI ws i = some v) : idxV (rd h (.ref n)) (.int i) = some v := by
  rw [rd_r hn]; exact e
theorem w_put {n m : Nat} {g : G} {C : Hh → Prop} (hn : h[n]? = some (.lst ws)) (e : ixN ws.length i = some m) (e2 : mayStore g.base n v = true) (q : C (h.set n (.lst (ws.set m v)))) :
    ∃ n1 ws j m, Val.ref n = .ref n1 ∧ Val.int i = .int j ∧ h[n1]? = some (.lst ws) ∧ ixN ws.length j = some m ∧ mayStore g.base n1 v = true ∧ C (h.set n1 (.lst (ws.set m v))) := ⟨n, ws, i, m, rfl, rfl, hn, e, e2, q⟩
theorem w_backI (q : Q (.int i) (h.take b)) : Ends (retR false b (.ret (.int i)) h) Q := w_back (frz_low rfl) q
theorem w_backB (q : Q (.bl k) (h.take b)) : Ends (retR false b (.ret (.bl k)) h) Q := w_back (frz_low rfl) q
theorem w_backS (q : Q (.str x) (h.take b)) : Ends (retR false b (.ret (.str x)) h) Q := w_back (frz_low rfl) q
theorem w_backN (q : Q .non (h.take b)) : Ends (retR false b (.ret .non) h) Q := w_back (frz_low rfl) q
theorem ix0 {m : Nat} : ixN (m + 1) 0 = some 0 := ixN_at 0 (by omega) rfl
theorem ix1 {m : Nat} : ixN (m + 2) 1 = some 1 := ixN_at 1 (by omega) rfl
theorem ix2 {m : Nat} : ixN (m + 3) 2 = some 2 := ixN_at 2 (by omega) rfl
theorem at0 {α : Type} {a : α} {r : List α} : atI (a :: r) 0 = some a := atI_at 0 rfl rfl
theorem at1 {α : Type} {a c : α} {r : List α} : atI (a :: c :: r) 1 = some c := atI_at 1 rfl rfl
theorem at2 {α : Type} {a c e : α} {r : List α} : atI (a :: c :: e :: r) 2 = some e := atI_at 2 rfl rfl
/-- the three numbers from which a law draws -/
def Vat (h : Hh) (n : Nat) : Prop := ∃ a b c : Int, h[n]? = some (.lst [.int a, .int b, .int c])
def Drawn (n : Nat) (h h2 : Hh) : Prop := ∃ a b c : Int, h2 = h.set n (.lst [.int a, .int b, .int c])
theorem Vat.lt {n : Nat} (q : Vat h n) : n < h.length := let ⟨_, _, _, e⟩ := q; (List.getElem?_eq_some_iff.mp e).1
theorem Drawn.len {n : Nat} {h2 : Hh} (q : Drawn n h h2) : h2.length = h.length := by
  obtain ⟨a, b, c, rfl⟩ := q; simp
theorem Drawn.vat {n : Nat} {h2 : Hh} (q : Drawn n h h2) (p : Vat h n) : Vat h2 n := by
  have := p.lt
  obtain ⟨a, b, c, rfl⟩ := q
  exact ⟨a, b, c, by rw [List.getElem?_set_self this]⟩
theorem Drawn.trans {n : Nat} {h2 h3 : Hh} (q : Drawn n h h2) (p : Drawn n h2 h3) : Drawn n h h3 := by
  obtain ⟨a, b, c, rfl⟩ := q
  obtain ⟨a2, b2, c2, rfl⟩ := p
  exact ⟨a2, b2, c2, by rw [List.set_set]⟩
theorem Drawn.get {n m : Nat} {h2 : Hh} (q : Drawn n h h2) (ne : m ≠ n) : h2[m]? = h[m]? := by
  obtain ⟨a, b, c, rfl⟩ := q
  rw [List.getElem?_set_ne (Ne.symm ne)]
theorem Vat.refl {n : Nat} (q : Vat h n) : Drawn n h h := by
  obtain ⟨a, b, c, e⟩ := q
  refine ⟨a, b, c, ?_⟩
  apply List.ext_getElem?
  intro m
  by_cases z : m = n
  · subst z; rw [List.getElem?_set_self (List.getElem?_eq_some_iff.mp e).1, e]
  · rw [List.getElem?_set_ne (Ne.symm z)]
end
theorem run_s {P : Prog} {d f : Nat} {fn : Fn} {args : List Val} {h : Hh} {s : Env} {Q : Val → Hh → Prop} (e : P.fns[f]? = some fn) (hl : args.length = fn.np) (hs : args.map some ++ List.replicate (fn.n - args.length) none = s)
    (q : Ends (exSs (gOf P (runF P d) h.length) fn.body s h) fun p h1 => Ends (retR fn.keep h.length p.1 h1) Q) : Ends (runF P (d + 1) f args h) Q := by
  subst hs; exact run_w e hl q
theorem w_sel {h : Hh} {g : G} {i : Nat} {n : Nat} {j : Int} {s : Env} {ws : List Val} {v : Val} {Q : Val → Hh → Prop} (e1 : s[i]? = some (some (.ref n))) (hn : h[n]? = some (.lst ws)) (e : atI ws j = some v) (q : Q v h) : Ends (evE g (.idx (.var i) (.cst (.int j))) s h) Q := by
  refine w_idx (w_var e1 (w_cst ?_))
  exact w_opt (idx_ref hn e) q
section
variable {h h2 : Hh} {i j : Int} {vs ws : List Val} {b : Bool} {v a c e : Val}
theorem rop_lt : cop .Lt (rd h (.int i)) (rd h2 (.int j)) = some (decide (i < j)) := rfl
theorem rop_le : cop .LtE (rd h (.int i)) (rd h2 (.int j)) = some (decide (i ≤ j)) := rfl
theorem rop_gt : cop .Gt (rd h (.int i)) (rd h2 (.int j)) = some (decide (j < i)) := rfl
theorem rop_ge : cop .GtE (rd h (.int i)) (rd h2 (.int j)) = some (decide (j ≤ i)) := rfl
theorem rop_is : cop .Is (rd h v) (rd h2 .non) = some (isNon (rd h v)) := by cases rd h v <;> rfl
theorem rop_isnt : cop .IsNot (rd h v) (rd h2 .non) = some (!isNon (rd h v)) := by cases rd h v <;> rfl
theorem rop_ai : bop .Add (rd h (.int i)) (rd h2 (.int j)) = some (.int (i + j)) := rfl
theorem rop_si : bop .Sub (rd h (.int i)) (rd h2 (.int j)) = some (.int (i - j)) := rfl
theorem rop_mi (e : mulOk i j = true) : bop .Mult (rd h (.int i)) (rd h2 (.int j)) = some (.int (i * j)) := bop_mi e
theorem rop_fi (e : divOk i j = true) : bop .FloorDiv (rd h (.int i)) (rd h2 (.int j)) = some (.int (i.fdiv j)) := bop_fi e
theorem rop_di (e : j ≠ 0) : bop .Mod (rd h (.int i)) (rd h2 (.int j)) = some (.int (i.fmod j)) := bop_di e
theorem ri_ii : Co.bi .int (asL [.int i] h) = some (.int i) := rfl
theorem ri_ib : Co.bi .int (asL [.bl b] h) = some (.int (if b then 1 else 0)) := rfl
theorem ri_ll : Co.bi .len (asL [.lst vs] h) = some (.int vs.length) := rfl
theorem ri_lt : Co.bi .len (asL [.tup vs] h) = some (.int vs.length) := rfl
theorem ri_lo : Co.bi .len (asL [.ro vs] h) = some (.int vs.length) := rfl
theorem ri_Ll : Co.bi .list (asL [.lst vs] h) = some (.lst vs) := rfl
theorem ri_Lt : Co.bi .list (asL [.tup vs] h) = some (.lst vs) := rfl
theorem ri_Tl : Co.bi .tuple (asL [.lst vs] h) = some (.tup vs) := rfl
theorem ri_Tt : Co.bi .tuple (asL [.tup vs] h) = some (.tup vs) := rfl
theorem rat0 : idxV (rd h (.lst (a :: vs))) (.int 0) = some a := at0
theorem rat1 : idxV (rd h (.lst (a :: c :: vs))) (.int 1) = some c := at1
theorem rat2 : idxV (rd h (.lst (a :: c :: e :: vs))) (.int 2) = some e := at2
theorem tat0 : idxV (rd h (.tup (a :: vs))) (.int 0) = some a := at0
theorem tat1 : idxV (rd h (.tup (a :: c :: vs))) (.int 1) = some c := at1
theorem tat2 : idxV (rd h (.tup (a :: c :: e :: vs))) (.int 2) = some e := at2
end
end Co
end

local macro_rules | `(tactic| walk_at "co st1") => `(tactic| first
  | with_reducible refine Co.w_asg ?_ | ((with_reducible apply Co.w_name); · first | rfl | (simp only [List.set_cons_succ, List.set_cons_zero]; rfl))
  | with_reducible refine Co.w_ifs ?_ | with_reducible refine Co.w_ret ?_ | with_reducible refine Co.w_expr ?_ | with_reducible refine Co.w_done ?_ | with_reducible refine Co.w_seq ?_
  | ((with_reducible apply Co.w_var); · rfl) | with_reducible refine Co.w_cst ?_ | with_reducible refine Co.w_bin ?_ | with_reducible refine Co.w_negC ?_ | with_reducible refine Co.w_neg ?_ | with_reducible refine Co.w_not ?_ | with_reducible refine Co.w_and ?_ | with_reducible refine Co.w_or ?_ | with_reducible refine Co.w_ite ?_ | with_reducible refine Co.w_cmp ?_
  | with_reducible refine Co.w_tup ?_ | with_reducible refine Co.w_lst ?_ | with_reducible refine Co.w_lstM ?_ | with_reducible refine Co.w_callF ?_ | with_reducible refine Co.w_callK ?_ | with_reducible refine Co.w_callB ?_ | with_reducible refine Co.w_listM ?_ | with_reducible refine Co.w_isI ?_ | with_reducible refine Co.w_meth ?_ | with_reducible refine Co.w_splitM ?_ | with_reducible refine Co.w_idx ?_ | with_reducible refine Co.w_slice ?_
  | with_reducible refine Co.w_none ?_ | with_reducible refine Co.w_some ?_ | with_reducible refine Co.w_nil ?_ | ((with_reducible apply Co.w_cons); · rfl) | with_reducible refine Co.w_tupA ?_ | with_reducible refine Co.w_tA0 ?_ | with_reducible refine Co.w_tA1 ?_ | with_reducible refine Co.w_subA ?_
  | with_reducible refine Co.w_go ?_ | with_reducible refine Co.w_out ?_ | with_reducible refine Co.w_backI ?_ | with_reducible refine Co.w_backB ?_ | with_reducible refine Co.w_backS ?_ | with_reducible refine Co.w_backN ?_
  | with_reducible refine Co.w_cop Co.rop_lt ?_ | with_reducible refine Co.w_cop Co.rop_le ?_ | with_reducible refine Co.w_cop Co.rop_gt ?_ | with_reducible refine Co.w_cop Co.rop_ge ?_ | with_reducible refine Co.w_cop Co.rop_is ?_ | with_reducible refine Co.w_cop Co.rop_isnt ?_
  | with_reducible refine Co.w_opt Co.rop_ai ?_ | with_reducible refine Co.w_opt Co.rop_si ?_ | with_reducible refine Co.w_opt Co.ri_ii ?_ | with_reducible refine Co.w_opt Co.ri_ib ?_ | with_reducible refine Co.w_opt Co.ri_ll ?_ | with_reducible refine Co.w_opt Co.ri_lt ?_ | with_reducible refine Co.w_opt Co.ri_lo ?_
  | with_reducible refine Co.w_opt Co.ri_Ll ?_ | with_reducible refine Co.w_opt Co.ri_Lt ?_ | with_reducible refine Co.w_opt Co.ri_Tl ?_ | with_reducible refine Co.w_opt Co.ri_Tt ?_
  | with_reducible refine Co.w_opt (Co.rop_di (by decide)) ?_ | with_reducible refine Co.w_opt (Co.rop_fi (Co.divOk_s (by decide) (by decide))) ?_ | with_reducible refine Co.w_opt (Co.rop_mi (Co.mulOk_l (by decide))) ?_
  | with_reducible refine Co.w_opt Co.rat0 ?_ | with_reducible refine Co.w_opt Co.rat1 ?_ | with_reducible refine Co.w_opt Co.rat2 ?_ | with_reducible refine Co.w_opt Co.tat0 ?_ | with_reducible refine Co.w_opt Co.tat1 ?_ | with_reducible refine Co.w_opt Co.tat2 ?_)

local macro_rules | `(tactic| walk_at "co st") => `(tactic| repeat walk_at "co st1")

section
set_option linter.all false
set_option maxRecDepth 100000
set_option autoImplicit false
/-! Pu: code that leaves the heap as it is. -/
namespace Co
open PySem L2
mutual
def purE (pf : List Nat) : CE → Bool
  | .var _ => true
  | .cst _ => true
  | .bin _ a b => purE pf a && purE pf b
  | .neg a => purE pf a
  | .not a => purE pf a
  | .and a b => purE pf a && purE pf b
  | .or a b => purE pf a && purE pf b
  | .cmp _ a b => purE pf a && purE pf b
  | .chain _ _ a b c => purE pf a && (purE pf b && purE pf c)
  | .ite c a b => purE pf c && (purE pf a && purE pf b)
  | .tup es => purEs pf es
  | .lst m es => !m && purEs pf es
  | .star e => purE pf e
  | .dct _ es => purEs pf es
  | .callF f es => pf.contains f && purEs pf es
  | .callK f _ es => pf.contains f && purEs pf es
  | .callB _ es => purEs pf es
  | .isI _ e => purE pf e
  | .meth m o es => (match m with | .append => false | .extend => false | _ => true) && (purE pf o && purEs pf es)
  | .idx a i => purE pf a && purE pf i
  | .slice a lo hi => purE pf a && (purO pf lo && purO pf hi)
  | .rev a => purE pf a
  | .comp m _ _ _ it ifs elt => !m && (purE pf it && (purEs pf ifs && purE pf elt))
  | .range1 a => purE pf a
  | .range2 a b => purE pf a && purE pf b
  | .enum a => purE pf a
  | .zip a b => purE pf a && purE pf b
  | .of a => purE pf a
  | _ => false
def purEs (pf : List Nat) : List CE → Bool
  | [] => true
  | e :: r => purE pf e && purEs pf r
def purO (pf : List Nat) : Option CE → Bool
  | none => true
  | some e => purE pf e
end
theorem compL_pure {gd : Gd} {step : Val → Hh → Res (Option Val)} (hs : ∀ v h o h', step v h = .ok o h' → h' = h) : ∀ {vs : List Val} {h : Hh} {r : List Val} {h' : Hh}, compL gd step vs h = .ok r h' → h' = h
  | [], h, r, h', e => by
    simp only [compL] at e
    split at e <;> cases e
    rfl
  | v :: vs, h, r, h', e => by
    simp only [compL] at e
    split at e
    case isFalse => cases e
    obtain ⟨o, h1, e1, e⟩ := Res.bind_eq e
    obtain ⟨w, h2, e2, e⟩ := Res.bind_eq e
    cases e
    rw [compL_pure hs e2, hs _ _ _ _ e1]
section
variable {g : G} {pf : List Nat} (hg : ∀ f ∈ pf, ∀ vs h v h', g.call f vs h = .ok v h' → h' = h)
include hg
mutual
theorem purE_ok : ∀ (c : CE) (s : Env) (h : Hh) (v : Val) (h' : Hh), purE pf c = true → evE g c s h = .ok v h' → h' = h
  | .var i, s, h, v, h', p, e => by
    simp only [evE] at e
    split at e <;> cases e
    rfl
  | .cst w, s, h, v, h', p, e => by simp only [evE] at e; cases e; rfl
  | .bin op a b, s, h, v, h', p, e => by
    simp only [purE, Bool.and_eq_true] at p
    simp only [evE] at e
    obtain ⟨x, h1, e1, e⟩ := Res.bind_eq e
    obtain ⟨y, h2, e2, e⟩ := Res.bind_eq e
    obtain ⟨_, rfl⟩ := opt_eq e
    rw [purE_ok b _ _ _ _ p.2 e2, purE_ok a _ _ _ _ p.1 e1]
  | .neg a, s, h, v, h', p, e => by
    simp only [purE] at p
    simp only [evE] at e
    obtain ⟨x, h1, e1, e⟩ := Res.bind_eq e
    split at e <;> cases e
    exact purE_ok a _ _ _ _ p e1
  | .not a, s, h, v, h', p, e => by
    simp only [purE] at p
    simp only [evE] at e
    obtain ⟨x, h1, e1, e⟩ := Res.bind_eq e
    split at e <;> cases e
    exact purE_ok a _ _ _ _ p e1
  | .and a b, s, h, v, h', p, e => by
    simp only [purE, Bool.and_eq_true] at p
    simp only [evE] at e
    obtain ⟨x, h1, e1, e⟩ := Res.bind_eq e
    split at e
    · rw [purE_ok b _ _ _ _ p.2 e, purE_ok a _ _ _ _ p.1 e1]
    · cases e; exact purE_ok a _ _ _ _ p.1 e1
    · cases e
  | .or a b, s, h, v, h', p, e => by
    simp only [purE, Bool.and_eq_true] at p
    simp only [evE] at e
    obtain ⟨x, h1, e1, e⟩ := Res.bind_eq e
    split at e
    · cases e; exact purE_ok a _ _ _ _ p.1 e1
    · rw [purE_ok b _ _ _ _ p.2 e, purE_ok a _ _ _ _ p.1 e1]
    · cases e
  | .cmp op a b, s, h, v, h', p, e => by
    simp only [purE, Bool.and_eq_true] at p
    simp only [evE] at e
    obtain ⟨x, h1, e1, e⟩ := Res.bind_eq e
    obtain ⟨y, h2, e2, e⟩ := Res.bind_eq e
    obtain ⟨_, rfl⟩ := opt_eq e
    rw [purE_ok b _ _ _ _ p.2 e2, purE_ok a _ _ _ _ p.1 e1]
  | .chain o1 o2 a b c, s, h, v, h', p, e => by
    simp only [purE, Bool.and_eq_true] at p
    simp only [evE] at e
    obtain ⟨x, h1, e1, e⟩ := Res.bind_eq e
    obtain ⟨y, h2, e2, e⟩ := Res.bind_eq e
    split at e
    · obtain ⟨z, h3, e3, e⟩ := Res.bind_eq e
      obtain ⟨_, rfl⟩ := opt_eq e
      rw [purE_ok c _ _ _ _ p.2.2 e3, purE_ok b _ _ _ _ p.2.1 e2, purE_ok a _ _ _ _ p.1 e1]
    · cases e
      rw [purE_ok b _ _ _ _ p.2.1 e2, purE_ok a _ _ _ _ p.1 e1]
    · cases e
  | .ite c a b, s, h, v, h', p, e => by
    simp only [purE, Bool.and_eq_true] at p
    simp only [evE] at e
    obtain ⟨x, h1, e1, e⟩ := Res.bind_eq e
    split at e
    · rw [purE_ok a _ _ _ _ p.2.1 e, purE_ok c _ _ _ _ p.1 e1]
    · rw [purE_ok b _ _ _ _ p.2.2 e, purE_ok c _ _ _ _ p.1 e1]
    · cases e
  | .tup es, s, h, v, h', p, e => by
    simp only [purE] at p
    simp only [evE] at e
    obtain ⟨x, h1, e1, e⟩ := Res.bind_eq e
    split at e <;> cases e
    exact purEs_ok es _ _ _ _ p e1
  | .lst m es, s, h, v, h', p, e => by
    simp only [purE, Bool.and_eq_true, Bool.not_eq_true'] at p
    obtain ⟨rfl, p⟩ := p
    simp only [evE] at e
    obtain ⟨x, h1, e1, e⟩ := Res.bind_eq e
    split at e
    · simp only [allocL, Bool.false_eq_true, if_false] at e
      cases e
      exact purEs_ok es _ _ _ _ p e1
    · cases e
  | .star a, s, h, v, h', p, e => by simp only [evE] at e; cases e
  | .dct ks es, s, h, v, h', p, e => by
    simp only [purE] at p
    simp only [evE] at e
    obtain ⟨x, h1, e1, e⟩ := Res.bind_eq e
    split at e <;> cases e
    exact purEs_ok es _ _ _ _ p e1
  | .callF f es, s, h, v, h', p, e => by
    simp only [purE, Bool.and_eq_true, List.contains_iff_mem] at p
    simp only [evE] at e
    obtain ⟨x, h1, e1, e⟩ := Res.bind_eq e
    rw [hg f p.1 _ _ _ _ e, purEs_ok es _ _ _ _ p.2 e1]
  | .callK f q es, s, h, v, h', p, e => by
    simp only [purE, Bool.and_eq_true, List.contains_iff_mem] at p
    simp only [evE] at e
    obtain ⟨x, h1, e1, e⟩ := Res.bind_eq e
    rw [hg f p.1 _ _ _ _ e, purEs_ok es _ _ _ _ p.2 e1]
  | .callB b es, s, h, v, h', p, e => by
    simp only [purE] at p
    simp only [evE] at e
    obtain ⟨x, h1, e1, e⟩ := Res.bind_eq e
    obtain ⟨_, rfl⟩ := opt_eq e
    exact purEs_ok es _ _ _ _ p e1
  | .isI t a, s, h, v, h', p, e => by
    simp only [purE] at p
    simp only [evE] at e
    obtain ⟨x, h1, e1, e⟩ := Res.bind_eq e
    split at e <;> cases e
    exact purE_ok a _ _ _ _ p e1
  | .meth m o es, s, h, v, h', p, e => by
    simp only [purE, Bool.and_eq_true] at p
    simp only [evE] at e
    obtain ⟨x, h1, e1, e⟩ := Res.bind_eq e
    split at e
    case isFalse => cases e
    obtain ⟨y, h2, e2, e⟩ := Res.bind_eq e
    have hh : h' = h2 := by
      cases m <;> simp at p <;> (simp only [meM] at e; exact (opt_eq e).2)
    rw [hh, purEs_ok es _ _ _ _ p.2.2 e2, purE_ok o _ _ _ _ p.2.1 e1]
  | .idx a b, s, h, v, h', p, e => by
    simp only [purE, Bool.and_eq_true] at p
    simp only [evE] at e
    obtain ⟨x, h1, e1, e⟩ := Res.bind_eq e
    obtain ⟨y, h2, e2, e⟩ := Res.bind_eq e
    obtain ⟨_, rfl⟩ := opt_eq e
    rw [purE_ok b _ _ _ _ p.2 e2, purE_ok a _ _ _ _ p.1 e1]
  | .slice a lo hi, s, h, v, h', p, e => by
    simp only [purE, Bool.and_eq_true] at p
    simp only [evE] at e
    obtain ⟨x, h1, e1, e⟩ := Res.bind_eq e
    obtain ⟨y, h2, e2, e⟩ := Res.bind_eq e
    obtain ⟨z, h3, e3, e⟩ := Res.bind_eq e
    obtain ⟨_, rfl⟩ := opt_eq e
    rw [purO_ok hi _ _ _ _ p.2.2 e3, purO_ok lo _ _ _ _ p.2.1 e2, purE_ok a _ _ _ _ p.1 e1]
  | .rev a, s, h, v, h', p, e => by
    simp only [purE] at p
    simp only [evE] at e
    obtain ⟨x, h1, e1, e⟩ := Res.bind_eq e
    split at e <;> cases e
    all_goals exact purE_ok a _ _ _ _ p e1
  | .comp m own tg one it ifs elt, s, h, v, h', p, e => by
    simp only [purE, Bool.and_eq_true, Bool.not_eq_true'] at p
    obtain ⟨rfl, p1, p2, p3⟩ := p
    simp only [evE] at e
    obtain ⟨x, h1, e1, e⟩ := Res.bind_eq e
    split at e
    case isFalse => cases e
    obtain ⟨y, h2, e2, e⟩ := Res.bind_eq e
    simp only [allocL, Bool.false_eq_true, if_false] at e
    cases e
    rw [compL_pure (fun v h o h' q => ?_) e2, purI_ok it _ _ _ _ p1 e1]
    split at q
    · obtain ⟨b, h3, q1, q⟩ := Res.bind_eq q
      split at q
      · obtain ⟨z, h4, q2, q⟩ := Res.bind_eq q
        cases q
        rw [purE_ok elt _ _ _ _ p3 q2, purC_ok ifs _ _ _ _ p2 q1]
      · cases q
        exact purC_ok ifs _ _ _ _ p2 q1
    · cases q
  | .range1 a, s, h, v, h', p, e => by simp only [evE] at e; cases e
  | .range2 a b, s, h, v, h', p, e => by simp only [evE] at e; cases e
  | .enum a, s, h, v, h', p, e => by simp only [evE] at e; cases e
  | .zip a b, s, h, v, h', p, e => by simp only [evE] at e; cases e
  | .of a, s, h, v, h', p, e => by simp only [evE] at e; cases e
  | .listM a, s, h, v, h', p, e => by simp [purE] at p
  | .splitM a b, s, h, v, h', p, e => by simp [purE] at p
  | .fld a f, s, h, v, h', p, e => by simp [purE] at p
  | .make c es, s, h, v, h', p, e => by simp [purE] at p
  | .mcall o m es, s, h, v, h', p, e => by simp [purE] at p
  | .zipS a, s, h, v, h', p, e => by simp [purE] at p
  | .bad, s, h, v, h', p, e => by simp [purE] at p
theorem purEs_ok : ∀ (cs : List CE) (s : Env) (h : Hh) (v : List Val) (h' : Hh), purEs pf cs = true → evEs g cs s h = .ok v h' → h' = h
  | [], s, h, v, h', p, e => by simp only [evEs] at e; cases e; rfl
  | c :: r, s, h, v, h', p, e => by
    simp only [purEs, Bool.and_eq_true] at p
    by_cases hc : starC c = false
    · rw [evEs_cons hc] at e
      obtain ⟨x, h1, e1, e⟩ := Res.bind_eq e
      obtain ⟨y, h2, e2, e⟩ := Res.bind_eq e
      cases e
      rw [purEs_ok r _ _ _ _ p.2 e2, purE_ok c _ _ _ _ p.1 e1]
    · cases c <;> simp [starC] at hc
      rename_i a
      simp only [evEs] at e
      obtain ⟨x, h1, e1, e⟩ := Res.bind_eq e
      split at e
      · obtain ⟨y, h2, e2, e⟩ := Res.bind_eq e
        cases e
        have p1 := p.1
        simp only [purE] at p1
        rw [purEs_ok r _ _ _ _ p.2 e2, purE_ok a _ _ _ _ p1 e1]
      · cases e
theorem purO_ok : ∀ (o : Option CE) (s : Env) (h : Hh) (v : Option Int) (h' : Hh), purO pf o = true → evO g o s h = .ok v h' → h' = h
  | none, s, h, v, h', p, e => by simp only [evO] at e; cases e; rfl
  | some c, s, h, v, h', p, e => by
    simp only [purO] at p
    simp only [evO] at e
    obtain ⟨x, h1, e1, e⟩ := Res.bind_eq e
    split at e <;> cases e
    exact purE_ok c _ _ _ _ p e1
theorem purC_ok : ∀ (cs : List CE) (s : Env) (h : Hh) (v : Bool) (h' : Hh), purEs pf cs = true → evC g cs s h = .ok v h' → h' = h
  | [], s, h, v, h', p, e => by simp only [evC] at e; cases e; rfl
  | c :: r, s, h, v, h', p, e => by
    simp only [purEs, Bool.and_eq_true] at p
    simp only [evC] at e
    obtain ⟨x, h1, e1, e⟩ := Res.bind_eq e
    split at e
    · rw [purC_ok r _ _ _ _ p.2 e, purE_ok c _ _ _ _ p.1 e1]
    · cases e; exact purE_ok c _ _ _ _ p.1 e1
    · cases e
theorem purI_ok : ∀ (c : CE) (s : Env) (h : Hh) (v : List Val × Gd) (h' : Hh), purE pf c = true → evI g c s h = .ok v h' → h' = h
  | .range1 a, s, h, v, h', p, e => by
    simp only [purE] at p
    simp only [evI] at e
    obtain ⟨x, h1, e1, e⟩ := Res.bind_eq e
    split at e
    · split at e <;> cases e
      exact purE_ok a _ _ _ _ p e1
    · cases e
  | .range2 a b, s, h, v, h', p, e => by
    simp only [purE, Bool.and_eq_true] at p
    simp only [evI] at e
    obtain ⟨x, h1, e1, e⟩ := Res.bind_eq e
    obtain ⟨y, h2, e2, e⟩ := Res.bind_eq e
    split at e
    · split at e <;> cases e
      rw [purE_ok b _ _ _ _ p.2 e2, purE_ok a _ _ _ _ p.1 e1]
    · cases e
  | .enum a, s, h, v, h', p, e => by
    simp only [purE] at p
    simp only [evI] at e
    obtain ⟨x, h1, e1, e⟩ := Res.bind_eq e
    split at e <;> cases e
    exact purE_ok a _ _ _ _ p e1
  | .zip a b, s, h, v, h', p, e => by
    simp only [purE, Bool.and_eq_true] at p
    simp only [evI] at e
    obtain ⟨x, h1, e1, e⟩ := Res.bind_eq e
    obtain ⟨y, h2, e2, e⟩ := Res.bind_eq e
    split at e <;> cases e
    rw [purE_ok b _ _ _ _ p.2 e2, purE_ok a _ _ _ _ p.1 e1]
  | .of a, s, h, v, h', p, e => by
    simp only [purE] at p
    simp only [evI] at e
    obtain ⟨x, h1, e1, e⟩ := Res.bind_eq e
    obtain ⟨_, rfl⟩ := opt_eq e
    exact purE_ok a _ _ _ _ p e1
  | .var i, s, h, v, h', p, e => by simp only [evI] at e; cases e
  | .cst i, s, h, v, h', p, e => by simp only [evI] at e; cases e
  | .bin .., s, h, v, h', p, e => by simp only [evI] at e; cases e
  | .neg .., s, h, v, h', p, e => by simp only [evI] at e; cases e
  | .not .., s, h, v, h', p, e => by simp only [evI] at e; cases e
  | .and .., s, h, v, h', p, e => by simp only [evI] at e; cases e
  | .or .., s, h, v, h', p, e => by simp only [evI] at e; cases e
  | .cmp .., s, h, v, h', p, e => by simp only [evI] at e; cases e
  | .chain .., s, h, v, h', p, e => by simp only [evI] at e; cases e
  | .ite .., s, h, v, h', p, e => by simp only [evI] at e; cases e
  | .tup .., s, h, v, h', p, e => by simp only [evI] at e; cases e
  | .lst .., s, h, v, h', p, e => by simp only [evI] at e; cases e
  | .star .., s, h, v, h', p, e => by simp only [evI] at e; cases e
  | .dct .., s, h, v, h', p, e => by simp only [evI] at e; cases e
  | .callF .., s, h, v, h', p, e => by simp only [evI] at e; cases e
  | .callK .., s, h, v, h', p, e => by simp only [evI] at e; cases e
  | .callB .., s, h, v, h', p, e => by simp only [evI] at e; cases e
  | .isI .., s, h, v, h', p, e => by simp only [evI] at e; cases e
  | .meth .., s, h, v, h', p, e => by simp only [evI] at e; cases e
  | .idx .., s, h, v, h', p, e => by simp only [evI] at e; cases e
  | .slice .., s, h, v, h', p, e => by simp only [evI] at e; cases e
  | .rev .., s, h, v, h', p, e => by simp only [evI] at e; cases e
  | .comp .., s, h, v, h', p, e => by simp only [evI] at e; cases e
  | .listM a, s, h, v, h', p, e => by simp [purE] at p
  | .splitM a b, s, h, v, h', p, e => by simp [purE] at p
  | .fld a f, s, h, v, h', p, e => by simp [purE] at p
  | .make c es, s, h, v, h', p, e => by simp [purE] at p
  | .mcall o m es, s, h, v, h', p, e => by simp [purE] at p
  | .zipS a, s, h, v, h', p, e => by simp [purE] at p
  | .bad, s, h, v, h', p, e => by simp [purE] at p
end
end
mutual
def purT : CT → Bool
  | .name _ => true
  | .sub _ _ => false
  | .tup ts => purTs ts
def purTs : List CT → Bool
  | [] => true
  | t :: r => purT t && purTs r
end
mutual
def purS (pf : List Nat) : CS → Bool
  | .asg t e => purT t && purE pf e
  | .for t it b => purT t && (purE pf it && purSs pf b)
  | .while c b => purE pf c && purSs pf b
  | .ifs c a b => purE pf c && (purSs pf a && purSs pf b)
  | .ret e => purE pf e
  | .retN => true
  | .expr e => purE pf e
  | .brk => true
  | .cont => true
  | .pass => true
  | _ => false
def purSs (pf : List Nat) : List CS → Bool
  | [] => true
  | c :: r => purS pf c && purSs pf r
end
section
variable {g : G}
mutual
theorem purT_ok : ∀ (t : CT) (v : Val) (s : Env) (h : Hh) (s' : Env) (h' : Hh), purT t = true → asgT g t v s h = .ok s' h' → h' = h
  | .name i, v, s, h, s', h', p, e => by simp only [asgT] at e; cases e; rfl
  | .sub _ _, v, s, h, s', h', p, e => by simp [purT] at p
  | .tup ts, v, s, h, s', h', p, e => by
    simp only [purT] at p
    simp only [asgT] at e
    split at e
    · exact purTs_ok ts _ _ _ _ _ p e
    · exact purTs_ok ts _ _ _ _ _ p e
    · cases e
theorem purTs_ok : ∀ (ts : List CT) (vs : List Val) (s : Env) (h : Hh) (s' : Env) (h' : Hh), purTs ts = true → asgTs g ts vs s h = .ok s' h' → h' = h
  | [], [], s, h, s', h', p, e => by simp only [asgTs] at e; cases e; rfl
  | t :: r, v :: vs, s, h, s', h', p, e => by
    simp only [purTs, Bool.and_eq_true] at p
    simp only [asgTs] at e
    obtain ⟨s1, h1, e1, e0⟩ := Res.bind_eq e
    clear e
    have e := e0
    clear e0
    rw [purTs_ok r _ _ _ _ _ p.2 e, purT_ok t _ _ _ _ _ p.1 e1]
  | [], _ :: _, s, h, s', h', p, e => by simp only [asgTs] at e; cases e
  | _ :: _, [], s, h, s', h', p, e => by simp only [asgTs] at e; cases e
end
end
theorem forL_pure {gd : Gd} {step : Val → Env → Hh → Res (Ctl × Env)} (hs : ∀ v s h p h', step v s h = .ok p h' → h' = h) : ∀ {vs : List Val} {s : Env} {h : Hh} {p : Ctl × Env} {h' : Hh}, forL gd step vs s h = .ok p h' → h' = h
  | [], s, h, p, h', e => by
    simp only [forL] at e
    split at e <;> cases e
    rfl
  | v :: vs, s, h, p, h', e => by
    simp only [forL] at e
    split at e
    case isFalse => cases e
    obtain ⟨q, h1, e1, e0⟩ := Res.bind_eq e
    clear e
    have e := e0
    clear e0
    have := hs _ _ _ _ _ e1
    subst this
    split at e
    · exact forL_pure hs e
    · exact forL_pure hs e
    · cases e; rfl
    · cases e; rfl
theorem whileL_pure {test : Env → Hh → Res Bool} {step : Env → Hh → Res (Ctl × Env)} (ht : ∀ s h b h', test s h = .ok b h' → h' = h) (hs : ∀ s h p h', step s h = .ok p h' → h' = h) : ∀ {n : Nat} {s : Env} {h : Hh} {p : Ctl × Env} {h' : Hh}, whileL test step n s h = .ok p h' → h' = h
  | 0, s, h, p, h', e => by simp only [whileL] at e; cases e
  | n + 1, s, h, p, h', e => by
    simp only [whileL] at e
    obtain ⟨b, h1, e1, e0⟩ := Res.bind_eq e
    clear e
    have e := e0
    clear e0
    have := ht _ _ _ _ e1
    subst this
    split at e
    · obtain ⟨q, h2, e2, e0⟩ := Res.bind_eq e
      clear e
      have e := e0
      clear e0
      have := hs _ _ _ _ e2
      subst this
      split at e
      · exact whileL_pure ht hs e
      · exact whileL_pure ht hs e
      · cases e; rfl
      · cases e; rfl
    · cases e; rfl
section
variable {g : G} {pf : List Nat} (hg : ∀ f ∈ pf, ∀ vs h v h', g.call f vs h = .ok v h' → h' = h)
include hg
theorem truth_pure {c : CE} {s : Env} {h : Hh} {b : Bool} {h' : Hh} (p : purE pf c = true) (e : truthR (evE g c s h) = .ok b h') : h' = h := by
  unfold truthR at e
  obtain ⟨v, h1, e1, e0⟩ := Res.bind_eq e
  clear e
  have e := e0
  clear e0
  split at e <;> cases e
  exact purE_ok hg c _ _ _ _ p e1
mutual
theorem purS_ok : ∀ (c : CS) (s : Env) (h : Hh) (q : Ctl × Env) (h' : Hh), purS pf c = true → exS g c s h = .ok q h' → h' = h
  | .asg t c, s, h, q, h', p, e => by
    simp only [purS, Bool.and_eq_true] at p
    simp only [exS] at e
    obtain ⟨v, h1, e1, e0⟩ := Res.bind_eq e
    clear e
    have e := e0
    clear e0
    obtain ⟨s1, h2, e2, e0⟩ := Res.bind_eq e
    clear e
    have e := e0
    clear e0
    cases e
    rw [purT_ok t _ _ _ _ _ p.1 e2, purE_ok hg c _ _ _ _ p.2 e1]
  | .fld .., s, h, q, h', p, e => by simp [purS] at p
  | .for t it b, s, h, q, h', p, e => by
    simp only [purS, Bool.and_eq_true] at p
    simp only [exS] at e
    obtain ⟨v, h1, e1, e0⟩ := Res.bind_eq e
    clear e
    have e := e0
    clear e0
    rw [forL_pure (fun v s h q h' z => ?_) e, purI_ok hg it _ _ _ _ p.2.1 e1]
    obtain ⟨s1, h2, z1, z⟩ := Res.bind_eq z
    rw [purSs_ok b _ _ _ _ p.2.2 z, purT_ok t _ _ _ _ _ p.1 z1]
  | .while c b, s, h, q, h', p, e => by
    simp only [purS, Bool.and_eq_true] at p
    simp only [exS] at e
    exact whileL_pure (fun s h b h' z => truth_pure hg p.1 z) (fun s h q h' z => purSs_ok b _ _ _ _ p.2 z) e
  | .ifs c a b, s, h, q, h', p, e => by
    simp only [purS, Bool.and_eq_true] at p
    simp only [exS] at e
    obtain ⟨k, h1, e1, e0⟩ := Res.bind_eq e
    clear e
    have e := e0
    clear e0
    have := truth_pure hg p.1 e1
    subst this
    split at e
    · exact purSs_ok a _ _ _ _ p.2.1 e
    · exact purSs_ok b _ _ _ _ p.2.2 e
  | .ret c, s, h, q, h', p, e => by
    simp only [purS] at p
    simp only [exS] at e
    obtain ⟨v, h1, e1, e0⟩ := Res.bind_eq e
    clear e
    have e := e0
    clear e0
    cases e
    exact purE_ok hg c _ _ _ _ p e1
  | .retN, s, h, q, h', p, e => by simp only [exS] at e; cases e; rfl
  | .expr c, s, h, q, h', p, e => by
    simp only [purS] at p
    simp only [exS] at e
    obtain ⟨v, h1, e1, e0⟩ := Res.bind_eq e
    clear e
    have e := e0
    clear e0
    cases e
    exact purE_ok hg c _ _ _ _ p e1
  | .brk, s, h, q, h', p, e => by simp only [exS] at e; cases e; rfl
  | .cont, s, h, q, h', p, e => by simp only [exS] at e; cases e; rfl
  | .pass, s, h, q, h', p, e => by simp only [exS] at e; cases e; rfl
  | .bad, s, h, q, h', p, e => by simp only [exS] at e; cases e
theorem purSs_ok : ∀ (cs : List CS) (s : Env) (h : Hh) (q : Ctl × Env) (h' : Hh), purSs pf cs = true → exSs g cs s h = .ok q h' → h' = h
  | [], s, h, q, h', p, e => by simp only [exSs] at e; cases e; rfl
  | c :: r, s, h, q, h', p, e => by
    simp only [purSs, Bool.and_eq_true] at p
    simp only [exSs] at e
    obtain ⟨k, h1, e1, e0⟩ := Res.bind_eq e
    clear e
    have e := e0
    clear e0
    have := purS_ok c _ _ _ _ p.1 e1
    subst this
    split at e
    · exact purSs_ok r _ _ _ _ p.2 e
    · cases e; rfl
end
end
/-- defs that leave the heap as it is -/
def purF (P : Prog) (pf : List Nat) : Bool := pf.all fun f => match P.fns[f]? with | some fn => purSs pf fn.body | none => false
theorem purF_ok {P : Prog} {pf : List Nat} (hp : purF P pf = true) : ∀ (d : Nat), ∀ f ∈ pf, ∀ vs h v h', runF P d f vs h = .ok v h' → h' = h
  | 0, f, hf, vs, h, v, h', e => by simp only [runF] at e; cases e
  | d + 1, f, hf, vs, h, v, h', e => by
    have hb := List.all_eq_true.mp hp f hf
    simp only [runF] at e
    split at e
    case h_2 => cases e
    rename_i fn hfn
    simp only [hfn] at hb
    split at e
    case isFalse => cases e
    obtain ⟨q, h1, e1, e0⟩ := Res.bind_eq e
    clear e
    have e := e0
    clear e0
    have := purSs_ok (g := gOf P (runF P d) h.length) (fun f m vs h v h' z => purF_ok hp d f m vs h v h' z) fn.body _ _ _ _ hb e1
    subst this
    cases hq : q.1 with
    | next =>
      rw [hq] at e
      simp only [retR] at e
      split at e <;> cases e
      · rfl
      · exact List.take_length
    | ret w =>
      rw [hq] at e
      simp only [retR] at e
      split at e
      · cases e; rfl
      · split at e <;> cases e
        exact List.take_length
    | brk => rw [hq] at e; simp only [retR] at e; cases e
    | cont => rw [hq] at e; simp only [retR] at e; cases e
def Res.val {α : Type} : Res α → Option α
  | .ok a _ => some a
  | .bad => none
/-- a run that is told by its value -/
theorem pure_run {P : Prog} {pf : List Nat} (hp : purF P pf = true) {d f : Nat} {vs : List Val} {h : Hh} {v : Val} (hf : f ∈ pf) (e : (runF P d f vs h).val = some v) : runF P d f vs h = .ok v h := by
  cases q : runF P d f vs h with
  | ok w h2 =>
    rw [q] at e
    cases e
    rw [purF_ok hp d f hf _ _ _ _ q]
  | bad => rw [q] at e; cases e
end Co
end

section
set_option linter.all false
set_option maxRecDepth 100000
set_option autoImplicit false
/-! Sz: loops and comprehensions, step by step. -/
namespace Co
open PySem L2
section
variable {g : G} {s : Env} {h : Hh} {Q : Val → Hh → Prop} {QC : Ctl × Env → Hh → Prop} {QI : List Val × Gd → Hh → Prop} {QB : Bool → Hh → Prop} {a b c e it elt : CE} {es ifs : List CE} {vs : List Val} {gd : Gd}
theorem i_range1 (q : Ends (evE g a s h) fun x h1 => ∃ j, x = .int j ∧ (-16777216 ≤ j ∧ j ≤ 16777216) ∧ QI (rangeL 0 j.toNat, []) h1) : Ends (evI g (.range1 a) s h) QI := by
  simp only [evI]; exact .bind q fun x h1 ⟨j, e, c, q⟩ => by subst e; dsimp only; rw [if_pos (show -((lim : Nat) : Int) ≤ j ∧ j ≤ ((lim : Nat) : Int) from c)]; exact .ok q
theorem i_range2 (q : Ends (evE g a s h) fun x h1 => Ends (evE g b s h1) fun y h2 => ∃ i j, x = .int i ∧ y = .int j ∧ (-16777216 ≤ i ∧ i ≤ 16777216 ∧ -16777216 ≤ j ∧ j - i ≤ 16777216 ∧ j ≤ 16777216) ∧ QI (rangeL i (j - i).toNat, []) h2) : Ends (evI g (.range2 a b) s h) QI := by
  simp only [evI]; exact .bind q fun x h1 q1 => .bind q1 fun y h2 ⟨i, j, e1, e2, c, q2⟩ => by subst e1 e2; dsimp only; rw [if_pos (show -((lim : Nat) : Int) ≤ i ∧ i ≤ ((lim : Nat) : Int) ∧ -((lim : Nat) : Int) ≤ j ∧ j - i ≤ ((lim : Nat) : Int) ∧ j ≤ ((lim : Nat) : Int) from c)]; exact .ok q2
theorem i_of (q : Ends (evE g a s h) fun x h1 => ∃ p, itOf h1 x = some p ∧ QI p h1) : Ends (evI g (.of a) s h) QI := by
  simp only [evI]; exact .bind q fun x h1 ⟨p, e, q⟩ => by rw [e]; exact .ok q
theorem i_zip (q : Ends (evE g a s h) fun x h1 => Ends (evE g b s h1) fun y h2 => ∃ p r, itOf2 h2 x = some p ∧ itOf2 h2 y = some r ∧ QI (pairs p.1 r.1, p.2 ++ r.2) h2) : Ends (evI g (.zip a b) s h) QI := by
  simp only [evI]; exact .bind q fun x h1 q1 => .bind q1 fun y h2 ⟨p, r, e1, e2, q2⟩ => by rw [e1, e2]; exact .ok q2
theorem i_enum (q : Ends (evE g a s h) fun x h1 => ∃ p, itOfL h1 x = some p ∧ QI (enumFrom 0 p.1, p.2) h1) : Ends (evI g (.enum a) s h) QI := by
  simp only [evI]; exact .bind q fun x h1 ⟨p, e, q⟩ => by rw [e]; exact .ok q
theorem c_nil (q : QB true h) : Ends (evC g [] s h) QB := by
  simp only [evC]; exact .ok q
theorem c_cons (q : Ends (evE g c s h) fun x h1 => ∃ k, x = .bl k ∧ (k = true → Ends (evC g es s h1) QB) ∧ (k = false → QB false h1)) : Ends (evC g (c :: es) s h) QB := by
  simp only [evC]; exact .bind q fun x h1 ⟨k, e, q1, q2⟩ => by subst e; cases k; exact .ok (q2 rfl); exact q1 rfl
/-- what a clause does with an item -/
def cStep (g : G) (own tg : List Nat) (one : Bool) (ifs : List CE) (elt : CE) (s : Env) : Val → Hh → Res (Option Val) := fun v h => match setT one tg v h (wipeE s own) with
  | some s1 => (evC g ifs s1 h).bind fun b h2 => if b = true then (evE g elt s1 h2).bind fun x h3 => .ok (some x) h3 else .ok none h2
  | none => .bad
theorem cStep_of {own tg : List Nat} {one : Bool} {v : Val} {s1 : Env} {QO : Option Val → Hh → Prop} (e : setT one tg v h (wipeE s own) = some s1) (q : Ends (evC g ifs s1 h) fun b h2 => (b = true → Ends (evE g elt s1 h2) fun x h3 => QO (some x) h3) ∧ (b = false → QO none h2)) : Ends (cStep g own tg one ifs elt s v h) QO := by
  unfold cStep
  rw [e]
  exact .bind q fun b h2 ⟨q1, q2⟩ => by
    cases b
    · exact .ok (q2 rfl)
    · exact .bind (q1 rfl) fun x h3 q => .ok q
theorem compL_inv {step : Val → Hh → Res (Option Val)} (J : List Val → Hh → Prop) (hgd : ∀ acc h, J acc h → guardOk h gd = true) : ∀ {vs : List Val} {acc : List Val} {h : Hh}, J acc h →
    (∀ v ∈ vs, ∀ acc h, J acc h → Ends (step v h) fun o h2 => J (acc ++ o.toList) h2) → Ends (compL gd step vs h) fun r h2 => J (acc ++ r) h2
  | [], acc, h, j, _ => by
    simp only [compL, hgd _ _ j, if_true]
    exact .ok (by rw [List.append_nil]; exact j)
  | v :: vs, acc, h, j, k => by
    simp only [compL, hgd _ _ j, if_true]
    refine .bind (k v List.mem_cons_self acc h j) fun o h2 j2 => ?_
    refine .bind (compL_inv J hgd j2 fun u m => k u (List.mem_cons_of_mem _ m)) fun r h3 j3 => .ok ?_
    cases o
    · simpa using j3
    · simpa using j3
theorem w_compI {own tg : List Nat} {one : Bool} (q : Ends (evI g it s h) fun p h1 => p.1.length ≤ lim ∧ ∃ J : List Val → Hh → Prop, (∀ acc h, J acc h → guardOk h p.2 = true) ∧ J [] h1 ∧
    (∀ v ∈ p.1, ∀ acc h, J acc h → Ends (cStep g own tg one ifs elt s v h) fun o h2 => J (acc ++ o.toList) h2) ∧ ∀ r h2, J r h2 → Q (.lst r) h2) : Ends (evE g (.comp false own tg one it ifs elt) s h) Q := by
  simp only [evE]
  refine .bind q fun p h1 ⟨l, J, q1, q2, q3, q4⟩ => ?_
  rw [if_pos l]
  refine .bind (compL_inv J q1 (acc := []) q2 q3) fun r h2 j => ?_
  exact .ok (q4 r h2 (by simpa using j))
theorem w_compM {own tg : List Nat} {one : Bool} (q : Ends (evI g it s h) fun p h1 => p.1.length ≤ lim ∧ ∃ J : List Val → Hh → Prop, (∀ acc h, J acc h → guardOk h p.2 = true) ∧ J [] h1 ∧
    (∀ v ∈ p.1, ∀ acc h, J acc h → Ends (cStep g own tg one ifs elt s v h) fun o h2 => J (acc ++ o.toList) h2) ∧ ∀ r h2, J r h2 → Q (.ref h2.length) (h2 ++ [.lst r])) : Ends (evE g (.comp true own tg one it ifs elt) s h) Q := by
  simp only [evE]
  refine .bind q fun p h1 ⟨l, J, q1, q2, q3, q4⟩ => ?_
  rw [if_pos l]
  refine .bind (compL_inv J q1 (acc := []) q2 q3) fun r h2 j => ?_
  exact .ok (q4 r h2 (by simpa using j))
/-- a clause that leaves the heap: by the item's value -/
theorem w_compP {own tg : List Nat} {one : Bool} (f : Val → Option Val) (q : Ends (evI g it s h) fun p h1 => p.1.length ≤ lim ∧ guardOk h1 p.2 = true ∧ (∀ v ∈ p.1, Ends (cStep g own tg one ifs elt s v h1) fun o h2 => o = f v ∧ h2 = h1) ∧ Q (.lst (p.1.filterMap f)) h1) : Ends (evE g (.comp false own tg one it ifs elt) s h) Q := by
  simp only [evE]
  refine .bind q fun p h1 ⟨l, q1, q2, q3⟩ => ?_
  rw [if_pos l]
  have e := compL_fmap (step := cStep g own tg one ifs elt s) (f := f) q1 (vs := p.1) (fun v m => by obtain ⟨o, h2, e, e1, e2⟩ := q2 v m; rw [e, e1, e2])
  refine .bindE e ?_
  exact .ok q3
theorem compL_inv2 {step : Val → Hh → Res (Option Val)} (J : List Val → List Val → Hh → Prop) (hgd : ∀ dn acc h, J dn acc h → guardOk h gd = true) : ∀ {vs : List Val} {dn acc : List Val} {h : Hh}, J dn acc h →
    (∀ v ∈ vs, ∀ dn acc h, J dn acc h → Ends (step v h) fun o h2 => J (dn ++ [v]) (acc ++ o.toList) h2) → Ends (compL gd step vs h) fun r h2 => J (dn ++ vs) (acc ++ r) h2
  | [], dn, acc, h, j, _ => by
    simp only [compL, hgd _ _ _ j, if_true]
    exact .ok (by rw [List.append_nil, List.append_nil]; exact j)
  | v :: vs, dn, acc, h, j, k => by
    simp only [compL, hgd _ _ _ j, if_true]
    refine .bind (k v List.mem_cons_self dn acc h j) fun o h2 j2 => ?_
    refine .bind (compL_inv2 J hgd j2 fun u m => k u (List.mem_cons_of_mem _ m)) fun r h3 j3 => .ok ?_
    cases o
    · simpa using j3
    · simpa using j3
theorem w_compM2 {own tg : List Nat} {one : Bool} (q : Ends (evI g it s h) fun p h1 => p.1.length ≤ lim ∧ ∃ J : List Val → List Val → Hh → Prop, (∀ dn acc h, J dn acc h → guardOk h p.2 = true) ∧ J [] [] h1 ∧
    (∀ v ∈ p.1, ∀ dn acc h, J dn acc h → Ends (cStep g own tg one ifs elt s v h) fun o h2 => J (dn ++ [v]) (acc ++ o.toList) h2) ∧ ∀ r h2, J p.1 r h2 → Q (.ref h2.length) (h2 ++ [.lst r])) : Ends (evE g (.comp true own tg one it ifs elt) s h) Q := by
  simp only [evE]
  refine .bind q fun p h1 ⟨l, J, q1, q2, q3, q4⟩ => ?_
  rw [if_pos l]
  refine .bind (compL_inv2 J q1 (dn := []) (acc := []) q2 q3) fun r h2 j => ?_
  exact .ok (q4 r h2 (by simpa using j))
theorem w_compI2 {own tg : List Nat} {one : Bool} (q : Ends (evI g it s h) fun p h1 => p.1.length ≤ lim ∧ ∃ J : List Val → List Val → Hh → Prop, (∀ dn acc h, J dn acc h → guardOk h p.2 = true) ∧ J [] [] h1 ∧
    (∀ v ∈ p.1, ∀ dn acc h, J dn acc h → Ends (cStep g own tg one ifs elt s v h) fun o h2 => J (dn ++ [v]) (acc ++ o.toList) h2) ∧ ∀ r h2, J p.1 r h2 → Q (.lst r) h2) : Ends (evE g (.comp false own tg one it ifs elt) s h) Q := by
  simp only [evE]
  refine .bind q fun p h1 ⟨l, J, q1, q2, q3, q4⟩ => ?_
  rw [if_pos l]
  refine .bind (compL_inv2 J q1 (dn := []) (acc := []) q2 q3) fun r h2 j => ?_
  exact .ok (q4 r h2 (by simpa using j))
theorem compL_X {α : Type} {step : Val → Hh → Res (Option Val)} {A : α → Val} {B : α → Option Val} (hg : guardOk h gd = true) : ∀ {xs : List α}, (∀ x ∈ xs, Ends (step (A x) h) fun o h2 => o = B x ∧ h2 = h) → compL gd step (xs.map A) h = .ok (xs.filterMap B) h
  | [], _ => by simp only [compL, List.map_nil, hg, if_true, List.filterMap_nil]
  | x :: xs, k => by
    obtain ⟨o, h2, e, e1, e2⟩ := k x List.mem_cons_self
    simp only [compL, List.map_cons, hg, if_true]
    rw [e, e1, e2, Res.bind_ok, compL_X hg fun u m => k u (List.mem_cons_of_mem _ m), Res.bind_ok, List.filterMap_cons]
    cases B x <;> rfl
theorem w_compX {α : Type} {own tg : List Nat} {one : Bool} (xs : List α) (A B : α → Val) (q : Ends (evI g it s h) fun p h1 => p.1 = xs.map A ∧ p.1.length ≤ lim ∧ guardOk h1 p.2 = true ∧ (∀ x ∈ xs, Ends (cStep g own tg one ifs elt s (A x) h1) fun o h2 => o = some (B x) ∧ h2 = h1) ∧ Q (.lst (xs.map B)) h1) : Ends (evE g (.comp false own tg one it ifs elt) s h) Q := by
  simp only [evE]
  refine .bind q fun p h1 ⟨e, l, q1, q2, q3⟩ => ?_
  rw [if_pos l]
  refine .bindE (by rw [e]; exact compL_X (B := fun x => some (B x)) q1 q2) ?_
  have : xs.filterMap (fun x => some (B x)) = xs.map B := by simp
  rw [this]
  exact .ok q3
theorem fm_filter {α : Type} {B : α → Val} {c : α → Bool} : ∀ xs : List α, xs.filterMap (fun x => if c x = true then some (B x) else none) = (xs.filter c).map B
  | [] => rfl
  | x :: xs => by
    rw [List.filterMap_cons, List.filter_cons, fm_filter xs]
    cases hc : c x <;> simp
theorem w_compF {α : Type} {own tg : List Nat} {one : Bool} (xs : List α) (A B : α → Val) (c : α → Bool) (q : Ends (evI g it s h) fun p h1 => p.1 = xs.map A ∧ p.1.length ≤ lim ∧ guardOk h1 p.2 = true ∧ (∀ x ∈ xs, Ends (cStep g own tg one ifs elt s (A x) h1) fun o h2 => o = (if c x = true then some (B x) else none) ∧ h2 = h1) ∧ Q (.lst ((xs.filter c).map B)) h1) : Ends (evE g (.comp false own tg one it ifs elt) s h) Q := by
  simp only [evE]
  refine .bind q fun p h1 ⟨e, l, q1, q2, q3⟩ => ?_
  rw [if_pos l]
  refine .bindE (by rw [e]; exact compL_X (B := fun x => if c x = true then some (B x) else none) q1 q2) ?_
  rw [fm_filter]
  exact .ok q3
theorem forL_inv {step : Val → Env → Hh → Res (Ctl × Env)} (J : List Val → Env → Hh → Prop) (hgd : ∀ r s h, J r s h → guardOk h gd = true) (hend : ∀ s h, J [] s h → QC (.next, s) h)
    (hs : ∀ v r s h, J (v :: r) s h → Ends (step v s h) fun p h1 => (p.1 = .next → J r p.2 h1) ∧ (p.1 = .cont → J r p.2 h1) ∧ (p.1 = .brk → QC (.next, p.2) h1) ∧ ∀ w, p.1 = .ret w → QC (.ret w, p.2) h1) :
    ∀ {vs : List Val} {s : Env} {h : Hh}, J vs s h → Ends (forL gd step vs s h) QC
  | [], s, h, j => by
    simp only [forL, hgd _ _ _ j, if_true]
    exact .ok (hend s h j)
  | v :: vs, s, h, j => by
    simp only [forL, hgd _ _ _ j, if_true]
    refine .bind (hs v vs s h j) fun p h1 q => ?_
    obtain ⟨k, s1⟩ := p
    cases k with
    | next => exact forL_inv J hgd hend hs (q.1 rfl)
    | cont => exact forL_inv J hgd hend hs (q.2.1 rfl)
    | brk => exact .ok (q.2.2.1 rfl)
    | ret w => exact .ok (q.2.2.2 w rfl)
theorem w_for {t : CT} {bd : List CS} (q : Ends (evI g it s h) fun p h1 => ∃ J : List Val → Env → Hh → Prop, (∀ r s h, J r s h → guardOk h p.2 = true) ∧ (∀ s h, J [] s h → QC (.next, s) h) ∧
    (∀ v r s h, J (v :: r) s h → Ends (asgT g t v s h) fun s1 h1 => Ends (exSs g bd s1 h1) fun p h1 => (p.1 = .next → J r p.2 h1) ∧ (p.1 = .cont → J r p.2 h1) ∧ (p.1 = .brk → QC (.next, p.2) h1) ∧ ∀ w, p.1 = .ret w → QC (.ret w, p.2) h1) ∧ J p.1 s h1) :
    Ends (exS g (.for t it bd) s h) QC := by
  simp only [exS]
  refine .bind q fun p h1 ⟨J, q1, q2, q3, q4⟩ => ?_
  exact forL_inv J q1 q2 (fun v r s h j => .bind (q3 v r s h j) fun s1 h1 q => q) q4
theorem l_next {A B : Prop} {QR : Val → Prop} (q : A) : ((Ctl.next, s).1 = .next → A) ∧ ((Ctl.next, s).1 = .cont → A) ∧ ((Ctl.next, s).1 = .brk → B) ∧ ∀ w, (Ctl.next, s).1 = .ret w → QR w := ⟨fun _ => q, (fun z => nomatch z), (fun z => nomatch z), (fun _ z => nomatch z)⟩
theorem w_dct {ks : List Key} (q : Ends (evEs g es s h) fun vs h1 => (ks.length = vs.length ∧ ks.length ≤ 15 ∧ ks.Nodup) ∧ Q (.dct (ks.zip vs)) h1) : Ends (evE g (.dct ks es) s h) Q := by
  simp only [evE]; exact .bind q fun vs h1 ⟨c, q⟩ => by rw [if_pos c]; exact .ok q
end
theorem w_lim {vs : List Val} {A : Prop} (c : vs.length ≤ lim) (q : A) : vs.length ≤ lim ∧ A := ⟨c, q⟩
end Co
end

local macro_rules | `(tactic| walk_at "co st2") => `(tactic| first
  | walk_at "co st1"
  | with_reducible refine Co.i_range1 ?_ | with_reducible refine Co.i_range2 ?_ | with_reducible refine Co.i_of ?_ | with_reducible refine Co.i_zip ?_ | with_reducible refine Co.i_enum ?_ | with_reducible refine Co.c_nil ?_ | with_reducible refine Co.c_cons ?_ | with_reducible refine Co.w_dct ?_
  | ((with_reducible apply Co.w_lim); · (show _ ≤ 16777216; simp only [List.length_cons, List.length_nil, Nat.reduceAdd, Nat.reduceLeDiff]; done)))

local macro_rules | `(tactic| walk_at "co sz") => `(tactic| repeat walk_at "co st2")

section
set_option linter.all false
set_option maxRecDepth 100000
set_option autoImplicit false
/-! Pb1: sums, binomials, powers of shifts modulo a prime. -/
namespace Pb
def iter {α : Type} (f : α → α) : Nat → α → α
  | 0, x => x
  | n + 1, x => f (iter f n x)
def sm : Nat → (Nat → Int) → Int
  | 0, _ => 0
  | n + 1, f => sm n f + f n
theorem sm_congr {n : Nat} {f g : Nat → Int} (e : ∀ j, j < n → f j = g j) : sm n f = sm n g := by
  induction n with
  | zero => rfl
  | succ n ih => simp only [sm]; rw [ih fun j l => e j (by omega), e n (by omega)]
theorem sm_add {n : Nat} {f g : Nat → Int} : sm n (fun j => f j + g j) = sm n f + sm n g := by
  induction n with
  | zero => rfl
  | succ n ih => simp only [sm]; rw [ih]; omega
theorem sm_mul {n : Nat} {c : Int} {f : Nat → Int} : sm n (fun j => c * f j) = c * sm n f := by
  induction n with
  | zero => simp [sm]
  | succ n ih => simp only [sm]; rw [ih, Int.mul_add]
theorem sm_zero {n : Nat} : sm n (fun _ => 0) = 0 := by
  induction n with
  | zero => rfl
  | succ n ih => simp only [sm]; rw [ih]; rfl
theorem sm_first {n : Nat} {f : Nat → Int} : sm (n + 1) f = f 0 + sm n (fun j => f (j + 1)) := by
  induction n with
  | zero => simp [sm]
  | succ n ih => rw [sm, ih]; simp only [sm]; omega
theorem sm_swap {n m : Nat} {f : Nat → Nat → Int} : sm n (fun i => sm m (fun j => f i j)) = sm m (fun j => sm n (fun i => f i j)) := by
  induction n with
  | zero => simp only [sm]; rw [sm_zero]
  | succ n ih => simp only [sm]; rw [ih, sm_add]
def ch : Nat → Nat → Nat
  | _, 0 => 1
  | 0, _ + 1 => 0
  | n + 1, k + 1 => ch n k + ch n (k + 1)
theorem ch_mul : ∀ n k : Nat, (k + 1) * ch (n + 1) (k + 1) = (n + 1) * ch n k
  | 0, k => by cases k <;> simp [ch]
  | n + 1, k => by
    have ih := ch_mul n k
    rw [ch, Nat.mul_add, ih]
    cases k with
    | zero => simp [ch]; omega
    | succ k =>
      have ih2 := ch_mul n k
      have e : (k + 1 + 1) * ch (n + 1) (k + 1) = ch (n + 1) (k + 1) + (k + 1) * ch (n + 1) (k + 1) := by rw [Nat.succ_mul]; omega
      rw [e, ih2]
      have e2 : (n + 1 + 1) * ch (n + 1) (k + 1) = ch (n + 1) (k + 1) + (n + 1) * ch (n + 1) (k + 1) := by rw [Nat.succ_mul]; omega
      rw [e2]
      have e3 : ch (n + 1) (k + 1) = ch n k + ch n (k + 1) := by rw [ch]
      rw [e3, Nat.mul_add]
      omega
theorem ch_none : ∀ n k : Nat, n < k → ch n k = 0
  | 0, k + 1, _ => by simp [ch]
  | n + 1, k + 1, h => by rw [ch, ch_none n k (by omega), ch_none n (k + 1) (by omega)]
theorem ch_all : ∀ n : Nat, ch n n = 1
  | 0 => rfl
  | n + 1 => by rw [ch, ch_all n, ch_none n (n + 1) (by omega)]
/-- a prime -/
def Pr (q : Nat) : Prop := 2 ≤ q ∧ ∀ m, 0 < m → m < q → Nat.gcd m q = 1
theorem ch_pr {q k : Nat} (h : Pr q) (k0 : 0 < k) (k1 : k < q) : q ∣ ch q k := by
  obtain ⟨k, rfl⟩ : ∃ j, k = j + 1 := ⟨k - 1, by omega⟩
  obtain ⟨n, rfl⟩ : ∃ j, q = j + 1 := ⟨q - 1, by have := h.1; omega⟩
  have e := ch_mul n k
  have g : Nat.Coprime (n + 1) (k + 1) := by rw [Nat.coprime_comm]; exact h.2 _ (by omega) k1
  exact g.dvd_of_dvd_mul_left (by rw [e]; exact Nat.dvd_mul_right _ _)
abbrev Se := Nat → Int
/-- a rule with steps of a -/
def ops (a : Nat) : List Int → Se → Se
  | [], _, _ => 0
  | c :: g, s, k => c * s k + ops a g s (k + a)
theorem ops_lin {a : Nat} {c : Int} {s t : Se} : ∀ (g : List Int) (k : Nat), ops a g (fun i => c * s i + t i) k = c * ops a g s k + ops a g t k
  | [], k => by simp [ops]
  | d :: g, k => by
    simp only [ops]
    rw [ops_lin g, Int.mul_add, Int.mul_add, ← Int.mul_assoc, ← Int.mul_assoc, Int.mul_comm d c]
    omega
theorem ops_shift {a b : Nat} {s : Se} : ∀ (g : List Int) (k : Nat), ops a g (fun i => s (i + b)) k = ops a g s (k + b)
  | [], k => by simp [ops]
  | d :: g, k => by
    simp only [ops]
    rw [ops_shift g]
    rw [show k + a + b = k + b + a from by omega]
theorem ops_sm {a : Nat} {n : Nat} {w : Nat → Int} {S : Nat → Se} (g : List Int) (k : Nat) : ops a g (fun i => sm n (fun j => w j * S j i)) k = sm n (fun j => w j * ops a g (S j) k) := by
  induction n with
  | zero =>
    simp only [sm]
    have := ops_lin (a := a) (c := 0) (s := fun _ => 0) (t := fun _ => 0) g k
    simp at this
    have z : ∀ (g : List Int) (k : Nat), ops a g (fun _ => 0) k = 0 := fun g => by
      induction g with
      | nil => intro k; rfl
      | cons d g ih => intro k; simp [ops, ih]
    exact z g k
  | succ n ih =>
    simp only [sm]
    rw [← ih, ← Int.add_comm, ← ops_lin]
    congr 1
    funext i
    omega
/-- the weights of (c + B)^n -/
def wt (c : Int) : Nat → Nat → Int
  | 0, 0 => 1
  | 0, _ + 1 => 0
  | n + 1, 0 => c * wt c n 0
  | n + 1, k + 1 => wt c n k + c * wt c n (k + 1)
theorem wt_none {c : Int} : ∀ n k : Nat, n < k → wt c n k = 0
  | 0, k + 1, _ => rfl
  | n + 1, k + 1, h => by rw [wt, wt_none n k (by omega), wt_none n (k + 1) (by omega)]; simp
theorem wt_eq {c : Int} : ∀ n k d : Nat, n = k + d → wt c n k = (ch n k : Int) * c ^ d
  | 0, k, d, h => by
    obtain rfl : k = 0 := by omega
    obtain rfl : d = 0 := by omega
    simp [wt, ch]
  | n + 1, 0, d, h => by
    obtain ⟨d, rfl⟩ : ∃ e, d = e + 1 := ⟨d - 1, by omega⟩
    rw [wt, wt_eq n 0 d (by omega)]
    simp only [ch, Int.pow_succ]
    rw [Int.mul_comm]
    simp
  | n + 1, k + 1, d, h => by
    rw [wt, wt_eq n k d (by omega)]
    cases d with
    | zero =>
      rw [wt_none n (k + 1) (by omega), ch, ch_none n (k + 1) (by omega)]
      simp
    | succ d =>
      rw [wt_eq n (k + 1) d (by omega), ch, Int.pow_succ]
      have : c * ((ch n (k + 1) : Int) * c ^ d) = (ch n (k + 1) : Int) * (c ^ d * c) := by
        rw [Int.mul_comm c, Int.mul_assoc]
      rw [this, ← Int.add_mul]
      congr 1
/-- (c + B)^n, B a rule behind a shift -/
theorem binom {a b : Nat} {c : Int} {g : List Int} {s : Se} : ∀ (n : Nat) (k : Nat),
    iter (fun t i => c * t i + ops a g t (i + b)) n s k = sm (n + 1) (fun j => wt c n j * iter (fun t i => ops a g t (i + b)) j s k)
  | 0, k => by simp [iter, sm, wt]
  | n + 1, k => by
    show c * iter _ n s k + ops a g (iter _ n s) (k + b) = _
    have e : iter (fun t i => c * t i + ops a g t (i + b)) n s = fun i => sm (n + 1) (fun j => wt c n j * iter (fun t i => ops a g t (i + b)) j s i) := funext (binom n)
    rw [e, ops_sm]
    have l : sm (n + 1) (fun j => wt c n j * iter (fun t i => ops a g t (i + b)) j s k) = sm (n + 2) (fun j => wt c n j * iter (fun t i => ops a g t (i + b)) j s k) := by
      rw [show n + 2 = (n + 1) + 1 from rfl]; conv => rhs; unfold sm
      dsimp only
      rw [wt_none n (n + 1) (by omega)]; simp
    show c * sm (n + 1) (fun j => wt c n j * iter (fun t i => ops a g t (i + b)) j s k) + _ = _
    rw [l, sm_first, sm_first (n := n + 1), Int.mul_add, ← sm_mul, Int.add_assoc, ← sm_add]
    congr 1
    · simp only [wt, Int.mul_assoc]
    · refine sm_congr fun j _ => ?_
      simp only [wt]
      rw [Int.add_mul, Int.mul_assoc]
      simp only [iter]
      omega
/-- the same, modulo a prime -/
theorem dream {a b q : Nat} {c : Int} {g : List Int} {s : Se} (hq : Pr q) (k : Nat) :
    ∃ z, iter (fun t i => c * t i + ops a g t (i + b)) q s k = c ^ q * s k + iter (fun t i => ops a g t (i + b)) q s k + q * z := by
  rw [binom]
  obtain ⟨n, rfl⟩ : ∃ j, q = j + 1 := ⟨q - 1, by have := hq.1; omega⟩
  rw [sm, sm_first]
  have h : ∀ j, j < n → ∃ z, wt c (n + 1) (j + 1) = ((n + 1 : Nat) : Int) * z := fun j l => by
    rw [wt_eq (n + 1) (j + 1) (n - j) (by omega)]
    obtain ⟨z, e⟩ := ch_pr hq (k := j + 1) (by omega) (by omega)
    exact ⟨z * c ^ (n - j), by rw [e]; simp [Int.mul_assoc]⟩
  have h2 : ∀ (m : Nat) (F : Nat → Int), m ≤ n → ∃ z, sm m (fun j => wt c (n + 1) (j + 1) * F j) = ((n + 1 : Nat) : Int) * z := by
    intro m F
    induction m with
    | zero => intro _; exact ⟨0, by simp [sm]⟩
    | succ m ih =>
      intro l
      obtain ⟨z, e⟩ := ih (by omega)
      obtain ⟨y, e2⟩ := h m (by omega)
      exact ⟨z + y * F m, by simp only [sm]; rw [e, e2, Int.mul_add, Int.mul_assoc]⟩
  obtain ⟨z, e⟩ := h2 n (fun j => iter (fun t i => ops a g t (i + b)) (j + 1) s k) (Nat.le_refl _)
  refine ⟨z, ?_⟩
  rw [e, wt_eq (n + 1) 0 (n + 1) (by omega), wt_eq (n + 1) (n + 1) 0 (by omega), ch_all]
  simp [iter, ch]
  omega
theorem iter_shift {a b : Nat} {g : List Int} {s : Se} : ∀ (n k : Nat), iter (fun t i => ops a g t (i + b)) n s k = iter (fun t i => ops a g t i) n s (k + b * n)
  | 0, k => by simp [iter]
  | n + 1, k => by
    show ops a g (iter _ n s) (k + b) = ops a g (iter _ n s) _
    have e : iter (fun t i => ops a g t (i + b)) n s = fun i => iter (fun t i => ops a g t i) n s (i + b * n) := funext (iter_shift n)
    rw [e, ops_shift, Nat.mul_succ]
    rw [show k + b + b * n = k + (b * n + b) from by omega]
theorem fermat_nat {q : Nat} (hq : Pr q) : ∀ c : Nat, ∃ z : Int, (c : Int) ^ q = c + q * z
  | 0 => ⟨0, by
      have := hq.1
      obtain ⟨n, rfl⟩ : ∃ j, q = j + 1 := ⟨q - 1, by omega⟩
      simp [Int.pow_succ]⟩
  | c + 1 => by
    obtain ⟨z, e⟩ := fermat_nat hq c
    obtain ⟨y, e2⟩ := dream (a := 0) (b := 0) (c := c) (g := [1]) (s := fun _ => 1) hq 0
    have e3 : ∀ (n k : Nat), iter (fun t i => (c : Int) * t i + ops 0 [1] t (i + 0)) n (fun _ => 1) k = ((c + 1 : Nat) : Int) ^ n := fun n => by
      induction n with
      | zero => intro k; rfl
      | succ n ih => intro k; show (c : Int) * iter (fun t i => (c : Int) * t i + ops 0 [1] t (i + 0)) n (fun _ => 1) k + (1 * iter (fun t i => (c : Int) * t i + ops 0 [1] t (i + 0)) n (fun _ => 1) (k + 0) + 0) = _; rw [ih, ih, Int.pow_succ, Int.mul_comm _ (((c + 1 : Nat) : Int))]; simp; rw [Int.add_mul]; simp
    have e4 : ∀ (n k : Nat), iter (fun t i => ops 0 [1] t (i + 0)) n (fun _ => 1) k = 1 := fun n => by
      induction n with
      | zero => intro k; rfl
      | succ n ih => intro k; show 1 * iter (fun t i => ops 0 [1] t (i + 0)) n (fun _ => 1) (k + 0) + 0 = _; rw [ih]; rfl
    rw [e3, e4, e] at e2
    exact ⟨z + y, by rw [e2, Int.mul_add]; simp; omega⟩
theorem fermat {q : Nat} (hq : Pr q) (c : Int) : ∃ z : Int, c ^ q = c + q * z := by
  have q0 : (q : Int) ≠ 0 := by have := hq.1; omega
  obtain ⟨m, hm⟩ : ∃ m : Nat, (m : Int) = c % q := ⟨(c % q).toNat, Int.toNat_of_nonneg (Int.emod_nonneg _ q0)⟩
  have hc : c = m + q * (c / q) := by rw [hm]; exact (Int.emod_add_mul_ediv c q).symm
  generalize c / q = d at hc
  have pw : ∀ n : Nat, ∃ z : Int, c ^ n = (m : Int) ^ n + q * z := fun n => by
    induction n with
    | zero => exact ⟨0, by simp⟩
    | succ n ih =>
      obtain ⟨z, e⟩ := ih
      refine ⟨(m : Int) ^ n * d + z * c, ?_⟩
      rw [Int.pow_succ, e, Int.add_mul, Int.pow_succ]
      have : (m : Int) ^ n * c = (m : Int) ^ n * m + q * ((m : Int) ^ n * d) := by
        conv => lhs; rw [hc, Int.mul_add]
        rw [← Int.mul_assoc, ← Int.mul_assoc, Int.mul_comm _ (q : Int)]
      rw [this, Int.mul_add, Int.mul_assoc]
      omega
  obtain ⟨z, e⟩ := pw q
  obtain ⟨y, e2⟩ := fermat_nat hq m
  refine ⟨z + y - d, ?_⟩
  rw [e, e2, Int.mul_sub, Int.mul_add]
  omega
/-- a rule q times is the rule with steps q times as long, modulo a prime q -/
theorem frob {q a : Nat} (hq : Pr q) {s : Se} : ∀ (f : List Int) (k : Nat), ∃ z : Int, iter (fun t i => ops a f t i) q s k = ops (a * q) f s k + q * z
  | [], k => by
    obtain ⟨n, rfl⟩ : ∃ j, q = j + 1 := ⟨q - 1, by have := hq.1; omega⟩
    exact ⟨0, by simp [iter, ops]⟩
  | c :: g, k => by
    obtain ⟨z, e⟩ := dream (a := a) (b := a) (c := c) (g := g) (s := s) hq k
    have e0 : iter (fun t i => ops a (c :: g) t i) q s k = iter (fun t i => c * t i + ops a g t (i + a)) q s k := rfl
    rw [e0, e, iter_shift]
    obtain ⟨y, e2⟩ := frob hq g (k + a * q)
    obtain ⟨x, e3⟩ := fermat hq c
    refine ⟨z + y + x * s k, ?_⟩
    rw [e2, e3]
    simp only [ops]
    rw [Int.add_mul, Int.mul_add, Int.mul_add, Int.mul_assoc]
    omega
end Pb
end

section
set_option linter.all false
set_option maxRecDepth 100000
set_option autoImplicit false
/-! Pb2: a rule that fits a row which comes back fits it in all steps that share no factor with its period. -/
namespace Pb
theorem iter_in {α : Type} {f : α → α} : ∀ (n : Nat) (x : α), iter f (n + 1) x = iter f n (f x)
  | 0, _ => rfl
  | n + 1, x => by show f (iter f (n + 1) x) = f (iter f n (f x)); rw [iter_in n x]
theorem ops_none {a : Nat} : ∀ (g : List Int) (k : Nat), ops a g (fun _ => 0) k = 0
  | [], _ => rfl
  | d :: g, k => by simp [ops, ops_none g]
theorem iter_none {a : Nat} {f : List Int} {s : Se} (h : ∀ k, ops a f s k = 0) (n k : Nat) : iter (fun t i => ops a f t i) (n + 1) s k = 0 := by
  rw [iter_in]
  rw [show (fun i => ops a f s i) = fun _ => 0 from funext h]
  have : ∀ n, iter (fun t i => ops a f t i) n (fun _ => 0) = fun _ => 0 := fun n => by
    induction n with
    | zero => rfl
    | succ n ih => funext i; show ops a f (iter _ n _) i = 0; rw [ih]; exact ops_none f i
  rw [this]
def sizeOf1 : List Int → Nat
  | [] => 0
  | c :: g => c.natAbs + sizeOf1 g
theorem ops_size {a B : Nat} {s : Se} (h : ∀ k, (s k).natAbs ≤ B) : ∀ (g : List Int) (k : Nat), (ops a g s k).natAbs ≤ sizeOf1 g * B
  | [], _ => by simp [ops]
  | c :: g, k => by
    have := ops_size (a := a) h g (k + a)
    have h1 : (c * s k).natAbs ≤ c.natAbs * B := by rw [Int.natAbs_mul]; exact Nat.mul_le_mul_left _ (h k)
    simp only [ops, sizeOf1, Nat.add_mul]
    omega
theorem per_mul {p : Nat} {s : Se} (h : ∀ k, s (k + p) = s k) : ∀ (t k : Nat), s (k + p * t) = s k
  | 0, k => rfl
  | t + 1, k => by rw [Nat.mul_succ, ← Nat.add_assoc, h, per_mul h t]
theorem per_size {p : Nat} {s : Se} (h : ∀ k, s (k + p) = s k) (p0 : 0 < p) : ∃ B : Nat, ∀ k, (s k).natAbs ≤ B := by
  have : ∀ n : Nat, ∃ B : Nat, ∀ k, k < n → (s k).natAbs ≤ B := fun n => by
    induction n with
    | zero => exact ⟨0, fun k l => absurd l (by omega)⟩
    | succ n ih =>
      obtain ⟨B, hb⟩ := ih
      refine ⟨B + (s n).natAbs, fun k l => ?_⟩
      by_cases e : k = n
      · subst e; omega
      · have := hb k (by omega); omega
  obtain ⟨B, hb⟩ := this p
  refine ⟨B, fun k => ?_⟩
  have e : s k = s (k % p) := by
    conv => lhs; rw [← Nat.mod_add_div k p]
    exact per_mul h _ _
  rw [e]
  exact hb _ (Nat.mod_lt _ p0)
theorem one_prime {a q M : Nat} {f : List Int} {s : Se} (hq : Pr q) (hM : ∀ a k, (ops a f s k).natAbs ≤ M) (l : M < q) (h : ∀ k, ops a f s k = 0) (k : Nat) : ops (a * q) f s k = 0 := by
  obtain ⟨z, e⟩ := frob (a := a) (s := s) hq f k
  obtain ⟨n, hn⟩ : ∃ j, q = j + 1 := ⟨q - 1, by have := hq.1; omega⟩
  have e0 : iter (fun t i => ops a f t i) q s k = 0 := by rw [hn]; exact iter_none h n k
  have b := hM (a * q) k
  rw [e0] at e
  have dv : ops (a * q) f s k = q * (-z) := by rw [Int.mul_neg]; omega
  rw [dv] at b ⊢
  rw [Int.natAbs_mul] at b
  simp only [Int.natAbs_natCast] at b
  have : (-z).natAbs = 0 := by
    cases hz : (-z).natAbs with
    | zero => rfl
    | succ y =>
      rw [hz, Nat.mul_succ] at b
      omega
  have : -z = 0 := by omega
  rw [this]; simp
theorem pr_dvd {r x y : Nat} (h : Pr r) (d : r ∣ x * y) : r ∣ x ∨ r ∣ y := by
  by_cases e : x % r = 0
  · exact .inl (Nat.dvd_of_mod_eq_zero e)
  · refine .inr ?_
    have l : x % r < r := Nat.mod_lt _ (by have := h.1; omega)
    have g := h.2 (x % r) (by omega) l
    have g2 : Nat.Coprime r x := by
      show Nat.gcd r x = 1
      rw [Nat.gcd_rec]
      exact g
    exact g2.dvd_of_dvd_mul_left d
theorem has_prime : ∀ (n m : Nat), m ≤ n → 2 ≤ m → ∃ r, Pr r ∧ r ∣ m
  | 0, m, h, h2 => by omega
  | n + 1, m, h, h2 => by
    by_cases e : ∀ j, 0 < j → j < m → Nat.gcd j m = 1
    · exact ⟨m, ⟨h2, e⟩, Nat.dvd_refl m⟩
    · obtain ⟨j, hj⟩ := Classical.not_forall.mp e
      obtain ⟨j0, hj⟩ := Classical.not_imp.mp hj
      obtain ⟨jm, hj⟩ := Classical.not_imp.mp hj
      have g0 : 0 < Nat.gcd j m := Nat.gcd_pos_of_pos_left _ j0
      have gl : Nat.gcd j m ≤ j := Nat.gcd_le_left _ j0
      obtain ⟨r, hr, d⟩ := has_prime n (Nat.gcd j m) (by omega) (by omega)
      exact ⟨r, hr, Nat.dvd_trans d (Nat.gcd_dvd_right j m)⟩
/-- the product of all to n that share no factor with a -/
def pro (a : Nat) : Nat → Nat
  | 0 => 1
  | n + 1 => if Nat.gcd (n + 1) a = 1 then (n + 1) * pro a n else pro a n
theorem pr_one {r : Nat} (h : Pr r) : ¬ r ∣ 1 := fun d => by
  have := Nat.le_of_dvd (by decide) d
  have := h.1
  omega
theorem pro_not {a r : Nat} (h : Pr r) (d : r ∣ a) : ∀ n, ¬ r ∣ pro a n
  | 0 => pr_one h
  | n + 1 => fun e => by
    simp only [pro] at e
    split at e
    · rename_i g
      rcases pr_dvd h e with e | e
      · have := Nat.dvd_gcd e d
        rw [g] at this
        exact pr_one h this
      · exact pro_not h d n e
    · exact pro_not h d n e
theorem pro_has {a r : Nat} (g : Nat.gcd r a = 1) (r0 : 0 < r) : ∀ n, r ≤ n → r ∣ pro a n
  | 0, l => by omega
  | n + 1, l => by
    simp only [pro]
    by_cases e : r = n + 1
    · subst e
      rw [if_pos g]
      exact Nat.dvd_mul_right _ _
    · have := pro_has g r0 n (by omega)
      split
      · exact Nat.dvd_trans this (Nat.dvd_mul_left _ _)
      · exact this
theorem pr_gcd {r a : Nat} (h : Pr r) (d : ¬ r ∣ a) : Nat.gcd r a = 1 := by
  have l : a % r < r := Nat.mod_lt _ (by have := h.1; omega)
  rw [Nat.gcd_rec]
  exact h.2 (a % r) (Nat.pos_of_ne_zero fun e => d (Nat.dvd_of_mod_eq_zero e)) l
theorem far {a p M : Nat} (g : Nat.gcd a p = 1) {r : Nat} (hr : Pr r) (d : r ∣ a + p * pro a M) : M < r := by
  refine Nat.lt_of_not_le fun l => ?_
  by_cases e : r ∣ a
  · have d2 : r ∣ p * pro a M := (Nat.dvd_add_right e).mp d
    rcases pr_dvd hr d2 with q | q
    · have := Nat.dvd_gcd e q
      rw [g] at this
      exact pr_one hr this
    · exact pro_not hr e M q
  · have q := pro_has (pr_gcd hr e) (by have := hr.1; omega) M l
    have d2 : r ∣ p * pro a M := Nat.dvd_trans q (Nat.dvd_mul_left _ _)
    exact e ((Nat.dvd_add_left d2).mp d)
theorem all_far {M : Nat} {Z : Nat → Prop} (z1 : Z 1) (zq : ∀ b q, Pr q → M < q → Z b → Z (b * q)) : ∀ (n m : Nat), m ≤ n → 1 ≤ m → (∀ r, Pr r → r ∣ m → M < r) → Z m
  | 0, m, h, h1, _ => by omega
  | n + 1, m, h, h1, k => by
    by_cases e : m = 1
    · subst e; exact z1
    · obtain ⟨r, hr, d⟩ := has_prime m m (Nat.le_refl _) (by omega)
      obtain ⟨t, rfl⟩ := d
      have r2 := hr.1
      have t0 : 1 ≤ t := by
        cases t with
        | zero => omega
        | succ t => omega
      have lt : t < r * t := by
        have : 2 * t ≤ r * t := Nat.mul_le_mul_right _ r2
        omega
      have := all_far z1 zq n t (by omega) t0 fun x hx dx => k x hx (Nat.dvd_trans dx (Nat.dvd_mul_left _ _))
      rw [Nat.mul_comm]
      exact zq t r hr (k r hr (Nat.dvd_mul_right _ _)) this
theorem ops_per {p a t : Nat} {s : Se} (h : ∀ k, s (k + p) = s k) : ∀ (g : List Int) (k j : Nat), ops (a + p * t) g s (k + p * j) = ops a g s k
  | [], _, _ => rfl
  | c :: g, k, j => by
    simp only [ops]
    rw [per_mul h, ← ops_per h g (k + a) (j + t)]
    congr 2
    rw [Nat.mul_add]
    omega
/-- the main word -/
theorem conj {p a : Nat} {f : List Int} {s : Se} (h : ∀ k, s (k + p) = s k) (p0 : 0 < p) (a0 : 0 < a) (g : Nat.gcd a p = 1) (hf : ∀ k, ops 1 f s k = 0) (k : Nat) : ops a f s k = 0 := by
  obtain ⟨B, hb⟩ := per_size h p0
  have hM := fun a k => ops_size (a := a) hb f k
  have := all_far (M := sizeOf1 f * B) (Z := fun b => ∀ k, ops b f s k = 0) hf (fun b q hq l z k => one_prime hq hM l z k) (a + p * pro a (sizeOf1 f * B)) _ (Nat.le_refl _) (by omega) fun r hr d => far g hr d
  have := this (k + p * 0)
  rwa [ops_per h] at this
end Pb
end

section
set_option linter.all false
set_option maxRecDepth 100000
set_option autoImplicit false
/-! Pb3: more vectors than places hang together; sums over roots of unity. -/
namespace Pb
def skip (i0 i : Nat) : Nat := if i < i0 then i else i + 1
theorem sm_skip (F : Nat → Int) : ∀ (m i0 : Nat), i0 < m + 1 → sm (m + 1) F = F i0 + sm m (fun i => F (skip i0 i))
  | 0, i0, h => by
    obtain rfl : i0 = 0 := by omega
    simp [sm]
  | m + 1, i0, h => by
    by_cases e : i0 = m + 1
    · subst e
      rw [sm]
      rw [sm_congr (g := F) (f := fun i => F (skip (m + 1) i)) fun j l => by simp [skip, l]]
      omega
    · rw [sm, sm_skip F m i0 (by omega)]
      conv => rhs; rw [sm]
      have : skip i0 m = m + 1 := by simp [skip]; omega
      rw [this]
      omega
theorem dep : ∀ (n m : Nat) (V : Nat → Nat → Int), n < m → ∃ f : Nat → Int, (∃ i, i < m ∧ f i ≠ 0) ∧ ∀ c, c < n → sm m (fun i => f i * V i c) = 0
  | 0, m, V, h => ⟨fun _ => 1, ⟨0, h, by decide⟩, fun c l => absurd l (by omega)⟩
  | n + 1, m, V, h => by
    by_cases z : ∀ i, i < m → V i n = 0
    · obtain ⟨f, ⟨i, im, f0⟩, hf⟩ := dep n m V (by omega)
      refine ⟨f, ⟨i, im, f0⟩, fun c l => ?_⟩
      by_cases e : c = n
      · subst e
        rw [sm_congr (g := fun _ => 0) fun j l => by rw [z j l]; simp]
        exact sm_zero
      · exact hf c (by omega)
    · obtain ⟨i0, z1⟩ := Classical.not_forall.mp z
      obtain ⟨il, z2⟩ := Classical.not_imp.mp z1
      obtain ⟨m, rfl⟩ : ∃ j, m = j + 1 := ⟨m - 1, by omega⟩
      obtain ⟨f, ⟨i, im, f0⟩, hf⟩ := dep n m (fun i c => V i0 n * V (skip i0 i) c - V (skip i0 i) n * V i0 c) (by omega)
      obtain ⟨F, F0, F1⟩ : ∃ F : Nat → Int, F i0 = - sm m (fun i => f i * V (skip i0 i) n) ∧ ∀ j, F (skip i0 j) = V i0 n * f j := by
        refine ⟨fun i => if i = i0 then - sm m (fun i => f i * V (skip i0 i) n) else V i0 n * f (if i < i0 then i else i - 1), if_pos rfl, fun j => ?_⟩
        have sn : skip i0 j ≠ i0 := by simp only [skip]; split <;> omega
        have us : (if skip i0 j < i0 then skip i0 j else skip i0 j - 1) = j := by
          simp only [skip]
          by_cases q : j < i0
          · simp only [if_pos q]
          · simp only [if_neg q]; rw [if_neg (by omega)]; omega
        show (if skip i0 j = i0 then _ else V i0 n * f (if skip i0 j < i0 then skip i0 j else skip i0 j - 1)) = _
        rw [if_neg sn, us]
      refine ⟨F, ⟨skip i0 i, by simp only [skip]; split <;> omega, ?_⟩, fun c l => ?_⟩
      · rw [F1]
        exact Int.mul_ne_zero z2 f0
      · rw [sm_skip _ m i0 il, F0]
        have e4 : sm m (fun i => F (skip i0 i) * V (skip i0 i) c) = sm m (fun i => f i * (V i0 n * V (skip i0 i) c - V (skip i0 i) n * V i0 c) + V i0 c * (f i * V (skip i0 i) n)) := sm_congr fun j _ => by
          rw [F1, Int.mul_sub]
          have e1 : V i0 n * f j * V (skip i0 j) c = f j * (V i0 n * V (skip i0 j) c) := by rw [← Int.mul_assoc, Int.mul_comm (f j)]
          have e2 : V i0 c * (f j * V (skip i0 j) n) = f j * (V (skip i0 j) n * V i0 c) := by rw [Int.mul_comm, Int.mul_assoc]
          rw [e1, e2]
          omega
        rw [e4, sm_add, sm_mul]
        have e3 : sm m (fun i => f i * (V i0 n * V (skip i0 i) c - V (skip i0 i) n * V i0 c)) = 0 := by
          by_cases e : c = n
          · subst e
            rw [sm_congr (g := fun _ => 0) fun j l => by rw [Int.mul_comm (V i0 c), Int.sub_self]; simp]
            exact sm_zero
          · exact hf c (by omega)
        rw [e3, Int.neg_mul, Int.mul_comm (V i0 c)]
        omega
/-- sums of the powers of all roots of unity of an order -/
def sumL : List Int → Int
  | [] => 0
  | x :: r => x + sumL r
/-- by its table -/
def cr (t : Nat → Int) (d k : Nat) : Int := t (k % d)
def chkB (t : Nat → Int) (us : List Nat) (d b : Nat) : Bool := (List.range d).all fun j => decide (sumL (us.map fun a => cr t d (j + (d - 1) * (a * b))) = cr t d b * cr t d j)
theorem cr_mod {t : Nat → Int} {d k : Nat} : cr t d (k % d) = cr t d k := by
  unfold cr
  rw [Nat.mod_mod]
theorem cr_per {t : Nat → Int} {d k : Nat} (x : Nat) : cr t d (k + d * x) = cr t d k := by
  unfold cr
  rw [Nat.add_mul_mod_self_left]
theorem sm_cyc1 {p : Nat} {g : Nat → Int} (h : ∀ k, g (k + p) = g k) : sm p (fun j => g (j + 1)) = sm p g := by
  have := sm_first (n := p) (f := g)
  simp only [sm] at this
  have e := h 0
  rw [Nat.zero_add] at e
  omega
theorem sm_cyc {p : Nat} {g : Nat → Int} (h : ∀ k, g (k + p) = g k) : ∀ t, sm p (fun j => g (j + t)) = sm p g
  | 0 => rfl
  | t + 1 => by
    rw [← sm_cyc h t]
    have := sm_cyc1 (p := p) (g := fun j => g (j + t)) fun k => by rw [show k + p + t = (k + t) + p from by omega, h]
    rw [← this]
    refine sm_congr fun j _ => ?_
    rw [show j + (t + 1) = j + 1 + t from by omega]
theorem sumL_sm {n : Nat} {F : Nat → Nat → Int} : ∀ us : List Nat, sumL (us.map fun a => sm n (F a)) = sm n (fun j => sumL (us.map fun a => F a j))
  | [] => by simp only [List.map_nil, sumL]; rw [sm_zero]
  | a :: us => by
    simp only [List.map_cons, sumL]
    rw [sumL_sm us, sm_add]
theorem sumL_congr {F G : Nat → Int} : ∀ us : List Nat, (∀ a ∈ us, F a = G a) → sumL (us.map F) = sumL (us.map G)
  | [], _ => rfl
  | a :: us, h => by
    simp only [List.map_cons, sumL]
    rw [h a List.mem_cons_self, sumL_congr us fun b m => h b (List.mem_cons_of_mem _ m)]
theorem sumL_mul {F : Nat → Int} {c : Int} : ∀ us : List Nat, sumL (us.map fun a => F a * c) = sumL (us.map F) * c
  | [] => by simp [sumL]
  | a :: us => by
    simp only [List.map_cons, sumL]
    rw [sumL_mul us, Int.add_mul]
/-- the part of a row that has an order -/
def part (t : Nat → Int) (d p : Nat) (s : Se) (k : Nat) : Int := sm p (fun j => cr t d j * s (k + j))
section
variable {t : Nat → Int} {d p : Nat} {s : Se} (hp : ∀ k, s (k + p) = s k) (hd : d ∣ p)
include hp hd
theorem part_move (x k : Nat) (hx : d ∣ x + p * 0 + 0 → True) (y : Nat) (hy : d ∣ x + y) : part t d p s (k + x) = sm p (fun j => cr t d (j + y) * s (k + j)) := by
  obtain ⟨z, rfl⟩ := hd
  unfold part
  have := sm_cyc (p := d * z) (g := fun j => cr t d (j + y) * s (k + j)) (fun i => by
    show cr t d (i + d * z + y) * s (k + (i + d * z)) = _
    rw [show i + d * z + y = i + y + d * z from by omega, cr_per, ← Nat.add_assoc, hp]) x
  rw [← this]
  refine sm_congr fun j _ => ?_
  obtain ⟨w, hw⟩ := hy
  rw [show j + x + y = j + d * w from by omega, cr_per]
  rw [show k + x + j = k + (j + x) from by omega]
theorem part_per (k : Nat) : part t d p s (k + d) = part t d p s k := by
  rw [part_move hp hd d k (fun _ => trivial) 0 (by simp)]
  rfl
/-- behind all steps that share no factor with the order -/
theorem part_units {us : List Nat} {b : Nat} (d0 : 0 < d) (h : chkB t us d b = true) (k : Nat) : sumL (us.map fun a => part t d p s (k + a * b)) = cr t d b * part t d p s k := by
  have e : ∀ a, part t d p s (k + a * b) = sm p (fun j => cr t d (j + (d - 1) * (a * b)) * s (k + j)) := fun a =>
    part_move hp hd (a * b) k (fun _ => trivial) _ (by
      refine ⟨a * b, ?_⟩
      obtain ⟨d, rfl⟩ : ∃ j, d = j + 1 := ⟨d - 1, by omega⟩
      rw [Nat.add_sub_cancel, Nat.succ_mul]
      omega)
  rw [sumL_congr (G := fun a => sm p (fun j => cr t d (j + (d - 1) * (a * b)) * s (k + j))) us fun a _ => e a]
  rw [sumL_sm]
  have e2 : ∀ j, sumL (us.map fun a => cr t d (j + (d - 1) * (a * b)) * s (k + j)) = cr t d b * (cr t d j * s (k + j)) := fun j => by
    rw [sumL_mul, ← Int.mul_assoc]
    congr 1
    have q := List.all_eq_true.mp h (j % d) (List.mem_range.mpr (Nat.mod_lt _ d0))
    have q := of_decide_eq_true q
    rw [cr_mod] at q
    rw [← q]
    refine sumL_congr us fun a _ => ?_
    unfold cr
    rw [Nat.mod_add_mod]
  rw [sm_congr fun j _ => e2 j, sm_mul]
  rfl
theorem part_ops {f : List Int} (hf : ∀ k, ops 1 f s k = 0) (k : Nat) : ops 1 f (part t d p s) k = 0 := by
  have : part t d p s = fun i => sm p (fun j => cr t d j * (fun i => s (i + j)) i) := rfl
  rw [this, ops_sm]
  rw [sm_congr (g := fun _ => 0) fun j _ => by rw [ops_shift, hf]; simp]
  exact sm_zero
end
theorem ops7 {a : Nat} {s : Se} {k : Nat} {f0 f1 f2 f3 f4 f5 f6 : Int} : ops a [f0, f1, f2, f3, f4, f5, f6] s k = f0 * s (k + a * 0) + (f1 * s (k + a * 1) + (f2 * s (k + a * 2) + (f3 * s (k + a * 3) + (f4 * s (k + a * 4) + (f5 * s (k + a * 5) + f6 * s (k + a * 6)))))) := by
  simp only [ops]
  rw [show k + a * 0 = k from by omega, show k + a * 1 = k + a from by omega, show k + a * 2 = k + a + a from by omega, show k + a * 3 = k + a + a + a from by omega, show k + a * 4 = k + a + a + a + a from by omega, show k + a * 5 = k + a + a + a + a + a from by omega, show k + a * 6 = k + a + a + a + a + a + a from by omega]
  omega
theorem sumL_add {F G : Nat → Int} : ∀ us : List Nat, sumL (us.map fun a => F a + G a) = sumL (us.map F) + sumL (us.map G)
  | [] => rfl
  | a :: us => by
    simp only [List.map_cons, sumL]
    rw [sumL_add us]
    omega
theorem sumL_mull {F : Nat → Int} {c : Int} (us : List Nat) : sumL (us.map fun a => c * F a) = c * sumL (us.map F) := by
  rw [sumL_congr (G := fun a => F a * c) us fun a _ => Int.mul_comm _ _, sumL_mul, Int.mul_comm]
/-- what a rule of seven numbers must keep if there is a part of an order -/
theorem keeps {t : Nat → Int} {d p : Nat} {s : Se} {f0 f1 f2 f3 f4 f5 f6 : Int} (hp : ∀ k, s (k + p) = s k) (hd : d ∣ p) (d0 : 0 < d) (hf : ∀ k, ops 1 [f0, f1, f2, f3, f4, f5, f6] s k = 0) {k : Nat} (nz : part t d p s k ≠ 0) {us : List Nat} (hu : us.all (fun a => decide (0 < a) && decide (Nat.gcd a d = 1)) = true) (e : Nat)
    (hc : (List.range 7).all (fun i => chkB t us d (e + i)) = true) :
    f0 * cr t d (e + 0) + (f1 * cr t d (e + 1) + (f2 * cr t d (e + 2) + (f3 * cr t d (e + 3) + (f4 * cr t d (e + 4) + (f5 * cr t d (e + 5) + f6 * cr t d (e + 6)))))) = 0 := by
  have w1 := part_per (t := t) hp hd
  have w2 := part_ops (t := t) (d := d) (p := p) hp hd hf
  have z : sumL (us.map fun a => ops a [f0, f1, f2, f3, f4, f5, f6] (part t d p s) (k + a * e)) = 0 := by
    rw [sumL_congr (G := fun _ => 0) us fun a m => by
      have := List.all_eq_true.mp hu a m
      simp only [Bool.and_eq_true, decide_eq_true_eq] at this
      exact conj w1 d0 this.1 this.2 w2 _]
    have : sumL (us.map fun _ => (0 : Int) * 0) = 0 * sumL (us.map fun _ => (0 : Int)) := sumL_mull us
    simpa using this
  rw [sumL_congr us fun a _ => ops7] at z
  simp only [sumL_add, sumL_mull] at z
  have q : ∀ i, i < 7 → sumL (us.map fun a => part t d p s (k + a * e + a * i)) = cr t d (e + i) * part t d p s k := fun i l => by
    rw [← part_units hp hd d0 (List.all_eq_true.mp hc i (List.mem_range.mpr l)) k]
    refine sumL_congr us fun a _ => ?_
    rw [Nat.mul_add, Nat.add_assoc]
  rw [q 0 (by decide), q 1 (by decide), q 2 (by decide), q 3 (by decide), q 4 (by decide), q 5 (by decide), q 6 (by decide)] at z
  simp only [← Int.mul_assoc, ← Int.add_mul] at z
  rcases Int.mul_eq_zero.mp z with z | z
  · exact z
  · exact absurd z nz
end Pb
namespace Pb
theorem sm_one {d a0 : Nat} (h : a0 < d) : sm d (fun a => if a = a0 then (1 : Int) else 0) = 1 := by
  induction d with
  | zero => omega
  | succ d ih =>
    simp only [sm]
    by_cases e : a0 = d
    · subst e
      rw [if_pos rfl, sm_congr (g := fun _ => 0) fun j l => if_neg (by omega), sm_zero]
      rfl
    · rw [ih (by omega), if_neg (by omega)]
      rfl
theorem sm_all {d b y k : Nat} {g : Se} (hg : ∀ k, g (k + d) = g k) (d0 : 0 < d) (h : b * y % d = 1 % d) : sm d (fun a => g (k + a * b)) = sm d (fun r => g (k + r)) := by
  have e1 : ∀ a, g (k + a * b) = sm d (fun r => g (k + r) * (if r = a * b % d then 1 else 0)) := fun a => by
    have l : a * b % d < d := Nat.mod_lt _ d0
    rw [sm_congr (g := fun r => g (k + a * b) * (if r = a * b % d then 1 else 0)) fun r _ => by
      by_cases e : r = a * b % d
      · rw [if_pos e]
        congr 1
        conv => rhs; rw [← Nat.mod_add_div (a * b) d, ← e, ← Nat.add_assoc]
        rw [per_mul hg]
      · rw [if_neg e]; simp]
    rw [sm_mul, sm_one l]
    simp
  rw [sm_congr fun a _ => e1 a, sm_swap]
  refine sm_congr fun r lr => ?_
  rw [sm_mul]
  have e2 : ∀ a, a < d → ((if r = a * b % d then (1 : Int) else 0) = if a = r * y % d then 1 else 0) := fun a la => by
    have m1 : a * b * y % d = a := by
      rw [Nat.mul_assoc, Nat.mul_mod, h, ← Nat.mul_mod, Nat.mul_one, Nat.mod_eq_of_lt la]
    have m2 : r * y * b % d = r := by
      rw [Nat.mul_assoc, Nat.mul_comm y, Nat.mul_mod, h, ← Nat.mul_mod, Nat.mul_one, Nat.mod_eq_of_lt lr]
    by_cases e : r = a * b % d
    · rw [if_pos e, if_pos]
      rw [e, Nat.mod_mul_mod, m1]
    · rw [if_neg e, if_neg]
      intro e3
      apply e
      rw [e3, Nat.mod_mul_mod, m2]
  rw [sm_congr e2, sm_one (Nat.mod_lt _ d0)]
  simp
theorem sm_tele {g : Se} : ∀ (n k : Nat), sm n (fun r => g (k + r + 1) - g (k + r)) = g (k + n) - g k
  | 0, k => by simp [sm]
  | n + 1, k => by
    simp only [sm]
    rw [sm_tele n k, show k + (n + 1) = k + n + 1 from by omega]
    omega
/-- a row of prime period lets no rule of seven numbers -/
theorem keepsP {d : Nat} {s : Se} {f0 f1 f2 f3 f4 f5 f6 : Int} (hp : ∀ k, s (k + d) = s k) (d0 : 0 < d) (hd : ∀ a, 0 < a → a < d → Nat.gcd a d = 1) (hf : ∀ k, ops 1 [f0, f1, f2, f3, f4, f5, f6] s k = 0) {k : Nat} (nz : s (k + 1) - s k ≠ 0) (e : Nat) {c0 c1 c2 c3 c4 c5 c6 : Int}
    (h0 : c0 = 0 ∧ (∃ y, (e + 0) * y % d = 1 % d) ∨ c0 = d ∧ (e + 0) % d = 0) (h1 : c1 = 0 ∧ (∃ y, (e + 1) * y % d = 1 % d) ∨ c1 = d ∧ (e + 1) % d = 0) (h2 : c2 = 0 ∧ (∃ y, (e + 2) * y % d = 1 % d) ∨ c2 = d ∧ (e + 2) % d = 0) (h3 : c3 = 0 ∧ (∃ y, (e + 3) * y % d = 1 % d) ∨ c3 = d ∧ (e + 3) % d = 0) (h4 : c4 = 0 ∧ (∃ y, (e + 4) * y % d = 1 % d) ∨ c4 = d ∧ (e + 4) % d = 0) (h5 : c5 = 0 ∧ (∃ y, (e + 5) * y % d = 1 % d) ∨ c5 = d ∧ (e + 5) % d = 0) (h6 : c6 = 0 ∧ (∃ y, (e + 6) * y % d = 1 % d) ∨ c6 = d ∧ (e + 6) % d = 0) :
    f0 * c0 + (f1 * c1 + (f2 * c2 + (f3 * c3 + (f4 * c4 + (f5 * c5 + f6 * c6))))) = f0 + (f1 + (f2 + (f3 + (f4 + (f5 + f6))))) := by
  let w : Se := fun i => s (i + 1) - s i
  have wp : ∀ k, w (k + d) = w k := fun k => by
    show s (k + d + 1) - s (k + d) = s (k + 1) - s k
    rw [show k + d + 1 = k + 1 + d from by omega, hp, hp]
  have wo : ∀ k, ops 1 [f0, f1, f2, f3, f4, f5, f6] w k = 0 := fun k => by
    have := ops_lin (a := 1) (c := -1) (s := s) (t := fun i => s (i + 1)) [f0, f1, f2, f3, f4, f5, f6] k
    rw [ops_shift, hf, hf] at this
    rw [show w = fun i => -1 * s i + s (i + 1) from funext fun i => by show s (i + 1) - s i = _; omega]
    rw [this]
    rfl
  have wz : ∀ k, sm d (fun r => w (k + r)) = 0 := fun k => by
    show sm d (fun r => s (k + r + 1) - s (k + r)) = 0
    rw [sm_tele, hp]
    omega
  have one : ∀ (b : Nat) (c : Int), (c = 0 ∧ (∃ y, b * y % d = 1 % d) ∨ c = d ∧ b % d = 0) → sm d (fun a => w (k + a * b)) = c * w k := fun b c h => by
    rcases h with ⟨rfl, y, hy⟩ | ⟨rfl, hb⟩
    · rw [sm_all wp d0 hy, wz]; simp
    · rw [sm_congr (g := fun _ => w k * 1) fun a _ => by
        obtain ⟨z, hz⟩ := Nat.dvd_of_mod_eq_zero hb
        rw [hz, show a * (d * z) = d * (a * z) from by rw [Nat.mul_left_comm]]
        rw [per_mul wp]
        simp, sm_mul]
      have : ∀ n, sm n (fun _ => 1) = n := fun n => by
        induction n with
        | zero => rfl
        | succ n ih => simp only [sm]; rw [ih]; rfl
      rw [this, Int.mul_comm]
  have tot : sm d (fun a => ops a [f0, f1, f2, f3, f4, f5, f6] w (k + a * e)) = (f0 + (f1 + (f2 + (f3 + (f4 + (f5 + f6)))))) * w k := by
    obtain ⟨n, rfl⟩ : ∃ j, d = j + 1 := ⟨d - 1, by omega⟩
    rw [sm_first, sm_congr (g := fun _ => 0) fun j l => by
      exact conj wp d0 (by omega) (hd (j + 1) (by omega) (by omega)) wo _, sm_zero, ops7]
    simp only [Nat.zero_mul, Nat.add_zero, Int.add_mul]
    omega
  rw [sm_congr fun a _ => ops7] at tot
  simp only [sm_add, sm_mul] at tot
  have q : ∀ i : Nat, sm d (fun a => w (k + a * e + a * i)) = sm d (fun a => w (k + a * (e + i))) := fun i => sm_congr fun a _ => by rw [Nat.mul_add, Nat.add_assoc]
  rw [q 0, q 1, q 2, q 3, q 4, q 5, q 6, one _ _ h0, one _ _ h1, one _ _ h2, one _ _ h3, one _ _ h4, one _ _ h5, one _ _ h6] at tot
  simp only [← Int.mul_assoc, ← Int.add_mul] at tot
  exact Int.eq_of_mul_eq_mul_right nz tot
end Pb
namespace Pb
theorem sumX_sm {α : Type} {n : Nat} {F : α → Nat → Int} : ∀ us : List α, sumL (us.map fun a => sm n (F a)) = sm n (fun j => sumL (us.map fun a => F a j))
  | [] => by simp only [List.map_nil, sumL]; rw [sm_zero]
  | a :: us => by
    simp only [List.map_cons, sumL]
    rw [sumX_sm us, sm_add]
theorem sumX_congr {α : Type} {F G : α → Int} : ∀ us : List α, (∀ a ∈ us, F a = G a) → sumL (us.map F) = sumL (us.map G)
  | [], _ => rfl
  | a :: us, h => by
    simp only [List.map_cons, sumL]
    rw [h a List.mem_cons_self, sumX_congr us fun b m => h b (List.mem_cons_of_mem _ m)]
theorem sumX_mul {α : Type} {F : α → Int} {c : Int} : ∀ us : List α, sumL (us.map fun a => F a * c) = sumL (us.map F) * c
  | [] => by simp [sumL]
  | a :: us => by
    simp only [List.map_cons, sumL]
    rw [sumX_mul us, Int.add_mul]
theorem sumL_app : ∀ a b : List Int, sumL (a ++ b) = sumL a + sumL b
  | [], b => by simp [sumL]
  | x :: a, b => by
    simp only [List.cons_append, sumL]
    rw [sumL_app a b]
    omega
def chkS (D : List (Nat × (Nat → Int))) (p : Nat) : Bool := (List.range p).all fun j => decide (sumL (D.map fun x => cr x.2 x.1 j) = if j = 0 then (p : Int) else 0)
/-- all parts together -/
theorem parts_all {D : List (Nat × (Nat → Int))} {p : Nat} {s : Se} (p0 : 0 < p) (h : chkS D p = true) (k : Nat) : sumL (D.map fun x => part x.2 x.1 p s k) = p * s k := by
  unfold part
  rw [sumX_sm]
  have e : ∀ j, j < p → sumL (D.map fun x => cr x.2 x.1 j * s (k + j)) = (if j = 0 then (1 : Int) else 0) * (p * s k) := fun j l => by
    rw [sumX_mul]
    have := of_decide_eq_true (List.all_eq_true.mp h j (List.mem_range.mpr l))
    rw [this]
    by_cases z : j = 0
    · subst z; simp
    · simp [z]
  rw [sm_congr (g := fun j => p * s k * (if j = 0 then (1 : Int) else 0)) fun j l => by rw [e j l, Int.mul_comm], sm_mul, sm_one p0]
  simp
/-- a row of vectors that comes back, and a rule of seven numbers that all its places keep -/
structure Orb (p : Nat) (V : Nat → Nat → Int) (f0 f1 f2 f3 f4 f5 f6 : Int) : Prop where
  per : ∀ c k, V (k + p) c = V k c
  rel : ∀ c k, ops 1 [f0, f1, f2, f3, f4, f5, f6] (fun k => V k c) k = 0
theorem Orb.alt {p m : Nat} {V : Nat → Nat → Int} {f0 f1 f2 f3 f4 f5 f6 : Int} (O : Orb p V f0 f1 f2 f3 f4 f5 f6) (p0 : 0 < p) (D1 D2 : List (Nat × (Nat → Int))) (h1 : D1.all (fun x => decide (x.1 ∣ m) && decide (x.1 ∣ p)) = true) (h : chkS (D1 ++ D2) p = true) :
    (∀ c, V m c = V 0 c) ∨ ∃ x ∈ D2, ∃ c k, part x.2 x.1 p (fun k => V k c) k ≠ 0 := by
  by_cases e : ∃ x ∈ D2, ∃ c k, part x.2 x.1 p (fun k => V k c) k ≠ 0
  · exact .inr e
  · refine .inl fun c => ?_
    have z : ∀ k, sumL (D2.map fun x => part x.2 x.1 p (fun k => V k c) k) = 0 := fun k => by
      rw [sumX_congr (G := fun _ => 0 * 0) D2 fun x mx => Classical.byContradiction fun q => e ⟨x, mx, c, k, q⟩]
      rw [sumX_mul (F := fun _ => 0) (c := 0)]
      simp
    have q : ∀ k, sumL (D1.map fun x => part x.2 x.1 p (fun k => V k c) k) = p * V k c := fun k => by
      have := parts_all (s := fun k => V k c) p0 h k
      rw [List.map_append, sumL_app, z] at this
      simpa using this
    have r : sumL (D1.map fun x => part x.2 x.1 p (fun k => V k c) m) = sumL (D1.map fun x => part x.2 x.1 p (fun k => V k c) 0) := sumX_congr D1 fun x mx => by
      have := List.all_eq_true.mp h1 x mx
      simp only [Bool.and_eq_true, decide_eq_true_eq] at this
      obtain ⟨w, hw⟩ := this.1
      have := per_mul (part_per (t := x.2) (s := fun k => V k c) (fun k => O.per c k) this.2) w 0
      rw [Nat.zero_add, ← hw] at this
      exact this
    rw [q, q] at r
    exact Int.eq_of_mul_eq_mul_left (by omega) r
end Pb
namespace Pb
theorem chkB_mod {t : Nat → Int} {us : List Nat} {d b b2 : Nat} (e : b % d = b2 % d) (h : chkB t us d b2 = true) : chkB t us d b = true := by
  refine List.all_eq_true.mpr fun j mj => decide_eq_true ?_
  have q := of_decide_eq_true (List.all_eq_true.mp h j mj)
  have e1 : cr t d b = cr t d b2 := by unfold cr; rw [e]
  rw [e1, ← q]
  refine sumL_congr us fun a _ => ?_
  unfold cr
  congr 1
  have m : a * b % d = a * b2 % d := by rw [Nat.mul_mod, e, ← Nat.mul_mod]
  have m2 : (d - 1) * (a * b) % d = (d - 1) * (a * b2) % d := by rw [Nat.mul_mod, m, ← Nat.mul_mod]
  rw [Nat.add_mod, m2, ← Nat.add_mod]
theorem chk_of {t : Nat → Int} {us bs : List Nat} {d e : Nat} (hb : bs.all (fun b => chkB t us d b) = true) (h : (List.range 7).all (fun i => bs.any fun b => decide ((e + i) % d = b % d)) = true) : (List.range 7).all (fun i => chkB t us d (e + i)) = true := by
  refine List.all_eq_true.mpr fun i mi => ?_
  obtain ⟨b, mb, q⟩ := List.any_eq_true.mp (List.all_eq_true.mp h i mi)
  exact chkB_mod (of_decide_eq_true q) (List.all_eq_true.mp hb b mb)
end Pb
namespace Pb
def dotL : List Int → List Int → Int
  | c :: r, f :: s => f * c + dotL r s
  | _, _ => 0
def addL (u : Int) : List Int → List Int → List Int
  | a :: r, b :: s => (u * a + b) :: addL u r s
  | _, _ => []
def comb7 : List Int → List (List Int) → List Int
  | u :: us, r :: rs => addL u r (comb7 us rs)
  | _, _ => [0, 0, 0, 0, 0, 0, 0]
theorem dot_add {u : Int} : ∀ (x y f : List Int), x.length = f.length → y.length = f.length → dotL (addL u x y) f = u * dotL x f + dotL y f ∧ (addL u x y).length = f.length
  | [], [], [], _, _ => by simp [dotL, addL]
  | [], _ :: _, [], _, h => by cases h
  | [], _, _ :: _, h, _ => by cases h
  | _ :: _, _, [], h, _ => by cases h
  | _ :: _, [], _ :: _, _, h => by cases h
  | a :: x, b :: y, c :: f, h1, h2 => by
    obtain ⟨e1, e2⟩ := dot_add (u := u) x y f (by simpa using h1) (by simpa using h2)
    simp only [dotL, addL, List.length_cons, e1, e2, and_true, Int.mul_add]
    have : c * (u * a) = u * (c * a) := by rw [← Int.mul_assoc, Int.mul_comm c, Int.mul_assoc]
    rw [this]
    omega
theorem dot_comb {f : List Int} (hf : f.length = 7) : ∀ (us : List Int) (M : List (List Int)), (∀ r ∈ M, r.length = 7 ∧ dotL r f = 0) → dotL (comb7 us M) f = 0 ∧ (comb7 us M).length = 7
  | [], M, _ => by
    match f, hf with
    | [a, b, c, d, e, g, i], _ => simp [comb7, dotL]
  | u :: us, [], _ => by
    match f, hf with
    | [a, b, c, d, e, g, i], _ => simp [comb7, dotL]
  | u :: us, r :: rs, h => by
    obtain ⟨e1, e2⟩ := dot_comb hf us rs fun x m => h x (List.mem_cons_of_mem _ m)
    obtain ⟨h1, h2⟩ := h r List.mem_cons_self
    obtain ⟨g1, g2⟩ := dot_add (u := u) r (comb7 us rs) f (by rw [h1, hf]) (by rw [e2, hf])
    simp only [comb7]
    rw [g1, g2, h2, e1, hf]
    simp
theorem solve {M : List (List Int)} {f0 f1 f2 f3 f4 f5 f6 D : Int} (u0 u1 u2 u3 u4 u5 u6 : List Int) (hM : ∀ r ∈ M, r.length = 7 ∧ dotL r [f0, f1, f2, f3, f4, f5, f6] = 0) (hD : D ≠ 0)
    (hU : decide (comb7 u0 M = [D, 0, 0, 0, 0, 0, 0] ∧ comb7 u1 M = [0, D, 0, 0, 0, 0, 0] ∧ comb7 u2 M = [0, 0, D, 0, 0, 0, 0] ∧ comb7 u3 M = [0, 0, 0, D, 0, 0, 0] ∧ comb7 u4 M = [0, 0, 0, 0, D, 0, 0] ∧ comb7 u5 M = [0, 0, 0, 0, 0, D, 0] ∧ comb7 u6 M = [0, 0, 0, 0, 0, 0, D]) = true) :
    f0 = 0 ∧ f1 = 0 ∧ f2 = 0 ∧ f3 = 0 ∧ f4 = 0 ∧ f5 = 0 ∧ f6 = 0 := by
  obtain ⟨a0, a1, a2, a3, a4, a5, a6⟩ := of_decide_eq_true hU
  have g := fun us => (dot_comb (f := [f0, f1, f2, f3, f4, f5, f6]) rfl us M hM).1
  have b0 := g u0; have b1 := g u1; have b2 := g u2; have b3 := g u3; have b4 := g u4; have b5 := g u5; have b6 := g u6
  rw [a0] at b0; rw [a1] at b1; rw [a2] at b2; rw [a3] at b3; rw [a4] at b4; rw [a5] at b5; rw [a6] at b6
  simp only [dotL, Int.mul_zero, Int.add_zero, Int.zero_add] at b0 b1 b2 b3 b4 b5 b6
  have z : ∀ x : Int, x * D = 0 → x = 0 := fun x h => (Int.mul_eq_zero.mp h).resolve_right hD
  exact ⟨z _ b0, z _ b1, z _ b2, z _ b3, z _ b4, z _ b5, z _ b6⟩
theorem dot7 {f0 f1 f2 f3 f4 f5 f6 c0 c1 c2 c3 c4 c5 c6 : Int} (h : f0 * c0 + (f1 * c1 + (f2 * c2 + (f3 * c3 + (f4 * c4 + (f5 * c5 + f6 * c6))))) = 0) : [c0, c1, c2, c3, c4, c5, c6].length = 7 ∧ dotL [c0, c1, c2, c3, c4, c5, c6] [f0, f1, f2, f3, f4, f5, f6] = 0 := by
  refine ⟨rfl, ?_⟩
  simp only [dotL, Int.add_zero]
  exact h
theorem all_nil {P : List Int → Prop} : ∀ r ∈ ([] : List (List Int)), P r := fun _ m => nomatch m
theorem all_cons {P : List Int → Prop} {r : List Int} {M : List (List Int)} (a : P r) (b : ∀ x ∈ M, P x) : ∀ x ∈ r :: M, P x := fun x m => by
  rcases List.mem_cons.mp m with rfl | m
  · exact a
  · exact b x m
end Pb
end

section
set_option linter.all false
set_option maxRecDepth 100000
set_option autoImplicit false
set_option maxHeartbeats 0
/-! Pb4: no row of vectors of six places has one of these periods (this text is printed by pb4b.py). -/
namespace Pb
def t1 (r : Nat) : Int := 1
def t2 (r : Nat) : Int := (cond (Nat.beq (r % 2) 0) 1 (-1))
def t3 (r : Nat) : Int := (cond (Nat.beq (r % 3) 0) 2 (-1))
def t4 (r : Nat) : Int := (cond (Nat.beq (r % 4) 0) 2 (cond (Nat.beq (r % 2) 0) (-2) 0))
def t5 (r : Nat) : Int := (cond (Nat.beq (r % 5) 0) 4 (-1))
def t6 (r : Nat) : Int := (cond (Nat.beq (r % 2) 0) 1 (-1)) * (cond (Nat.beq (r % 3) 0) 2 (-1))
def t7 (r : Nat) : Int := (cond (Nat.beq (r % 7) 0) 6 (-1))
def t8 (r : Nat) : Int := (cond (Nat.beq (r % 8) 0) 4 (cond (Nat.beq (r % 4) 0) (-4) 0))
def t9 (r : Nat) : Int := (cond (Nat.beq (r % 9) 0) 6 (cond (Nat.beq (r % 3) 0) (-3) 0))
def t10 (r : Nat) : Int := (cond (Nat.beq (r % 2) 0) 1 (-1)) * (cond (Nat.beq (r % 5) 0) 4 (-1))
def t12 (r : Nat) : Int := (cond (Nat.beq (r % 4) 0) 2 (cond (Nat.beq (r % 2) 0) (-2) 0)) * (cond (Nat.beq (r % 3) 0) 2 (-1))
def t14 (r : Nat) : Int := (cond (Nat.beq (r % 2) 0) 1 (-1)) * (cond (Nat.beq (r % 7) 0) 6 (-1))
def t15 (r : Nat) : Int := (cond (Nat.beq (r % 3) 0) 2 (-1)) * (cond (Nat.beq (r % 5) 0) 4 (-1))
def t16 (r : Nat) : Int := (cond (Nat.beq (r % 16) 0) 8 (cond (Nat.beq (r % 8) 0) (-8) 0))
def t18 (r : Nat) : Int := (cond (Nat.beq (r % 2) 0) 1 (-1)) * (cond (Nat.beq (r % 9) 0) 6 (cond (Nat.beq (r % 3) 0) (-3) 0))
def t20 (r : Nat) : Int := (cond (Nat.beq (r % 4) 0) 2 (cond (Nat.beq (r % 2) 0) (-2) 0)) * (cond (Nat.beq (r % 5) 0) 4 (-1))
def t21 (r : Nat) : Int := (cond (Nat.beq (r % 3) 0) 2 (-1)) * (cond (Nat.beq (r % 7) 0) 6 (-1))
def t25 (r : Nat) : Int := (cond (Nat.beq (r % 25) 0) 20 (cond (Nat.beq (r % 5) 0) (-5) 0))
def t27 (r : Nat) : Int := (cond (Nat.beq (r % 27) 0) 18 (cond (Nat.beq (r % 9) 0) (-9) 0))
def t28 (r : Nat) : Int := (cond (Nat.beq (r % 4) 0) 2 (cond (Nat.beq (r % 2) 0) (-2) 0)) * (cond (Nat.beq (r % 7) 0) 6 (-1))
def t30 (r : Nat) : Int := (cond (Nat.beq (r % 2) 0) 1 (-1)) * (cond (Nat.beq (r % 3) 0) 2 (-1)) * (cond (Nat.beq (r % 5) 0) 4 (-1))
def t35 (r : Nat) : Int := (cond (Nat.beq (r % 5) 0) 4 (-1)) * (cond (Nat.beq (r % 7) 0) 6 (-1))
def t36 (r : Nat) : Int := (cond (Nat.beq (r % 4) 0) 2 (cond (Nat.beq (r % 2) 0) (-2) 0)) * (cond (Nat.beq (r % 9) 0) 6 (cond (Nat.beq (r % 3) 0) (-3) 0))
def t40 (r : Nat) : Int := (cond (Nat.beq (r % 8) 0) 4 (cond (Nat.beq (r % 4) 0) (-4) 0)) * (cond (Nat.beq (r % 5) 0) 4 (-1))
def t45 (r : Nat) : Int := (cond (Nat.beq (r % 9) 0) 6 (cond (Nat.beq (r % 3) 0) (-3) 0)) * (cond (Nat.beq (r % 5) 0) 4 (-1))
def t49 (r : Nat) : Int := (cond (Nat.beq (r % 49) 0) 42 (cond (Nat.beq (r % 7) 0) (-7) 0))
def t60 (r : Nat) : Int := (cond (Nat.beq (r % 4) 0) 2 (cond (Nat.beq (r % 2) 0) (-2) 0)) * (cond (Nat.beq (r % 3) 0) 2 (-1)) * (cond (Nat.beq (r % 5) 0) 4 (-1))
theorem has3 {p k : Nat} {s : Se} {f0 f1 f2 f3 f4 f5 f6 : Int} (hp : ∀ k, s (k + p) = s k) (hd : 3 ∣ p) (hf : ∀ k, ops 1 [f0, f1, f2, f3, f4, f5, f6] s k = 0) (nz : part t3 3 p s k ≠ 0) : f0 * 2 + (f1 * (-1) + (f2 * (-1) + (f3 * 2 + (f4 * (-1) + (f5 * (-1) + f6 * 2))))) = 0 ∧ f0 * (-1) + (f1 * (-1) + (f2 * 2 + (f3 * (-1) + (f4 * (-1) + (f5 * 2 + f6 * (-1)))))) = 0 := by
  have hu : ([1, 2] : List Nat).all (fun a => decide (0 < a) && decide (Nat.gcd a 3 = 1)) = true := by decide +kernel
  have hb : ([0, 1, 2] : List Nat).all (fun b => chkB t3 [1, 2] 3 b) = true := by decide +kernel
  have hc : ([0, 1] : List Nat).all (fun e => (List.range 7).all (fun i => ([0, 1, 2] : List Nat).any fun b => decide ((e + i) % 3 = b % 3))) = true := by decide +kernel
  have q0 : f0 * 2 + (f1 * (-1) + (f2 * (-1) + (f3 * 2 + (f4 * (-1) + (f5 * (-1) + f6 * 2))))) = 0 := keeps hp hd (by decide) hf nz hu 0 (chk_of hb (List.all_eq_true.mp hc 0 (by decide)))
  have q1 : f0 * (-1) + (f1 * (-1) + (f2 * 2 + (f3 * (-1) + (f4 * (-1) + (f5 * 2 + f6 * (-1)))))) = 0 := keeps hp hd (by decide) hf nz hu 1 (chk_of hb (List.all_eq_true.mp hc 1 (by decide)))
  exact ⟨q0, q1⟩
theorem has4 {p k : Nat} {s : Se} {f0 f1 f2 f3 f4 f5 f6 : Int} (hp : ∀ k, s (k + p) = s k) (hd : 4 ∣ p) (hf : ∀ k, ops 1 [f0, f1, f2, f3, f4, f5, f6] s k = 0) (nz : part t4 4 p s k ≠ 0) : f0 * 2 + (f1 * 0 + (f2 * (-2) + (f3 * 0 + (f4 * 2 + (f5 * 0 + f6 * (-2)))))) = 0 ∧ f0 * 0 + (f1 * (-2) + (f2 * 0 + (f3 * 2 + (f4 * 0 + (f5 * (-2) + f6 * 0))))) = 0 := by
  have hu : ([1, 3] : List Nat).all (fun a => decide (0 < a) && decide (Nat.gcd a 4 = 1)) = true := by decide +kernel
  have hb : ([0, 1, 2, 3] : List Nat).all (fun b => chkB t4 [1, 3] 4 b) = true := by decide +kernel
  have hc : ([0, 1] : List Nat).all (fun e => (List.range 7).all (fun i => ([0, 1, 2, 3] : List Nat).any fun b => decide ((e + i) % 4 = b % 4))) = true := by decide +kernel
  have q0 : f0 * 2 + (f1 * 0 + (f2 * (-2) + (f3 * 0 + (f4 * 2 + (f5 * 0 + f6 * (-2)))))) = 0 := keeps hp hd (by decide) hf nz hu 0 (chk_of hb (List.all_eq_true.mp hc 0 (by decide)))
  have q1 : f0 * 0 + (f1 * (-2) + (f2 * 0 + (f3 * 2 + (f4 * 0 + (f5 * (-2) + f6 * 0))))) = 0 := keeps hp hd (by decide) hf nz hu 1 (chk_of hb (List.all_eq_true.mp hc 1 (by decide)))
  exact ⟨q0, q1⟩
theorem has5 {p k : Nat} {s : Se} {f0 f1 f2 f3 f4 f5 f6 : Int} (hp : ∀ k, s (k + p) = s k) (hd : 5 ∣ p) (hf : ∀ k, ops 1 [f0, f1, f2, f3, f4, f5, f6] s k = 0) (nz : part t5 5 p s k ≠ 0) : f0 * 4 + (f1 * (-1) + (f2 * (-1) + (f3 * (-1) + (f4 * (-1) + (f5 * 4 + f6 * (-1)))))) = 0 ∧ f0 * (-1) + (f1 * (-1) + (f2 * (-1) + (f3 * (-1) + (f4 * 4 + (f5 * (-1) + f6 * (-1)))))) = 0 ∧ f0 * (-1) + (f1 * (-1) + (f2 * (-1) + (f3 * 4 + (f4 * (-1) + (f5 * (-1) + f6 * (-1)))))) = 0 ∧ f0 * (-1) + (f1 * (-1) + (f2 * 4 + (f3 * (-1) + (f4 * (-1) + (f5 * (-1) + f6 * (-1)))))) = 0 := by
  have hu : ([1, 2, 3, 4] : List Nat).all (fun a => decide (0 < a) && decide (Nat.gcd a 5 = 1)) = true := by decide +kernel
  have hb : ([0, 1, 2, 3, 4] : List Nat).all (fun b => chkB t5 [1, 2, 3, 4] 5 b) = true := by decide +kernel
  have hc : ([0, 1, 2, 3] : List Nat).all (fun e => (List.range 7).all (fun i => ([0, 1, 2, 3, 4] : List Nat).any fun b => decide ((e + i) % 5 = b % 5))) = true := by decide +kernel
  have q0 : f0 * 4 + (f1 * (-1) + (f2 * (-1) + (f3 * (-1) + (f4 * (-1) + (f5 * 4 + f6 * (-1)))))) = 0 := keeps hp hd (by decide) hf nz hu 0 (chk_of hb (List.all_eq_true.mp hc 0 (by decide)))
  have q1 : f0 * (-1) + (f1 * (-1) + (f2 * (-1) + (f3 * (-1) + (f4 * 4 + (f5 * (-1) + f6 * (-1)))))) = 0 := keeps hp hd (by decide) hf nz hu 1 (chk_of hb (List.all_eq_true.mp hc 1 (by decide)))
  have q2 : f0 * (-1) + (f1 * (-1) + (f2 * (-1) + (f3 * 4 + (f4 * (-1) + (f5 * (-1) + f6 * (-1)))))) = 0 := keeps hp hd (by decide) hf nz hu 2 (chk_of hb (List.all_eq_true.mp hc 2 (by decide)))
  have q3 : f0 * (-1) + (f1 * (-1) + (f2 * 4 + (f3 * (-1) + (f4 * (-1) + (f5 * (-1) + f6 * (-1)))))) = 0 := keeps hp hd (by decide) hf nz hu 3 (chk_of hb (List.all_eq_true.mp hc 3 (by decide)))
  exact ⟨q0, q1, q2, q3⟩
theorem has6 {p k : Nat} {s : Se} {f0 f1 f2 f3 f4 f5 f6 : Int} (hp : ∀ k, s (k + p) = s k) (hd : 6 ∣ p) (hf : ∀ k, ops 1 [f0, f1, f2, f3, f4, f5, f6] s k = 0) (nz : part t6 6 p s k ≠ 0) : f0 * 2 + (f1 * 1 + (f2 * (-1) + (f3 * (-2) + (f4 * (-1) + (f5 * 1 + f6 * 2))))) = 0 ∧ f0 * 1 + (f1 * (-1) + (f2 * (-2) + (f3 * (-1) + (f4 * 1 + (f5 * 2 + f6 * 1))))) = 0 := by
  have hu : ([1, 5] : List Nat).all (fun a => decide (0 < a) && decide (Nat.gcd a 6 = 1)) = true := by decide +kernel
  have hb : ([0, 1, 2, 3, 4, 5] : List Nat).all (fun b => chkB t6 [1, 5] 6 b) = true := by decide +kernel
  have hc : ([0, 1] : List Nat).all (fun e => (List.range 7).all (fun i => ([0, 1, 2, 3, 4, 5] : List Nat).any fun b => decide ((e + i) % 6 = b % 6))) = true := by decide +kernel
  have q0 : f0 * 2 + (f1 * 1 + (f2 * (-1) + (f3 * (-2) + (f4 * (-1) + (f5 * 1 + f6 * 2))))) = 0 := keeps hp hd (by decide) hf nz hu 0 (chk_of hb (List.all_eq_true.mp hc 0 (by decide)))
  have q1 : f0 * 1 + (f1 * (-1) + (f2 * (-2) + (f3 * (-1) + (f4 * 1 + (f5 * 2 + f6 * 1))))) = 0 := keeps hp hd (by decide) hf nz hu 1 (chk_of hb (List.all_eq_true.mp hc 1 (by decide)))
  exact ⟨q0, q1⟩
theorem has7 {p k : Nat} {s : Se} {f0 f1 f2 f3 f4 f5 f6 : Int} (hp : ∀ k, s (k + p) = s k) (hd : 7 ∣ p) (hf : ∀ k, ops 1 [f0, f1, f2, f3, f4, f5, f6] s k = 0) (nz : part t7 7 p s k ≠ 0) : f0 * 6 + (f1 * (-1) + (f2 * (-1) + (f3 * (-1) + (f4 * (-1) + (f5 * (-1) + f6 * (-1)))))) = 0 ∧ f0 * (-1) + (f1 * (-1) + (f2 * (-1) + (f3 * (-1) + (f4 * (-1) + (f5 * (-1) + f6 * 6))))) = 0 ∧ f0 * (-1) + (f1 * (-1) + (f2 * (-1) + (f3 * (-1) + (f4 * (-1) + (f5 * 6 + f6 * (-1)))))) = 0 ∧ f0 * (-1) + (f1 * (-1) + (f2 * (-1) + (f3 * (-1) + (f4 * 6 + (f5 * (-1) + f6 * (-1)))))) = 0 ∧ f0 * (-1) + (f1 * (-1) + (f2 * (-1) + (f3 * 6 + (f4 * (-1) + (f5 * (-1) + f6 * (-1)))))) = 0 ∧ f0 * (-1) + (f1 * (-1) + (f2 * 6 + (f3 * (-1) + (f4 * (-1) + (f5 * (-1) + f6 * (-1)))))) = 0 := by
  have hu : ([1, 2, 3, 4, 5, 6] : List Nat).all (fun a => decide (0 < a) && decide (Nat.gcd a 7 = 1)) = true := by decide +kernel
  have hb : ([0, 1, 2, 3, 4, 5, 6] : List Nat).all (fun b => chkB t7 [1, 2, 3, 4, 5, 6] 7 b) = true := by decide +kernel
  have hc : ([0, 1, 2, 3, 4, 5] : List Nat).all (fun e => (List.range 7).all (fun i => ([0, 1, 2, 3, 4, 5, 6] : List Nat).any fun b => decide ((e + i) % 7 = b % 7))) = true := by decide +kernel
  have q0 : f0 * 6 + (f1 * (-1) + (f2 * (-1) + (f3 * (-1) + (f4 * (-1) + (f5 * (-1) + f6 * (-1)))))) = 0 := keeps hp hd (by decide) hf nz hu 0 (chk_of hb (List.all_eq_true.mp hc 0 (by decide)))
  have q1 : f0 * (-1) + (f1 * (-1) + (f2 * (-1) + (f3 * (-1) + (f4 * (-1) + (f5 * (-1) + f6 * 6))))) = 0 := keeps hp hd (by decide) hf nz hu 1 (chk_of hb (List.all_eq_true.mp hc 1 (by decide)))
  have q2 : f0 * (-1) + (f1 * (-1) + (f2 * (-1) + (f3 * (-1) + (f4 * (-1) + (f5 * 6 + f6 * (-1)))))) = 0 := keeps hp hd (by decide) hf nz hu 2 (chk_of hb (List.all_eq_true.mp hc 2 (by decide)))
  have q3 : f0 * (-1) + (f1 * (-1) + (f2 * (-1) + (f3 * (-1) + (f4 * 6 + (f5 * (-1) + f6 * (-1)))))) = 0 := keeps hp hd (by decide) hf nz hu 3 (chk_of hb (List.all_eq_true.mp hc 3 (by decide)))
  have q4 : f0 * (-1) + (f1 * (-1) + (f2 * (-1) + (f3 * 6 + (f4 * (-1) + (f5 * (-1) + f6 * (-1)))))) = 0 := keeps hp hd (by decide) hf nz hu 4 (chk_of hb (List.all_eq_true.mp hc 4 (by decide)))
  have q5 : f0 * (-1) + (f1 * (-1) + (f2 * 6 + (f3 * (-1) + (f4 * (-1) + (f5 * (-1) + f6 * (-1)))))) = 0 := keeps hp hd (by decide) hf nz hu 5 (chk_of hb (List.all_eq_true.mp hc 5 (by decide)))
  exact ⟨q0, q1, q2, q3, q4, q5⟩
theorem has8 {p k : Nat} {s : Se} {f0 f1 f2 f3 f4 f5 f6 : Int} (hp : ∀ k, s (k + p) = s k) (hd : 8 ∣ p) (hf : ∀ k, ops 1 [f0, f1, f2, f3, f4, f5, f6] s k = 0) (nz : part t8 8 p s k ≠ 0) : f0 * 4 + (f1 * 0 + (f2 * 0 + (f3 * 0 + (f4 * (-4) + (f5 * 0 + f6 * 0))))) = 0 ∧ f0 * 0 + (f1 * 0 + (f2 * 0 + (f3 * (-4) + (f4 * 0 + (f5 * 0 + f6 * 0))))) = 0 ∧ f0 * 0 + (f1 * 0 + (f2 * (-4) + (f3 * 0 + (f4 * 0 + (f5 * 0 + f6 * 4))))) = 0 ∧ f0 * 0 + (f1 * (-4) + (f2 * 0 + (f3 * 0 + (f4 * 0 + (f5 * 4 + f6 * 0))))) = 0 := by
  have hu : ([1, 3, 5, 7] : List Nat).all (fun a => decide (0 < a) && decide (Nat.gcd a 8 = 1)) = true := by decide +kernel
  have hb : ([0, 1, 2, 3, 4, 5, 6, 7] : List Nat).all (fun b => chkB t8 [1, 3, 5, 7] 8 b) = true := by decide +kernel
  have hc : ([0, 1, 2, 3] : List Nat).all (fun e => (List.range 7).all (fun i => ([0, 1, 2, 3, 4, 5, 6, 7] : List Nat).any fun b => decide ((e + i) % 8 = b % 8))) = true := by decide +kernel
  have q0 : f0 * 4 + (f1 * 0 + (f2 * 0 + (f3 * 0 + (f4 * (-4) + (f5 * 0 + f6 * 0))))) = 0 := keeps hp hd (by decide) hf nz hu 0 (chk_of hb (List.all_eq_true.mp hc 0 (by decide)))
  have q1 : f0 * 0 + (f1 * 0 + (f2 * 0 + (f3 * (-4) + (f4 * 0 + (f5 * 0 + f6 * 0))))) = 0 := keeps hp hd (by decide) hf nz hu 1 (chk_of hb (List.all_eq_true.mp hc 1 (by decide)))
  have q2 : f0 * 0 + (f1 * 0 + (f2 * (-4) + (f3 * 0 + (f4 * 0 + (f5 * 0 + f6 * 4))))) = 0 := keeps hp hd (by decide) hf nz hu 2 (chk_of hb (List.all_eq_true.mp hc 2 (by decide)))
  have q3 : f0 * 0 + (f1 * (-4) + (f2 * 0 + (f3 * 0 + (f4 * 0 + (f5 * 4 + f6 * 0))))) = 0 := keeps hp hd (by decide) hf nz hu 3 (chk_of hb (List.all_eq_true.mp hc 3 (by decide)))
  exact ⟨q0, q1, q2, q3⟩
theorem has9 {p k : Nat} {s : Se} {f0 f1 f2 f3 f4 f5 f6 : Int} (hp : ∀ k, s (k + p) = s k) (hd : 9 ∣ p) (hf : ∀ k, ops 1 [f0, f1, f2, f3, f4, f5, f6] s k = 0) (nz : part t9 9 p s k ≠ 0) : f0 * 6 + (f1 * 0 + (f2 * 0 + (f3 * (-3) + (f4 * 0 + (f5 * 0 + f6 * (-3)))))) = 0 ∧ f0 * 0 + (f1 * 0 + (f2 * (-3) + (f3 * 0 + (f4 * 0 + (f5 * (-3) + f6 * 0))))) = 0 ∧ f0 * 0 + (f1 * (-3) + (f2 * 0 + (f3 * 0 + (f4 * (-3) + (f5 * 0 + f6 * 0))))) = 0 ∧ f0 * (-3) + (f1 * 0 + (f2 * 0 + (f3 * (-3) + (f4 * 0 + (f5 * 0 + f6 * 6))))) = 0 ∧ f0 * 0 + (f1 * 0 + (f2 * (-3) + (f3 * 0 + (f4 * 0 + (f5 * 6 + f6 * 0))))) = 0 ∧ f0 * 0 + (f1 * (-3) + (f2 * 0 + (f3 * 0 + (f4 * 6 + (f5 * 0 + f6 * 0))))) = 0 := by
  have hu : ([1, 2, 4, 5, 7, 8] : List Nat).all (fun a => decide (0 < a) && decide (Nat.gcd a 9 = 1)) = true := by decide +kernel
  have hb : ([0, 1, 2, 3, 4, 5, 6, 7, 8] : List Nat).all (fun b => chkB t9 [1, 2, 4, 5, 7, 8] 9 b) = true := by decide +kernel
  have hc : ([0, 1, 2, 3, 4, 5] : List Nat).all (fun e => (List.range 7).all (fun i => ([0, 1, 2, 3, 4, 5, 6, 7, 8] : List Nat).any fun b => decide ((e + i) % 9 = b % 9))) = true := by decide +kernel
  have q0 : f0 * 6 + (f1 * 0 + (f2 * 0 + (f3 * (-3) + (f4 * 0 + (f5 * 0 + f6 * (-3)))))) = 0 := keeps hp hd (by decide) hf nz hu 0 (chk_of hb (List.all_eq_true.mp hc 0 (by decide)))
  have q1 : f0 * 0 + (f1 * 0 + (f2 * (-3) + (f3 * 0 + (f4 * 0 + (f5 * (-3) + f6 * 0))))) = 0 := keeps hp hd (by decide) hf nz hu 1 (chk_of hb (List.all_eq_true.mp hc 1 (by decide)))
  have q2 : f0 * 0 + (f1 * (-3) + (f2 * 0 + (f3 * 0 + (f4 * (-3) + (f5 * 0 + f6 * 0))))) = 0 := keeps hp hd (by decide) hf nz hu 2 (chk_of hb (List.all_eq_true.mp hc 2 (by decide)))
  have q3 : f0 * (-3) + (f1 * 0 + (f2 * 0 + (f3 * (-3) + (f4 * 0 + (f5 * 0 + f6 * 6))))) = 0 := keeps hp hd (by decide) hf nz hu 3 (chk_of hb (List.all_eq_true.mp hc 3 (by decide)))
  have q4 : f0 * 0 + (f1 * 0 + (f2 * (-3) + (f3 * 0 + (f4 * 0 + (f5 * 6 + f6 * 0))))) = 0 := keeps hp hd (by decide) hf nz hu 4 (chk_of hb (List.all_eq_true.mp hc 4 (by decide)))
  have q5 : f0 * 0 + (f1 * (-3) + (f2 * 0 + (f3 * 0 + (f4 * 6 + (f5 * 0 + f6 * 0))))) = 0 := keeps hp hd (by decide) hf nz hu 5 (chk_of hb (List.all_eq_true.mp hc 5 (by decide)))
  exact ⟨q0, q1, q2, q3, q4, q5⟩
theorem has10 {p k : Nat} {s : Se} {f0 f1 f2 f3 f4 f5 f6 : Int} (hp : ∀ k, s (k + p) = s k) (hd : 10 ∣ p) (hf : ∀ k, ops 1 [f0, f1, f2, f3, f4, f5, f6] s k = 0) (nz : part t10 10 p s k ≠ 0) : f0 * 4 + (f1 * 1 + (f2 * (-1) + (f3 * 1 + (f4 * (-1) + (f5 * (-4) + f6 * (-1)))))) = 0 ∧ f0 * 1 + (f1 * (-1) + (f2 * 1 + (f3 * (-1) + (f4 * (-4) + (f5 * (-1) + f6 * 1))))) = 0 ∧ f0 * (-1) + (f1 * 1 + (f2 * (-1) + (f3 * (-4) + (f4 * (-1) + (f5 * 1 + f6 * (-1)))))) = 0 ∧ f0 * 1 + (f1 * (-1) + (f2 * (-4) + (f3 * (-1) + (f4 * 1 + (f5 * (-1) + f6 * 1))))) = 0 := by
  have hu : ([1, 3, 7, 9] : List Nat).all (fun a => decide (0 < a) && decide (Nat.gcd a 10 = 1)) = true := by decide +kernel
  have hb : ([0, 1, 2, 3, 4, 5, 6, 7, 8, 9] : List Nat).all (fun b => chkB t10 [1, 3, 7, 9] 10 b) = true := by decide +kernel
  have hc : ([0, 1, 2, 3] : List Nat).all (fun e => (List.range 7).all (fun i => ([0, 1, 2, 3, 4, 5, 6, 7, 8, 9] : List Nat).any fun b => decide ((e + i) % 10 = b % 10))) = true := by decide +kernel
  have q0 : f0 * 4 + (f1 * 1 + (f2 * (-1) + (f3 * 1 + (f4 * (-1) + (f5 * (-4) + f6 * (-1)))))) = 0 := keeps hp hd (by decide) hf nz hu 0 (chk_of hb (List.all_eq_true.mp hc 0 (by decide)))
  have q1 : f0 * 1 + (f1 * (-1) + (f2 * 1 + (f3 * (-1) + (f4 * (-4) + (f5 * (-1) + f6 * 1))))) = 0 := keeps hp hd (by decide) hf nz hu 1 (chk_of hb (List.all_eq_true.mp hc 1 (by decide)))
  have q2 : f0 * (-1) + (f1 * 1 + (f2 * (-1) + (f3 * (-4) + (f4 * (-1) + (f5 * 1 + f6 * (-1)))))) = 0 := keeps hp hd (by decide) hf nz hu 2 (chk_of hb (List.all_eq_true.mp hc 2 (by decide)))
  have q3 : f0 * 1 + (f1 * (-1) + (f2 * (-4) + (f3 * (-1) + (f4 * 1 + (f5 * (-1) + f6 * 1))))) = 0 := keeps hp hd (by decide) hf nz hu 3 (chk_of hb (List.all_eq_true.mp hc 3 (by decide)))
  exact ⟨q0, q1, q2, q3⟩
theorem has12 {p k : Nat} {s : Se} {f0 f1 f2 f3 f4 f5 f6 : Int} (hp : ∀ k, s (k + p) = s k) (hd : 12 ∣ p) (hf : ∀ k, ops 1 [f0, f1, f2, f3, f4, f5, f6] s k = 0) (nz : part t12 12 p s k ≠ 0) : f0 * 4 + (f1 * 0 + (f2 * 2 + (f3 * 0 + (f4 * (-2) + (f5 * 0 + f6 * (-4)))))) = 0 ∧ f0 * 0 + (f1 * 2 + (f2 * 0 + (f3 * (-2) + (f4 * 0 + (f5 * (-4) + f6 * 0))))) = 0 ∧ f0 * 2 + (f1 * 0 + (f2 * (-2) + (f3 * 0 + (f4 * (-4) + (f5 * 0 + f6 * (-2)))))) = 0 ∧ f0 * 0 + (f1 * (-2) + (f2 * 0 + (f3 * (-4) + (f4 * 0 + (f5 * (-2) + f6 * 0))))) = 0 := by
  have hu : ([1, 5, 7, 11] : List Nat).all (fun a => decide (0 < a) && decide (Nat.gcd a 12 = 1)) = true := by decide +kernel
  have hb : ([0, 1, 2, 3, 4, 5, 6, 7, 8, 9] : List Nat).all (fun b => chkB t12 [1, 5, 7, 11] 12 b) = true := by decide +kernel
  have hc : ([0, 1, 2, 3] : List Nat).all (fun e => (List.range 7).all (fun i => ([0, 1, 2, 3, 4, 5, 6, 7, 8, 9] : List Nat).any fun b => decide ((e + i) % 12 = b % 12))) = true := by decide +kernel
  have q0 : f0 * 4 + (f1 * 0 + (f2 * 2 + (f3 * 0 + (f4 * (-2) + (f5 * 0 + f6 * (-4)))))) = 0 := keeps hp hd (by decide) hf nz hu 0 (chk_of hb (List.all_eq_true.mp hc 0 (by decide)))
  have q1 : f0 * 0 + (f1 * 2 + (f2 * 0 + (f3 * (-2) + (f4 * 0 + (f5 * (-4) + f6 * 0))))) = 0 := keeps hp hd (by decide) hf nz hu 1 (chk_of hb (List.all_eq_true.mp hc 1 (by decide)))
  have q2 : f0 * 2 + (f1 * 0 + (f2 * (-2) + (f3 * 0 + (f4 * (-4) + (f5 * 0 + f6 * (-2)))))) = 0 := keeps hp hd (by decide) hf nz hu 2 (chk_of hb (List.all_eq_true.mp hc 2 (by decide)))
  have q3 : f0 * 0 + (f1 * (-2) + (f2 * 0 + (f3 * (-4) + (f4 * 0 + (f5 * (-2) + f6 * 0))))) = 0 := keeps hp hd (by decide) hf nz hu 3 (chk_of hb (List.all_eq_true.mp hc 3 (by decide)))
  exact ⟨q0, q1, q2, q3⟩
theorem has14 {p k : Nat} {s : Se} {f0 f1 f2 f3 f4 f5 f6 : Int} (hp : ∀ k, s (k + p) = s k) (hd : 14 ∣ p) (hf : ∀ k, ops 1 [f0, f1, f2, f3, f4, f5, f6] s k = 0) (nz : part t14 14 p s k ≠ 0) : f0 * 6 + (f1 * 1 + (f2 * (-1) + (f3 * 1 + (f4 * (-1) + (f5 * 1 + f6 * (-1)))))) = 0 ∧ f0 * 1 + (f1 * (-1) + (f2 * 1 + (f3 * (-1) + (f4 * 1 + (f5 * (-1) + f6 * (-6)))))) = 0 ∧ f0 * (-1) + (f1 * 1 + (f2 * (-1) + (f3 * 1 + (f4 * (-1) + (f5 * (-6) + f6 * (-1)))))) = 0 ∧ f0 * 1 + (f1 * (-1) + (f2 * 1 + (f3 * (-1) + (f4 * (-6) + (f5 * (-1) + f6 * 1))))) = 0 ∧ f0 * (-1) + (f1 * 1 + (f2 * (-1) + (f3 * (-6) + (f4 * (-1) + (f5 * 1 + f6 * (-1)))))) = 0 ∧ f0 * 1 + (f1 * (-1) + (f2 * (-6) + (f3 * (-1) + (f4 * 1 + (f5 * (-1) + f6 * 1))))) = 0 := by
  have hu : ([1, 3, 5, 9, 11, 13] : List Nat).all (fun a => decide (0 < a) && decide (Nat.gcd a 14 = 1)) = true := by decide +kernel
  have hb : ([0, 1, 2, 3, 4, 5, 6, 7, 8, 9, 10, 11] : List Nat).all (fun b => chkB t14 [1, 3, 5, 9, 11, 13] 14 b) = true := by decide +kernel
  have hc : ([0, 1, 2, 3, 4, 5] : List Nat).all (fun e => (List.range 7).all (fun i => ([0, 1, 2, 3, 4, 5, 6, 7, 8, 9, 10, 11] : List Nat).any fun b => decide ((e + i) % 14 = b % 14))) = true := by decide +kernel
  have q0 : f0 * 6 + (f1 * 1 + (f2 * (-1) + (f3 * 1 + (f4 * (-1) + (f5 * 1 + f6 * (-1)))))) = 0 := keeps hp hd (by decide) hf nz hu 0 (chk_of hb (List.all_eq_true.mp hc 0 (by decide)))
  have q1 : f0 * 1 + (f1 * (-1) + (f2 * 1 + (f3 * (-1) + (f4 * 1 + (f5 * (-1) + f6 * (-6)))))) = 0 := keeps hp hd (by decide) hf nz hu 1 (chk_of hb (List.all_eq_true.mp hc 1 (by decide)))
  have q2 : f0 * (-1) + (f1 * 1 + (f2 * (-1) + (f3 * 1 + (f4 * (-1) + (f5 * (-6) + f6 * (-1)))))) = 0 := keeps hp hd (by decide) hf nz hu 2 (chk_of hb (List.all_eq_true.mp hc 2 (by decide)))
  have q3 : f0 * 1 + (f1 * (-1) + (f2 * 1 + (f3 * (-1) + (f4 * (-6) + (f5 * (-1) + f6 * 1))))) = 0 := keeps hp hd (by decide) hf nz hu 3 (chk_of hb (List.all_eq_true.mp hc 3 (by decide)))
  have q4 : f0 * (-1) + (f1 * 1 + (f2 * (-1) + (f3 * (-6) + (f4 * (-1) + (f5 * 1 + f6 * (-1)))))) = 0 := keeps hp hd (by decide) hf nz hu 4 (chk_of hb (List.all_eq_true.mp hc 4 (by decide)))
  have q5 : f0 * 1 + (f1 * (-1) + (f2 * (-6) + (f3 * (-1) + (f4 * 1 + (f5 * (-1) + f6 * 1))))) = 0 := keeps hp hd (by decide) hf nz hu 5 (chk_of hb (List.all_eq_true.mp hc 5 (by decide)))
  exact ⟨q0, q1, q2, q3, q4, q5⟩
theorem has15 {p k : Nat} {s : Se} {f0 f1 f2 f3 f4 f5 f6 : Int} (hp : ∀ k, s (k + p) = s k) (hd : 15 ∣ p) (hf : ∀ k, ops 1 [f0, f1, f2, f3, f4, f5, f6] s k = 0) (nz : part t15 15 p s k ≠ 0) : f0 = 0 ∧ f1 = 0 ∧ f2 = 0 ∧ f3 = 0 ∧ f4 = 0 ∧ f5 = 0 ∧ f6 = 0 := by
  have hu : ([1, 2, 4, 7, 8, 11, 13, 14] : List Nat).all (fun a => decide (0 < a) && decide (Nat.gcd a 15 = 1)) = true := by decide +kernel
  have hb : ([0, 1, 2, 3, 4, 5, 6, 7, 8, 9, 10, 11, 12] : List Nat).all (fun b => chkB t15 [1, 2, 4, 7, 8, 11, 13, 14] 15 b) = true := by decide +kernel
  have hc : ([0, 1, 2, 3, 4, 5, 6] : List Nat).all (fun e => (List.range 7).all (fun i => ([0, 1, 2, 3, 4, 5, 6, 7, 8, 9, 10, 11, 12] : List Nat).any fun b => decide ((e + i) % 15 = b % 15))) = true := by decide +kernel
  have q0 : f0 * 8 + (f1 * 1 + (f2 * 1 + (f3 * (-2) + (f4 * 1 + (f5 * (-4) + f6 * (-2)))))) = 0 := keeps hp hd (by decide) hf nz hu 0 (chk_of hb (List.all_eq_true.mp hc 0 (by decide)))
  have q1 : f0 * 1 + (f1 * 1 + (f2 * (-2) + (f3 * 1 + (f4 * (-4) + (f5 * (-2) + f6 * 1))))) = 0 := keeps hp hd (by decide) hf nz hu 1 (chk_of hb (List.all_eq_true.mp hc 1 (by decide)))
  have q2 : f0 * 1 + (f1 * (-2) + (f2 * 1 + (f3 * (-4) + (f4 * (-2) + (f5 * 1 + f6 * 1))))) = 0 := keeps hp hd (by decide) hf nz hu 2 (chk_of hb (List.all_eq_true.mp hc 2 (by decide)))
  have q3 : f0 * (-2) + (f1 * 1 + (f2 * (-4) + (f3 * (-2) + (f4 * 1 + (f5 * 1 + f6 * (-2)))))) = 0 := keeps hp hd (by decide) hf nz hu 3 (chk_of hb (List.all_eq_true.mp hc 3 (by decide)))
  have q4 : f0 * 1 + (f1 * (-4) + (f2 * (-2) + (f3 * 1 + (f4 * 1 + (f5 * (-2) + f6 * (-4)))))) = 0 := keeps hp hd (by decide) hf nz hu 4 (chk_of hb (List.all_eq_true.mp hc 4 (by decide)))
  have q5 : f0 * (-4) + (f1 * (-2) + (f2 * 1 + (f3 * 1 + (f4 * (-2) + (f5 * (-4) + f6 * 1))))) = 0 := keeps hp hd (by decide) hf nz hu 5 (chk_of hb (List.all_eq_true.mp hc 5 (by decide)))
  have q6 : f0 * (-2) + (f1 * 1 + (f2 * 1 + (f3 * (-2) + (f4 * (-4) + (f5 * 1 + f6 * (-2)))))) = 0 := keeps hp hd (by decide) hf nz hu 6 (chk_of hb (List.all_eq_true.mp hc 6 (by decide)))
  exact solve (D := 30) [1, 2, 1, -2, 1, -3, -1] [2, 0, -4, 2, -4, 0, 2] [1, -4, -1, -4, -1, 1, 3] [-2, 2, -4, -4, 2, -2, 0] [1, -4, -1, 2, -1, 1, -3] [-3, 0, 1, -2, 1, -5, 1] [-1, 2, 3, 0, -3, 1, -5] (all_cons (dot7 q0) (all_cons (dot7 q1) (all_cons (dot7 q2) (all_cons (dot7 q3) (all_cons (dot7 q4) (all_cons (dot7 q5) (all_cons (dot7 q6) all_nil))))))) (by decide) (by decide +kernel)
theorem has16 {p k : Nat} {s : Se} {f0 f1 f2 f3 f4 f5 f6 : Int} (hp : ∀ k, s (k + p) = s k) (hd : 16 ∣ p) (hf : ∀ k, ops 1 [f0, f1, f2, f3, f4, f5, f6] s k = 0) (nz : part t16 16 p s k ≠ 0) : f0 = 0 ∧ f1 = 0 ∧ f2 = 0 ∧ f3 = 0 ∧ f4 = 0 ∧ f5 = 0 ∧ f6 = 0 := by
  have hu : ([1, 3, 5, 7, 9, 11, 13, 15] : List Nat).all (fun a => decide (0 < a) && decide (Nat.gcd a 16 = 1)) = true := by decide +kernel
  have hb : ([0, 1, 2, 3, 4, 5, 6, 7, 8, 9, 10, 11, 12, 13] : List Nat).all (fun b => chkB t16 [1, 3, 5, 7, 9, 11, 13, 15] 16 b) = true := by decide +kernel
  have hc : ([0, 2, 3, 4, 5, 6, 7] : List Nat).all (fun e => (List.range 7).all (fun i => ([0, 1, 2, 3, 4, 5, 6, 7, 8, 9, 10, 11, 12, 13] : List Nat).any fun b => decide ((e + i) % 16 = b % 16))) = true := by decide +kernel
  have q0 : f0 * 8 + (f1 * 0 + (f2 * 0 + (f3 * 0 + (f4 * 0 + (f5 * 0 + f6 * 0))))) = 0 := keeps hp hd (by decide) hf nz hu 0 (chk_of hb (List.all_eq_true.mp hc 0 (by decide)))
  have q1 : f0 * 0 + (f1 * 0 + (f2 * 0 + (f3 * 0 + (f4 * 0 + (f5 * 0 + f6 * (-8)))))) = 0 := keeps hp hd (by decide) hf nz hu 2 (chk_of hb (List.all_eq_true.mp hc 2 (by decide)))
  have q2 : f0 * 0 + (f1 * 0 + (f2 * 0 + (f3 * 0 + (f4 * 0 + (f5 * (-8) + f6 * 0))))) = 0 := keeps hp hd (by decide) hf nz hu 3 (chk_of hb (List.all_eq_true.mp hc 3 (by decide)))
  have q3 : f0 * 0 + (f1 * 0 + (f2 * 0 + (f3 * 0 + (f4 * (-8) + (f5 * 0 + f6 * 0))))) = 0 := keeps hp hd (by decide) hf nz hu 4 (chk_of hb (List.all_eq_true.mp hc 4 (by decide)))
  have q4 : f0 * 0 + (f1 * 0 + (f2 * 0 + (f3 * (-8) + (f4 * 0 + (f5 * 0 + f6 * 0))))) = 0 := keeps hp hd (by decide) hf nz hu 5 (chk_of hb (List.all_eq_true.mp hc 5 (by decide)))
  have q5 : f0 * 0 + (f1 * 0 + (f2 * (-8) + (f3 * 0 + (f4 * 0 + (f5 * 0 + f6 * 0))))) = 0 := keeps hp hd (by decide) hf nz hu 6 (chk_of hb (List.all_eq_true.mp hc 6 (by decide)))
  have q6 : f0 * 0 + (f1 * (-8) + (f2 * 0 + (f3 * 0 + (f4 * 0 + (f5 * 0 + f6 * 0))))) = 0 := keeps hp hd (by decide) hf nz hu 7 (chk_of hb (List.all_eq_true.mp hc 7 (by decide)))
  exact solve (D := 8) [1, 0, 0, 0, 0, 0, 0] [0, 0, 0, 0, 0, 0, -1] [0, 0, 0, 0, 0, -1, 0] [0, 0, 0, 0, -1, 0, 0] [0, 0, 0, -1, 0, 0, 0] [0, 0, -1, 0, 0, 0, 0] [0, -1, 0, 0, 0, 0, 0] (all_cons (dot7 q0) (all_cons (dot7 q1) (all_cons (dot7 q2) (all_cons (dot7 q3) (all_cons (dot7 q4) (all_cons (dot7 q5) (all_cons (dot7 q6) all_nil))))))) (by decide) (by decide +kernel)
theorem has18 {p k : Nat} {s : Se} {f0 f1 f2 f3 f4 f5 f6 : Int} (hp : ∀ k, s (k + p) = s k) (hd : 18 ∣ p) (hf : ∀ k, ops 1 [f0, f1, f2, f3, f4, f5, f6] s k = 0) (nz : part t18 18 p s k ≠ 0) : f0 * 6 + (f1 * 0 + (f2 * 0 + (f3 * 3 + (f4 * 0 + (f5 * 0 + f6 * (-3)))))) = 0 ∧ f0 * 0 + (f1 * 0 + (f2 * 3 + (f3 * 0 + (f4 * 0 + (f5 * (-3) + f6 * 0))))) = 0 ∧ f0 * 0 + (f1 * 3 + (f2 * 0 + (f3 * 0 + (f4 * (-3) + (f5 * 0 + f6 * 0))))) = 0 ∧ f0 * 3 + (f1 * 0 + (f2 * 0 + (f3 * (-3) + (f4 * 0 + (f5 * 0 + f6 * (-6)))))) = 0 ∧ f0 * 0 + (f1 * 0 + (f2 * (-3) + (f3 * 0 + (f4 * 0 + (f5 * (-6) + f6 * 0))))) = 0 ∧ f0 * 0 + (f1 * (-3) + (f2 * 0 + (f3 * 0 + (f4 * (-6) + (f5 * 0 + f6 * 0))))) = 0 := by
  have hu : ([1, 5, 7, 11, 13, 17] : List Nat).all (fun a => decide (0 < a) && decide (Nat.gcd a 18 = 1)) = true := by decide +kernel
  have hb : ([0, 1, 2, 3, 4, 5, 6, 7, 8, 9, 10, 11] : List Nat).all (fun b => chkB t18 [1, 5, 7, 11, 13, 17] 18 b) = true := by decide +kernel
  have hc : ([0, 1, 2, 3, 4, 5] : List Nat).all (fun e => (List.range 7).all (fun i => ([0, 1, 2, 3, 4, 5, 6, 7, 8, 9, 10, 11] : List Nat).any fun b => decide ((e + i) % 18 = b % 18))) = true := by decide +kernel
  have q0 : f0 * 6 + (f1 * 0 + (f2 * 0 + (f3 * 3 + (f4 * 0 + (f5 * 0 + f6 * (-3)))))) = 0 := keeps hp hd (by decide) hf nz hu 0 (chk_of hb (List.all_eq_true.mp hc 0 (by decide)))
  have q1 : f0 * 0 + (f1 * 0 + (f2 * 3 + (f3 * 0 + (f4 * 0 + (f5 * (-3) + f6 * 0))))) = 0 := keeps hp hd (by decide) hf nz hu 1 (chk_of hb (List.all_eq_true.mp hc 1 (by decide)))
  have q2 : f0 * 0 + (f1 * 3 + (f2 * 0 + (f3 * 0 + (f4 * (-3) + (f5 * 0 + f6 * 0))))) = 0 := keeps hp hd (by decide) hf nz hu 2 (chk_of hb (List.all_eq_true.mp hc 2 (by decide)))
  have q3 : f0 * 3 + (f1 * 0 + (f2 * 0 + (f3 * (-3) + (f4 * 0 + (f5 * 0 + f6 * (-6)))))) = 0 := keeps hp hd (by decide) hf nz hu 3 (chk_of hb (List.all_eq_true.mp hc 3 (by decide)))
  have q4 : f0 * 0 + (f1 * 0 + (f2 * (-3) + (f3 * 0 + (f4 * 0 + (f5 * (-6) + f6 * 0))))) = 0 := keeps hp hd (by decide) hf nz hu 4 (chk_of hb (List.all_eq_true.mp hc 4 (by decide)))
  have q5 : f0 * 0 + (f1 * (-3) + (f2 * 0 + (f3 * 0 + (f4 * (-6) + (f5 * 0 + f6 * 0))))) = 0 := keeps hp hd (by decide) hf nz hu 5 (chk_of hb (List.all_eq_true.mp hc 5 (by decide)))
  exact ⟨q0, q1, q2, q3, q4, q5⟩
theorem has20 {p k : Nat} {s : Se} {f0 f1 f2 f3 f4 f5 f6 : Int} (hp : ∀ k, s (k + p) = s k) (hd : 20 ∣ p) (hf : ∀ k, ops 1 [f0, f1, f2, f3, f4, f5, f6] s k = 0) (nz : part t20 20 p s k ≠ 0) : f0 = 0 ∧ f1 = 0 ∧ f2 = 0 ∧ f3 = 0 ∧ f4 = 0 ∧ f5 = 0 ∧ f6 = 0 := by
  have hu : ([1, 3, 7, 9, 11, 13, 17, 19] : List Nat).all (fun a => decide (0 < a) && decide (Nat.gcd a 20 = 1)) = true := by decide +kernel
  have hb : ([0, 1, 2, 3, 4, 5, 6, 7, 8, 9, 10, 11, 12, 13] : List Nat).all (fun b => chkB t20 [1, 3, 7, 9, 11, 13, 17, 19] 20 b) = true := by decide +kernel
  have hc : ([0, 1, 2, 4, 5, 6, 7] : List Nat).all (fun e => (List.range 7).all (fun i => ([0, 1, 2, 3, 4, 5, 6, 7, 8, 9, 10, 11, 12, 13] : List Nat).any fun b => decide ((e + i) % 20 = b % 20))) = true := by decide +kernel
  have q0 : f0 * 8 + (f1 * 0 + (f2 * 2 + (f3 * 0 + (f4 * (-2) + (f5 * 0 + f6 * 2))))) = 0 := keeps hp hd (by decide) hf nz hu 0 (chk_of hb (List.all_eq_true.mp hc 0 (by decide)))
  have q1 : f0 * 0 + (f1 * 2 + (f2 * 0 + (f3 * (-2) + (f4 * 0 + (f5 * 2 + f6 * 0))))) = 0 := keeps hp hd (by decide) hf nz hu 1 (chk_of hb (List.all_eq_true.mp hc 1 (by decide)))
  have q2 : f0 * 2 + (f1 * 0 + (f2 * (-2) + (f3 * 0 + (f4 * 2 + (f5 * 0 + f6 * (-2)))))) = 0 := keeps hp hd (by decide) hf nz hu 2 (chk_of hb (List.all_eq_true.mp hc 2 (by decide)))
  have q3 : f0 * (-2) + (f1 * 0 + (f2 * 2 + (f3 * 0 + (f4 * (-2) + (f5 * 0 + f6 * (-8)))))) = 0 := keeps hp hd (by decide) hf nz hu 4 (chk_of hb (List.all_eq_true.mp hc 4 (by decide)))
  have q4 : f0 * 0 + (f1 * 2 + (f2 * 0 + (f3 * (-2) + (f4 * 0 + (f5 * (-8) + f6 * 0))))) = 0 := keeps hp hd (by decide) hf nz hu 5 (chk_of hb (List.all_eq_true.mp hc 5 (by decide)))
  have q5 : f0 * 2 + (f1 * 0 + (f2 * (-2) + (f3 * 0 + (f4 * (-8) + (f5 * 0 + f6 * (-2)))))) = 0 := keeps hp hd (by decide) hf nz hu 6 (chk_of hb (List.all_eq_true.mp hc 6 (by decide)))
  have q6 : f0 * 0 + (f1 * (-2) + (f2 * 0 + (f3 * (-8) + (f4 * 0 + (f5 * (-2) + f6 * 0))))) = 0 := keeps hp hd (by decide) hf nz hu 7 (chk_of hb (List.all_eq_true.mp hc 7 (by decide)))
  exact solve (D := 10) [1, 0, 1, 0, 0, 0, 0] [0, 3, 0, 0, 1, 0, -1] [1, 0, -2, 1, 0, -1, 0] [0, -1, 0, 0, 0, 0, -1] [0, 0, 1, 0, 0, -1, 0] [0, 1, 0, 0, -1, 0, 0] [0, 0, -1, -1, 0, 0, 0] (all_cons (dot7 q0) (all_cons (dot7 q1) (all_cons (dot7 q2) (all_cons (dot7 q3) (all_cons (dot7 q4) (all_cons (dot7 q5) (all_cons (dot7 q6) all_nil))))))) (by decide) (by decide +kernel)
theorem has21 {p k : Nat} {s : Se} {f0 f1 f2 f3 f4 f5 f6 : Int} (hp : ∀ k, s (k + p) = s k) (hd : 21 ∣ p) (hf : ∀ k, ops 1 [f0, f1, f2, f3, f4, f5, f6] s k = 0) (nz : part t21 21 p s k ≠ 0) : f0 = 0 ∧ f1 = 0 ∧ f2 = 0 ∧ f3 = 0 ∧ f4 = 0 ∧ f5 = 0 ∧ f6 = 0 := by
  have hu : ([1, 2, 4, 5, 8, 10, 11, 13, 16, 17, 19, 20] : List Nat).all (fun a => decide (0 < a) && decide (Nat.gcd a 21 = 1)) = true := by decide +kernel
  have hb : ([0, 1, 2, 3, 4, 5, 6, 7, 8, 9, 10, 11, 12] : List Nat).all (fun b => chkB t21 [1, 2, 4, 5, 8, 10, 11, 13, 16, 17, 19, 20] 21 b) = true := by decide +kernel
  have hc : ([0, 1, 2, 3, 4, 5, 6] : List Nat).all (fun e => (List.range 7).all (fun i => ([0, 1, 2, 3, 4, 5, 6, 7, 8, 9, 10, 11, 12] : List Nat).any fun b => decide ((e + i) % 21 = b % 21))) = true := by decide +kernel
  have q0 : f0 * 12 + (f1 * 1 + (f2 * 1 + (f3 * (-2) + (f4 * 1 + (f5 * 1 + f6 * (-2)))))) = 0 := keeps hp hd (by decide) hf nz hu 0 (chk_of hb (List.all_eq_true.mp hc 0 (by decide)))
  have q1 : f0 * 1 + (f1 * 1 + (f2 * (-2) + (f3 * 1 + (f4 * 1 + (f5 * (-2) + f6 * (-6)))))) = 0 := keeps hp hd (by decide) hf nz hu 1 (chk_of hb (List.all_eq_true.mp hc 1 (by decide)))
  have q2 : f0 * 1 + (f1 * (-2) + (f2 * 1 + (f3 * 1 + (f4 * (-2) + (f5 * (-6) + f6 * 1))))) = 0 := keeps hp hd (by decide) hf nz hu 2 (chk_of hb (List.all_eq_true.mp hc 2 (by decide)))
  have q3 : f0 * (-2) + (f1 * 1 + (f2 * 1 + (f3 * (-2) + (f4 * (-6) + (f5 * 1 + f6 * (-2)))))) = 0 := keeps hp hd (by decide) hf nz hu 3 (chk_of hb (List.all_eq_true.mp hc 3 (by decide)))
  have q4 : f0 * 1 + (f1 * 1 + (f2 * (-2) + (f3 * (-6) + (f4 * 1 + (f5 * (-2) + f6 * 1))))) = 0 := keeps hp hd (by decide) hf nz hu 4 (chk_of hb (List.all_eq_true.mp hc 4 (by decide)))
  have q5 : f0 * 1 + (f1 * (-2) + (f2 * (-6) + (f3 * 1 + (f4 * (-2) + (f5 * 1 + f6 * 1))))) = 0 := keeps hp hd (by decide) hf nz hu 5 (chk_of hb (List.all_eq_true.mp hc 5 (by decide)))
  have q6 : f0 * (-2) + (f1 * (-6) + (f2 * 1 + (f3 * (-2) + (f4 * 1 + (f5 * 1 + f6 * (-2)))))) = 0 := keeps hp hd (by decide) hf nz hu 6 (chk_of hb (List.all_eq_true.mp hc 6 (by decide)))
  exact solve (D := 546) [43, -8, 13, -5, -8, 13, -5] [-8, 16, -26, 10, 16, -26, -68] [13, -26, 13, 13, -26, -65, 13] [-5, 10, 13, -23, -68, 13, -23] [-8, 16, -26, -68, 16, -26, 10] [13, -26, -65, 13, -26, 13, 13] [-5, -68, 13, -23, 10, 13, -23] (all_cons (dot7 q0) (all_cons (dot7 q1) (all_cons (dot7 q2) (all_cons (dot7 q3) (all_cons (dot7 q4) (all_cons (dot7 q5) (all_cons (dot7 q6) all_nil))))))) (by decide) (by decide +kernel)
theorem has25 {p k : Nat} {s : Se} {f0 f1 f2 f3 f4 f5 f6 : Int} (hp : ∀ k, s (k + p) = s k) (hd : 25 ∣ p) (hf : ∀ k, ops 1 [f0, f1, f2, f3, f4, f5, f6] s k = 0) (nz : part t25 25 p s k ≠ 0) : f0 = 0 ∧ f1 = 0 ∧ f2 = 0 ∧ f3 = 0 ∧ f4 = 0 ∧ f5 = 0 ∧ f6 = 0 := by
  have hu : ([1, 2, 3, 4, 6, 7, 8, 9, 11, 12, 13, 14, 16, 17, 18, 19, 21, 22, 23, 24] : List Nat).all (fun a => decide (0 < a) && decide (Nat.gcd a 25 = 1)) = true := by decide +kernel
  have hb : ([0, 1, 2, 3, 4, 5, 6, 7, 8, 9, 10, 11, 19, 20, 21, 22, 23, 24] : List Nat).all (fun b => chkB t25 [1, 2, 3, 4, 6, 7, 8, 9, 11, 12, 13, 14, 16, 17, 18, 19, 21, 22, 23, 24] 25 b) = true := by decide +kernel
  have hc : ([0, 1, 2, 3, 4, 5, 19] : List Nat).all (fun e => (List.range 7).all (fun i => ([0, 1, 2, 3, 4, 5, 6, 7, 8, 9, 10, 11, 19, 20, 21, 22, 23, 24] : List Nat).any fun b => decide ((e + i) % 25 = b % 25))) = true := by decide +kernel
  have q0 : f0 * 20 + (f1 * 0 + (f2 * 0 + (f3 * 0 + (f4 * 0 + (f5 * (-5) + f6 * 0))))) = 0 := keeps hp hd (by decide) hf nz hu 0 (chk_of hb (List.all_eq_true.mp hc 0 (by decide)))
  have q1 : f0 * 0 + (f1 * 0 + (f2 * 0 + (f3 * 0 + (f4 * (-5) + (f5 * 0 + f6 * 0))))) = 0 := keeps hp hd (by decide) hf nz hu 1 (chk_of hb (List.all_eq_true.mp hc 1 (by decide)))
  have q2 : f0 * 0 + (f1 * 0 + (f2 * 0 + (f3 * (-5) + (f4 * 0 + (f5 * 0 + f6 * 0))))) = 0 := keeps hp hd (by decide) hf nz hu 2 (chk_of hb (List.all_eq_true.mp hc 2 (by decide)))
  have q3 : f0 * 0 + (f1 * 0 + (f2 * (-5) + (f3 * 0 + (f4 * 0 + (f5 * 0 + f6 * 0))))) = 0 := keeps hp hd (by decide) hf nz hu 3 (chk_of hb (List.all_eq_true.mp hc 3 (by decide)))
  have q4 : f0 * 0 + (f1 * (-5) + (f2 * 0 + (f3 * 0 + (f4 * 0 + (f5 * 0 + f6 * (-5)))))) = 0 := keeps hp hd (by decide) hf nz hu 4 (chk_of hb (List.all_eq_true.mp hc 4 (by decide)))
  have q5 : f0 * (-5) + (f1 * 0 + (f2 * 0 + (f3 * 0 + (f4 * 0 + (f5 * (-5) + f6 * 0))))) = 0 := keeps hp hd (by decide) hf nz hu 5 (chk_of hb (List.all_eq_true.mp hc 5 (by decide)))
  have q6 : f0 * 0 + (f1 * (-5) + (f2 * 0 + (f3 * 0 + (f4 * 0 + (f5 * 0 + f6 * 20))))) = 0 := keeps hp hd (by decide) hf nz hu 19 (chk_of hb (List.all_eq_true.mp hc 19 (by decide)))
  exact solve (D := 25) [1, 0, 0, 0, 0, -1, 0] [0, 0, 0, 0, -4, 0, -1] [0, 0, 0, -5, 0, 0, 0] [0, 0, -5, 0, 0, 0, 0] [0, -5, 0, 0, 0, 0, 0] [-1, 0, 0, 0, 0, -4, 0] [0, 0, 0, 0, -1, 0, 1] (all_cons (dot7 q0) (all_cons (dot7 q1) (all_cons (dot7 q2) (all_cons (dot7 q3) (all_cons (dot7 q4) (all_cons (dot7 q5) (all_cons (dot7 q6) all_nil))))))) (by decide) (by decide +kernel)
theorem has27 {p k : Nat} {s : Se} {f0 f1 f2 f3 f4 f5 f6 : Int} (hp : ∀ k, s (k + p) = s k) (hd : 27 ∣ p) (hf : ∀ k, ops 1 [f0, f1, f2, f3, f4, f5, f6] s k = 0) (nz : part t27 27 p s k ≠ 0) : f0 = 0 ∧ f1 = 0 ∧ f2 = 0 ∧ f3 = 0 ∧ f4 = 0 ∧ f5 = 0 ∧ f6 = 0 := by
  have hu : ([1, 2, 4, 5, 7, 8, 10, 11, 13, 14, 16, 17, 19, 20, 22, 23, 25, 26] : List Nat).all (fun a => decide (0 < a) && decide (Nat.gcd a 27 = 1)) = true := by decide +kernel
  have hb : ([0, 1, 2, 3, 4, 5, 6, 7, 8, 9, 10, 11, 12, 13, 26] : List Nat).all (fun b => chkB t27 [1, 2, 4, 5, 7, 8, 10, 11, 13, 14, 16, 17, 19, 20, 22, 23, 25, 26] 27 b) = true := by decide +kernel
  have hc : ([0, 3, 4, 5, 6, 7, 26] : List Nat).all (fun e => (List.range 7).all (fun i => ([0, 1, 2, 3, 4, 5, 6, 7, 8, 9, 10, 11, 12, 13, 26] : List Nat).any fun b => decide ((e + i) % 27 = b % 27))) = true := by decide +kernel
  have q0 : f0 * 18 + (f1 * 0 + (f2 * 0 + (f3 * 0 + (f4 * 0 + (f5 * 0 + f6 * 0))))) = 0 := keeps hp hd (by decide) hf nz hu 0 (chk_of hb (List.all_eq_true.mp hc 0 (by decide)))
  have q1 : f0 * 0 + (f1 * 0 + (f2 * 0 + (f3 * 0 + (f4 * 0 + (f5 * 0 + f6 * (-9)))))) = 0 := keeps hp hd (by decide) hf nz hu 3 (chk_of hb (List.all_eq_true.mp hc 3 (by decide)))
  have q2 : f0 * 0 + (f1 * 0 + (f2 * 0 + (f3 * 0 + (f4 * 0 + (f5 * (-9) + f6 * 0))))) = 0 := keeps hp hd (by decide) hf nz hu 4 (chk_of hb (List.all_eq_true.mp hc 4 (by decide)))
  have q3 : f0 * 0 + (f1 * 0 + (f2 * 0 + (f3 * 0 + (f4 * (-9) + (f5 * 0 + f6 * 0))))) = 0 := keeps hp hd (by decide) hf nz hu 5 (chk_of hb (List.all_eq_true.mp hc 5 (by decide)))
  have q4 : f0 * 0 + (f1 * 0 + (f2 * 0 + (f3 * (-9) + (f4 * 0 + (f5 * 0 + f6 * 0))))) = 0 := keeps hp hd (by decide) hf nz hu 6 (chk_of hb (List.all_eq_true.mp hc 6 (by decide)))
  have q5 : f0 * 0 + (f1 * 0 + (f2 * (-9) + (f3 * 0 + (f4 * 0 + (f5 * 0 + f6 * 0))))) = 0 := keeps hp hd (by decide) hf nz hu 7 (chk_of hb (List.all_eq_true.mp hc 7 (by decide)))
  have q6 : f0 * 0 + (f1 * 18 + (f2 * 0 + (f3 * 0 + (f4 * 0 + (f5 * 0 + f6 * 0))))) = 0 := keeps hp hd (by decide) hf nz hu 26 (chk_of hb (List.all_eq_true.mp hc 26 (by decide)))
  exact solve (D := 18) [1, 0, 0, 0, 0, 0, 0] [0, 0, 0, 0, 0, 0, 1] [0, 0, 0, 0, 0, -2, 0] [0, 0, 0, 0, -2, 0, 0] [0, 0, 0, -2, 0, 0, 0] [0, 0, -2, 0, 0, 0, 0] [0, -2, 0, 0, 0, 0, 0] (all_cons (dot7 q0) (all_cons (dot7 q1) (all_cons (dot7 q2) (all_cons (dot7 q3) (all_cons (dot7 q4) (all_cons (dot7 q5) (all_cons (dot7 q6) all_nil))))))) (by decide) (by decide +kernel)
theorem has28 {p k : Nat} {s : Se} {f0 f1 f2 f3 f4 f5 f6 : Int} (hp : ∀ k, s (k + p) = s k) (hd : 28 ∣ p) (hf : ∀ k, ops 1 [f0, f1, f2, f3, f4, f5, f6] s k = 0) (nz : part t28 28 p s k ≠ 0) : f0 = 0 ∧ f1 = 0 ∧ f2 = 0 ∧ f3 = 0 ∧ f4 = 0 ∧ f5 = 0 ∧ f6 = 0 := by
  have hu : ([1, 3, 5, 9, 11, 13, 15, 17, 19, 23, 25, 27] : List Nat).all (fun a => decide (0 < a) && decide (Nat.gcd a 28 = 1)) = true := by decide +kernel
  have hb : ([0, 1, 2, 3, 4, 5, 6, 7, 8, 22, 23, 24, 25, 26, 27] : List Nat).all (fun b => chkB t28 [1, 3, 5, 9, 11, 13, 15, 17, 19, 23, 25, 27] 28 b) = true := by decide +kernel
  have hc : ([0, 1, 2, 22, 23, 24, 25] : List Nat).all (fun e => (List.range 7).all (fun i => ([0, 1, 2, 3, 4, 5, 6, 7, 8, 22, 23, 24, 25, 26, 27] : List Nat).any fun b => decide ((e + i) % 28 = b % 28))) = true := by decide +kernel
  have q0 : f0 * 12 + (f1 * 0 + (f2 * 2 + (f3 * 0 + (f4 * (-2) + (f5 * 0 + f6 * 2))))) = 0 := keeps hp hd (by decide) hf nz hu 0 (chk_of hb (List.all_eq_true.mp hc 0 (by decide)))
  have q1 : f0 * 0 + (f1 * 2 + (f2 * 0 + (f3 * (-2) + (f4 * 0 + (f5 * 2 + f6 * 0))))) = 0 := keeps hp hd (by decide) hf nz hu 1 (chk_of hb (List.all_eq_true.mp hc 1 (by decide)))
  have q2 : f0 * 2 + (f1 * 0 + (f2 * (-2) + (f3 * 0 + (f4 * 2 + (f5 * 0 + f6 * (-2)))))) = 0 := keeps hp hd (by decide) hf nz hu 2 (chk_of hb (List.all_eq_true.mp hc 2 (by decide)))
  have q3 : f0 * 2 + (f1 * 0 + (f2 * (-2) + (f3 * 0 + (f4 * 2 + (f5 * 0 + f6 * 12))))) = 0 := keeps hp hd (by decide) hf nz hu 22 (chk_of hb (List.all_eq_true.mp hc 22 (by decide)))
  have q4 : f0 * 0 + (f1 * (-2) + (f2 * 0 + (f3 * 2 + (f4 * 0 + (f5 * 12 + f6 * 0))))) = 0 := keeps hp hd (by decide) hf nz hu 23 (chk_of hb (List.all_eq_true.mp hc 23 (by decide)))
  have q5 : f0 * (-2) + (f1 * 0 + (f2 * 2 + (f3 * 0 + (f4 * 12 + (f5 * 0 + f6 * 2))))) = 0 := keeps hp hd (by decide) hf nz hu 24 (chk_of hb (List.all_eq_true.mp hc 24 (by decide)))
  have q6 : f0 * 0 + (f1 * 2 + (f2 * 0 + (f3 * 12 + (f4 * 0 + (f5 * 2 + f6 * 0))))) = 0 := keeps hp hd (by decide) hf nz hu 25 (chk_of hb (List.all_eq_true.mp hc 25 (by decide)))
  exact solve (D := 14) [1, 0, 1, 0, 0, 0, 0] [0, 5, 0, 0, -1, 0, 1] [1, 0, -4, -1, 0, 1, 0] [0, -1, 0, 0, 0, 0, 1] [0, 0, 1, 0, 0, 1, 0] [0, 1, 0, 0, 1, 0, 0] [0, 0, -1, 1, 0, 0, 0] (all_cons (dot7 q0) (all_cons (dot7 q1) (all_cons (dot7 q2) (all_cons (dot7 q3) (all_cons (dot7 q4) (all_cons (dot7 q5) (all_cons (dot7 q6) all_nil))))))) (by decide) (by decide +kernel)
theorem has30 {p k : Nat} {s : Se} {f0 f1 f2 f3 f4 f5 f6 : Int} (hp : ∀ k, s (k + p) = s k) (hd : 30 ∣ p) (hf : ∀ k, ops 1 [f0, f1, f2, f3, f4, f5, f6] s k = 0) (nz : part t30 30 p s k ≠ 0) : f0 = 0 ∧ f1 = 0 ∧ f2 = 0 ∧ f3 = 0 ∧ f4 = 0 ∧ f5 = 0 ∧ f6 = 0 := by
  have hu : ([1, 7, 11, 13, 17, 19, 23, 29] : List Nat).all (fun a => decide (0 < a) && decide (Nat.gcd a 30 = 1)) = true := by decide +kernel
  have hb : ([0, 1, 2, 3, 4, 5, 6, 7, 8, 9, 10, 11, 12] : List Nat).all (fun b => chkB t30 [1, 7, 11, 13, 17, 19, 23, 29] 30 b) = true := by decide +kernel
  have hc : ([0, 1, 2, 3, 4, 5, 6] : List Nat).all (fun e => (List.range 7).all (fun i => ([0, 1, 2, 3, 4, 5, 6, 7, 8, 9, 10, 11, 12] : List Nat).any fun b => decide ((e + i) % 30 = b % 30))) = true := by decide +kernel
  have q0 : f0 * 8 + (f1 * (-1) + (f2 * 1 + (f3 * 2 + (f4 * 1 + (f5 * 4 + f6 * (-2)))))) = 0 := keeps hp hd (by decide) hf nz hu 0 (chk_of hb (List.all_eq_true.mp hc 0 (by decide)))
  have q1 : f0 * (-1) + (f1 * 1 + (f2 * 2 + (f3 * 1 + (f4 * 4 + (f5 * (-2) + f6 * (-1)))))) = 0 := keeps hp hd (by decide) hf nz hu 1 (chk_of hb (List.all_eq_true.mp hc 1 (by decide)))
  have q2 : f0 * 1 + (f1 * 2 + (f2 * 1 + (f3 * 4 + (f4 * (-2) + (f5 * (-1) + f6 * 1))))) = 0 := keeps hp hd (by decide) hf nz hu 2 (chk_of hb (List.all_eq_true.mp hc 2 (by decide)))
  have q3 : f0 * 2 + (f1 * 1 + (f2 * 4 + (f3 * (-2) + (f4 * (-1) + (f5 * 1 + f6 * 2))))) = 0 := keeps hp hd (by decide) hf nz hu 3 (chk_of hb (List.all_eq_true.mp hc 3 (by decide)))
  have q4 : f0 * 1 + (f1 * 4 + (f2 * (-2) + (f3 * (-1) + (f4 * 1 + (f5 * 2 + f6 * (-4)))))) = 0 := keeps hp hd (by decide) hf nz hu 4 (chk_of hb (List.all_eq_true.mp hc 4 (by decide)))
  have q5 : f0 * 4 + (f1 * (-2) + (f2 * (-1) + (f3 * 1 + (f4 * 2 + (f5 * (-4) + f6 * (-1)))))) = 0 := keeps hp hd (by decide) hf nz hu 5 (chk_of hb (List.all_eq_true.mp hc 5 (by decide)))
  have q6 : f0 * (-2) + (f1 * (-1) + (f2 * 1 + (f3 * 2 + (f4 * (-4) + (f5 * (-1) + f6 * (-2)))))) = 0 := keeps hp hd (by decide) hf nz hu 6 (chk_of hb (List.all_eq_true.mp hc 6 (by decide)))
  exact solve (D := 30) [1, -2, 1, 2, 1, 3, -1] [-2, 0, 4, 2, 4, 0, -2] [1, 4, -1, 4, -1, -1, 3] [2, 2, 4, -4, -2, -2, 0] [1, 4, -1, -2, -1, -1, -3] [3, 0, -1, -2, -1, -5, -1] [-1, -2, 3, 0, -3, -1, -5] (all_cons (dot7 q0) (all_cons (dot7 q1) (all_cons (dot7 q2) (all_cons (dot7 q3) (all_cons (dot7 q4) (all_cons (dot7 q5) (all_cons (dot7 q6) all_nil))))))) (by decide) (by decide +kernel)
theorem has35 {p k : Nat} {s : Se} {f0 f1 f2 f3 f4 f5 f6 : Int} (hp : ∀ k, s (k + p) = s k) (hd : 35 ∣ p) (hf : ∀ k, ops 1 [f0, f1, f2, f3, f4, f5, f6] s k = 0) (nz : part t35 35 p s k ≠ 0) : f0 = 0 ∧ f1 = 0 ∧ f2 = 0 ∧ f3 = 0 ∧ f4 = 0 ∧ f5 = 0 ∧ f6 = 0 := by
  have hu : ([1, 2, 3, 4, 6, 8, 9, 11, 12, 13, 16, 17, 18, 19, 22, 23, 24, 26, 27, 29, 31, 32, 33, 34] : List Nat).all (fun a => decide (0 < a) && decide (Nat.gcd a 35 = 1)) = true := by decide +kernel
  have hb : ([0, 1, 2, 3, 4, 5, 6, 7, 8, 9, 10, 11, 12] : List Nat).all (fun b => chkB t35 [1, 2, 3, 4, 6, 8, 9, 11, 12, 13, 16, 17, 18, 19, 22, 23, 24, 26, 27, 29, 31, 32, 33, 34] 35 b) = true := by decide +kernel
  have hc : ([0, 1, 2, 3, 4, 5, 6] : List Nat).all (fun e => (List.range 7).all (fun i => ([0, 1, 2, 3, 4, 5, 6, 7, 8, 9, 10, 11, 12] : List Nat).any fun b => decide ((e + i) % 35 = b % 35))) = true := by decide +kernel
  have q0 : f0 * 24 + (f1 * 1 + (f2 * 1 + (f3 * 1 + (f4 * 1 + (f5 * (-4) + f6 * 1))))) = 0 := keeps hp hd (by decide) hf nz hu 0 (chk_of hb (List.all_eq_true.mp hc 0 (by decide)))
  have q1 : f0 * 1 + (f1 * 1 + (f2 * 1 + (f3 * 1 + (f4 * (-4) + (f5 * 1 + f6 * (-6)))))) = 0 := keeps hp hd (by decide) hf nz hu 1 (chk_of hb (List.all_eq_true.mp hc 1 (by decide)))
  have q2 : f0 * 1 + (f1 * 1 + (f2 * 1 + (f3 * (-4) + (f4 * 1 + (f5 * (-6) + f6 * 1))))) = 0 := keeps hp hd (by decide) hf nz hu 2 (chk_of hb (List.all_eq_true.mp hc 2 (by decide)))
  have q3 : f0 * 1 + (f1 * 1 + (f2 * (-4) + (f3 * 1 + (f4 * (-6) + (f5 * 1 + f6 * 1))))) = 0 := keeps hp hd (by decide) hf nz hu 3 (chk_of hb (List.all_eq_true.mp hc 3 (by decide)))
  have q4 : f0 * 1 + (f1 * (-4) + (f2 * 1 + (f3 * (-6) + (f4 * 1 + (f5 * 1 + f6 * (-4)))))) = 0 := keeps hp hd (by decide) hf nz hu 4 (chk_of hb (List.all_eq_true.mp hc 4 (by decide)))
  have q5 : f0 * (-4) + (f1 * 1 + (f2 * (-6) + (f3 * 1 + (f4 * 1 + (f5 * (-4) + f6 * 1))))) = 0 := keeps hp hd (by decide) hf nz hu 5 (chk_of hb (List.all_eq_true.mp hc 5 (by decide)))
  have q6 : f0 * 1 + (f1 * (-6) + (f2 * 1 + (f3 * 1 + (f4 * (-4) + (f5 * 1 + f6 * 1))))) = 0 := keeps hp hd (by decide) hf nz hu 6 (chk_of hb (List.all_eq_true.mp hc 6 (by decide)))
  exact solve (D := 44030) [1783, -372, -842, 733, 803, -322, -372] [-372, 508, 1488, 2888, -1942, -2942, -5782] [-842, 1488, 3368, -2932, -3212, -5002, 1488] [733, 2888, -2932, -4507, -4577, 2838, 2888] [803, -1942, -3212, -4577, 1233, 2208, -1942] [-322, -2942, -5002, 2838, 2208, -3392, -2942] [-372, -5782, 1488, 2888, -1942, -2942, 508] (all_cons (dot7 q0) (all_cons (dot7 q1) (all_cons (dot7 q2) (all_cons (dot7 q3) (all_cons (dot7 q4) (all_cons (dot7 q5) (all_cons (dot7 q6) all_nil))))))) (by decide) (by decide +kernel)
theorem has36 {p k : Nat} {s : Se} {f0 f1 f2 f3 f4 f5 f6 : Int} (hp : ∀ k, s (k + p) = s k) (hd : 36 ∣ p) (hf : ∀ k, ops 1 [f0, f1, f2, f3, f4, f5, f6] s k = 0) (nz : part t36 36 p s k ≠ 0) : f0 = 0 ∧ f1 = 0 ∧ f2 = 0 ∧ f3 = 0 ∧ f4 = 0 ∧ f5 = 0 ∧ f6 = 0 := by
  have hu : ([1, 5, 7, 11, 13, 17, 19, 23, 25, 29, 31, 35] : List Nat).all (fun a => decide (0 < a) && decide (Nat.gcd a 36 = 1)) = true := by decide +kernel
  have hb : ([0, 1, 2, 3, 4, 5, 6, 7, 8, 9, 10, 11, 12] : List Nat).all (fun b => chkB t36 [1, 5, 7, 11, 13, 17, 19, 23, 25, 29, 31, 35] 36 b) = true := by decide +kernel
  have hc : ([0, 1, 2, 3, 4, 5, 6] : List Nat).all (fun e => (List.range 7).all (fun i => ([0, 1, 2, 3, 4, 5, 6, 7, 8, 9, 10, 11, 12] : List Nat).any fun b => decide ((e + i) % 36 = b % 36))) = true := by decide +kernel
  have q0 : f0 * 12 + (f1 * 0 + (f2 * 0 + (f3 * 0 + (f4 * 0 + (f5 * 0 + f6 * 6))))) = 0 := keeps hp hd (by decide) hf nz hu 0 (chk_of hb (List.all_eq_true.mp hc 0 (by decide)))
  have q1 : f0 * 0 + (f1 * 0 + (f2 * 0 + (f3 * 0 + (f4 * 0 + (f5 * 6 + f6 * 0))))) = 0 := keeps hp hd (by decide) hf nz hu 1 (chk_of hb (List.all_eq_true.mp hc 1 (by decide)))
  have q2 : f0 * 0 + (f1 * 0 + (f2 * 0 + (f3 * 0 + (f4 * 6 + (f5 * 0 + f6 * 0))))) = 0 := keeps hp hd (by decide) hf nz hu 2 (chk_of hb (List.all_eq_true.mp hc 2 (by decide)))
  have q3 : f0 * 0 + (f1 * 0 + (f2 * 0 + (f3 * 6 + (f4 * 0 + (f5 * 0 + f6 * 0))))) = 0 := keeps hp hd (by decide) hf nz hu 3 (chk_of hb (List.all_eq_true.mp hc 3 (by decide)))
  have q4 : f0 * 0 + (f1 * 0 + (f2 * 6 + (f3 * 0 + (f4 * 0 + (f5 * 0 + f6 * 0))))) = 0 := keeps hp hd (by decide) hf nz hu 4 (chk_of hb (List.all_eq_true.mp hc 4 (by decide)))
  have q5 : f0 * 0 + (f1 * 6 + (f2 * 0 + (f3 * 0 + (f4 * 0 + (f5 * 0 + f6 * 0))))) = 0 := keeps hp hd (by decide) hf nz hu 5 (chk_of hb (List.all_eq_true.mp hc 5 (by decide)))
  have q6 : f0 * 6 + (f1 * 0 + (f2 * 0 + (f3 * 0 + (f4 * 0 + (f5 * 0 + f6 * (-6)))))) = 0 := keeps hp hd (by decide) hf nz hu 6 (chk_of hb (List.all_eq_true.mp hc 6 (by decide)))
  exact solve (D := 18) [1, 0, 0, 0, 0, 0, 1] [0, 0, 0, 0, 0, 3, 0] [0, 0, 0, 0, 3, 0, 0] [0, 0, 0, 3, 0, 0, 0] [0, 0, 3, 0, 0, 0, 0] [0, 3, 0, 0, 0, 0, 0] [1, 0, 0, 0, 0, 0, -2] (all_cons (dot7 q0) (all_cons (dot7 q1) (all_cons (dot7 q2) (all_cons (dot7 q3) (all_cons (dot7 q4) (all_cons (dot7 q5) (all_cons (dot7 q6) all_nil))))))) (by decide) (by decide +kernel)
theorem has40 {p k : Nat} {s : Se} {f0 f1 f2 f3 f4 f5 f6 : Int} (hp : ∀ k, s (k + p) = s k) (hd : 40 ∣ p) (hf : ∀ k, ops 1 [f0, f1, f2, f3, f4, f5, f6] s k = 0) (nz : part t40 40 p s k ≠ 0) : f0 = 0 ∧ f1 = 0 ∧ f2 = 0 ∧ f3 = 0 ∧ f4 = 0 ∧ f5 = 0 ∧ f6 = 0 := by
  have hu : ([1, 3, 7, 9, 11, 13, 17, 19, 21, 23, 27, 29, 31, 33, 37, 39] : List Nat).all (fun a => decide (0 < a) && decide (Nat.gcd a 40 = 1)) = true := by decide +kernel
  have hb : ([0, 1, 2, 3, 4, 5, 6, 7, 8, 9, 10, 34, 35, 36, 37, 38, 39] : List Nat).all (fun b => chkB t40 [1, 3, 7, 9, 11, 13, 17, 19, 21, 23, 27, 29, 31, 33, 37, 39] 40 b) = true := by decide +kernel
  have hc : ([0, 1, 2, 3, 4, 34, 35] : List Nat).all (fun e => (List.range 7).all (fun i => ([0, 1, 2, 3, 4, 5, 6, 7, 8, 9, 10, 34, 35, 36, 37, 38, 39] : List Nat).any fun b => decide ((e + i) % 40 = b % 40))) = true := by decide +kernel
  have q0 : f0 * 16 + (f1 * 0 + (f2 * 0 + (f3 * 0 + (f4 * 4 + (f5 * 0 + f6 * 0))))) = 0 := keeps hp hd (by decide) hf nz hu 0 (chk_of hb (List.all_eq_true.mp hc 0 (by decide)))
  have q1 : f0 * 0 + (f1 * 0 + (f2 * 0 + (f3 * 4 + (f4 * 0 + (f5 * 0 + f6 * 0))))) = 0 := keeps hp hd (by decide) hf nz hu 1 (chk_of hb (List.all_eq_true.mp hc 1 (by decide)))
  have q2 : f0 * 0 + (f1 * 0 + (f2 * 4 + (f3 * 0 + (f4 * 0 + (f5 * 0 + f6 * (-4)))))) = 0 := keeps hp hd (by decide) hf nz hu 2 (chk_of hb (List.all_eq_true.mp hc 2 (by decide)))
  have q3 : f0 * 0 + (f1 * 4 + (f2 * 0 + (f3 * 0 + (f4 * 0 + (f5 * (-4) + f6 * 0))))) = 0 := keeps hp hd (by decide) hf nz hu 3 (chk_of hb (List.all_eq_true.mp hc 3 (by decide)))
  have q4 : f0 * 4 + (f1 * 0 + (f2 * 0 + (f3 * 0 + (f4 * (-4) + (f5 * 0 + f6 * 0))))) = 0 := keeps hp hd (by decide) hf nz hu 4 (chk_of hb (List.all_eq_true.mp hc 4 (by decide)))
  have q5 : f0 * 0 + (f1 * 0 + (f2 * 4 + (f3 * 0 + (f4 * 0 + (f5 * 0 + f6 * 16))))) = 0 := keeps hp hd (by decide) hf nz hu 34 (chk_of hb (List.all_eq_true.mp hc 34 (by decide)))
  have q6 : f0 * 0 + (f1 * 4 + (f2 * 0 + (f3 * 0 + (f4 * 0 + (f5 * 16 + f6 * 0))))) = 0 := keeps hp hd (by decide) hf nz hu 35 (chk_of hb (List.all_eq_true.mp hc 35 (by decide)))
  exact solve (D := 20) [1, 0, 0, 0, 1, 0, 0] [0, 0, 0, 4, 0, 0, 1] [0, 0, 4, 0, 0, 1, 0] [0, 5, 0, 0, 0, 0, 0] [1, 0, 0, 0, -4, 0, 0] [0, 0, 0, -1, 0, 0, 1] [0, 0, -1, 0, 0, 1, 0] (all_cons (dot7 q0) (all_cons (dot7 q1) (all_cons (dot7 q2) (all_cons (dot7 q3) (all_cons (dot7 q4) (all_cons (dot7 q5) (all_cons (dot7 q6) all_nil))))))) (by decide) (by decide +kernel)
theorem has45 {p k : Nat} {s : Se} {f0 f1 f2 f3 f4 f5 f6 : Int} (hp : ∀ k, s (k + p) = s k) (hd : 45 ∣ p) (hf : ∀ k, ops 1 [f0, f1, f2, f3, f4, f5, f6] s k = 0) (nz : part t45 45 p s k ≠ 0) : f0 = 0 ∧ f1 = 0 ∧ f2 = 0 ∧ f3 = 0 ∧ f4 = 0 ∧ f5 = 0 ∧ f6 = 0 := by
  have hu : ([1, 2, 4, 7, 8, 11, 13, 14, 16, 17, 19, 22, 23, 26, 28, 29, 31, 32, 34, 37, 38, 41, 43, 44] : List Nat).all (fun a => decide (0 < a) && decide (Nat.gcd a 45 = 1)) = true := by decide +kernel
  have hb : ([0, 1, 2, 3, 4, 5, 6, 7, 8, 9, 10, 11, 12] : List Nat).all (fun b => chkB t45 [1, 2, 4, 7, 8, 11, 13, 14, 16, 17, 19, 22, 23, 26, 28, 29, 31, 32, 34, 37, 38, 41, 43, 44] 45 b) = true := by decide +kernel
  have hc : ([0, 1, 2, 3, 4, 5, 6] : List Nat).all (fun e => (List.range 7).all (fun i => ([0, 1, 2, 3, 4, 5, 6, 7, 8, 9, 10, 11, 12] : List Nat).any fun b => decide ((e + i) % 45 = b % 45))) = true := by decide +kernel
  have q0 : f0 * 24 + (f1 * 0 + (f2 * 0 + (f3 * 3 + (f4 * 0 + (f5 * 0 + f6 * 3))))) = 0 := keeps hp hd (by decide) hf nz hu 0 (chk_of hb (List.all_eq_true.mp hc 0 (by decide)))
  have q1 : f0 * 0 + (f1 * 0 + (f2 * 3 + (f3 * 0 + (f4 * 0 + (f5 * 3 + f6 * 0))))) = 0 := keeps hp hd (by decide) hf nz hu 1 (chk_of hb (List.all_eq_true.mp hc 1 (by decide)))
  have q2 : f0 * 0 + (f1 * 3 + (f2 * 0 + (f3 * 0 + (f4 * 3 + (f5 * 0 + f6 * 0))))) = 0 := keeps hp hd (by decide) hf nz hu 2 (chk_of hb (List.all_eq_true.mp hc 2 (by decide)))
  have q3 : f0 * 3 + (f1 * 0 + (f2 * 0 + (f3 * 3 + (f4 * 0 + (f5 * 0 + f6 * (-6)))))) = 0 := keeps hp hd (by decide) hf nz hu 3 (chk_of hb (List.all_eq_true.mp hc 3 (by decide)))
  have q4 : f0 * 0 + (f1 * 0 + (f2 * 3 + (f3 * 0 + (f4 * 0 + (f5 * (-6) + f6 * 0))))) = 0 := keeps hp hd (by decide) hf nz hu 4 (chk_of hb (List.all_eq_true.mp hc 4 (by decide)))
  have q5 : f0 * 0 + (f1 * 3 + (f2 * 0 + (f3 * 0 + (f4 * (-6) + (f5 * 0 + f6 * 0))))) = 0 := keeps hp hd (by decide) hf nz hu 5 (chk_of hb (List.all_eq_true.mp hc 5 (by decide)))
  have q6 : f0 * 3 + (f1 * 0 + (f2 * 0 + (f3 * (-6) + (f4 * 0 + (f5 * 0 + f6 * 3))))) = 0 := keeps hp hd (by decide) hf nz hu 6 (chk_of hb (List.all_eq_true.mp hc 6 (by decide)))
  exact solve (D := 90) [3, 0, 0, 3, 0, 0, 3] [0, 0, 20, 0, 0, 10, 0] [0, 20, 0, 0, 10, 0, 0] [3, 0, 0, -7, 0, 0, -17] [0, 0, 10, 0, 0, -10, 0] [0, 10, 0, 0, -10, 0, 0] [3, 0, 0, -17, 0, 0, -7] (all_cons (dot7 q0) (all_cons (dot7 q1) (all_cons (dot7 q2) (all_cons (dot7 q3) (all_cons (dot7 q4) (all_cons (dot7 q5) (all_cons (dot7 q6) all_nil))))))) (by decide) (by decide +kernel)
theorem has49 {p k : Nat} {s : Se} {f0 f1 f2 f3 f4 f5 f6 : Int} (hp : ∀ k, s (k + p) = s k) (hd : 49 ∣ p) (hf : ∀ k, ops 1 [f0, f1, f2, f3, f4, f5, f6] s k = 0) (nz : part t49 49 p s k ≠ 0) : f0 = 0 ∧ f1 = 0 ∧ f2 = 0 ∧ f3 = 0 ∧ f4 = 0 ∧ f5 = 0 ∧ f6 = 0 := by
  have hu : ([1, 2, 3, 4, 5, 6, 8, 9, 10, 11, 12, 13, 15, 16, 17, 18, 19, 20, 22, 23, 24, 25, 26, 27, 29, 30, 31, 32, 33, 34, 36, 37, 38, 39, 40, 41, 43, 44, 45, 46, 47, 48] : List Nat).all (fun a => decide (0 < a) && decide (Nat.gcd a 49 = 1)) = true := by decide +kernel
  have hb : ([0, 1, 2, 3, 4, 5, 6, 7, 8, 9, 10, 11, 12] : List Nat).all (fun b => chkB t49 [1, 2, 3, 4, 5, 6, 8, 9, 10, 11, 12, 13, 15, 16, 17, 18, 19, 20, 22, 23, 24, 25, 26, 27, 29, 30, 31, 32, 33, 34, 36, 37, 38, 39, 40, 41, 43, 44, 45, 46, 47, 48] 49 b) = true := by decide +kernel
  have hc : ([0, 1, 2, 3, 4, 5, 6] : List Nat).all (fun e => (List.range 7).all (fun i => ([0, 1, 2, 3, 4, 5, 6, 7, 8, 9, 10, 11, 12] : List Nat).any fun b => decide ((e + i) % 49 = b % 49))) = true := by decide +kernel
  have q0 : f0 * 42 + (f1 * 0 + (f2 * 0 + (f3 * 0 + (f4 * 0 + (f5 * 0 + f6 * 0))))) = 0 := keeps hp hd (by decide) hf nz hu 0 (chk_of hb (List.all_eq_true.mp hc 0 (by decide)))
  have q1 : f0 * 0 + (f1 * 0 + (f2 * 0 + (f3 * 0 + (f4 * 0 + (f5 * 0 + f6 * (-7)))))) = 0 := keeps hp hd (by decide) hf nz hu 1 (chk_of hb (List.all_eq_true.mp hc 1 (by decide)))
  have q2 : f0 * 0 + (f1 * 0 + (f2 * 0 + (f3 * 0 + (f4 * 0 + (f5 * (-7) + f6 * 0))))) = 0 := keeps hp hd (by decide) hf nz hu 2 (chk_of hb (List.all_eq_true.mp hc 2 (by decide)))
  have q3 : f0 * 0 + (f1 * 0 + (f2 * 0 + (f3 * 0 + (f4 * (-7) + (f5 * 0 + f6 * 0))))) = 0 := keeps hp hd (by decide) hf nz hu 3 (chk_of hb (List.all_eq_true.mp hc 3 (by decide)))
  have q4 : f0 * 0 + (f1 * 0 + (f2 * 0 + (f3 * (-7) + (f4 * 0 + (f5 * 0 + f6 * 0))))) = 0 := keeps hp hd (by decide) hf nz hu 4 (chk_of hb (List.all_eq_true.mp hc 4 (by decide)))
  have q5 : f0 * 0 + (f1 * 0 + (f2 * (-7) + (f3 * 0 + (f4 * 0 + (f5 * 0 + f6 * 0))))) = 0 := keeps hp hd (by decide) hf nz hu 5 (chk_of hb (List.all_eq_true.mp hc 5 (by decide)))
  have q6 : f0 * 0 + (f1 * (-7) + (f2 * 0 + (f3 * 0 + (f4 * 0 + (f5 * 0 + f6 * 0))))) = 0 := keeps hp hd (by decide) hf nz hu 6 (chk_of hb (List.all_eq_true.mp hc 6 (by decide)))
  exact solve (D := 42) [1, 0, 0, 0, 0, 0, 0] [0, 0, 0, 0, 0, 0, -6] [0, 0, 0, 0, 0, -6, 0] [0, 0, 0, 0, -6, 0, 0] [0, 0, 0, -6, 0, 0, 0] [0, 0, -6, 0, 0, 0, 0] [0, -6, 0, 0, 0, 0, 0] (all_cons (dot7 q0) (all_cons (dot7 q1) (all_cons (dot7 q2) (all_cons (dot7 q3) (all_cons (dot7 q4) (all_cons (dot7 q5) (all_cons (dot7 q6) all_nil))))))) (by decide) (by decide +kernel)
theorem has60 {p k : Nat} {s : Se} {f0 f1 f2 f3 f4 f5 f6 : Int} (hp : ∀ k, s (k + p) = s k) (hd : 60 ∣ p) (hf : ∀ k, ops 1 [f0, f1, f2, f3, f4, f5, f6] s k = 0) (nz : part t60 60 p s k ≠ 0) : f0 = 0 ∧ f1 = 0 ∧ f2 = 0 ∧ f3 = 0 ∧ f4 = 0 ∧ f5 = 0 ∧ f6 = 0 := by
  have hu : ([1, 7, 11, 13, 17, 19, 23, 29, 31, 37, 41, 43, 47, 49, 53, 59] : List Nat).all (fun a => decide (0 < a) && decide (Nat.gcd a 60 = 1)) = true := by decide +kernel
  have hb : ([0, 1, 2, 3, 4, 5, 6, 7, 8, 9, 10, 11, 12] : List Nat).all (fun b => chkB t60 [1, 7, 11, 13, 17, 19, 23, 29, 31, 37, 41, 43, 47, 49, 53, 59] 60 b) = true := by decide +kernel
  have hc : ([0, 1, 2, 3, 4, 5, 6] : List Nat).all (fun e => (List.range 7).all (fun i => ([0, 1, 2, 3, 4, 5, 6, 7, 8, 9, 10, 11, 12] : List Nat).any fun b => decide ((e + i) % 60 = b % 60))) = true := by decide +kernel
  have q0 : f0 * 16 + (f1 * 0 + (f2 * (-2) + (f3 * 0 + (f4 * 2 + (f5 * 0 + f6 * 4))))) = 0 := keeps hp hd (by decide) hf nz hu 0 (chk_of hb (List.all_eq_true.mp hc 0 (by decide)))
  have q1 : f0 * 0 + (f1 * (-2) + (f2 * 0 + (f3 * 2 + (f4 * 0 + (f5 * 4 + f6 * 0))))) = 0 := keeps hp hd (by decide) hf nz hu 1 (chk_of hb (List.all_eq_true.mp hc 1 (by decide)))
  have q2 : f0 * (-2) + (f1 * 0 + (f2 * 2 + (f3 * 0 + (f4 * 4 + (f5 * 0 + f6 * 2))))) = 0 := keeps hp hd (by decide) hf nz hu 2 (chk_of hb (List.all_eq_true.mp hc 2 (by decide)))
  have q3 : f0 * 0 + (f1 * 2 + (f2 * 0 + (f3 * 4 + (f4 * 0 + (f5 * 2 + f6 * 0))))) = 0 := keeps hp hd (by decide) hf nz hu 3 (chk_of hb (List.all_eq_true.mp hc 3 (by decide)))
  have q4 : f0 * 2 + (f1 * 0 + (f2 * 4 + (f3 * 0 + (f4 * 2 + (f5 * 0 + f6 * 8))))) = 0 := keeps hp hd (by decide) hf nz hu 4 (chk_of hb (List.all_eq_true.mp hc 4 (by decide)))
  have q5 : f0 * 0 + (f1 * 4 + (f2 * 0 + (f3 * 2 + (f4 * 0 + (f5 * 8 + f6 * 0))))) = 0 := keeps hp hd (by decide) hf nz hu 5 (chk_of hb (List.all_eq_true.mp hc 5 (by decide)))
  have q6 : f0 * 4 + (f1 * 0 + (f2 * 2 + (f3 * 0 + (f4 * 8 + (f5 * 0 + f6 * (-4)))))) = 0 := keeps hp hd (by decide) hf nz hu 6 (chk_of hb (List.all_eq_true.mp hc 6 (by decide)))
  exact solve (D := 150) [3, 0, -24, 0, 9, 0, 9] [0, -35, 0, 10, 0, 15, 0] [-24, 0, -78, 0, 48, 0, 33] [0, 10, 0, 40, 0, -15, 0] [9, 0, 48, 0, -18, 0, -3] [0, 15, 0, -15, 0, 15, 0] [9, 0, 33, 0, -3, 0, -18] (all_cons (dot7 q0) (all_cons (dot7 q1) (all_cons (dot7 q2) (all_cons (dot7 q3) (all_cons (dot7 q4) (all_cons (dot7 q5) (all_cons (dot7 q6) all_nil))))))) (by decide) (by decide +kernel)
theorem comb3_7 {f0 f1 f2 f3 f4 f5 f6 : Int} (h3 : f0 * 2 + (f1 * (-1) + (f2 * (-1) + (f3 * 2 + (f4 * (-1) + (f5 * (-1) + f6 * 2))))) = 0 ∧ f0 * (-1) + (f1 * (-1) + (f2 * 2 + (f3 * (-1) + (f4 * (-1) + (f5 * 2 + f6 * (-1)))))) = 0) (h7 : f0 * 6 + (f1 * (-1) + (f2 * (-1) + (f3 * (-1) + (f4 * (-1) + (f5 * (-1) + f6 * (-1)))))) = 0 ∧ f0 * (-1) + (f1 * (-1) + (f2 * (-1) + (f3 * (-1) + (f4 * (-1) + (f5 * (-1) + f6 * 6))))) = 0 ∧ f0 * (-1) + (f1 * (-1) + (f2 * (-1) + (f3 * (-1) + (f4 * (-1) + (f5 * 6 + f6 * (-1)))))) = 0 ∧ f0 * (-1) + (f1 * (-1) + (f2 * (-1) + (f3 * (-1) + (f4 * 6 + (f5 * (-1) + f6 * (-1)))))) = 0 ∧ f0 * (-1) + (f1 * (-1) + (f2 * (-1) + (f3 * 6 + (f4 * (-1) + (f5 * (-1) + f6 * (-1)))))) = 0 ∧ f0 * (-1) + (f1 * (-1) + (f2 * 6 + (f3 * (-1) + (f4 * (-1) + (f5 * (-1) + f6 * (-1)))))) = 0) : f0 = 0 ∧ f1 = 0 ∧ f2 = 0 ∧ f3 = 0 ∧ f4 = 0 ∧ f5 = 0 ∧ f6 = 0 := by
  obtain ⟨q3_0, q3_1⟩ := h3
  obtain ⟨q7_0, q7_1, q7_2, q7_3, q7_4, q7_5⟩ := h7
  exact solve (D := 42) [21, 0, -3, -9, 0, 0, -9] [14, -14, -12, -12, 0, -6, -12] [28, 14, -12, -12, -6, 0, -12] [21, 0, -9, -9, 0, 0, -3] [21, 0, -9, -9, 0, 6, -9] [21, 0, -9, -9, 6, 0, -9] [21, 0, -9, -3, 0, 0, -9] (all_cons (dot7 q3_0) (all_cons (dot7 q3_1) (all_cons (dot7 q7_0) (all_cons (dot7 q7_1) (all_cons (dot7 q7_2) (all_cons (dot7 q7_3) (all_cons (dot7 q7_4) all_nil))))))) (by decide) (by decide +kernel)
theorem comb4_7 {f0 f1 f2 f3 f4 f5 f6 : Int} (h4 : f0 * 2 + (f1 * 0 + (f2 * (-2) + (f3 * 0 + (f4 * 2 + (f5 * 0 + f6 * (-2)))))) = 0 ∧ f0 * 0 + (f1 * (-2) + (f2 * 0 + (f3 * 2 + (f4 * 0 + (f5 * (-2) + f6 * 0))))) = 0) (h7 : f0 * 6 + (f1 * (-1) + (f2 * (-1) + (f3 * (-1) + (f4 * (-1) + (f5 * (-1) + f6 * (-1)))))) = 0 ∧ f0 * (-1) + (f1 * (-1) + (f2 * (-1) + (f3 * (-1) + (f4 * (-1) + (f5 * (-1) + f6 * 6))))) = 0 ∧ f0 * (-1) + (f1 * (-1) + (f2 * (-1) + (f3 * (-1) + (f4 * (-1) + (f5 * 6 + f6 * (-1)))))) = 0 ∧ f0 * (-1) + (f1 * (-1) + (f2 * (-1) + (f3 * (-1) + (f4 * 6 + (f5 * (-1) + f6 * (-1)))))) = 0 ∧ f0 * (-1) + (f1 * (-1) + (f2 * (-1) + (f3 * 6 + (f4 * (-1) + (f5 * (-1) + f6 * (-1)))))) = 0 ∧ f0 * (-1) + (f1 * (-1) + (f2 * 6 + (f3 * (-1) + (f4 * (-1) + (f5 * (-1) + f6 * (-1)))))) = 0) : f0 = 0 ∧ f1 = 0 ∧ f2 = 0 ∧ f3 = 0 ∧ f4 = 0 ∧ f5 = 0 ∧ f6 = 0 := by
  obtain ⟨q4_0, q4_1⟩ := h4
  obtain ⟨q7_0, q7_1, q7_2, q7_3, q7_4, q7_5⟩ := h7
  exact solve (D := 14) [-7, -7, 6, 0, 0, 4, 4] [0, -7, 0, 0, -2, 0, 2] [-14, -7, 6, -2, 0, 6, 4] [-7, -7, 4, 0, 0, 4, 6] [-7, -7, 4, 0, 0, 6, 4] [-7, -7, 4, 0, 2, 4, 4] [-7, -7, 4, 2, 0, 4, 4] (all_cons (dot7 q4_0) (all_cons (dot7 q4_1) (all_cons (dot7 q7_0) (all_cons (dot7 q7_1) (all_cons (dot7 q7_2) (all_cons (dot7 q7_3) (all_cons (dot7 q7_4) all_nil))))))) (by decide) (by decide +kernel)
theorem comb4_14 {f0 f1 f2 f3 f4 f5 f6 : Int} (h4 : f0 * 2 + (f1 * 0 + (f2 * (-2) + (f3 * 0 + (f4 * 2 + (f5 * 0 + f6 * (-2)))))) = 0 ∧ f0 * 0 + (f1 * (-2) + (f2 * 0 + (f3 * 2 + (f4 * 0 + (f5 * (-2) + f6 * 0))))) = 0) (h14 : f0 * 6 + (f1 * 1 + (f2 * (-1) + (f3 * 1 + (f4 * (-1) + (f5 * 1 + f6 * (-1)))))) = 0 ∧ f0 * 1 + (f1 * (-1) + (f2 * 1 + (f3 * (-1) + (f4 * 1 + (f5 * (-1) + f6 * (-6)))))) = 0 ∧ f0 * (-1) + (f1 * 1 + (f2 * (-1) + (f3 * 1 + (f4 * (-1) + (f5 * (-6) + f6 * (-1)))))) = 0 ∧ f0 * 1 + (f1 * (-1) + (f2 * 1 + (f3 * (-1) + (f4 * (-6) + (f5 * (-1) + f6 * 1))))) = 0 ∧ f0 * (-1) + (f1 * 1 + (f2 * (-1) + (f3 * (-6) + (f4 * (-1) + (f5 * 1 + f6 * (-1)))))) = 0 ∧ f0 * 1 + (f1 * (-1) + (f2 * (-6) + (f3 * (-1) + (f4 * 1 + (f5 * (-1) + f6 * 1))))) = 0) : f0 = 0 ∧ f1 = 0 ∧ f2 = 0 ∧ f3 = 0 ∧ f4 = 0 ∧ f5 = 0 ∧ f6 = 0 := by
  obtain ⟨q4_0, q4_1⟩ := h4
  obtain ⟨q14_0, q14_1, q14_2, q14_3, q14_4, q14_5⟩ := h14
  exact solve (D := 14) [-7, 7, 6, 0, 0, -4, 4] [0, -7, 0, 0, 2, 0, -2] [-14, 7, 6, 2, 0, -6, 4] [7, -7, -4, 0, 0, 4, -6] [-7, 7, 4, 0, 0, -6, 4] [7, -7, -4, 0, -2, 4, -4] [-7, 7, 4, -2, 0, -4, 4] (all_cons (dot7 q4_0) (all_cons (dot7 q4_1) (all_cons (dot7 q14_0) (all_cons (dot7 q14_1) (all_cons (dot7 q14_2) (all_cons (dot7 q14_3) (all_cons (dot7 q14_4) all_nil))))))) (by decide) (by decide +kernel)
theorem comb5_7 {f0 f1 f2 f3 f4 f5 f6 : Int} (h5 : f0 * 4 + (f1 * (-1) + (f2 * (-1) + (f3 * (-1) + (f4 * (-1) + (f5 * 4 + f6 * (-1)))))) = 0 ∧ f0 * (-1) + (f1 * (-1) + (f2 * (-1) + (f3 * (-1) + (f4 * 4 + (f5 * (-1) + f6 * (-1)))))) = 0 ∧ f0 * (-1) + (f1 * (-1) + (f2 * (-1) + (f3 * 4 + (f4 * (-1) + (f5 * (-1) + f6 * (-1)))))) = 0 ∧ f0 * (-1) + (f1 * (-1) + (f2 * 4 + (f3 * (-1) + (f4 * (-1) + (f5 * (-1) + f6 * (-1)))))) = 0) (h7 : f0 * 6 + (f1 * (-1) + (f2 * (-1) + (f3 * (-1) + (f4 * (-1) + (f5 * (-1) + f6 * (-1)))))) = 0 ∧ f0 * (-1) + (f1 * (-1) + (f2 * (-1) + (f3 * (-1) + (f4 * (-1) + (f5 * (-1) + f6 * 6))))) = 0 ∧ f0 * (-1) + (f1 * (-1) + (f2 * (-1) + (f3 * (-1) + (f4 * (-1) + (f5 * 6 + f6 * (-1)))))) = 0 ∧ f0 * (-1) + (f1 * (-1) + (f2 * (-1) + (f3 * (-1) + (f4 * 6 + (f5 * (-1) + f6 * (-1)))))) = 0 ∧ f0 * (-1) + (f1 * (-1) + (f2 * (-1) + (f3 * 6 + (f4 * (-1) + (f5 * (-1) + f6 * (-1)))))) = 0 ∧ f0 * (-1) + (f1 * (-1) + (f2 * 6 + (f3 * (-1) + (f4 * (-1) + (f5 * (-1) + f6 * (-1)))))) = 0) : f0 = 0 ∧ f1 = 0 ∧ f2 = 0 ∧ f3 = 0 ∧ f4 = 0 ∧ f5 = 0 ∧ f6 = 0 := by
  obtain ⟨q5_0, q5_1, q5_2, q5_3⟩ := h5
  obtain ⟨q7_0, q7_1, q7_2, q7_3, q7_4, q7_5⟩ := h7
  exact solve (D := 105) [35, 0, 0, 0, -10, 0, -25] [-7, -21, -21, -21, -10, -15, -10] [49, 0, 0, 21, -35, 0, -35] [49, 0, 21, 0, -35, 0, -35] [49, 21, 0, 0, -35, 0, -35] [35, 0, 0, 0, -25, 0, -10] [35, 0, 0, 0, -25, 15, -25] (all_cons (dot7 q5_0) (all_cons (dot7 q5_1) (all_cons (dot7 q5_2) (all_cons (dot7 q5_3) (all_cons (dot7 q7_0) (all_cons (dot7 q7_1) (all_cons (dot7 q7_2) all_nil))))))) (by decide) (by decide +kernel)
theorem comb4_9 {f0 f1 f2 f3 f4 f5 f6 : Int} (h4 : f0 * 2 + (f1 * 0 + (f2 * (-2) + (f3 * 0 + (f4 * 2 + (f5 * 0 + f6 * (-2)))))) = 0 ∧ f0 * 0 + (f1 * (-2) + (f2 * 0 + (f3 * 2 + (f4 * 0 + (f5 * (-2) + f6 * 0))))) = 0) (h9 : f0 * 6 + (f1 * 0 + (f2 * 0 + (f3 * (-3) + (f4 * 0 + (f5 * 0 + f6 * (-3)))))) = 0 ∧ f0 * 0 + (f1 * 0 + (f2 * (-3) + (f3 * 0 + (f4 * 0 + (f5 * (-3) + f6 * 0))))) = 0 ∧ f0 * 0 + (f1 * (-3) + (f2 * 0 + (f3 * 0 + (f4 * (-3) + (f5 * 0 + f6 * 0))))) = 0 ∧ f0 * (-3) + (f1 * 0 + (f2 * 0 + (f3 * (-3) + (f4 * 0 + (f5 * 0 + f6 * 6))))) = 0 ∧ f0 * 0 + (f1 * 0 + (f2 * (-3) + (f3 * 0 + (f4 * 0 + (f5 * 6 + f6 * 0))))) = 0 ∧ f0 * 0 + (f1 * (-3) + (f2 * 0 + (f3 * 0 + (f4 * 6 + (f5 * 0 + f6 * 0))))) = 0) : f0 = 0 ∧ f1 = 0 ∧ f2 = 0 ∧ f3 = 0 ∧ f4 = 0 ∧ f5 = 0 ∧ f6 = 0 := by
  obtain ⟨q4_0, q4_1⟩ := h4
  obtain ⟨q9_0, q9_1, q9_2, q9_3, q9_4, q9_5⟩ := h9
  exact solve (D := 18) [-9, 9, 6, 2, -6, 0, 4] [-9, 0, 2, 4, -6, -2, 2] [0, 0, 0, -4, 0, 0, -2] [-9, 9, 2, 2, -6, -2, 4] [9, 0, -2, -4, 0, 2, -2] [0, 0, 0, -2, 0, 0, 2] [-9, 9, 4, 2, -6, 2, 4] (all_cons (dot7 q4_0) (all_cons (dot7 q4_1) (all_cons (dot7 q9_0) (all_cons (dot7 q9_1) (all_cons (dot7 q9_2) (all_cons (dot7 q9_3) (all_cons (dot7 q9_4) all_nil))))))) (by decide) (by decide +kernel)
theorem comb4_18 {f0 f1 f2 f3 f4 f5 f6 : Int} (h4 : f0 * 2 + (f1 * 0 + (f2 * (-2) + (f3 * 0 + (f4 * 2 + (f5 * 0 + f6 * (-2)))))) = 0 ∧ f0 * 0 + (f1 * (-2) + (f2 * 0 + (f3 * 2 + (f4 * 0 + (f5 * (-2) + f6 * 0))))) = 0) (h18 : f0 * 6 + (f1 * 0 + (f2 * 0 + (f3 * 3 + (f4 * 0 + (f5 * 0 + f6 * (-3)))))) = 0 ∧ f0 * 0 + (f1 * 0 + (f2 * 3 + (f3 * 0 + (f4 * 0 + (f5 * (-3) + f6 * 0))))) = 0 ∧ f0 * 0 + (f1 * 3 + (f2 * 0 + (f3 * 0 + (f4 * (-3) + (f5 * 0 + f6 * 0))))) = 0 ∧ f0 * 3 + (f1 * 0 + (f2 * 0 + (f3 * (-3) + (f4 * 0 + (f5 * 0 + f6 * (-6)))))) = 0 ∧ f0 * 0 + (f1 * 0 + (f2 * (-3) + (f3 * 0 + (f4 * 0 + (f5 * (-6) + f6 * 0))))) = 0 ∧ f0 * 0 + (f1 * (-3) + (f2 * 0 + (f3 * 0 + (f4 * (-6) + (f5 * 0 + f6 * 0))))) = 0) : f0 = 0 ∧ f1 = 0 ∧ f2 = 0 ∧ f3 = 0 ∧ f4 = 0 ∧ f5 = 0 ∧ f6 = 0 := by
  obtain ⟨q4_0, q4_1⟩ := h4
  obtain ⟨q18_0, q18_1, q18_2, q18_3, q18_4, q18_5⟩ := h18
  exact solve (D := 18) [-9, -9, 6, -2, -6, 0, 4] [9, 0, -2, 4, 6, -2, -2] [0, 0, 0, 4, 0, 0, -2] [9, 9, -2, 2, 6, -2, -4] [9, 0, -2, 4, 0, -2, -2] [0, 0, 0, -2, 0, 0, -2] [-9, -9, 4, -2, -6, -2, 4] (all_cons (dot7 q4_0) (all_cons (dot7 q4_1) (all_cons (dot7 q18_0) (all_cons (dot7 q18_1) (all_cons (dot7 q18_2) (all_cons (dot7 q18_3) (all_cons (dot7 q18_4) all_nil))))))) (by decide) (by decide +kernel)
theorem comb9_12 {f0 f1 f2 f3 f4 f5 f6 : Int} (h9 : f0 * 6 + (f1 * 0 + (f2 * 0 + (f3 * (-3) + (f4 * 0 + (f5 * 0 + f6 * (-3)))))) = 0 ∧ f0 * 0 + (f1 * 0 + (f2 * (-3) + (f3 * 0 + (f4 * 0 + (f5 * (-3) + f6 * 0))))) = 0 ∧ f0 * 0 + (f1 * (-3) + (f2 * 0 + (f3 * 0 + (f4 * (-3) + (f5 * 0 + f6 * 0))))) = 0 ∧ f0 * (-3) + (f1 * 0 + (f2 * 0 + (f3 * (-3) + (f4 * 0 + (f5 * 0 + f6 * 6))))) = 0 ∧ f0 * 0 + (f1 * 0 + (f2 * (-3) + (f3 * 0 + (f4 * 0 + (f5 * 6 + f6 * 0))))) = 0 ∧ f0 * 0 + (f1 * (-3) + (f2 * 0 + (f3 * 0 + (f4 * 6 + (f5 * 0 + f6 * 0))))) = 0) (h12 : f0 * 4 + (f1 * 0 + (f2 * 2 + (f3 * 0 + (f4 * (-2) + (f5 * 0 + f6 * (-4)))))) = 0 ∧ f0 * 0 + (f1 * 2 + (f2 * 0 + (f3 * (-2) + (f4 * 0 + (f5 * (-4) + f6 * 0))))) = 0 ∧ f0 * 2 + (f1 * 0 + (f2 * (-2) + (f3 * 0 + (f4 * (-4) + (f5 * 0 + f6 * (-2)))))) = 0 ∧ f0 * 0 + (f1 * (-2) + (f2 * 0 + (f3 * (-4) + (f4 * 0 + (f5 * (-2) + f6 * 0))))) = 0) : f0 = 0 ∧ f1 = 0 ∧ f2 = 0 ∧ f3 = 0 ∧ f4 = 0 ∧ f5 = 0 ∧ f6 = 0 := by
  obtain ⟨q9_0, q9_1, q9_2, q9_3, q9_4, q9_5⟩ := h9
  obtain ⟨q12_0, q12_1, q12_2, q12_3⟩ := h12
  exact solve (D := 18) [4, 4, -4, 2, -4, -2, -9] [0, 0, -4, 0, 0, -2, 0] [0, -4, 0, 0, -2, 0, 0] [0, 4, -4, 0, -4, -2, -9] [0, 0, -2, 0, 0, 2, 0] [0, -2, 0, 0, 2, 0, 0] [2, 4, -4, 4, -4, -2, -9] (all_cons (dot7 q9_0) (all_cons (dot7 q9_1) (all_cons (dot7 q9_2) (all_cons (dot7 q9_3) (all_cons (dot7 q9_4) (all_cons (dot7 q9_5) (all_cons (dot7 q12_1) all_nil))))))) (by decide) (by decide +kernel)
theorem comb12_18 {f0 f1 f2 f3 f4 f5 f6 : Int} (h12 : f0 * 4 + (f1 * 0 + (f2 * 2 + (f3 * 0 + (f4 * (-2) + (f5 * 0 + f6 * (-4)))))) = 0 ∧ f0 * 0 + (f1 * 2 + (f2 * 0 + (f3 * (-2) + (f4 * 0 + (f5 * (-4) + f6 * 0))))) = 0 ∧ f0 * 2 + (f1 * 0 + (f2 * (-2) + (f3 * 0 + (f4 * (-4) + (f5 * 0 + f6 * (-2)))))) = 0 ∧ f0 * 0 + (f1 * (-2) + (f2 * 0 + (f3 * (-4) + (f4 * 0 + (f5 * (-2) + f6 * 0))))) = 0) (h18 : f0 * 6 + (f1 * 0 + (f2 * 0 + (f3 * 3 + (f4 * 0 + (f5 * 0 + f6 * (-3)))))) = 0 ∧ f0 * 0 + (f1 * 0 + (f2 * 3 + (f3 * 0 + (f4 * 0 + (f5 * (-3) + f6 * 0))))) = 0 ∧ f0 * 0 + (f1 * 3 + (f2 * 0 + (f3 * 0 + (f4 * (-3) + (f5 * 0 + f6 * 0))))) = 0 ∧ f0 * 3 + (f1 * 0 + (f2 * 0 + (f3 * (-3) + (f4 * 0 + (f5 * 0 + f6 * (-6)))))) = 0 ∧ f0 * 0 + (f1 * 0 + (f2 * (-3) + (f3 * 0 + (f4 * 0 + (f5 * (-6) + f6 * 0))))) = 0 ∧ f0 * 0 + (f1 * (-3) + (f2 * 0 + (f3 * 0 + (f4 * (-6) + (f5 * 0 + f6 * 0))))) = 0) : f0 = 0 ∧ f1 = 0 ∧ f2 = 0 ∧ f3 = 0 ∧ f4 = 0 ∧ f5 = 0 ∧ f6 = 0 := by
  obtain ⟨q12_0, q12_1, q12_2, q12_3⟩ := h12
  obtain ⟨q18_0, q18_1, q18_2, q18_3, q18_4, q18_5⟩ := h18
  exact solve (D := 12) [-2, -2, -2, 4, 4, 0, 4] [1, 2, -2, -1, 0, -2, 2] [1, -2, -2, 1, 0, 2, 2] [-1, 0, 2, -3, 0, 2, -2] [1, 2, -2, -1, 0, -2, -2] [1, -2, -2, 1, 0, -2, 2] [-5, -4, -2, 5, 4, 2, 6] (all_cons (dot7 q12_0) (all_cons (dot7 q12_1) (all_cons (dot7 q12_2) (all_cons (dot7 q12_3) (all_cons (dot7 q18_0) (all_cons (dot7 q18_1) (all_cons (dot7 q18_2) all_nil))))))) (by decide) (by decide +kernel)
theorem comb5_8 {f0 f1 f2 f3 f4 f5 f6 : Int} (h5 : f0 * 4 + (f1 * (-1) + (f2 * (-1) + (f3 * (-1) + (f4 * (-1) + (f5 * 4 + f6 * (-1)))))) = 0 ∧ f0 * (-1) + (f1 * (-1) + (f2 * (-1) + (f3 * (-1) + (f4 * 4 + (f5 * (-1) + f6 * (-1)))))) = 0 ∧ f0 * (-1) + (f1 * (-1) + (f2 * (-1) + (f3 * 4 + (f4 * (-1) + (f5 * (-1) + f6 * (-1)))))) = 0 ∧ f0 * (-1) + (f1 * (-1) + (f2 * 4 + (f3 * (-1) + (f4 * (-1) + (f5 * (-1) + f6 * (-1)))))) = 0) (h8 : f0 * 4 + (f1 * 0 + (f2 * 0 + (f3 * 0 + (f4 * (-4) + (f5 * 0 + f6 * 0))))) = 0 ∧ f0 * 0 + (f1 * 0 + (f2 * 0 + (f3 * (-4) + (f4 * 0 + (f5 * 0 + f6 * 0))))) = 0 ∧ f0 * 0 + (f1 * 0 + (f2 * (-4) + (f3 * 0 + (f4 * 0 + (f5 * 0 + f6 * 4))))) = 0 ∧ f0 * 0 + (f1 * (-4) + (f2 * 0 + (f3 * 0 + (f4 * 0 + (f5 * 4 + f6 * 0))))) = 0) : f0 = 0 ∧ f1 = 0 ∧ f2 = 0 ∧ f3 = 0 ∧ f4 = 0 ∧ f5 = 0 ∧ f6 = 0 := by
  obtain ⟨q5_0, q5_1, q5_2, q5_3⟩ := h5
  obtain ⟨q8_0, q8_1, q8_2, q8_3⟩ := h8
  exact solve (D := 20) [0, 4, -4, 0, 5, -5, 0] [-4, -4, -4, -8, 0, 0, -5] [0, 0, -4, 4, 0, -5, 0] [0, 0, 0, 0, 0, -5, 0] [0, 4, -4, 0, 0, -5, 0] [4, -4, 0, 0, -5, 0, 0] [0, 0, -4, 4, 0, -5, 5] (all_cons (dot7 q5_0) (all_cons (dot7 q5_1) (all_cons (dot7 q5_2) (all_cons (dot7 q5_3) (all_cons (dot7 q8_0) (all_cons (dot7 q8_1) (all_cons (dot7 q8_2) all_nil))))))) (by decide) (by decide +kernel)
theorem comb8_10 {f0 f1 f2 f3 f4 f5 f6 : Int} (h8 : f0 * 4 + (f1 * 0 + (f2 * 0 + (f3 * 0 + (f4 * (-4) + (f5 * 0 + f6 * 0))))) = 0 ∧ f0 * 0 + (f1 * 0 + (f2 * 0 + (f3 * (-4) + (f4 * 0 + (f5 * 0 + f6 * 0))))) = 0 ∧ f0 * 0 + (f1 * 0 + (f2 * (-4) + (f3 * 0 + (f4 * 0 + (f5 * 0 + f6 * 4))))) = 0 ∧ f0 * 0 + (f1 * (-4) + (f2 * 0 + (f3 * 0 + (f4 * 0 + (f5 * 4 + f6 * 0))))) = 0) (h10 : f0 * 4 + (f1 * 1 + (f2 * (-1) + (f3 * 1 + (f4 * (-1) + (f5 * (-4) + f6 * (-1)))))) = 0 ∧ f0 * 1 + (f1 * (-1) + (f2 * 1 + (f3 * (-1) + (f4 * (-4) + (f5 * (-1) + f6 * 1))))) = 0 ∧ f0 * (-1) + (f1 * 1 + (f2 * (-1) + (f3 * (-4) + (f4 * (-1) + (f5 * 1 + f6 * (-1)))))) = 0 ∧ f0 * 1 + (f1 * (-1) + (f2 * (-4) + (f3 * (-1) + (f4 * 1 + (f5 * (-1) + f6 * 1))))) = 0) : f0 = 0 ∧ f1 = 0 ∧ f2 = 0 ∧ f3 = 0 ∧ f4 = 0 ∧ f5 = 0 ∧ f6 = 0 := by
  obtain ⟨q8_0, q8_1, q8_2, q8_3⟩ := h8
  obtain ⟨q10_0, q10_1, q10_2, q10_3⟩ := h10
  exact solve (D := 40) [10, 10, 0, 0, 0, -8, -8] [10, 0, 0, -10, -8, -8, 0] [5, 10, -5, -5, -8, 0, -12] [0, -10, 0, 0, 0, 0, 0] [0, 10, 0, 0, 0, -8, -8] [10, 0, 0, 0, -8, -8, 0] [5, 10, 5, -5, -8, 0, -12] (all_cons (dot7 q8_0) (all_cons (dot7 q8_1) (all_cons (dot7 q8_2) (all_cons (dot7 q8_3) (all_cons (dot7 q10_0) (all_cons (dot7 q10_1) (all_cons (dot7 q10_2) all_nil))))))) (by decide) (by decide +kernel)
theorem comb5_9 {f0 f1 f2 f3 f4 f5 f6 : Int} (h5 : f0 * 4 + (f1 * (-1) + (f2 * (-1) + (f3 * (-1) + (f4 * (-1) + (f5 * 4 + f6 * (-1)))))) = 0 ∧ f0 * (-1) + (f1 * (-1) + (f2 * (-1) + (f3 * (-1) + (f4 * 4 + (f5 * (-1) + f6 * (-1)))))) = 0 ∧ f0 * (-1) + (f1 * (-1) + (f2 * (-1) + (f3 * 4 + (f4 * (-1) + (f5 * (-1) + f6 * (-1)))))) = 0 ∧ f0 * (-1) + (f1 * (-1) + (f2 * 4 + (f3 * (-1) + (f4 * (-1) + (f5 * (-1) + f6 * (-1)))))) = 0) (h9 : f0 * 6 + (f1 * 0 + (f2 * 0 + (f3 * (-3) + (f4 * 0 + (f5 * 0 + f6 * (-3)))))) = 0 ∧ f0 * 0 + (f1 * 0 + (f2 * (-3) + (f3 * 0 + (f4 * 0 + (f5 * (-3) + f6 * 0))))) = 0 ∧ f0 * 0 + (f1 * (-3) + (f2 * 0 + (f3 * 0 + (f4 * (-3) + (f5 * 0 + f6 * 0))))) = 0 ∧ f0 * (-3) + (f1 * 0 + (f2 * 0 + (f3 * (-3) + (f4 * 0 + (f5 * 0 + f6 * 6))))) = 0 ∧ f0 * 0 + (f1 * 0 + (f2 * (-3) + (f3 * 0 + (f4 * 0 + (f5 * 6 + f6 * 0))))) = 0 ∧ f0 * 0 + (f1 * (-3) + (f2 * 0 + (f3 * 0 + (f4 * 6 + (f5 * 0 + f6 * 0))))) = 0) : f0 = 0 ∧ f1 = 0 ∧ f2 = 0 ∧ f3 = 0 ∧ f4 = 0 ∧ f5 = 0 ∧ f6 = 0 := by
  obtain ⟨q5_0, q5_1, q5_2, q5_3⟩ := h5
  obtain ⟨q9_0, q9_1, q9_2, q9_3, q9_4, q9_5⟩ := h9
  exact solve (D := 15) [-15, 0, 0, -15, 10, -15, 10] [9, -3, 0, 9, -5, 10, -10] [-9, 0, 0, -6, 5, -10, 5] [-9, 0, 3, -9, 5, -10, 5] [-9, 3, 0, -9, 5, -10, 5] [9, 0, 0, 6, -5, 5, -5] [-21, 0, -3, -21, 10, -20, 15] (all_cons (dot7 q5_0) (all_cons (dot7 q5_1) (all_cons (dot7 q5_2) (all_cons (dot7 q5_3) (all_cons (dot7 q9_0) (all_cons (dot7 q9_1) (all_cons (dot7 q9_2) all_nil))))))) (by decide) (by decide +kernel)
theorem comb3_4_5 {f0 f1 f2 f3 f4 f5 f6 : Int} (h3 : f0 * 2 + (f1 * (-1) + (f2 * (-1) + (f3 * 2 + (f4 * (-1) + (f5 * (-1) + f6 * 2))))) = 0 ∧ f0 * (-1) + (f1 * (-1) + (f2 * 2 + (f3 * (-1) + (f4 * (-1) + (f5 * 2 + f6 * (-1)))))) = 0) (h4 : f0 * 2 + (f1 * 0 + (f2 * (-2) + (f3 * 0 + (f4 * 2 + (f5 * 0 + f6 * (-2)))))) = 0 ∧ f0 * 0 + (f1 * (-2) + (f2 * 0 + (f3 * 2 + (f4 * 0 + (f5 * (-2) + f6 * 0))))) = 0) (h5 : f0 * 4 + (f1 * (-1) + (f2 * (-1) + (f3 * (-1) + (f4 * (-1) + (f5 * 4 + f6 * (-1)))))) = 0 ∧ f0 * (-1) + (f1 * (-1) + (f2 * (-1) + (f3 * (-1) + (f4 * 4 + (f5 * (-1) + f6 * (-1)))))) = 0 ∧ f0 * (-1) + (f1 * (-1) + (f2 * (-1) + (f3 * 4 + (f4 * (-1) + (f5 * (-1) + f6 * (-1)))))) = 0 ∧ f0 * (-1) + (f1 * (-1) + (f2 * 4 + (f3 * (-1) + (f4 * (-1) + (f5 * (-1) + f6 * (-1)))))) = 0) : f0 = 0 ∧ f1 = 0 ∧ f2 = 0 ∧ f3 = 0 ∧ f4 = 0 ∧ f5 = 0 ∧ f6 = 0 := by
  obtain ⟨q3_0, q3_1⟩ := h3
  obtain ⟨q4_0, q4_1⟩ := h4
  obtain ⟨q5_0, q5_1, q5_2, q5_3⟩ := h5
  exact solve (D := 30) [30, 30, 30, -15, -18, -6, -6] [30, 30, 30, -30, -24, -6, 0] [70, 80, 60, -45, -48, -6, -6] [60, 60, 45, -45, -36, 0, 6] [60, 60, 45, -45, -36, 6, 0] [30, 30, 15, -30, -12, 6, 6] [20, 10, 0, -15, -6, 6, 0] (all_cons (dot7 q3_0) (all_cons (dot7 q3_1) (all_cons (dot7 q4_0) (all_cons (dot7 q4_1) (all_cons (dot7 q5_0) (all_cons (dot7 q5_1) (all_cons (dot7 q5_2) all_nil))))))) (by decide) (by decide +kernel)
theorem comb3_4_10 {f0 f1 f2 f3 f4 f5 f6 : Int} (h3 : f0 * 2 + (f1 * (-1) + (f2 * (-1) + (f3 * 2 + (f4 * (-1) + (f5 * (-1) + f6 * 2))))) = 0 ∧ f0 * (-1) + (f1 * (-1) + (f2 * 2 + (f3 * (-1) + (f4 * (-1) + (f5 * 2 + f6 * (-1)))))) = 0) (h4 : f0 * 2 + (f1 * 0 + (f2 * (-2) + (f3 * 0 + (f4 * 2 + (f5 * 0 + f6 * (-2)))))) = 0 ∧ f0 * 0 + (f1 * (-2) + (f2 * 0 + (f3 * 2 + (f4 * 0 + (f5 * (-2) + f6 * 0))))) = 0) (h10 : f0 * 4 + (f1 * 1 + (f2 * (-1) + (f3 * 1 + (f4 * (-1) + (f5 * (-4) + f6 * (-1)))))) = 0 ∧ f0 * 1 + (f1 * (-1) + (f2 * 1 + (f3 * (-1) + (f4 * (-4) + (f5 * (-1) + f6 * 1))))) = 0 ∧ f0 * (-1) + (f1 * 1 + (f2 * (-1) + (f3 * (-4) + (f4 * (-1) + (f5 * 1 + f6 * (-1)))))) = 0 ∧ f0 * 1 + (f1 * (-1) + (f2 * (-4) + (f3 * (-1) + (f4 * 1 + (f5 * (-1) + f6 * 1))))) = 0) : f0 = 0 ∧ f1 = 0 ∧ f2 = 0 ∧ f3 = 0 ∧ f4 = 0 ∧ f5 = 0 ∧ f6 = 0 := by
  obtain ⟨q3_0, q3_1⟩ := h3
  obtain ⟨q4_0, q4_1⟩ := h4
  obtain ⟨q10_0, q10_1, q10_2, q10_3⟩ := h10
  exact solve (D := 30) [-30, -30, 30, -15, -18, 42, -30] [30, 30, -30, 0, 24, -42, 24] [-50, -40, 30, -15, -24, 54, -42] [60, 60, -45, 15, 36, -72, 42] [-60, -60, 45, -15, -36, 66, -48] [30, 30, -15, 0, 12, -30, 18] [-40, -50, 30, -15, -30, 54, -36] (all_cons (dot7 q3_0) (all_cons (dot7 q3_1) (all_cons (dot7 q4_0) (all_cons (dot7 q4_1) (all_cons (dot7 q10_0) (all_cons (dot7 q10_1) (all_cons (dot7 q10_2) all_nil))))))) (by decide) (by decide +kernel)
theorem comb4_5_6 {f0 f1 f2 f3 f4 f5 f6 : Int} (h4 : f0 * 2 + (f1 * 0 + (f2 * (-2) + (f3 * 0 + (f4 * 2 + (f5 * 0 + f6 * (-2)))))) = 0 ∧ f0 * 0 + (f1 * (-2) + (f2 * 0 + (f3 * 2 + (f4 * 0 + (f5 * (-2) + f6 * 0))))) = 0) (h5 : f0 * 4 + (f1 * (-1) + (f2 * (-1) + (f3 * (-1) + (f4 * (-1) + (f5 * 4 + f6 * (-1)))))) = 0 ∧ f0 * (-1) + (f1 * (-1) + (f2 * (-1) + (f3 * (-1) + (f4 * 4 + (f5 * (-1) + f6 * (-1)))))) = 0 ∧ f0 * (-1) + (f1 * (-1) + (f2 * (-1) + (f3 * 4 + (f4 * (-1) + (f5 * (-1) + f6 * (-1)))))) = 0 ∧ f0 * (-1) + (f1 * (-1) + (f2 * 4 + (f3 * (-1) + (f4 * (-1) + (f5 * (-1) + f6 * (-1)))))) = 0) (h6 : f0 * 2 + (f1 * 1 + (f2 * (-1) + (f3 * (-2) + (f4 * (-1) + (f5 * 1 + f6 * 2))))) = 0 ∧ f0 * 1 + (f1 * (-1) + (f2 * (-2) + (f3 * (-1) + (f4 * 1 + (f5 * 2 + f6 * 1))))) = 0) : f0 = 0 ∧ f1 = 0 ∧ f2 = 0 ∧ f3 = 0 ∧ f4 = 0 ∧ f5 = 0 ∧ f6 = 0 := by
  obtain ⟨q4_0, q4_1⟩ := h4
  obtain ⟨q5_0, q5_1, q5_2, q5_3⟩ := h5
  obtain ⟨q6_0, q6_1⟩ := h6
  exact solve (D := 20) [5, 10, 0, -10, -14, -6, -10] [5, 0, -4, -10, -10, -6, -10] [0, 10, 0, -12, -20, -8, -20] [0, 10, 0, -12, -16, -12, -20] [0, 10, 0, -8, -20, -12, -20] [-5, 0, 4, -2, -6, -6, -10] [-5, 10, 0, -6, -14, -10, -10] (all_cons (dot7 q4_0) (all_cons (dot7 q4_1) (all_cons (dot7 q5_0) (all_cons (dot7 q5_1) (all_cons (dot7 q5_2) (all_cons (dot7 q5_3) (all_cons (dot7 q6_0) all_nil))))))) (by decide) (by decide +kernel)
theorem comb4_6_10 {f0 f1 f2 f3 f4 f5 f6 : Int} (h4 : f0 * 2 + (f1 * 0 + (f2 * (-2) + (f3 * 0 + (f4 * 2 + (f5 * 0 + f6 * (-2)))))) = 0 ∧ f0 * 0 + (f1 * (-2) + (f2 * 0 + (f3 * 2 + (f4 * 0 + (f5 * (-2) + f6 * 0))))) = 0) (h6 : f0 * 2 + (f1 * 1 + (f2 * (-1) + (f3 * (-2) + (f4 * (-1) + (f5 * 1 + f6 * 2))))) = 0 ∧ f0 * 1 + (f1 * (-1) + (f2 * (-2) + (f3 * (-1) + (f4 * 1 + (f5 * 2 + f6 * 1))))) = 0) (h10 : f0 * 4 + (f1 * 1 + (f2 * (-1) + (f3 * 1 + (f4 * (-1) + (f5 * (-4) + f6 * (-1)))))) = 0 ∧ f0 * 1 + (f1 * (-1) + (f2 * 1 + (f3 * (-1) + (f4 * (-4) + (f5 * (-1) + f6 * 1))))) = 0 ∧ f0 * (-1) + (f1 * 1 + (f2 * (-1) + (f3 * (-4) + (f4 * (-1) + (f5 * 1 + f6 * (-1)))))) = 0 ∧ f0 * 1 + (f1 * (-1) + (f2 * (-4) + (f3 * (-1) + (f4 * 1 + (f5 * (-1) + f6 * 1))))) = 0) : f0 = 0 ∧ f1 = 0 ∧ f2 = 0 ∧ f3 = 0 ∧ f4 = 0 ∧ f5 = 0 ∧ f6 = 0 := by
  obtain ⟨q4_0, q4_1⟩ := h4
  obtain ⟨q6_0, q6_1⟩ := h6
  obtain ⟨q10_0, q10_1, q10_2, q10_3⟩ := h10
  exact solve (D := 30) [30, 15, 30, -30, -18, 6, -6] [-30, -30, -30, 30, 24, -6, 0] [60, 45, 70, -80, -48, 6, -6] [-45, -45, -60, 60, 36, 0, -6] [45, 45, 60, -60, -36, -6, 0] [-15, -30, -30, 30, 12, 6, -6] [0, 15, 20, -10, -6, -6, 0] (all_cons (dot7 q4_0) (all_cons (dot7 q4_1) (all_cons (dot7 q6_0) (all_cons (dot7 q6_1) (all_cons (dot7 q10_0) (all_cons (dot7 q10_1) (all_cons (dot7 q10_2) all_nil))))))) (by decide) (by decide +kernel)
theorem comb4_5_12 {f0 f1 f2 f3 f4 f5 f6 : Int} (h4 : f0 * 2 + (f1 * 0 + (f2 * (-2) + (f3 * 0 + (f4 * 2 + (f5 * 0 + f6 * (-2)))))) = 0 ∧ f0 * 0 + (f1 * (-2) + (f2 * 0 + (f3 * 2 + (f4 * 0 + (f5 * (-2) + f6 * 0))))) = 0) (h5 : f0 * 4 + (f1 * (-1) + (f2 * (-1) + (f3 * (-1) + (f4 * (-1) + (f5 * 4 + f6 * (-1)))))) = 0 ∧ f0 * (-1) + (f1 * (-1) + (f2 * (-1) + (f3 * (-1) + (f4 * 4 + (f5 * (-1) + f6 * (-1)))))) = 0 ∧ f0 * (-1) + (f1 * (-1) + (f2 * (-1) + (f3 * 4 + (f4 * (-1) + (f5 * (-1) + f6 * (-1)))))) = 0 ∧ f0 * (-1) + (f1 * (-1) + (f2 * 4 + (f3 * (-1) + (f4 * (-1) + (f5 * (-1) + f6 * (-1)))))) = 0) (h12 : f0 * 4 + (f1 * 0 + (f2 * 2 + (f3 * 0 + (f4 * (-2) + (f5 * 0 + f6 * (-4)))))) = 0 ∧ f0 * 0 + (f1 * 2 + (f2 * 0 + (f3 * (-2) + (f4 * 0 + (f5 * (-4) + f6 * 0))))) = 0 ∧ f0 * 2 + (f1 * 0 + (f2 * (-2) + (f3 * 0 + (f4 * (-4) + (f5 * 0 + f6 * (-2)))))) = 0 ∧ f0 * 0 + (f1 * (-2) + (f2 * 0 + (f3 * (-4) + (f4 * 0 + (f5 * (-2) + f6 * 0))))) = 0) : f0 = 0 ∧ f1 = 0 ∧ f2 = 0 ∧ f3 = 0 ∧ f4 = 0 ∧ f5 = 0 ∧ f6 = 0 := by
  obtain ⟨q4_0, q4_1⟩ := h4
  obtain ⟨q5_0, q5_1, q5_2, q5_3⟩ := h5
  obtain ⟨q12_0, q12_1, q12_2, q12_3⟩ := h12
  exact solve (D := 30) [15, 10, -6, -12, -12, 0, -5] [15, -5, -12, -12, -6, 0, -5] [15, 5, -12, -12, -12, 6, -10] [15, 5, -12, -12, -6, 0, -10] [15, 5, -12, -6, -12, 0, -10] [0, -5, 0, 0, 0, 0, -5] [0, 10, -6, -6, -12, -6, -5] (all_cons (dot7 q4_0) (all_cons (dot7 q4_1) (all_cons (dot7 q5_0) (all_cons (dot7 q5_1) (all_cons (dot7 q5_2) (all_cons (dot7 q5_3) (all_cons (dot7 q12_1) all_nil))))))) (by decide) (by decide +kernel)
theorem comb4_10_12 {f0 f1 f2 f3 f4 f5 f6 : Int} (h4 : f0 * 2 + (f1 * 0 + (f2 * (-2) + (f3 * 0 + (f4 * 2 + (f5 * 0 + f6 * (-2)))))) = 0 ∧ f0 * 0 + (f1 * (-2) + (f2 * 0 + (f3 * 2 + (f4 * 0 + (f5 * (-2) + f6 * 0))))) = 0) (h10 : f0 * 4 + (f1 * 1 + (f2 * (-1) + (f3 * 1 + (f4 * (-1) + (f5 * (-4) + f6 * (-1)))))) = 0 ∧ f0 * 1 + (f1 * (-1) + (f2 * 1 + (f3 * (-1) + (f4 * (-4) + (f5 * (-1) + f6 * 1))))) = 0 ∧ f0 * (-1) + (f1 * 1 + (f2 * (-1) + (f3 * (-4) + (f4 * (-1) + (f5 * 1 + f6 * (-1)))))) = 0 ∧ f0 * 1 + (f1 * (-1) + (f2 * (-4) + (f3 * (-1) + (f4 * 1 + (f5 * (-1) + f6 * 1))))) = 0) (h12 : f0 * 4 + (f1 * 0 + (f2 * 2 + (f3 * 0 + (f4 * (-2) + (f5 * 0 + f6 * (-4)))))) = 0 ∧ f0 * 0 + (f1 * 2 + (f2 * 0 + (f3 * (-2) + (f4 * 0 + (f5 * (-4) + f6 * 0))))) = 0 ∧ f0 * 2 + (f1 * 0 + (f2 * (-2) + (f3 * 0 + (f4 * (-4) + (f5 * 0 + f6 * (-2)))))) = 0 ∧ f0 * 0 + (f1 * (-2) + (f2 * 0 + (f3 * (-4) + (f4 * 0 + (f5 * (-2) + f6 * 0))))) = 0) : f0 = 0 ∧ f1 = 0 ∧ f2 = 0 ∧ f3 = 0 ∧ f4 = 0 ∧ f5 = 0 ∧ f6 = 0 := by
  obtain ⟨q4_0, q4_1⟩ := h4
  obtain ⟨q10_0, q10_1, q10_2, q10_3⟩ := h10
  obtain ⟨q12_0, q12_1, q12_2, q12_3⟩ := h12
  exact solve (D := 30) [15, -10, -6, 12, -12, 0, 5] [-15, -5, 12, -12, 6, 0, -5] [15, -5, -12, 12, -12, -6, 10] [-15, 5, 12, -12, 6, 0, -10] [15, -5, -12, 6, -12, 0, 10] [0, -5, 0, 0, 0, 0, -5] [0, -10, -6, 6, -12, 6, 5] (all_cons (dot7 q4_0) (all_cons (dot7 q4_1) (all_cons (dot7 q10_0) (all_cons (dot7 q10_1) (all_cons (dot7 q10_2) (all_cons (dot7 q10_3) (all_cons (dot7 q12_1) all_nil))))))) (by decide) (by decide +kernel)
theorem comb3_5_12 {f0 f1 f2 f3 f4 f5 f6 : Int} (h3 : f0 * 2 + (f1 * (-1) + (f2 * (-1) + (f3 * 2 + (f4 * (-1) + (f5 * (-1) + f6 * 2))))) = 0 ∧ f0 * (-1) + (f1 * (-1) + (f2 * 2 + (f3 * (-1) + (f4 * (-1) + (f5 * 2 + f6 * (-1)))))) = 0) (h5 : f0 * 4 + (f1 * (-1) + (f2 * (-1) + (f3 * (-1) + (f4 * (-1) + (f5 * 4 + f6 * (-1)))))) = 0 ∧ f0 * (-1) + (f1 * (-1) + (f2 * (-1) + (f3 * (-1) + (f4 * 4 + (f5 * (-1) + f6 * (-1)))))) = 0 ∧ f0 * (-1) + (f1 * (-1) + (f2 * (-1) + (f3 * 4 + (f4 * (-1) + (f5 * (-1) + f6 * (-1)))))) = 0 ∧ f0 * (-1) + (f1 * (-1) + (f2 * 4 + (f3 * (-1) + (f4 * (-1) + (f5 * (-1) + f6 * (-1)))))) = 0) (h12 : f0 * 4 + (f1 * 0 + (f2 * 2 + (f3 * 0 + (f4 * (-2) + (f5 * 0 + f6 * (-4)))))) = 0 ∧ f0 * 0 + (f1 * 2 + (f2 * 0 + (f3 * (-2) + (f4 * 0 + (f5 * (-4) + f6 * 0))))) = 0 ∧ f0 * 2 + (f1 * 0 + (f2 * (-2) + (f3 * 0 + (f4 * (-4) + (f5 * 0 + f6 * (-2)))))) = 0 ∧ f0 * 0 + (f1 * (-2) + (f2 * 0 + (f3 * (-4) + (f4 * 0 + (f5 * (-2) + f6 * 0))))) = 0) : f0 = 0 ∧ f1 = 0 ∧ f2 = 0 ∧ f3 = 0 ∧ f4 = 0 ∧ f5 = 0 ∧ f6 = 0 := by
  obtain ⟨q3_0, q3_1⟩ := h3
  obtain ⟨q5_0, q5_1, q5_2, q5_3⟩ := h5
  obtain ⟨q12_0, q12_1, q12_2, q12_3⟩ := h12
  exact solve (D := 150) [-10, -80, 30, -6, -6, 42, -15] [-70, -110, 0, -42, -12, 24, -30] [-30, -90, 0, -18, -18, 66, -45] [-30, -90, 0, -18, 12, 36, -45] [-30, -90, 0, 12, -18, 36, -45] [-20, -10, 0, -12, -12, -6, -30] [40, 20, -30, -6, -36, -18, -15] (all_cons (dot7 q3_0) (all_cons (dot7 q3_1) (all_cons (dot7 q5_0) (all_cons (dot7 q5_1) (all_cons (dot7 q5_2) (all_cons (dot7 q5_3) (all_cons (dot7 q12_1) all_nil))))))) (by decide) (by decide +kernel)
theorem comb3_10_12 {f0 f1 f2 f3 f4 f5 f6 : Int} (h3 : f0 * 2 + (f1 * (-1) + (f2 * (-1) + (f3 * 2 + (f4 * (-1) + (f5 * (-1) + f6 * 2))))) = 0 ∧ f0 * (-1) + (f1 * (-1) + (f2 * 2 + (f3 * (-1) + (f4 * (-1) + (f5 * 2 + f6 * (-1)))))) = 0) (h10 : f0 * 4 + (f1 * 1 + (f2 * (-1) + (f3 * 1 + (f4 * (-1) + (f5 * (-4) + f6 * (-1)))))) = 0 ∧ f0 * 1 + (f1 * (-1) + (f2 * 1 + (f3 * (-1) + (f4 * (-4) + (f5 * (-1) + f6 * 1))))) = 0 ∧ f0 * (-1) + (f1 * 1 + (f2 * (-1) + (f3 * (-4) + (f4 * (-1) + (f5 * 1 + f6 * (-1)))))) = 0 ∧ f0 * 1 + (f1 * (-1) + (f2 * (-4) + (f3 * (-1) + (f4 * 1 + (f5 * (-1) + f6 * 1))))) = 0) (h12 : f0 * 4 + (f1 * 0 + (f2 * 2 + (f3 * 0 + (f4 * (-2) + (f5 * 0 + f6 * (-4)))))) = 0 ∧ f0 * 0 + (f1 * 2 + (f2 * 0 + (f3 * (-2) + (f4 * 0 + (f5 * (-4) + f6 * 0))))) = 0 ∧ f0 * 2 + (f1 * 0 + (f2 * (-2) + (f3 * 0 + (f4 * (-4) + (f5 * 0 + f6 * (-2)))))) = 0 ∧ f0 * 0 + (f1 * (-2) + (f2 * 0 + (f3 * (-4) + (f4 * 0 + (f5 * (-2) + f6 * 0))))) = 0) : f0 = 0 ∧ f1 = 0 ∧ f2 = 0 ∧ f3 = 0 ∧ f4 = 0 ∧ f5 = 0 ∧ f6 = 0 := by
  obtain ⟨q3_0, q3_1⟩ := h3
  obtain ⟨q10_0, q10_1, q10_2, q10_3⟩ := h10
  obtain ⟨q12_0, q12_1, q12_2, q12_3⟩ := h12
  exact solve (D := 30) [50, 40, 6, -30, 18, -6, 15] [10, -10, 0, -6, 12, -12, 0] [30, 30, 0, -18, 6, -6, 15] [-30, -30, 0, 18, -12, 0, -15] [30, 30, 0, -24, 6, 0, 15] [20, 10, 0, -12, 12, -6, 0] [40, 20, -6, -18, 12, -6, 15] (all_cons (dot7 q3_0) (all_cons (dot7 q3_1) (all_cons (dot7 q10_0) (all_cons (dot7 q10_1) (all_cons (dot7 q10_2) (all_cons (dot7 q10_3) (all_cons (dot7 q12_1) all_nil))))))) (by decide) (by decide +kernel)
theorem comb5_6_12 {f0 f1 f2 f3 f4 f5 f6 : Int} (h5 : f0 * 4 + (f1 * (-1) + (f2 * (-1) + (f3 * (-1) + (f4 * (-1) + (f5 * 4 + f6 * (-1)))))) = 0 ∧ f0 * (-1) + (f1 * (-1) + (f2 * (-1) + (f3 * (-1) + (f4 * 4 + (f5 * (-1) + f6 * (-1)))))) = 0 ∧ f0 * (-1) + (f1 * (-1) + (f2 * (-1) + (f3 * 4 + (f4 * (-1) + (f5 * (-1) + f6 * (-1)))))) = 0 ∧ f0 * (-1) + (f1 * (-1) + (f2 * 4 + (f3 * (-1) + (f4 * (-1) + (f5 * (-1) + f6 * (-1)))))) = 0) (h6 : f0 * 2 + (f1 * 1 + (f2 * (-1) + (f3 * (-2) + (f4 * (-1) + (f5 * 1 + f6 * 2))))) = 0 ∧ f0 * 1 + (f1 * (-1) + (f2 * (-2) + (f3 * (-1) + (f4 * 1 + (f5 * 2 + f6 * 1))))) = 0) (h12 : f0 * 4 + (f1 * 0 + (f2 * 2 + (f3 * 0 + (f4 * (-2) + (f5 * 0 + f6 * (-4)))))) = 0 ∧ f0 * 0 + (f1 * 2 + (f2 * 0 + (f3 * (-2) + (f4 * 0 + (f5 * (-4) + f6 * 0))))) = 0 ∧ f0 * 2 + (f1 * 0 + (f2 * (-2) + (f3 * 0 + (f4 * (-4) + (f5 * 0 + f6 * (-2)))))) = 0 ∧ f0 * 0 + (f1 * (-2) + (f2 * 0 + (f3 * (-4) + (f4 * 0 + (f5 * (-2) + f6 * 0))))) = 0) : f0 = 0 ∧ f1 = 0 ∧ f2 = 0 ∧ f3 = 0 ∧ f4 = 0 ∧ f5 = 0 ∧ f6 = 0 := by
  obtain ⟨q5_0, q5_1, q5_2, q5_3⟩ := h5
  obtain ⟨q6_0, q6_1⟩ := h6
  obtain ⟨q12_0, q12_1, q12_2, q12_3⟩ := h12
  exact solve (D := 30) [6, 30, 18, 6, 50, -40, -15] [0, -6, -12, -12, -10, -10, 0] [0, 18, 6, 6, 30, -30, -15] [0, 18, 12, 0, 30, -30, -15] [0, 24, 6, 0, 30, -30, -15] [0, -12, -12, -6, -20, 10, 0] [-6, 18, 12, 6, 40, -20, -15] (all_cons (dot7 q5_0) (all_cons (dot7 q5_1) (all_cons (dot7 q5_2) (all_cons (dot7 q5_3) (all_cons (dot7 q6_0) (all_cons (dot7 q6_1) (all_cons (dot7 q12_1) all_nil))))))) (by decide) (by decide +kernel)
theorem comb6_10_12 {f0 f1 f2 f3 f4 f5 f6 : Int} (h6 : f0 * 2 + (f1 * 1 + (f2 * (-1) + (f3 * (-2) + (f4 * (-1) + (f5 * 1 + f6 * 2))))) = 0 ∧ f0 * 1 + (f1 * (-1) + (f2 * (-2) + (f3 * (-1) + (f4 * 1 + (f5 * 2 + f6 * 1))))) = 0) (h10 : f0 * 4 + (f1 * 1 + (f2 * (-1) + (f3 * 1 + (f4 * (-1) + (f5 * (-4) + f6 * (-1)))))) = 0 ∧ f0 * 1 + (f1 * (-1) + (f2 * 1 + (f3 * (-1) + (f4 * (-4) + (f5 * (-1) + f6 * 1))))) = 0 ∧ f0 * (-1) + (f1 * 1 + (f2 * (-1) + (f3 * (-4) + (f4 * (-1) + (f5 * 1 + f6 * (-1)))))) = 0 ∧ f0 * 1 + (f1 * (-1) + (f2 * (-4) + (f3 * (-1) + (f4 * 1 + (f5 * (-1) + f6 * 1))))) = 0) (h12 : f0 * 4 + (f1 * 0 + (f2 * 2 + (f3 * 0 + (f4 * (-2) + (f5 * 0 + f6 * (-4)))))) = 0 ∧ f0 * 0 + (f1 * 2 + (f2 * 0 + (f3 * (-2) + (f4 * 0 + (f5 * (-4) + f6 * 0))))) = 0 ∧ f0 * 2 + (f1 * 0 + (f2 * (-2) + (f3 * 0 + (f4 * (-4) + (f5 * 0 + f6 * (-2)))))) = 0 ∧ f0 * 0 + (f1 * (-2) + (f2 * 0 + (f3 * (-4) + (f4 * 0 + (f5 * (-2) + f6 * 0))))) = 0) : f0 = 0 ∧ f1 = 0 ∧ f2 = 0 ∧ f3 = 0 ∧ f4 = 0 ∧ f5 = 0 ∧ f6 = 0 := by
  obtain ⟨q6_0, q6_1⟩ := h6
  obtain ⟨q10_0, q10_1, q10_2, q10_3⟩ := h10
  obtain ⟨q12_0, q12_1, q12_2, q12_3⟩ := h12
  exact solve (D := 150) [-10, 80, 30, 6, -6, -42, 15] [70, -110, 0, -42, 12, 24, -30] [-30, 90, 0, 18, -18, -66, 45] [30, -90, 0, -18, -12, 36, -45] [-30, 90, 0, -12, -18, -36, 45] [20, -10, 0, -12, 12, -6, -30] [40, -20, -30, 6, -36, 18, 15] (all_cons (dot7 q6_0) (all_cons (dot7 q6_1) (all_cons (dot7 q10_0) (all_cons (dot7 q10_1) (all_cons (dot7 q10_2) (all_cons (dot7 q10_3) (all_cons (dot7 q12_1) all_nil))))))) (by decide) (by decide +kernel)
theorem comb5_12 {f0 f1 f2 f3 f4 f5 f6 : Int} (h5 : f0 * 4 + (f1 * (-1) + (f2 * (-1) + (f3 * (-1) + (f4 * (-1) + (f5 * 4 + f6 * (-1)))))) = 0 ∧ f0 * (-1) + (f1 * (-1) + (f2 * (-1) + (f3 * (-1) + (f4 * 4 + (f5 * (-1) + f6 * (-1)))))) = 0 ∧ f0 * (-1) + (f1 * (-1) + (f2 * (-1) + (f3 * 4 + (f4 * (-1) + (f5 * (-1) + f6 * (-1)))))) = 0 ∧ f0 * (-1) + (f1 * (-1) + (f2 * 4 + (f3 * (-1) + (f4 * (-1) + (f5 * (-1) + f6 * (-1)))))) = 0) (h12 : f0 * 4 + (f1 * 0 + (f2 * 2 + (f3 * 0 + (f4 * (-2) + (f5 * 0 + f6 * (-4)))))) = 0 ∧ f0 * 0 + (f1 * 2 + (f2 * 0 + (f3 * (-2) + (f4 * 0 + (f5 * (-4) + f6 * 0))))) = 0 ∧ f0 * 2 + (f1 * 0 + (f2 * (-2) + (f3 * 0 + (f4 * (-4) + (f5 * 0 + f6 * (-2)))))) = 0 ∧ f0 * 0 + (f1 * (-2) + (f2 * 0 + (f3 * (-4) + (f4 * 0 + (f5 * (-2) + f6 * 0))))) = 0) : f0 = 0 ∧ f1 = 0 ∧ f2 = 0 ∧ f3 = 0 ∧ f4 = 0 ∧ f5 = 0 ∧ f6 = 0 := by
  obtain ⟨q5_0, q5_1, q5_2, q5_3⟩ := h5
  obtain ⟨q12_0, q12_1, q12_2, q12_3⟩ := h12
  exact solve (D := 60) [36, -6, 24, 6, -5, 30, -20] [-48, -6, -36, -30, 25, -30, 10] [0, -6, 0, 6, 5, 0, -10] [0, -6, 12, -6, 5, 0, -10] [0, 6, 0, -6, 5, 0, -10] [-24, 0, -24, -12, 10, -30, 10] [36, -12, 24, 12, -20, 30, -20] (all_cons (dot7 q5_0) (all_cons (dot7 q5_1) (all_cons (dot7 q5_2) (all_cons (dot7 q5_3) (all_cons (dot7 q12_0) (all_cons (dot7 q12_1) (all_cons (dot7 q12_2) all_nil))))))) (by decide) (by decide +kernel)
theorem comb10_12 {f0 f1 f2 f3 f4 f5 f6 : Int} (h10 : f0 * 4 + (f1 * 1 + (f2 * (-1) + (f3 * 1 + (f4 * (-1) + (f5 * (-4) + f6 * (-1)))))) = 0 ∧ f0 * 1 + (f1 * (-1) + (f2 * 1 + (f3 * (-1) + (f4 * (-4) + (f5 * (-1) + f6 * 1))))) = 0 ∧ f0 * (-1) + (f1 * 1 + (f2 * (-1) + (f3 * (-4) + (f4 * (-1) + (f5 * 1 + f6 * (-1)))))) = 0 ∧ f0 * 1 + (f1 * (-1) + (f2 * (-4) + (f3 * (-1) + (f4 * 1 + (f5 * (-1) + f6 * 1))))) = 0) (h12 : f0 * 4 + (f1 * 0 + (f2 * 2 + (f3 * 0 + (f4 * (-2) + (f5 * 0 + f6 * (-4)))))) = 0 ∧ f0 * 0 + (f1 * 2 + (f2 * 0 + (f3 * (-2) + (f4 * 0 + (f5 * (-4) + f6 * 0))))) = 0 ∧ f0 * 2 + (f1 * 0 + (f2 * (-2) + (f3 * 0 + (f4 * (-4) + (f5 * 0 + f6 * (-2)))))) = 0 ∧ f0 * 0 + (f1 * (-2) + (f2 * 0 + (f3 * (-4) + (f4 * 0 + (f5 * (-2) + f6 * 0))))) = 0) : f0 = 0 ∧ f1 = 0 ∧ f2 = 0 ∧ f3 = 0 ∧ f4 = 0 ∧ f5 = 0 ∧ f6 = 0 := by
  obtain ⟨q10_0, q10_1, q10_2, q10_3⟩ := h10
  obtain ⟨q12_0, q12_1, q12_2, q12_3⟩ := h12
  exact solve (D := 60) [36, 6, 24, -6, -5, -30, -20] [48, -6, 36, -30, -25, -30, -10] [0, 6, 0, -6, 5, 0, -10] [0, -6, -12, -6, -5, 0, 10] [0, -6, 0, 6, 5, 0, -10] [24, 0, 24, -12, -10, -30, -10] [36, 12, 24, -12, -20, -30, -20] (all_cons (dot7 q10_0) (all_cons (dot7 q10_1) (all_cons (dot7 q10_2) (all_cons (dot7 q10_3) (all_cons (dot7 q12_0) (all_cons (dot7 q12_1) (all_cons (dot7 q12_2) all_nil))))))) (by decide) (by decide +kernel)
theorem no11 {V : Nat → Nat → Int} {f0 f1 f2 f3 f4 f5 f6 : Int} (O : Orb 11 V f0 f1 f2 f3 f4 f5 f6) (hz : ¬ (f0 = 0 ∧ f1 = 0 ∧ f2 = 0 ∧ f3 = 0 ∧ f4 = 0 ∧ f5 = 0 ∧ f6 = 0)) : ∃ m, 0 < m ∧ m < 11 ∧ ∀ c, V m c = V 0 c := by
  refine ⟨1, by decide, by decide, fun c => Classical.byContradiction fun z => hz ?_⟩
  have hp := O.per c
  have nz : (fun k => V k c) (0 + 1) - (fun k => V k c) 0 ≠ 0 := fun y => z (Int.sub_eq_zero.mp y)
  have hd : ∀ a, a < 11 → 0 < a → Nat.gcd a 11 = 1 := by decide +kernel
  have q0 := keepsP (c0 := 0) (c1 := 0) (c2 := 0) (c3 := 0) (c4 := 0) (c5 := 0) (c6 := 0) hp (by decide) (fun a x y => hd a y x) (O.rel c) nz 1 (.inl ⟨rfl, 1, by decide⟩) (.inl ⟨rfl, 6, by decide⟩) (.inl ⟨rfl, 4, by decide⟩) (.inl ⟨rfl, 3, by decide⟩) (.inl ⟨rfl, 9, by decide⟩) (.inl ⟨rfl, 2, by decide⟩) (.inl ⟨rfl, 8, by decide⟩)
  have q1 := keepsP (c0 := 11) (c1 := 0) (c2 := 0) (c3 := 0) (c4 := 0) (c5 := 0) (c6 := 0) hp (by decide) (fun a x y => hd a y x) (O.rel c) nz 11 (.inr ⟨rfl, by decide⟩) (.inl ⟨rfl, 1, by decide⟩) (.inl ⟨rfl, 6, by decide⟩) (.inl ⟨rfl, 4, by decide⟩) (.inl ⟨rfl, 3, by decide⟩) (.inl ⟨rfl, 9, by decide⟩) (.inl ⟨rfl, 2, by decide⟩)
  have q2 := keepsP (c0 := 0) (c1 := 11) (c2 := 0) (c3 := 0) (c4 := 0) (c5 := 0) (c6 := 0) hp (by decide) (fun a x y => hd a y x) (O.rel c) nz 10 (.inl ⟨rfl, 10, by decide⟩) (.inr ⟨rfl, by decide⟩) (.inl ⟨rfl, 1, by decide⟩) (.inl ⟨rfl, 6, by decide⟩) (.inl ⟨rfl, 4, by decide⟩) (.inl ⟨rfl, 3, by decide⟩) (.inl ⟨rfl, 9, by decide⟩)
  have q3 := keepsP (c0 := 0) (c1 := 0) (c2 := 11) (c3 := 0) (c4 := 0) (c5 := 0) (c6 := 0) hp (by decide) (fun a x y => hd a y x) (O.rel c) nz 9 (.inl ⟨rfl, 5, by decide⟩) (.inl ⟨rfl, 10, by decide⟩) (.inr ⟨rfl, by decide⟩) (.inl ⟨rfl, 1, by decide⟩) (.inl ⟨rfl, 6, by decide⟩) (.inl ⟨rfl, 4, by decide⟩) (.inl ⟨rfl, 3, by decide⟩)
  have q4 := keepsP (c0 := 0) (c1 := 0) (c2 := 0) (c3 := 11) (c4 := 0) (c5 := 0) (c6 := 0) hp (by decide) (fun a x y => hd a y x) (O.rel c) nz 8 (.inl ⟨rfl, 7, by decide⟩) (.inl ⟨rfl, 5, by decide⟩) (.inl ⟨rfl, 10, by decide⟩) (.inr ⟨rfl, by decide⟩) (.inl ⟨rfl, 1, by decide⟩) (.inl ⟨rfl, 6, by decide⟩) (.inl ⟨rfl, 4, by decide⟩)
  have q5 := keepsP (c0 := 0) (c1 := 0) (c2 := 0) (c3 := 0) (c4 := 11) (c5 := 0) (c6 := 0) hp (by decide) (fun a x y => hd a y x) (O.rel c) nz 7 (.inl ⟨rfl, 8, by decide⟩) (.inl ⟨rfl, 7, by decide⟩) (.inl ⟨rfl, 5, by decide⟩) (.inl ⟨rfl, 10, by decide⟩) (.inr ⟨rfl, by decide⟩) (.inl ⟨rfl, 1, by decide⟩) (.inl ⟨rfl, 6, by decide⟩)
  have q6 := keepsP (c0 := 0) (c1 := 0) (c2 := 0) (c3 := 0) (c4 := 0) (c5 := 11) (c6 := 0) hp (by decide) (fun a x y => hd a y x) (O.rel c) nz 6 (.inl ⟨rfl, 2, by decide⟩) (.inl ⟨rfl, 8, by decide⟩) (.inl ⟨rfl, 7, by decide⟩) (.inl ⟨rfl, 5, by decide⟩) (.inl ⟨rfl, 10, by decide⟩) (.inr ⟨rfl, by decide⟩) (.inl ⟨rfl, 1, by decide⟩)
  have q7 := keepsP (c0 := 0) (c1 := 0) (c2 := 0) (c3 := 0) (c4 := 0) (c5 := 0) (c6 := 11) hp (by decide) (fun a x y => hd a y x) (O.rel c) nz 5 (.inl ⟨rfl, 9, by decide⟩) (.inl ⟨rfl, 2, by decide⟩) (.inl ⟨rfl, 8, by decide⟩) (.inl ⟨rfl, 7, by decide⟩) (.inl ⟨rfl, 5, by decide⟩) (.inl ⟨rfl, 10, by decide⟩) (.inr ⟨rfl, by decide⟩)
  clear hp hd nz z
  omega
theorem no13 {V : Nat → Nat → Int} {f0 f1 f2 f3 f4 f5 f6 : Int} (O : Orb 13 V f0 f1 f2 f3 f4 f5 f6) (hz : ¬ (f0 = 0 ∧ f1 = 0 ∧ f2 = 0 ∧ f3 = 0 ∧ f4 = 0 ∧ f5 = 0 ∧ f6 = 0)) : ∃ m, 0 < m ∧ m < 13 ∧ ∀ c, V m c = V 0 c := by
  refine ⟨1, by decide, by decide, fun c => Classical.byContradiction fun z => hz ?_⟩
  have hp := O.per c
  have nz : (fun k => V k c) (0 + 1) - (fun k => V k c) 0 ≠ 0 := fun y => z (Int.sub_eq_zero.mp y)
  have hd : ∀ a, a < 13 → 0 < a → Nat.gcd a 13 = 1 := by decide +kernel
  have q0 := keepsP (c0 := 0) (c1 := 0) (c2 := 0) (c3 := 0) (c4 := 0) (c5 := 0) (c6 := 0) hp (by decide) (fun a x y => hd a y x) (O.rel c) nz 1 (.inl ⟨rfl, 1, by decide⟩) (.inl ⟨rfl, 7, by decide⟩) (.inl ⟨rfl, 9, by decide⟩) (.inl ⟨rfl, 10, by decide⟩) (.inl ⟨rfl, 8, by decide⟩) (.inl ⟨rfl, 11, by decide⟩) (.inl ⟨rfl, 2, by decide⟩)
  have q1 := keepsP (c0 := 13) (c1 := 0) (c2 := 0) (c3 := 0) (c4 := 0) (c5 := 0) (c6 := 0) hp (by decide) (fun a x y => hd a y x) (O.rel c) nz 13 (.inr ⟨rfl, by decide⟩) (.inl ⟨rfl, 1, by decide⟩) (.inl ⟨rfl, 7, by decide⟩) (.inl ⟨rfl, 9, by decide⟩) (.inl ⟨rfl, 10, by decide⟩) (.inl ⟨rfl, 8, by decide⟩) (.inl ⟨rfl, 11, by decide⟩)
  have q2 := keepsP (c0 := 0) (c1 := 13) (c2 := 0) (c3 := 0) (c4 := 0) (c5 := 0) (c6 := 0) hp (by decide) (fun a x y => hd a y x) (O.rel c) nz 12 (.inl ⟨rfl, 12, by decide⟩) (.inr ⟨rfl, by decide⟩) (.inl ⟨rfl, 1, by decide⟩) (.inl ⟨rfl, 7, by decide⟩) (.inl ⟨rfl, 9, by decide⟩) (.inl ⟨rfl, 10, by decide⟩) (.inl ⟨rfl, 8, by decide⟩)
  have q3 := keepsP (c0 := 0) (c1 := 0) (c2 := 13) (c3 := 0) (c4 := 0) (c5 := 0) (c6 := 0) hp (by decide) (fun a x y => hd a y x) (O.rel c) nz 11 (.inl ⟨rfl, 6, by decide⟩) (.inl ⟨rfl, 12, by decide⟩) (.inr ⟨rfl, by decide⟩) (.inl ⟨rfl, 1, by decide⟩) (.inl ⟨rfl, 7, by decide⟩) (.inl ⟨rfl, 9, by decide⟩) (.inl ⟨rfl, 10, by decide⟩)
  have q4 := keepsP (c0 := 0) (c1 := 0) (c2 := 0) (c3 := 13) (c4 := 0) (c5 := 0) (c6 := 0) hp (by decide) (fun a x y => hd a y x) (O.rel c) nz 10 (.inl ⟨rfl, 4, by decide⟩) (.inl ⟨rfl, 6, by decide⟩) (.inl ⟨rfl, 12, by decide⟩) (.inr ⟨rfl, by decide⟩) (.inl ⟨rfl, 1, by decide⟩) (.inl ⟨rfl, 7, by decide⟩) (.inl ⟨rfl, 9, by decide⟩)
  have q5 := keepsP (c0 := 0) (c1 := 0) (c2 := 0) (c3 := 0) (c4 := 13) (c5 := 0) (c6 := 0) hp (by decide) (fun a x y => hd a y x) (O.rel c) nz 9 (.inl ⟨rfl, 3, by decide⟩) (.inl ⟨rfl, 4, by decide⟩) (.inl ⟨rfl, 6, by decide⟩) (.inl ⟨rfl, 12, by decide⟩) (.inr ⟨rfl, by decide⟩) (.inl ⟨rfl, 1, by decide⟩) (.inl ⟨rfl, 7, by decide⟩)
  have q6 := keepsP (c0 := 0) (c1 := 0) (c2 := 0) (c3 := 0) (c4 := 0) (c5 := 13) (c6 := 0) hp (by decide) (fun a x y => hd a y x) (O.rel c) nz 8 (.inl ⟨rfl, 5, by decide⟩) (.inl ⟨rfl, 3, by decide⟩) (.inl ⟨rfl, 4, by decide⟩) (.inl ⟨rfl, 6, by decide⟩) (.inl ⟨rfl, 12, by decide⟩) (.inr ⟨rfl, by decide⟩) (.inl ⟨rfl, 1, by decide⟩)
  have q7 := keepsP (c0 := 0) (c1 := 0) (c2 := 0) (c3 := 0) (c4 := 0) (c5 := 0) (c6 := 13) hp (by decide) (fun a x y => hd a y x) (O.rel c) nz 7 (.inl ⟨rfl, 2, by decide⟩) (.inl ⟨rfl, 5, by decide⟩) (.inl ⟨rfl, 3, by decide⟩) (.inl ⟨rfl, 4, by decide⟩) (.inl ⟨rfl, 6, by decide⟩) (.inl ⟨rfl, 12, by decide⟩) (.inr ⟨rfl, by decide⟩)
  clear hp hd nz z
  omega
theorem no16 {V : Nat → Nat → Int} {f0 f1 f2 f3 f4 f5 f6 : Int} (O : Orb 16 V f0 f1 f2 f3 f4 f5 f6) (hz : ¬ (f0 = 0 ∧ f1 = 0 ∧ f2 = 0 ∧ f3 = 0 ∧ f4 = 0 ∧ f5 = 0 ∧ f6 = 0)) : ∃ m, 0 < m ∧ m < 16 ∧ ∀ c, V m c = V 0 c := by
  refine Classical.byContradiction fun nm => hz ?_
  obtain z | ⟨x0, mx0, c0, k0, nz0⟩ := O.alt (m := 8) (by decide) [(1, t1), (2, t2), (4, t4), (8, t8)] [(16, t16)] (by decide +kernel) (by decide +kernel)
  · exact absurd ⟨8, by decide, by decide, z⟩ nm
  simp only [List.mem_cons, List.not_mem_nil, or_false] at mx0
  subst mx0
  exact has16 (O.per c0) (by decide) (O.rel c0) nz0
theorem no17 {V : Nat → Nat → Int} {f0 f1 f2 f3 f4 f5 f6 : Int} (O : Orb 17 V f0 f1 f2 f3 f4 f5 f6) (hz : ¬ (f0 = 0 ∧ f1 = 0 ∧ f2 = 0 ∧ f3 = 0 ∧ f4 = 0 ∧ f5 = 0 ∧ f6 = 0)) : ∃ m, 0 < m ∧ m < 17 ∧ ∀ c, V m c = V 0 c := by
  refine ⟨1, by decide, by decide, fun c => Classical.byContradiction fun z => hz ?_⟩
  have hp := O.per c
  have nz : (fun k => V k c) (0 + 1) - (fun k => V k c) 0 ≠ 0 := fun y => z (Int.sub_eq_zero.mp y)
  have hd : ∀ a, a < 17 → 0 < a → Nat.gcd a 17 = 1 := by decide +kernel
  have q0 := keepsP (c0 := 0) (c1 := 0) (c2 := 0) (c3 := 0) (c4 := 0) (c5 := 0) (c6 := 0) hp (by decide) (fun a x y => hd a y x) (O.rel c) nz 1 (.inl ⟨rfl, 1, by decide⟩) (.inl ⟨rfl, 9, by decide⟩) (.inl ⟨rfl, 6, by decide⟩) (.inl ⟨rfl, 13, by decide⟩) (.inl ⟨rfl, 7, by decide⟩) (.inl ⟨rfl, 3, by decide⟩) (.inl ⟨rfl, 5, by decide⟩)
  have q1 := keepsP (c0 := 17) (c1 := 0) (c2 := 0) (c3 := 0) (c4 := 0) (c5 := 0) (c6 := 0) hp (by decide) (fun a x y => hd a y x) (O.rel c) nz 17 (.inr ⟨rfl, by decide⟩) (.inl ⟨rfl, 1, by decide⟩) (.inl ⟨rfl, 9, by decide⟩) (.inl ⟨rfl, 6, by decide⟩) (.inl ⟨rfl, 13, by decide⟩) (.inl ⟨rfl, 7, by decide⟩) (.inl ⟨rfl, 3, by decide⟩)
  have q2 := keepsP (c0 := 0) (c1 := 17) (c2 := 0) (c3 := 0) (c4 := 0) (c5 := 0) (c6 := 0) hp (by decide) (fun a x y => hd a y x) (O.rel c) nz 16 (.inl ⟨rfl, 16, by decide⟩) (.inr ⟨rfl, by decide⟩) (.inl ⟨rfl, 1, by decide⟩) (.inl ⟨rfl, 9, by decide⟩) (.inl ⟨rfl, 6, by decide⟩) (.inl ⟨rfl, 13, by decide⟩) (.inl ⟨rfl, 7, by decide⟩)
  have q3 := keepsP (c0 := 0) (c1 := 0) (c2 := 17) (c3 := 0) (c4 := 0) (c5 := 0) (c6 := 0) hp (by decide) (fun a x y => hd a y x) (O.rel c) nz 15 (.inl ⟨rfl, 8, by decide⟩) (.inl ⟨rfl, 16, by decide⟩) (.inr ⟨rfl, by decide⟩) (.inl ⟨rfl, 1, by decide⟩) (.inl ⟨rfl, 9, by decide⟩) (.inl ⟨rfl, 6, by decide⟩) (.inl ⟨rfl, 13, by decide⟩)
  have q4 := keepsP (c0 := 0) (c1 := 0) (c2 := 0) (c3 := 17) (c4 := 0) (c5 := 0) (c6 := 0) hp (by decide) (fun a x y => hd a y x) (O.rel c) nz 14 (.inl ⟨rfl, 11, by decide⟩) (.inl ⟨rfl, 8, by decide⟩) (.inl ⟨rfl, 16, by decide⟩) (.inr ⟨rfl, by decide⟩) (.inl ⟨rfl, 1, by decide⟩) (.inl ⟨rfl, 9, by decide⟩) (.inl ⟨rfl, 6, by decide⟩)
  have q5 := keepsP (c0 := 0) (c1 := 0) (c2 := 0) (c3 := 0) (c4 := 17) (c5 := 0) (c6 := 0) hp (by decide) (fun a x y => hd a y x) (O.rel c) nz 13 (.inl ⟨rfl, 4, by decide⟩) (.inl ⟨rfl, 11, by decide⟩) (.inl ⟨rfl, 8, by decide⟩) (.inl ⟨rfl, 16, by decide⟩) (.inr ⟨rfl, by decide⟩) (.inl ⟨rfl, 1, by decide⟩) (.inl ⟨rfl, 9, by decide⟩)
  have q6 := keepsP (c0 := 0) (c1 := 0) (c2 := 0) (c3 := 0) (c4 := 0) (c5 := 17) (c6 := 0) hp (by decide) (fun a x y => hd a y x) (O.rel c) nz 12 (.inl ⟨rfl, 10, by decide⟩) (.inl ⟨rfl, 4, by decide⟩) (.inl ⟨rfl, 11, by decide⟩) (.inl ⟨rfl, 8, by decide⟩) (.inl ⟨rfl, 16, by decide⟩) (.inr ⟨rfl, by decide⟩) (.inl ⟨rfl, 1, by decide⟩)
  have q7 := keepsP (c0 := 0) (c1 := 0) (c2 := 0) (c3 := 0) (c4 := 0) (c5 := 0) (c6 := 17) hp (by decide) (fun a x y => hd a y x) (O.rel c) nz 11 (.inl ⟨rfl, 14, by decide⟩) (.inl ⟨rfl, 10, by decide⟩) (.inl ⟨rfl, 4, by decide⟩) (.inl ⟨rfl, 11, by decide⟩) (.inl ⟨rfl, 8, by decide⟩) (.inl ⟨rfl, 16, by decide⟩) (.inr ⟨rfl, by decide⟩)
  clear hp hd nz z
  omega
theorem no19 {V : Nat → Nat → Int} {f0 f1 f2 f3 f4 f5 f6 : Int} (O : Orb 19 V f0 f1 f2 f3 f4 f5 f6) (hz : ¬ (f0 = 0 ∧ f1 = 0 ∧ f2 = 0 ∧ f3 = 0 ∧ f4 = 0 ∧ f5 = 0 ∧ f6 = 0)) : ∃ m, 0 < m ∧ m < 19 ∧ ∀ c, V m c = V 0 c := by
  refine ⟨1, by decide, by decide, fun c => Classical.byContradiction fun z => hz ?_⟩
  have hp := O.per c
  have nz : (fun k => V k c) (0 + 1) - (fun k => V k c) 0 ≠ 0 := fun y => z (Int.sub_eq_zero.mp y)
  have hd : ∀ a, a < 19 → 0 < a → Nat.gcd a 19 = 1 := by decide +kernel
  have q0 := keepsP (c0 := 0) (c1 := 0) (c2 := 0) (c3 := 0) (c4 := 0) (c5 := 0) (c6 := 0) hp (by decide) (fun a x y => hd a y x) (O.rel c) nz 1 (.inl ⟨rfl, 1, by decide⟩) (.inl ⟨rfl, 10, by decide⟩) (.inl ⟨rfl, 13, by decide⟩) (.inl ⟨rfl, 5, by decide⟩) (.inl ⟨rfl, 4, by decide⟩) (.inl ⟨rfl, 16, by decide⟩) (.inl ⟨rfl, 11, by decide⟩)
  have q1 := keepsP (c0 := 19) (c1 := 0) (c2 := 0) (c3 := 0) (c4 := 0) (c5 := 0) (c6 := 0) hp (by decide) (fun a x y => hd a y x) (O.rel c) nz 19 (.inr ⟨rfl, by decide⟩) (.inl ⟨rfl, 1, by decide⟩) (.inl ⟨rfl, 10, by decide⟩) (.inl ⟨rfl, 13, by decide⟩) (.inl ⟨rfl, 5, by decide⟩) (.inl ⟨rfl, 4, by decide⟩) (.inl ⟨rfl, 16, by decide⟩)
  have q2 := keepsP (c0 := 0) (c1 := 19) (c2 := 0) (c3 := 0) (c4 := 0) (c5 := 0) (c6 := 0) hp (by decide) (fun a x y => hd a y x) (O.rel c) nz 18 (.inl ⟨rfl, 18, by decide⟩) (.inr ⟨rfl, by decide⟩) (.inl ⟨rfl, 1, by decide⟩) (.inl ⟨rfl, 10, by decide⟩) (.inl ⟨rfl, 13, by decide⟩) (.inl ⟨rfl, 5, by decide⟩) (.inl ⟨rfl, 4, by decide⟩)
  have q3 := keepsP (c0 := 0) (c1 := 0) (c2 := 19) (c3 := 0) (c4 := 0) (c5 := 0) (c6 := 0) hp (by decide) (fun a x y => hd a y x) (O.rel c) nz 17 (.inl ⟨rfl, 9, by decide⟩) (.inl ⟨rfl, 18, by decide⟩) (.inr ⟨rfl, by decide⟩) (.inl ⟨rfl, 1, by decide⟩) (.inl ⟨rfl, 10, by decide⟩) (.inl ⟨rfl, 13, by decide⟩) (.inl ⟨rfl, 5, by decide⟩)
  have q4 := keepsP (c0 := 0) (c1 := 0) (c2 := 0) (c3 := 19) (c4 := 0) (c5 := 0) (c6 := 0) hp (by decide) (fun a x y => hd a y x) (O.rel c) nz 16 (.inl ⟨rfl, 6, by decide⟩) (.inl ⟨rfl, 9, by decide⟩) (.inl ⟨rfl, 18, by decide⟩) (.inr ⟨rfl, by decide⟩) (.inl ⟨rfl, 1, by decide⟩) (.inl ⟨rfl, 10, by decide⟩) (.inl ⟨rfl, 13, by decide⟩)
  have q5 := keepsP (c0 := 0) (c1 := 0) (c2 := 0) (c3 := 0) (c4 := 19) (c5 := 0) (c6 := 0) hp (by decide) (fun a x y => hd a y x) (O.rel c) nz 15 (.inl ⟨rfl, 14, by decide⟩) (.inl ⟨rfl, 6, by decide⟩) (.inl ⟨rfl, 9, by decide⟩) (.inl ⟨rfl, 18, by decide⟩) (.inr ⟨rfl, by decide⟩) (.inl ⟨rfl, 1, by decide⟩) (.inl ⟨rfl, 10, by decide⟩)
  have q6 := keepsP (c0 := 0) (c1 := 0) (c2 := 0) (c3 := 0) (c4 := 0) (c5 := 19) (c6 := 0) hp (by decide) (fun a x y => hd a y x) (O.rel c) nz 14 (.inl ⟨rfl, 15, by decide⟩) (.inl ⟨rfl, 14, by decide⟩) (.inl ⟨rfl, 6, by decide⟩) (.inl ⟨rfl, 9, by decide⟩) (.inl ⟨rfl, 18, by decide⟩) (.inr ⟨rfl, by decide⟩) (.inl ⟨rfl, 1, by decide⟩)
  have q7 := keepsP (c0 := 0) (c1 := 0) (c2 := 0) (c3 := 0) (c4 := 0) (c5 := 0) (c6 := 19) hp (by decide) (fun a x y => hd a y x) (O.rel c) nz 13 (.inl ⟨rfl, 3, by decide⟩) (.inl ⟨rfl, 15, by decide⟩) (.inl ⟨rfl, 14, by decide⟩) (.inl ⟨rfl, 6, by decide⟩) (.inl ⟨rfl, 9, by decide⟩) (.inl ⟨rfl, 18, by decide⟩) (.inr ⟨rfl, by decide⟩)
  clear hp hd nz z
  omega
theorem no21 {V : Nat → Nat → Int} {f0 f1 f2 f3 f4 f5 f6 : Int} (O : Orb 21 V f0 f1 f2 f3 f4 f5 f6) (hz : ¬ (f0 = 0 ∧ f1 = 0 ∧ f2 = 0 ∧ f3 = 0 ∧ f4 = 0 ∧ f5 = 0 ∧ f6 = 0)) : ∃ m, 0 < m ∧ m < 21 ∧ ∀ c, V m c = V 0 c := by
  refine Classical.byContradiction fun nm => hz ?_
  obtain z | ⟨x0, mx0, c0, k0, nz0⟩ := O.alt (m := 7) (by decide) [(1, t1), (7, t7)] [(3, t3), (21, t21)] (by decide +kernel) (by decide +kernel)
  · exact absurd ⟨7, by decide, by decide, z⟩ nm
  have k0_ : ((f0 * 2 + (f1 * (-1) + (f2 * (-1) + (f3 * 2 + (f4 * (-1) + (f5 * (-1) + f6 * 2))))) = 0 ∧ f0 * (-1) + (f1 * (-1) + (f2 * 2 + (f3 * (-1) + (f4 * (-1) + (f5 * 2 + f6 * (-1)))))) = 0)) := by
    simp only [List.mem_cons, List.not_mem_nil, or_false] at mx0
    rcases mx0 with rfl | rfl
    · exact has3 (O.per c0) (by decide) (O.rel c0) nz0
    · exact absurd (has21 (O.per c0) (by decide) (O.rel c0) nz0) hz
  obtain z | ⟨x1, mx1, c1, k1, nz1⟩ := O.alt (m := 3) (by decide) [(1, t1), (3, t3)] [(7, t7), (21, t21)] (by decide +kernel) (by decide +kernel)
  · exact absurd ⟨3, by decide, by decide, z⟩ nm
  have k1_ : ((f0 * 6 + (f1 * (-1) + (f2 * (-1) + (f3 * (-1) + (f4 * (-1) + (f5 * (-1) + f6 * (-1)))))) = 0 ∧ f0 * (-1) + (f1 * (-1) + (f2 * (-1) + (f3 * (-1) + (f4 * (-1) + (f5 * (-1) + f6 * 6))))) = 0 ∧ f0 * (-1) + (f1 * (-1) + (f2 * (-1) + (f3 * (-1) + (f4 * (-1) + (f5 * 6 + f6 * (-1)))))) = 0 ∧ f0 * (-1) + (f1 * (-1) + (f2 * (-1) + (f3 * (-1) + (f4 * 6 + (f5 * (-1) + f6 * (-1)))))) = 0 ∧ f0 * (-1) + (f1 * (-1) + (f2 * (-1) + (f3 * 6 + (f4 * (-1) + (f5 * (-1) + f6 * (-1)))))) = 0 ∧ f0 * (-1) + (f1 * (-1) + (f2 * 6 + (f3 * (-1) + (f4 * (-1) + (f5 * (-1) + f6 * (-1)))))) = 0)) := by
    simp only [List.mem_cons, List.not_mem_nil, or_false] at mx1
    rcases mx1 with rfl | rfl
    · exact has7 (O.per c1) (by decide) (O.rel c1) nz1
    · exact absurd (has21 (O.per c1) (by decide) (O.rel c1) nz1) hz
  rcases k0_ with k0_ <;> rcases k1_ with k1_
  · exact comb3_7 k0_ k1_
theorem no23 {V : Nat → Nat → Int} {f0 f1 f2 f3 f4 f5 f6 : Int} (O : Orb 23 V f0 f1 f2 f3 f4 f5 f6) (hz : ¬ (f0 = 0 ∧ f1 = 0 ∧ f2 = 0 ∧ f3 = 0 ∧ f4 = 0 ∧ f5 = 0 ∧ f6 = 0)) : ∃ m, 0 < m ∧ m < 23 ∧ ∀ c, V m c = V 0 c := by
  refine ⟨1, by decide, by decide, fun c => Classical.byContradiction fun z => hz ?_⟩
  have hp := O.per c
  have nz : (fun k => V k c) (0 + 1) - (fun k => V k c) 0 ≠ 0 := fun y => z (Int.sub_eq_zero.mp y)
  have hd : ∀ a, a < 23 → 0 < a → Nat.gcd a 23 = 1 := by decide +kernel
  have q0 := keepsP (c0 := 0) (c1 := 0) (c2 := 0) (c3 := 0) (c4 := 0) (c5 := 0) (c6 := 0) hp (by decide) (fun a x y => hd a y x) (O.rel c) nz 1 (.inl ⟨rfl, 1, by decide⟩) (.inl ⟨rfl, 12, by decide⟩) (.inl ⟨rfl, 8, by decide⟩) (.inl ⟨rfl, 6, by decide⟩) (.inl ⟨rfl, 14, by decide⟩) (.inl ⟨rfl, 4, by decide⟩) (.inl ⟨rfl, 10, by decide⟩)
  have q1 := keepsP (c0 := 23) (c1 := 0) (c2 := 0) (c3 := 0) (c4 := 0) (c5 := 0) (c6 := 0) hp (by decide) (fun a x y => hd a y x) (O.rel c) nz 23 (.inr ⟨rfl, by decide⟩) (.inl ⟨rfl, 1, by decide⟩) (.inl ⟨rfl, 12, by decide⟩) (.inl ⟨rfl, 8, by decide⟩) (.inl ⟨rfl, 6, by decide⟩) (.inl ⟨rfl, 14, by decide⟩) (.inl ⟨rfl, 4, by decide⟩)
  have q2 := keepsP (c0 := 0) (c1 := 23) (c2 := 0) (c3 := 0) (c4 := 0) (c5 := 0) (c6 := 0) hp (by decide) (fun a x y => hd a y x) (O.rel c) nz 22 (.inl ⟨rfl, 22, by decide⟩) (.inr ⟨rfl, by decide⟩) (.inl ⟨rfl, 1, by decide⟩) (.inl ⟨rfl, 12, by decide⟩) (.inl ⟨rfl, 8, by decide⟩) (.inl ⟨rfl, 6, by decide⟩) (.inl ⟨rfl, 14, by decide⟩)
  have q3 := keepsP (c0 := 0) (c1 := 0) (c2 := 23) (c3 := 0) (c4 := 0) (c5 := 0) (c6 := 0) hp (by decide) (fun a x y => hd a y x) (O.rel c) nz 21 (.inl ⟨rfl, 11, by decide⟩) (.inl ⟨rfl, 22, by decide⟩) (.inr ⟨rfl, by decide⟩) (.inl ⟨rfl, 1, by decide⟩) (.inl ⟨rfl, 12, by decide⟩) (.inl ⟨rfl, 8, by decide⟩) (.inl ⟨rfl, 6, by decide⟩)
  have q4 := keepsP (c0 := 0) (c1 := 0) (c2 := 0) (c3 := 23) (c4 := 0) (c5 := 0) (c6 := 0) hp (by decide) (fun a x y => hd a y x) (O.rel c) nz 20 (.inl ⟨rfl, 15, by decide⟩) (.inl ⟨rfl, 11, by decide⟩) (.inl ⟨rfl, 22, by decide⟩) (.inr ⟨rfl, by decide⟩) (.inl ⟨rfl, 1, by decide⟩) (.inl ⟨rfl, 12, by decide⟩) (.inl ⟨rfl, 8, by decide⟩)
  have q5 := keepsP (c0 := 0) (c1 := 0) (c2 := 0) (c3 := 0) (c4 := 23) (c5 := 0) (c6 := 0) hp (by decide) (fun a x y => hd a y x) (O.rel c) nz 19 (.inl ⟨rfl, 17, by decide⟩) (.inl ⟨rfl, 15, by decide⟩) (.inl ⟨rfl, 11, by decide⟩) (.inl ⟨rfl, 22, by decide⟩) (.inr ⟨rfl, by decide⟩) (.inl ⟨rfl, 1, by decide⟩) (.inl ⟨rfl, 12, by decide⟩)
  have q6 := keepsP (c0 := 0) (c1 := 0) (c2 := 0) (c3 := 0) (c4 := 0) (c5 := 23) (c6 := 0) hp (by decide) (fun a x y => hd a y x) (O.rel c) nz 18 (.inl ⟨rfl, 9, by decide⟩) (.inl ⟨rfl, 17, by decide⟩) (.inl ⟨rfl, 15, by decide⟩) (.inl ⟨rfl, 11, by decide⟩) (.inl ⟨rfl, 22, by decide⟩) (.inr ⟨rfl, by decide⟩) (.inl ⟨rfl, 1, by decide⟩)
  have q7 := keepsP (c0 := 0) (c1 := 0) (c2 := 0) (c3 := 0) (c4 := 0) (c5 := 0) (c6 := 23) hp (by decide) (fun a x y => hd a y x) (O.rel c) nz 17 (.inl ⟨rfl, 19, by decide⟩) (.inl ⟨rfl, 9, by decide⟩) (.inl ⟨rfl, 17, by decide⟩) (.inl ⟨rfl, 15, by decide⟩) (.inl ⟨rfl, 11, by decide⟩) (.inl ⟨rfl, 22, by decide⟩) (.inr ⟨rfl, by decide⟩)
  clear hp hd nz z
  omega
theorem no25 {V : Nat → Nat → Int} {f0 f1 f2 f3 f4 f5 f6 : Int} (O : Orb 25 V f0 f1 f2 f3 f4 f5 f6) (hz : ¬ (f0 = 0 ∧ f1 = 0 ∧ f2 = 0 ∧ f3 = 0 ∧ f4 = 0 ∧ f5 = 0 ∧ f6 = 0)) : ∃ m, 0 < m ∧ m < 25 ∧ ∀ c, V m c = V 0 c := by
  refine Classical.byContradiction fun nm => hz ?_
  obtain z | ⟨x0, mx0, c0, k0, nz0⟩ := O.alt (m := 5) (by decide) [(1, t1), (5, t5)] [(25, t25)] (by decide +kernel) (by decide +kernel)
  · exact absurd ⟨5, by decide, by decide, z⟩ nm
  simp only [List.mem_cons, List.not_mem_nil, or_false] at mx0
  subst mx0
  exact has25 (O.per c0) (by decide) (O.rel c0) nz0
theorem no27 {V : Nat → Nat → Int} {f0 f1 f2 f3 f4 f5 f6 : Int} (O : Orb 27 V f0 f1 f2 f3 f4 f5 f6) (hz : ¬ (f0 = 0 ∧ f1 = 0 ∧ f2 = 0 ∧ f3 = 0 ∧ f4 = 0 ∧ f5 = 0 ∧ f6 = 0)) : ∃ m, 0 < m ∧ m < 27 ∧ ∀ c, V m c = V 0 c := by
  refine Classical.byContradiction fun nm => hz ?_
  obtain z | ⟨x0, mx0, c0, k0, nz0⟩ := O.alt (m := 9) (by decide) [(1, t1), (3, t3), (9, t9)] [(27, t27)] (by decide +kernel) (by decide +kernel)
  · exact absurd ⟨9, by decide, by decide, z⟩ nm
  simp only [List.mem_cons, List.not_mem_nil, or_false] at mx0
  subst mx0
  exact has27 (O.per c0) (by decide) (O.rel c0) nz0
theorem no28 {V : Nat → Nat → Int} {f0 f1 f2 f3 f4 f5 f6 : Int} (O : Orb 28 V f0 f1 f2 f3 f4 f5 f6) (hz : ¬ (f0 = 0 ∧ f1 = 0 ∧ f2 = 0 ∧ f3 = 0 ∧ f4 = 0 ∧ f5 = 0 ∧ f6 = 0)) : ∃ m, 0 < m ∧ m < 28 ∧ ∀ c, V m c = V 0 c := by
  refine Classical.byContradiction fun nm => hz ?_
  obtain z | ⟨x0, mx0, c0, k0, nz0⟩ := O.alt (m := 14) (by decide) [(1, t1), (2, t2), (7, t7), (14, t14)] [(4, t4), (28, t28)] (by decide +kernel) (by decide +kernel)
  · exact absurd ⟨14, by decide, by decide, z⟩ nm
  have k0_ : ((f0 * 2 + (f1 * 0 + (f2 * (-2) + (f3 * 0 + (f4 * 2 + (f5 * 0 + f6 * (-2)))))) = 0 ∧ f0 * 0 + (f1 * (-2) + (f2 * 0 + (f3 * 2 + (f4 * 0 + (f5 * (-2) + f6 * 0))))) = 0)) := by
    simp only [List.mem_cons, List.not_mem_nil, or_false] at mx0
    rcases mx0 with rfl | rfl
    · exact has4 (O.per c0) (by decide) (O.rel c0) nz0
    · exact absurd (has28 (O.per c0) (by decide) (O.rel c0) nz0) hz
  obtain z | ⟨x1, mx1, c1, k1, nz1⟩ := O.alt (m := 4) (by decide) [(1, t1), (2, t2), (4, t4)] [(7, t7), (14, t14), (28, t28)] (by decide +kernel) (by decide +kernel)
  · exact absurd ⟨4, by decide, by decide, z⟩ nm
  have k1_ : ((f0 * 6 + (f1 * (-1) + (f2 * (-1) + (f3 * (-1) + (f4 * (-1) + (f5 * (-1) + f6 * (-1)))))) = 0 ∧ f0 * (-1) + (f1 * (-1) + (f2 * (-1) + (f3 * (-1) + (f4 * (-1) + (f5 * (-1) + f6 * 6))))) = 0 ∧ f0 * (-1) + (f1 * (-1) + (f2 * (-1) + (f3 * (-1) + (f4 * (-1) + (f5 * 6 + f6 * (-1)))))) = 0 ∧ f0 * (-1) + (f1 * (-1) + (f2 * (-1) + (f3 * (-1) + (f4 * 6 + (f5 * (-1) + f6 * (-1)))))) = 0 ∧ f0 * (-1) + (f1 * (-1) + (f2 * (-1) + (f3 * 6 + (f4 * (-1) + (f5 * (-1) + f6 * (-1)))))) = 0 ∧ f0 * (-1) + (f1 * (-1) + (f2 * 6 + (f3 * (-1) + (f4 * (-1) + (f5 * (-1) + f6 * (-1)))))) = 0) ∨ (f0 * 6 + (f1 * 1 + (f2 * (-1) + (f3 * 1 + (f4 * (-1) + (f5 * 1 + f6 * (-1)))))) = 0 ∧ f0 * 1 + (f1 * (-1) + (f2 * 1 + (f3 * (-1) + (f4 * 1 + (f5 * (-1) + f6 * (-6)))))) = 0 ∧ f0 * (-1) + (f1 * 1 + (f2 * (-1) + (f3 * 1 + (f4 * (-1) + (f5 * (-6) + f6 * (-1)))))) = 0 ∧ f0 * 1 + (f1 * (-1) + (f2 * 1 + (f3 * (-1) + (f4 * (-6) + (f5 * (-1) + f6 * 1))))) = 0 ∧ f0 * (-1) + (f1 * 1 + (f2 * (-1) + (f3 * (-6) + (f4 * (-1) + (f5 * 1 + f6 * (-1)))))) = 0 ∧ f0 * 1 + (f1 * (-1) + (f2 * (-6) + (f3 * (-1) + (f4 * 1 + (f5 * (-1) + f6 * 1))))) = 0)) := by
    simp only [List.mem_cons, List.not_mem_nil, or_false] at mx1
    rcases mx1 with rfl | rfl | rfl
    · exact .inl (has7 (O.per c1) (by decide) (O.rel c1) nz1)
    · exact .inr (has14 (O.per c1) (by decide) (O.rel c1) nz1)
    · exact absurd (has28 (O.per c1) (by decide) (O.rel c1) nz1) hz
  rcases k0_ with k0_ <;> rcases k1_ with k1_ | k1_
  · exact comb4_7 k0_ k1_
  · exact comb4_14 k0_ k1_
theorem no29 {V : Nat → Nat → Int} {f0 f1 f2 f3 f4 f5 f6 : Int} (O : Orb 29 V f0 f1 f2 f3 f4 f5 f6) (hz : ¬ (f0 = 0 ∧ f1 = 0 ∧ f2 = 0 ∧ f3 = 0 ∧ f4 = 0 ∧ f5 = 0 ∧ f6 = 0)) : ∃ m, 0 < m ∧ m < 29 ∧ ∀ c, V m c = V 0 c := by
  refine ⟨1, by decide, by decide, fun c => Classical.byContradiction fun z => hz ?_⟩
  have hp := O.per c
  have nz : (fun k => V k c) (0 + 1) - (fun k => V k c) 0 ≠ 0 := fun y => z (Int.sub_eq_zero.mp y)
  have hd : ∀ a, a < 29 → 0 < a → Nat.gcd a 29 = 1 := by decide +kernel
  have q0 := keepsP (c0 := 0) (c1 := 0) (c2 := 0) (c3 := 0) (c4 := 0) (c5 := 0) (c6 := 0) hp (by decide) (fun a x y => hd a y x) (O.rel c) nz 1 (.inl ⟨rfl, 1, by decide⟩) (.inl ⟨rfl, 15, by decide⟩) (.inl ⟨rfl, 10, by decide⟩) (.inl ⟨rfl, 22, by decide⟩) (.inl ⟨rfl, 6, by decide⟩) (.inl ⟨rfl, 5, by decide⟩) (.inl ⟨rfl, 25, by decide⟩)
  have q1 := keepsP (c0 := 29) (c1 := 0) (c2 := 0) (c3 := 0) (c4 := 0) (c5 := 0) (c6 := 0) hp (by decide) (fun a x y => hd a y x) (O.rel c) nz 29 (.inr ⟨rfl, by decide⟩) (.inl ⟨rfl, 1, by decide⟩) (.inl ⟨rfl, 15, by decide⟩) (.inl ⟨rfl, 10, by decide⟩) (.inl ⟨rfl, 22, by decide⟩) (.inl ⟨rfl, 6, by decide⟩) (.inl ⟨rfl, 5, by decide⟩)
  have q2 := keepsP (c0 := 0) (c1 := 29) (c2 := 0) (c3 := 0) (c4 := 0) (c5 := 0) (c6 := 0) hp (by decide) (fun a x y => hd a y x) (O.rel c) nz 28 (.inl ⟨rfl, 28, by decide⟩) (.inr ⟨rfl, by decide⟩) (.inl ⟨rfl, 1, by decide⟩) (.inl ⟨rfl, 15, by decide⟩) (.inl ⟨rfl, 10, by decide⟩) (.inl ⟨rfl, 22, by decide⟩) (.inl ⟨rfl, 6, by decide⟩)
  have q3 := keepsP (c0 := 0) (c1 := 0) (c2 := 29) (c3 := 0) (c4 := 0) (c5 := 0) (c6 := 0) hp (by decide) (fun a x y => hd a y x) (O.rel c) nz 27 (.inl ⟨rfl, 14, by decide⟩) (.inl ⟨rfl, 28, by decide⟩) (.inr ⟨rfl, by decide⟩) (.inl ⟨rfl, 1, by decide⟩) (.inl ⟨rfl, 15, by decide⟩) (.inl ⟨rfl, 10, by decide⟩) (.inl ⟨rfl, 22, by decide⟩)
  have q4 := keepsP (c0 := 0) (c1 := 0) (c2 := 0) (c3 := 29) (c4 := 0) (c5 := 0) (c6 := 0) hp (by decide) (fun a x y => hd a y x) (O.rel c) nz 26 (.inl ⟨rfl, 19, by decide⟩) (.inl ⟨rfl, 14, by decide⟩) (.inl ⟨rfl, 28, by decide⟩) (.inr ⟨rfl, by decide⟩) (.inl ⟨rfl, 1, by decide⟩) (.inl ⟨rfl, 15, by decide⟩) (.inl ⟨rfl, 10, by decide⟩)
  have q5 := keepsP (c0 := 0) (c1 := 0) (c2 := 0) (c3 := 0) (c4 := 29) (c5 := 0) (c6 := 0) hp (by decide) (fun a x y => hd a y x) (O.rel c) nz 25 (.inl ⟨rfl, 7, by decide⟩) (.inl ⟨rfl, 19, by decide⟩) (.inl ⟨rfl, 14, by decide⟩) (.inl ⟨rfl, 28, by decide⟩) (.inr ⟨rfl, by decide⟩) (.inl ⟨rfl, 1, by decide⟩) (.inl ⟨rfl, 15, by decide⟩)
  have q6 := keepsP (c0 := 0) (c1 := 0) (c2 := 0) (c3 := 0) (c4 := 0) (c5 := 29) (c6 := 0) hp (by decide) (fun a x y => hd a y x) (O.rel c) nz 24 (.inl ⟨rfl, 23, by decide⟩) (.inl ⟨rfl, 7, by decide⟩) (.inl ⟨rfl, 19, by decide⟩) (.inl ⟨rfl, 14, by decide⟩) (.inl ⟨rfl, 28, by decide⟩) (.inr ⟨rfl, by decide⟩) (.inl ⟨rfl, 1, by decide⟩)
  have q7 := keepsP (c0 := 0) (c1 := 0) (c2 := 0) (c3 := 0) (c4 := 0) (c5 := 0) (c6 := 29) hp (by decide) (fun a x y => hd a y x) (O.rel c) nz 23 (.inl ⟨rfl, 24, by decide⟩) (.inl ⟨rfl, 23, by decide⟩) (.inl ⟨rfl, 7, by decide⟩) (.inl ⟨rfl, 19, by decide⟩) (.inl ⟨rfl, 14, by decide⟩) (.inl ⟨rfl, 28, by decide⟩) (.inr ⟨rfl, by decide⟩)
  clear hp hd nz z
  omega
theorem no31 {V : Nat → Nat → Int} {f0 f1 f2 f3 f4 f5 f6 : Int} (O : Orb 31 V f0 f1 f2 f3 f4 f5 f6) (hz : ¬ (f0 = 0 ∧ f1 = 0 ∧ f2 = 0 ∧ f3 = 0 ∧ f4 = 0 ∧ f5 = 0 ∧ f6 = 0)) : ∃ m, 0 < m ∧ m < 31 ∧ ∀ c, V m c = V 0 c := by
  refine ⟨1, by decide, by decide, fun c => Classical.byContradiction fun z => hz ?_⟩
  have hp := O.per c
  have nz : (fun k => V k c) (0 + 1) - (fun k => V k c) 0 ≠ 0 := fun y => z (Int.sub_eq_zero.mp y)
  have hd : ∀ a, a < 31 → 0 < a → Nat.gcd a 31 = 1 := by decide +kernel
  have q0 := keepsP (c0 := 0) (c1 := 0) (c2 := 0) (c3 := 0) (c4 := 0) (c5 := 0) (c6 := 0) hp (by decide) (fun a x y => hd a y x) (O.rel c) nz 1 (.inl ⟨rfl, 1, by decide⟩) (.inl ⟨rfl, 16, by decide⟩) (.inl ⟨rfl, 21, by decide⟩) (.inl ⟨rfl, 8, by decide⟩) (.inl ⟨rfl, 25, by decide⟩) (.inl ⟨rfl, 26, by decide⟩) (.inl ⟨rfl, 9, by decide⟩)
  have q1 := keepsP (c0 := 31) (c1 := 0) (c2 := 0) (c3 := 0) (c4 := 0) (c5 := 0) (c6 := 0) hp (by decide) (fun a x y => hd a y x) (O.rel c) nz 31 (.inr ⟨rfl, by decide⟩) (.inl ⟨rfl, 1, by decide⟩) (.inl ⟨rfl, 16, by decide⟩) (.inl ⟨rfl, 21, by decide⟩) (.inl ⟨rfl, 8, by decide⟩) (.inl ⟨rfl, 25, by decide⟩) (.inl ⟨rfl, 26, by decide⟩)
  have q2 := keepsP (c0 := 0) (c1 := 31) (c2 := 0) (c3 := 0) (c4 := 0) (c5 := 0) (c6 := 0) hp (by decide) (fun a x y => hd a y x) (O.rel c) nz 30 (.inl ⟨rfl, 30, by decide⟩) (.inr ⟨rfl, by decide⟩) (.inl ⟨rfl, 1, by decide⟩) (.inl ⟨rfl, 16, by decide⟩) (.inl ⟨rfl, 21, by decide⟩) (.inl ⟨rfl, 8, by decide⟩) (.inl ⟨rfl, 25, by decide⟩)
  have q3 := keepsP (c0 := 0) (c1 := 0) (c2 := 31) (c3 := 0) (c4 := 0) (c5 := 0) (c6 := 0) hp (by decide) (fun a x y => hd a y x) (O.rel c) nz 29 (.inl ⟨rfl, 15, by decide⟩) (.inl ⟨rfl, 30, by decide⟩) (.inr ⟨rfl, by decide⟩) (.inl ⟨rfl, 1, by decide⟩) (.inl ⟨rfl, 16, by decide⟩) (.inl ⟨rfl, 21, by decide⟩) (.inl ⟨rfl, 8, by decide⟩)
  have q4 := keepsP (c0 := 0) (c1 := 0) (c2 := 0) (c3 := 31) (c4 := 0) (c5 := 0) (c6 := 0) hp (by decide) (fun a x y => hd a y x) (O.rel c) nz 28 (.inl ⟨rfl, 10, by decide⟩) (.inl ⟨rfl, 15, by decide⟩) (.inl ⟨rfl, 30, by decide⟩) (.inr ⟨rfl, by decide⟩) (.inl ⟨rfl, 1, by decide⟩) (.inl ⟨rfl, 16, by decide⟩) (.inl ⟨rfl, 21, by decide⟩)
  have q5 := keepsP (c0 := 0) (c1 := 0) (c2 := 0) (c3 := 0) (c4 := 31) (c5 := 0) (c6 := 0) hp (by decide) (fun a x y => hd a y x) (O.rel c) nz 27 (.inl ⟨rfl, 23, by decide⟩) (.inl ⟨rfl, 10, by decide⟩) (.inl ⟨rfl, 15, by decide⟩) (.inl ⟨rfl, 30, by decide⟩) (.inr ⟨rfl, by decide⟩) (.inl ⟨rfl, 1, by decide⟩) (.inl ⟨rfl, 16, by decide⟩)
  have q6 := keepsP (c0 := 0) (c1 := 0) (c2 := 0) (c3 := 0) (c4 := 0) (c5 := 31) (c6 := 0) hp (by decide) (fun a x y => hd a y x) (O.rel c) nz 26 (.inl ⟨rfl, 6, by decide⟩) (.inl ⟨rfl, 23, by decide⟩) (.inl ⟨rfl, 10, by decide⟩) (.inl ⟨rfl, 15, by decide⟩) (.inl ⟨rfl, 30, by decide⟩) (.inr ⟨rfl, by decide⟩) (.inl ⟨rfl, 1, by decide⟩)
  have q7 := keepsP (c0 := 0) (c1 := 0) (c2 := 0) (c3 := 0) (c4 := 0) (c5 := 0) (c6 := 31) hp (by decide) (fun a x y => hd a y x) (O.rel c) nz 25 (.inl ⟨rfl, 5, by decide⟩) (.inl ⟨rfl, 6, by decide⟩) (.inl ⟨rfl, 23, by decide⟩) (.inl ⟨rfl, 10, by decide⟩) (.inl ⟨rfl, 15, by decide⟩) (.inl ⟨rfl, 30, by decide⟩) (.inr ⟨rfl, by decide⟩)
  clear hp hd nz z
  omega
theorem no35 {V : Nat → Nat → Int} {f0 f1 f2 f3 f4 f5 f6 : Int} (O : Orb 35 V f0 f1 f2 f3 f4 f5 f6) (hz : ¬ (f0 = 0 ∧ f1 = 0 ∧ f2 = 0 ∧ f3 = 0 ∧ f4 = 0 ∧ f5 = 0 ∧ f6 = 0)) : ∃ m, 0 < m ∧ m < 35 ∧ ∀ c, V m c = V 0 c := by
  refine Classical.byContradiction fun nm => hz ?_
  obtain z | ⟨x0, mx0, c0, k0, nz0⟩ := O.alt (m := 7) (by decide) [(1, t1), (7, t7)] [(5, t5), (35, t35)] (by decide +kernel) (by decide +kernel)
  · exact absurd ⟨7, by decide, by decide, z⟩ nm
  have k0_ : ((f0 * 4 + (f1 * (-1) + (f2 * (-1) + (f3 * (-1) + (f4 * (-1) + (f5 * 4 + f6 * (-1)))))) = 0 ∧ f0 * (-1) + (f1 * (-1) + (f2 * (-1) + (f3 * (-1) + (f4 * 4 + (f5 * (-1) + f6 * (-1)))))) = 0 ∧ f0 * (-1) + (f1 * (-1) + (f2 * (-1) + (f3 * 4 + (f4 * (-1) + (f5 * (-1) + f6 * (-1)))))) = 0 ∧ f0 * (-1) + (f1 * (-1) + (f2 * 4 + (f3 * (-1) + (f4 * (-1) + (f5 * (-1) + f6 * (-1)))))) = 0)) := by
    simp only [List.mem_cons, List.not_mem_nil, or_false] at mx0
    rcases mx0 with rfl | rfl
    · exact has5 (O.per c0) (by decide) (O.rel c0) nz0
    · exact absurd (has35 (O.per c0) (by decide) (O.rel c0) nz0) hz
  obtain z | ⟨x1, mx1, c1, k1, nz1⟩ := O.alt (m := 5) (by decide) [(1, t1), (5, t5)] [(7, t7), (35, t35)] (by decide +kernel) (by decide +kernel)
  · exact absurd ⟨5, by decide, by decide, z⟩ nm
  have k1_ : ((f0 * 6 + (f1 * (-1) + (f2 * (-1) + (f3 * (-1) + (f4 * (-1) + (f5 * (-1) + f6 * (-1)))))) = 0 ∧ f0 * (-1) + (f1 * (-1) + (f2 * (-1) + (f3 * (-1) + (f4 * (-1) + (f5 * (-1) + f6 * 6))))) = 0 ∧ f0 * (-1) + (f1 * (-1) + (f2 * (-1) + (f3 * (-1) + (f4 * (-1) + (f5 * 6 + f6 * (-1)))))) = 0 ∧ f0 * (-1) + (f1 * (-1) + (f2 * (-1) + (f3 * (-1) + (f4 * 6 + (f5 * (-1) + f6 * (-1)))))) = 0 ∧ f0 * (-1) + (f1 * (-1) + (f2 * (-1) + (f3 * 6 + (f4 * (-1) + (f5 * (-1) + f6 * (-1)))))) = 0 ∧ f0 * (-1) + (f1 * (-1) + (f2 * 6 + (f3 * (-1) + (f4 * (-1) + (f5 * (-1) + f6 * (-1)))))) = 0)) := by
    simp only [List.mem_cons, List.not_mem_nil, or_false] at mx1
    rcases mx1 with rfl | rfl
    · exact has7 (O.per c1) (by decide) (O.rel c1) nz1
    · exact absurd (has35 (O.per c1) (by decide) (O.rel c1) nz1) hz
  rcases k0_ with k0_ <;> rcases k1_ with k1_
  · exact comb5_7 k0_ k1_
theorem no36 {V : Nat → Nat → Int} {f0 f1 f2 f3 f4 f5 f6 : Int} (O : Orb 36 V f0 f1 f2 f3 f4 f5 f6) (hz : ¬ (f0 = 0 ∧ f1 = 0 ∧ f2 = 0 ∧ f3 = 0 ∧ f4 = 0 ∧ f5 = 0 ∧ f6 = 0)) : ∃ m, 0 < m ∧ m < 36 ∧ ∀ c, V m c = V 0 c := by
  refine Classical.byContradiction fun nm => hz ?_
  obtain z | ⟨x0, mx0, c0, k0, nz0⟩ := O.alt (m := 18) (by decide) [(1, t1), (2, t2), (3, t3), (6, t6), (9, t9), (18, t18)] [(4, t4), (12, t12), (36, t36)] (by decide +kernel) (by decide +kernel)
  · exact absurd ⟨18, by decide, by decide, z⟩ nm
  have k0_ : ((f0 * 2 + (f1 * 0 + (f2 * (-2) + (f3 * 0 + (f4 * 2 + (f5 * 0 + f6 * (-2)))))) = 0 ∧ f0 * 0 + (f1 * (-2) + (f2 * 0 + (f3 * 2 + (f4 * 0 + (f5 * (-2) + f6 * 0))))) = 0) ∨ (f0 * 4 + (f1 * 0 + (f2 * 2 + (f3 * 0 + (f4 * (-2) + (f5 * 0 + f6 * (-4)))))) = 0 ∧ f0 * 0 + (f1 * 2 + (f2 * 0 + (f3 * (-2) + (f4 * 0 + (f5 * (-4) + f6 * 0))))) = 0 ∧ f0 * 2 + (f1 * 0 + (f2 * (-2) + (f3 * 0 + (f4 * (-4) + (f5 * 0 + f6 * (-2)))))) = 0 ∧ f0 * 0 + (f1 * (-2) + (f2 * 0 + (f3 * (-4) + (f4 * 0 + (f5 * (-2) + f6 * 0))))) = 0)) := by
    simp only [List.mem_cons, List.not_mem_nil, or_false] at mx0
    rcases mx0 with rfl | rfl | rfl
    · exact .inl (has4 (O.per c0) (by decide) (O.rel c0) nz0)
    · exact .inr (has12 (O.per c0) (by decide) (O.rel c0) nz0)
    · exact absurd (has36 (O.per c0) (by decide) (O.rel c0) nz0) hz
  obtain z | ⟨x1, mx1, c1, k1, nz1⟩ := O.alt (m := 12) (by decide) [(1, t1), (2, t2), (3, t3), (4, t4), (6, t6), (12, t12)] [(9, t9), (18, t18), (36, t36)] (by decide +kernel) (by decide +kernel)
  · exact absurd ⟨12, by decide, by decide, z⟩ nm
  have k1_ : ((f0 * 6 + (f1 * 0 + (f2 * 0 + (f3 * (-3) + (f4 * 0 + (f5 * 0 + f6 * (-3)))))) = 0 ∧ f0 * 0 + (f1 * 0 + (f2 * (-3) + (f3 * 0 + (f4 * 0 + (f5 * (-3) + f6 * 0))))) = 0 ∧ f0 * 0 + (f1 * (-3) + (f2 * 0 + (f3 * 0 + (f4 * (-3) + (f5 * 0 + f6 * 0))))) = 0 ∧ f0 * (-3) + (f1 * 0 + (f2 * 0 + (f3 * (-3) + (f4 * 0 + (f5 * 0 + f6 * 6))))) = 0 ∧ f0 * 0 + (f1 * 0 + (f2 * (-3) + (f3 * 0 + (f4 * 0 + (f5 * 6 + f6 * 0))))) = 0 ∧ f0 * 0 + (f1 * (-3) + (f2 * 0 + (f3 * 0 + (f4 * 6 + (f5 * 0 + f6 * 0))))) = 0) ∨ (f0 * 6 + (f1 * 0 + (f2 * 0 + (f3 * 3 + (f4 * 0 + (f5 * 0 + f6 * (-3)))))) = 0 ∧ f0 * 0 + (f1 * 0 + (f2 * 3 + (f3 * 0 + (f4 * 0 + (f5 * (-3) + f6 * 0))))) = 0 ∧ f0 * 0 + (f1 * 3 + (f2 * 0 + (f3 * 0 + (f4 * (-3) + (f5 * 0 + f6 * 0))))) = 0 ∧ f0 * 3 + (f1 * 0 + (f2 * 0 + (f3 * (-3) + (f4 * 0 + (f5 * 0 + f6 * (-6)))))) = 0 ∧ f0 * 0 + (f1 * 0 + (f2 * (-3) + (f3 * 0 + (f4 * 0 + (f5 * (-6) + f6 * 0))))) = 0 ∧ f0 * 0 + (f1 * (-3) + (f2 * 0 + (f3 * 0 + (f4 * (-6) + (f5 * 0 + f6 * 0))))) = 0)) := by
    simp only [List.mem_cons, List.not_mem_nil, or_false] at mx1
    rcases mx1 with rfl | rfl | rfl
    · exact .inl (has9 (O.per c1) (by decide) (O.rel c1) nz1)
    · exact .inr (has18 (O.per c1) (by decide) (O.rel c1) nz1)
    · exact absurd (has36 (O.per c1) (by decide) (O.rel c1) nz1) hz
  rcases k0_ with k0_ | k0_ <;> rcases k1_ with k1_ | k1_
  · exact comb4_9 k0_ k1_
  · exact comb4_18 k0_ k1_
  · exact comb9_12 k1_ k0_
  · exact comb12_18 k0_ k1_
theorem no37 {V : Nat → Nat → Int} {f0 f1 f2 f3 f4 f5 f6 : Int} (O : Orb 37 V f0 f1 f2 f3 f4 f5 f6) (hz : ¬ (f0 = 0 ∧ f1 = 0 ∧ f2 = 0 ∧ f3 = 0 ∧ f4 = 0 ∧ f5 = 0 ∧ f6 = 0)) : ∃ m, 0 < m ∧ m < 37 ∧ ∀ c, V m c = V 0 c := by
  refine ⟨1, by decide, by decide, fun c => Classical.byContradiction fun z => hz ?_⟩
  have hp := O.per c
  have nz : (fun k => V k c) (0 + 1) - (fun k => V k c) 0 ≠ 0 := fun y => z (Int.sub_eq_zero.mp y)
  have hd : ∀ a, a < 37 → 0 < a → Nat.gcd a 37 = 1 := by decide +kernel
  have q0 := keepsP (c0 := 0) (c1 := 0) (c2 := 0) (c3 := 0) (c4 := 0) (c5 := 0) (c6 := 0) hp (by decide) (fun a x y => hd a y x) (O.rel c) nz 1 (.inl ⟨rfl, 1, by decide⟩) (.inl ⟨rfl, 19, by decide⟩) (.inl ⟨rfl, 25, by decide⟩) (.inl ⟨rfl, 28, by decide⟩) (.inl ⟨rfl, 15, by decide⟩) (.inl ⟨rfl, 31, by decide⟩) (.inl ⟨rfl, 16, by decide⟩)
  have q1 := keepsP (c0 := 37) (c1 := 0) (c2 := 0) (c3 := 0) (c4 := 0) (c5 := 0) (c6 := 0) hp (by decide) (fun a x y => hd a y x) (O.rel c) nz 37 (.inr ⟨rfl, by decide⟩) (.inl ⟨rfl, 1, by decide⟩) (.inl ⟨rfl, 19, by decide⟩) (.inl ⟨rfl, 25, by decide⟩) (.inl ⟨rfl, 28, by decide⟩) (.inl ⟨rfl, 15, by decide⟩) (.inl ⟨rfl, 31, by decide⟩)
  have q2 := keepsP (c0 := 0) (c1 := 37) (c2 := 0) (c3 := 0) (c4 := 0) (c5 := 0) (c6 := 0) hp (by decide) (fun a x y => hd a y x) (O.rel c) nz 36 (.inl ⟨rfl, 36, by decide⟩) (.inr ⟨rfl, by decide⟩) (.inl ⟨rfl, 1, by decide⟩) (.inl ⟨rfl, 19, by decide⟩) (.inl ⟨rfl, 25, by decide⟩) (.inl ⟨rfl, 28, by decide⟩) (.inl ⟨rfl, 15, by decide⟩)
  have q3 := keepsP (c0 := 0) (c1 := 0) (c2 := 37) (c3 := 0) (c4 := 0) (c5 := 0) (c6 := 0) hp (by decide) (fun a x y => hd a y x) (O.rel c) nz 35 (.inl ⟨rfl, 18, by decide⟩) (.inl ⟨rfl, 36, by decide⟩) (.inr ⟨rfl, by decide⟩) (.inl ⟨rfl, 1, by decide⟩) (.inl ⟨rfl, 19, by decide⟩) (.inl ⟨rfl, 25, by decide⟩) (.inl ⟨rfl, 28, by decide⟩)
  have q4 := keepsP (c0 := 0) (c1 := 0) (c2 := 0) (c3 := 37) (c4 := 0) (c5 := 0) (c6 := 0) hp (by decide) (fun a x y => hd a y x) (O.rel c) nz 34 (.inl ⟨rfl, 12, by decide⟩) (.inl ⟨rfl, 18, by decide⟩) (.inl ⟨rfl, 36, by decide⟩) (.inr ⟨rfl, by decide⟩) (.inl ⟨rfl, 1, by decide⟩) (.inl ⟨rfl, 19, by decide⟩) (.inl ⟨rfl, 25, by decide⟩)
  have q5 := keepsP (c0 := 0) (c1 := 0) (c2 := 0) (c3 := 0) (c4 := 37) (c5 := 0) (c6 := 0) hp (by decide) (fun a x y => hd a y x) (O.rel c) nz 33 (.inl ⟨rfl, 9, by decide⟩) (.inl ⟨rfl, 12, by decide⟩) (.inl ⟨rfl, 18, by decide⟩) (.inl ⟨rfl, 36, by decide⟩) (.inr ⟨rfl, by decide⟩) (.inl ⟨rfl, 1, by decide⟩) (.inl ⟨rfl, 19, by decide⟩)
  have q6 := keepsP (c0 := 0) (c1 := 0) (c2 := 0) (c3 := 0) (c4 := 0) (c5 := 37) (c6 := 0) hp (by decide) (fun a x y => hd a y x) (O.rel c) nz 32 (.inl ⟨rfl, 22, by decide⟩) (.inl ⟨rfl, 9, by decide⟩) (.inl ⟨rfl, 12, by decide⟩) (.inl ⟨rfl, 18, by decide⟩) (.inl ⟨rfl, 36, by decide⟩) (.inr ⟨rfl, by decide⟩) (.inl ⟨rfl, 1, by decide⟩)
  have q7 := keepsP (c0 := 0) (c1 := 0) (c2 := 0) (c3 := 0) (c4 := 0) (c5 := 0) (c6 := 37) hp (by decide) (fun a x y => hd a y x) (O.rel c) nz 31 (.inl ⟨rfl, 6, by decide⟩) (.inl ⟨rfl, 22, by decide⟩) (.inl ⟨rfl, 9, by decide⟩) (.inl ⟨rfl, 12, by decide⟩) (.inl ⟨rfl, 18, by decide⟩) (.inl ⟨rfl, 36, by decide⟩) (.inr ⟨rfl, by decide⟩)
  clear hp hd nz z
  omega
theorem no40 {V : Nat → Nat → Int} {f0 f1 f2 f3 f4 f5 f6 : Int} (O : Orb 40 V f0 f1 f2 f3 f4 f5 f6) (hz : ¬ (f0 = 0 ∧ f1 = 0 ∧ f2 = 0 ∧ f3 = 0 ∧ f4 = 0 ∧ f5 = 0 ∧ f6 = 0)) : ∃ m, 0 < m ∧ m < 40 ∧ ∀ c, V m c = V 0 c := by
  refine Classical.byContradiction fun nm => hz ?_
  obtain z | ⟨x0, mx0, c0, k0, nz0⟩ := O.alt (m := 20) (by decide) [(1, t1), (2, t2), (4, t4), (5, t5), (10, t10), (20, t20)] [(8, t8), (40, t40)] (by decide +kernel) (by decide +kernel)
  · exact absurd ⟨20, by decide, by decide, z⟩ nm
  have k0_ : ((f0 * 4 + (f1 * 0 + (f2 * 0 + (f3 * 0 + (f4 * (-4) + (f5 * 0 + f6 * 0))))) = 0 ∧ f0 * 0 + (f1 * 0 + (f2 * 0 + (f3 * (-4) + (f4 * 0 + (f5 * 0 + f6 * 0))))) = 0 ∧ f0 * 0 + (f1 * 0 + (f2 * (-4) + (f3 * 0 + (f4 * 0 + (f5 * 0 + f6 * 4))))) = 0 ∧ f0 * 0 + (f1 * (-4) + (f2 * 0 + (f3 * 0 + (f4 * 0 + (f5 * 4 + f6 * 0))))) = 0)) := by
    simp only [List.mem_cons, List.not_mem_nil, or_false] at mx0
    rcases mx0 with rfl | rfl
    · exact has8 (O.per c0) (by decide) (O.rel c0) nz0
    · exact absurd (has40 (O.per c0) (by decide) (O.rel c0) nz0) hz
  obtain z | ⟨x1, mx1, c1, k1, nz1⟩ := O.alt (m := 8) (by decide) [(1, t1), (2, t2), (4, t4), (8, t8)] [(5, t5), (10, t10), (20, t20), (40, t40)] (by decide +kernel) (by decide +kernel)
  · exact absurd ⟨8, by decide, by decide, z⟩ nm
  have k1_ : ((f0 * 4 + (f1 * (-1) + (f2 * (-1) + (f3 * (-1) + (f4 * (-1) + (f5 * 4 + f6 * (-1)))))) = 0 ∧ f0 * (-1) + (f1 * (-1) + (f2 * (-1) + (f3 * (-1) + (f4 * 4 + (f5 * (-1) + f6 * (-1)))))) = 0 ∧ f0 * (-1) + (f1 * (-1) + (f2 * (-1) + (f3 * 4 + (f4 * (-1) + (f5 * (-1) + f6 * (-1)))))) = 0 ∧ f0 * (-1) + (f1 * (-1) + (f2 * 4 + (f3 * (-1) + (f4 * (-1) + (f5 * (-1) + f6 * (-1)))))) = 0) ∨ (f0 * 4 + (f1 * 1 + (f2 * (-1) + (f3 * 1 + (f4 * (-1) + (f5 * (-4) + f6 * (-1)))))) = 0 ∧ f0 * 1 + (f1 * (-1) + (f2 * 1 + (f3 * (-1) + (f4 * (-4) + (f5 * (-1) + f6 * 1))))) = 0 ∧ f0 * (-1) + (f1 * 1 + (f2 * (-1) + (f3 * (-4) + (f4 * (-1) + (f5 * 1 + f6 * (-1)))))) = 0 ∧ f0 * 1 + (f1 * (-1) + (f2 * (-4) + (f3 * (-1) + (f4 * 1 + (f5 * (-1) + f6 * 1))))) = 0)) := by
    simp only [List.mem_cons, List.not_mem_nil, or_false] at mx1
    rcases mx1 with rfl | rfl | rfl | rfl
    · exact .inl (has5 (O.per c1) (by decide) (O.rel c1) nz1)
    · exact .inr (has10 (O.per c1) (by decide) (O.rel c1) nz1)
    · exact absurd (has20 (O.per c1) (by decide) (O.rel c1) nz1) hz
    · exact absurd (has40 (O.per c1) (by decide) (O.rel c1) nz1) hz
  rcases k0_ with k0_ <;> rcases k1_ with k1_ | k1_
  · exact comb5_8 k1_ k0_
  · exact comb8_10 k0_ k1_
theorem no41 {V : Nat → Nat → Int} {f0 f1 f2 f3 f4 f5 f6 : Int} (O : Orb 41 V f0 f1 f2 f3 f4 f5 f6) (hz : ¬ (f0 = 0 ∧ f1 = 0 ∧ f2 = 0 ∧ f3 = 0 ∧ f4 = 0 ∧ f5 = 0 ∧ f6 = 0)) : ∃ m, 0 < m ∧ m < 41 ∧ ∀ c, V m c = V 0 c := by
  refine ⟨1, by decide, by decide, fun c => Classical.byContradiction fun z => hz ?_⟩
  have hp := O.per c
  have nz : (fun k => V k c) (0 + 1) - (fun k => V k c) 0 ≠ 0 := fun y => z (Int.sub_eq_zero.mp y)
  have hd : ∀ a, a < 41 → 0 < a → Nat.gcd a 41 = 1 := by decide +kernel
  have q0 := keepsP (c0 := 0) (c1 := 0) (c2 := 0) (c3 := 0) (c4 := 0) (c5 := 0) (c6 := 0) hp (by decide) (fun a x y => hd a y x) (O.rel c) nz 1 (.inl ⟨rfl, 1, by decide⟩) (.inl ⟨rfl, 21, by decide⟩) (.inl ⟨rfl, 14, by decide⟩) (.inl ⟨rfl, 31, by decide⟩) (.inl ⟨rfl, 33, by decide⟩) (.inl ⟨rfl, 7, by decide⟩) (.inl ⟨rfl, 6, by decide⟩)
  have q1 := keepsP (c0 := 41) (c1 := 0) (c2 := 0) (c3 := 0) (c4 := 0) (c5 := 0) (c6 := 0) hp (by decide) (fun a x y => hd a y x) (O.rel c) nz 41 (.inr ⟨rfl, by decide⟩) (.inl ⟨rfl, 1, by decide⟩) (.inl ⟨rfl, 21, by decide⟩) (.inl ⟨rfl, 14, by decide⟩) (.inl ⟨rfl, 31, by decide⟩) (.inl ⟨rfl, 33, by decide⟩) (.inl ⟨rfl, 7, by decide⟩)
  have q2 := keepsP (c0 := 0) (c1 := 41) (c2 := 0) (c3 := 0) (c4 := 0) (c5 := 0) (c6 := 0) hp (by decide) (fun a x y => hd a y x) (O.rel c) nz 40 (.inl ⟨rfl, 40, by decide⟩) (.inr ⟨rfl, by decide⟩) (.inl ⟨rfl, 1, by decide⟩) (.inl ⟨rfl, 21, by decide⟩) (.inl ⟨rfl, 14, by decide⟩) (.inl ⟨rfl, 31, by decide⟩) (.inl ⟨rfl, 33, by decide⟩)
  have q3 := keepsP (c0 := 0) (c1 := 0) (c2 := 41) (c3 := 0) (c4 := 0) (c5 := 0) (c6 := 0) hp (by decide) (fun a x y => hd a y x) (O.rel c) nz 39 (.inl ⟨rfl, 20, by decide⟩) (.inl ⟨rfl, 40, by decide⟩) (.inr ⟨rfl, by decide⟩) (.inl ⟨rfl, 1, by decide⟩) (.inl ⟨rfl, 21, by decide⟩) (.inl ⟨rfl, 14, by decide⟩) (.inl ⟨rfl, 31, by decide⟩)
  have q4 := keepsP (c0 := 0) (c1 := 0) (c2 := 0) (c3 := 41) (c4 := 0) (c5 := 0) (c6 := 0) hp (by decide) (fun a x y => hd a y x) (O.rel c) nz 38 (.inl ⟨rfl, 27, by decide⟩) (.inl ⟨rfl, 20, by decide⟩) (.inl ⟨rfl, 40, by decide⟩) (.inr ⟨rfl, by decide⟩) (.inl ⟨rfl, 1, by decide⟩) (.inl ⟨rfl, 21, by decide⟩) (.inl ⟨rfl, 14, by decide⟩)
  have q5 := keepsP (c0 := 0) (c1 := 0) (c2 := 0) (c3 := 0) (c4 := 41) (c5 := 0) (c6 := 0) hp (by decide) (fun a x y => hd a y x) (O.rel c) nz 37 (.inl ⟨rfl, 10, by decide⟩) (.inl ⟨rfl, 27, by decide⟩) (.inl ⟨rfl, 20, by decide⟩) (.inl ⟨rfl, 40, by decide⟩) (.inr ⟨rfl, by decide⟩) (.inl ⟨rfl, 1, by decide⟩) (.inl ⟨rfl, 21, by decide⟩)
  have q6 := keepsP (c0 := 0) (c1 := 0) (c2 := 0) (c3 := 0) (c4 := 0) (c5 := 41) (c6 := 0) hp (by decide) (fun a x y => hd a y x) (O.rel c) nz 36 (.inl ⟨rfl, 8, by decide⟩) (.inl ⟨rfl, 10, by decide⟩) (.inl ⟨rfl, 27, by decide⟩) (.inl ⟨rfl, 20, by decide⟩) (.inl ⟨rfl, 40, by decide⟩) (.inr ⟨rfl, by decide⟩) (.inl ⟨rfl, 1, by decide⟩)
  have q7 := keepsP (c0 := 0) (c1 := 0) (c2 := 0) (c3 := 0) (c4 := 0) (c5 := 0) (c6 := 41) hp (by decide) (fun a x y => hd a y x) (O.rel c) nz 35 (.inl ⟨rfl, 34, by decide⟩) (.inl ⟨rfl, 8, by decide⟩) (.inl ⟨rfl, 10, by decide⟩) (.inl ⟨rfl, 27, by decide⟩) (.inl ⟨rfl, 20, by decide⟩) (.inl ⟨rfl, 40, by decide⟩) (.inr ⟨rfl, by decide⟩)
  clear hp hd nz z
  omega
theorem no43 {V : Nat → Nat → Int} {f0 f1 f2 f3 f4 f5 f6 : Int} (O : Orb 43 V f0 f1 f2 f3 f4 f5 f6) (hz : ¬ (f0 = 0 ∧ f1 = 0 ∧ f2 = 0 ∧ f3 = 0 ∧ f4 = 0 ∧ f5 = 0 ∧ f6 = 0)) : ∃ m, 0 < m ∧ m < 43 ∧ ∀ c, V m c = V 0 c := by
  refine ⟨1, by decide, by decide, fun c => Classical.byContradiction fun z => hz ?_⟩
  have hp := O.per c
  have nz : (fun k => V k c) (0 + 1) - (fun k => V k c) 0 ≠ 0 := fun y => z (Int.sub_eq_zero.mp y)
  have hd : ∀ a, a < 43 → 0 < a → Nat.gcd a 43 = 1 := by decide +kernel
  have q0 := keepsP (c0 := 0) (c1 := 0) (c2 := 0) (c3 := 0) (c4 := 0) (c5 := 0) (c6 := 0) hp (by decide) (fun a x y => hd a y x) (O.rel c) nz 1 (.inl ⟨rfl, 1, by decide⟩) (.inl ⟨rfl, 22, by decide⟩) (.inl ⟨rfl, 29, by decide⟩) (.inl ⟨rfl, 11, by decide⟩) (.inl ⟨rfl, 26, by decide⟩) (.inl ⟨rfl, 36, by decide⟩) (.inl ⟨rfl, 37, by decide⟩)
  have q1 := keepsP (c0 := 43) (c1 := 0) (c2 := 0) (c3 := 0) (c4 := 0) (c5 := 0) (c6 := 0) hp (by decide) (fun a x y => hd a y x) (O.rel c) nz 43 (.inr ⟨rfl, by decide⟩) (.inl ⟨rfl, 1, by decide⟩) (.inl ⟨rfl, 22, by decide⟩) (.inl ⟨rfl, 29, by decide⟩) (.inl ⟨rfl, 11, by decide⟩) (.inl ⟨rfl, 26, by decide⟩) (.inl ⟨rfl, 36, by decide⟩)
  have q2 := keepsP (c0 := 0) (c1 := 43) (c2 := 0) (c3 := 0) (c4 := 0) (c5 := 0) (c6 := 0) hp (by decide) (fun a x y => hd a y x) (O.rel c) nz 42 (.inl ⟨rfl, 42, by decide⟩) (.inr ⟨rfl, by decide⟩) (.inl ⟨rfl, 1, by decide⟩) (.inl ⟨rfl, 22, by decide⟩) (.inl ⟨rfl, 29, by decide⟩) (.inl ⟨rfl, 11, by decide⟩) (.inl ⟨rfl, 26, by decide⟩)
  have q3 := keepsP (c0 := 0) (c1 := 0) (c2 := 43) (c3 := 0) (c4 := 0) (c5 := 0) (c6 := 0) hp (by decide) (fun a x y => hd a y x) (O.rel c) nz 41 (.inl ⟨rfl, 21, by decide⟩) (.inl ⟨rfl, 42, by decide⟩) (.inr ⟨rfl, by decide⟩) (.inl ⟨rfl, 1, by decide⟩) (.inl ⟨rfl, 22, by decide⟩) (.inl ⟨rfl, 29, by decide⟩) (.inl ⟨rfl, 11, by decide⟩)
  have q4 := keepsP (c0 := 0) (c1 := 0) (c2 := 0) (c3 := 43) (c4 := 0) (c5 := 0) (c6 := 0) hp (by decide) (fun a x y => hd a y x) (O.rel c) nz 40 (.inl ⟨rfl, 14, by decide⟩) (.inl ⟨rfl, 21, by decide⟩) (.inl ⟨rfl, 42, by decide⟩) (.inr ⟨rfl, by decide⟩) (.inl ⟨rfl, 1, by decide⟩) (.inl ⟨rfl, 22, by decide⟩) (.inl ⟨rfl, 29, by decide⟩)
  have q5 := keepsP (c0 := 0) (c1 := 0) (c2 := 0) (c3 := 0) (c4 := 43) (c5 := 0) (c6 := 0) hp (by decide) (fun a x y => hd a y x) (O.rel c) nz 39 (.inl ⟨rfl, 32, by decide⟩) (.inl ⟨rfl, 14, by decide⟩) (.inl ⟨rfl, 21, by decide⟩) (.inl ⟨rfl, 42, by decide⟩) (.inr ⟨rfl, by decide⟩) (.inl ⟨rfl, 1, by decide⟩) (.inl ⟨rfl, 22, by decide⟩)
  have q6 := keepsP (c0 := 0) (c1 := 0) (c2 := 0) (c3 := 0) (c4 := 0) (c5 := 43) (c6 := 0) hp (by decide) (fun a x y => hd a y x) (O.rel c) nz 38 (.inl ⟨rfl, 17, by decide⟩) (.inl ⟨rfl, 32, by decide⟩) (.inl ⟨rfl, 14, by decide⟩) (.inl ⟨rfl, 21, by decide⟩) (.inl ⟨rfl, 42, by decide⟩) (.inr ⟨rfl, by decide⟩) (.inl ⟨rfl, 1, by decide⟩)
  have q7 := keepsP (c0 := 0) (c1 := 0) (c2 := 0) (c3 := 0) (c4 := 0) (c5 := 0) (c6 := 43) hp (by decide) (fun a x y => hd a y x) (O.rel c) nz 37 (.inl ⟨rfl, 7, by decide⟩) (.inl ⟨rfl, 17, by decide⟩) (.inl ⟨rfl, 32, by decide⟩) (.inl ⟨rfl, 14, by decide⟩) (.inl ⟨rfl, 21, by decide⟩) (.inl ⟨rfl, 42, by decide⟩) (.inr ⟨rfl, by decide⟩)
  clear hp hd nz z
  omega
theorem no45 {V : Nat → Nat → Int} {f0 f1 f2 f3 f4 f5 f6 : Int} (O : Orb 45 V f0 f1 f2 f3 f4 f5 f6) (hz : ¬ (f0 = 0 ∧ f1 = 0 ∧ f2 = 0 ∧ f3 = 0 ∧ f4 = 0 ∧ f5 = 0 ∧ f6 = 0)) : ∃ m, 0 < m ∧ m < 45 ∧ ∀ c, V m c = V 0 c := by
  refine Classical.byContradiction fun nm => hz ?_
  obtain z | ⟨x0, mx0, c0, k0, nz0⟩ := O.alt (m := 15) (by decide) [(1, t1), (3, t3), (5, t5), (15, t15)] [(9, t9), (45, t45)] (by decide +kernel) (by decide +kernel)
  · exact absurd ⟨15, by decide, by decide, z⟩ nm
  have k0_ : ((f0 * 6 + (f1 * 0 + (f2 * 0 + (f3 * (-3) + (f4 * 0 + (f5 * 0 + f6 * (-3)))))) = 0 ∧ f0 * 0 + (f1 * 0 + (f2 * (-3) + (f3 * 0 + (f4 * 0 + (f5 * (-3) + f6 * 0))))) = 0 ∧ f0 * 0 + (f1 * (-3) + (f2 * 0 + (f3 * 0 + (f4 * (-3) + (f5 * 0 + f6 * 0))))) = 0 ∧ f0 * (-3) + (f1 * 0 + (f2 * 0 + (f3 * (-3) + (f4 * 0 + (f5 * 0 + f6 * 6))))) = 0 ∧ f0 * 0 + (f1 * 0 + (f2 * (-3) + (f3 * 0 + (f4 * 0 + (f5 * 6 + f6 * 0))))) = 0 ∧ f0 * 0 + (f1 * (-3) + (f2 * 0 + (f3 * 0 + (f4 * 6 + (f5 * 0 + f6 * 0))))) = 0)) := by
    simp only [List.mem_cons, List.not_mem_nil, or_false] at mx0
    rcases mx0 with rfl | rfl
    · exact has9 (O.per c0) (by decide) (O.rel c0) nz0
    · exact absurd (has45 (O.per c0) (by decide) (O.rel c0) nz0) hz
  obtain z | ⟨x1, mx1, c1, k1, nz1⟩ := O.alt (m := 9) (by decide) [(1, t1), (3, t3), (9, t9)] [(5, t5), (15, t15), (45, t45)] (by decide +kernel) (by decide +kernel)
  · exact absurd ⟨9, by decide, by decide, z⟩ nm
  have k1_ : ((f0 * 4 + (f1 * (-1) + (f2 * (-1) + (f3 * (-1) + (f4 * (-1) + (f5 * 4 + f6 * (-1)))))) = 0 ∧ f0 * (-1) + (f1 * (-1) + (f2 * (-1) + (f3 * (-1) + (f4 * 4 + (f5 * (-1) + f6 * (-1)))))) = 0 ∧ f0 * (-1) + (f1 * (-1) + (f2 * (-1) + (f3 * 4 + (f4 * (-1) + (f5 * (-1) + f6 * (-1)))))) = 0 ∧ f0 * (-1) + (f1 * (-1) + (f2 * 4 + (f3 * (-1) + (f4 * (-1) + (f5 * (-1) + f6 * (-1)))))) = 0)) := by
    simp only [List.mem_cons, List.not_mem_nil, or_false] at mx1
    rcases mx1 with rfl | rfl | rfl
    · exact has5 (O.per c1) (by decide) (O.rel c1) nz1
    · exact absurd (has15 (O.per c1) (by decide) (O.rel c1) nz1) hz
    · exact absurd (has45 (O.per c1) (by decide) (O.rel c1) nz1) hz
  rcases k0_ with k0_ <;> rcases k1_ with k1_
  · exact comb5_9 k1_ k0_
theorem no47 {V : Nat → Nat → Int} {f0 f1 f2 f3 f4 f5 f6 : Int} (O : Orb 47 V f0 f1 f2 f3 f4 f5 f6) (hz : ¬ (f0 = 0 ∧ f1 = 0 ∧ f2 = 0 ∧ f3 = 0 ∧ f4 = 0 ∧ f5 = 0 ∧ f6 = 0)) : ∃ m, 0 < m ∧ m < 47 ∧ ∀ c, V m c = V 0 c := by
  refine ⟨1, by decide, by decide, fun c => Classical.byContradiction fun z => hz ?_⟩
  have hp := O.per c
  have nz : (fun k => V k c) (0 + 1) - (fun k => V k c) 0 ≠ 0 := fun y => z (Int.sub_eq_zero.mp y)
  have hd : ∀ a, a < 47 → 0 < a → Nat.gcd a 47 = 1 := by decide +kernel
  have q0 := keepsP (c0 := 0) (c1 := 0) (c2 := 0) (c3 := 0) (c4 := 0) (c5 := 0) (c6 := 0) hp (by decide) (fun a x y => hd a y x) (O.rel c) nz 1 (.inl ⟨rfl, 1, by decide⟩) (.inl ⟨rfl, 24, by decide⟩) (.inl ⟨rfl, 16, by decide⟩) (.inl ⟨rfl, 12, by decide⟩) (.inl ⟨rfl, 19, by decide⟩) (.inl ⟨rfl, 8, by decide⟩) (.inl ⟨rfl, 27, by decide⟩)
  have q1 := keepsP (c0 := 47) (c1 := 0) (c2 := 0) (c3 := 0) (c4 := 0) (c5 := 0) (c6 := 0) hp (by decide) (fun a x y => hd a y x) (O.rel c) nz 47 (.inr ⟨rfl, by decide⟩) (.inl ⟨rfl, 1, by decide⟩) (.inl ⟨rfl, 24, by decide⟩) (.inl ⟨rfl, 16, by decide⟩) (.inl ⟨rfl, 12, by decide⟩) (.inl ⟨rfl, 19, by decide⟩) (.inl ⟨rfl, 8, by decide⟩)
  have q2 := keepsP (c0 := 0) (c1 := 47) (c2 := 0) (c3 := 0) (c4 := 0) (c5 := 0) (c6 := 0) hp (by decide) (fun a x y => hd a y x) (O.rel c) nz 46 (.inl ⟨rfl, 46, by decide⟩) (.inr ⟨rfl, by decide⟩) (.inl ⟨rfl, 1, by decide⟩) (.inl ⟨rfl, 24, by decide⟩) (.inl ⟨rfl, 16, by decide⟩) (.inl ⟨rfl, 12, by decide⟩) (.inl ⟨rfl, 19, by decide⟩)
  have q3 := keepsP (c0 := 0) (c1 := 0) (c2 := 47) (c3 := 0) (c4 := 0) (c5 := 0) (c6 := 0) hp (by decide) (fun a x y => hd a y x) (O.rel c) nz 45 (.inl ⟨rfl, 23, by decide⟩) (.inl ⟨rfl, 46, by decide⟩) (.inr ⟨rfl, by decide⟩) (.inl ⟨rfl, 1, by decide⟩) (.inl ⟨rfl, 24, by decide⟩) (.inl ⟨rfl, 16, by decide⟩) (.inl ⟨rfl, 12, by decide⟩)
  have q4 := keepsP (c0 := 0) (c1 := 0) (c2 := 0) (c3 := 47) (c4 := 0) (c5 := 0) (c6 := 0) hp (by decide) (fun a x y => hd a y x) (O.rel c) nz 44 (.inl ⟨rfl, 31, by decide⟩) (.inl ⟨rfl, 23, by decide⟩) (.inl ⟨rfl, 46, by decide⟩) (.inr ⟨rfl, by decide⟩) (.inl ⟨rfl, 1, by decide⟩) (.inl ⟨rfl, 24, by decide⟩) (.inl ⟨rfl, 16, by decide⟩)
  have q5 := keepsP (c0 := 0) (c1 := 0) (c2 := 0) (c3 := 0) (c4 := 47) (c5 := 0) (c6 := 0) hp (by decide) (fun a x y => hd a y x) (O.rel c) nz 43 (.inl ⟨rfl, 35, by decide⟩) (.inl ⟨rfl, 31, by decide⟩) (.inl ⟨rfl, 23, by decide⟩) (.inl ⟨rfl, 46, by decide⟩) (.inr ⟨rfl, by decide⟩) (.inl ⟨rfl, 1, by decide⟩) (.inl ⟨rfl, 24, by decide⟩)
  have q6 := keepsP (c0 := 0) (c1 := 0) (c2 := 0) (c3 := 0) (c4 := 0) (c5 := 47) (c6 := 0) hp (by decide) (fun a x y => hd a y x) (O.rel c) nz 42 (.inl ⟨rfl, 28, by decide⟩) (.inl ⟨rfl, 35, by decide⟩) (.inl ⟨rfl, 31, by decide⟩) (.inl ⟨rfl, 23, by decide⟩) (.inl ⟨rfl, 46, by decide⟩) (.inr ⟨rfl, by decide⟩) (.inl ⟨rfl, 1, by decide⟩)
  have q7 := keepsP (c0 := 0) (c1 := 0) (c2 := 0) (c3 := 0) (c4 := 0) (c5 := 0) (c6 := 47) hp (by decide) (fun a x y => hd a y x) (O.rel c) nz 41 (.inl ⟨rfl, 39, by decide⟩) (.inl ⟨rfl, 28, by decide⟩) (.inl ⟨rfl, 35, by decide⟩) (.inl ⟨rfl, 31, by decide⟩) (.inl ⟨rfl, 23, by decide⟩) (.inl ⟨rfl, 46, by decide⟩) (.inr ⟨rfl, by decide⟩)
  clear hp hd nz z
  omega
theorem no49 {V : Nat → Nat → Int} {f0 f1 f2 f3 f4 f5 f6 : Int} (O : Orb 49 V f0 f1 f2 f3 f4 f5 f6) (hz : ¬ (f0 = 0 ∧ f1 = 0 ∧ f2 = 0 ∧ f3 = 0 ∧ f4 = 0 ∧ f5 = 0 ∧ f6 = 0)) : ∃ m, 0 < m ∧ m < 49 ∧ ∀ c, V m c = V 0 c := by
  refine Classical.byContradiction fun nm => hz ?_
  obtain z | ⟨x0, mx0, c0, k0, nz0⟩ := O.alt (m := 7) (by decide) [(1, t1), (7, t7)] [(49, t49)] (by decide +kernel) (by decide +kernel)
  · exact absurd ⟨7, by decide, by decide, z⟩ nm
  simp only [List.mem_cons, List.not_mem_nil, or_false] at mx0
  subst mx0
  exact has49 (O.per c0) (by decide) (O.rel c0) nz0
theorem no53 {V : Nat → Nat → Int} {f0 f1 f2 f3 f4 f5 f6 : Int} (O : Orb 53 V f0 f1 f2 f3 f4 f5 f6) (hz : ¬ (f0 = 0 ∧ f1 = 0 ∧ f2 = 0 ∧ f3 = 0 ∧ f4 = 0 ∧ f5 = 0 ∧ f6 = 0)) : ∃ m, 0 < m ∧ m < 53 ∧ ∀ c, V m c = V 0 c := by
  refine ⟨1, by decide, by decide, fun c => Classical.byContradiction fun z => hz ?_⟩
  have hp := O.per c
  have nz : (fun k => V k c) (0 + 1) - (fun k => V k c) 0 ≠ 0 := fun y => z (Int.sub_eq_zero.mp y)
  have hd : ∀ a, a < 53 → 0 < a → Nat.gcd a 53 = 1 := by decide +kernel
  have q0 := keepsP (c0 := 0) (c1 := 0) (c2 := 0) (c3 := 0) (c4 := 0) (c5 := 0) (c6 := 0) hp (by decide) (fun a x y => hd a y x) (O.rel c) nz 1 (.inl ⟨rfl, 1, by decide⟩) (.inl ⟨rfl, 27, by decide⟩) (.inl ⟨rfl, 18, by decide⟩) (.inl ⟨rfl, 40, by decide⟩) (.inl ⟨rfl, 32, by decide⟩) (.inl ⟨rfl, 9, by decide⟩) (.inl ⟨rfl, 38, by decide⟩)
  have q1 := keepsP (c0 := 53) (c1 := 0) (c2 := 0) (c3 := 0) (c4 := 0) (c5 := 0) (c6 := 0) hp (by decide) (fun a x y => hd a y x) (O.rel c) nz 53 (.inr ⟨rfl, by decide⟩) (.inl ⟨rfl, 1, by decide⟩) (.inl ⟨rfl, 27, by decide⟩) (.inl ⟨rfl, 18, by decide⟩) (.inl ⟨rfl, 40, by decide⟩) (.inl ⟨rfl, 32, by decide⟩) (.inl ⟨rfl, 9, by decide⟩)
  have q2 := keepsP (c0 := 0) (c1 := 53) (c2 := 0) (c3 := 0) (c4 := 0) (c5 := 0) (c6 := 0) hp (by decide) (fun a x y => hd a y x) (O.rel c) nz 52 (.inl ⟨rfl, 52, by decide⟩) (.inr ⟨rfl, by decide⟩) (.inl ⟨rfl, 1, by decide⟩) (.inl ⟨rfl, 27, by decide⟩) (.inl ⟨rfl, 18, by decide⟩) (.inl ⟨rfl, 40, by decide⟩) (.inl ⟨rfl, 32, by decide⟩)
  have q3 := keepsP (c0 := 0) (c1 := 0) (c2 := 53) (c3 := 0) (c4 := 0) (c5 := 0) (c6 := 0) hp (by decide) (fun a x y => hd a y x) (O.rel c) nz 51 (.inl ⟨rfl, 26, by decide⟩) (.inl ⟨rfl, 52, by decide⟩) (.inr ⟨rfl, by decide⟩) (.inl ⟨rfl, 1, by decide⟩) (.inl ⟨rfl, 27, by decide⟩) (.inl ⟨rfl, 18, by decide⟩) (.inl ⟨rfl, 40, by decide⟩)
  have q4 := keepsP (c0 := 0) (c1 := 0) (c2 := 0) (c3 := 53) (c4 := 0) (c5 := 0) (c6 := 0) hp (by decide) (fun a x y => hd a y x) (O.rel c) nz 50 (.inl ⟨rfl, 35, by decide⟩) (.inl ⟨rfl, 26, by decide⟩) (.inl ⟨rfl, 52, by decide⟩) (.inr ⟨rfl, by decide⟩) (.inl ⟨rfl, 1, by decide⟩) (.inl ⟨rfl, 27, by decide⟩) (.inl ⟨rfl, 18, by decide⟩)
  have q5 := keepsP (c0 := 0) (c1 := 0) (c2 := 0) (c3 := 0) (c4 := 53) (c5 := 0) (c6 := 0) hp (by decide) (fun a x y => hd a y x) (O.rel c) nz 49 (.inl ⟨rfl, 13, by decide⟩) (.inl ⟨rfl, 35, by decide⟩) (.inl ⟨rfl, 26, by decide⟩) (.inl ⟨rfl, 52, by decide⟩) (.inr ⟨rfl, by decide⟩) (.inl ⟨rfl, 1, by decide⟩) (.inl ⟨rfl, 27, by decide⟩)
  have q6 := keepsP (c0 := 0) (c1 := 0) (c2 := 0) (c3 := 0) (c4 := 0) (c5 := 53) (c6 := 0) hp (by decide) (fun a x y => hd a y x) (O.rel c) nz 48 (.inl ⟨rfl, 21, by decide⟩) (.inl ⟨rfl, 13, by decide⟩) (.inl ⟨rfl, 35, by decide⟩) (.inl ⟨rfl, 26, by decide⟩) (.inl ⟨rfl, 52, by decide⟩) (.inr ⟨rfl, by decide⟩) (.inl ⟨rfl, 1, by decide⟩)
  have q7 := keepsP (c0 := 0) (c1 := 0) (c2 := 0) (c3 := 0) (c4 := 0) (c5 := 0) (c6 := 53) hp (by decide) (fun a x y => hd a y x) (O.rel c) nz 47 (.inl ⟨rfl, 44, by decide⟩) (.inl ⟨rfl, 21, by decide⟩) (.inl ⟨rfl, 13, by decide⟩) (.inl ⟨rfl, 35, by decide⟩) (.inl ⟨rfl, 26, by decide⟩) (.inl ⟨rfl, 52, by decide⟩) (.inr ⟨rfl, by decide⟩)
  clear hp hd nz z
  omega
theorem no59 {V : Nat → Nat → Int} {f0 f1 f2 f3 f4 f5 f6 : Int} (O : Orb 59 V f0 f1 f2 f3 f4 f5 f6) (hz : ¬ (f0 = 0 ∧ f1 = 0 ∧ f2 = 0 ∧ f3 = 0 ∧ f4 = 0 ∧ f5 = 0 ∧ f6 = 0)) : ∃ m, 0 < m ∧ m < 59 ∧ ∀ c, V m c = V 0 c := by
  refine ⟨1, by decide, by decide, fun c => Classical.byContradiction fun z => hz ?_⟩
  have hp := O.per c
  have nz : (fun k => V k c) (0 + 1) - (fun k => V k c) 0 ≠ 0 := fun y => z (Int.sub_eq_zero.mp y)
  have hd : ∀ a, a < 59 → 0 < a → Nat.gcd a 59 = 1 := by decide +kernel
  have q0 := keepsP (c0 := 0) (c1 := 0) (c2 := 0) (c3 := 0) (c4 := 0) (c5 := 0) (c6 := 0) hp (by decide) (fun a x y => hd a y x) (O.rel c) nz 1 (.inl ⟨rfl, 1, by decide⟩) (.inl ⟨rfl, 30, by decide⟩) (.inl ⟨rfl, 20, by decide⟩) (.inl ⟨rfl, 15, by decide⟩) (.inl ⟨rfl, 12, by decide⟩) (.inl ⟨rfl, 10, by decide⟩) (.inl ⟨rfl, 17, by decide⟩)
  have q1 := keepsP (c0 := 59) (c1 := 0) (c2 := 0) (c3 := 0) (c4 := 0) (c5 := 0) (c6 := 0) hp (by decide) (fun a x y => hd a y x) (O.rel c) nz 59 (.inr ⟨rfl, by decide⟩) (.inl ⟨rfl, 1, by decide⟩) (.inl ⟨rfl, 30, by decide⟩) (.inl ⟨rfl, 20, by decide⟩) (.inl ⟨rfl, 15, by decide⟩) (.inl ⟨rfl, 12, by decide⟩) (.inl ⟨rfl, 10, by decide⟩)
  have q2 := keepsP (c0 := 0) (c1 := 59) (c2 := 0) (c3 := 0) (c4 := 0) (c5 := 0) (c6 := 0) hp (by decide) (fun a x y => hd a y x) (O.rel c) nz 58 (.inl ⟨rfl, 58, by decide⟩) (.inr ⟨rfl, by decide⟩) (.inl ⟨rfl, 1, by decide⟩) (.inl ⟨rfl, 30, by decide⟩) (.inl ⟨rfl, 20, by decide⟩) (.inl ⟨rfl, 15, by decide⟩) (.inl ⟨rfl, 12, by decide⟩)
  have q3 := keepsP (c0 := 0) (c1 := 0) (c2 := 59) (c3 := 0) (c4 := 0) (c5 := 0) (c6 := 0) hp (by decide) (fun a x y => hd a y x) (O.rel c) nz 57 (.inl ⟨rfl, 29, by decide⟩) (.inl ⟨rfl, 58, by decide⟩) (.inr ⟨rfl, by decide⟩) (.inl ⟨rfl, 1, by decide⟩) (.inl ⟨rfl, 30, by decide⟩) (.inl ⟨rfl, 20, by decide⟩) (.inl ⟨rfl, 15, by decide⟩)
  have q4 := keepsP (c0 := 0) (c1 := 0) (c2 := 0) (c3 := 59) (c4 := 0) (c5 := 0) (c6 := 0) hp (by decide) (fun a x y => hd a y x) (O.rel c) nz 56 (.inl ⟨rfl, 39, by decide⟩) (.inl ⟨rfl, 29, by decide⟩) (.inl ⟨rfl, 58, by decide⟩) (.inr ⟨rfl, by decide⟩) (.inl ⟨rfl, 1, by decide⟩) (.inl ⟨rfl, 30, by decide⟩) (.inl ⟨rfl, 20, by decide⟩)
  have q5 := keepsP (c0 := 0) (c1 := 0) (c2 := 0) (c3 := 0) (c4 := 59) (c5 := 0) (c6 := 0) hp (by decide) (fun a x y => hd a y x) (O.rel c) nz 55 (.inl ⟨rfl, 44, by decide⟩) (.inl ⟨rfl, 39, by decide⟩) (.inl ⟨rfl, 29, by decide⟩) (.inl ⟨rfl, 58, by decide⟩) (.inr ⟨rfl, by decide⟩) (.inl ⟨rfl, 1, by decide⟩) (.inl ⟨rfl, 30, by decide⟩)
  have q6 := keepsP (c0 := 0) (c1 := 0) (c2 := 0) (c3 := 0) (c4 := 0) (c5 := 59) (c6 := 0) hp (by decide) (fun a x y => hd a y x) (O.rel c) nz 54 (.inl ⟨rfl, 47, by decide⟩) (.inl ⟨rfl, 44, by decide⟩) (.inl ⟨rfl, 39, by decide⟩) (.inl ⟨rfl, 29, by decide⟩) (.inl ⟨rfl, 58, by decide⟩) (.inr ⟨rfl, by decide⟩) (.inl ⟨rfl, 1, by decide⟩)
  have q7 := keepsP (c0 := 0) (c1 := 0) (c2 := 0) (c3 := 0) (c4 := 0) (c5 := 0) (c6 := 59) hp (by decide) (fun a x y => hd a y x) (O.rel c) nz 53 (.inl ⟨rfl, 49, by decide⟩) (.inl ⟨rfl, 47, by decide⟩) (.inl ⟨rfl, 44, by decide⟩) (.inl ⟨rfl, 39, by decide⟩) (.inl ⟨rfl, 29, by decide⟩) (.inl ⟨rfl, 58, by decide⟩) (.inr ⟨rfl, by decide⟩)
  clear hp hd nz z
  omega
theorem no60 {V : Nat → Nat → Int} {f0 f1 f2 f3 f4 f5 f6 : Int} (O : Orb 60 V f0 f1 f2 f3 f4 f5 f6) (hz : ¬ (f0 = 0 ∧ f1 = 0 ∧ f2 = 0 ∧ f3 = 0 ∧ f4 = 0 ∧ f5 = 0 ∧ f6 = 0)) : ∃ m, 0 < m ∧ m < 60 ∧ ∀ c, V m c = V 0 c := by
  refine Classical.byContradiction fun nm => hz ?_
  obtain z | ⟨x0, mx0, c0, k0, nz0⟩ := O.alt (m := 30) (by decide) [(1, t1), (2, t2), (3, t3), (5, t5), (6, t6), (10, t10), (15, t15), (30, t30)] [(4, t4), (12, t12), (20, t20), (60, t60)] (by decide +kernel) (by decide +kernel)
  · exact absurd ⟨30, by decide, by decide, z⟩ nm
  have k0_ : ((f0 * 2 + (f1 * 0 + (f2 * (-2) + (f3 * 0 + (f4 * 2 + (f5 * 0 + f6 * (-2)))))) = 0 ∧ f0 * 0 + (f1 * (-2) + (f2 * 0 + (f3 * 2 + (f4 * 0 + (f5 * (-2) + f6 * 0))))) = 0) ∨ (f0 * 4 + (f1 * 0 + (f2 * 2 + (f3 * 0 + (f4 * (-2) + (f5 * 0 + f6 * (-4)))))) = 0 ∧ f0 * 0 + (f1 * 2 + (f2 * 0 + (f3 * (-2) + (f4 * 0 + (f5 * (-4) + f6 * 0))))) = 0 ∧ f0 * 2 + (f1 * 0 + (f2 * (-2) + (f3 * 0 + (f4 * (-4) + (f5 * 0 + f6 * (-2)))))) = 0 ∧ f0 * 0 + (f1 * (-2) + (f2 * 0 + (f3 * (-4) + (f4 * 0 + (f5 * (-2) + f6 * 0))))) = 0)) := by
    simp only [List.mem_cons, List.not_mem_nil, or_false] at mx0
    rcases mx0 with rfl | rfl | rfl | rfl
    · exact .inl (has4 (O.per c0) (by decide) (O.rel c0) nz0)
    · exact .inr (has12 (O.per c0) (by decide) (O.rel c0) nz0)
    · exact absurd (has20 (O.per c0) (by decide) (O.rel c0) nz0) hz
    · exact absurd (has60 (O.per c0) (by decide) (O.rel c0) nz0) hz
  obtain z | ⟨x1, mx1, c1, k1, nz1⟩ := O.alt (m := 20) (by decide) [(1, t1), (2, t2), (4, t4), (5, t5), (10, t10), (20, t20)] [(3, t3), (6, t6), (12, t12), (15, t15), (30, t30), (60, t60)] (by decide +kernel) (by decide +kernel)
  · exact absurd ⟨20, by decide, by decide, z⟩ nm
  have k1_ : ((f0 * 2 + (f1 * (-1) + (f2 * (-1) + (f3 * 2 + (f4 * (-1) + (f5 * (-1) + f6 * 2))))) = 0 ∧ f0 * (-1) + (f1 * (-1) + (f2 * 2 + (f3 * (-1) + (f4 * (-1) + (f5 * 2 + f6 * (-1)))))) = 0) ∨ (f0 * 2 + (f1 * 1 + (f2 * (-1) + (f3 * (-2) + (f4 * (-1) + (f5 * 1 + f6 * 2))))) = 0 ∧ f0 * 1 + (f1 * (-1) + (f2 * (-2) + (f3 * (-1) + (f4 * 1 + (f5 * 2 + f6 * 1))))) = 0) ∨ (f0 * 4 + (f1 * 0 + (f2 * 2 + (f3 * 0 + (f4 * (-2) + (f5 * 0 + f6 * (-4)))))) = 0 ∧ f0 * 0 + (f1 * 2 + (f2 * 0 + (f3 * (-2) + (f4 * 0 + (f5 * (-4) + f6 * 0))))) = 0 ∧ f0 * 2 + (f1 * 0 + (f2 * (-2) + (f3 * 0 + (f4 * (-4) + (f5 * 0 + f6 * (-2)))))) = 0 ∧ f0 * 0 + (f1 * (-2) + (f2 * 0 + (f3 * (-4) + (f4 * 0 + (f5 * (-2) + f6 * 0))))) = 0)) := by
    simp only [List.mem_cons, List.not_mem_nil, or_false] at mx1
    rcases mx1 with rfl | rfl | rfl | rfl | rfl | rfl
    · exact .inl (has3 (O.per c1) (by decide) (O.rel c1) nz1)
    · exact .inr (.inl (has6 (O.per c1) (by decide) (O.rel c1) nz1))
    · exact .inr (.inr (has12 (O.per c1) (by decide) (O.rel c1) nz1))
    · exact absurd (has15 (O.per c1) (by decide) (O.rel c1) nz1) hz
    · exact absurd (has30 (O.per c1) (by decide) (O.rel c1) nz1) hz
    · exact absurd (has60 (O.per c1) (by decide) (O.rel c1) nz1) hz
  obtain z | ⟨x2, mx2, c2, k2, nz2⟩ := O.alt (m := 12) (by decide) [(1, t1), (2, t2), (3, t3), (4, t4), (6, t6), (12, t12)] [(5, t5), (10, t10), (15, t15), (20, t20), (30, t30), (60, t60)] (by decide +kernel) (by decide +kernel)
  · exact absurd ⟨12, by decide, by decide, z⟩ nm
  have k2_ : ((f0 * 4 + (f1 * (-1) + (f2 * (-1) + (f3 * (-1) + (f4 * (-1) + (f5 * 4 + f6 * (-1)))))) = 0 ∧ f0 * (-1) + (f1 * (-1) + (f2 * (-1) + (f3 * (-1) + (f4 * 4 + (f5 * (-1) + f6 * (-1)))))) = 0 ∧ f0 * (-1) + (f1 * (-1) + (f2 * (-1) + (f3 * 4 + (f4 * (-1) + (f5 * (-1) + f6 * (-1)))))) = 0 ∧ f0 * (-1) + (f1 * (-1) + (f2 * 4 + (f3 * (-1) + (f4 * (-1) + (f5 * (-1) + f6 * (-1)))))) = 0) ∨ (f0 * 4 + (f1 * 1 + (f2 * (-1) + (f3 * 1 + (f4 * (-1) + (f5 * (-4) + f6 * (-1)))))) = 0 ∧ f0 * 1 + (f1 * (-1) + (f2 * 1 + (f3 * (-1) + (f4 * (-4) + (f5 * (-1) + f6 * 1))))) = 0 ∧ f0 * (-1) + (f1 * 1 + (f2 * (-1) + (f3 * (-4) + (f4 * (-1) + (f5 * 1 + f6 * (-1)))))) = 0 ∧ f0 * 1 + (f1 * (-1) + (f2 * (-4) + (f3 * (-1) + (f4 * 1 + (f5 * (-1) + f6 * 1))))) = 0)) := by
    simp only [List.mem_cons, List.not_mem_nil, or_false] at mx2
    rcases mx2 with rfl | rfl | rfl | rfl | rfl | rfl
    · exact .inl (has5 (O.per c2) (by decide) (O.rel c2) nz2)
    · exact .inr (has10 (O.per c2) (by decide) (O.rel c2) nz2)
    · exact absurd (has15 (O.per c2) (by decide) (O.rel c2) nz2) hz
    · exact absurd (has20 (O.per c2) (by decide) (O.rel c2) nz2) hz
    · exact absurd (has30 (O.per c2) (by decide) (O.rel c2) nz2) hz
    · exact absurd (has60 (O.per c2) (by decide) (O.rel c2) nz2) hz
  rcases k0_ with k0_ | k0_ <;> rcases k1_ with k1_ | k1_ | k1_ <;> rcases k2_ with k2_ | k2_
  · exact comb3_4_5 k1_ k0_ k2_
  · exact comb3_4_10 k1_ k0_ k2_
  · exact comb4_5_6 k0_ k2_ k1_
  · exact comb4_6_10 k0_ k1_ k2_
  · exact comb4_5_12 k0_ k2_ k1_
  · exact comb4_10_12 k0_ k2_ k1_
  · exact comb3_5_12 k1_ k2_ k0_
  · exact comb3_10_12 k1_ k2_ k0_
  · exact comb5_6_12 k2_ k1_ k0_
  · exact comb6_10_12 k1_ k2_ k0_
  · exact comb5_12 k2_ k0_
  · exact comb10_12 k2_ k0_
end Pb
end

section
set_option linter.all false
set_option maxRecDepth 100000
set_option autoImplicit false
/-! Pb5: a standing of at most six counters is not back for the first time behind 31 to 60 ticks. -/
namespace Pb
abbrev Vec := Nat → Int
structure Lin (n : Nat) (T : Vec → Vec) : Prop where
  lin : ∀ (x : Int) (u y : Vec), T (fun c => x * u c + y c) = fun c => x * T u c + T y c
  out : ∀ u c, n ≤ c → T u c = 0
theorem Lin.zero {n : Nat} {T : Vec → Vec} (L : Lin n T) : T (fun _ => 0) = fun _ => 0 := by
  have := L.lin (-1) (fun _ => 0) (fun _ => 0)
  simp only [Int.mul_zero, Int.add_zero] at this
  rw [this]
  funext c
  have h : T (fun _ => 0) c = -1 * T (fun _ => 0) c + T (fun _ => 0) c := congrFun this c
  omega
theorem iter_add {α : Type} {f : α → α} (x : α) (n : Nat) : ∀ m, iter f (m + n) x = iter f m (iter f n x)
  | 0 => by rw [Nat.zero_add]; rfl
  | m + 1 => by
    rw [show m + 1 + n = (m + n) + 1 from by omega]
    show f (iter f (m + n) x) = f (iter f m (iter f n x))
    rw [iter_add x n m]
theorem iter_mul {α : Type} {f : α → α} (x : α) (n : Nat) : ∀ m, iter f (n * m) x = iter (iter f n) m x
  | 0 => rfl
  | m + 1 => by
    rw [Nat.mul_succ, Nat.add_comm, iter_add]
    show iter f n _ = iter f n (iter (iter f n) m x)
    rw [iter_mul x n m]
theorem Lin.iter {n : Nat} {T : Vec → Vec} (L : Lin n T) : ∀ m, Lin n (iter T (m + 1))
  | 0 => L
  | m + 1 => ⟨fun x u y => by show T (Pb.iter T (m + 1) _) = _; rw [(L.iter m).lin, L.lin]; rfl, fun u c l => L.out _ c l⟩
theorem Lin.sums {n : Nat} {T : Vec → Vec} (L : Lin n T) (f : Nat → Int) (W : Nat → Vec) : ∀ m, T (fun c => Pb.sm m (fun i => f i * W i c)) = fun c => Pb.sm m (fun i => f i * T (W i) c)
  | 0 => L.zero
  | m + 1 => by
    have e : (fun c => Pb.sm (m + 1) (fun i => f i * W i c)) = fun c => f m * W m c + (fun c => Pb.sm m (fun i => f i * W i c)) c := funext fun c => by simp only [Pb.sm]; omega
    rw [e, L.lin, L.sums f W m]
    funext c
    simp only [Pb.sm]
    omega
/-- a rule of seven numbers -/
theorem Lin.orb {n p : Nat} {T : Vec → Vec} {v : Vec} (L : Lin n T) (n6 : n ≤ 6) (hv : ∀ c, n ≤ c → v c = 0) (hp : Pb.iter T p v = v) :
    ∃ f0 f1 f2 f3 f4 f5 f6 : Int, Orb p (fun k => Pb.iter T k v) f0 f1 f2 f3 f4 f5 f6 ∧ ¬ (f0 = 0 ∧ f1 = 0 ∧ f2 = 0 ∧ f3 = 0 ∧ f4 = 0 ∧ f5 = 0 ∧ f6 = 0) := by
  obtain ⟨f, ⟨i, il, fi⟩, hf⟩ := dep n 7 (fun k => Pb.iter T k v) (by omega)
  refine ⟨f 0, f 1, f 2, f 3, f 4, f 5, f 6, ⟨fun c k => ?_, fun c k => ?_⟩, fun z => ?_⟩
  · show Pb.iter T (k + p) v c = Pb.iter T k v c
    rw [iter_add, hp]
  · have z : ∀ k, (fun c => sm 7 (fun i => f i * Pb.iter T (k + i) v c)) = fun _ => 0 := fun k => by
      induction k with
      | zero =>
        funext c
        simp only [Nat.zero_add]
        by_cases l : c < n
        · exact hf c l
        · have : ∀ i, Pb.iter T i v c = 0 := fun i => by
            cases i with
            | zero => exact hv c (by omega)
            | succ i => exact L.out _ c (by omega)
          rw [sm_congr (g := fun _ => 0) fun j _ => by rw [this]; simp]
          exact sm_zero
      | succ k ih =>
        have := L.sums f (fun i => Pb.iter T (k + i) v) 7
        rw [ih, L.zero] at this
        rw [this]
        funext c
        refine sm_congr fun i _ => ?_
        rw [show k + 1 + i = k + i + 1 from by omega]
        rfl
    have := congrFun (z k) c
    rw [ops7]
    simp only [Nat.one_mul]
    simp only [sm] at this
    omega
  · obtain ⟨z0, z1, z2, z3, z4, z5, z6⟩ := z
    have : i = 0 ∨ i = 1 ∨ i = 2 ∨ i = 3 ∨ i = 4 ∨ i = 5 ∨ i = 6 := by omega
    rcases this with rfl | rfl | rfl | rfl | rfl | rfl | rfl <;> exact fi (by assumption)
def mini : List Nat := [11, 13, 16, 17, 19, 21, 23, 25, 27, 28, 29, 31, 35, 36, 37, 40, 41, 43, 45, 47, 49, 53, 59, 60]
theorem Lin.mini {n a p : Nat} {T : Vec → Vec} {v : Vec} (L : Lin n T) (n6 : n ≤ 6) (hv : ∀ c, n ≤ c → v c = 0) (hm : p ∈ mini) (a0 : 0 < a) (hp : Pb.iter T (a * p) v = v) : ∃ m, 0 < m ∧ m < a * p ∧ Pb.iter T m v = v := by
  obtain ⟨b, rfl⟩ : ∃ b, a = b + 1 := ⟨a - 1, by omega⟩
  rw [iter_mul] at hp
  obtain ⟨f0, f1, f2, f3, f4, f5, f6, O, hz⟩ := (L.iter b).orb n6 hv hp
  have : ∃ m, 0 < m ∧ m < p ∧ ∀ c, Pb.iter (Pb.iter T (b + 1)) m v c = Pb.iter (Pb.iter T (b + 1)) 0 v c := by
    simp only [Pb.mini, List.mem_cons, List.not_mem_nil, or_false] at hm
    rcases hm with rfl | rfl | rfl | rfl | rfl | rfl | rfl | rfl | rfl | rfl | rfl | rfl | rfl | rfl | rfl | rfl | rfl | rfl | rfl | rfl | rfl | rfl | rfl | rfl
    · exact no11 O hz
    · exact no13 O hz
    · exact no16 O hz
    · exact no17 O hz
    · exact no19 O hz
    · exact no21 O hz
    · exact no23 O hz
    · exact no25 O hz
    · exact no27 O hz
    · exact no28 O hz
    · exact no29 O hz
    · exact no31 O hz
    · exact no35 O hz
    · exact no36 O hz
    · exact no37 O hz
    · exact no40 O hz
    · exact no41 O hz
    · exact no43 O hz
    · exact no45 O hz
    · exact no47 O hz
    · exact no49 O hz
    · exact no53 O hz
    · exact no59 O hz
    · exact no60 O hz
  obtain ⟨m, m0, ml, e⟩ := this
  refine ⟨(b + 1) * m, Nat.mul_pos (by omega) m0, Nat.mul_lt_mul_of_pos_left ml (by omega), ?_⟩
  rw [iter_mul]
  exact funext e
theorem in_mini : ∀ p, p < 61 → 31 ≤ p → (Pb.mini.any fun q => decide (p % q = 0)) = true := by decide +kernel
/-- what comes back within sixty ticks comes back within thirty -/
theorem Lin.bound {n : Nat} {T : Vec → Vec} {v : Vec} (L : Lin n T) (n6 : n ≤ 6) (hv : ∀ c, n ≤ c → v c = 0) {p : Nat} (p0 : 0 < p) (p60 : p ≤ 60) (hp : Pb.iter T p v = v) : ∃ m, 0 < m ∧ m ≤ 30 ∧ m ≤ p ∧ Pb.iter T m v = v := by
  have : ∀ k p : Nat, p ≤ k → 0 < p → p ≤ 60 → Pb.iter T p v = v → ∃ m, 0 < m ∧ m ≤ 30 ∧ m ≤ p ∧ Pb.iter T m v = v := fun k => by
    induction k with
    | zero => intro p h1 h2; omega
    | succ k ih =>
      intro p pk p0 p60 hp
      by_cases l : p ≤ 30
      · exact ⟨p, p0, l, Nat.le_refl _, hp⟩
      · obtain ⟨q, mq, e⟩ := List.any_eq_true.mp (in_mini p (by omega) (by omega))
        obtain ⟨a, rfl⟩ := Nat.dvd_of_mod_eq_zero (of_decide_eq_true e)
        have a0 : 0 < a := by
          cases a with
          | zero => omega
          | succ a => omega
        rw [Nat.mul_comm] at hp
        obtain ⟨m, m0, ml, e⟩ := L.mini n6 hv mq a0 hp
        rw [Nat.mul_comm] at ml
        obtain ⟨m2, h1, h2, h3, h4⟩ := ih m (by omega) m0 (by omega) e
        exact ⟨m2, h1, h2, by omega, h4⟩
  exact this p p (Nat.le_refl _) p0 p60 hp
end Pb
end

section
set_option linter.all false
set_option maxRecDepth 100000
set_option autoImplicit false
/-! Tx: texts of integers and of tables, plainly. -/
namespace Co
open PySem L2 TL
def isDig (c : Nat) : Bool := decide (48 ≤ c) && decide (c ≤ 57)
def natW (l : List Nat) : Bool := !l.isEmpty && (l.all isDig && (decide (l = [48]) || decide (l.headD 0 ≠ 48)))
def intW (l : List Nat) : Bool := natW l || (decide (l.headD 0 = 45) && (natW l.tail && decide (l ≠ [45, 48])))
def valW (l : List Nat) : Int := if l.headD 0 = 45 then -((NumText.digitsVal l.tail : Nat) : Int) else ((NumText.digitsVal l : Nat) : Int)
theorem natW_digits {l : List Nat} (h : natW l = true) : NumText.AllDigits l ∧ l ≠ [] := by
  simp only [natW, Bool.and_eq_true, Bool.not_eq_true'] at h
  refine ⟨fun c m => ?_, fun e => by subst e; simp at h⟩
  have := List.all_eq_true.mp h.2.1 c m
  simp only [isDig, Bool.and_eq_true, decide_eq_true_eq] at this
  exact this
theorem intText_W {x : Str} (h : intW (tl x) = true) (l : x.length ≤ 4300) : intText? x = some (valW (tl x)) := by
  by_cases n : natW (tl x) = true
  · obtain ⟨a, b⟩ := natW_digits n
    rw [intText_digits a b l]
    have : (tl x).headD 0 ≠ 45 := by
      cases e : tl x with
      | nil => simp
      | cons c r =>
        have := a c (by rw [e]; exact List.mem_cons_self)
        simp
        omega
    unfold valW
    rw [if_neg this]
  · simp only [intW, Bool.or_eq_true, Bool.and_eq_true, decide_eq_true_eq] at h
    rcases h with h | ⟨h1, h2, h3⟩
    · exact absurd h n
    · obtain ⟨a, b⟩ := natW_digits h2
      have e : tl x = 45 :: (tl x).tail := by
        cases e : tl x with
        | nil => rw [e] at h1; cases h1
        | cons c r => rw [e] at h1; simp at h1; rw [h1]; rfl
      rw [intText_neg e a b l]
      unfold valW
      rw [if_pos h1]
/-! ### great words -/
theorem digitsVal_app (l : List Nat) (c : Nat) : NumText.digitsVal (l ++ [c]) = NumText.digitsVal l * 10 + (c - 48) := by
  simp [NumText.digitsVal, List.foldl_append]
theorem foldl_ge (l : List Nat) : ∀ a : Nat, a * 10 ^ l.length ≤ l.foldl (fun acc c => acc * 10 + (c - 48)) a := by
  induction l with
  | nil => intro a; simp
  | cons c r ih =>
    intro a
    refine Nat.le_trans ?_ (ih _)
    rw [List.length_cons, Nat.pow_succ, Nat.mul_comm (10 ^ r.length), ← Nat.mul_assoc]
    exact Nat.mul_le_mul_right _ (by show a * 10 ≤ a * 10 + (c - 48); omega)
theorem foldl_lt (l : List Nat) (h : NumText.AllDigits l) : ∀ a : Nat, l.foldl (fun acc c => acc * 10 + (c - 48)) a < (a + 1) * 10 ^ l.length := by
  induction l with
  | nil => intro a; simp
  | cons c r ih =>
    intro a
    have hc := h.head
    refine Nat.lt_of_lt_of_le (ih h.tail _) ?_
    rw [List.length_cons, Nat.pow_succ, Nat.mul_comm (10 ^ r.length), ← Nat.mul_assoc]
    exact Nat.mul_le_mul_right _ (by show a * 10 + (c - 48) + 1 ≤ (a + 1) * 10; omega)
theorem digitsVal_lt {l : List Nat} (h : NumText.AllDigits l) : NumText.digitsVal l < 10 ^ l.length := by
  have := foldl_lt l h 0
  simpa [NumText.digitsVal] using this
theorem digitsVal_ge {c : Nat} {l : List Nat} (h : NumText.AllDigits (c :: l)) (c0 : c ≠ 48) : 10 ^ l.length ≤ NumText.digitsVal (c :: l) := by
  have hc := h.head
  have := foldl_ge l (c - 48)
  simp only [NumText.digitsVal, List.foldl_cons, Nat.zero_mul, Nat.zero_add]
  refine Nat.le_trans ?_ this
  calc 10 ^ l.length = 1 * 10 ^ l.length := (Nat.one_mul _).symm
    _ ≤ (c - 48) * 10 ^ l.length := Nat.mul_le_mul_right _ (by omega)
/-- a word of more than ten digits is too great -/
theorem natW_great {l : List Nat} (h : natW l = true) (g : 11 ≤ l.length) : 10 ^ 10 ≤ NumText.digitsVal l := by
  obtain ⟨a, b⟩ := natW_digits h
  cases l with
  | nil => exact absurd rfl b
  | cons c r =>
    simp only [natW, Bool.and_eq_true, Bool.or_eq_true, decide_eq_true_eq] at h
    have c0 : c ≠ 48 := by
      rcases h.2.2 with e | e
      · rw [e] at g
        exact absurd g (by decide)
      · exact e
    refine Nat.le_trans ?_ (digitsVal_ge a c0)
    exact Nat.pow_le_pow_right (by decide) (by rw [List.length_cons] at g; omega)
/-- the number of a word, a great one for a long word -/
def numW (l : List Nat) : Int := if l.length < 30 then valW l else if l.headD 0 = 45 then -(10 ^ 30) else 10 ^ 30
def fitW (l : List Nat) : Bool := intW l && (decide (-1000000000 ≤ numW l) && decide (numW l ≤ 1000000000))
/-- .. as the law reads it -/
def lawW (l : List Nat) : Bool :=
  let g := if l.headD 0 = 45 then l.tail else l
  decide (0 < g.length) && (decide (g.length < 11) && (g.all isDig && (decide (NumText.digitsVal g ≤ 1000000000) && (decide (g.headD 0 ≠ 48) || decide (l = [48])))))
theorem fit_law (l : List Nat) : fitW l = lawW l := by
  rw [Bool.eq_iff_iff]
  constructor
  · intro h
    simp only [fitW, Bool.and_eq_true, decide_eq_true_eq] at h
    obtain ⟨hw, n1, n2⟩ := h
    by_cases n : natW l = true
    · obtain ⟨a, b⟩ := natW_digits n
      have h45 : l.headD 0 ≠ 45 := by
        cases l with
        | nil => simp
        | cons c r => have := a.head; simp; omega
      have len : l.length < 11 := by
        refine Nat.lt_of_not_le fun g => ?_
        have := natW_great n g
        simp only [numW, valW, if_neg h45] at n2
        split at n2 <;> omega
      have v : numW l = ((NumText.digitsVal l : Nat) : Int) := by simp only [numW, valW, if_neg h45]; rw [if_pos (by omega)]
      rw [v] at n2
      simp only [natW, Bool.and_eq_true, Bool.not_eq_true', Bool.or_eq_true, decide_eq_true_eq] at n
      simp only [lawW, if_neg h45, Bool.and_eq_true, Bool.or_eq_true, decide_eq_true_eq]
      refine ⟨List.length_pos_iff.mpr b, len, n.2.1, by omega, ?_⟩
      rcases n.2.2 with e | e
      · exact .inr e
      · exact .inl e
    · simp only [intW, Bool.or_eq_true, Bool.and_eq_true, decide_eq_true_eq] at hw
      rcases hw with hw | ⟨h45, h2, h3⟩
      · exact absurd hw n
      · obtain ⟨a, b⟩ := natW_digits h2
        have len : l.tail.length < 11 := by
          refine Nat.lt_of_not_le fun g => ?_
          have := natW_great h2 g
          simp only [numW, valW, if_pos h45] at n1
          split at n1 <;> omega
        have ll : l.length ≤ l.tail.length + 1 := by rw [List.length_tail]; omega
        have v : numW l = -((NumText.digitsVal l.tail : Nat) : Int) := by simp only [numW, valW, if_pos h45]; rw [if_pos (by omega)]
        rw [v] at n1
        simp only [natW, Bool.and_eq_true, Bool.not_eq_true', Bool.or_eq_true, decide_eq_true_eq] at h2
        simp only [lawW, if_pos h45, Bool.and_eq_true, Bool.or_eq_true, decide_eq_true_eq]
        refine ⟨List.length_pos_iff.mpr b, len, h2.2.1, by omega, .inl ?_⟩
        rcases h2.2.2 with e | e
        · exfalso
          apply h3
          cases l with
          | nil => simp at h45
          | cons c r => simp at h45 e; rw [h45, e]
        · exact e
  · intro h
    by_cases h45 : l.headD 0 = 45
    · simp only [lawW, if_pos h45, Bool.and_eq_true, Bool.or_eq_true, decide_eq_true_eq] at h
      obtain ⟨g0, g1, g2, g3, g4⟩ := h
      have g5 : l.tail.headD 0 ≠ 48 := by
        rcases g4 with e | e
        · exact e
        · rw [e] at h45; simp at h45
      have n : natW l.tail = true := by
        simp only [natW, Bool.and_eq_true, Bool.not_eq_true', Bool.or_eq_true, decide_eq_true_eq]
        refine ⟨?_, g2, .inr g5⟩
        cases e : l.tail with
        | nil => rw [e] at g0; simp at g0
        | cons => rfl
      have ll : l.length ≤ l.tail.length + 1 := by rw [List.length_tail]; omega
      have v : numW l = -((NumText.digitsVal l.tail : Nat) : Int) := by simp only [numW, valW, if_pos h45]; rw [if_pos (by omega)]
      simp only [fitW, intW, Bool.and_eq_true, Bool.or_eq_true, decide_eq_true_eq]
      refine ⟨.inr ⟨h45, n, fun e => ?_⟩, by rw [v]; omega, by rw [v]; omega⟩
      rw [e] at g5
      simp at g5
    · simp only [lawW, if_neg h45, Bool.and_eq_true, Bool.or_eq_true, decide_eq_true_eq] at h
      obtain ⟨g0, g1, g2, g3, g4⟩ := h
      have n : natW l = true := by
        simp only [natW, Bool.and_eq_true, Bool.not_eq_true', Bool.or_eq_true, decide_eq_true_eq]
        refine ⟨?_, g2, ?_⟩
        · cases l with
          | nil => simp at g0
          | cons => rfl
        · rcases g4 with e | e
          · exact .inr e
          · exact .inl e
      have v : numW l = ((NumText.digitsVal l : Nat) : Int) := by simp only [numW, valW, if_neg h45]; rw [if_pos (by omega)]
      simp only [fitW, intW, Bool.and_eq_true, Bool.or_eq_true, decide_eq_true_eq]
      exact ⟨.inl n, by rw [v]; omega, by rw [v]; omega⟩
/-! ### tables -/
def slash : Str := ⟨#[32, 47, 32]⟩
def blankS : Str := ⟨#[32]⟩
def wordsT (t : Str) : List (List Str) := (Txt.split t slash).map fun l => Txt.split l blankS
/-- the rows of a text -/
def readT (t : Str) : Option (List (List Int)) :=
  let ws := wordsT t
  if ws.length ≤ 6 ∧ (∀ l ∈ ws, l.length = ws.length) ∧ (∀ l ∈ ws, ∀ w ∈ l, fitW (tl w) = true) then some (ws.map fun l => l.map fun w => numW (tl w)) else none
end Co
end

section
set_option linter.all false
set_option maxRecDepth 100000
set_option autoImplicit false
/-! Sx: more steps. -/
namespace Co
open PySem L2 TL
/-- ends in a value, and leaves the heap -/
abbrev Gives {α : Type} (r : Res α) (a : α) (h : Hh) : Prop := r = .ok a h
section
variable {g : G} {s : Env} {h : Hh} {Q : Val → Hh → Prop} {a b c e it elt : CE} {es : List CE} {x y : Bool}
theorem gives_ends {α : Type} {r : Res α} {a : α} {h : Hh} (e : Ends r fun v h1 => v = a ∧ h1 = h) : r = .ok a h := by
  obtain ⟨v, h1, e, rfl, rfl⟩ := e
  exact e
theorem ends_of {α : Type} {r : Res α} {a : α} {h : Hh} {P : α → Hh → Prop} (e : r = .ok a h) (q : P a h) : Ends r P := ⟨a, h, e, q⟩
theorem w_andP (x y : Bool) (ha : Ends (evE g a s h) fun v h1 => v = .bl x ∧ h1 = h) (hb : x = true → Ends (evE g b s h) fun v h1 => v = .bl y ∧ h1 = h) (q : Q (.bl (x && y)) h) : Ends (evE g (.and a b) s h) Q := by
  refine w_and (ha.mono ?_)
  rintro v h1 ⟨rfl, rfl⟩
  refine ⟨x, rfl, fun z => ?_, fun z => ?_⟩
  · refine (hb z).mono ?_
    rintro v h2 ⟨rfl, rfl⟩
    subst z
    exact q
  · subst z
    exact q
theorem w_orP (x y : Bool) (ha : Ends (evE g a s h) fun v h1 => v = .bl x ∧ h1 = h) (hb : x = false → Ends (evE g b s h) fun v h1 => v = .bl y ∧ h1 = h) (q : Q (.bl (x || y)) h) : Ends (evE g (.or a b) s h) Q := by
  refine w_or (ha.mono ?_)
  rintro v h1 ⟨rfl, rfl⟩
  refine ⟨x, rfl, fun z => ?_, fun z => ?_⟩
  · subst z
    exact q
  · refine (hb z).mono ?_
    rintro v h2 ⟨rfl, rfl⟩
    subst z
    exact q
theorem all_bl {h : Hh} (bs : List Bool) : Co.bi .all (asL [.lst (bs.map .bl)] h) = some (.bl (bs.all id)) := by
  have : ∀ bs : List Bool, blsV (bs.map .bl) = some bs := fun bs => by
    induction bs with
    | nil => rfl
    | cons b r ih => simp [blsV, ih]
  show (blsV (bs.map .bl)).map (fun bs => Val.bl (bs.all id)) = _
  rw [this]
  rfl
theorem any_bl {h : Hh} (bs : List Bool) : Co.bi .any (asL [.lst (bs.map .bl)] h) = some (.bl (bs.any id)) := by
  have : ∀ bs : List Bool, blsV (bs.map .bl) = some bs := fun bs => by
    induction bs with
    | nil => rfl
    | cons b r ih => simp [blsV, ih]
  show (blsV (bs.map .bl)).map (fun bs => Val.bl (bs.any id)) = _
  rw [this]
  rfl
theorem all_map {α : Type} {h : Hh} (xs : List α) (f : α → Bool) : Co.bi .all (asL [.lst (xs.map fun x => .bl (f x))] h) = some (.bl (xs.all f)) := by
  have := all_bl (h := h) (xs.map f)
  rw [List.map_map] at this
  rw [show (xs.map fun x => Val.bl (f x)) = xs.map (Val.bl ∘ f) from rfl, this]
  simp [List.all_map]
theorem any_map {α : Type} {h : Hh} (xs : List α) (f : α → Bool) : Co.bi .any (asL [.lst (xs.map fun x => .bl (f x))] h) = some (.bl (xs.any f)) := by
  have := any_bl (h := h) (xs.map f)
  rw [List.map_map] at this
  rw [show (xs.map fun x => Val.bl (f x)) = xs.map (Val.bl ∘ f) from rfl, this]
  simp [List.any_map]
theorem sum_map {α : Type} {h : Hh} (xs : List α) (f : α → Int) : Co.bi .sum (asL [.lst (xs.map fun x => .int (f x))] h) = some (.int (xs.map f).sum) := by
  have : ∀ bs : List Int, intsV (bs.map .int) = some bs := fun bs => by
    induction bs with
    | nil => rfl
    | cons b r ih => simp [intsV, ih]
  show (intsV (xs.map fun x => .int (f x))).map (fun l => Val.int l.sum) = _
  rw [show (xs.map fun x => Val.int (f x)) = (xs.map f).map .int from by rw [List.map_map]; rfl, this]
  rfl
/-- a clause without a test over known items -/
theorem w_compP1 {α : Type} {own tg : List Nat} {one : Bool} (xs : List α) (A B : α → Val) (hit : Ends (evI g it s h) fun p h1 => p.1 = xs.map A ∧ p.2 = [] ∧ h1 = h) (hl : xs.length ≤ 16777216)
    (each : ∀ x ∈ xs, ∃ s1, setT one tg (A x) h (wipeE s own) = some s1 ∧ Ends (evE g elt s1 h) fun v h1 => v = B x ∧ h1 = h) (q : Q (.lst (xs.map B)) h) : Ends (evE g (.comp false own tg one it [] elt) s h) Q := by
  refine w_compX xs A B (hit.mono ?_)
  rintro ⟨p1, p2⟩ h1 ⟨e1, e2, rfl⟩
  dsimp only at e1 e2
  subst e1 e2
  refine ⟨rfl, by dsimp only; rw [List.length_map]; exact hl, rfl, fun x hx => ?_, q⟩
  obtain ⟨s1, e, w⟩ := each x hx
  refine cStep_of e (c_nil ⟨fun _ => w.mono ?_, fun z => nomatch z⟩)
  rintro v h2 ⟨rfl, rfl⟩
  exact ⟨rfl, rfl⟩
/-- .. with a test -/
theorem w_compF1 {α : Type} {own tg : List Nat} {one : Bool} (xs : List α) (A B : α → Val) (f : α → Bool) (hit : Ends (evI g it s h) fun p h1 => p.1 = xs.map A ∧ p.2 = [] ∧ h1 = h) (hl : xs.length ≤ 16777216)
    (each : ∀ x ∈ xs, ∃ s1, setT one tg (A x) h (wipeE s own) = some s1 ∧ (Ends (evE g c s1 h) fun v h1 => v = .bl (f x) ∧ h1 = h) ∧ (f x = true → Ends (evE g elt s1 h) fun v h1 => v = B x ∧ h1 = h)) (q : Q (.lst ((xs.filter f).map B)) h) : Ends (evE g (.comp false own tg one it [c] elt) s h) Q := by
  refine w_compF xs A B f (hit.mono ?_)
  rintro ⟨p1, p2⟩ h1 ⟨e1, e2, rfl⟩
  dsimp only at e1 e2
  subst e1 e2
  refine ⟨rfl, by dsimp only; rw [List.length_map]; exact hl, rfl, fun x hx => ?_, q⟩
  obtain ⟨s1, e, wc, w⟩ := each x hx
  refine cStep_of e (c_cons (wc.mono ?_))
  rintro v h2 ⟨rfl, rfl⟩
  refine ⟨f x, rfl, fun z => c_nil ⟨fun _ => (w z).mono ?_, (fun z => nomatch z)⟩, fun z => ⟨(fun z => nomatch z), fun _ => ⟨by rw [if_neg (by rw [z]; exact Bool.false_ne_true)], rfl⟩⟩⟩
  rintro v h3 ⟨rfl, rfl⟩
  exact ⟨by rw [if_pos z], rfl⟩
theorem w_allP {α : Type} {own tg : List Nat} {one : Bool} (xs : List α) (A : α → Val) (f : α → Bool) (hit : Ends (evI g it s h) fun p h1 => p.1 = xs.map A ∧ p.2 = [] ∧ h1 = h) (hl : xs.length ≤ 16777216)
    (each : ∀ x ∈ xs, ∃ s1, setT one tg (A x) h (wipeE s own) = some s1 ∧ Ends (evE g elt s1 h) fun v h1 => v = .bl (f x) ∧ h1 = h) (q : Q (.bl (xs.all f)) h) : Ends (evE g (.callB .all [.comp false own tg one it [] elt]) s h) Q :=
  w_callB (w_cons rfl (w_compP1 xs A (fun x => .bl (f x)) hit hl each (w_nil (w_opt (all_map xs f) q))))
theorem w_anyP {α : Type} {own tg : List Nat} {one : Bool} (xs : List α) (A : α → Val) (f : α → Bool) (hit : Ends (evI g it s h) fun p h1 => p.1 = xs.map A ∧ p.2 = [] ∧ h1 = h) (hl : xs.length ≤ 16777216)
    (each : ∀ x ∈ xs, ∃ s1, setT one tg (A x) h (wipeE s own) = some s1 ∧ Ends (evE g elt s1 h) fun v h1 => v = .bl (f x) ∧ h1 = h) (q : Q (.bl (xs.any f)) h) : Ends (evE g (.callB .any [.comp false own tg one it [] elt]) s h) Q :=
  w_callB (w_cons rfl (w_compP1 xs A (fun x => .bl (f x)) hit hl each (w_nil (w_opt (any_map xs f) q))))
theorem w_sumP {α : Type} {own tg : List Nat} {one : Bool} (xs : List α) (A : α → Val) (f : α → Int) (hit : Ends (evI g it s h) fun p h1 => p.1 = xs.map A ∧ p.2 = [] ∧ h1 = h) (hl : xs.length ≤ 16777216)
    (each : ∀ x ∈ xs, ∃ s1, setT one tg (A x) h (wipeE s own) = some s1 ∧ Ends (evE g elt s1 h) fun v h1 => v = .int (f x) ∧ h1 = h) (q : Q (.int (xs.map f).sum) h) : Ends (evE g (.callB .sum [.comp false own tg one it [] elt]) s h) Q :=
  w_callB (w_cons rfl (w_compP1 xs A (fun x => .int (f x)) hit hl each (w_nil (w_opt (sum_map xs f) q))))
theorem w_tupP {α : Type} {own tg : List Nat} {one : Bool} (xs : List α) (A B : α → Val) (hit : Ends (evI g it s h) fun p h1 => p.1 = xs.map A ∧ p.2 = [] ∧ h1 = h) (hl : xs.length ≤ 16777216)
    (each : ∀ x ∈ xs, ∃ s1, setT one tg (A x) h (wipeE s own) = some s1 ∧ Ends (evE g elt s1 h) fun v h1 => v = B x ∧ h1 = h) (q : Q (.tup (xs.map B)) h) : Ends (evE g (.callB .tuple [.comp false own tg one it [] elt]) s h) Q :=
  w_callB (w_cons rfl (w_compP1 xs A B hit hl each (w_nil (w_opt ri_Tl q))))
end
theorem len_strT {h : Hh} {t : Str} (l : t.length ≤ lim) : Co.bi .len (asL [.str t] h) = some (.int t.length) := by
  show (if t.length ≤ lim then some (Val.int t.length) else none) = _
  rw [if_pos l]
theorem slice_strT {h : Hh} {t : Str} {lo hi : Option Int} (l : t.length ≤ lim) : sliceV (rd h (.str t)) lo hi = some (.str (cutS t lo hi)) := by
  show (if t.length ≤ lim then some (Val.str (cutS t lo hi)) else none) = _
  rw [if_pos l]
theorem eq_str {h h2 : Hh} {x y : Str} : cop .Eq (rd h (.str x)) (rd h2 (.str y)) = some (decide (x = y)) := rfl
theorem ne_str {h h2 : Hh} {x y : Str} : cop .NotEq (rd h (.str x)) (rd h2 (.str y)) = some (!decide (x = y)) := rfl
theorem eq_intZ {h h2 : Hh} {i j : Int} : cop .Eq (rd h (.int i)) (rd h2 (.int j)) = some (decide (i = j)) := by
  show eqD (.int i) (.int j) = _
  simp only [eqD, toD, PyData.eqv, Option.bind_some, Option.map_some]
  rw [show (i == j) = decide (i = j) from by by_cases q : i = j <;> simp [q]]
theorem ne_intZ {h h2 : Hh} {i j : Int} : cop .NotEq (rd h (.int i)) (rd h2 (.int j)) = some (!decide (i = j)) := by
  show (eqD (.int i) (.int j)).map not = _
  rw [show eqD (.int i) (.int j) = some (decide (i = j)) from eq_intZ (h := []) (h2 := [])]
  rfl
theorem tl_ext {x y : Str} : x = y ↔ tl x = tl y := by
  constructor
  · intro e; rw [e]
  · intro e
    cases x; cases y
    simp only [tl] at e
    congr 1
    exact Array.toList_inj.mp e
theorem tl_len (x : Str) : (tl x).length = x.length := Array.length_toList
theorem one_sign {c : Nat} {h h2 : Hh} {l : List Nat} : cop .In (rd h (.str ⟨#[c]⟩)) (rd h2 (.str ⟨⟨l⟩⟩)) = some (decide (c ∈ l)) := rfl
theorem no_sign {c : Nat} {h h2 : Hh} {l : List Nat} : cop .NotIn (rd h (.str ⟨#[c]⟩)) (rd h2 (.str ⟨⟨l⟩⟩)) = some (!decide (c ∈ l)) := rfl
theorem idx_str0 {h : Hh} {t : Str} (l : t.length ≤ lim) {c : Nat} {r : List Nat} (e : tl t = c :: r) : idxV (rd h (.str t)) (.int 0) = some (.str ⟨#[c]⟩) := by
  show (if t.length ≤ lim then (atI t.cps.toList 0).map fun c => Val.str ⟨#[c]⟩ else none) = _
  rw [if_pos l, show t.cps.toList = c :: r from e, at0]
  rfl
theorem dig_mem (c : Nat) : decide (c ∈ [48, 49, 50, 51, 52, 53, 54, 55, 56, 57]) = isDig c := by
  unfold isDig
  rw [Bool.eq_iff_iff]
  simp only [List.mem_cons, List.not_mem_nil, or_false, decide_eq_true_eq, Bool.and_eq_true]
  omega
theorem signs_of {h : Hh} {t : Str} : itOf h (.str t) = some ((tl t).map fun c => .str ⟨#[c]⟩, []) := rfl
/-- cuts at the first sign -/
theorem cut_first (t : Str) : tl (cutS t none (some 1)) = (tl t).take 1 := by
  show ((tl t).drop 0).take (HT.sIx t.length t.length (some ((1 : Nat) : Int)) - 0) = _
  rw [HT.sIx_nat, List.drop_zero, Nat.sub_zero, ← tl_len, ← List.take_take, List.take_length]
theorem cut_rest (t : Str) : tl (cutS t (some 1) none) = (tl t).tail := by
  show ((tl t).drop (HT.sIx t.length 0 (some ((1 : Nat) : Int)))).take (t.length - HT.sIx t.length 0 (some ((1 : Nat) : Int))) = _
  rw [HT.sIx_nat, ← tl_len]
  rw [List.take_of_length_le (by rw [List.length_drop]; exact Nat.le_refl _)]
  cases tl t with
  | nil => rfl
  | cons c r => simp

/-! ### values without objects -/
mutual
def fz : Val → Bool
  | .tup vs => fzL vs
  | .lst vs => fzL vs
  | .ro vs => fzL vs
  | .dct kvs => fzK kvs
  | .ins _ _ => false
  | .ref _ => false
  | _ => true
def fzL : List Val → Bool
  | [] => true
  | v :: r => fz v && fzL r
def fzK : List (Key × Val) → Bool
  | [] => true
  | (_, v) :: r => fz v && fzK r
end
theorem fzL_all {vs : List Val} : fzL vs = true ↔ ∀ v ∈ vs, fz v = true := by
  induction vs with
  | nil => simp [fzL]
  | cons v r ih => simp [fzL, ih]
mutual
theorem fz_below (n : Nat) : ∀ v : Val, fz v = true → below n v = true
  | .non, _ => rfl
  | .bl _, _ => rfl
  | .int _, _ => rfl
  | .str _, _ => rfl
  | .tup vs, h => by simp only [fz] at h; simp only [below]; exact fz_belowL n vs h
  | .lst vs, h => by simp only [fz] at h; simp only [below]; exact fz_belowL n vs h
  | .ro vs, h => by simp only [fz] at h; simp only [below]; exact fz_belowL n vs h
  | .dct kvs, h => by simp only [fz] at h; simp only [below]; exact fz_belowK n kvs h
  | .ins _ _, h => by simp [fz] at h
  | .ref _, h => by simp [fz] at h
theorem fz_belowL (n : Nat) : ∀ vs : List Val, fzL vs = true → belowL n vs = true
  | [], _ => rfl
  | v :: r, h => by
    simp only [fzL, Bool.and_eq_true] at h
    simp only [belowL, fz_below n v h.1, fz_belowL n r h.2, Bool.and_self]
theorem fz_belowK (n : Nat) : ∀ vs : List (Key × Val), fzK vs = true → belowK n vs = true
  | [], _ => rfl
  | (_, v) :: r, h => by
    simp only [fzK, Bool.and_eq_true] at h
    simp only [belowK, fz_below n v h.1, fz_belowK n r h.2, Bool.and_self]
end
theorem rd_fz {h : Hh} {v : Val} (f : fz v = true) : rd h v = v := by cases v <;> first | rfl | (simp [fz] at f)
theorem kind_fz {n : Nat} {h : Hh} {v : Val} (f : fz v = true) : kindOk n h v = true := by cases v <;> first | rfl | (simp [fz] at f)
theorem w_backF {b : Nat} {v : Val} {h : Hh} {Q : Val → Hh → Prop} (f : fz v = true) (q : Q v (h.take b)) : Ends (retR false b (.ret v) h) Q := w_back (frz_low (fz_below b v f)) q
def isZ : Val → Bool
  | .int _ => true
  | _ => false
def btw (v : Val) (lo hi : Int) : Bool := match v with
  | .int i => decide (lo ≤ i) && decide (i ≤ hi)
  | _ => false
def numsV : Val → Bool
  | .tup vs => vs.all fun v => btw v (-1000000000) 1000000000
  | _ => false
theorem isI_int {h : Hh} {v : Val} (f : fz v = true) : (isIns h .int v && !isIns h .bool v) = isZ v := by cases v <;> first | rfl | (simp [fz] at f)
theorem fz_ints : ∀ r : List Int, fzL (r.map .int) = true
  | [] => rfl
  | x :: r => by simp [fzL, fz, fz_ints r]
def tupI (r : List Int) : Val := .tup (r.map .int)
def tupV (m : List (List Int)) : Val := .tup (m.map tupI)
theorem fz_tupI (r : List Int) : fz (tupI r) = true := fz_ints r
theorem fz_tupV (m : List (List Int)) : fz (tupV m) = true := fzL_all.mpr fun v hv => by
  obtain ⟨r, _, rfl⟩ := List.mem_map.mp hv
  exact fz_tupI r
theorem split_go {g : G} {t y : Str} {h : Hh} (l : (y.length == 0) = false) (e : t.length + 2 ≤ lim) : meM g .split (.str t) [.str y] h = .ok (.lst ((Txt.split t y).map .str)) h := by
  show opt (if (y.length == 0) = false ∧ t.length + 2 ≤ lim then some (Val.lst ((Txt.split t y).map .str)) else none) h = _
  rw [if_pos ⟨l, e⟩]
  rfl
theorem rangeL_map (n : Nat) : rangeL 0 n = (List.range n).map fun i => .int (i : Nat) := by
  have : ∀ (n lo : Nat), rangeL lo n = (List.range' lo n).map fun i => .int (i : Nat) := fun n => by
    induction n with
    | zero => intro lo; rfl
    | succ n ih =>
      intro lo
      have := ih (lo + 1)
      simp only [rangeL, List.range'_succ, List.map_cons]
      rw [show ((lo : Int) + 1) = ((lo + 1 : Nat) : Int) from rfl, this]
  rw [List.range_eq_range']
  exact this n 0

theorem w_chain {g : G} {s : Env} {h : Hh} {Q : Val → Hh → Prop} {a b c : CE} {o1 o2 : CmpOp} (q : Ends (evE g a s h) fun x h1 => Ends (evE g b s h1) fun y h2 => ∃ k, cop o1 (rd h2 x) (rd h2 y) = some k ∧ (k = true → Ends (evE g c s h2) fun z h3 => Ends (opt ((cop o2 (rd h3 y) (rd h3 z)).map .bl) h3) Q) ∧ (k = false → Q (.bl false) h2)) : Ends (evE g (.chain o1 o2 a b c) s h) Q := by
  simp only [evE]
  refine .bind q fun x h1 q => .bind q fun y h2 ⟨k, e, q1, q2⟩ => ?_
  rw [e]
  cases k
  · exact .ok (q2 rfl)
  · exact .bind (q1 rfl) fun z h3 q => q
theorem w_chainI {g : G} {s : Env} {h : Hh} {Q : Val → Hh → Prop} {a b c : CE} {o1 o2 : CmpOp} {x y z : Val} (k1 k2 : Bool) (ha : Ends (evE g a s h) fun v h1 => v = x ∧ h1 = h) (hb : Ends (evE g b s h) fun v h1 => v = y ∧ h1 = h) (hc : Ends (evE g c s h) fun v h1 => v = z ∧ h1 = h)
    (e1 : cop o1 (rd h x) (rd h y) = some k1) (e2 : cop o2 (rd h y) (rd h z) = some k2) (q : Q (.bl (k1 && k2)) h) : Ends (evE g (.chain o1 o2 a b c) s h) Q := by
  refine w_chain (ha.mono ?_)
  rintro v h1 ⟨rfl, rfl⟩
  refine hb.mono ?_
  rintro v h1 ⟨rfl, rfl⟩
  refine ⟨k1, e1, fun z => hc.mono ?_, fun z => by rw [z] at q; exact q⟩
  rintro v h1 ⟨rfl, rfl⟩
  rw [e2]
  rw [z] at q
  exact .ok q
theorem tl_lit {l : List Nat} : tl ⟨⟨l⟩⟩ = l := rfl
theorem tl_one {c : Nat} : tl ⟨#[c]⟩ = [c] := rfl
theorem isZ_int {v : Val} (z : isZ v = true) : ∃ i, v = .int i := by cases v <;> first | exact ⟨_, rfl⟩ | cases z
theorem isI_tup {h : Hh} {v : Val} (f : fz v = true) (z : isIns h .tuple v = true) : ∃ vs, v = .tup vs := by cases v <;> first | exact ⟨_, rfl⟩ | cases z | cases f
theorem first_is (t : Str) (c : Nat) (c0 : c ≠ 0) : decide (cutS t none (some 1) = ⟨⟨[c]⟩⟩) = decide ((tl t).headD 0 = c) := by
  have e : (cutS t none (some 1) = ⟨⟨[c]⟩⟩) ↔ ((tl t).headD 0 = c) := by
    rw [tl_ext, cut_first]
    show (tl t).take 1 = [c] ↔ _
    generalize tl t = u
    cases u with
    | nil => simp; omega
    | cons x r => simp
  exact decide_eq_decide.mpr e
/-! ### equal tuples -/
theorem toDL_ints (k : Nat) : ∀ a : List Int, toDL (k + 1) (a.map .int) = some (a.map .int)
  | [] => rfl
  | x :: a => by simp [toDL, toD, toDL_ints k a]
theorem toD_tupI (k : Nat) (a : List Int) : toD (k + 2) (tupI a) = some (.tuple (a.map .int)) := by
  simp only [tupI, toD, toDL_ints, Option.map_some]
theorem eqv_ints : ∀ a b : List Int, PyData.eqvAll (a.map .int) (b.map .int) = decide (a = b)
  | [], [] => rfl
  | [], _ :: _ => rfl
  | _ :: _, [] => rfl
  | x :: a, y :: b => by
    have : (x == y) = decide (x = y) := by by_cases q : x = y <;> simp [q]
    simp only [List.map_cons, PyData.eqvAll, PyData.eqv, eqv_ints a b, List.cons.injEq, Bool.decide_and, this]
theorem eqD_tupI (a b : List Int) : eqD (tupI a) (tupI b) = some (decide (a = b)) := by
  simp only [eqD, toD_tupI 58, Option.bind_some, Option.map_some, PyData.eqv, eqv_ints]
theorem rd_tupI {h : Hh} {a : List Int} : rd h (tupI a) = tupI a := rfl
theorem eq_tupI {h h2 : Hh} {a b : List Int} : cop .Eq (rd h (tupI a)) (rd h2 (tupI b)) = some (decide (a = b)) := eqD_tupI a b
theorem ne_tupI {h h2 : Hh} {a b : List Int} : cop .NotEq (rd h (tupI a)) (rd h2 (tupI b)) = some (!decide (a = b)) := by
  show (eqD (tupI a) (tupI b)).map not = _
  rw [eqD_tupI]
  rfl
theorem len_tupI {h : Hh} {a : List Int} : Co.bi .len (asL [tupI a] h) = some (.int (a.length : Nat)) := by
  show some (Val.int ((a.map Val.int).length : Nat)) = _
  rw [List.length_map]
theorem len_tupV {h : Hh} {m : List (List Int)} : Co.bi .len (asL [tupV m] h) = some (.int (m.length : Nat)) := by
  show some (Val.int ((m.map tupI).length : Nat)) = _
  rw [List.length_map]
theorem idx_tupI {h : Hh} {a : List Int} {i : Int} (k : Nat) (l : k < a.length) (q : i = k) : idxV (rd h (tupI a)) (.int i) = some (.int (a.getD k 0)) := by
  refine atI_at k ?_ q
  rw [List.getElem?_map, List.getElem?_eq_getElem l]
  simp [List.getElem?_eq_getElem l]
theorem idx_tupV {h : Hh} {m : List (List Int)} {i : Int} (k : Nat) (l : k < m.length) (q : i = k) : idxV (rd h (tupV m)) (.int i) = some (tupI (m.getD k [])) := by
  refine atI_at k ?_ q
  rw [List.getElem?_map, List.getElem?_eq_getElem l]
  simp [List.getElem?_eq_getElem l]
/-! ### rows and standings -/
def dot (r v : List Int) : Int := (List.zipWith (· * ·) r v).sum
def ledM (m : List (List Int)) (v : List Int) : List Int := m.map fun r => dot r v
def itM (m : List (List Int)) : Nat → List Int → List Int
  | 0, v => v
  | k + 1, v => itM m k (ledM m v)
theorem itM_succ (m : List (List Int)) : ∀ (k : Nat) (v : List Int), itM m (k + 1) v = ledM m (itM m k v)
  | 0, _ => rfl
  | k + 1, v => by
    show itM m (k + 1) (ledM m v) = ledM m (itM m k (ledM m v))
    exact itM_succ m k (ledM m v)
theorem itM_add (m : List (List Int)) (j : Nat) : ∀ (k : Nat) (v : List Int), itM m (k + j) v = itM m j (itM m k v)
  | 0, v => by rw [Nat.zero_add]; rfl
  | k + 1, v => by rw [Nat.succ_add]; exact itM_add m j k (ledM m v)
/-- a square table -/
def Sqr (m : List (List Int)) : Prop := ∀ r ∈ m, r.length = m.length
/-- .. with no number beyond the bound -/
def Bdd (B : Int) (m : List (List Int)) : Prop := ∀ r ∈ m, ∀ x ∈ r, -B ≤ x ∧ x ≤ B
theorem ledM_len {m : List (List Int)} {v : List Int} : (ledM m v).length = m.length := by unfold ledM; rw [List.length_map]
theorem itM_len {m : List (List Int)} : ∀ (k : Nat) {v : List Int}, v.length = m.length → (itM m k v).length = m.length
  | 0, _, h => h
  | k + 1, _, _ => itM_len k ledM_len
theorem dot_range : ∀ (r v : List Int) (n : Nat), r.length = n → v.length = n → ((List.range n).map fun i => r.getD i 0 * v.getD i 0).sum = dot r v
  | [], [], n, h, _ => by subst h; rfl
  | [], _ :: _, n, h, h2 => by subst h; cases h2
  | _ :: _, [], n, h, h2 => by subst h2; cases h
  | x :: r, y :: v, n, h, h2 => by
    obtain ⟨n, rfl⟩ : ∃ k, n = k + 1 := ⟨r.length, by rw [← h]; rfl⟩
    have := dot_range r v n (by simpa using h) (by simpa using h2)
    rw [List.range_succ_eq_map, List.map_cons, List.map_map, List.sum_cons]
    unfold dot at this ⊢
    rw [List.zipWith_cons_cons, List.sum_cons, ← this]
    rfl
/-- the first time at which a standing is back -/
def retM (m : List (List Int)) (v : List Int) : Nat → Nat → List Int → Option Nat
  | 0, _, _ => none
  | n + 1, t, w => let w2 := ledM m w; if w2 = v then some (t + 1) else retM m v n (t + 1) w2
def perM (N : Nat) (m : List (List Int)) (v : List Int) : Option Nat := retM m v N 0 v
theorem retM_some {m : List (List Int)} {v : List Int} : ∀ (n t : Nat) (w : List Int) (k : Nat), retM m v n t w = some k → t < k ∧ k ≤ t + n ∧ itM m (k - t) w = v ∧ ∀ j, 0 < j → j < k - t → itM m j w ≠ v
  | 0, _, _, _, h => by cases h
  | n + 1, t, w, k, h => by
    simp only [retM] at h
    split at h
    · rename_i e
      cases h
      refine ⟨by omega, by omega, ?_, fun j a b => by omega⟩
      rw [show t + 1 - t = 1 from by omega]
      exact e
    · rename_i ne
      obtain ⟨a, b, c, d⟩ := retM_some n (t + 1) _ k h
      refine ⟨by omega, by omega, ?_, fun j j0 jl => ?_⟩
      · rw [show k - t = (k - (t + 1)) + 1 from by omega]
        exact c
      · obtain ⟨i, rfl⟩ : ∃ i, j = i + 1 := ⟨j - 1, by omega⟩
        by_cases z : i = 0
        · subst z; exact ne
        · exact d i (by omega) (by omega)
theorem retM_none {m : List (List Int)} {v : List Int} : ∀ (n t : Nat) (w : List Int), retM m v n t w = none → ∀ j, 0 < j → j ≤ n → itM m j w ≠ v
  | 0, _, _, _ => fun j a b => by omega
  | n + 1, t, w, h => fun j a b => by
    simp only [retM] at h
    split at h
    · cases h
    · rename_i ne
      obtain ⟨i, rfl⟩ : ∃ i, j = i + 1 := ⟨j - 1, by omega⟩
      by_cases z : i = 0
      · subst z; exact ne
      · exact retM_none n (t + 1) _ h i (by omega) (by omega)
/-- .. it is the one at which it is back, and not before -/
theorem perM_some {N : Nat} {m : List (List Int)} {v : List Int} {k : Nat} : perM N m v = some k ↔ 0 < k ∧ k ≤ N ∧ itM m k v = v ∧ ∀ j, 0 < j → j < k → itM m j v ≠ v := by
  constructor
  · intro h
    obtain ⟨a, b, c, d⟩ := retM_some N 0 v k h
    exact ⟨a, by omega, c, d⟩
  · rintro ⟨a, b, c, d⟩
    cases e : perM N m v with
    | none => exact absurd c (retM_none N 0 v e k a b)
    | some j =>
      obtain ⟨a2, b2, c2, d2⟩ := retM_some N 0 v j e
      simp only [Nat.sub_zero] at c2 d2
      by_cases l : j < k
      · exact absurd c2 (d j a2 l)
      · by_cases l2 : k < j
        · exact absurd c (d2 k a l2)
        · rw [show j = k from by omega]
theorem perM_none {N : Nat} {m : List (List Int)} {v : List Int} : perM N m v = none ↔ ∀ j, 0 < j → j ≤ N → itM m j v ≠ v := by
  constructor
  · exact retM_none N 0 v
  · intro h
    cases e : perM N m v with
    | none => rfl
    | some k =>
      obtain ⟨a, b, c, _⟩ := perM_some.mp e
      exact absurd c (h k a b)
/-- the standing that a value is, of so many counters -/
def intsOf : List Val → List Int
  | .int i :: r => i :: intsOf r
  | _ :: r => intsOf r
  | [] => []
def tupLen (v : Val) (n : Nat) : Bool := match v with
  | .tup vs => decide (vs.length = n)
  | _ => false
def stOf (v : Val) (n : Nat) : Option (List Int) := match v with
  | .tup vs => if numsV (.tup vs) = true ∧ vs.length = n then some (intsOf vs) else none
  | _ => none
theorem ints_back : ∀ vs : List Val, (vs.all fun v => btw v (-1000000000) 1000000000) = true → vs = (intsOf vs).map .int
  | [], _ => rfl
  | v :: r, h => by
    simp only [List.all_cons,
                            Bool.and_eq_true] at h
    cases v <;> first | (simp [btw] at h; done) | skip
    simp only [intsOf, List.map_cons]
    rw [← ints_back r h.2]
theorem stOf_some {v : Val} {n : Nat} {u : List Int} (h : stOf v n = some u) : v = tupI u ∧ u.length = n ∧ ∀ x ∈ u, -1000000000 ≤ x ∧ x ≤ 1000000000 := by
  cases v <;> first | (simp [stOf] at h; done) | skip
  rename_i vs
  simp only [stOf] at h
  split at h
  · rename_i c
    cases h
    have e := ints_back vs c.1
    have l : (intsOf vs).length = n := by rw [← c.2]; conv => rhs; rw [e]; rw [List.length_map]
    refine ⟨by unfold tupI; rw [← e], l, fun x hx => ?_⟩
    have c1 : (vs.all fun v => btw v (-1000000000) 1000000000) = true := c.1
    rw [e] at c1
    have := List.all_eq_true.mp c1 (.int x) (List.mem_map.mpr ⟨x, hx, rfl⟩)
    simpa [btw] using this
  · cases h
theorem stOf_ok (v : Val) (n : Nat) : (numsV v && tupLen v n) = (stOf v n).isSome := by
  cases v <;>
                          first | rfl | skip
  rename_i vs
  simp only [stOf, tupLen]
  by_cases c : numsV (.tup vs) = true ∧ vs.length = n
  · rw [if_pos c, c.1, c.2]
    simp
  · rw [if_neg c]
    by_cases c1 : numsV (.tup vs) = true
    · have c2 : ¬ vs.length = n := fun e => c ⟨c1, e⟩
      simp [c1, c2]
    · simp [c1]
theorem stOf_tupI {u : List Int} {n : Nat} (l : u.length = n) (b : ∀ x ∈ u, -1000000000 ≤ x ∧ x ≤ 1000000000) : stOf (tupI u) n = some u := by
  have e : intsOf (u.map .int) = u := by
    clear l b
    induction u with
    | nil => rfl
    | cons x u ih => simp [intsOf, ih]
  simp only [tupI, stOf]
  rw [if_pos, e]
  refine ⟨?_, by rw [List.length_map]; exact l⟩
  simp only [numsV, List.all_map, List.all_eq_true, Function.comp_apply, btw]
  intro x hx
  have := b x hx
  simpa using this
theorem readT_good {t : Str} {m : List (List Int)} (h : readT t = some m) : Sqr m ∧ Bdd 1000000000 m ∧ m.length ≤ 6 := by
  simp only [readT] at h
  split at h
  · rename_i c
    cases h
    refine ⟨fun r hr => ?_, fun r hr x hx => ?_, by rw [List.length_map]; exact c.1⟩
    · obtain ⟨ws, m, rfl⟩ := List.mem_map.mp hr
      rw [List.length_map, List.length_map]
      exact c.2.1 ws m
    · obtain ⟨ws, m, rfl⟩ := List.mem_map.mp hr
      obtain ⟨w, mw, rfl⟩ := List.mem_map.mp hx
      have := c.2.2 ws m w mw
      simp only [fitW, Bool.and_eq_true, decide_eq_true_eq] at this
      exact this.2
  · cases h
def retV : Option Nat → Val
  | some k => .int (k : Nat)
  | none => .non
def retIs (o : Option Nat) (v : Val) : Bool := match o, v with
  | some k, .int i => decide ((k : Int) = i)
  | _, _ => false
theorem eq_ret {h h2 : Hh} {o : Option Nat} {i : Int} : cop .Eq (rd h (retV o)) (rd h2 (.int i)) = some (retIs o (.int i)) := by
  cases o with
  | none => rfl
  | some k => exact eq_intZ
theorem isnon_ret {h : Hh} {o : Option Nat} : isNon (rd h (retV o)) = o.isNone := by cases o <;> rfl
/-- what the checker says of claims about a standing -/
def perRows (m : List (List Int)) (sv av cv : Val) : Bool := Co.isNon cv && (match stOf sv m.length with | some u => isZ av && retIs (perM 30 m u) av | none => false)
def endRows (m : List (List Int)) (sv cv : Val) : Bool := Co.isNon cv && (match stOf sv m.length with | some u => (perM 30 m (itM m m.length u)).isNone | none => false)
def perClaim (t : Str) (sv av cv : Val) : Bool := match readT t with | some m => perRows m sv av cv | none => false
def endClaim (t : Str) (sv cv : Val) : Bool := match readT t with | some m => endRows m sv cv | none => false
theorem ne_nilL {h h2 : Hh} {a : List Val} : cop .NotEq (rd h (.lst a)) (rd h2 (.lst [])) = some (!a.isEmpty) := by cases a <;> rfl
theorem eq_nilL {h h2 : Hh} {a : List Val} : cop .Eq (rd h (.lst a)) (rd h2 (.lst [])) = some a.isEmpty := by cases a <;> rfl
theorem w_rev {g : G} {s : Env} {h : Hh} {Q : Val → Hh → Prop} {a : CE} (q : Ends (evE g a s h) fun x h1 => (∃ xs, rd h1 x = .lst xs ∧ Q (.lst xs.reverse) h1) ∨ (∃ xs, rd h1 x = .tup xs ∧ Q (.tup xs.reverse) h1)) : Ends (evE g (.rev a) s h) Q := by
  simp only [evE]
  refine .bind q fun x h1 q => ?_
  rcases q with ⟨xs, e, q⟩ | ⟨xs, e, q⟩
  · rw [e]; exact .ok q
  · rw [e]; exact .ok q
def noComp : List CE → Bool
  | [.comp _ _ _ _ _ _ _] => false
  | _ => true
theorem w_callBn {g : G} {s : Env} {h : Hh} {Q : Val → Hh → Prop} {b : Bi} {es : List CE} (_n : noComp es = true) (q : Ends (evEs g es s h) fun vs h1 => Ends (opt (bi b (asL vs h1)) h1) Q) : Ends (evE g (.callB b es) s h) Q := w_callB q
end Co
end

local macro_rules | `(tactic| walk_at "co st3") => `(tactic| first
  | with_reducible refine Co.w_asg ?_ | ((with_reducible apply Co.w_name); · first | rfl | (simp only [List.set_cons_succ, List.set_cons_zero]; rfl))
  | with_reducible refine Co.w_ifs ?_ | with_reducible refine Co.w_ret ?_ | with_reducible refine Co.w_expr ?_ | with_reducible refine Co.w_done ?_ | with_reducible refine Co.w_seq ?_
  | ((with_reducible apply Co.w_var); · rfl) | with_reducible refine Co.w_cst ?_ | with_reducible refine Co.w_bin ?_ | with_reducible refine Co.w_negC ?_ | with_reducible refine Co.w_neg ?_ | with_reducible refine Co.w_not ?_ | with_reducible refine Co.w_ite ?_ | with_reducible refine Co.w_cmp ?_
  | with_reducible refine Co.w_tup ?_ | with_reducible refine Co.w_lst ?_ | with_reducible refine Co.w_lstM ?_ | with_reducible refine Co.w_callF ?_ | with_reducible refine Co.w_callK ?_ | ((with_reducible apply Co.w_callBn); · rfl) | with_reducible refine Co.w_listM ?_ | with_reducible refine Co.w_isI ?_ | with_reducible refine Co.w_meth ?_ | with_reducible refine Co.w_splitM ?_ | with_reducible refine Co.w_idx ?_ | with_reducible refine Co.w_slice ?_
  | with_reducible refine Co.w_none ?_ | with_reducible refine Co.w_some ?_ | with_reducible refine Co.w_nil ?_ | ((with_reducible apply Co.w_cons); · rfl) | with_reducible refine Co.w_tupA ?_ | with_reducible refine Co.w_tA0 ?_ | with_reducible refine Co.w_tA1 ?_ | with_reducible refine Co.w_subA ?_
  | with_reducible refine Co.w_go ?_ | with_reducible refine Co.w_out ?_ | with_reducible refine Co.w_backI ?_ | with_reducible refine Co.w_backB ?_ | with_reducible refine Co.w_backS ?_ | with_reducible refine Co.w_backN ?_
  | with_reducible refine Co.w_cop Co.rop_lt ?_ | with_reducible refine Co.w_cop Co.rop_le ?_ | with_reducible refine Co.w_cop Co.rop_gt ?_ | with_reducible refine Co.w_cop Co.rop_ge ?_ | with_reducible refine Co.w_cop Co.rop_is ?_ | with_reducible refine Co.w_cop Co.rop_isnt ?_
  | with_reducible refine Co.w_opt Co.rop_ai ?_ | with_reducible refine Co.w_opt Co.rop_si ?_ | with_reducible refine Co.w_opt Co.ri_ii ?_ | with_reducible refine Co.w_opt Co.ri_ib ?_ | with_reducible refine Co.w_opt Co.ri_ll ?_ | with_reducible refine Co.w_opt Co.ri_lt ?_ | with_reducible refine Co.w_opt Co.ri_lo ?_
  | with_reducible refine Co.w_opt Co.ri_Ll ?_ | with_reducible refine Co.w_opt Co.ri_Lt ?_ | with_reducible refine Co.w_opt Co.ri_Tl ?_ | with_reducible refine Co.w_opt Co.ri_Tt ?_
  | with_reducible refine Co.w_opt (Co.rop_di (by decide)) ?_ | with_reducible refine Co.w_opt (Co.rop_fi (Co.divOk_s (by decide) (by decide))) ?_ | with_reducible refine Co.w_opt (Co.rop_mi (Co.mulOk_l (by decide))) ?_
  | with_reducible refine Co.w_opt Co.rat0 ?_ | with_reducible refine Co.w_opt Co.rat1 ?_ | with_reducible refine Co.w_opt Co.rat2 ?_ | with_reducible refine Co.w_opt Co.tat0 ?_ | with_reducible refine Co.w_opt Co.tat1 ?_ | with_reducible refine Co.w_opt Co.tat2 ?_
  | with_reducible refine Co.i_range1 ?_ | with_reducible refine Co.i_range2 ?_ | with_reducible refine Co.i_of ?_ | with_reducible refine Co.i_zip ?_ | with_reducible refine Co.i_enum ?_ | with_reducible refine Co.c_nil ?_ | with_reducible refine Co.c_cons ?_ | with_reducible refine Co.w_dct ?_
  | ((with_reducible apply Co.w_lim); · (show _ ≤ 16777216; simp only [List.length_cons, List.length_nil, Nat.reduceAdd, Nat.reduceLeDiff]; done))
  | with_reducible refine Co.w_cop Co.eq_tupI ?_ | with_reducible refine Co.w_cop Co.ne_tupI ?_ | with_reducible refine Co.w_opt Co.len_tupI ?_ | with_reducible refine Co.w_opt Co.len_tupV ?_ | with_reducible refine Co.w_cop Co.ne_nilL ?_ | with_reducible refine Co.w_cop Co.eq_nilL ?_ | with_reducible refine Co.w_cop Co.eq_intZ ?_ | with_reducible refine Co.w_cop Co.ne_intZ ?_ | with_reducible refine Co.w_cop Co.eq_str ?_ | with_reducible refine Co.w_cop Co.ne_str ?_)

local macro_rules | `(tactic| walk_at "co sp") => `(tactic| repeat walk_at "co st3")

section
set_option linter.all false
set_option maxRecDepth 100000
set_option autoImplicit false
/-! Ty: the text of a table, read again. -/
namespace Co
open PySem L2 TL
def numS (i : Int) : Str := ((toString i : String) : Str)
theorem tl_int (i : Int) : tl (numS i) = if i < 0 then 45 :: numL i.natAbs else numL i.natAbs := by
  unfold numS
  cases i with
  | ofNat n =>
    rw [if_neg (by simp)]
    exact tl_num n
  | negSucc n =>
    rw [if_pos (Int.negSucc_lt_zero n)]
    have e : (toString (Int.negSucc n) : String) = "-" ++ (toString (n + 1) : String) := rfl
    rw [e, tl_ofString, String.toList_append, List.map_append]
    have e2 : ((toString (n + 1) : String)).toList.map Char.toNat = numL (n + 1) := by
      rw [← tl_num (n + 1), tl_ofString]
      rfl
    rw [e2]
    rfl
theorem numL_head {n : Nat} (h : n ≠ 0) : (numL n).headD 0 ≠ 48 := by
  induction n using
                          Nat.strongRecOn with
  | _ n ih =>
    by_cases l : n < 10
    · rw [numL_lt l]
      simp
      omega
    · rw [numL_step (by omega)]
      have := ih (n / 10) (by omega) (by omega)
      cases e : numL (n / 10) with
      | nil => exact absurd e (numL_ne _)
      | cons c r => rw [e] at this; simpa using this
theorem natW_numL (n : Nat) : natW (numL n) = true := by
  simp only [natW, Bool.and_eq_true, Bool.not_eq_true', Bool.or_eq_true, decide_eq_true_eq]
  refine ⟨?_, List.all_eq_true.mpr fun c m => ?_, ?_⟩
  · cases e : numL n with
    | nil => exact absurd e (numL_ne n)
    | cons => rfl
  · have := numL_digits n c m
    simpa [isDig] using this
  · by_cases z : n = 0
    · subst z; exact .inl (numL_lt (by decide))
    · exact .inr (numL_head z)
theorem numL_h45 (n : Nat) : (numL n).headD 0 ≠ 45 := by
  cases e : numL n with
  | nil => simp
  | cons c r =>
    have := numL_digits n c (by rw [e]; exact List.mem_cons_self)
    simp
    omega
theorem intW_int (i : Int) : intW (tl (numS i)) = true := by
  rw [tl_int]
  split
  · simp only [intW, Bool.or_eq_true, Bool.and_eq_true, decide_eq_true_eq]
    refine .inr ⟨rfl, natW_numL _, fun e => ?_⟩
    have e2 : numL i.natAbs = [48] := by injection e
    have := congrArg NumText.digitsVal e2
    rw [numL_val] at this
    have : i.natAbs = 0 := this
    omega
  · simp only [intW, natW_numL, Bool.true_or]
theorem valW_int (i : Int) : valW (tl (numS i)) = i := by
  rw [tl_int]
  split
  · simp only [valW, List.headD_cons, if_true, List.tail_cons, numL_val]
    omega
  · simp only [valW, if_neg (numL_h45 _), numL_val]
    omega
theorem int_short {i : Int} (a : -1000000000 ≤ i) (b : i ≤ 1000000000) : (tl (numS i)).length ≤ 11 := by
  have := numL_len (n := i.natAbs) (k := 10) (by decide) (by omega)
  rw [tl_int]
  split
  · rw [List.length_cons]; omega
  · omega
theorem numW_int {i : Int} (a : -1000000000 ≤ i) (b : i ≤ 1000000000) : numW (tl (numS i)) = i := by
  have := int_short a b
  unfold numW
  rw [if_pos (by omega), valW_int]
theorem fitW_int {i : Int} (a : -1000000000 ≤ i) (b : i ≤ 1000000000) : fitW (tl (numS i)) = true := by
  simp only [fitW, intW_int, numW_int a b, Bool.true_and, Bool.and_eq_true, decide_eq_true_eq]
  exact ⟨a, b⟩
theorem int_signs (i : Int) : ∀ c ∈ tl (numS i), c = 45 ∨ (48 ≤ c ∧ c ≤ 57) := by
  intro c m
  rw [tl_int] at m
  split at m
  · rcases List.mem_cons.mp m with e | m
    · exact .inl e
    · exact .inr (numL_digits _ c m)
  · exact .inr (numL_digits _ c m)
/-! ### lines -/
def lineT (r : List Int) : Str := Txt.join blankS (r.map numS)
def textT (m : List (List Int)) : Str := Txt.join slash (m.map lineT)
theorem join_mem {y : Str} {c : Nat} : ∀ {parts : List Str}, c ∈ tl (Txt.join y parts) → c ∈ tl y ∨ ∃ p ∈ parts, c ∈ tl p := by
  intro parts
  rw [join_eq]
  induction parts with
  | nil => intro m; exact absurd m (by simp [Str.join, Str.empty])
  | cons p r ih =>
    intro m
    cases r with
    | nil => exact .inr ⟨p, List.mem_cons_self, m⟩
    | cons q r =>
      have e : tl (Str.join y (p :: q :: r)) = tl p ++ tl y ++ tl (Str.join y (q :: r)) := by
        show tl (p ++ y ++ Str.join y (q :: r)) = _
        rw [tl_append, tl_append]
      rw [e] at m
      rcases List.mem_append.mp m with m | m
      · rcases List.mem_append.mp m with m | m
        · exact .inr ⟨p, List.mem_cons_self, m⟩
        · exact .inl m
      · rcases ih m with h | ⟨x, mx, h⟩
        · exact .inl h
        · exact .inr ⟨x, List.mem_cons_of_mem _ mx, h⟩
theorem line_signs (r : List Int) : ∀ c ∈ tl (lineT r), c = 32 ∨ c = 45 ∨ (48 ≤ c ∧ c ≤ 57) := by
  intro c m
  rcases join_mem m with h | ⟨p, mp, h⟩
  · exact .inl (List.mem_singleton.mp h)
  · obtain ⟨i, _, rfl⟩ := List.mem_map.mp mp
    exact .inr (int_signs i c h)
theorem text_signs (m : List (List Int)) : ∀ c ∈ tl (textT m), c < 128 := by
  intro c mc
  rcases join_mem mc with h | ⟨p, mp, h⟩
  · have : c ∈ [32, 47, 32] := h
    simp at this
    omega
  · obtain ⟨r, _, rfl⟩ := List.mem_map.mp mp
    have := line_signs r c h
    omega
theorem split_line {r : List Int} (hr : r ≠ []) : Txt.split (lineT r) blankS = r.map numS := by
  refine split_join (s := 32) (S := []) rfl (by decide +kernel) (fun e => hr (List.map_eq_nil_iff.mp e)) fun p mp m => ?_
  obtain ⟨i, _, rfl⟩ := List.mem_map.mp mp
  have := int_signs i 32 m
  omega
/-- the separator of rows does not begin in a part without its middle sign -/
theorem free3 {p q : List Nat} (h : 47 ∉ p) (hq : q.headD 0 ≠ 47) : ∀ i, i < p.length → pre [32, 47, 32] ((p ++ q).drop i) = false := fun i hi => by
  have e : (p ++ q).drop i = p.drop i ++ q := by rw [List.drop_append_of_le_length (by omega)]
  rw [e]
  have hm : ∀ c ∈ p.drop i, c ≠ 47 := fun c m e => h (by rw [← e]; exact List.mem_of_mem_drop m)
  cases hp : p.drop i with
  | nil =>
    have := congrArg List.length hp
    rw [List.length_drop] at this
    simp at this
    omega
  | cons c u =>
    cases u with
    | nil =>
      cases q with
      | nil => simp [pre]
      | cons d q =>
        have : d ≠ 47 := by simpa using hq
        simp [pre, this]
    | cons d u =>
      have : d ≠ 47 := hm d (by rw [hp]; exact List.mem_cons_of_mem _ List.mem_cons_self)
      simp [pre, this]
theorem spl_join3 : ∀ {parts : List (List Nat)}, parts ≠ [] → (∀ p ∈ parts, 47 ∉ p) → spl [32, 47, 32] 0 [] (joinL [32, 47, 32] parts) = parts
  | [], h, _ => absurd rfl h
  | [p], _, hp => by
    show spl [32, 47, 32] 0 [] p = [p]
    have := spl_last (S := [32, 47, 32]) (p := p) (acc := []) fun i hi => by
      have := free3 (q := []) (hp p (List.mem_singleton.mpr rfl)) (by simp) i hi
      rw [List.append_nil] at this
      exact this
    rw [this, List.nil_append]
  | p :: q :: r, _, hp => by
    show spl [32, 47, 32] 0 [] (p ++ ([32, 47, 32] ++ joinL [32, 47, 32] (q :: r))) = p :: q :: r
    rw [spl_part (by simp) (free3 (hp p List.mem_cons_self) (by simp)), List.nil_append, spl_join3 (by simp) fun z hz => hp z (List.mem_cons_of_mem _ hz)]
theorem split_text {m : List (List Int)} (hm : m ≠ []) : Txt.split (textT m) slash = m.map lineT := by
  refine map_tl_inj ?_
  unfold textT
  rw [split_spl _ slash (by simp [slash]) (kind_ok (by decide +kernel)), join_eq, tl_join]
  show spl [32, 47, 32] 0 [] (joinL [32, 47, 32] _) = _
  rw [spl_join3 (by simpa using hm)]
  intro p mp h
  obtain ⟨x, mx, rfl⟩ := List.mem_map.mp mp
  obtain ⟨r, _, rfl⟩ := List.mem_map.mp mx
  have := line_signs r 47 h
  omega
theorem words_text {m : List (List Int)} (hm : m ≠ []) (hr : ∀ r ∈ m, r ≠ []) : wordsT (textT m) = m.map fun r => r.map numS := by
  unfold wordsT
  rw [split_text hm, List.map_map]
  exact List.map_congr_left fun r mr => split_line (hr r mr)
/-- the text of a table is read as the table -/
theorem readT_text {m : List (List Int)} (hm : m ≠ []) (q : Sqr m) (l : m.length ≤ 6) (b : Bdd 1000000000 m) : readT (textT m) = some m := by
  have hl : 0 < m.length := List.length_pos_iff.mpr hm
  have hr : ∀ r ∈ m, r ≠ [] := fun r mr e => by have := q r mr; rw [e] at this; simp at this; omega
  unfold readT
  rw [words_text hm hr]
  dsimp only
  rw [if_pos]
  · rw [List.map_map]
    congr 1
    refine (List.map_congr_left fun r mr => ?_).trans (List.map_id m)
    show (r.map numS).map (fun w => numW (tl w)) = r
    rw [List.map_map]
    refine (List.map_congr_left fun i mi => ?_).trans (List.map_id r)
    exact numW_int (b r mr i mi).1 (b r mr i mi).2
  · refine ⟨by rw [List.length_map]; exact l, fun u mu => ?_, fun u mu w mw => ?_⟩
    · obtain ⟨r, mr, rfl⟩ := List.mem_map.mp mu
      rw [List.length_map, List.length_map]
      exact q r mr
    · obtain ⟨r, mr, rfl⟩ := List.mem_map.mp mu
      obtain ⟨i, mi, rfl⟩ := List.mem_map.mp mw
      exact fitW_int (b r mr i mi).1 (b r mr i mi).2
/-! ### texts without odd signs -/
def Asc (t : Str) : Prop := ∀ c ∈ tl t, c < 128
theorem Asc.app {a b : Str} (ha : Asc a) (hb : Asc b) : Asc (a ++ b) := fun c m => by
  rw [tl_append] at m
  rcases List.mem_append.mp m with m | m
  · exact ha c m
  · exact hb c m
theorem Asc.cut {a : Str} (ha : Asc a) (lo hi : Option Int) : Asc (cutS a lo hi) := fun c m => by
  have m : c ∈ ((tl a).drop (HT.sIx a.length 0 lo)).take (HT.sIx a.length a.length hi - HT.sIx a.length 0 lo) := m
  exact ha c (List.mem_of_mem_drop (List.mem_of_mem_take m))
theorem Asc.join {y : Str} {ps : List Str} (hy : Asc y) (hp : ∀ p ∈ ps, Asc p) : Asc (Txt.join y ps) := fun c m => by
  rcases join_mem m with h | ⟨p, mp, h⟩
  · exact hy c h
  · exact hp p mp c h
theorem joinL_has {S : List Nat} {c : Nat} : ∀ {ps : List (List Nat)} {p : List Nat}, p ∈ ps → c ∈ p → c ∈ joinL S ps
  | [x], p, mp, mc => by rw [List.mem_singleton.mp mp] at mc; exact mc
  | x :: y :: r, p, mp, mc => by
    show c ∈ x ++ (S ++ joinL S (y :: r))
    rcases List.mem_cons.mp mp with e | mp
    · rw [← e]; exact List.mem_append.mpr (.inl mc)
    · exact List.mem_append.mpr (.inr (List.mem_append.mpr (.inr (joinL_has mp mc))))
theorem Asc.split {t y : Str} (ht : Asc t) : ∀ p ∈ Txt.split t y, Asc p := fun p mp c mc => by
  refine ht c ?_
  have e : tl t = joinL (tl y) ((Txt.split t y).map tl) := by
    rw [← tl_join, PySem.StrLaws.join_split]
  rw [e]
  exact joinL_has (List.mem_map.mpr ⟨p, mp, rfl⟩) mc
theorem asc_text (m : List (List Int)) : Asc (textT m) := text_signs m
theorem Asc.ok {t : Str} (h : Asc t) : t.cps.all (· < 0x110000) = true := by
  rw [← Array.all_toList,
                          List.all_eq_true]
  intro c m
  have := h c m
  exact decide_eq_true
                          (by omega)
end Co
end

section
set_option linter.all false
set_option maxRecDepth 100000
set_option autoImplicit false
/-! Rm: the machines that the laws draw: blocks, rows that are changed, turns. -/
namespace Co
open PySem L2 TL
abbrev Mat := List (List Int)
/-- rows of numbers, as a value -/
def rowsV (m : Mat) : Val := .lst (m.map fun r => .lst (r.map .int))
/-- n rows of n numbers, none beyond B -/
def Sq (n : Nat) (B : Int) (m : Mat) : Prop := m.length = n ∧ ∀ r ∈ m, r.length = n ∧ ∀ x ∈ r, -B ≤ x ∧ x ≤ B
theorem Sq.mono {n : Nat} {B C : Int} {m : Mat} (h : Sq n B m) (l : B ≤ C) : Sq n C m := ⟨h.1, fun r hr => ⟨(h.2 r hr).1, fun x hx => by have := (h.2 r hr).2 x hx; omega⟩⟩
theorem Sq.sqr {n : Nat} {B : Int} {m : Mat} (h : Sq n B m) : Sqr m := fun r hr => by rw [(h.2 r hr).1, h.1]
theorem Sq.bdd {n : Nat} {B : Int} {m : Mat} (h : Sq n B m) : Bdd B m := fun r hr => (h.2 r hr).2
theorem mapLen {m : Mat} : (m.map fun r => Val.lst (r.map .int)).length = m.length := List.length_map ..
theorem ints_low (b : Nat) : ∀ r : List Int, belowL b (r.map .int) = true
  | [] => rfl
  | x :: r => by simp only [List.map_cons, belowL, below, Bool.true_and, ints_low b r]
theorem rowsL_low (b : Nat) : ∀ m : Mat, belowL b (m.map fun r => Val.lst (r.map .int)) = true
  | [] => rfl
  | x :: r => by simp only [List.map_cons, belowL, below, ints_low b x, Bool.true_and, rowsL_low b r]
theorem rows_low (b : Nat) (m : Mat) : below b (rowsV m) = true := by
  unfold rowsV
  simp only [below]
  exact rowsL_low b m
theorem lenRows {h : Hh} {n : Nat} {m : Mat} (e : m.length = n) : Co.bi .len (asL [rowsV m] h) = some (.int n) := by
  show some (Val.int ((m.map fun r => Val.lst (r.map .int)).length : Nat)) = _
  rw [mapLen, e]
theorem rep_z {n : Nat} : (List.replicate ((n : Int)).toNat [Val.int 0]).flatten = (List.replicate n (0 : Int)).map .int := by
  rw [Int.toNat_natCast]
  induction n with
  | zero => rfl
  | succ n ih => rw [List.replicate_succ, List.flatten_cons, ih, List.replicate_succ]; rfl
theorem repOk_z {n : Nat} (h : n ≤ 1000) : repOk [Val.int 0].length (n : Int) = true := by
  have e : lim = 16777216 := rfl
  simp only [repOk, List.length_cons, List.length_nil, Bool.and_eq_true, decide_eq_true_eq, Int.toNat_natCast]
  omega
/-! ### kinds and blocks -/
def sizes : List (Int × Nat) := [(1, 1), (2, 1), (3, 2), (4, 2), (6, 2), (5, 4), (8, 4), (10, 4), (12, 4), (7, 6), (9, 6), (14, 6), (18, 6)]
def szOf (p : Int) : Int := ((sizes.find? fun q => decide (q.1 = p)).map fun q => (q.2 : Int)).getD 0
def keys : List Int := [1, 2, 3, 4, 6, 5, 8, 10, 12, 7, 9, 14, 18]
def dctS : Val := .dct (sizes.map fun p => (.inl p.1, .int p.2))
theorem sz_pos : ∀ p ∈ keys, 1 ≤ szOf p ∧ szOf p ≤ 6 ∧ (p, (szOf p).toNat) ∈ sizes := by decide
theorem dct_at {h : Hh} : ∀ p ∈ keys, idxV (rd h dctS) (.int p) = some (.int (szOf p)) := by
  intro p hp
  simp only [keys, List.mem_cons, List.not_mem_nil, or_false] at hp
  rcases hp with rfl | rfl | rfl | rfl | rfl | rfl | rfl | rfl | rfl | rfl | rfl | rfl | rfl <;> rfl
def lastRow (p : Int) : List Int := (([(1, [1]), (2, [-1]), (3, [-1, -1]), (4, [-1, 0]), (6, [-1, 1]), (5, [-1, -1, -1, -1]), (8, [-1, 0, 0, 0]), (10, [-1, 1, -1, 1]), (12, [-1, 0, 1, 0]), (7, [-1, -1, -1, -1, -1, -1]), (9, [-1, 0, 0, -1, 0, 0]), (14, [-1, 1, -1, 1, -1, 1]), (18, [-1, 0, 0, 1, 0, 0])] : List (Int × List Int)).find? fun q => decide (q.1 = p)).elim [] (·.2)
/-- the rows by which each counter becomes the next one, and the last one a sum -/
def blk (p : Int) : Mat := let l := lastRow p
  ((List.range (l.length - 1)).map fun i => (List.range l.length).map fun j => if j = i + 1 then 1 else 0) ++ [l]
theorem blk_sq : ∀ p ∈ keys, decide ((blk p).length = (szOf p).toNat ∧ ∀ r ∈ blk p, r.length = (szOf p).toNat ∧ ∀ x ∈ r, -1 ≤ x ∧ x ≤ 1) = true := by decide
def besideM (a b : Mat) : Mat := a.map (fun r => r ++ List.replicate b.length 0) ++ b.map (fun r => List.replicate a.length 0 ++ r)
theorem beside_sq {n1 n2 : Nat} {B : Int} {a b : Mat} (ha : Sq n1 B a) (hb : Sq n2 B b) (hB : 0 ≤ B) : Sq (n1 + n2) B (besideM a b) := by
  refine ⟨?_, fun r hr => ?_⟩
  · unfold besideM; rw [List.length_append, List.length_map, List.length_map, ha.1, hb.1]
  · rcases List.mem_append.mp hr with q | q
    · obtain ⟨x, hx, rfl⟩ := List.mem_map.mp q
      obtain ⟨q1, q2⟩ := ha.2 x hx
      refine ⟨by rw [List.length_append, List.length_replicate, q1, hb.1], fun y hy => ?_⟩
      rcases List.mem_append.mp hy with q | q
      · exact q2 y q
      · rw [(List.mem_replicate.mp q).2]; omega
    · obtain ⟨x, hx, rfl⟩ := List.mem_map.mp q
      obtain ⟨q1, q2⟩ := hb.2 x hx
      refine ⟨by rw [List.length_append, List.length_replicate, q1, ha.1], fun y hy => ?_⟩
      rcases List.mem_append.mp hy with q | q
      · rw [(List.mem_replicate.mp q).2]; omega
      · exact q2 y q
/-- the blocks of a kind beside one another -/
def joinK (F : List Int) : Mat := F.foldl (fun m p => besideM m (blk p)) []
theorem joinK_snoc (F : List Int) (p : Int) : joinK (F ++ [p]) = besideM (joinK F) (blk p) := by unfold joinK; rw [List.foldl_append]; rfl
theorem sum0 : ∀ G : List Int, (∀ p ∈ G, p ∈ keys) → 0 ≤ (G.map szOf).sum
  | [], _ => Int.le_refl _
  | p :: G, hg => by
    have := sum0 G fun q mq => hg q (List.mem_cons_of_mem _ mq)
    have := (sz_pos p (hg p List.mem_cons_self)).1
    simp
    omega
theorem joinK_sq : ∀ (G F : List Int), (∀ p ∈ F, p ∈ keys) → (∀ p ∈ G, p ∈ keys) → Sq ((F.map szOf).sum.toNat) 1 (joinK F) → Sq (((F ++ G).map szOf).sum.toNat) 1 (joinK (F ++ G))
  | [], F, _, _, h => by rw [List.append_nil]; exact h
  | p :: G, F, hF, hG, h => by
    have hp := hG p List.mem_cons_self
    have b := of_decide_eq_true (blk_sq p hp)
    have e : F ++ p :: G = (F ++ [p]) ++ G := by simp
    rw [e]
    refine joinK_sq G (F ++ [p]) (fun q mq => ?_) (fun q mq => hG q (List.mem_cons_of_mem _ mq)) ?_
    · rcases List.mem_append.mp mq with m | m
      · exact hF q m
      · rw [List.mem_singleton.mp m]; exact hp
    · rw [joinK_snoc]
      have := beside_sq h (b : Sq (szOf p).toNat 1 (blk p)) (by decide)
      have s0 := sum0 F hF
      have s1 := (sz_pos p hp).1
      rw [List.map_append, List.sum_append]
      simp only [List.map_cons, List.map_nil, List.sum_cons, List.sum_nil, Int.add_zero]
      rw [show ((F.map szOf).sum + szOf p).toNat = (F.map szOf).sum.toNat + (szOf p).toNat from by omega]
      exact this
theorem joinK_ok {F : List Int} (hF : ∀ p ∈ F, p ∈ keys) : Sq ((F.map szOf).sum.toNat) 1 (joinK F) := by
  have := joinK_sq F [] (by simp) hF ⟨rfl, by simp [joinK]⟩
  rwa [List.nil_append] at this
/-! ### turns -/
def addRow (w : Int) (r s : List Int) : List Int := List.zipWith (fun a b => a + w * b) r s
def subCol (i j : Nat) (w : Int) (r : List Int) : List Int := r.set j (r.getD j 0 - w * r.getD i 0)
def turnStep (i j : Nat) (w : Int) (m : Mat) : Mat := (m.set i (addRow w (m.getD i []) (m.getD j []))).map (subCol i j w)
inductive Turned (k : Nat) : Nat → Mat → Mat → Prop
  | refl (m : Mat) : Turned k 0 m m
  | step {t : Nat} {m m1 : Mat} (i j : Nat) (w : Int) (T : Turned k t m m1) (hi : i < k) (hj : j < k) (ne : i ≠ j) (w0 : -2 ≤ w) (w1 : w ≤ 2) : Turned k (t + 1) m (turnStep i j w m1)
theorem lin {w a b B : Int} (w0 : -2 ≤ w) (w1 : w ≤ 2) (a0 : -B ≤ a) (a1 : a ≤ B) (b0 : -B ≤ b) (b1 : b ≤ B) : -(3 * B) ≤ a + w * b ∧ a + w * b ≤ 3 * B := by
  have : w = -2 ∨ w = -1 ∨ w = 0 ∨ w = 1 ∨ w = 2 := by omega
  rcases this with rfl | rfl | rfl | rfl | rfl <;> omega
theorem getD_mem {α : Type} {l : List α} {i : Nat} {d : α} (h : i < l.length) : l.getD i d ∈ l := by
  rw [List.getD_eq_getElem?_getD, List.getElem?_eq_getElem h]
  exact List.getElem_mem h
theorem addRow_len {w : Int} {r s : List Int} (h : r.length = s.length) : (addRow w r s).length = r.length := by unfold addRow; rw [List.length_zipWith]; omega
theorem addRow_bd {w B : Int} (w0 : -2 ≤ w) (w1 : w ≤ 2) : ∀ {r s : List Int}, (∀ x ∈ r, -B ≤ x ∧ x ≤ B) → (∀ x ∈ s, -B ≤ x ∧ x ≤ B) → ∀ x ∈ addRow w r s, -(3 * B) ≤ x ∧ x ≤ 3 * B
  | [], _, _, _, x, m => by simp [addRow] at m
  | _ :: _, [], _, _, x, m => by simp [addRow] at m
  | a :: r, b :: s, hr, hs, x, m => by
    rcases List.mem_cons.mp m with e | m
    · rw [e]
      have h1 := hr a List.mem_cons_self
      have h2 := hs b List.mem_cons_self
      exact lin w0 w1 h1.1 h1.2 h2.1 h2.2
    · exact addRow_bd w0 w1 (fun y my => hr y (List.mem_cons_of_mem _ my)) (fun y my => hs y (List.mem_cons_of_mem _ my)) x m
theorem subCol_len {i j : Nat} {w : Int} {r : List Int} : (subCol i j w r).length = r.length := List.length_set ..
theorem subCol_bd {i j k : Nat} {w B : Int} {r : List Int} (w0 : -2 ≤ w) (w1 : w ≤ 2) (hi : i < k) (hj : j < k) (l : r.length = k) (hB : 0 ≤ B) (hr : ∀ x ∈ r, -B ≤ x ∧ x ≤ B) : ∀ x ∈ subCol i j w r, -(3 * B) ≤ x ∧ x ≤ 3 * B := by
  intro x m
  rcases List.mem_or_eq_of_mem_set m with m | e
  · have := hr x m; omega
  · rw [e]
    have h1 := hr _ (getD_mem (d := 0) (show j < r.length by omega))
    have h2 := hr _ (getD_mem (d := 0) (show i < r.length by omega))
    have := lin (w := -w) (by omega) (by omega) h1.1 h1.2 h2.1 h2.2
    rw [show r.getD j 0 - w * r.getD i 0 = r.getD j 0 + -w * r.getD i 0 from by rw [Int.neg_mul]; rfl]
    exact this
theorem turnStep_sq {i j k : Nat} {w B : Int} {m : Mat} (h : Sq k B m) (hi : i < k) (hj : j < k) (w0 : -2 ≤ w) (w1 : w ≤ 2) (hB : 0 ≤ B) : Sq k (9 * B) (turnStep i j w m) := by
  have ri := h.2 _ (getD_mem (d := []) (show i < m.length by rw [h.1]; exact hi))
  have rj := h.2 _ (getD_mem (d := []) (show j < m.length by rw [h.1]; exact hj))
  have one : ∀ r ∈ m.set i (addRow w (m.getD i []) (m.getD j [])), r.length = k ∧ ∀ x ∈ r, -(3 * B) ≤ x ∧ x ≤ 3 * B := fun r hr => by
    rcases List.mem_or_eq_of_mem_set hr with q | q
    · exact ⟨(h.2 r q).1, fun x hx => by have := (h.2 r q).2 x hx; omega⟩
    · rw [q]
      exact ⟨by rw [addRow_len (by rw [ri.1, rj.1]), ri.1], addRow_bd w0 w1 ri.2 rj.2⟩
  refine ⟨by unfold turnStep; rw [List.length_map, List.length_set, h.1], fun r hr => ?_⟩
  obtain ⟨s, ms, rfl⟩ := List.mem_map.mp hr
  obtain ⟨q1, q2⟩ := one s ms
  refine ⟨by rw [subCol_len, q1], fun x hx => ?_⟩
  have := subCol_bd w0 w1 hi hj q1 (by omega) q2 x hx
  omega
theorem Turned.sq {k t : Nat} {m m2 : Mat} (T : Turned k t m m2) {B : Int} (h : Sq k B m) (hB : 0 ≤ B) : Sq k (9 ^ t * B) m2 := by
  induction T with
  | refl m => rw [Int.pow_zero, Int.one_mul]; exact h
  | step i j w T hi hj ne w0 w1 ih =>
    have := turnStep_sq (ih h) hi hj w0 w1 (Int.mul_nonneg (Int.le_of_lt (Int.pow_pos (by decide))) hB)
    rw [Int.pow_succ, Int.mul_comm _ 9, Int.mul_assoc]
    exact this
/-! ### rows that are changed: a list of lists of ours, made after h0 -/
structure TI (h0 : Hh) (n R : Nat) (as : List Nat) (m : Mat) (h : Hh) : Prop where
  vat : Vat h n
  lt : n < h0.length
  old : ∀ i, i < h0.length → i ≠ n → h[i]? = h0[i]?
  new : ∀ a ∈ as, h0.length ≤ a
  ge : h0.length ≤ R
  rows : h[R]? = some (.lst (as.map .ref))
  out : R ∉ as
  nd : as.Nodup
  len : as.length = m.length
  row : ∀ (i a : Nat), as[i]? = some a → h[a]? = some (.lst ((m.getD i []).map .int))
section
variable {h0 h h1 h2 : Hh} {n R : Nat} {as : List Nat} {m : Mat}
theorem TI.from (T : TI h1 n R as m h) (D : Drawn n h0 h1) : TI h0 n R as m h :=
  { T with lt := by rw [← D.len]; exact T.lt, old := fun i l ne => by rw [T.old i (by rw [D.len]; exact l) ne, D.get ne], new := fun a m => by rw [← D.len]; exact T.new a m, ge := by rw [← D.len]; exact T.ge }
theorem TI.drawn (T : TI h0 n R as m h) (D : Drawn n h h2) : TI h0 n R as m h2 :=
  { T with
    vat := D.vat T.vat
    old := fun i l ne => by rw [D.get ne]; exact T.old i l ne
    rows := by rw [D.get (by have := T.ge; have := T.lt; omega)]; exact T.rows
    row := fun i a e => by rw [D.get (by have := T.new a (List.mem_of_getElem? e); have := T.lt; omega)]; exact T.row i a e }
theorem TI.at (T : TI h0 n R as m h) {i : Nat} (l : i < m.length) : ∃ a, as[i]? = some a ∧ a ∈ as ∧ h[a]? = some (.lst ((m.getD i []).map .int)) ∧ a < h.length := by
  have l2 : i < as.length := by rw [T.len]; exact l
  have e := T.row i as[i] (List.getElem?_eq_getElem l2)
  exact ⟨as[i], List.getElem?_eq_getElem l2, List.getElem_mem l2, e, (List.getElem?_eq_some_iff.mp e).1⟩
theorem nodup_get {as : List Nat} (nd : as.Nodup) {i j a : Nat} (hi : as[i]? = some a) (hj : as[j]? = some a) : i = j := by
  have li := (List.getElem?_eq_some_iff.mp hi).1
  have lj := (List.getElem?_eq_some_iff.mp hj).1
  have gi : as[i] = a := by have := (List.getElem?_eq_some_iff.mp hi).2; exact this
  have gj : as[j] = a := by have := (List.getElem?_eq_some_iff.mp hj).2; exact this
  have k := List.pairwise_iff_getElem.mp nd
  by_cases q : i < j
  · exact absurd (gi.trans gj.symm) (k i j li lj q)
  · by_cases q2 : j < i
    · exact absurd (gj.trans gi.symm) (k j i lj li q2)
    · omega
theorem getD_set {α : Type} {l : List α} {i j : Nat} {x d : α} (h : i < l.length) : (l.set i x).getD j d = if i = j then x else l.getD j d := by
  simp only [List.getD_eq_getElem?_getD]
  by_cases e : i = j
  · subst e; rw [if_pos rfl, List.getElem?_set_self h]; rfl
  · rw [if_neg e, List.getElem?_set_ne e]
theorem TI.setRow (T : TI h0 n R as m h) {i a : Nat} (ea : as[i]? = some a) (r : List Int) : TI h0 n R as (m.set i r) (h.set a (.lst (r.map .int))) := by
  have ma : a ∈ as := List.mem_of_getElem? ea
  have hlt : a < h.length := (List.getElem?_eq_some_iff.mp (T.row i a ea)).1
  have il : i < m.length := by rw [← T.len]; exact (List.getElem?_eq_some_iff.mp ea).1
  refine { T with vat := ?_, old := fun j li ne => ?_, rows := ?_, len := by rw [List.length_set]; exact T.len, row := fun j b e => ?_ }
  · obtain ⟨x, y, z, e⟩ := T.vat
    exact ⟨x, y, z, by rw [List.getElem?_set_ne (by have := T.new a ma; have := T.lt; omega)]; exact e⟩
  · rw [List.getElem?_set_ne (by have := T.new a ma; omega)]; exact T.old j li ne
  · rw [List.getElem?_set_ne (fun z : a = R => T.out (by rw [← z]; exact ma))]; exact T.rows
  · rw [getD_set il]
    by_cases z : i = j
    · subst z
      rw [ea] at e
      cases e
      rw [if_pos rfl, List.getElem?_set_self hlt]
    · rw [if_neg z, List.getElem?_set_ne (fun q : a = b => z (nodup_get T.nd ea (by rw [q]; exact e)))]
      exact T.row j b e
theorem TI.newRow (T : TI h0 n R as m h) {i : Nat} (il : i < m.length) (r : List Int) : TI h0 n R (as.set i h.length) (m.set i r) ((h ++ [Ob.lst (r.map .int)]).set R (Ob.lst ((as.map Val.ref).set i (.ref h.length)))) := by
  have hR : R < h.length := (List.getElem?_eq_some_iff.mp T.rows).1
  have h0l : h0.length ≤ h.length := Nat.le_trans T.ge (Nat.le_of_lt hR)
  have app : ∀ j, j < h.length → (h ++ [Ob.lst (r.map .int)])[j]? = h[j]? := fun j lj => List.getElem?_append_left lj
  have ma : ∀ b ∈ as.set i h.length, b = h.length ∨ b ∈ as := fun b m => (List.mem_or_eq_of_mem_set m).symm.imp id id
  have below : ∀ b ∈ as, b < h.length := fun b mb => by
    obtain ⟨j, lj, rfl⟩ := List.mem_iff_getElem.mp mb
    exact (List.getElem?_eq_some_iff.mp (T.row j _ (List.getElem?_eq_getElem lj))).1
  have lat : h.length ∉ as := fun z => Nat.lt_irrefl _ (below _ z)
  refine ⟨?_, T.lt, fun j lj ne => ?_, fun a m => ?_, T.ge, ?_, fun m => ?_, ?_, by rw [List.length_set, List.length_set]; exact T.len, fun j b e => ?_⟩
  · obtain ⟨x, y, z, e⟩ := T.vat
    exact ⟨x, y, z, by rw [List.getElem?_set_ne (by have := T.ge; have := T.lt; omega), app _ (by have := T.lt; omega)]; exact e⟩
  · rw [List.getElem?_set_ne (by have := T.ge; omega), app _ (by omega)]; exact T.old j lj ne
  · rcases ma a m with e | m
    · omega
    · exact T.new a m
  · rw [List.getElem?_set_self (by rw [List.length_append]; simp; omega), List.map_set]
  · rcases ma R m with e | m
    · omega
    · exact T.out m
  · refine List.pairwise_iff_getElem.mpr fun x y lx ly xy e0 => ?_
    have e : (as.set i h.length)[x]? = (as.set i h.length)[y]? := by rw [List.getElem?_eq_getElem lx, List.getElem?_eq_getElem ly, e0]
    rw [List.length_set] at lx ly
    by_cases q : i = x
    · subst q
      rw [List.getElem?_set_self lx, List.getElem?_set_ne (by omega)] at e
      exact lat (List.mem_of_getElem? e.symm)
    · by_cases q2 : i = y
      · subst q2
        rw [List.getElem?_set_ne q, List.getElem?_set_self ly] at e
        exact lat (List.mem_of_getElem? e)
      · rw [List.getElem?_set_ne q, List.getElem?_set_ne q2] at e
        have e2 : as[x]? = some as[x] := List.getElem?_eq_getElem lx
        have := nodup_get T.nd e2 (e.symm.trans e2)
        omega
  · rw [getD_set il]
    by_cases z : i = j
    · subst z
      rw [List.getElem?_set_self (by rw [T.len]; exact il)] at e
      cases e
      rw [if_pos rfl, List.getElem?_set_ne (by omega), List.getElem?_append_right (Nat.le_refl _), Nat.sub_self]
      rfl
    · rw [List.getElem?_set_ne z] at e
      rw [if_neg z, List.getElem?_set_ne (fun q : R = b => T.out (by rw [q]; exact List.mem_of_getElem? e)), app _ (below b (List.mem_of_getElem? e))]
      exact T.row j b e
theorem frz_rows {b : Nat} {h : Hh} : ∀ (l : List Nat) (ml : Mat), l.length = ml.length → (∀ a ∈ l, b ≤ a) → (∀ (i a : Nat), l[i]? = some a → h[a]? = some (.lst ((ml.getD i []).map .int))) → frz1L b h (l.map .ref) = some (ml.map fun r => Val.lst (r.map .int))
  | [], [], _, _, _ => rfl
  | [], _ :: _, e, _, _ => by cases e
  | _ :: _, [], e, _, _ => by cases e
  | a :: l, r :: ml, e, hb, hr => by
    have ih := frz_rows (b := b) (h := h) l ml (by simpa using e) (fun x mx => hb x (List.mem_cons_of_mem _ mx)) fun i x ex => hr (i + 1) x ex
    have q1 : h[a]? = some (.lst (r.map .int)) := hr 0 a rfl
    have hb2 : below b (.ref a) = false := by
      have := hb a List.mem_cons_self
      simp only [below, decide_eq_false_iff_not]
      omega
    simp only [List.map_cons, frz1L, frz1, hb2, Bool.false_eq_true, if_false, q1, ints_low, if_true, Option.bind_some, ih, Option.map_some]
/-- what is handed back of them -/
theorem TI.frz (T : TI h0 n R as m h) : frz h0.length h (.ref R) = some (rowsV m) := by
  have hb : below h0.length (.ref R) = false := by
    have := T.ge
    simp only [below, decide_eq_false_iff_not]
    omega
  unfold Co.frz
  simp only [hb, Bool.false_eq_true, if_false, T.rows, frz_rows as m T.len T.new T.row, Option.map_some]
  rfl
theorem TI.back (T : TI h0 n R as m h) : Drawn n h0 (h.take h0.length) := by
  obtain ⟨a, b, c, e⟩ := T.vat
  have hl : h0.length ≤ h.length := Nat.le_trans T.ge (Nat.le_of_lt (List.getElem?_eq_some_iff.mp T.rows).1)
  refine ⟨a, b, c, List.ext_getElem? fun i => ?_⟩
  by_cases q : i < h0.length
  · rw [List.getElem?_take_of_lt q]
    by_cases z : i = n
    · subst z; rw [e, List.getElem?_set_self q]
    · rw [T.old i q z, List.getElem?_set_ne (Ne.symm z)]
  · rw [List.getElem?_eq_none (by rw [List.length_take]; omega), List.getElem?_eq_none (by simp; omega)]
theorem TI.lenR (T : TI h0 n R as m h) : Co.bi .len (asL [.ref R] h) = some (.int (m.length : Nat)) := by
  simp only [asL_c, asL_n, rd_r T.rows]
  show some (Val.int ((as.map Val.ref).length : Nat)) = _
  rw [List.length_map, T.len]
/-- the row at a place -/
theorem TI.rowAt (T : TI h0 n R as m h) {i : Int} (a : 0 ≤ i) (b : i < m.length) : ∃ x, as[i.toNat]? = some x ∧ x ∈ as ∧ idxV (rd h (.ref R)) (.int i) = some (.ref x) ∧ ixN (as.map Val.ref).length i = some i.toNat ∧ h[x]? = some (.lst ((m.getD i.toNat []).map .int)) := by
  obtain ⟨x, e, mx, er, _⟩ := T.at (i := i.toNat) (by omega)
  refine ⟨x, e, mx, idx_ref T.rows (atI_at i.toNat (by rw [List.getElem?_map, e]; rfl) (by omega)), ixN_at i.toNat (by rw [List.length_map, T.len]; omega) (by omega), er⟩
end
theorem range_len : ∀ (n : Nat) (lo : Int), (rangeL lo n).length = n
  | 0, _ => rfl
  | n + 1, lo => by simp [rangeL, range_len n]
theorem pairs_map : ∀ (xs ys : List Int), pairs (xs.map .int) (ys.map .int) = (List.zip xs ys).map fun p => .tup [.int p.1, .int p.2]
  | [], _ => by simp [pairs]
  | _ :: _, [] => by simp [pairs]
  | x :: xs, y :: ys => by simp [pairs, pairs_map xs ys]
theorem len_ref {h : Hh} {R : Nat} {ws : List Val} (hn : h[R]? = some (.lst ws)) : Co.bi .len (asL [.ref R] h) = some (.int ws.length) := by
  simp only [asL_c, asL_n, rd_r hn]
  rfl
end Co
end

section
set_option linter.all false
set_option maxRecDepth 100000
set_option autoImplicit false
/-! Pq: periods of standings: within sixty ticks is within thirty. -/
namespace Co
open PySem L2 TL
def loneI (n : Nat) (k : Int) : List Int := (List.range n).map fun (j : Nat) => if (j : Int) = k then 1 else 0
theorem loneI_len {n : Nat} {k : Int} : (loneI n k).length = n := by unfold loneI; rw [List.length_map, List.length_range]
def toF (v : List Int) : Pb.Vec := fun c => v.getD c 0
def opF (m : Mat) : Pb.Vec → Pb.Vec := fun u c => if c < m.length then Pb.sm m.length (fun e => (m.getD c []).getD e 0 * u e) else 0
theorem opF_lin (m : Mat) : Pb.Lin m.length (opF m) := by
  refine ⟨fun x u y => ?_, fun u c l => if_neg (by omega)⟩
  funext c
  simp only [opF]
  by_cases l : c < m.length
  · rw [if_pos l, if_pos l, if_pos l, ← Pb.sm_mul, ← Pb.sm_add]
    refine Pb.sm_congr fun e _ => ?_
    rw [Int.mul_add, ← Int.mul_assoc, ← Int.mul_assoc, Int.mul_comm _ x]
  · rw [if_neg l, if_neg l, if_neg l]; simp
theorem sm_sum (f : Nat → Int) : ∀ n : Nat, Pb.sm n f = ((List.range n).map f).sum
  | 0 => rfl
  | n + 1 => by rw [List.range_succ, List.map_append, List.sum_append, ← sm_sum f n]; simp [Pb.sm]
theorem dot_sm {r v : List Int} {n : Nat} (hr : r.length = n) (hv : v.length = n) : dot r v = Pb.sm n (fun e => r.getD e 0 * v.getD e 0) := by
  rw [sm_sum, dot_range r v n hr hv]
theorem opF_led {m : Mat} {v : List Int} (q : Sqr m) (hv : v.length = m.length) : opF m (toF v) = toF (ledM m v) := by
  funext c
  simp only [opF, toF]
  by_cases l : c < m.length
  · rw [if_pos l]
    have e : (ledM m v).getD c 0 = dot (m.getD c []) v := by
      unfold ledM
      simp only [List.getD_eq_getElem?_getD]
      rw [List.getElem?_map, List.getElem?_eq_getElem l]
      rfl
    rw [e, dot_sm (q _ (getD_mem l)) hv]
  · rw [if_neg l, List.getD_eq_getElem?_getD, List.getElem?_eq_none (by rw [ledM_len]; omega)]
    rfl
theorem itF {m : Mat} (q : Sqr m) : ∀ (k : Nat) {v : List Int}, v.length = m.length → Pb.iter (opF m) k (toF v) = toF (itM m k v)
  | 0, v, _ => rfl
  | k + 1, v, hv => by
    rw [itM_succ, ← opF_led q (itM_len k hv), ← itF q k hv]
    rfl
theorem toF_inj {u v : List Int} (l : u.length = v.length) (e : toF u = toF v) : u = v := by
  refine List.ext_getElem l fun i h1 h2 => ?_
  have := congrFun e i
  simp only [toF, List.getD_eq_getElem?_getD, List.getElem?_eq_getElem h1, List.getElem?_eq_getElem h2] at this
  exact this
/-- what is back within sixty ticks is back within thirty -/
theorem back_bound {m : Mat} {v : List Int} {p : Nat} (q : Sqr m) (l : m.length ≤ 6) (hv : v.length = m.length) (p0 : 0 < p) (p60 : p ≤ 60) (e : itM m p v = v) : ∃ k, 0 < k ∧ k ≤ 30 ∧ k ≤ p ∧ itM m k v = v := by
  have h := (opF_lin m).bound l (v := toF v) (fun c hc => by
    simp only [toF, List.getD_eq_getElem?_getD]
    rw [List.getElem?_eq_none (by omega)]; rfl) p0 p60 (by rw [itF q p hv, e])
  obtain ⟨k, k0, k30, kp, ek⟩ := h
  rw [itF q k hv] at ek
  exact ⟨k, k0, k30, kp, toF_inj (by rw [itM_len k hv, hv]) ek⟩
theorem per_bound {m : Mat} {v : List Int} (q : Sqr m) (l : m.length ≤ 6) (hv : v.length = m.length) : perM 60 m v = perM 30 m v := by
  cases e : perM 30 m v with
  | some k =>
    obtain ⟨a, b, c, d⟩ := perM_some.mp e
    exact perM_some.mpr ⟨a, by omega, c, d⟩
  | none =>
    refine perM_none.mpr fun j j0 j60 ej => ?_
    obtain ⟨k, k0, k30, _, ek⟩ := back_bound q l hv j0 j60 ej
    exact perM_none.mp e k k0 k30 ek
/-! ### what becomes 0 does so within as many ticks as there are counters -/
theorem iter_comm {α : Type} {f : α → α} (x : α) (a b : Nat) : Pb.iter f a (Pb.iter f b x) = Pb.iter f b (Pb.iter f a x) := by
  rw [← Pb.iter_add, ← Pb.iter_add, Nat.add_comm]
theorem iter_zero {n : Nat} {T : Pb.Vec → Pb.Vec} (L : Pb.Lin n T) : ∀ k : Nat, Pb.iter T k (fun _ => 0) = fun _ => 0
  | 0 => rfl
  | k + 1 => by show T (Pb.iter T k _) = _; rw [iter_zero L k, L.zero]
theorem iter_sums {n : Nat} {T : Pb.Vec → Pb.Vec} (L : Pb.Lin n T) (f : Nat → Int) (W : Nat → Pb.Vec) (m : Nat) : ∀ k : Nat, Pb.iter T k (fun c => Pb.sm m (fun i => f i * W i c)) = fun c => Pb.sm m (fun i => f i * Pb.iter T k (W i) c)
  | 0 => rfl
  | k + 1 => by
    show T (Pb.iter T k _) = _
    rw [iter_sums L f W m k, L.sums f (fun i => Pb.iter T k (W i)) m]
    rfl
theorem nilp {n : Nat} {T : Pb.Vec → Pb.Vec} (L : Pb.Lin n T) {x : Pb.Vec} (hx : ∀ c, n ≤ c → x c = 0) : ∀ k : Nat, Pb.iter T k x = (fun _ => 0) → Pb.iter T n x = fun _ => 0 := by
  have down : ∀ k, n < k → Pb.iter T k x = (fun _ => 0) → Pb.iter T (k - 1) x = fun _ => 0 := fun k nk hk => by
    obtain ⟨f, ⟨i, il, fi⟩, hf⟩ := Pb.dep n (n + 1) (fun k => Pb.iter T k x) (by omega)
    -- the first factor other than 0
    have first : ∀ j : Nat, j ≤ n → f j ≠ 0 → ∃ a, a ≤ n ∧ f a ≠ 0 ∧ ∀ b, b < a → f b = 0 := fun j => by
      induction j using Nat.strongRecOn with
      | _ j ih =>
        intro jn fj
        by_cases z : ∃ b, b < j ∧ f b ≠ 0
        · obtain ⟨b, bj, fb⟩ := z
          exact ih b bj (by omega) fb
        · exact ⟨j, jn, fj, fun b bj => Classical.byContradiction fun q => z ⟨b, bj, q⟩⟩
    obtain ⟨a, an, fa, fz⟩ := first i (by omega) fi
    have z : (fun c => Pb.sm (n + 1) (fun i => f i * Pb.iter T i x c)) = fun _ => 0 := by
      funext c
      by_cases l : c < n
      · exact hf c l
      · have : ∀ i, Pb.iter T i x c = 0 := fun i => by
          cases i with
          | zero => exact hx c (by omega)
          | succ i => exact L.out _ c (by omega)
        rw [Pb.sm_congr (g := fun _ => 0) fun j _ => by rw [this]; simp]
        exact Pb.sm_zero
    have g := iter_sums L f (fun i => Pb.iter T i x) (n + 1) (k - 1 - a)
    rw [z, iter_zero L] at g
    funext c
    have gc := congrFun g c
    have term : ∀ i, i < n + 1 → f i * Pb.iter T (k - 1 - a) (Pb.iter T i x) c = (f a * Pb.iter T (k - 1) x c) * (if i = a then 1 else 0) := fun i il => by
      by_cases e : i = a
      · subst e
        rw [if_pos rfl, ← Pb.iter_add, show k - 1 - i + i = k - 1 from by omega]
        simp
      · rw [if_neg e]
        by_cases l : i < a
        · rw [fz i l]; simp
        · rw [← Pb.iter_add, show k - 1 - a + i = (i - a - 1) + k from by omega, Pb.iter_add, hk, iter_zero L]
          simp
    have gc2 : (0 : Int) = Pb.sm (n + 1) (fun i => f i * Pb.iter T (k - 1 - a) (Pb.iter T i x) c) := gc
    rw [Pb.sm_congr term, Pb.sm_mul, Pb.sm_one (by omega), Int.mul_one] at gc2
    rcases Int.mul_eq_zero.mp gc2.symm with q | q
    · exact absurd q fa
    · exact q
  intro k
  induction k with
  | zero =>
    intro hk
    have : x = fun _ => 0 := hk
    rw [this, iter_zero L]
  | succ k ih =>
    intro hk
    by_cases l : n < k + 1
    · exact ih (down (k + 1) l hk)
    · have := congrArg (Pb.iter T (n - (k + 1))) hk
      rw [← Pb.iter_add, iter_zero L, show n - (k + 1) + (k + 1) = n from by omega] at this
      exact this
/-- behind as many ticks as there are counters a standing comes back just if it does behind six -/
theorem end_bound {m : Mat} {u : List Int} (q : Sqr m) (l : m.length ≤ 6) (hu : u.length = m.length) (p : Nat) : itM m p (itM m m.length u) = itM m m.length u ↔ itM m p (itM m 6 u) = itM m 6 u := by
  have flip : ∀ j : Nat, itM m p (itM m j u) = itM m j (itM m p u) := fun j => by rw [← itM_add, ← itM_add, Nat.add_comm]
  constructor
  · intro e
    have e6 : itM m 6 u = itM m (6 - m.length) (itM m m.length u) := by rw [← itM_add]; congr 1; omega
    have cm : ∀ (a b : Nat) (w : List Int), itM m a (itM m b w) = itM m b (itM m a w) := fun a b w => by rw [← itM_add, ← itM_add, Nat.add_comm]
    rw [e6, cm, e]
  · intro e
    rw [flip] at e ⊢
    have L := opF_lin m
    have lp := itM_len p hu
    -- the difference becomes 0 behind six ticks
    let x : Pb.Vec := fun c => -1 * toF u c + toF (itM m p u) c
    have hx : ∀ c, m.length ≤ c → x c = 0 := fun c hc => by
      show -1 * toF u c + toF (itM m p u) c = 0
      simp only [toF, List.getD_eq_getElem?_getD]
      rw [List.getElem?_eq_none (by omega), List.getElem?_eq_none (by omega)]
      rfl
    have it : ∀ k : Nat, Pb.iter (opF m) k x = fun c => -1 * toF (itM m k u) c + toF (itM m k (itM m p u)) c := fun k => by
      induction k with
      | zero => rfl
      | succ k ih =>
        show opF m (Pb.iter (opF m) k x) = _
        rw [ih, L.lin, opF_led q (itM_len k hu), opF_led q (itM_len k lp), ← itM_succ, ← itM_succ]
    have z6 : Pb.iter (opF m) 6 x = fun _ => 0 := by
      rw [it 6, e]
      funext c
      omega
    have zn := nilp L hx 6 z6
    rw [it m.length] at zn
    refine toF_inj (by rw [itM_len _ lp, itM_len _ hu]) (funext fun c => ?_)
    have h : -1 * toF (itM m m.length u) c + toF (itM m m.length (itM m p u)) c = 0 := congrFun zn c
    omega
end Co
end

section
set_option linter.all false
set_option maxRecDepth 100000
namespace Lk56
open PySem L2 Co
def top (i : Nat) : Stmt := PySem.Challenge.pw_countertables_k56_whole_machines_that_ar.main.body.getD i (.Pass ⟨0, 0, 0, 0⟩)
def tab : Tab := ⟨[Str.ofString "is_integer", Str.ofString "is_between", Str.ofString "is_natural_word", Str.ofString "is_integer_word", Str.ofString "integer_in", Str.ofString "common_divisor", Str.ofString "common_multiple", Str.ofString "divisors", Str.ofString "prime_powers", Str.ofString "totient_of", Str.ofString "mark_of", Str.ofString "read_rows", Str.ofString "are_numbers", Str.ofString "is_standing", Str.ofString "led", Str.ofString "led_on", Str.ofString "return_of", Str.ofString "lone", Str.ofString "order_for", Str.ofString "trace_for", Str.ofString "kind_trace", Str.ofString "is_kind", Str.ofString "product", Str.ofString "thinned", Str.ofString "rank_of", Str.ofString "is_linking", Str.ofString "is_row", Str.ofString "number_at", Str.ofString "least_length", Str.ofString "shows", Str.ofString "is_maker", Str.ofString "is_rule", Str.ofString "about_standing", Str.ofString "about_table", Str.ofString "about_pair", Str.ofString "about_row", Str.ofString "accepts", Str.ofString "_law_vat", Str.ofString "_law_pull", Str.ofString "_law_one_of", Str.ofString "_law_text", Str.ofString "_law_led", Str.ofString "_law_return", Str.ofString "_law_lone", Str.ofString "_law_block", Str.ofString "_law_beside", Str.ofString "_law_kind", Str.ofString "_law_kind_of", Str.ofString "_law_turned", Str.ofString "_law_machine", Str.ofString "_law_any", Str.ofString "_law_here", Str.ofString "_law_bent", Str.ofString "_law_asked", Str.ofString "_law_is_int", Str.ofString "_law_are_ints", Str.ofString "_law_right", Str.ofString "law"],
  [(Str.ofString "MOST_SIZE", .int (6)), (Str.ofString "MOST_NUMBER", .int (1000000000)), (Str.ofString "MOST_TICKS", .int (60)), (Str.ofString "MOST_ROW", .int (30)), (Str.ofString "__name__", .str (Str.ofString "law_countertables_k56_whole_machines_that_ar")), (Str.ofString "DIGITS", .str (Str.ofString "0123456789")), (Str.ofString "MOST_PERIOD", .int (30)), (Str.ofString "MOST_PART", .int (18))],
  [Str.ofString "abs", Str.ofString "all", Str.ofString "any", Str.ofString "bool", Str.ofString "int", Str.ofString "isinstance", Str.ofString "len", Str.ofString "list", Str.ofString "max", Str.ofString "min", Str.ofString "range", Str.ofString "repr", Str.ofString "sorted", Str.ofString "str", Str.ofString "sum", Str.ofString "tuple", Str.ofString "zip"],
  [(31, 23), (203, 11), (251, 16), (251, 17), (256, 28)],
  [(36, [Str.ofString "certificate", Str.ofString "claim"], [1, 0])]⟩
def o0 : One := tab.one (Str.ofString "is_integer") (top 6) [Str.ofString "value"] [Str.ofString "value"] false []
def o1 : One := tab.one (Str.ofString "is_between") (top 7) [Str.ofString "value", Str.ofString "least", Str.ofString "most"] [Str.ofString "value", Str.ofString "least", Str.ofString "most"] false []
def o2 : One := tab.one (Str.ofString "is_natural_word") (top 8) [Str.ofString "word", Str.ofString "sign"] [Str.ofString "word"] false []
def o3 : One := tab.one (Str.ofString "is_integer_word") (top 9) [Str.ofString "word"] [Str.ofString "word"] false []
def o4 : One := tab.one (Str.ofString "integer_in") (top 10) [Str.ofString "word"] [Str.ofString "word"] false []
def o5 : One := tab.one (Str.ofString "common_divisor") (top 11) [Str.ofString "one", Str.ofString "other"] [Str.ofString "one", Str.ofString "other"] false []
def o6 : One := tab.one (Str.ofString "common_multiple") (top 12) [Str.ofString "numbers", Str.ofString "found", Str.ofString "number"] [Str.ofString "numbers"] false []
def o7 : One := tab.one (Str.ofString "divisors") (top 13) [Str.ofString "number", Str.ofString "by"] [Str.ofString "number"] false []
def o8 : One := tab.one (Str.ofString "prime_powers") (top 14) [Str.ofString "number", Str.ofString "found", Str.ofString "by", Str.ofString "rest", Str.ofString "whole"] [Str.ofString "number"] false []
def o9 : One := tab.one (Str.ofString "totient_of") (top 15) [Str.ofString "number", Str.ofString "found", Str.ofString "prime", Str.ofString "whole"] [Str.ofString "number"] false []
def o10 : One := tab.one (Str.ofString "mark_of") (top 16) [Str.ofString "number", Str.ofString "pairs", Str.ofString "prime", Str.ofString "whole"] [Str.ofString "number"] false []
def o11 : One := tab.one (Str.ofString "read_rows") (top 20) [Str.ofString "text", Str.ofString "words", Str.ofString "rows", Str.ofString "line", Str.ofString "row", Str.ofString "word"] [Str.ofString "text"] false []
def o12 : One := tab.one (Str.ofString "are_numbers") (top 21) [Str.ofString "value", Str.ofString "number"] [Str.ofString "value"] false []
def o13 : One := tab.one (Str.ofString "is_standing") (top 22) [Str.ofString "value", Str.ofString "rows"] [Str.ofString "value", Str.ofString "rows"] false []
def o14 : One := tab.one (Str.ofString "led") (top 23) [Str.ofString "rows", Str.ofString "standing", Str.ofString "row", Str.ofString "spot"] [Str.ofString "rows", Str.ofString "standing"] false []
def o15 : One := tab.one (Str.ofString "led_on") (top 24) [Str.ofString "rows", Str.ofString "standing", Str.ofString "many", Str.ofString "turn"] [Str.ofString "rows", Str.ofString "standing", Str.ofString "many"] false []
def o16 : One := tab.one (Str.ofString "return_of") (top 25) [Str.ofString "rows", Str.ofString "standing", Str.ofString "now", Str.ofString "turn"] [Str.ofString "rows", Str.ofString "standing"] false []
def o17 : One := tab.one (Str.ofString "lone") (top 26) [Str.ofString "size", Str.ofString "place", Str.ofString "spot"] [Str.ofString "size", Str.ofString "place"] false []
def o18 : One := tab.one (Str.ofString "order_for") (top 27) [Str.ofString "rows", Str.ofString "found", Str.ofString "place"] [Str.ofString "rows"] false []
def o19 : One := tab.one (Str.ofString "trace_for") (top 28) [Str.ofString "rows", Str.ofString "many", Str.ofString "size", Str.ofString "place"] [Str.ofString "rows", Str.ofString "many"] false []
def o20 : One := tab.one (Str.ofString "kind_trace") (top 29) [Str.ofString "kind", Str.ofString "many", Str.ofString "found", Str.ofString "part", Str.ofString "by"] [Str.ofString "kind", Str.ofString "many"] false []
def o21 : One := tab.one (Str.ofString "is_kind") (top 30) [Str.ofString "value", Str.ofString "size", Str.ofString "part"] [Str.ofString "value", Str.ofString "size"] false []
def o22 : One := tab.one (Str.ofString "product") (top 31) [Str.ofString "one", Str.ofString "other", Str.ofString "sides", Str.ofString "spot", Str.ofString "row", Str.ofString "side", Str.ofString "a", Str.ofString "b"] [Str.ofString "one", Str.ofString "other"] false []
def o23 : One := tab.one (Str.ofString "thinned") (top 32) [Str.ofString "row", Str.ofString "common", Str.ofString "number"] [Str.ofString "row"] false []
def o24 : One := tab.one (Str.ofString "rank_of") (top 33) [Str.ofString "rows", Str.ofString "spot", Str.ofString "left", Str.ofString "found", Str.ofString "heads", Str.ofString "rest", Str.ofString "row", Str.ofString "head", Str.ofString "a", Str.ofString "b"] [Str.ofString "rows"] false []
def o25 : One := tab.one (Str.ofString "is_linking") (top 34) [Str.ofString "one", Str.ofString "other", Str.ofString "value", Str.ofString "size", Str.ofString "row", Str.ofString "number"] [Str.ofString "one", Str.ofString "other", Str.ofString "value"] false []
def o26 : One := tab.one (Str.ofString "is_row") (top 35) [Str.ofString "value"] [Str.ofString "value"] false []
def o27 : One := tab.one (Str.ofString "number_at") (top 36) [Str.ofString "row", Str.ofString "time"] [Str.ofString "row", Str.ofString "time"] false []
def o28 : One := tab.one (Str.ofString "least_length") (top 37) [Str.ofString "row", Str.ofString "size", Str.ofString "place", Str.ofString "spot"] [Str.ofString "row"] false []
def o29 : One := tab.one (Str.ofString "shows") (top 38) [Str.ofString "rows", Str.ofString "standing", Str.ofString "row", Str.ofString "now", Str.ofString "time"] [Str.ofString "rows", Str.ofString "standing", Str.ofString "row"] false []
def o30 : One := tab.one (Str.ofString "is_maker") (top 39) [Str.ofString "row", Str.ofString "many", Str.ofString "value", Str.ofString "rows"] [Str.ofString "row", Str.ofString "many", Str.ofString "value"] false []
def o31 : One := tab.one (Str.ofString "is_rule") (top 40) [Str.ofString "row", Str.ofString "many", Str.ofString "value", Str.ofString "time", Str.ofString "factor", Str.ofString "k"] [Str.ofString "row", Str.ofString "many", Str.ofString "value"] false []
def o32 : One := tab.one (Str.ofString "about_standing") (top 41) [Str.ofString "rows", Str.ofString "claim", Str.ofString "certificate"] [Str.ofString "rows", Str.ofString "claim", Str.ofString "certificate"] false []
def o33 : One := tab.one (Str.ofString "about_table") (top 42) [Str.ofString "rows", Str.ofString "claim", Str.ofString "certificate", Str.ofString "order", Str.ofString "size", Str.ofString "many"] [Str.ofString "rows", Str.ofString "claim", Str.ofString "certificate"] false []
def o34 : One := tab.one (Str.ofString "about_pair") (top 43) [Str.ofString "rows", Str.ofString "claim", Str.ofString "certificate", Str.ofString "mate"] [Str.ofString "rows", Str.ofString "claim", Str.ofString "certificate"] false []
def o35 : One := tab.one (Str.ofString "about_row") (top 44) [Str.ofString "claim", Str.ofString "certificate"] [Str.ofString "claim", Str.ofString "certificate"] false []
def o36 : One := tab.one (Str.ofString "accepts") (top 45) [Str.ofString "claim", Str.ofString "certificate", Str.ofString "rows"] [Str.ofString "claim", Str.ofString "certificate"] false []
def o37 : One := tab.one (Str.ofString "_law_vat") (top 47) [Str.ofString "_law_cells", Str.ofString "_law_k", Str.ofString "_law_each", Str.ofString "_law_digits", Str.ofString "_law_cell", Str.ofString "_law_mixed"] [Str.ofString "_law_cells", Str.ofString "_law_k"] true []
def o38 : One := tab.one (Str.ofString "_law_pull") (top 48) [Str.ofString "_law_vat_here", Str.ofString "_law_top", Str.ofString "_law_base", Str.ofString "_law_figure"] [Str.ofString "_law_vat_here", Str.ofString "_law_top"] false []
def o39 : One := tab.one (Str.ofString "_law_one_of") (top 49) [Str.ofString "_law_vat_here", Str.ofString "_law_some"] [Str.ofString "_law_vat_here", Str.ofString "_law_some"] false []
def o40 : One := tab.one (Str.ofString "_law_text") (top 50) [Str.ofString "_law_rows", Str.ofString "_law_line", Str.ofString "_law_each"] [Str.ofString "_law_rows"] false []
def o41 : One := tab.one (Str.ofString "_law_led") (top 51) [Str.ofString "_law_rows", Str.ofString "_law_here_here", Str.ofString "_law_amount", Str.ofString "_law_turn", Str.ofString "_law_line", Str.ofString "_law_fore", Str.ofString "_law_two"] [Str.ofString "_law_rows", Str.ofString "_law_here_here", Str.ofString "_law_amount"] false []
def o42 : One := tab.one (Str.ofString "_law_return") (top 52) [Str.ofString "_law_rows", Str.ofString "_law_here_here", Str.ofString "_law_now", Str.ofString "_law_turn"] [Str.ofString "_law_rows", Str.ofString "_law_here_here"] false []
def o43 : One := tab.one (Str.ofString "_law_lone") (top 53) [Str.ofString "_law_many", Str.ofString "_law_k", Str.ofString "_law_j"] [Str.ofString "_law_many", Str.ofString "_law_k"] false []
def o44 : One := tab.one (Str.ofString "_law_block") (top 54) [Str.ofString "_law_part", Str.ofString "_law_low", Str.ofString "_law_more", Str.ofString "_law_some", Str.ofString "_law_rows", Str.ofString "_law_k", Str.ofString "_law_each"] [Str.ofString "_law_part"] false []
def o45 : One := tab.one (Str.ofString "_law_beside") (top 55) [Str.ofString "_law_fore", Str.ofString "_law_two", Str.ofString "_law_first", Str.ofString "_law_line"] [Str.ofString "_law_fore", Str.ofString "_law_two"] false []
def o46 : One := tab.one (Str.ofString "_law_kind") (top 56) [Str.ofString "_law_vat_here", Str.ofString "_law_most_here"] [Str.ofString "_law_vat_here", Str.ofString "_law_most_here"] false []
def o47 : One := tab.one (Str.ofString "_law_kind_of") (top 57) [Str.ofString "_law_vat_here", Str.ofString "_law_left", Str.ofString "_law_sizes", Str.ofString "_law_found", Str.ofString "_law_turn", Str.ofString "_law_some", Str.ofString "_law_part"] [Str.ofString "_law_vat_here", Str.ofString "_law_left"] false []
def o48 : One := tab.one (Str.ofString "_law_turned") (top 58) [Str.ofString "_law_vat_here", Str.ofString "_law_rows", Str.ofString "_law_amount", Str.ofString "_law_turn", Str.ofString "_law_i", Str.ofString "_law_j", Str.ofString "_law_by", Str.ofString "_law_line", Str.ofString "_law_fore", Str.ofString "_law_two"] [Str.ofString "_law_vat_here", Str.ofString "_law_rows", Str.ofString "_law_amount"] true []
def o49 : One := tab.one (Str.ofString "_law_machine") (top 59) [Str.ofString "_law_vat_here", Str.ofString "_law_kind_here", Str.ofString "_law_rows", Str.ofString "_law_part"] [Str.ofString "_law_vat_here", Str.ofString "_law_kind_here"] true []
def o50 : One := tab.one (Str.ofString "_law_any") (top 60) [Str.ofString "_law_vat_here", Str.ofString "_law_most_here", Str.ofString "_law_way", Str.ofString "_law_many", Str.ofString "_law_some", Str.ofString "_law_rows", Str.ofString "_law_k", Str.ofString "_law_j"] [Str.ofString "_law_vat_here", Str.ofString "_law_most_here"] false []
def o51 : One := tab.one (Str.ofString "_law_here") (top 61) [Str.ofString "_law_vat_here", Str.ofString "_law_many", Str.ofString "_law_size_here", Str.ofString "_law_k"] [Str.ofString "_law_vat_here", Str.ofString "_law_many", Str.ofString "_law_size_here"] false []
def o52 : One := tab.one (Str.ofString "_law_bent") (top 62) [Str.ofString "_law_vat_here", Str.ofString "_law_thing", Str.ofString "_law_odd", Str.ofString "_law_at", Str.ofString "_law_way"] [Str.ofString "_law_vat_here", Str.ofString "_law_thing"] false []
def o53 : One := tab.one (Str.ofString "_law_asked") (top 63) [Str.ofString "_law_said", Str.ofString "_law_proof", Str.ofString "_law_told"] [Str.ofString "_law_said", Str.ofString "_law_proof"] false []
def o54 : One := tab.one (Str.ofString "_law_is_int") (top 64) [Str.ofString "_law_thing"] [Str.ofString "_law_thing"] false []
def o55 : One := tab.one (Str.ofString "_law_are_ints") (top 65) [Str.ofString "_law_thing", Str.ofString "_law_each"] [Str.ofString "_law_thing"] false []
def o56 : One := tab.one (Str.ofString "_law_right") (top 66) [Str.ofString "_law_vat_here", Str.ofString "_law_turn", Str.ofString "_law_rows", Str.ofString "_law_again", Str.ofString "_law_lone_here", Str.ofString "_law_proof", Str.ofString "_law_fits"] [Str.ofString "_law_vat_here"] false []
def o57 : One := tab.one (Str.ofString "law") (top 67) [Str.ofString "_law_cells", Str.ofString "_law_k"] [Str.ofString "_law_cells"] false []
def os : List One := [o0, o1, o2, o3, o4, o5, o6, o7, o8, o9, o10, o11, o12, o13, o14, o15, o16, o17, o18, o19, o20, o21, o22, o23, o24, o25, o26, o27, o28, o29, o30, o31, o32, o33, o34, o35, o36, o37, o38, o39, o40, o41, o42, o43, o44, o45, o46, o47, o48, o49, o50, o51, o52, o53, o54, o55, o56, o57]
theorem ok0 : o0.Ok := ⟨⟨rfl, rfl, rfl, by decide +kernel, rfl, by decide +kernel, by decide +kernel⟩, rfl, fun _ _ _ _ _ _ us hl => match us, hl with | [_], _ => rfl⟩
theorem ok1 : o1.Ok := ⟨⟨rfl, rfl, rfl, by decide +kernel, rfl, by decide +kernel, by decide +kernel⟩, rfl, fun _ _ _ _ _ _ us hl => match us, hl with | [_, _, _], _ => rfl⟩
theorem ok2 : o2.Ok := ⟨⟨rfl, rfl, rfl, by decide +kernel, rfl, by decide +kernel, by decide +kernel⟩, rfl, fun _ _ _ _ _ _ us hl => match us, hl with | [_], _ => rfl⟩
theorem ok3 : o3.Ok := ⟨⟨rfl, rfl, rfl, by decide +kernel, rfl, by decide +kernel, by decide +kernel⟩, rfl, fun _ _ _ _ _ _ us hl => match us, hl with | [_], _ => rfl⟩
theorem ok4 : o4.Ok := ⟨⟨rfl, rfl, rfl, by decide +kernel, rfl, by decide +kernel, by decide +kernel⟩, rfl, fun _ _ _ _ _ _ us hl => match us, hl with | [_], _ => rfl⟩
theorem ok5 : o5.Ok := ⟨⟨rfl, rfl, rfl, by decide +kernel, rfl, by decide +kernel, by decide +kernel⟩, rfl, fun _ _ _ _ _ _ us hl => match us, hl with | [_, _], _ => rfl⟩
theorem ok6 : o6.Ok := ⟨⟨rfl, rfl, rfl, by decide +kernel, rfl, by decide +kernel, by decide +kernel⟩, rfl, fun _ _ _ _ _ _ us hl => match us, hl with | [_], _ => rfl⟩
theorem ok7 : o7.Ok := ⟨⟨rfl, rfl, rfl, by decide +kernel, rfl, by decide +kernel, by decide +kernel⟩, rfl, fun _ _ _ _ _ _ us hl => match us, hl with | [_], _ => rfl⟩
theorem ok8 : o8.Ok := ⟨⟨rfl, rfl, rfl, by decide +kernel, rfl, by decide +kernel, by decide +kernel⟩, rfl, fun _ _ _ _ _ _ us hl => match us, hl with | [_], _ => rfl⟩
theorem ok9 : o9.Ok := ⟨⟨rfl, rfl, rfl, by decide +kernel, rfl, by decide +kernel, by decide +kernel⟩, rfl, fun _ _ _ _ _ _ us hl => match us, hl with | [_], _ => rfl⟩
theorem ok10 : o10.Ok := ⟨⟨rfl, rfl, rfl, by decide +kernel, rfl, by decide +kernel, by decide +kernel⟩, rfl, fun _ _ _ _ _ _ us hl => match us, hl with | [_], _ => rfl⟩
theorem ok11 : o11.Ok := ⟨⟨rfl, rfl, rfl, by decide +kernel, rfl, by decide +kernel, by decide +kernel⟩, rfl, fun _ _ _ _ _ _ us hl => match us, hl with | [_], _ => rfl⟩
theorem ok12 : o12.Ok := ⟨⟨rfl, rfl, rfl, by decide +kernel, rfl, by decide +kernel, by decide +kernel⟩, rfl, fun _ _ _ _ _ _ us hl => match us, hl with | [_], _ => rfl⟩
theorem ok13 : o13.Ok := ⟨⟨rfl, rfl, rfl, by decide +kernel, rfl, by decide +kernel, by decide +kernel⟩, rfl, fun _ _ _ _ _ _ us hl => match us, hl with | [_, _], _ => rfl⟩
theorem ok14 : o14.Ok := ⟨⟨rfl, rfl, rfl, by decide +kernel, rfl, by decide +kernel, by decide +kernel⟩, rfl, fun _ _ _ _ _ _ us hl => match us, hl with | [_, _], _ => rfl⟩
theorem ok15 : o15.Ok := ⟨⟨rfl, rfl, rfl, by decide +kernel, rfl, by decide +kernel, by decide +kernel⟩, rfl, fun _ _ _ _ _ _ us hl => match us, hl with | [_, _, _], _ => rfl⟩
theorem ok16 : o16.Ok := ⟨⟨rfl, rfl, rfl, by decide +kernel, rfl, by decide +kernel, by decide +kernel⟩, rfl, fun _ _ _ _ _ _ us hl => match us, hl with | [_, _], _ => rfl⟩
theorem ok17 : o17.Ok := ⟨⟨rfl, rfl, rfl, by decide +kernel, rfl, by decide +kernel, by decide +kernel⟩, rfl, fun _ _ _ _ _ _ us hl => match us, hl with | [_, _], _ => rfl⟩
theorem ok18 : o18.Ok := ⟨⟨rfl, rfl, rfl, by decide +kernel, rfl, by decide +kernel, by decide +kernel⟩, rfl, fun _ _ _ _ _ _ us hl => match us, hl with | [_], _ => rfl⟩
theorem ok19 : o19.Ok := ⟨⟨rfl, rfl, rfl, by decide +kernel, rfl, by decide +kernel, by decide +kernel⟩, rfl, fun _ _ _ _ _ _ us hl => match us, hl with | [_, _], _ => rfl⟩
theorem ok20 : o20.Ok := ⟨⟨rfl, rfl, rfl, by decide +kernel, rfl, by decide +kernel, by decide +kernel⟩, rfl, fun _ _ _ _ _ _ us hl => match us, hl with | [_, _], _ => rfl⟩
theorem ok21 : o21.Ok := ⟨⟨rfl, rfl, rfl, by decide +kernel, rfl, by decide +kernel, by decide +kernel⟩, rfl, fun _ _ _ _ _ _ us hl => match us, hl with | [_, _], _ => rfl⟩
theorem ok22 : o22.Ok := ⟨⟨rfl, rfl, rfl, by decide +kernel, rfl, by decide +kernel, by decide +kernel⟩, rfl, fun _ _ _ _ _ _ us hl => match us, hl with | [_, _], _ => rfl⟩
theorem ok23 : o23.Ok := ⟨⟨rfl, rfl, rfl, by decide +kernel, rfl, by decide +kernel, by decide +kernel⟩, rfl, fun _ _ _ _ _ _ us hl => match us, hl with | [_], _ => rfl⟩
theorem ok24 : o24.Ok := ⟨⟨rfl, rfl, rfl, by decide +kernel, rfl, by decide +kernel, by decide +kernel⟩, rfl, fun _ _ _ _ _ _ us hl => match us, hl with | [_], _ => rfl⟩
theorem ok25 : o25.Ok := ⟨⟨rfl, rfl, rfl, by decide +kernel, rfl, by decide +kernel, by decide +kernel⟩, rfl, fun _ _ _ _ _ _ us hl => match us, hl with | [_, _, _], _ => rfl⟩
theorem ok26 : o26.Ok := ⟨⟨rfl, rfl, rfl, by decide +kernel, rfl, by decide +kernel, by decide +kernel⟩, rfl, fun _ _ _ _ _ _ us hl => match us, hl with | [_], _ => rfl⟩
theorem ok27 : o27.Ok := ⟨⟨rfl, rfl, rfl, by decide +kernel, rfl, by decide +kernel, by decide +kernel⟩, rfl, fun _ _ _ _ _ _ us hl => match us, hl with | [_, _], _ => rfl⟩
theorem ok28 : o28.Ok := ⟨⟨rfl, rfl, rfl, by decide +kernel, rfl, by decide +kernel, by decide +kernel⟩, rfl, fun _ _ _ _ _ _ us hl => match us, hl with | [_], _ => rfl⟩
theorem ok29 : o29.Ok := ⟨⟨rfl, rfl, rfl, by decide +kernel, rfl, by decide +kernel, by decide +kernel⟩, rfl, fun _ _ _ _ _ _ us hl => match us, hl with | [_, _, _], _ => rfl⟩
theorem ok30 : o30.Ok := ⟨⟨rfl, rfl, rfl, by decide +kernel, rfl, by decide +kernel, by decide +kernel⟩, rfl, fun _ _ _ _ _ _ us hl => match us, hl with | [_, _, _], _ => rfl⟩
theorem ok31 : o31.Ok := ⟨⟨rfl, rfl, rfl, by decide +kernel, rfl, by decide +kernel, by decide +kernel⟩, rfl, fun _ _ _ _ _ _ us hl => match us, hl with | [_, _, _], _ => rfl⟩
theorem ok32 : o32.Ok := ⟨⟨rfl, rfl, rfl, by decide +kernel, rfl, by decide +kernel, by decide +kernel⟩, rfl, fun _ _ _ _ _ _ us hl => match us, hl with | [_, _, _], _ => rfl⟩
theorem ok33 : o33.Ok := ⟨⟨rfl, rfl, rfl, by decide +kernel, rfl, by decide +kernel, by decide +kernel⟩, rfl, fun _ _ _ _ _ _ us hl => match us, hl with | [_, _, _], _ => rfl⟩
theorem ok34 : o34.Ok := ⟨⟨rfl, rfl, rfl, by decide +kernel, rfl, by decide +kernel, by decide +kernel⟩, rfl, fun _ _ _ _ _ _ us hl => match us, hl with | [_, _, _], _ => rfl⟩
theorem ok35 : o35.Ok := ⟨⟨rfl, rfl, rfl, by decide +kernel, rfl, by decide +kernel, by decide +kernel⟩, rfl, fun _ _ _ _ _ _ us hl => match us, hl with | [_, _], _ => rfl⟩
theorem ok36 : o36.Ok := ⟨⟨rfl, rfl, rfl, by decide +kernel, rfl, by decide +kernel, by decide +kernel⟩, rfl, fun _ _ _ _ _ _ us hl => match us, hl with | [_, _], _ => rfl⟩
theorem ok37 : o37.Ok := ⟨⟨rfl, rfl, rfl, by decide +kernel, rfl, by decide +kernel, by decide +kernel⟩, rfl, fun _ _ _ _ _ _ us hl => match us, hl with | [_, _], _ => rfl⟩
theorem ok38 : o38.Ok := ⟨⟨rfl, rfl, rfl, by decide +kernel, rfl, by decide +kernel, by decide +kernel⟩, rfl, fun _ _ _ _ _ _ us hl => match us, hl with | [_, _], _ => rfl⟩
theorem ok39 : o39.Ok := ⟨⟨rfl, rfl, rfl, by decide +kernel, rfl, by decide +kernel, by decide +kernel⟩, rfl, fun _ _ _ _ _ _ us hl => match us, hl with | [_, _], _ => rfl⟩
theorem ok40 : o40.Ok := ⟨⟨rfl, rfl, rfl, by decide +kernel, rfl, by decide +kernel, by decide +kernel⟩, rfl, fun _ _ _ _ _ _ us hl => match us, hl with | [_], _ => rfl⟩
theorem ok41 : o41.Ok := ⟨⟨rfl, rfl, rfl, by decide +kernel, rfl, by decide +kernel, by decide +kernel⟩, rfl, fun _ _ _ _ _ _ us hl => match us, hl with | [_, _, _], _ => rfl⟩
theorem ok42 : o42.Ok := ⟨⟨rfl, rfl, rfl, by decide +kernel, rfl, by decide +kernel, by decide +kernel⟩, rfl, fun _ _ _ _ _ _ us hl => match us, hl with | [_, _], _ => rfl⟩
theorem ok43 : o43.Ok := ⟨⟨rfl, rfl, rfl, by decide +kernel, rfl, by decide +kernel, by decide +kernel⟩, rfl, fun _ _ _ _ _ _ us hl => match us, hl with | [_, _], _ => rfl⟩
theorem ok44 : o44.Ok := ⟨⟨rfl, rfl, rfl, by decide +kernel, rfl, by decide +kernel, by decide +kernel⟩, rfl, fun _ _ _ _ _ _ us hl => match us, hl with | [_], _ => rfl⟩
theorem ok45 : o45.Ok := ⟨⟨rfl, rfl, rfl, by decide +kernel, rfl, by decide +kernel, by decide +kernel⟩, rfl, fun _ _ _ _ _ _ us hl => match us, hl with | [_, _], _ => rfl⟩
theorem ok46 : o46.Ok := ⟨⟨rfl, rfl, rfl, by decide +kernel, rfl, by decide +kernel, by decide +kernel⟩, rfl, fun _ _ _ _ _ _ us hl => match us, hl with | [_, _], _ => rfl⟩
theorem ok47 : o47.Ok := ⟨⟨rfl, rfl, rfl, by decide +kernel, rfl, by decide +kernel, by decide +kernel⟩, rfl, fun _ _ _ _ _ _ us hl => match us, hl with | [_, _], _ => rfl⟩
theorem ok48 : o48.Ok := ⟨⟨rfl, rfl, rfl, by decide +kernel, rfl, by decide +kernel, by decide +kernel⟩, rfl, fun _ _ _ _ _ _ us hl => match us, hl with | [_, _, _], _ => rfl⟩
theorem ok49 : o49.Ok := ⟨⟨rfl, rfl, rfl, by decide +kernel, rfl, by decide +kernel, by decide +kernel⟩, rfl, fun _ _ _ _ _ _ us hl => match us, hl with | [_, _], _ => rfl⟩
theorem ok50 : o50.Ok := ⟨⟨rfl, rfl, rfl, by decide +kernel, rfl, by decide +kernel, by decide +kernel⟩, rfl, fun _ _ _ _ _ _ us hl => match us, hl with | [_, _], _ => rfl⟩
theorem ok51 : o51.Ok := ⟨⟨rfl, rfl, rfl, by decide +kernel, rfl, by decide +kernel, by decide +kernel⟩, rfl, fun _ _ _ _ _ _ us hl => match us, hl with | [_, _, _], _ => rfl⟩
theorem ok52 : o52.Ok := ⟨⟨rfl, rfl, rfl, by decide +kernel, rfl, by decide +kernel, by decide +kernel⟩, rfl, fun _ _ _ _ _ _ us hl => match us, hl with | [_, _], _ => rfl⟩
theorem ok53 : o53.Ok := ⟨⟨rfl, rfl, rfl, by decide +kernel, rfl, by decide +kernel, by decide +kernel⟩, rfl, fun _ _ _ _ _ _ us hl => match us, hl with | [_, _], _ => rfl⟩
theorem ok54 : o54.Ok := ⟨⟨rfl, rfl, rfl, by decide +kernel, rfl, by decide +kernel, by decide +kernel⟩, rfl, fun _ _ _ _ _ _ us hl => match us, hl with | [_], _ => rfl⟩
theorem ok55 : o55.Ok := ⟨⟨rfl, rfl, rfl, by decide +kernel, rfl, by decide +kernel, by decide +kernel⟩, rfl, fun _ _ _ _ _ _ us hl => match us, hl with | [_], _ => rfl⟩
theorem ok56 : o56.Ok := ⟨⟨rfl, rfl, rfl, by decide +kernel, rfl, by decide +kernel, by decide +kernel⟩, rfl, fun _ _ _ _ _ _ us hl => match us, hl with | [_], _ => rfl⟩
theorem ok57 : o57.Ok := ⟨⟨rfl, rfl, rfl, by decide +kernel, rfl, by decide +kernel, by decide +kernel⟩, rfl, fun _ _ _ _ _ _ us hl => match us, hl with | [_], _ => rfl⟩
theorem oks : AllOk tab os := ⟨⟨ok0, [], rfl, by decide⟩, ⟨ok1, [], rfl, by decide⟩, ⟨ok2, [], rfl, by decide⟩, ⟨ok3, [], rfl, by decide⟩, ⟨ok4, [], rfl, by decide⟩, ⟨ok5, [], rfl, by decide⟩, ⟨ok6, [], rfl, by decide⟩, ⟨ok7, [], rfl, by decide⟩, ⟨ok8, [], rfl, by decide⟩, ⟨ok9, [], rfl, by decide⟩, ⟨ok10, [], rfl, by decide⟩, ⟨ok11, [], rfl, by decide⟩, ⟨ok12, [], rfl, by decide⟩, ⟨ok13, [], rfl, by decide⟩, ⟨ok14, [], rfl, by decide⟩, ⟨ok15, [], rfl, by decide⟩, ⟨ok16, [], rfl, by decide⟩, ⟨ok17, [], rfl, by decide⟩, ⟨ok18, [], rfl, by decide⟩, ⟨ok19, [], rfl, by decide⟩, ⟨ok20, [], rfl, by decide⟩, ⟨ok21, [], rfl, by decide⟩, ⟨ok22, [], rfl, by decide⟩, ⟨ok23, [], rfl, by decide⟩, ⟨ok24, [], rfl, by decide⟩, ⟨ok25, [], rfl, by decide⟩, ⟨ok26, [], rfl, by decide⟩, ⟨ok27, [], rfl, by decide⟩, ⟨ok28, [], rfl, by decide⟩, ⟨ok29, [], rfl, by decide⟩, ⟨ok30, [], rfl, by decide⟩, ⟨ok31, [], rfl, by decide⟩, ⟨ok32, [], rfl, by decide⟩, ⟨ok33, [], rfl, by decide⟩, ⟨ok34, [], rfl, by decide⟩, ⟨ok35, [], rfl, by decide⟩, ⟨ok36, [], rfl, by decide⟩, ⟨ok37, [], rfl, by decide⟩, ⟨ok38, [], rfl, by decide⟩, ⟨ok39, [], rfl, by decide⟩, ⟨ok40, [], rfl, by decide⟩, ⟨ok41, [], rfl, by decide⟩, ⟨ok42, [], rfl, by decide⟩, ⟨ok43, [], rfl, by decide⟩, ⟨ok44, [], rfl, by decide⟩, ⟨ok45, [], rfl, by decide⟩, ⟨ok46, [], rfl, by decide⟩, ⟨ok47, [], rfl, by decide⟩, ⟨ok48, [], rfl, by decide⟩, ⟨ok49, [], rfl, by decide⟩, ⟨ok50, [], rfl, by decide⟩, ⟨ok51, [], rfl, by decide⟩, ⟨ok52, [], rfl, by decide⟩, ⟨ok53, [], rfl, by decide⟩, ⟨ok54, [], rfl, by decide⟩, ⟨ok55, [], rfl, by decide⟩, ⟨ok56, [], rfl, by decide⟩, ⟨ok57, [], rfl, by decide⟩, trivial⟩
theorem kwoks : AllKw os tab.kws := ⟨⟨o36, rfl, fun _ _ _ _ _ _ ws hl => match ws, hl with | [_, _], _ => rfl⟩, trivial⟩

def f0 : Fn := ⟨1, 1, [(.ret (.and (.isI .int (.var 0)) (.not (.isI .bool (.var 0)))))], false⟩
theorem cf0 : o0.fn = f0 := by kernel_rfl
def f1 : Fn := ⟨3, 3, [(.ret (.and (.callF 0 [(.var 0)]) (.chain .LtE .LtE (.var 1) (.var 0) (.var 2))))], false⟩
theorem cf1 : o1.fn = f1 := by kernel_rfl
def f2 : Fn := ⟨1, 2, [(.ret (.and (.cmp .NotEq (.var 0) (.cst (.str ⟨⟨[]⟩⟩))) (.and (.callB .all [(.comp false [1] [1] true (.of (.var 0)) [] (.cmp .In (.var 1) (.cst (.str ⟨⟨[48, 49, 50, 51, 52, 53, 54, 55, 56, 57]⟩⟩))))]) (.or (.cmp .Eq (.var 0) (.cst (.str ⟨⟨[48]⟩⟩))) (.cmp .NotEq (.idx (.var 0) (.cst (.int (0)))) (.cst (.str ⟨⟨[48]⟩⟩)))))))], false⟩
theorem cf2 : o2.fn = f2 := by kernel_rfl
def f3 : Fn := ⟨1, 1, [(.ret (.or (.callF 2 [(.var 0)]) (.and (.cmp .Eq (.slice (.var 0) none (some (.cst (.int (1))))) (.cst (.str ⟨⟨[45]⟩⟩))) (.and (.callF 2 [(.slice (.var 0) (some (.cst (.int (1)))) none)]) (.cmp .NotEq (.var 0) (.cst (.str ⟨⟨[45, 48]⟩⟩)))))))], false⟩
theorem cf3 : o3.fn = f3 := by kernel_rfl
def f4 : Fn := ⟨1, 1, [(.ifs (.cmp .Lt (.callB .len [(.var 0)]) (.cst (.int (30)))) [(.ret (.callB .int [(.var 0)]))] []), (.ret (.ite (.cmp .Eq (.idx (.var 0) (.cst (.int (0)))) (.cst (.str ⟨⟨[45]⟩⟩))) (.neg (.bin .Pow (.cst (.int (10))) (.cst (.int (30))))) (.bin .Pow (.cst (.int (10))) (.cst (.int (30))))))], false⟩
theorem cf4 : o4.fn = f4 := by kernel_rfl
def f5 : Fn := ⟨2, 2, [(.while (.cmp .Gt (.var 1) (.cst (.int (0)))) [(.asg (.tup [(.name 0), (.name 1)]) (.tup [(.var 1), (.bin .Mod (.var 0) (.var 1))]))]), (.ret (.var 0))], false⟩
theorem cf5 : o5.fn = f5 := by kernel_rfl
def f6 : Fn := ⟨1, 3, [(.asg (.name 1) (.cst (.int (1)))), (.for (.name 2) (.of (.var 0)) [(.asg (.name 1) (.bin .FloorDiv (.bin .Mult (.var 1) (.var 2)) (.callF 5 [(.var 1), (.var 2)])))]), (.ret (.var 1))], false⟩
theorem cf6 : o6.fn = f6 := by kernel_rfl
def f7 : Fn := ⟨1, 2, [(.ret (.comp false [1] [1] true (.range2 (.cst (.int (1))) (.bin .Add (.var 0) (.cst (.int (1))))) [(.cmp .Eq (.bin .Mod (.var 0) (.var 1)) (.cst (.int (0))))] (.var 1)))], false⟩
theorem cf7 : o7.fn = f7 := by kernel_rfl
def f8 : Fn := ⟨1, 5, [(.asg (.tup [(.name 1), (.name 2), (.name 3)]) (.tup [(.lst true []), (.cst (.int (2))), (.var 0)])), (.while (.cmp .LtE (.bin .Mult (.var 2) (.var 2)) (.var 3)) [(.asg (.name 4) (.cst (.int (1)))), (.while (.cmp .Eq (.bin .Mod (.var 3) (.var 2)) (.cst (.int (0)))) [(.asg (.tup [(.name 3), (.name 4)]) (.tup [(.bin .FloorDiv (.var 3) (.var 2)), (.bin .Mult (.var 4) (.var 2))]))]), (.ifs (.cmp .Gt (.var 4) (.cst (.int (1)))) [(.expr (.meth .append (.var 1) [(.tup [(.var 2), (.var 4)])]))] []), (.asg (.name 2) (.bin .Add (.var 2) (.cst (.int (1)))))]), (.ret (.ite (.cmp .Eq (.var 3) (.cst (.int (1)))) (.var 1) (.lst false [(.star (.var 1)), (.tup [(.var 3), (.var 3)])])))], false⟩
theorem cf8 : o8.fn = f8 := by kernel_rfl
def f9 : Fn := ⟨1, 4, [(.asg (.name 1) (.cst (.int (1)))), (.for (.tup [(.name 2), (.name 3)]) (.of (.callF 8 [(.var 0)])) [(.asg (.name 1) (.bin .Mult (.var 1) (.bin .Sub (.var 3) (.bin .FloorDiv (.var 3) (.var 2)))))]), (.ret (.var 1))], false⟩
theorem cf9 : o9.fn = f9 := by kernel_rfl
def f10 : Fn := ⟨1, 4, [(.asg (.name 1) (.callF 8 [(.var 0)])), (.ifs (.callB .any [(.comp false [2, 3] [2, 3] false (.of (.var 1)) [] (.cmp .NotEq (.var 2) (.var 3)))]) [(.ret (.cst (.int (0))))] []), (.ret (.ite (.cmp .Eq (.bin .Mod (.callB .len [(.var 1)]) (.cst (.int (2)))) (.cst (.int (0)))) (.cst (.int (1))) (.neg (.cst (.int (1))))))], false⟩
theorem cf10 : o10.fn = f10 := by kernel_rfl
def f11 : Fn := ⟨1, 6, [(.ifs (.not (.isI .str (.var 0))) [(.ret (.cst .non))] []), (.asg (.name 1) (.comp false [3] [3] true (.of (.meth .split (.var 0) [(.cst (.str ⟨⟨[32, 47, 32]⟩⟩))])) [] (.meth .split (.var 3) [(.cst (.str ⟨⟨[32]⟩⟩))]))), (.ifs (.or (.cmp .Gt (.callB .len [(.var 1)]) (.cst (.int (6)))) (.callB .any [(.comp false [3] [3] true (.of (.var 1)) [] (.cmp .NotEq (.callB .len [(.var 3)]) (.callB .len [(.var 1)])))])) [(.ret (.cst .non))] []), (.ifs (.not (.callB .all [(.comp false [3] [3] true (.of (.var 1)) [] (.callB .all [(.comp false [5] [5] true (.of (.var 3)) [] (.callF 3 [(.var 5)]))]))])) [(.ret (.cst .non))] []), (.asg (.name 2) (.callB .tuple [(.comp false [3] [3] true (.of (.var 1)) [] (.callB .tuple [(.comp false [5] [5] true (.of (.var 3)) [] (.callF 4 [(.var 5)]))]))])), (.ret (.ite (.callB .all [(.comp false [4] [4] true (.of (.var 2)) [] (.callF 12 [(.var 4)]))]) (.var 2) (.cst .non)))], false⟩
theorem cf11 : o11.fn = f11 := by kernel_rfl
def f12 : Fn := ⟨1, 2, [(.ret (.and (.isI .tuple (.var 0)) (.callB .all [(.comp false [1] [1] true (.of (.var 0)) [] (.callF 1 [(.var 1), (.neg (.cst (.int (1000000000)))), (.cst (.int (1000000000)))]))])))], false⟩
theorem cf12 : o12.fn = f12 := by kernel_rfl
def f13 : Fn := ⟨2, 2, [(.ret (.and (.callF 12 [(.var 0)]) (.cmp .Eq (.callB .len [(.var 0)]) (.callB .len [(.var 1)]))))], false⟩
theorem cf13 : o13.fn = f13 := by kernel_rfl
def f14 : Fn := ⟨2, 4, [(.ret (.callB .tuple [(.comp false [2] [2] true (.of (.var 0)) [] (.callB .sum [(.comp false [3] [3] true (.range1 (.callB .len [(.var 0)])) [] (.bin .Mult (.idx (.var 2) (.var 3)) (.idx (.var 1) (.var 3))))]))]))], false⟩
theorem cf14 : o14.fn = f14 := by kernel_rfl
def f15 : Fn := ⟨3, 4, [(.for (.name 3) (.range1 (.var 2)) [(.asg (.name 1) (.callF 14 [(.var 0), (.var 1)]))]), (.ret (.var 1))], false⟩
theorem cf15 : o15.fn = f15 := by kernel_rfl
def f16 : Fn := ⟨2, 4, [(.asg (.name 2) (.var 1)), (.for (.name 3) (.range2 (.cst (.int (1))) (.bin .Add (.cst (.int (30))) (.cst (.int (1))))) [(.asg (.name 2) (.callF 14 [(.var 0), (.var 2)])), (.ifs (.cmp .Eq (.var 2) (.var 1)) [(.ret (.var 3))] [])]), (.ret (.cst .non))], false⟩
theorem cf16 : o16.fn = f16 := by kernel_rfl
def f17 : Fn := ⟨2, 3, [(.ret (.callB .tuple [(.comp false [2] [2] true (.range1 (.var 0)) [] (.callB .int [(.cmp .Eq (.var 2) (.var 1))]))]))], false⟩
theorem cf17 : o17.fn = f17 := by kernel_rfl
def f18 : Fn := ⟨1, 3, [(.asg (.name 1) (.comp false [2] [2] true (.range1 (.callB .len [(.var 0)])) [] (.callF 16 [(.var 0), (.callF 17 [(.callB .len [(.var 0)]), (.var 2)])]))), (.ret (.ite (.cmp .In (.cst .non) (.var 1)) (.cst .non) (.callF 6 [(.var 1)])))], false⟩
theorem cf18 : o18.fn = f18 := by kernel_rfl
def f19 : Fn := ⟨2, 4, [(.asg (.name 2) (.callB .len [(.var 0)])), (.ret (.callB .sum [(.comp false [3] [3] true (.range1 (.var 2)) [] (.idx (.callF 15 [(.var 0), (.callF 17 [(.var 2), (.var 3)]), (.var 1)]) (.var 3)))]))], false⟩
theorem cf19 : o19.fn = f19 := by kernel_rfl
def f20 : Fn := ⟨2, 5, [(.asg (.name 2) (.cst (.int (0)))), (.for (.name 3) (.of (.var 0)) [(.asg (.name 2) (.bin .Add (.var 2) (.callB .sum [(.comp false [4] [4] true (.of (.callF 7 [(.var 3)])) [(.cmp .Eq (.bin .Mod (.var 1) (.var 4)) (.cst (.int (0))))] (.bin .Mult (.callF 10 [(.bin .FloorDiv (.var 3) (.var 4))]) (.var 4)))])))]), (.ret (.var 2))], false⟩
theorem cf20 : o20.fn = f20 := by kernel_rfl
def f21 : Fn := ⟨2, 3, [(.ifs (.or (.not (.isI .tuple (.var 0))) (.not (.callB .all [(.comp false [2] [2] true (.of (.var 0)) [] (.callF 1 [(.var 2), (.cst (.int (1))), (.cst (.int (18)))]))]))) [(.ret (.cst (.bl false)))] []), (.ret (.and (.cmp .Eq (.callB .list [(.var 0)]) (.callB .sorted [(.var 0)])) (.cmp .Eq (.callB .sum [(.comp false [2] [2] true (.of (.var 0)) [] (.callF 9 [(.var 2)]))]) (.var 1))))], false⟩
theorem cf21 : o21.fn = f21 := by kernel_rfl
def f22 : Fn := ⟨2, 8, [(.asg (.name 2) (.comp false [3] [3] true (.range1 (.callB .len [(.var 1)])) [] (.comp false [4] [4] true (.of (.var 1)) [] (.idx (.var 4) (.var 3))))), (.ret (.comp false [4] [4] true (.of (.var 0)) [] (.comp false [5] [5] true (.of (.var 2)) [] (.callB .sum [(.comp false [6, 7] [6, 7] false (.zip (.var 4) (.var 5)) [] (.bin .Mult (.var 6) (.var 7)))]))))], false⟩
theorem cf22 : o22.fn = f22 := by kernel_rfl
def f23 : Fn := ⟨1, 3, [(.asg (.name 1) (.cst (.int (0)))), (.for (.name 2) (.of (.var 0)) [(.asg (.name 1) (.callF 5 [(.callB .abs [(.var 2)]), (.var 1)]))]), (.ret (.ite (.cmp .Gt (.var 1) (.cst (.int (1)))) (.comp false [2] [2] true (.of (.var 0)) [] (.bin .FloorDiv (.var 2) (.var 1))) (.var 0)))], false⟩
theorem cf23 : o23.fn = f23 := by kernel_rfl
def f24 : Fn := ⟨1, 10, [(.asg (.tup [(.name 2), (.name 3)]) (.tup [(.comp false [6] [6] true (.of (.var 0)) [] (.callB .list [(.var 6)])), (.cst (.int (0)))])), (.for (.name 1) (.range1 (.callB .len [(.idx (.var 0) (.cst (.int (0))))])) [(.asg (.name 4) (.comp false [6] [6] true (.of (.var 2)) [(.cmp .NotEq (.idx (.var 6) (.var 1)) (.cst (.int (0))))] (.var 6))), (.ifs (.cmp .NotEq (.var 4) (.lst false [])) [(.asg (.tup [(.name 7), (.name 3)]) (.tup [(.idx (.var 4) (.cst (.int (0)))), (.bin .Add (.var 3) (.cst (.int (1))))])), (.asg (.name 5) (.comp false [6] [6] true (.of (.var 2)) [(.cmp .Eq (.idx (.var 6) (.var 1)) (.cst (.int (0))))] (.var 6))), (.asg (.name 2) (.bin .Add (.var 5) (.comp false [6] [6] true (.of (.slice (.var 4) (some (.cst (.int (1)))) none)) [] (.callF 23 [(.comp false [8, 9] [8, 9] false (.zip (.var 7) (.var 6)) [] (.bin .Sub (.bin .Mult (.idx (.var 7) (.var 1)) (.var 9)) (.bin .Mult (.idx (.var 6) (.var 1)) (.var 8))))]))))] [])]), (.ret (.var 3))], false⟩
theorem cf24 : o24.fn = f24 := by kernel_rfl
def f25 : Fn := ⟨3, 6, [(.asg (.name 3) (.callB .len [(.var 0)])), (.ifs (.or (.not (.isI .tuple (.var 2))) (.cmp .NotEq (.callB .len [(.var 2)]) (.var 3))) [(.ret (.cst (.bl false)))] []), (.ifs (.not (.callB .all [(.comp false [4] [4] true (.of (.var 2)) [] (.and (.isI .tuple (.var 4)) (.cmp .Eq (.callB .len [(.var 4)]) (.var 3))))])) [(.ret (.cst (.bl false)))] []), (.ifs (.not (.callB .all [(.comp false [4] [4] true (.of (.var 2)) [] (.callB .all [(.comp false [5] [5] true (.of (.var 4)) [] (.callF 0 [(.var 5)]))]))])) [(.ret (.cst (.bl false)))] []), (.ret (.and (.cmp .Eq (.callF 24 [(.var 2)]) (.var 3)) (.cmp .Eq (.callF 22 [(.var 2), (.var 0)]) (.callF 22 [(.var 1), (.var 2)]))))], false⟩
theorem cf25 : o25.fn = f25 := by kernel_rfl
def f26 : Fn := ⟨1, 1, [(.ret (.and (.callF 12 [(.var 0)]) (.chain .LtE .LtE (.cst (.int (1))) (.callB .len [(.var 0)]) (.cst (.int (30))))))], false⟩
theorem cf26 : o26.fn = f26 := by kernel_rfl
def f27 : Fn := ⟨2, 2, [(.ret (.idx (.var 0) (.bin .Mod (.var 1) (.callB .len [(.var 0)]))))], false⟩
theorem cf27 : o27.fn = f27 := by kernel_rfl
def f28 : Fn := ⟨1, 4, [(.asg (.name 1) (.callB .len [(.var 0)])), (.ret (.callB .max [(.cst (.int (1))), (.callF 24 [(.comp false [2] [2] true (.range1 (.var 1)) [] (.comp false [3] [3] true (.range1 (.var 1)) [] (.callF 27 [(.var 0), (.bin .Add (.var 2) (.var 3))])))])]))], false⟩
theorem cf28 : o28.fn = f28 := by kernel_rfl
def f29 : Fn := ⟨3, 5, [(.asg (.name 3) (.var 1)), (.for (.name 4) (.range1 (.bin .Add (.callB .len [(.var 2)]) (.bin .Mult (.cst (.int (2))) (.callB .len [(.var 0)])))) [(.ifs (.cmp .NotEq (.idx (.var 3) (.cst (.int (0)))) (.callF 27 [(.var 2), (.var 4)])) [(.ret (.cst (.bl false)))] []), (.asg (.name 3) (.callF 14 [(.var 0), (.var 3)]))]), (.ret (.cst (.bl true)))], false⟩
theorem cf29 : o29.fn = f29 := by kernel_rfl
def f30 : Fn := ⟨3, 4, [(.ifs (.or (.not (.isI .tuple (.var 2))) (.cmp .NotEq (.callB .len [(.var 2)]) (.cst (.int (2))))) [(.ret (.cst (.bl false)))] []), (.asg (.name 3) (.callF 11 [(.idx (.var 2) (.cst (.int (0))))])), (.ret (.and (.cmp .IsNot (.var 3) (.cst .non)) (.and (.cmp .Eq (.callB .len [(.var 3)]) (.var 1)) (.and (.callF 13 [(.idx (.var 2) (.cst (.int (1)))), (.var 3)]) (.callF 29 [(.var 3), (.idx (.var 2) (.cst (.int (1)))), (.var 0)])))))], false⟩
theorem cf30 : o30.fn = f30 := by kernel_rfl
def f31 : Fn := ⟨3, 6, [(.ifs (.or (.not (.isI .tuple (.var 2))) (.or (.cmp .NotEq (.callB .len [(.var 2)]) (.var 1)) (.not (.callB .all [(.comp false [4] [4] true (.of (.var 2)) [] (.callF 0 [(.var 4)]))])))) [(.ret (.cst (.bl false)))] []), (.for (.name 3) (.range1 (.callB .len [(.var 0)])) [(.ifs (.cmp .NotEq (.callF 27 [(.var 0), (.bin .Add (.var 3) (.var 1))]) (.callB .sum [(.comp false [5] [5] true (.range1 (.var 1)) [] (.bin .Mult (.idx (.var 2) (.var 5)) (.callF 27 [(.var 0), (.bin .Add (.var 3) (.var 5))])))])) [(.ret (.cst (.bl false)))] [])]), (.ret (.cst (.bl true)))], false⟩
theorem cf31 : o31.fn = f31 := by kernel_rfl
def f32 : Fn := ⟨3, 3, [(.ifs (.or (.cmp .IsNot (.var 2) (.cst .non)) (.not (.callF 13 [(.idx (.var 1) (.cst (.int (2)))), (.var 0)]))) [(.ret (.cst (.bl false)))] []), (.ifs (.cmp .Eq (.idx (.var 1) (.cst (.int (0)))) (.cst (.str ⟨⟨[101, 110, 100, 108, 101, 115, 115]⟩⟩))) [(.ret (.and (.cmp .Eq (.callB .len [(.var 1)]) (.cst (.int (3)))) (.cmp .Is (.callF 16 [(.var 0), (.callF 15 [(.var 0), (.idx (.var 1) (.cst (.int (2)))), (.callB .len [(.var 0)])])]) (.cst .non))))] []), (.ret (.and (.cmp .Eq (.callB .len [(.var 1)]) (.cst (.int (4)))) (.and (.callF 0 [(.idx (.var 1) (.cst (.int (3))))]) (.cmp .Eq (.callF 16 [(.var 0), (.idx (.var 1) (.cst (.int (2))))]) (.idx (.var 1) (.cst (.int (3))))))))], false⟩
theorem cf32 : o32.fn = f32 := by kernel_rfl
def f33 : Fn := ⟨3, 6, [(.ifs (.cmp .Eq (.idx (.var 1) (.cst (.int (0)))) (.cst (.str ⟨⟨[110, 111, 116, 32, 98, 97, 99, 107]⟩⟩))) [(.ret (.and (.cmp .Eq (.callB .len [(.var 1)]) (.cst (.int (2)))) (.and (.callF 13 [(.var 2), (.var 0)]) (.cmp .Is (.callF 16 [(.var 0), (.var 2)]) (.cst .non)))))] []), (.asg (.name 3) (.callF 18 [(.var 0)])), (.ifs (.or (.cmp .NotEq (.callB .len [(.var 1)]) (.cst (.int (3)))) (.or (.cmp .IsNot (.var 2) (.cst .non)) (.cmp .Is (.var 3) (.cst .non)))) [(.ret (.cst (.bl false)))] []), (.ifs (.cmp .Eq (.idx (.var 1) (.cst (.int (0)))) (.cst (.str ⟨⟨[111, 114, 100, 101, 114]⟩⟩))) [(.ret (.and (.callF 0 [(.idx (.var 1) (.cst (.int (2))))]) (.cmp .Eq (.idx (.var 1) (.cst (.int (2)))) (.var 3))))] []), (.asg (.name 4) (.callB .len [(.var 0)])), (.ifs (.not (.callF 21 [(.idx (.var 1) (.cst (.int (2)))), (.var 4)])) [(.ret (.cst (.bl false)))] []), (.ret (.callB .all [(.comp false [5] [5] true (.range2 (.cst (.int (1))) (.bin .Add (.var 4) (.cst (.int (1))))) [] (.cmp .Eq (.callF 19 [(.var 0), (.var 5)]) (.callF 20 [(.idx (.var 1) (.cst (.int (2)))), (.var 5)])))]))], false⟩
theorem cf33 : o33.fn = f33 := by kernel_rfl
def f34 : Fn := ⟨3, 4, [(.asg (.name 3) (.callF 11 [(.idx (.var 1) (.cst (.int (2))))])), (.ifs (.or (.cmp .Is (.var 3) (.cst .non)) (.or (.cmp .NotEq (.callB .len [(.var 1)]) (.cst (.int (3)))) (.cmp .NotEq (.callB .len [(.var 3)]) (.callB .len [(.var 0)])))) [(.ret (.cst (.bl false)))] []), (.ifs (.or (.cmp .Is (.callF 18 [(.var 0)]) (.cst .non)) (.cmp .Is (.callF 18 [(.var 3)]) (.cst .non))) [(.ret (.cst (.bl false)))] []), (.ifs (.cmp .Eq (.idx (.var 1) (.cst (.int (0)))) (.cst (.str ⟨⟨[97, 108, 105, 107, 101]⟩⟩))) [(.ret (.callF 25 [(.var 0), (.var 3), (.var 2)]))] []), (.ret (.and (.callF 1 [(.var 2), (.cst (.int (1))), (.cst (.int (60)))]) (.cmp .NotEq (.callF 19 [(.var 0), (.var 2)]) (.callF 19 [(.var 3), (.var 2)]))))], false⟩
theorem cf34 : o34.fn = f34 := by kernel_rfl
def f35 : Fn := ⟨2, 2, [(.ifs (.or (.cmp .NotEq (.callB .len [(.var 0)]) (.cst (.int (3)))) (.or (.not (.callF 26 [(.idx (.var 0) (.cst (.int (1))))])) (.or (.not (.callF 0 [(.idx (.var 0) (.cst (.int (2))))])) (.cmp .NotEq (.callF 28 [(.idx (.var 0) (.cst (.int (1))))]) (.idx (.var 0) (.cst (.int (2)))))))) [(.ret (.cst (.bl false)))] []), (.ifs (.cmp .Gt (.idx (.var 0) (.cst (.int (2)))) (.cst (.int (6)))) [(.ret (.callF 31 [(.idx (.var 0) (.cst (.int (1)))), (.idx (.var 0) (.cst (.int (2)))), (.var 1)]))] []), (.ret (.callF 30 [(.idx (.var 0) (.cst (.int (1)))), (.idx (.var 0) (.cst (.int (2)))), (.var 1)]))], false⟩
theorem cf35 : o35.fn = f35 := by kernel_rfl
def f36 : Fn := ⟨2, 3, [(.ifs (.or (.not (.isI .tuple (.var 0))) (.or (.not (.chain .LtE .LtE (.cst (.int (2))) (.callB .len [(.var 0)]) (.cst (.int (4))))) (.not (.isI .str (.idx (.var 0) (.cst (.int (0)))))))) [(.ret (.cst (.bl false)))] []), (.ifs (.cmp .Eq (.idx (.var 0) (.cst (.int (0)))) (.cst (.str ⟨⟨[99, 111, 117, 110, 116, 101, 114, 115]⟩⟩))) [(.ret (.callF 35 [(.var 0), (.var 1)]))] []), (.asg (.name 2) (.callF 11 [(.idx (.var 0) (.cst (.int (1))))])), (.ifs (.cmp .Is (.var 2) (.cst .non)) [(.ret (.cst (.bl false)))] []), (.ifs (.cmp .In (.idx (.var 0) (.cst (.int (0)))) (.tup [(.cst (.str ⟨⟨[110, 111, 116, 32, 98, 97, 99, 107]⟩⟩)), (.cst (.str ⟨⟨[111, 114, 100, 101, 114]⟩⟩)), (.cst (.str ⟨⟨[107, 105, 110, 100]⟩⟩))])) [(.ret (.callF 33 [(.var 2), (.var 0), (.var 1)]))] []), (.ifs (.cmp .Eq (.callB .len [(.var 0)]) (.cst (.int (2)))) [(.ret (.cst (.bl false)))] []), (.ifs (.cmp .In (.idx (.var 0) (.cst (.int (0)))) (.tup [(.cst (.str ⟨⟨[112, 101, 114, 105, 111, 100]⟩⟩)), (.cst (.str ⟨⟨[101, 110, 100, 108, 101, 115, 115]⟩⟩))])) [(.ret (.callF 32 [(.var 2), (.var 0), (.var 1)]))] []), (.ret (.and (.cmp .In (.idx (.var 0) (.cst (.int (0)))) (.tup [(.cst (.str ⟨⟨[97, 108, 105, 107, 101]⟩⟩)), (.cst (.str ⟨⟨[117, 110, 108, 105, 107, 101]⟩⟩))])) (.callF 34 [(.var 2), (.var 0), (.var 1)])))], false⟩
theorem cf36 : o36.fn = f36 := by kernel_rfl
def f37 : Fn := ⟨2, 6, [(.asg (.tup [(.name 4), (.name 5)]) (.tup [(.ite (.cmp .Lt (.var 1) (.callB .len [(.var 0)])) (.callB .int [(.idx (.var 0) (.var 1))]) (.cst (.int (0)))), (.bin .Add (.bin .Mult (.cst (.int (69389))) (.bin .Add (.var 1) (.cst (.int (4))))) (.cst (.int (11))))])), (.for (.name 2) (.of (.slice (.var 0) none (some (.cst (.int (6)))))) [(.asg (.name 5) (.bin .Mod (.callB .int [(.bin .Add (.bin .Add (.bin .Mult (.var 5) (.cst (.int (39631)))) (.bin .Mod (.callB .int [(.var 2)]) (.cst (.int (1000453))))) (.bin .Mult (.cst (.int (29))) (.var 1)))]) (.cst (.int (2147483237)))))]), (.asg (.name 3) (.ite (.or (.cmp .Lt (.var 4) (.cst (.int (0)))) (.cmp .GtE (.var 4) (.bin .Pow (.cst (.int (10))) (.cst (.int (17)))))) (.callB .abs [(.var 4)]) (.cst (.int (0))))), (.ret (.lst true [(.var 3), (.bin .Mod (.callB .int [(.bin .Add (.var 5) (.bin .Mult (.cst (.int (46649))) (.bin .Mod (.callB .int [(.var 4)]) (.cst (.int (999809))))))]) (.cst (.int (2147483237)))), (.cst (.int (0)))]))], true⟩
theorem cf37 : o37.fn = f37 := by kernel_rfl
def f38 : Fn := ⟨2, 4, [(.ifs (.cmp .Gt (.idx (.var 0) (.cst (.int (0)))) (.cst (.int (0)))) [(.asg (.name 3) (.bin .Mod (.callB .int [(.idx (.var 0) (.cst (.int (0))))]) (.var 1))), (.asg (.sub (.var 0) (.cst (.int (0)))) (.bin .FloorDiv (.idx (.var 0) (.cst (.int (0)))) (.var 1))), (.ret (.var 3))] []), (.asg (.sub (.var 0) (.cst (.int (2)))) (.bin .Add (.idx (.var 0) (.cst (.int (2)))) (.cst (.int (1))))), (.asg (.name 2) (.bin .Mod (.callB .int [(.bin .Add (.idx (.var 0) (.cst (.int (1)))) (.bin .Mult (.cst (.int (51109))) (.idx (.var 0) (.cst (.int (2))))))]) (.cst (.int (2147483237))))), (.asg (.sub (.var 0) (.cst (.int (1)))) (.bin .Mod (.callB .int [(.bin .Add (.bin .Add (.bin .Mult (.var 2) (.bin .Add (.bin .Mod (.callB .int [(.var 2)]) (.cst (.int (35023)))) (.cst (.int (43019))))) (.bin .Mult (.cst (.int (53))) (.idx (.var 0) (.cst (.int (2)))))) (.cst (.int (9))))]) (.cst (.int (2147483237))))), (.ret (.bin .Mod (.bin .FloorDiv (.callB .int [(.idx (.var 0) (.cst (.int (1))))]) (.cst (.int (317)))) (.var 1)))], false⟩
theorem cf38 : o38.fn = f38 := by kernel_rfl
def f39 : Fn := ⟨2, 2, [(.ret (.idx (.var 1) (.callF 38 [(.var 0), (.callB .len [(.var 1)])])))], false⟩
theorem cf39 : o39.fn = f39 := by kernel_rfl
def f40 : Fn := ⟨1, 3, [(.ret (.meth .join (.cst (.str ⟨⟨[32, 47, 32]⟩⟩)) [(.comp false [1] [1] true (.of (.var 0)) [] (.meth .join (.cst (.str ⟨⟨[32]⟩⟩)) [(.comp false [2] [2] true (.of (.var 1)) [] (.callB .str [(.var 2)]))]))]))], false⟩
theorem cf40 : o40.fn = f40 := by kernel_rfl
def f41 : Fn := ⟨3, 7, [(.for (.name 3) (.range1 (.var 2)) [(.asg (.name 1) (.callB .tuple [(.comp false [4] [4] true (.of (.var 0)) [] (.callB .sum [(.comp false [5, 6] [5, 6] false (.zip (.var 4) (.var 1)) [] (.bin .Mult (.var 5) (.var 6)))]))]))]), (.ret (.var 1))], false⟩
theorem cf41 : o41.fn = f41 := by kernel_rfl
def f42 : Fn := ⟨2, 4, [(.asg (.name 2) (.var 1)), (.for (.name 3) (.range2 (.cst (.int (1))) (.cst (.int (61)))) [(.asg (.name 2) (.callF 41 [(.var 0), (.var 2), (.cst (.int (1)))])), (.ifs (.cmp .Eq (.var 2) (.var 1)) [(.ret (.var 3))] [])]), (.ret (.cst (.int (0))))], false⟩
theorem cf42 : o42.fn = f42 := by kernel_rfl
def f43 : Fn := ⟨2, 3, [(.ret (.callB .tuple [(.comp false [2] [2] true (.range1 (.var 0)) [] (.callB .int [(.cmp .Eq (.var 2) (.var 1))]))]))], false⟩
theorem cf43 : o43.fn = f43 := by kernel_rfl
def f44 : Fn := ⟨1, 7, [(.asg (.name 1) (.dct [(.inl (1)), (.inl (2)), (.inl (3)), (.inl (4)), (.inl (6)), (.inl (5)), (.inl (8)), (.inl (10))] [(.lst false [(.neg (.cst (.int (1))))]), (.lst false [(.cst (.int (1)))]), (.lst false [(.cst (.int (1))), (.cst (.int (1)))]), (.lst false [(.cst (.int (1))), (.cst (.int (0)))]), (.lst false [(.cst (.int (1))), (.neg (.cst (.int (1))))]), (.lst false [(.cst (.int (1))), (.cst (.int (1))), (.cst (.int (1))), (.cst (.int (1)))]), (.lst false [(.cst (.int (1))), (.cst (.int (0))), (.cst (.int (0))), (.cst (.int (0)))]), (.lst false [(.cst (.int (1))), (.neg (.cst (.int (1)))), (.cst (.int (1))), (.neg (.cst (.int (1))))])])), (.asg (.name 2) (.dct [(.inl (12)), (.inl (7)), (.inl (9)), (.inl (14)), (.inl (18))] [(.lst false [(.cst (.int (1))), (.cst (.int (0))), (.neg (.cst (.int (1)))), (.cst (.int (0)))]), (.bin .Mult (.lst false [(.cst (.int (1)))]) (.cst (.int (6)))), (.lst false [(.cst (.int (1))), (.cst (.int (0))), (.cst (.int (0))), (.cst (.int (1))), (.cst (.int (0))), (.cst (.int (0)))]), (.bin .Mult (.lst false [(.cst (.int (1))), (.neg (.cst (.int (1))))]) (.cst (.int (3)))), (.lst false [(.cst (.int (1))), (.cst (.int (0))), (.cst (.int (0))), (.neg (.cst (.int (1)))), (.cst (.int (0))), (.cst (.int (0)))])])), (.asg (.name 3) (.ite (.cmp .In (.var 0) (.var 1)) (.idx (.var 1) (.var 0)) (.idx (.var 2) (.var 0)))), (.asg (.name 4) (.comp false [5] [5] true (.range1 (.bin .Sub (.callB .len [(.var 3)]) (.cst (.int (1))))) [] (.callB .list [(.callF 43 [(.callB .len [(.var 3)]), (.bin .Add (.var 5) (.cst (.int (1))))])]))), (.ret (.bin .Add (.var 4) (.lst false [(.comp false [6] [6] true (.of (.var 3)) [] (.bin .Sub (.cst (.int (0))) (.var 6)))])))], false⟩
theorem cf44 : o44.fn = f44 := by kernel_rfl
def f45 : Fn := ⟨2, 4, [(.asg (.name 2) (.comp false [3] [3] true (.of (.var 0)) [] (.bin .Add (.callB .list [(.var 3)]) (.bin .Mult (.lst false [(.cst (.int (0)))]) (.callB .len [(.var 1)]))))), (.ret (.bin .Add (.var 2) (.comp false [3] [3] true (.of (.var 1)) [] (.bin .Add (.bin .Mult (.lst false [(.cst (.int (0)))]) (.callB .len [(.var 0)])) (.callB .list [(.var 3)])))))], false⟩
theorem cf45 : o45.fn = f45 := by kernel_rfl
def f46 : Fn := ⟨2, 2, [(.ret (.callF 47 [(.var 0), (.bin .Add (.cst (.int (1))) (.callF 38 [(.var 0), (.var 1)]))]))], false⟩
theorem cf46 : o46.fn = f46 := by kernel_rfl
def f47 : Fn := ⟨2, 7, [(.asg (.name 2) (.dct [(.inl (1)), (.inl (2)), (.inl (3)), (.inl (4)), (.inl (6)), (.inl (5)), (.inl (8)), (.inl (10)), (.inl (12)), (.inl (7)), (.inl (9)), (.inl (14)), (.inl (18))] [(.cst (.int (1))), (.cst (.int (1))), (.cst (.int (2))), (.cst (.int (2))), (.cst (.int (2))), (.cst (.int (4))), (.cst (.int (4))), (.cst (.int (4))), (.cst (.int (4))), (.cst (.int (6))), (.cst (.int (6))), (.cst (.int (6))), (.cst (.int (6)))])), (.asg (.name 3) (.lst false [])), (.for (.name 4) (.range1 (.cst (.int (6)))) [(.asg (.name 5) (.comp false [6] [6] true (.of (.lst false [(.cst (.int (1))), (.cst (.int (2))), (.cst (.int (3))), (.cst (.int (4))), (.cst (.int (6))), (.cst (.int (5))), (.cst (.int (8))), (.cst (.int (10))), (.cst (.int (12))), (.cst (.int (7))), (.cst (.int (9))), (.cst (.int (14))), (.cst (.int (18)))])) [(.cmp .LtE (.idx (.var 2) (.var 6)) (.var 1))] (.var 6))), (.ifs (.cmp .NotEq (.var 5) (.lst false [])) [(.asg (.name 6) (.idx (.var 5) (.callB .max [(.callF 38 [(.var 0), (.callB .len [(.var 5)])]), (.callF 38 [(.var 0), (.callB .len [(.var 5)])])]))), (.asg (.tup [(.name 3), (.name 1)]) (.tup [(.bin .Add (.var 3) (.lst false [(.var 6)])), (.bin .Sub (.var 1) (.idx (.var 2) (.var 6)))]))] [])]), (.ret (.callB .tuple [(.callB .sorted [(.var 3)])]))], false⟩
theorem cf47 : o47.fn = f47 := by kernel_rfl
def f48 : Fn := ⟨3, 10, [(.asg (.name 1) (.comp true [7] [7] true (.of (.var 1)) [] (.listM (.var 7)))), (.for (.name 3) (.range1 (.ite (.cmp .Gt (.callB .len [(.var 1)]) (.cst (.int (1)))) (.var 2) (.cst (.int (0))))) [(.asg (.name 4) (.callF 38 [(.var 0), (.callB .len [(.var 1)])])), (.asg (.name 5) (.bin .Mod (.callB .int [(.bin .Add (.bin .Add (.var 4) (.cst (.int (1)))) (.callF 38 [(.var 0), (.bin .Sub (.callB .len [(.var 1)]) (.cst (.int (1))))]))]) (.callB .len [(.var 1)]))), (.asg (.name 6) (.callF 39 [(.var 0), (.lst false [(.cst (.int (1))), (.neg (.cst (.int (1)))), (.cst (.int (1))), (.neg (.cst (.int (1)))), (.cst (.int (2)))])])), (.asg (.sub (.var 1) (.var 4)) (.comp true [8, 9] [8, 9] false (.zip (.idx (.var 1) (.var 4)) (.idx (.var 1) (.var 5))) [] (.bin .Add (.var 8) (.bin .Mult (.var 6) (.var 9))))), (.for (.name 7) (.of (.var 1)) [(.asg (.sub (.var 7) (.var 5)) (.bin .Sub (.idx (.var 7) (.var 5)) (.bin .Mult (.var 6) (.idx (.var 7) (.var 4)))))])]), (.ret (.var 1))], true⟩
theorem cf48 : o48.fn = f48 := by kernel_rfl
def f49 : Fn := ⟨2, 4, [(.asg (.name 2) (.lst false [])), (.for (.name 3) (.of (.var 1)) [(.asg (.name 2) (.callF 45 [(.var 2), (.callF 44 [(.var 3)])]))]), (.ret (.callF 48 [(.var 0), (.var 2), (.callF 38 [(.var 0), (.cst (.int (5)))])]))], true⟩
theorem cf49 : o49.fn = f49 := by kernel_rfl
def f50 : Fn := ⟨2, 8, [(.asg (.name 2) (.callF 38 [(.var 0), (.cst (.int (4)))])), (.ifs (.cmp .Lt (.var 2) (.cst (.int (2)))) [(.asg (.name 5) (.callF 49 [(.var 0), (.callF 46 [(.var 0), (.var 1)])])), (.ifs (.cmp .Eq (.var 2) (.cst (.int (1)))) [(.asg (.tup [(.name 6), (.name 7)]) (.tup [(.callF 38 [(.var 0), (.callB .len [(.var 5)])]), (.callF 38 [(.var 0), (.callB .len [(.var 5)])])])), (.asg (.sub (.idx (.var 5) (.var 6)) (.var 7)) (.bin .Add (.idx (.idx (.var 5) (.var 6)) (.var 7)) (.callF 39 [(.var 0), (.lst false [(.cst (.int (1))), (.neg (.cst (.int (1)))), (.cst (.int (2)))])])))] []), (.ret (.var 5))] []), (.asg (.name 3) (.bin .Add (.cst (.int (1))) (.callF 38 [(.var 0), (.var 1)]))), (.asg (.name 4) (.idx (.lst false [(.lst false [(.cst (.int (0))), (.cst (.int (0))), (.cst (.int (1))), (.neg (.cst (.int (1))))]), (.lst false [(.cst (.int (0))), (.cst (.int (0))), (.cst (.int (0))), (.cst (.int (1))), (.cst (.int (2))), (.neg (.cst (.int (1))))]), (.lst false [(.cst (.int (0))), (.cst (.int (1)))])]) (.callF 38 [(.var 0), (.cst (.int (3)))]))), (.ret (.comp false [6] [6] true (.range1 (.var 3)) [] (.comp false [7] [7] true (.range1 (.var 3)) [] (.callF 39 [(.var 0), (.var 4)]))))], false⟩
theorem cf50 : o50.fn = f50 := by kernel_rfl
def f51 : Fn := ⟨3, 4, [(.ret (.callB .tuple [(.comp false [3] [3] true (.range1 (.var 1)) [] (.bin .Sub (.callF 38 [(.var 0), (.bin .Add (.bin .Mult (.cst (.int (2))) (.var 2)) (.cst (.int (1))))]) (.var 2)))]))], false⟩
theorem cf51 : o51.fn = f51 := by kernel_rfl
def f52 : Fn := ⟨2, 5, [(.asg (.name 2) (.lst false [(.cst .non), (.lst false []), (.cst (.str ⟨⟨[]⟩⟩)), (.neg (.cst (.int (1)))), (.cst (.int (7))), (.dct [] []), (.tup [(.var 1)]), (.tup [(.cst (.int (1))), (.cst (.int (2)))]), (.cst (.bl true)), (.cst (.bl false)), (.cst (.int (0))), (.tup []), (.tup [(.cst (.int (0)))]), (.tup [(.tup [(.cst (.int (1)))])]), (.bin .Add (.bin .Pow (.cst (.int (10))) (.cst (.int (9)))) (.cst (.int (1))))])), (.ifs (.or (.not (.isI .tuple (.var 1))) (.cmp .Eq (.var 1) (.tup []))) [(.ret (.callF 39 [(.var 0), (.var 2)]))] []), (.asg (.tup [(.name 3), (.name 4)]) (.tup [(.callF 38 [(.var 0), (.callB .len [(.var 1)])]), (.callF 38 [(.var 0), (.cst (.int (9)))])])), (.ifs (.cmp .Eq (.var 4) (.cst (.int (0)))) [(.ret (.bin .Add (.slice (.var 1) none (some (.var 3))) (.slice (.var 1) (some (.bin .Add (.var 3) (.cst (.int (1))))) none)))] []), (.ifs (.cmp .Eq (.var 4) (.cst (.int (1)))) [(.ret (.bin .Add (.var 1) (.slice (.var 1) (some (.var 3)) (some (.bin .Add (.var 3) (.cst (.int (1))))))))] []), (.ifs (.cmp .Eq (.var 4) (.cst (.int (2)))) [(.ret (.bin .Add (.slice (.var 1) none (some (.var 3))) (.rev (.slice (.var 1) (some (.var 3)) none))))] []), (.ifs (.cmp .Eq (.var 4) (.cst (.int (3)))) [(.ret (.callF 39 [(.var 0), (.lst false [(.callB .list [(.var 1)]), (.tup [(.var 1)]), (.cst .non), (.idx (.var 1) (.var 3))])]))] []), (.ifs (.and (.cmp .Lt (.var 4) (.cst (.int (7)))) (.isI .int (.idx (.var 1) (.var 3)))) [(.ret (.bin .Add (.bin .Add (.slice (.var 1) none (some (.var 3))) (.tup [(.bin .Add (.idx (.var 1) (.var 3)) (.callF 39 [(.var 0), (.lst false [(.cst (.int (1))), (.neg (.cst (.int (1)))), (.cst (.int (2))), (.neg (.cst (.int (5))))])]))])) (.slice (.var 1) (some (.bin .Add (.var 3) (.cst (.int (1))))) none)))] []), (.ret (.bin .Add (.bin .Add (.slice (.var 1) none (some (.var 3))) (.tup [(.callF 52 [(.var 0), (.idx (.var 1) (.var 3))])])) (.slice (.var 1) (some (.bin .Add (.var 3) (.cst (.int (1))))) none)))], false⟩
theorem cf52 : o52.fn = f52 := by kernel_rfl
def f53 : Fn := ⟨2, 3, [(.asg (.name 2) (.lst false [(.callF 36 [(.var 0), (.var 1)]), (.callK 36 [1, 0] [(.var 1), (.var 0)])])), (.ret (.ite (.cmp .In (.callB .repr [(.var 2)]) (.lst false [(.cst (.str ⟨⟨[91, 84, 114, 117, 101, 44, 32, 84, 114, 117, 101, 93]⟩⟩)), (.cst (.str ⟨⟨[91, 70, 97, 108, 115, 101, 44, 32, 70, 97, 108, 115, 101, 93]⟩⟩))])) (.idx (.var 2) (.cst (.int (0)))) (.cst .non)))], false⟩
theorem cf53 : o53.fn = f53 := by kernel_rfl
def f54 : Fn := ⟨1, 1, [(.ret (.and (.isI .int (.var 0)) (.not (.isI .bool (.var 0)))))], false⟩
theorem cf54 : o54.fn = f54 := by kernel_rfl
def f55 : Fn := ⟨1, 2, [(.ifs (.not (.isI .tuple (.var 0))) [(.ret (.cst (.bl false)))] []), (.ret (.cmp .Eq (.comp false [1] [1] true (.of (.var 0)) [(.or (.not (.callF 54 [(.var 1)])) (.cmp .Gt (.callB .abs [(.var 1)]) (.bin .Pow (.cst (.int (10))) (.cst (.int (9))))))] (.var 1)) (.lst false [])))], false⟩
theorem cf55 : o55.fn = f55 := by kernel_rfl
def f56 : Fn := ⟨1, 7, [(.for (.name 1) (.range1 (.cst (.int (10)))) [(.asg (.name 2) (.callF 50 [(.var 0), (.cst (.int (6)))])), (.for (.name 3) (.range1 (.cst (.int (4)))) [(.asg (.name 4) (.callF 43 [(.callB .len [(.var 2)]), (.callF 38 [(.var 0), (.callB .len [(.var 2)])])])), (.asg (.name 5) (.callF 39 [(.var 0), (.lst false [(.var 4), (.var 4), (.callF 51 [(.var 0), (.callB .len [(.var 2)]), (.cst (.int (2)))]), (.bin .Mult (.tup [(.cst (.int (0)))]) (.callB .len [(.var 2)])), (.cst .non)])])), (.ifs (.cmp .Eq (.callF 38 [(.var 0), (.cst (.int (4)))]) (.cst (.int (0)))) [(.asg (.name 5) (.callF 52 [(.var 0), (.var 5)]))] []), (.asg (.name 6) (.and (.callF 55 [(.var 5)]) (.and (.cmp .Eq (.callB .len [(.var 5)]) (.callB .len [(.var 2)])) (.cmp .Eq (.callF 42 [(.var 2), (.var 5)]) (.cst (.int (0))))))), (.ifs (.cmp .NotEq (.callF 53 [(.tup [(.cst (.str ⟨⟨[110, 111, 116, 32, 98, 97, 99, 107]⟩⟩)), (.callF 40 [(.var 2)])]), (.var 5)]) (.var 6)) [(.ret (.cst (.bl false)))] [])])]), (.ret (.cst (.bl true)))], false⟩
theorem cf56 : o56.fn = f56 := by kernel_rfl
def f57 : Fn := ⟨1, 2, [(.for (.name 1) (.range1 (.callB .max [(.cst (.int (1))), (.callB .min [(.callB .len [(.var 0)]), (.cst (.int (5)))])])) [(.ifs (.not (.callF 56 [(.callF 37 [(.var 0), (.var 1)])])) [(.ret (.cst (.bl false)))] [])]), (.ret (.cst (.bl true)))], false⟩
theorem cf57 : o57.fn = f57 := by kernel_rfl
def pg : Prog := ⟨[f0, f1, f2, f3, f4, f5, f6, f7, f8, f9, f10, f11, f12, f13, f14, f15, f16, f17, f18, f19, f20, f21, f22, f23, f24, f25, f26, f27, f28, f29, f30, f31, f32, f33, f34, f35, f36, f37, f38, f39, f40, f41, f42, f43, f44, f45, f46, f47, f48, f49, f50, f51, f52, f53, f54, f55, f56, f57], []⟩
theorem pg_eq : progOf os = pg := by
  show (⟨[o0.fn, o1.fn, o2.fn, o3.fn, o4.fn, o5.fn, o6.fn, o7.fn, o8.fn, o9.fn, o10.fn, o11.fn, o12.fn, o13.fn, o14.fn, o15.fn, o16.fn, o17.fn, o18.fn, o19.fn, o20.fn, o21.fn, o22.fn, o23.fn, o24.fn, o25.fn, o26.fn, o27.fn, o28.fn, o29.fn, o30.fn, o31.fn, o32.fn, o33.fn, o34.fn, o35.fn, o36.fn, o37.fn, o38.fn, o39.fn, o40.fn, o41.fn, o42.fn, o43.fn, o44.fn, o45.fn, o46.fn, o47.fn, o48.fn, o49.fn, o50.fn, o51.fn, o52.fn, o53.fn, o54.fn, o55.fn, o56.fn, o57.fn], []⟩ : Prog) = pg
  rw [cf0, cf1, cf2, cf3, cf4, cf5, cf6, cf7, cf8, cf9, cf10, cf11, cf12, cf13, cf14, cf15, cf16, cf17, cf18, cf19, cf20, cf21, cf22, cf23, cf24, cf25, cf26, cf27, cf28, cf29, cf30, cf31, cf32, cf33, cf34, cf35, cf36, cf37, cf38, cf39, cf40, cf41, cf42, cf43, cf44, cf45, cf46, cf47, cf48, cf49, cf50, cf51, cf52, cf53, cf54, cf55, cf56, cf57]
  rfl
end Lk56
end

section
set_option linter.all false
set_option maxRecDepth 100000
set_option autoImplicit false
namespace Lk56
open PySem L2 Co TL
theorem natural_ok (d : Nat) {h : Hh} {t : Str} (l : t.length ≤ lim) : runF pg (d + 1) 2 [.str t] h = .ok (.bl (natW (tl t))) h := by
  refine gives_ends ?_
  refine run_s (fn := f2) (s := [some (.str t), none]) rfl rfl rfl ?_
  unfold f2
  dsimp only
  refine w_seq (w_ret ?_)
  have ll : (tl t).length ≤ 16777216 := by rw [tl_len]; exact l
  refine w_andP (!(tl t).isEmpty) ((tl t).all isDig && (decide (tl t = [48]) || decide ((tl t).headD 0 ≠ 48))) ?_ (fun z => ?_) ?_
  · walk_at "co sz"
    refine w_cop ne_str ⟨?_, rfl⟩
    congr 1
    simp only [tl_ext]
    cases tl t <;> rfl
  · refine w_andP ((tl t).all isDig) (decide (tl t = [48]) || decide ((tl t).headD 0 ≠ 48)) ?_ (fun z2 => ?_) ⟨rfl, rfl⟩
    · refine w_allP (tl t) (fun c => .str ⟨#[c]⟩) isDig ?_ ll (fun c _ => ⟨_, rfl, ?_⟩) ⟨rfl, rfl⟩
      · walk_at "co sz"
        exact ⟨_, signs_of, rfl, rfl, rfl⟩
      · walk_at "co sz"
        exact w_cop one_sign ⟨by rw [dig_mem], rfl⟩
    · refine w_orP (decide (tl t = [48])) (decide ((tl t).headD 0 ≠ 48)) ?_ (fun z3 => ?_) ⟨rfl, rfl⟩
      · walk_at "co sz"
        exact w_cop eq_str ⟨by simp only [tl_ext], rfl⟩
      · cases e : tl t with
        | nil => rw [e] at z; cases z
        | cons c r =>
          walk_at "co sz"
          refine w_opt (idx_str0 l e) ?_
          walk_at "co sz"
          refine w_cop ne_str ⟨?_, rfl⟩
          congr 1
          simp [tl_ext]
  · walk_at "co sz"
    rw [List.take_length]
    exact ⟨rfl, rfl⟩
theorem intword_ok (d : Nat) {h : Hh} {t : Str} (l : t.length ≤ lim) : runF pg (d + 2) 3 [.str t] h = .ok (.bl (intW (tl t))) h := by
  refine gives_ends ?_
  refine run_s (fn := f3) (s := [some (.str t)]) rfl rfl rfl ?_
  unfold f3
  dsimp only
  refine w_seq (w_ret ?_)
  refine w_orP (natW (tl t)) (decide ((tl t).headD 0 = 45) && (natW (tl t).tail && decide (tl t ≠ [45, 48]))) ?_ (fun z => ?_) ?_
  · walk_at "co sz"
    exact ends_of (natural_ok d l) ⟨rfl, rfl⟩
  · refine w_andP (decide ((tl t).headD 0 = 45)) (natW (tl t).tail && decide (tl t ≠ [45, 48])) ?_ (fun z2 => ?_) ⟨rfl, rfl⟩
    · walk_at "co sz"
      refine ⟨1, rfl, ?_⟩
      walk_at "co sz"
      refine w_opt (slice_strT l) ?_
      walk_at "co sz"
      refine w_cop eq_str ⟨?_, rfl⟩
      rw [first_is t 45 (by decide)]
    · refine w_andP (natW (tl t).tail) (decide (tl t ≠ [45, 48])) ?_ (fun z3 => ?_) ⟨rfl, rfl⟩
      · walk_at "co sz"
        refine ⟨1, rfl, ?_⟩
        walk_at "co sz"
        refine w_opt (slice_strT l) ?_
        walk_at "co sz"
        refine ends_of (natural_ok d (Nat.le_trans (cutS_length ..) l)) ⟨?_, rfl⟩
        rw [cut_rest]
      · walk_at "co sz"
        refine w_cop ne_str ⟨?_, rfl⟩
        congr 1
        simp only [ne_eq, decide_not]
        congr 1
        rw [decide_eq_decide, tl_ext, tl_lit]
  · walk_at "co sz"
    rw [List.take_length]
    exact ⟨rfl, rfl⟩
theorem integer_in_ok (d : Nat) {h : Hh} {t : Str} (l : t.length ≤ lim) (w : intW (tl t) = true) : runF pg (d + 1) 4 [.str t] h = .ok (.int (numW (tl t))) h := by
  refine gives_ends ?_
  refine run_s (fn := f4) (s := [some (.str t)]) rfl rfl rfl ?_
  unfold f4
  dsimp only
  walk_at "co sz"
  refine w_opt (len_strT l) ?_
  walk_at "co sz"
  have ne : ∃ c r, tl t = c :: r := by
    cases e : tl t with
    | nil => rw [e] at w; simp [intW, natW] at w
    | cons c r => exact ⟨c, r, rfl⟩
  obtain ⟨c, r, e⟩ := ne
  refine w_if (fun z => ?_) (fun z => ?_)
  · walk_at "co sz"
    have lt : t.length < 30 := by have := of_decide_eq_true z; omega
    have hi : Co.bi .int (asL [.str t] h) = some (.int (numW (tl t))) := by
      show (if t.length ≤ 640 then (PySem.intText? t).map Val.int else none) = _
      rw [if_pos (by omega), intText_W w (by omega), numW, tl_len, if_pos lt]
      rfl
    refine w_opt hi ?_
    walk_at "co sz"
    rw [List.take_length]
    exact ⟨rfl, rfl⟩
  · have lt : ¬ t.length < 30 := by have := of_decide_eq_false z; omega
    walk_at "co sz"
    refine w_opt (idx_str0 l e) ?_
    walk_at "co sz"
    refine w_cop eq_str ?_
    have nw : numW (tl t) = if (tl t).headD 0 = 45 then -(10 ^ 30) else 10 ^ 30 := by rw [numW, tl_len, if_neg lt]
    rw [e] at nw
    refine w_if (fun z => ?_) (fun z => ?_)
    · walk_at "co sz"
      refine w_opt rfl ?_
      refine ⟨_, rfl, ?_⟩
      walk_at "co sz"
      rw [List.take_length]
      refine ⟨?_, rfl⟩
      have : c = 45 := by simpa [tl_ext] using z
      rw [e, nw, if_pos (by simpa using this)]
      rfl
    · walk_at "co sz"
      refine w_opt rfl ?_
      walk_at "co sz"
      rw [List.take_length]
      refine ⟨?_, rfl⟩
      have : c ≠ 45 := by simpa [tl_ext] using z
      rw [e, nw, if_neg (by simpa using this)]
      rfl
theorem is_int_ok (d : Nat) {h : Hh} {v : Val} (f : fz v = true) : runF pg (d + 1) 0 [v] h = .ok (.bl (isZ v)) h := by
  refine gives_ends ?_
  refine run_s (fn := f0) (s := [some v]) rfl rfl rfl ?_
  unfold f0
  dsimp only
  refine w_seq (w_ret ?_)
  refine w_andP (isIns h .int v) (!isIns h .bool v) ?_ (fun z => ?_) ?_
  · walk_at "co sz"
    exact ⟨kind_fz f, rfl, rfl⟩
  · walk_at "co sz"
    exact ⟨kind_fz f, _, rfl, rfl, rfl⟩
  · walk_at "co sz"
    rw [List.take_length, isI_int f]
    exact ⟨rfl, rfl⟩
theorem between_ok (d : Nat) {h : Hh} {v : Val} {lo hi : Int} (f : fz v = true) : runF pg (d + 2) 1 [v, .int lo, .int hi] h = .ok (.bl (btw v lo hi)) h := by
  refine gives_ends ?_
  refine run_s (fn := f1) (s := [some v, some (.int lo), some (.int hi)]) rfl rfl rfl ?_
  unfold f1
  dsimp only
  refine w_seq (w_ret ?_)
  refine w_andP (isZ v) (btw v lo hi) ?_ (fun z => ?_) ?_
  · walk_at "co sz"
    exact ends_of (is_int_ok d f) ⟨rfl, rfl⟩
  · obtain ⟨i, rfl⟩ := isZ_int z
    exact w_chainI _ _ (w_var rfl ⟨rfl, rfl⟩) (w_var rfl ⟨rfl, rfl⟩) (w_var rfl ⟨rfl, rfl⟩) rop_le rop_le ⟨rfl, rfl⟩
  · walk_at "co sz"
    rw [List.take_length]
    refine ⟨?_, rfl⟩
    cases v <;> first | rfl | (simp [fz] at f)
theorem numbers_ok (d : Nat) {h : Hh} {v : Val} (f : fz v = true) (l : ∀ vs, v = .tup vs → vs.length ≤ 16777216) : runF pg (d + 3) 12 [v] h = .ok (.bl (numsV v)) h := by
  refine gives_ends ?_
  refine run_s (fn := f12) (s := [some v, none]) rfl rfl rfl ?_
  unfold f12
  dsimp only
  refine w_seq (w_ret ?_)
  refine w_andP (isIns h .tuple v) (numsV v) ?_ (fun z => ?_) ?_
  · walk_at "co sz"
    exact ⟨kind_fz f, rfl, rfl⟩
  · obtain ⟨vs, rfl⟩ := isI_tup f z
    refine w_allP vs id (fun v => btw v (-1000000000) 1000000000) ?_ (l vs rfl) (fun u hu => ⟨_, rfl, ?_⟩) ⟨rfl, rfl⟩
    · walk_at "co sz"
      exact ⟨_, rfl, by simp, rfl, rfl⟩
    · walk_at "co sz"
      exact ends_of (between_ok d (fzL_all.mp f u hu)) ⟨rfl, rfl⟩
  · walk_at "co sz"
    rw [List.take_length]
    refine ⟨?_, rfl⟩
    cases v <;> first | rfl | (simp [fz] at f)
end Lk56
end

section
set_option linter.all false
set_option maxRecDepth 100000
set_option autoImplicit false
namespace Lk56
open PySem L2 Co TL
def readV (t : Str) : Val := match readT t with
  | some m => tupV m
  | none => .non
theorem split_w (x y : Str) (l : 1 ≤ y.length) : (Txt.split x y).length ≤ x.length + 1 := by
  have := PyProof.Rows.split_weight x y l
  omega
theorem read_ok (d : Nat) {h : Hh} {t : Str} (l : t.length ≤ 16000000) : runF pg (d + 4) 11 [.str t] h = .ok (readV t) h := by
  have hlim : lim = 16777216 := rfl
  refine gives_ends ?_
  refine run_s (fn := f11) (s := [some (.str t), none, none, none, none, none]) rfl rfl rfl ?_
  unfold f11
  dsimp only
  have l1 := split_w t slash (by decide)
  have p1 : ∀ x ∈ Txt.split t slash, x.length ≤ t.length := fun x hx => PyProof.Rows.part_short hx
  have l2 : ∀ ws ∈ wordsT t, ws.length ≤ 16777216 ∧ ∀ w ∈ ws, w.length ≤ lim := fun ws hws => by
    obtain ⟨x, hx, rfl⟩ := List.mem_map.mp hws
    have := p1 x hx
    have := split_w x blankS (by decide)
    exact ⟨by omega, fun w hw => by have := PyProof.Rows.part_short hw; omega⟩
  have wl : (wordsT t).length ≤ 16777216 := by unfold wordsT; rw [List.length_map]; omega
  refine w_seq (w_ifs ?_)
  walk_at "co sp"
  refine ⟨rfl, _, rfl, ?_⟩
  refine w_if (fun z => absurd z (by simp [isIns])) (fun _ => ?_)
  walk_at "co sp"
  refine w_compP1 (Txt.split t slash) .str (fun x => .lst ((Txt.split x blankS).map .str)) ?_ (by omega) (fun x hx => ⟨_, rfl, ?_⟩) ?_
  · walk_at "co sp"
    refine ⟨rfl, ?_⟩
    walk_at "co sp"
    exact Ends.eq (split_go rfl (by omega)) ⟨_, rfl, rfl, rfl, rfl⟩
  · have := p1 x hx
    walk_at "co sp"
    refine ⟨rfl, ?_⟩
    walk_at "co sp"
    exact Ends.eq (split_go rfl (by omega)) ⟨rfl, rfl⟩
  have e1 : ((Txt.split t slash).map fun x => Val.lst ((Txt.split x blankS).map .str)) = (wordsT t).map fun ws => Val.lst (ws.map .str) := by
    unfold wordsT; rw [List.map_map]; rfl
  rw [e1]
  unfold readV readT
  generalize wordsT t = W at wl l2
  walk_at "co sp"
  refine w_orP (decide (6 < W.length)) (W.any fun ws => !decide (ws.length = W.length)) ?_ (fun z => ?_) ?_
  · walk_at "co sp"
    refine ⟨?_, rfl⟩
    congr 1
    rw [decide_eq_decide, List.length_map]
    omega
  · refine w_anyP W (fun ws => .lst (ws.map .str)) _ ?_ wl (fun ws hws => ⟨_, rfl, ?_⟩) ⟨rfl, rfl⟩
    · walk_at "co sp"
      exact ⟨_, rfl, rfl, rfl, rfl⟩
    · walk_at "co sp"
      refine ⟨?_, rfl⟩
      congr 2
      rw [decide_eq_decide, List.length_map, List.length_map]
      omega
  refine w_if (fun z => ?_) (fun z => ?_)
  · walk_at "co sp"
    rw [List.take_length, if_neg]
    · exact ⟨rfl, rfl⟩
    · rintro ⟨c1, c2, c3⟩
      simp only [Bool.or_eq_true, decide_eq_true_eq, List.any_eq_true, Bool.not_eq_true', decide_eq_false_iff_not] at z
      rcases z with z | ⟨ws, m, z⟩
      · omega
      · exact z (c2 ws m)
  simp only [Bool.or_eq_false_iff, decide_eq_false_iff_not, List.any_eq_false, Bool.not_eq_true', decide_eq_false_iff_not, Decidable.not_not] at z
  obtain ⟨z1, z2⟩ := z
  walk_at "co sp"
  refine w_allP W (fun ws => .lst (ws.map .str)) (fun ws => ws.all fun w => intW (tl w)) ?_ wl (fun ws hws => ⟨_, rfl, ?_⟩) ?_
  · walk_at "co sp"
    exact ⟨_, rfl, rfl, rfl, rfl⟩
  · refine w_allP ws .str (fun w => intW (tl w)) ?_ (l2 ws hws).1 (fun w hw => ⟨_, rfl, ?_⟩) ⟨rfl, rfl⟩
    · walk_at "co sp"
      exact ⟨_, rfl, rfl, rfl, rfl⟩
    · walk_at "co sp"
      exact ends_of (intword_ok (d + 1) ((l2 ws hws).2 w hw)) ⟨rfl, rfl⟩
  refine ⟨_, rfl, ?_⟩
  refine w_if (fun z => ?_) (fun z => ?_)
  · walk_at "co sp"
    rw [List.take_length, if_neg]
    · exact ⟨rfl, rfl⟩
    · rintro ⟨c1, c2, c3⟩
      rw [Bool.not_eq_true'] at z
      have : (W.all fun ws => ws.all fun w => intW (tl w)) = true := List.all_eq_true.mpr fun ws m => List.all_eq_true.mpr fun w mw => by
        have := c3 ws m w mw
        simp only [fitW, Bool.and_eq_true] at this
        exact this.1
      rw [this] at z
      cases z
  rw [Bool.not_eq_false'] at z
  have iw : ∀ ws ∈ W, ∀ w ∈ ws, intW (tl w) = true := fun ws m w mw => List.all_eq_true.mp (List.all_eq_true.mp z ws m) w mw
  walk_at "co sp"
  refine w_tupP W (fun ws => .lst (ws.map .str)) (fun ws => tupI (ws.map fun w => numW (tl w))) ?_ wl (fun ws hws => ⟨_, rfl, ?_⟩) ?_
  · walk_at "co sp"
    exact ⟨_, rfl, rfl, rfl, rfl⟩
  · refine w_tupP ws .str (fun w => .int (numW (tl w))) ?_ (l2 ws hws).1 (fun w hw => ⟨_, rfl, ?_⟩) ⟨?_, rfl⟩
    · walk_at "co sp"
      exact ⟨_, rfl, rfl, rfl, rfl⟩
    · walk_at "co sp"
      exact ends_of (integer_in_ok (d + 2) ((l2 ws hws).2 w hw) (iw ws hws w hw)) ⟨rfl, rfl⟩
    · unfold tupI
      rw [List.map_map]
      rfl
  walk_at "co sp"
  refine w_allP W (fun ws => tupI (ws.map fun w => numW (tl w))) (fun ws => numsV (tupI (ws.map fun w => numW (tl w)))) ?_ wl (fun ws hws => ⟨_, rfl, ?_⟩) ?_
  · walk_at "co sp"
    exact ⟨_, rfl, rfl, rfl, rfl⟩
  · walk_at "co sp"
    refine ends_of (numbers_ok d (fz_tupI _) fun vs e => ?_) ⟨rfl, rfl⟩
    have := (l2 ws hws).1
    cases e
    rw [List.length_map, List.length_map]
    exact this
  have fit : (W.all fun ws => numsV (tupI (ws.map fun w => numW (tl w)))) = true ↔ ∀ ws ∈ W, ∀ w ∈ ws, fitW (tl w) = true := by
    rw [List.all_eq_true]
    constructor
    · intro k ws m w mw
      have := k ws m
      simp only [numsV, tupI, List.all_map, List.all_eq_true, Function.comp_apply, btw] at this
      simp only [fitW, Bool.and_eq_true, iw ws m w mw, true_and]
      have := this w mw
      simpa using this
    · intro k ws m
      simp only [numsV, tupI, List.all_map, List.all_eq_true, Function.comp_apply, btw]
      intro w mw
      have := k ws m w mw
      simp only [fitW, Bool.and_eq_true] at this
      simpa using this.2
  refine w_if (fun z => ?_) (fun z => ?_)
  · walk_at "co sp"
    refine w_backF (fz_tupV (W.map fun ws => ws.map fun w => numW (tl w)) |> fun q => by
      have e : Val.tup (W.map fun ws => tupI (ws.map fun w => numW (tl w))) = tupV (W.map fun ws => ws.map fun w => numW (tl w)) := by unfold tupV; rw [List.map_map]; rfl
      rw [e]; exact q) ?_
    rw [List.take_length, if_pos ⟨by omega, z2, fit.mp z⟩]
    refine ⟨?_, rfl⟩
    show _ = tupV (W.map fun l => l.map fun w => numW (tl w))
    unfold tupV
    rw [List.map_map]
    rfl
  · walk_at "co sp"
    rw [List.take_length, if_neg]
    · exact ⟨rfl, rfl⟩
    · rintro ⟨c1, c2, c3⟩
      rw [fit.mpr c3] at z
      cases z
end Lk56
end

section
set_option linter.all false
set_option maxRecDepth 100000
set_option autoImplicit false
namespace Lk56
open PySem L2 Co TL
theorem led_ok (d : Nat) {h : Hh} {m : List (List Int)} {v : List Int} (q : Sqr m) (b : Bdd 1000000000 m) (lv : v.length = m.length) (l : m.length ≤ 16000000) : runF pg (d + 1) 14 [tupV m, tupI v] h = .ok (tupI (ledM m v)) h := by
  refine gives_ends ?_
  refine run_s (fn := f14) (s := [some (tupV m), some (tupI v), none, none]) rfl rfl rfl ?_
  unfold f14
  dsimp only
  refine w_seq (w_ret ?_)
  refine w_tupP m tupI (fun r => .int (dot r v)) ?_ (by omega) (fun r hr => ⟨_, rfl, ?_⟩) ?_
  · walk_at "co sp"
    exact ⟨_, rfl, rfl, rfl, rfl⟩
  · have lr := q r hr
    refine w_sumP (List.range m.length) (fun i => .int (i : Nat)) (fun i => r.getD i 0 * v.getD i 0) ?_ (by rw [List.length_range]; omega) (fun i hi => ⟨_, rfl, ?_⟩) ⟨?_, rfl⟩
    · walk_at "co sp"
      refine ⟨_, rfl, by omega, ?_, rfl, rfl⟩
      dsimp only
      rw [Int.toNat_natCast, rangeL_map]
    · have il := List.mem_range.mp hi
      walk_at "co sp"
      refine w_opt (idx_tupI i (by omega) rfl) ?_
      walk_at "co sp"
      refine w_opt (idx_tupI i (by omega) rfl) ?_
      refine w_opt (rop_mi (mulOk_l ?_)) ⟨rfl, rfl⟩
      have il2 : i < r.length := by omega
      have := b r hr (r.getD i 0) (by rw [List.getD_eq_getElem?_getD, List.getElem?_eq_getElem il2]; exact List.getElem_mem il2)
      omega
    · rw [dot_range r v _ lr lv]
  · walk_at "co sp"
    have e : Val.tup (m.map fun r => Val.int (dot r v)) = tupI (ledM m v) := by unfold tupI ledM; rw [List.map_map]; rfl
    rw [e]
    refine w_backF (fz_tupI _) ?_
    rw [List.take_length]
    exact ⟨rfl, rfl⟩
theorem led_on_ok (d : Nat) {h : Hh} {m : List (List Int)} {v : List Int} {k : Nat} (q : Sqr m) (b : Bdd 1000000000 m) (lv : v.length = m.length) (l : m.length ≤ 16000000) (hk : k ≤ 16000000) : runF pg (d + 2) 15 [tupV m, tupI v, .int (k : Nat)] h = .ok (tupI (itM m k v)) h := by
  refine gives_ends ?_
  refine run_s (fn := f15) (s := [some (tupV m), some (tupI v), some (.int (k : Nat)), none]) rfl rfl rfl ?_
  unfold f15
  dsimp only
  walk_at "co sp"
  refine w_for ?_
  walk_at "co sp"
  refine ⟨_, rfl, by omega, fun rs s h2 => ∃ (w : List Int) (a : Option Val), s = [some (tupV m), some (tupI w), some (.int (k : Nat)), a] ∧ h2 = h ∧ w.length = m.length ∧ itM m rs.length w = itM m k v, fun _ _ _ _ => rfl, ?_, ?_, ⟨v, none, rfl, rfl, lv, ?_⟩⟩
  · rintro s h2 ⟨w, a, rfl, rfl, lw, e⟩
    walk_at "co sp"
    refine w_backF (fz_tupI _) ?_
    rw [List.take_length, ← e]
    exact ⟨rfl, rfl⟩
  · rintro x rs s h2 ⟨w, a, rfl, rfl, lw, e⟩
    walk_at "co sp"
    refine ends_of (led_ok d q b lw l) ?_
    walk_at "co sp"
    exact l_next ⟨ledM m w, _, rfl, rfl, ledM_len, e⟩
  · dsimp only
    rw [Int.toNat_natCast, rangeL_map, List.length_map, List.length_range]
theorem return_ok (d : Nat) {h : Hh} {m : List (List Int)} {v : List Int} (q : Sqr m) (b : Bdd 1000000000 m) (lv : v.length = m.length) (l : m.length ≤ 16000000) : runF pg (d + 2) 16 [tupV m, tupI v] h = .ok (retV (perM 30 m v)) h := by
  refine gives_ends ?_
  refine run_s (fn := f16) (s := [some (tupV m), some (tupI v), none, none]) rfl rfl rfl ?_
  unfold f16
  dsimp only
  walk_at "co sp"
  refine w_for ?_
  walk_at "co sp"
  refine ⟨_, _, rfl, rfl, by omega, fun rs s h2 => ∃ (w : List Int) (t n : Nat) (a : Option Val), s = [some (tupV m), some (tupI v), some (tupI w), a] ∧ h2 = h ∧ w.length = m.length ∧ rs = rangeL ((t : Int) + 1) n ∧ retM m v n t w = perM 30 m v, fun _ _ _ _ => rfl, ?_, ?_, ⟨v, 0, 30, none, rfl, rfl, lv, rfl, rfl⟩⟩
  · rintro s h2 ⟨w, t, n, a, rfl, rfl, lw, e0, e⟩
    have : n = 0 := by cases n with | zero => rfl | succ n => cases e0
    subst this
    walk_at "co sp"
    rw [List.take_length, ← e]
    exact ⟨rfl, rfl⟩
  · rintro x rs s h2 ⟨w, t, n, a, rfl, rfl, lw, e0, e⟩
    obtain ⟨n, rfl⟩ : ∃ j, n = j + 1 := by cases n with | zero => cases e0 | succ n => exact ⟨n, rfl⟩
    simp only [rangeL, List.cons.injEq] at e0
    obtain ⟨rfl, rfl⟩ := e0
    walk_at "co sp"
    refine ends_of (led_ok d q b lw l) ?_
    walk_at "co sp"
    simp only [retM] at e
    refine w_if (fun z => ?_) (fun z => ?_)
    · walk_at "co sp"
      rw [if_pos (of_decide_eq_true z)] at e
      refine ⟨(fun y => nomatch y), (fun y => nomatch y), (fun y => nomatch y), fun y hy => ?_⟩
      cases hy
      walk_at "co sp"
      rw [List.take_length, ← e]
      exact ⟨rfl, rfl⟩
    · walk_at "co sp"
      rw [if_neg (of_decide_eq_false z)] at e
      exact l_next ⟨ledM m w, t + 1, n, _, rfl, rfl, ledM_len, rfl, e⟩
theorem standing_ok (d : Nat) {h : Hh} {m : List (List Int)} {v : Val} (f : fz v = true) (l : ∀ vs, v = .tup vs → vs.length ≤ 16777216) : runF pg (d + 4) 13 [v, tupV m] h = .ok (.bl (stOf v m.length).isSome) h := by
  rw [← stOf_ok]
  refine gives_ends ?_
  refine run_s (fn := f13) (s := [some v, some (tupV m)]) rfl rfl rfl ?_
  unfold f13
  dsimp only
  refine w_seq (w_ret ?_)
  refine w_andP (numsV v) (tupLen v m.length) ?_ (fun z => ?_) ?_
  · walk_at "co sp"
    exact ends_of (numbers_ok d f l) ⟨rfl, rfl⟩
  · obtain ⟨vs, rfl⟩ : ∃ vs, v = .tup vs := by cases v <;> first | exact ⟨_, rfl⟩ | cases z
    walk_at "co sp"
    refine ⟨?_, rfl⟩
    congr 1
    show _ = decide (vs.length = m.length)
    rw [decide_eq_decide]
    omega
  · walk_at "co sp"
    rw [List.take_length]
    exact ⟨rfl, rfl⟩
end Lk56
end

section
set_option linter.all false
set_option maxRecDepth 100000
set_option autoImplicit false
namespace Lk56
open PySem L2 Co TL
theorem asked_ok (d : Nat) {h : Hh} {c p : Val} {b : Bool} (e : runF pg d 36 [c, p] h = .ok (.bl b) h) : runF pg (d + 1) 53 [c, p] h = .ok (.bl b) h := by
  refine gives_ends ?_
  refine run_s (fn := f53) (s := [some c, some p, none]) rfl rfl rfl ?_
  unfold f53
  dsimp only
  refine w_seq (w_asg (w_lst (w_cons rfl (w_callF (w_cons rfl (w_var rfl (w_cons rfl (w_var rfl (w_nil (ends_of e ?_))))))))))
  refine w_cons rfl (w_callK (w_cons rfl (w_var rfl (w_cons rfl (w_var rfl (w_nil (ends_of (show runF pg d 36 (permL [1, 0] [p, c]) h = _ from e) ?_)))))))
  walk_at "co sp"
  cases b
  · refine w_opt (x := .str ⟨⟨[91, 70, 97, 108, 115, 101, 44, 32, 70, 97, 108, 115, 101, 93]⟩⟩) (by kernel_rfl) ?_
    walk_at "co sp"
    refine w_cop (k := true) (by kernel_rfl) ?_
    refine w_if (fun _ => ?_) (fun z => nomatch z)
    walk_at "co sp"
    rw [List.take_length]
    exact ⟨rfl, rfl⟩
  · refine w_opt (x := .str ⟨⟨[91, 84, 114, 117, 101, 44, 32, 84, 114, 117, 101, 93]⟩⟩) (by kernel_rfl) ?_
    walk_at "co sp"
    refine w_cop (k := true) (by kernel_rfl) ?_
    refine w_if (fun _ => ?_) (fun z => nomatch z)
    walk_at "co sp"
    rw [List.take_length]
    exact ⟨rfl, rfl⟩
end Lk56
end

section
set_option linter.all false
set_option maxRecDepth 100000
set_option autoImplicit false
namespace Lk56
open PySem L2 Co TL
def wNotBack : Str := ⟨⟨[110, 111, 116, 32, 98, 97, 99, 107]⟩⟩
def nbRows (m : List (List Int)) (cv : Val) : Bool := match stOf cv m.length with | some u => (perM 30 m u).isNone | none => false
def nbClaim (t : Str) (cv : Val) : Bool := match readT t with | some m => nbRows m cv | none => false
theorem about_notback_ok (d : Nat) {h : Hh} {m : List (List Int)} {tv cv : Val} (q : Sqr m) (b : Bdd 1000000000 m) (l : m.length ≤ 6) (fc : fz cv = true) (ls : ∀ vs, cv = .tup vs → vs.length ≤ 16777216) :
    runF pg (d + 5) 33 [tupV m, .tup [.str wNotBack, tv], cv] h = .ok (.bl (nbRows m cv)) h := by
  unfold nbRows
  refine gives_ends ?_
  refine run_s (fn := f33) (s := [some (tupV m), some (.tup [.str wNotBack, tv]), some cv, none, none, none]) rfl rfl rfl ?_
  unfold f33
  dsimp only
  walk_at "co sp"
  refine w_if (fun _ => ?_) (fun z => absurd z (by decide))
  walk_at "co sp"
  refine w_andP true (match stOf cv m.length with | some u => (perM 30 m u).isNone | none => false) ?_ (fun _ => ?_) ?_
  · walk_at "co sp"
    exact ⟨rfl, rfl⟩
  · cases e : stOf cv m.length with
    | none =>
      refine w_andP false false ?_ (fun z => nomatch z) ⟨rfl, rfl⟩
      walk_at "co sp"
      refine ends_of (standing_ok d fc ls) ⟨by rw [e]; rfl, rfl⟩
    | some u =>
      obtain ⟨rfl, lu, _⟩ := stOf_some e
      refine w_andP true (perM 30 m u).isNone ?_ (fun _ => ?_) ⟨rfl, rfl⟩
      · walk_at "co sp"
        refine ends_of (standing_ok d fc ls) ⟨by rw [e]; rfl, rfl⟩
      · walk_at "co sp"
        refine ends_of (return_ok (d + 2) q b lu (by omega)) ?_
        walk_at "co sp"
        exact ⟨by rw [isnon_ret], rfl⟩
  · walk_at "co sp"
    rw [List.take_length]
    exact ⟨rfl, rfl⟩
theorem accepts_notback (d : Nat) {h : Hh} {t : Str} {cv : Val} (l : t.length ≤ 16000000) (fc : fz cv = true) (ls : ∀ vs, cv = .tup vs → vs.length ≤ 16777216) :
    runF pg (d + 6) 36 [.tup [.str wNotBack, .str t], cv] h = .ok (.bl (nbClaim t cv)) h := by
  unfold nbClaim
  refine gives_ends ?_
  refine run_s (fn := f36) (s := [some (.tup [.str wNotBack, .str t]), some cv, none]) rfl rfl rfl ?_
  unfold f36
  dsimp only
  refine w_seq (w_ifs ?_)
  refine w_orP false false ?_ (fun _ => ?_) ?_
  · walk_at "co sp"
    exact ⟨rfl, _, rfl, rfl, rfl⟩
  · refine w_orP false false ?_ (fun _ => ?_) ⟨rfl, rfl⟩
    · walk_at "co sp"
      refine w_chainI (x := .int 2) (y := .int 2) (z := .int 4) true true (w_cst ⟨rfl, rfl⟩) (w_callB (w_cons rfl (w_var rfl (w_nil (w_opt rfl ⟨rfl, rfl⟩))))) (w_cst ⟨rfl, rfl⟩) rfl rfl ⟨_, rfl, rfl, rfl⟩
    · walk_at "co sp"
      exact ⟨rfl, _, rfl, rfl, rfl⟩
  refine w_if (fun z => nomatch z) (fun _ => ?_)
  walk_at "co sp"
  refine w_if (fun z => absurd z (by decide)) (fun _ => ?_)
  walk_at "co sp"
  refine ends_of (read_ok (d + 1) l) ?_
  walk_at "co sp"
  unfold readV
  cases er : readT t with
  | none =>
    refine w_if (fun _ => ?_) (fun z => nomatch z)
    walk_at "co sp"
    rw [List.take_length]
    exact ⟨rfl, rfl⟩
  | some m =>
    obtain ⟨q, b, lm⟩ := readT_good er
    refine w_if (fun z => nomatch z) (fun _ => ?_)
    walk_at "co sp"
    refine w_cop (k := true) (by kernel_rfl) ?_
    refine w_if (fun _ => ?_) (fun z => nomatch z)
    walk_at "co sp"
    refine ends_of (about_notback_ok d q b lm fc ls) ?_
    walk_at "co sp"
    rw [List.take_length]
    exact ⟨rfl, rfl⟩
end Lk56
end

section
set_option linter.all false
set_option maxRecDepth 100000
set_option autoImplicit false
namespace Lk56
open PySem L2 Co
theorem pull_ok (d : Nat) {h : Hh} {n : Nat} {top : Int} (V : Vat h n) (ht : 0 < top) (ht2 : top < 2 ^ 64) : Co.Ends (runF pg (d + 1) 38 [.ref n, .int top] h) fun v h2 => ∃ x, v = .int x ∧ 0 ≤ x ∧ x < top ∧ Drawn n h h2 := by
  have ht0 : top ≠ 0 := by omega
  have hlt := V.lt
  obtain ⟨a, b, c, hn⟩ := V
  have hd : divOk a top = true := divOk_s ht0 (by omega)
  refine run_s (fn := f38) (s := [some (.ref n), some (.int top), none, none]) rfl rfl rfl ?_
  unfold f38
  dsimp only
  have nx : ∀ (o o2 : Ob) , ((h.set n o).set n o2)[n]? = some o2 := fun o o2 => by rw [List.getElem?_set_self (by simpa using hlt)]
  have nx1 : ∀ (o : Ob) , (h.set n o)[n]? = some o := fun o => by rw [List.getElem?_set_self hlt]
  walk_at "co st"
  refine w_opt (idx_ref hn at0) ?_
  walk_at "co st"
  refine w_if (fun z => ?_) (fun z => ?_)
  · walk_at "co st"
    refine w_opt (idx_ref hn at0) ?_
    walk_at "co st"
    refine w_opt (bop_di ht0) ?_
    walk_at "co st"
    refine w_opt (idx_ref hn at0) ?_
    walk_at "co st"
    refine w_opt (bop_fi hd) ?_
    walk_at "co st"
    refine ⟨_, _, _, _, rfl, rfl, hn, ix0, store_i, ?_⟩
    walk_at "co st"
    refine ⟨_, rfl, Int.fmod_nonneg_of_pos _ ht, Int.fmod_lt_of_pos _ ht, _, _, _, List.take_of_length_le (by simp)⟩
  · walk_at "co st"
    refine w_opt (idx_ref hn at2) ?_
    walk_at "co st"
    refine ⟨_, _, _, _, rfl, rfl, hn, ix2, store_i, ?_⟩
    walk_at "co st"
    refine w_opt (idx_ref (nx1 _) at1) ?_
    walk_at "co st"
    refine w_opt (idx_ref (nx1 _) at2) ?_
    walk_at "co st"
    refine w_opt (bop_mi (mulOk_l ?_)) ?_
    · have := Int.fmod_lt_of_pos (b + 51109 * (c + 1)) (show (0 : Int) < 2147483237 by decide)
      have := Int.fmod_nonneg_of_pos (b + 51109 * (c + 1)) (show (0 : Int) < 2147483237 by decide)
      omega
    walk_at "co st"
    refine w_opt (idx_ref (nx1 _) at2) ?_
    walk_at "co st"
    refine ⟨_, _, _, _, rfl, rfl, (nx1 _), ix1, store_i, ?_⟩
    walk_at "co st"
    refine w_opt (idx_ref (nx _ _) at1) ?_
    walk_at "co st"
    walk_at "co st"
    refine w_opt (bop_di ht0) ?_
    walk_at "co st"
    refine ⟨_, rfl, Int.fmod_nonneg_of_pos _ ht, Int.fmod_lt_of_pos _ ht, ?_⟩
    rw [List.take_of_length_le (by simp), List.set_set]
    exact ⟨_, _, _, rfl⟩
/-- a draw, as a step -/
theorem draw {d : Nat} {h : Hh} {n : Nat} {top : Int} {Q : Val → Hh → Prop} (V : Vat h n) (ht : 0 < top) (ht2 : top < 2 ^ 64) (k : ∀ (x : Int) (h2 : Hh), 0 ≤ x → x < top → Drawn n h h2 → Q (.int x) h2) : Co.Ends (runF pg (d + 1) 38 [.ref n, .int top] h) Q :=
  (pull_ok d V ht ht2).mono fun v h2 ⟨x, e, a, b, D⟩ => by rw [e]; exact k x h2 a b D
theorem one_of {d : Nat} {h : Hh} {n : Nat} {some_ : List Val} {Q : Val → Hh → Prop} (V : Vat h n) (h0 : some_ ≠ []) (hl : some_.length < 2 ^ 62) (hb : ∀ v ∈ some_, below 0 v = true) (k : ∀ (v : Val) (h2 : Hh), v ∈ some_ → Drawn n h h2 → Q v h2) : Co.Ends (runF pg (d + 2) 39 [.ref n, .lst some_] h) Q := by
  have hp : 0 < some_.length := List.length_pos_iff.mpr h0
  refine run_s (fn := f39) (s := [some (.ref n), some (.lst some_)]) rfl rfl rfl ?_
  unfold f39
  dsimp only
  walk_at "co st"
  refine draw V (by omega) (by omega) fun x h2 a b D => ?_
  have hx : x.toNat < some_.length := by omega
  refine w_opt (idx_l.trans (atI_at x.toNat (List.getElem?_eq_getElem hx) (by omega))) ?_
  have hm : some_[x.toNat] ∈ some_ := List.getElem_mem hx
  walk_at "co st"
  refine w_back (frz_low (below_le (Nat.zero_le _) _ (hb _ hm))) ?_
  rw [List.take_of_length_le (by rw [D.len]; exact Nat.le_refl _)]
  exact k _ h2 hm D
end Lk56
end

section
set_option linter.all false
set_option maxRecDepth 100000
set_option autoImplicit false
namespace Lk56
open PySem L2 Co
def pf : List Nat := [43, 44, 45]
theorem pf_ok : purF pg pf = true := by kernel_rfl
theorem block_ok (d : Nat) (h : Hh) : ∀ p ∈ keys, runF pg (d + 3) 44 [.int p] h = .ok (rowsV (blk p)) h := by
  intro p hp
  simp only [keys, List.mem_cons, List.not_mem_nil, or_false] at hp
  rcases hp with rfl | rfl | rfl | rfl | rfl | rfl | rfl | rfl | rfl | rfl | rfl | rfl | rfl <;> exact pure_run pf_ok (by decide) (by kernel_rfl)
theorem beside_ok (d : Nat) (h : Hh) {a b : Mat} (l1 : a.length ≤ 100) (l2 : b.length ≤ 100) (wa : ∀ r ∈ a, r.length ≤ 100) (wb : ∀ r ∈ b, r.length ≤ 100) : runF pg (d + 1) 45 [rowsV a, rowsV b] h = .ok (rowsV (besideM a b)) h := by
  have hlim : lim = 16777216 := rfl
  refine gives_ends ?_
  refine run_s (fn := f45) (s := [some (rowsV a), some (rowsV b), none, none]) rfl rfl rfl ?_
  unfold f45
  dsimp only
  walk_at "co sp"
  refine w_compP1 a (fun r => .lst (r.map .int)) (fun r => .lst ((r ++ List.replicate b.length 0).map .int)) ?_ (by omega) (fun r hr => ⟨_, rfl, ?_⟩) ?_
  · walk_at "co sp"
    exact ⟨_, rfl, rfl, rfl, rfl⟩
  · walk_at "co sp"
    refine w_opt (lenRows rfl) ?_
    refine w_opt (bop_ml (repOk_z (by omega))) ?_
    rw [rep_z]
    have := wa r hr
    refine w_opt (bop_al (by rw [List.length_map, List.length_map, List.length_replicate]; omega)) ?_
    exact ⟨by rw [List.map_append], rfl⟩
  walk_at "co sp"
  refine w_compP1 b (fun r => .lst (r.map .int)) (fun r => .lst ((List.replicate a.length 0 ++ r).map .int)) ?_ (by omega) (fun r hr => ⟨_, rfl, ?_⟩) ?_
  · walk_at "co sp"
    exact ⟨_, rfl, rfl, rfl, rfl⟩
  · walk_at "co sp"
    refine w_opt (lenRows rfl) ?_
    refine w_opt (bop_ml (repOk_z (by omega))) ?_
    rw [rep_z]
    walk_at "co sp"
    have := wb r hr
    refine w_opt (bop_al (by rw [List.length_map, List.length_map, List.length_replicate]; omega)) ?_
    exact ⟨by rw [List.map_append], rfl⟩
  refine w_opt (bop_al ?_) ?_
  · rw [List.length_map, List.length_map]; omega
  walk_at "co sp"
  have e : Val.lst (a.map (fun r => Val.lst ((r ++ List.replicate b.length 0).map .int)) ++ b.map (fun r => Val.lst ((List.replicate a.length 0 ++ r).map .int))) = rowsV (besideM a b) := by
    simp only [rowsV, besideM, List.map_append, List.map_map, Function.comp_def]
  rw [e]
  refine w_back (frz_low (rows_low _ _)) ?_
  exact ⟨rfl, List.take_length⟩
end Lk56
end

section
set_option linter.all false
set_option maxRecDepth 100000
set_option autoImplicit false
namespace Lk56
open PySem L2 Co
theorem ne_nil {h h2 : Hh} {xs : List Int} : cop .NotEq (rd h (.lst (xs.map .int))) (rd h2 (.lst [])) = some (!xs.isEmpty) := by cases xs <;> rfl
theorem sum_perm {a b : List Int} (p : a.Perm b) : a.sum = b.sum := by
  induction p with
  | nil => rfl
  | cons x _ ih => simp [ih]
  | swap x y l => simp; omega
  | trans _ _ h1 h2 => rw [h1, h2]
theorem intsV_map : ∀ xs : List Int, intsV (xs.map .int) = some xs
  | [] => rfl
  | x :: r => by simp [intsV, intsV_map r]
theorem sorted_ints {h : Hh} {xs : List Int} : Co.bi .sorted (asL [.lst (xs.map .int)] h) = some (.lst ((sortI xs).map .int)) := by
  show (intsV (xs.map .int)).map _ = _
  rw [intsV_map]
  rfl
theorem insI_pair (x : Int) : ∀ l : List Int, l.Pairwise (· ≤ ·) → (insI x l).Pairwise (· ≤ ·)
  | [], _ => List.pairwise_singleton _ _
  | y :: r, h => by
    simp only [insI]
    have hy := List.pairwise_cons.mp h
    by_cases q : x ≤ y
    · rw [if_pos q]
      refine List.pairwise_cons.mpr ⟨fun z mz => ?_, h⟩
      rcases List.mem_cons.mp mz with e | m
      · omega
      · have := hy.1 z m; omega
    · rw [if_neg q]
      refine List.pairwise_cons.mpr ⟨fun z mz => ?_, insI_pair x r hy.2⟩
      have : z = x ∨ z ∈ r := by
        have ip : ∀ l : List Int, z ∈ insI x l → z = x ∨ z ∈ l := fun l => by
          induction l with
          | nil => intro m; exact .inl (List.mem_singleton.mp m)
          | cons w l ih =>
            intro m
            simp only [insI] at m
            split at m
            · rcases List.mem_cons.mp m with e | m
              · exact .inl e
              · exact .inr m
            · rcases List.mem_cons.mp m with e | m
              · exact .inr (by rw [e]; exact List.mem_cons_self)
              · rcases ih m with e | m
                · exact .inl e
                · exact .inr (List.mem_cons_of_mem _ m)
        exact ip r mz
      rcases this with e | m
      · omega
      · exact hy.1 z m
theorem sortI_pair : ∀ l : List Int, (sortI l).Pairwise (· ≤ ·)
  | [] => List.Pairwise.nil
  | x :: r => insI_pair x _ (sortI_pair r)
theorem kind_of_ok (d : Nat) {h : Hh} {n : Nat} {left : Int} {Q : Val → Hh → Prop} (V : Vat h n) (h0 : 1 ≤ left) (h6 : left ≤ 6) (k : ∀ (F : List Int) (h2 : Hh), (∀ p ∈ F, p ∈ keys) → (F.map szOf).sum = left → F.Pairwise (· ≤ ·) → Drawn n h h2 → Q (.tup (F.map .int)) h2) :
    Co.Ends (runF pg (d + 2) 47 [.ref n, .int left] h) Q := by
  have hlim : lim = 16777216 := rfl
  refine run_s (fn := f47) (s := [some (.ref n), some (.int left), none, none, none, none, none]) rfl rfl rfl ?_
  unfold f47
  dsimp only
  walk_at "co sz"
  refine ⟨⟨rfl, by decide, by decide⟩, ?_⟩
  walk_at "co sz"
  refine w_for ?_
  walk_at "co sz"
  refine ⟨_, rfl, by omega, fun r s h2 => ∃ (L : Int) (F : List Int) (a b c : Option Val), s = [some (.ref n), some (.int L), some dctS, some (.lst (F.map .int)), a, b, c] ∧ Co.Drawn n h h2 ∧ 0 ≤ L ∧ L ≤ r.length ∧ L ≤ 6 ∧ (∀ p ∈ F, p ∈ keys) ∧ (F.map szOf).sum + L = left ∧ F.length + r.length ≤ 6,
    fun r s h2 _ => rfl, ?_, ?_, ⟨left, [], none, none, none, rfl, V.refl, by omega, by simp [rangeL]; omega, h6, by simp, by simp, by simp [rangeL]⟩⟩
  · rintro s h2 ⟨L, F, a, b, c, rfl, D, l0, l1, l2, hF, hS, hl⟩
    have L0 : L = 0 := by simp at l1; omega
    walk_at "co sz"
    refine w_opt sorted_ints ?_
    walk_at "co sz"
    refine w_back (frz_low (by simp only [below]; exact ints_low _ _)) ?_
    rw [List.take_of_length_le (by rw [D.len]; exact Nat.le_refl _)]
    refine k _ h2 (fun p hp => hF p ((sortI_perm F).mem_iff.mp hp)) ?_ (sortI_pair F) D
    rw [sum_perm ((sortI_perm F).map szOf)]
    omega
  · rintro v r s h2 ⟨L, F, a, b, c, rfl, D, l0, l1, l2, hF, hS, hl⟩
    walk_at "co sz"
    refine w_compF keys .int .int (fun p => decide (szOf p ≤ L)) ?_
    walk_at "co sz"
    refine ⟨_, rfl, rfl, by decide, rfl, fun p hp => ?_, ?_⟩
    · refine cStep_of rfl ?_
      walk_at "co sz"
      refine w_opt (dct_at p hp) ?_
      walk_at "co sz"
      refine w_if (fun z => ?_) (fun z => ?_)
      · walk_at "co sz"
        exact ⟨fun _ => by walk_at "co sz"; exact ⟨by rw [if_pos z], rfl⟩, fun z => nomatch z⟩
      · exact ⟨fun z => (nomatch z), fun _ => ⟨by rw [if_neg (by rw [z]; exact Bool.false_ne_true)], rfl⟩⟩
    walk_at "co sz"
    refine w_cop ne_nil ?_
    generalize hP : keys.filter (fun p => decide (szOf p ≤ L)) = Pk
    have hPm : ∀ p ∈ Pk, p ∈ keys ∧ szOf p ≤ L := fun p hp => by
      rw [← hP] at hp
      exact ⟨(List.mem_filter.mp hp).1, of_decide_eq_true (List.mem_filter.mp hp).2⟩
    refine w_if (fun z => ?_) (fun z => ?_)
    · have hne : 0 < Pk.length := by
        cases Pk with
        | nil => cases z
        | cons => simp
      have hle : Pk.length ≤ 13 := by
        rw [← hP]
        exact List.length_filter_le _ _
      walk_at "co sz"
      rw [List.length_map]
      refine draw (D.vat V) (by omega) (by omega) fun x h3 x0 x1 D3 => ?_
      walk_at "co sz"
      rw [List.length_map]
      refine draw (D3.vat (D.vat V)) (by omega) (by omega) fun y h4 y0 y1 D4 => ?_
      walk_at "co sz"
      have hmax : Co.bi .max (asL [.int x, .int y] h4) = some (.int (if y > x then y else x)) := rfl
      refine w_opt hmax ?_
      generalize hw : (if y > x then y else x) = w
      have hw0 : 0 ≤ w ∧ w < Pk.length := by
        rw [← hw]
        split <;> omega
      have hwl : w.toNat < Pk.length := by omega
      refine w_opt (show idxV (rd h4 (.lst (Pk.map .int))) (.int w) = some (.int Pk[w.toNat]) from atI_at w.toNat (by rw [List.getElem?_map, List.getElem?_eq_getElem hwl]; rfl) (by omega)) ?_
      have hp := hPm _ (List.getElem_mem hwl)
      generalize Pk[w.toNat] = p at hp
      have hpos := sz_pos p hp.1
      have hFl : F.length ≤ 6 := by simp at hl; omega
      walk_at "co sz"
      refine w_opt (bop_al (by rw [List.length_map]; simp; omega)) ?_
      walk_at "co sz"
      refine w_opt (dct_at p hp.1) ?_
      walk_at "co sz"
      refine l_next ⟨L - szOf p, F ++ [p], some v, some (.lst (Pk.map .int)), some (.int p), by rw [List.map_append]; rfl, (D.trans D3).trans D4, by omega, by simp at l1; omega, by omega, ?_, ?_, by simp at hl ⊢; omega⟩
      · intro q hq
        rcases List.mem_append.mp hq with m | m
        · exact hF q m
        · rw [List.mem_singleton.mp m]; exact hp.1
      · rw [List.map_append, List.sum_append]
        simp
        omega
    · have hnil : Pk = [] := by
        cases Pk with
        | nil => rfl
        | cons => cases z
      have L0 : L = 0 := by
        by_cases q : 1 ≤ L
        · have : (1 : Int) ∈ Pk := by
            rw [← hP]
            exact List.mem_filter.mpr ⟨by decide, decide_eq_true (by rw [show szOf 1 = 1 from rfl]; exact q)⟩
          rw [hnil] at this
          cases this
        · omega
      walk_at "co sz"
      exact l_next ⟨L, F, some v, some (.lst (Pk.map .int)), c, rfl, D, l0, by simp at l1 ⊢; omega, l2, hF, hS, by simp at hl; omega⟩
theorem kind_ok (d : Nat) {h : Hh} {n : Nat} {most : Int} {Q : Val → Hh → Prop} (V : Vat h n) (m1 : 1 ≤ most) (m6 : most ≤ 6) (k : ∀ (F : List Int) (h2 : Hh), (∀ p ∈ F, p ∈ keys) → 1 ≤ (F.map szOf).sum → (F.map szOf).sum ≤ most → F.Pairwise (· ≤ ·) → Co.Drawn n h h2 → Q (.tup (F.map .int)) h2) :
    Co.Ends (runF pg (d + 3) 46 [.ref n, .int most] h) Q := by
  refine run_s (fn := f46) (s := [some (.ref n), some (.int most)]) rfl rfl rfl ?_
  unfold f46
  dsimp only
  walk_at "co sz"
  refine draw V (by omega) (by omega) fun x h3 x0 x1 D => ?_
  walk_at "co sz"
  refine kind_of_ok d (D.vat V) (by omega) (by omega) fun F h4 hF hs hP D2 => ?_
  walk_at "co sz"
  refine w_back (frz_low (by simp only [below]; exact ints_low _ _)) ?_
  have D3 := D.trans D2
  rw [List.take_of_length_le (by rw [D3.len]; exact Nat.le_refl _)]
  exact k F h4 hF (by omega) (by omega) hP D3
end Lk56
end

section
set_option linter.all false
set_option maxRecDepth 100000
set_option autoImplicit false
namespace Lk56
open PySem L2 Co
/-- a copy of rows, to be changed -/
theorem copy_rows {g : G} {own : List Nat} {s : Co.Env} {h : Hh} {n : Nat} {m : Mat} {Q : Val → Hh → Prop} {i : Nat} {it : CE} (V : Vat h n) (hk : m.length ≤ 100) (hit : Co.Ends (evE g it s h) fun x h1 => x = rowsV m ∧ h1 = h)
    (hi : ∀ v, (wipeE s own).set i (some v) = (wipeE s own).set i (some v) → ((wipeE s own).set i (some v))[i]? = some (some v))
    (q : ∀ (R : Nat) (as : List Nat) (h2 : Hh), TI h n R as m h2 → Q (.ref R) h2) : Co.Ends (evE g (.comp true own [i] true (.of it) [] (.listM (.var i))) s h) Q := by
  have hlim : lim = 16777216 := rfl
  refine w_compM2 ?_
  refine i_of (hit.mono ?_)
  rintro x h1 ⟨rfl, rfl⟩
  refine ⟨_, rfl, by show (m.map fun r => Val.lst (r.map .int)).length ≤ lim; rw [mapLen]; omega, fun dn acc h2 => ∃ as : List Nat, acc = as.map .ref ∧ as.length = dn.length ∧ h1.length ≤ h2.length ∧ (∀ j, j < h1.length → h2[j]? = h1[j]?) ∧ as.Nodup ∧
    (∀ a ∈ as, h1.length ≤ a ∧ a < h2.length) ∧ ∀ (i a : Nat), as[i]? = some a → ∃ r : List Int, dn[i]? = some (.lst (r.map .int)) ∧ h2[a]? = some (.lst (r.map .int)), fun _ _ _ _ => rfl, ⟨[], rfl, rfl, Nat.le_refl _, fun _ _ => rfl, List.nodup_nil, by simp, by simp⟩, ?_, ?_⟩
  · rintro v hv dn acc h2 ⟨as, rfl, e1, e2, e3, nd, e4, e5⟩
    obtain ⟨r, hr, rfl⟩ := List.mem_map.mp hv
    refine cStep_of rfl ?_
    refine c_nil ⟨fun _ => ?_, fun z => nomatch z⟩
    refine w_listM (w_var (hi _ rfl) ⟨_, rfl, as ++ [h2.length], by rw [List.map_append]; rfl, by simp [e1], by simp; omega, fun j lj => ?_, ?_, fun a ma => ?_, fun i a e => ?_⟩)
    · rw [List.getElem?_append_left (by omega)]; exact e3 j lj
    · refine List.nodup_append.mpr ⟨nd, by simp, fun a ma b mb => ?_⟩
      rw [List.mem_singleton.mp mb]
      have := (e4 a ma).2
      omega
    · rcases List.mem_append.mp ma with z | z
      · have := e4 a z
        exact ⟨this.1, by simp; omega⟩
      · rw
                              [List.mem_singleton.mp z]
        exact ⟨e2, by simp⟩
    · by_cases l : i < as.length
      · rw [List.getElem?_append_left l] at e
        obtain ⟨r2, d1, d2⟩ := e5 i a e
        refine ⟨r2, ?_, ?_⟩
        · rw [List.getElem?_append_left (by omega)]; exact d1
        · rw [List.getElem?_append_left (e4 a (List.mem_of_getElem? e)).2]; exact d2
      · have li : i < (as ++ [h2.length]).length := (List.getElem?_eq_some_iff.mp e).1
        have : i = as.length := by simp at li; omega
        subst this
        rw [List.getElem?_append_right (Nat.le_refl _), Nat.sub_self] at e
        cases e
        refine ⟨r, ?_, ?_⟩
        · rw [e1, List.getElem?_append_right (Nat.le_refl _), Nat.sub_self]; rfl
        · rw [List.getElem?_append_right (Nat.le_refl _), Nat.sub_self]; rfl
  · rintro r h2 ⟨as, rfl, e1, e2, e3, nd, e4, e5⟩
    have el : as.length = m.length := by
      rw [e1]
      show (m.map fun r => Val.lst (r.map .int)).length = _
      rw [mapLen]
    refine q _ as _ ⟨?_, V.lt, fun j lj _ => ?_, fun a ma => (e4 a ma).1, e2, ?_, fun z => ?_, nd, el, fun i a e => ?_⟩
    · obtain ⟨x, y, z, e⟩ := V
      have hlt := (List.getElem?_eq_some_iff.mp e).1
      exact ⟨x, y, z, by rw [List.getElem?_append_left (by omega), e3 _ hlt]; exact e⟩
    · rw [List.getElem?_append_left (by omega)]; exact e3 j lj
    · rw [List.getElem?_append_right (Nat.le_refl _), Nat.sub_self]
      rfl
    · have := (e4 _ z).2
      omega
    · obtain ⟨r, d1, d2⟩ := e5 i a e
      rw [List.getElem?_append_left (e4 a (List.mem_of_getElem? e)).2, d2]
      have d1 : (m.map fun r => Val.lst (r.map .int))[i]? = some (.lst (r.map .int)) := d1
      rw [List.getElem?_map] at d1
      cases c : m[i]? with
      | none => rw [c] at d1; cases d1
      | some u =>
        rw [c] at d1
        have : u.map Val.int = r.map Val.int := by
          have d1 : Val.lst (u.map .int) = .lst (r.map .int) := by simpa using d1
          injection d1
        rw [List.getD_eq_getElem?_getD, c]
        show some (Ob.lst (r.map .int)) = some (Ob.lst (u.map .int))
        rw [this]
/-- the first p rows as they become, the others as they were -/
def part (f : List Int → List Int) (m : Mat) (p : Nat) : Mat := (m.map f).take p ++ m.drop p
theorem part_len {f : List Int → List Int} {m : Mat} {p : Nat} : (part f m p).length = m.length := by
  unfold part
  rw [List.length_append, List.length_take, List.length_drop, List.length_map]
  omega
theorem part_at {f : List Int → List Int} {m : Mat} {p : Nat} (l : p < m.length) : (part f m p).getD p [] = m.getD p [] := by
  unfold part
  simp only [List.getD_eq_getElem?_getD]
  rw [List.getElem?_append_right (by rw [List.length_take, List.length_map]; omega), List.length_take, List.length_map, List.getElem?_drop]
  congr 2
  omega
theorem part_set {f : List Int → List Int} {m : Mat} {p : Nat} (l : p < m.length) : (part f m p).set p (f (m.getD p [])) = part f m (p + 1) := by
  unfold part
  refine List.ext_getElem? fun i => ?_
  have lt : ((m.map f).take p).length = p := by rw [List.length_take, List.length_map]; omega
  have lt2 : ((m.map f).take (p + 1)).length = p + 1 := by rw [List.length_take, List.length_map]; omega
  by_cases q : p = i
  · subst q
    rw [List.getElem?_set_self (by rw [List.length_append, lt, List.length_drop]; omega), List.getElem?_append_left (by omega), List.getElem?_take_of_lt (by omega), List.getElem?_map, List.getD_eq_getElem?_getD, List.getElem?_eq_getElem l]
    rfl
  · rw [List.getElem?_set_ne q]
    by_cases q2 : i < p
    · rw [List.getElem?_append_left (by omega), List.getElem?_append_left (by omega), List.getElem?_take_of_lt q2, List.getElem?_take_of_lt (by omega)]
    · rw [List.getElem?_append_right (by omega), List.getElem?_append_right (by omega), lt, lt2, List.getElem?_drop, List.getElem?_drop]
      congr 1
      omega
theorem part_all {f : List Int → List Int} {m : Mat} : part f m m.length = m.map f := by
  unfold part
  rw [List.drop_length, List.append_nil, List.take_of_length_le (by rw [List.length_map]; exact Nat.le_refl _)]
theorem mod_ne {x y k : Int} (x0 : 0 ≤ x) (x1 : x < k) (y0 : 0 ≤ y) (y1 : y < k - 1) : (x + 1 + y).fmod k ≠ x := by
  rw [Int.fmod_eq_emod_of_nonneg _
                          (by omega)]
  by_cases q : x + 1 + y < k
  · rw [Int.emod_eq_of_lt (by omega) q]; omega
  · rw [← Int.sub_emod_right, Int.emod_eq_of_lt (by omega) (by omega)]; omega
theorem turned_ok (d : Nat) {h : Hh} {n k : Nat} {amt : Int} {m : Mat} {Q : Val → Hh → Prop} (V : Vat h n) (hm : m.length = k ∧ ∀ r ∈ m, r.length = k) (k6 : k ≤ 6) (a0 : 0 ≤ amt) (a4 : amt ≤ 100)
    (q : ∀ (R : Nat) (as : List Nat) (t : Nat) (m2 : Mat) (h2 : Hh), t ≤ amt → Turned k t m m2 → TI h n R as m2 h2 → Q (.ref R) h2) : Co.Ends (runF pg (d + 3) 48 [.ref n, rowsV m, .int amt] h) Q := by
  refine run_s (fn := f48) (s := [some (.ref n), some (rowsV m), some (.int amt), none, none, none, none, none, none, none]) rfl rfl rfl ?_
  unfold f48
  dsimp only
  refine w_seq (w_asg ?_)
  refine copy_rows (m := m) V (by omega) (w_var rfl ⟨rfl, rfl⟩) (fun v _ => rfl) fun R as h1 T => ?_
  refine w_name rfl (w_go ?_)
  refine w_seq ?_
  have hit : Co.Ends (evI (gOf pg (runF pg (d + 2)) h.length) (.range1 (.ite (.cmp .Gt (.callB .len [.var 1]) (.cst (.int 1))) (.var 2) (.cst (.int 0)))) [some (.ref n), some (.ref R), some (.int amt), none, none, none, none, none, none, none] h1) fun p h2 => p.2 = [] ∧ p.1.length ≤ amt ∧ (p.1 ≠ [] → 2 ≤ k) ∧ h2 = h1 := by
    walk_at "co sp"
    refine w_opt T.lenR ?_
    walk_at "co sp"
    refine w_if (fun z => ?_) (fun z => ?_)
    · walk_at "co sp"
      refine ⟨_, rfl, by omega, rfl, ?_, fun _ => ?_, rfl⟩
      · rw [range_len]; omega
      · have := of_decide_eq_true z
        rw [hm.1] at this
        omega
    · walk_at "co sp"
      exact ⟨_, rfl, by omega, rfl, by simp [rangeL]; omega, fun z => absurd rfl z, rfl⟩
  refine w_for (hit.mono ?_)
  rintro ⟨vs, gd⟩ h2 ⟨rfl, l4, l2, rfl⟩
  refine ⟨fun r s h3 => ∃ (as : List Nat) (t : Nat) (m2 : Mat) (a b c e f g w : Option Val), s = [some (.ref n), some (.ref R), some (.int amt), a, b, c, e, f, g, w] ∧ TI h n R as m2 h3 ∧ Turned k t m m2 ∧ (t : Int) + r.length ≤ amt ∧ (r ≠ [] → 2 ≤ k) ∧ m2.length = k ∧ ∀ r ∈ m2, r.length = k, fun _ _ _ _ => rfl, ?_, ?_, ⟨as, 0, m, none, none, none, none, none, none, none, rfl, T, .refl m, by dsimp only at l4 ⊢; omega, l2, hm⟩⟩
  · rintro s h3 ⟨as, t, m2, a, b, c, e, f, g, w, rfl, T3, U, b1, _, _⟩
    walk_at "co sp"
    refine w_backK (q R as t m2 h3 (by simp at b1; omega) U T3)
  · rintro v r s h3 ⟨as, t, m2, a, b, c, e, f, g, w, rfl, T3, U, b1, kk, ml, mr⟩
    have k2 := kk (by simp)
    walk_at "co sp"
    refine w_opt T3.lenR ?_
    walk_at "co sp"
    rw [ml]
    refine draw T3.vat (by omega) (by omega) fun x h4 x0 x1 D4 => ?_
    have T4 := T3.drawn D4
    walk_at "co sp"
    refine w_opt T4.lenR ?_
    walk_at "co sp"
    rw [ml]
    refine draw T4.vat (by omega) (by omega) fun y h5 y0 y1 D5 => ?_
    have T5 := T4.drawn D5
    walk_at "co sp"
    refine w_opt T5.lenR ?_
    walk_at "co sp"
    rw [ml]
    refine w_opt (rop_di (by omega)) ?_
    walk_at "co sp"
    refine one_of (some_ := [.int 1, .int (-1), .int 1, .int (-1), .int 2]) T5.vat (by simp) (by simp) (by simp [below]) fun bv h6 hbv D6 => ?_
    have T6 := T5.drawn D6
    obtain ⟨bw, rfl, bw0, bw1⟩ : ∃ i : Int, bv = .int i ∧ -2 ≤ i ∧ i ≤ 2 := by
      simp only [List.mem_cons, List.not_mem_nil, or_false] at hbv
      rcases hbv with rfl | rfl | rfl | rfl | rfl <;> exact ⟨_, rfl, by decide, by decide⟩
    have j0 := Int.fmod_nonneg_of_pos (x + 1 + y) (show (0 : Int) < k by omega)
    have j1 := Int.fmod_lt_of_pos (x + 1 + y) (show (0 : Int) < k by omega)
    have jn := mod_ne x0 x1 y0 y1
    generalize (x + 1 + y).fmod k = j at j0 j1 jn
    obtain ⟨xa, ia, ma, ea, ixa, ra1⟩ := T6.rowAt (i := x) x0 (by omega)
    obtain ⟨xb, ib, mb, eb, ixb, rb1⟩ := T6.rowAt (i := j) j0 (by omega)
    have hlim : lim = 16777216 := rfl
    have la := mr _ (getD_mem (d := []) (show x.toNat < m2.length by omega))
    have lb := mr _ (getD_mem (d := []) (show j.toNat < m2.length by omega))
    generalize hra : m2.getD x.toNat [] = ra at ra1 la
    generalize hrb : m2.getD j.toNat [] = rb at rb1 lb
    walk_at "co sp"
    refine w_compM2 ?_
    walk_at "co sp"
    refine w_opt ea ?_
    walk_at "co sp"
    refine w_opt eb ?_
    refine ⟨(ra.map .int, [(xa, ra.map .int)]), (rb.map .int, [(xb, rb.map .int)]), by simp only [itOf2, itOf, ra1], by simp only [itOf2, itOf, rb1], by show (pairs (ra.map Val.int) (rb.map .int)).length ≤ lim; rw [pairs_map, List.length_map, List.length_zip]; omega,
      fun dn acc hh => hh = h6 ∧ ∃ ps : List (Int × Int), dn = (ps.map fun p => .tup [.int p.1, .int p.2]) ∧ acc = (ps.map fun p => .int (p.1 + bw * p.2)), ?_, ⟨rfl, [], rfl, rfl⟩, ?_, ?_⟩
    · rintro dn acc hh ⟨rfl, _⟩
      show guardOk hh [(xa, ra.map .int), (xb, rb.map .int)] = true
      simp only [guardOk, ra1, rb1, Val.beqL_refl, Bool.and_true]
    · rintro v hv dn acc hh ⟨rfl, ps, rfl, rfl⟩
      have hv : v ∈ pairs (ra.map .int) (rb.map .int) := hv
      rw [pairs_map] at hv
      obtain ⟨⟨p1, p2⟩, _, rfl⟩ := List.mem_map.mp hv
      refine cStep_of rfl ?_
      walk_at "co sp"
      refine ⟨fun _ => ?_, fun z => nomatch z⟩
      walk_at "co sp"
      refine w_opt (rop_mi (mulOk_l (by omega))) ?_
      walk_at "co sp"
      exact ⟨rfl, ps ++ [(p1, p2)], by rw [List.map_append]; rfl, by rw [List.map_append]; rfl⟩
    · rintro r0 h7 ⟨hh7, ps, eps, rfl⟩
      rw [hh7]
      have eps : pairs (ra.map .int) (rb.map .int) = (ps.map fun p => .tup [.int p.1, .int p.2]) := eps
      rw [pairs_map] at eps
      have ez : List.zip ra rb = ps := by
        have inj : ∀ a b : List (Int × Int), (a.map fun p => Val.tup [.int p.1, .int p.2]) = (b.map fun p => Val.tup [.int p.1, .int p.2]) → a = b := fun a => by
          induction a with
          | nil => intro b e; cases b with | nil => rfl | cons => cases e
          | cons u a ih =>
            intro b e
            cases b with
            | nil => cases e
            | cons w b =>
              simp only [List.map_cons, List.cons.injEq, Val.tup.injEq, Val.int.injEq, and_true] at e
              rw [ih b e.2, Prod.ext e.1.1 e.1.2]
        exact inj _ _ eps
      have er : (ps.map fun p => Val.int (p.1 + bw * p.2)) = (addRow bw ra rb).map .int := by
        rw [← ez]
        unfold addRow
        rw [← List.map_uncurry_zip_eq_zipWith, List.map_map]
        rfl
      rw [er]
      walk_at "co sp"
      have hR : R < h6.length := (List.getElem?_eq_some_iff.mp T6.rows).1
      refine ⟨_, _, _, _, rfl, rfl, by rw [List.getElem?_append_left hR]; exact T6.rows, ixa, by show (decide (h.length ≤ R) || _) = true; rw [decide_eq_true T6.ge]; rfl, ?_⟩
      have T8 := T6.newRow (i := x.toNat) (by omega) (addRow bw ra rb)
      generalize hh8 : (h6 ++ [Ob.lst ((addRow bw ra rb).map .int)]).set R (Ob.lst ((as.map Val.ref).set x.toNat (.ref h6.length))) = h8 at T8
      generalize as.set x.toNat h6.length = as8 at T8
      have l8 : (m2.set x.toNat (addRow bw ra rb)).length = k := by rw [List.length_set]; exact ml
      have r8 : ∀ r ∈ m2.set x.toNat (addRow bw ra rb), r.length = k := fun r hr => by
        rcases List.mem_or_eq_of_mem_set hr with q | q
        · exact mr r q
        · rw [q, addRow_len (by omega)]; exact la
      have U8 : turnStep x.toNat j.toNat bw m2 = (m2.set x.toNat (addRow bw ra rb)).map (subCol x.toNat j.toNat bw) := by unfold turnStep; rw [hra, hrb]
      generalize m2.set x.toNat (addRow bw ra rb) = m8 at T8 l8 r8 U8
      walk_at "co sp"
      refine w_for ?_
      walk_at "co sp"
      refine ⟨(as8.map .ref, [(R, as8.map .ref)]), by simp only [itOf, T8.rows], fun rs s hh => ∃ (p : Nat) (z7 z8 z9 : Option Val), s = [some (.ref n), some (.ref R), some (.int amt), some v, some (.int x), some (.int j), some (.int bw), z7, z8, z9] ∧ TI h n R as8 (part (subCol x.toNat j.toNat bw) m8 p) hh ∧ rs = (as8.drop p).map .ref ∧ p ≤ k, ?_, ?_, ?_, ?_⟩
      · rintro rs s hh ⟨p, z7, z8, z9, rfl, T9, _⟩
        show guardOk hh [(R, as8.map .ref)] = true
        simp only [guardOk, T9.rows, Val.beqL_refl, Bool.and_true]
      · rintro s hh ⟨p, z7, z8, z9, rfl, T9, c1, c2⟩
        have lp : as8.length ≤ p := by
          have := congrArg List.length c1
          simp at this
          omega
        have lk : as8.length = k := by rw [T8.len, l8]
        have pk : p = m8.length := by omega
        rw [pk, part_all, ← U8] at T9
        walk_at "co sp"
        refine l_next ⟨as8, t + 1, _, _, _, _, _, _, _, _, rfl, T9, .step x.toNat j.toNat bw U (by omega) (by omega) (by omega) bw0 bw1, ?_, fun _ => k2, ?_, ?_⟩
        · simp at b1 ⊢; omega
        · rw [U8, List.length_map]; exact l8
        · rw [U8]
          intro r hr
          obtain ⟨u, mu, rfl⟩ := List.mem_map.mp hr
          rw [subCol_len]
          exact r8 u mu
      · rintro u rs s hh ⟨p, z7, z8, z9, rfl, T9, c1, c2⟩
        have lk : as8.length = k := by rw [T8.len, l8]
        have pl : p < as8.length := by
          refine Nat.lt_of_not_le fun q => ?_
          rw [List.drop_eq_nil_of_le q] at c1
          cases c1
        rw [List.drop_eq_getElem_cons pl] at c1
        simp only [List.map_cons, List.cons.injEq] at c1
        obtain ⟨rfl, rfl⟩ := c1
        have ep : as8[p]? = some as8[p] := List.getElem?_eq_getElem pl
        have rr1 := T9.row p _ ep
        rw [part_at (by omega)] at rr1
        have lr := r8 _ (getD_mem (d := []) (show p < m8.length by omega))
        have T10 := T9.setRow ep (subCol x.toNat j.toNat bw (m8.getD p []))
        rw [part_set (by omega)] at T10
        generalize hrr : m8.getD p [] = rr at rr1 lr T10
        have lj : j.toNat < rr.length := by omega
        have lx : x.toNat < rr.length := by omega
        have atj : atI (rr.map Val.int) j = some (.int (rr.getD j.toNat 0)) := atI_at j.toNat (by rw [List.getElem?_map, List.getD_eq_getElem?_getD, List.getElem?_eq_getElem lj]; rfl) (by omega)
        have atx : atI (rr.map Val.int) x = some (.int (rr.getD x.toNat 0)) := atI_at x.toNat (by rw [List.getElem?_map, List.getD_eq_getElem?_getD, List.getElem?_eq_getElem lx]; rfl) (by omega)
        walk_at "co sp"
        refine w_opt (idx_ref rr1 atj) ?_
        walk_at "co sp"
        refine w_opt (idx_ref rr1 atx) ?_
        refine w_opt (rop_mi (mulOk_l (by omega))) ?_
        walk_at "co sp"
        refine ⟨_, _, _, _, rfl, rfl, rr1, ixN_at j.toNat (by rw [List.length_map]; exact lj) (by omega), store_i, ?_⟩
        rw [← List.map_set]
        walk_at "co sp"
        exact l_next ⟨p + 1, _, _, _, rfl, T10, rfl, by omega⟩
      · exact ⟨0, _, _, _, rfl, by unfold part; rw [List.take_zero, List.drop_zero, List.nil_append]; exact T8, rfl, Nat.zero_le _⟩
end Lk56
end

section
set_option linter.all false
set_option maxRecDepth 100000
set_option autoImplicit false
namespace Lk56
open PySem L2 Co
theorem machine_ok (d : Nat) {h : Hh} {n : Nat} {F : List Int} {Q : Val → Hh → Prop} (V : Vat h n) (hF : ∀ p ∈ F, p ∈ keys) (h6 : (F.map szOf).sum ≤ 6)
    (q : ∀ (R : Nat) (as : List Nat) (t : Nat) (m2 : Mat) (h2 : Hh), t ≤ 4 → Turned (F.map szOf).sum.toNat t (joinK F) m2 → TI h n R as m2 h2 → Q (.ref R) h2) : Co.Ends (runF pg (d + 4) 49 [.ref n, .tup (F.map .int)] h) Q := by
  refine run_s (fn := f49) (s := [some (.ref n), some (.tup (F.map .int)), none, none]) rfl rfl rfl ?_
  unfold f49
  dsimp only
  walk_at "co sp"
  refine w_for ?_
  walk_at "co sp"
  refine ⟨(F.map .int, []), rfl, fun r s h2 => ∃ (G G2 : List Int) (a : Option Val), r = G2.map .int ∧ F = G ++ G2 ∧ s = [some (.ref n), some (.tup (F.map .int)), some (rowsV (joinK G)), a] ∧ h2 = h, fun _ _ _ _ => rfl, ?_, ?_, ⟨[], F, none, rfl, rfl, rfl, rfl⟩⟩
  · rintro s h2 ⟨G, G2, a, eG, eF, rfl, rfl⟩
    have : G2 = [] := by cases G2 with | nil => rfl | cons => cases eG
    subst this
    rw [List.append_nil] at eF
    subst eF
    have sq := joinK_ok hF
    walk_at "co sp"
    refine draw V (by decide) (by decide) fun x h3 x0 x1 D => ?_
    walk_at "co sp"
    refine turned_ok (d := d) (m := joinK F) (D.vat V) ⟨sq.1, fun r hr => (sq.2 r hr).1⟩ (by omega) x0 (by omega) fun R as t m2 h4 t4 U T => ?_
    refine w_out ?_
    exact w_backK (q R as t m2 h4 (by omega) U (T.from D))
  · rintro v r s h2 ⟨G, G2, a, eG, eF, rfl, rfl⟩
    cases G2 with
    | nil => cases eG
    | cons p G2 =>
      cases eG
      have hG : ∀ p ∈ G, p ∈ keys := fun p mp => hF p (by rw [eF]; exact List.mem_append.mpr (.inl mp))
      have hp : p ∈ keys := hF p (by rw [eF]; exact List.mem_append.mpr (.inr List.mem_cons_self))
      have sqG := joinK_ok hG
      have sb := of_decide_eq_true (blk_sq p hp)
      have s1 := sz_pos p hp
      have s0 := sum0 G2 fun q mq => hF q (by rw [eF]; exact List.mem_append.mpr (.inr (List.mem_cons_of_mem _ mq)))
      have s2 := sum0 G hG
      have es : (F.map szOf).sum = (G.map szOf).sum + (szOf p + (G2.map szOf).sum) := by rw [eF, List.map_append, List.sum_append]; simp
      walk_at "co sp"
      refine Ends.eq (block_ok d h2 p hp) ?_
      walk_at "co sp"
      refine Ends.eq (beside_ok (d + 2) h2 (a := joinK G) (b := blk p) (by rw [sqG.1]; omega) (by rw [sb.1]; omega) (fun r hr => by rw [(sqG.2 r hr).1]; omega) (fun r hr => by rw [(sb.2 r hr).1]; omega)) ?_
      walk_at "co sp"
      exact l_next ⟨G ++ [p], G2, some (.int p), rfl, by rw [eF]; simp, by rw [joinK_snoc]; rfl, rfl⟩
theorem any_ok (d : Nat) {h : Hh} {n : Nat} {most : Int} {Q : Val → Hh → Prop} (V : Vat h n) (m1 : 1 ≤ most) (m6 : most ≤ 6) (q : ∀ (m : Mat) (k : Nat) (h2 : Hh), 1 ≤ k → (k : Int) ≤ most → Sq k 7000 m → Co.Drawn n h h2 → Q (rowsV m) h2) : Co.Ends (runF pg (d + 5) 50 [.ref n, .int most] h) Q := by
  refine run_s (fn := f50) (s := [some (.ref n), some (.int most), none, none, none, none, none, none]) rfl rfl rfl ?_
  unfold f50
  dsimp only
  walk_at "co sp"
  refine draw V (by decide) (by decide) fun x h3 x0 x1 D => ?_
  walk_at "co sp"
  have endR : ∀ (R : Nat) (as : List Nat) (h5 : Hh) (k : Nat) (m : Mat), 1 ≤ k → (k : Int) ≤ most → Sq k 7000 m → TI h n R as m h5 → Co.Ends (retR false h.length (.ret (.ref R)) h5) Q := fun R as h5 k m k1 k6 hm T =>
    w_back T.frz (q m k _ k1 k6 hm T.back)
  refine w_if (fun z => ?_) (fun z => ?_)
  · walk_at "co sp"
    refine kind_ok (d + 1) (D.vat V) m1 m6 fun F h4 hF f1 f6 _ D2 => ?_
    walk_at "co sp"
    have V4 := D2.vat (D.vat V)
    refine machine_ok d V4 hF (by omega) fun R as t m h5 t4 U T0 => ?_
    have T := T0.from (D.trans D2)
    have sm := U.sq (joinK_ok hF) (by decide)
    generalize hk : (F.map szOf).sum.toNat = k at sm U
    have k1 : 1 ≤ k := by omega
    have k6 : (k : Int) ≤ most := by omega
    have sm : Sq k 6561 m := sm.mono (by
      have : t = 0 ∨ t = 1 ∨ t = 2 ∨ t = 3 ∨ t = 4 := by omega
      rcases this with rfl | rfl | rfl | rfl | rfl <;> decide)
    walk_at "co sp"
    refine w_if (fun z2 => ?_) (fun z2 => ?_)
    · walk_at "co sp"
      refine w_opt T.lenR ?_
      walk_at "co sp"
      rw [sm.1]
      refine draw T.vat (by omega) (by omega) fun i h6 i0 i1 D6 => ?_
      have T6 := T.drawn D6
      walk_at "co sp"
      refine w_opt T6.lenR ?_
      walk_at "co sp"
      rw [sm.1]
      refine draw T6.vat (by omega) (by omega) fun j h7 j0 j1 D7 => ?_
      have T7 := T6.drawn D7
      obtain ⟨xa, ix, ma, ea, ixa, ra1⟩ := T7.rowAt (i := i) i0 (by rw [sm.1]; omega)
      have ms := sm.2 _ (getD_mem (d := []) (show i.toNat < m.length by rw [sm.1]; omega))
      generalize hra : m.getD i.toNat [] = ra at ra1 ms
      have lj : j.toNat < ra.length := by omega
      have atj : atI (ra.map Val.int) j = some (.int (ra.getD j.toNat 0)) := atI_at j.toNat (by rw [List.getElem?_map, List.getD_eq_getElem?_getD, List.getElem?_eq_getElem lj]; rfl) (by omega)
      walk_at "co sp"
      refine w_opt ea ?_
      walk_at "co sp"
      refine w_opt (idx_ref ra1 atj) ?_
      walk_at "co sp"
      refine one_of (some_ := [.int 1, .int (-1), .int 2]) T7.vat (by simp) (by simp) (by simp [below]) fun bv h8 hbv D8 => ?_
      have T8 := T7.drawn D8
      obtain ⟨bw, rfl, bw0, bw1⟩ : ∃ i : Int, bv = .int i ∧ -2 ≤ i ∧ i ≤ 2 := by
        simp only [List.mem_cons, List.not_mem_nil, or_false] at hbv
        rcases hbv with rfl | rfl | rfl <;> exact ⟨_, rfl, by decide, by decide⟩
      have ea8 : idxV (rd h8 (.ref R)) (.int i) = some (.ref xa) := by
        rw [rd_r T8.rows]
        rw [rd_r T7.rows] at ea
        exact ea
      have ra8 : h8[xa]? = some (.lst (ra.map .int)) := by have := T8.row _ _ ix; rw [hra] at this; exact this
      walk_at "co sp"
      refine w_opt ea8 ?_
      walk_at "co sp"
      refine ⟨_, _, _, _, rfl, rfl, ra8, ixN_at j.toNat (by rw [List.length_map]; exact lj) (by omega), store_i, ?_⟩
      rw [← List.map_set]
      have g1 := ms.2 _ (getD_mem (d := 0) lj)
      walk_at "co sp"
      refine endR R as _ k (m.set i.toNat (ra.set j.toNat (ra.getD j.toNat 0 + bw))) k1 k6 ⟨by rw [List.length_set, sm.1], fun r hr => ?_⟩ (T8.setRow ix _)
      rcases List.mem_or_eq_of_mem_set hr with q1 | q1
      · have := sm.2 r q1
        exact ⟨this.1, fun y my => by have := this.2 y my; omega⟩
      · rw [q1, List.length_set]
        refine ⟨ms.1, fun y my => ?_⟩
        rcases List.mem_or_eq_of_mem_set my with q2 | q2
        · have := ms.2 y q2; omega
        · rw [q2]; omega
    · walk_at "co sp"
      exact endR R as h5 k m k1 k6 (sm.mono (by decide)) T
  · walk_at "co sp"
    refine draw (D.vat V) (by omega) (by omega) fun y h4 y0 y1 D4 => ?_
    walk_at "co sp"
    have D5 := D.trans D4
    refine draw (D5.vat V) (by decide) (by decide) fun w h5 w0 w1 D6 => ?_
    have D7 := D5.trans D6
    have hw : w = 0 ∨ w = 1 ∨ w = 2 := by omega
    obtain ⟨so, es, hso, hso2⟩ : ∃ so : List Int, idxV (rd h5 (.lst [.lst [.int 0, .int 0, .int 1, .int (-1)], .lst [.int 0, .int 0, .int 0, .int 1, .int 2, .int (-1)], .lst [.int 0, .int 1]])) (.int w) = some (.lst (so.map .int)) ∧ so ≠ [] ∧ so.length < 10 ∧ ∀ x ∈ so, -2 ≤ x ∧ x ≤ 2 := by
      rcases hw with rfl | rfl | rfl
      · exact ⟨[0, 0, 1, -1], rfl, by decide, by decide, by decide⟩
      · exact ⟨[0, 0, 0, 1, 2, -1], rfl, by decide, by decide, by decide⟩
      · exact ⟨[0, 1], rfl, by decide, by decide, by decide⟩
    refine w_opt es ?_
    walk_at "co sp"
    refine w_compI2 ?_
    walk_at "co sp"
    refine ⟨_, rfl, by omega, by show (rangeL 0 (1 + y).toNat).length ≤ 16777216; rw [range_len]; omega, fun dn acc hh => Co.Drawn n h hh ∧ ∃ m : Mat, acc = (m.map fun r => Val.lst (r.map .int)) ∧ m.length = dn.length ∧ ∀ r ∈ m, r.length = (1 + y).toNat ∧ ∀ x ∈ r, -7000 ≤ x ∧ x ≤ 7000, fun _ _ _ _ => rfl, ⟨D7, [], rfl, rfl, by simp⟩, ?_, ?_⟩
    · rintro v _ dn acc hh ⟨E1, m, rfl, e2, e3⟩
      refine cStep_of rfl ?_
      walk_at "co sp"
      refine ⟨fun _ => ?_, fun z => nomatch z⟩
      refine w_compI2 ?_
      walk_at "co sp"
      refine ⟨_, rfl, by omega, by show (rangeL 0 (1 + y).toNat).length ≤ 16777216; rw [range_len]; omega, fun dn2 acc2 hh2 => Co.Drawn n h hh2 ∧ ∃ r : List Int, acc2 = r.map .int ∧ r.length = dn2.length ∧ ∀ x ∈ r, -7000 ≤ x ∧ x ≤ 7000, fun _ _ _ _ => rfl, ⟨E1, [], rfl, rfl, by simp⟩, ?_, ?_⟩
      · rintro v2 _ dn2 acc2 hh2 ⟨E2, r, rfl, f2, f3⟩
        refine cStep_of rfl ?_
        walk_at "co sp"
        refine ⟨fun _ => ?_, fun z => nomatch z⟩
        walk_at "co sp"
        refine one_of (some_ := so.map .int) (E2.vat V) (by simpa using hso) (by rw [List.length_map]; omega) (fun u mu => by obtain ⟨i, _, rfl⟩ := List.mem_map.mp mu; rfl) fun bv h8 hbv D8 => ?_
        obtain ⟨i, mi, rfl⟩ := List.mem_map.mp hbv
        refine ⟨E2.trans D8, r ++ [i], by rw [List.map_append]; rfl, by simp [f2], fun z hz => ?_⟩
        rcases List.mem_append.mp hz with q1 | q1
        · exact f3 z q1
        · rw [List.mem_singleton.mp q1]
          have := hso2.2 i mi
          omega
      · rintro r2 hh2 ⟨E2, r, rfl, f2, f3⟩
        rw [range_len] at f2
        refine ⟨E2, m ++ [r], by rw [List.map_append]; rfl, by simp [e2], fun z hz => ?_⟩
        rcases List.mem_append.mp hz with q1 | q1
        · exact e3 z q1
        · rw [List.mem_singleton.mp q1]
          exact ⟨f2, f3⟩
    · rintro r2 hh ⟨E1, m, rfl, e2, e3⟩
      rw [range_len] at e2
      walk_at "co sp"
      refine w_back (frz_low (rows_low _ m)) ?_
      rw [List.take_of_length_le (by rw [E1.len]; exact Nat.le_refl _)]
      exact q m (1 + y).toNat hh (by omega) (by omega) ⟨e2, e3⟩ E1
end Lk56
end

section
set_option linter.all false
set_option maxRecDepth 100000
set_option autoImplicit false
namespace Lk56
open PySem L2 Co TL
theorem join_at {g : G} {s : Str} {ys : List Str} {h : Hh} (e : (ys.map (·.length)).sum + ys.length * s.length ≤ lim) : meM g .join (.str s) [.lst (ys.map .str)] h = .ok (.str (Txt.join s ys)) h := by
  have sv : ∀ ys : List Str, strsV (ys.map .str) = some ys := fun ys => by
    induction ys with
    | nil => rfl
    | cons y r ih => simp [strsV, ih]
  show opt (meV .join (.str s) [.lst (ys.map .str)]) h = _
  have : meV .join (.str s) [.lst (ys.map .str)] = some (.str (Txt.join s ys)) := by
    show ((some (ys.map Val.str)).bind fun xs => (strsV xs).bind fun ys => if (ys.map (·.length)).sum + ys.length * s.length ≤ lim then some (Val.str (Txt.join s ys)) else none) = _
    rw [Option.bind_some, sv, Option.bind_some, if_pos e]
  rw [this]
  rfl
theorem join_len {s : Str} {ys : List Str} {b c : Nat} (hy : ∀ y ∈ ys, y.length ≤ b) (hn : ys.length ≤ c) : (Txt.join s ys).length ≤ c * (b + s.length) ∧ (ys.map (·.length)).sum + ys.length * s.length ≤ c * (b + s.length) := by
  have hs : (ys.map (·.length)).sum ≤ ys.length * b := by
    clear hn
    induction ys with
    | nil => simp
    | cons y r ih =>
      have := hy y List.mem_cons_self
      have := ih fun z m => hy z (List.mem_cons_of_mem _ m)
      rw [List.map_cons, List.sum_cons, List.length_cons, Nat.add_mul]
      omega
  have h1 : ys.length * b ≤ c * b := Nat.mul_le_mul_right _ hn
  have h2 : ys.length * s.length ≤ c * s.length := Nat.mul_le_mul_right _ hn
  have h3 : (ys.length - 1) * s.length ≤ ys.length * s.length := Nat.mul_le_mul_right _ (Nat.sub_le _ _)
  have e : (Txt.join s ys).length = (ys.map (·.length)).sum + (ys.length - 1) * s.length := by
    show (Builtin.Str.glued s ys).length = _
    exact size_glued s ys
  rw [Nat.mul_add]
  omega
theorem num_ok {h : Hh} {i : Int} (a : -(2 ^ 60 : Int) ≤ i) (b : i ≤ 2 ^ 60) : Co.bi .str (asL [.int i] h) = some (.str (numS i)) ∧ (numS i).length ≤ 100 := by
  have hn : i.natAbs < 2 ^ 61 := by omega
  have hl : i.natAbs.log2 < 61 := by
    by_cases z : i.natAbs = 0
    · rw [z]; decide
    · exact (Nat.log2_lt z).mpr hn
  refine ⟨?_, ?_⟩
  · show (if i.natAbs.log2 < 1920 then some (Val.str ((toString i : String) : Str)) else none) = _
    rw [if_pos (by omega)]
    rfl
  · have := int_text_length_le (a := i) (k := 61) (by decide) hl
    rw [show (numS i).length = (toString i).length from ofString_length _]
    omega
theorem text_ok (d : Nat) {h : Hh} {m : Mat} {k : Nat} (hm : Sq k (2 ^ 60) m) (k6 : k ≤ 100) : runF pg (d + 1) 40 [rowsV m] h = .ok (.str (textT m)) h ∧ (textT m).length ≤ 1100000 := by
  have hlim : lim = 16777216 := rfl
  have hnum : ∀ r ∈ m, ∀ i ∈ r, Co.bi .str (asL [.int i] h) = some (.str (numS i)) ∧ (numS i).length ≤ 100 := fun r hr i hi => by
    obtain ⟨b1, b2⟩ := (hm.2 r hr).2 i hi
    exact num_ok b1 b2
  have hline : ∀ r ∈ m, (lineT r).length ≤ 100 * (100 + 1) ∧ ((r.map numS).map (·.length)).sum + (r.map numS).length * (⟨#[32]⟩ : Str).length ≤ 100 * (100 + 1) := fun r hr =>
    join_len (s := ⟨#[32]⟩) (b := 100) (c := 100) (fun y hy => by obtain ⟨i, mi, rfl⟩ := List.mem_map.mp hy; exact (hnum r hr i mi).2) (by rw [List.length_map, (hm.2 r hr).1]; exact k6)
  have hall := join_len (s := ⟨#[32, 47, 32]⟩) (ys := m.map lineT) (b := 100 * (100 + 1)) (c := 100) (fun y hy => by obtain ⟨r, mr, rfl⟩ := List.mem_map.mp hy; exact (hline r mr).1) (by rw [List.length_map, hm.1]; exact k6)
  refine ⟨?_, Nat.le_trans hall.1 (by decide)⟩
  refine gives_ends ?_
  refine run_s (fn := f40) (s := [some (rowsV m), none, none]) rfl rfl rfl ?_
  unfold f40
  dsimp only
  walk_at "co sp"
  refine ⟨rfl, ?_⟩
  walk_at "co sp"
  refine w_compP1 m (fun r => .lst (r.map .int)) (fun r => .str (lineT r)) ?_ (by rw [hm.1]; omega) (fun r hr => ⟨_, rfl, ?_⟩) ?_
  · walk_at "co sp"
    exact ⟨_, rfl, rfl, rfl, rfl⟩
  · walk_at "co sp"
    refine ⟨rfl, ?_⟩
    walk_at "co sp"
    refine w_compP1 r .int (fun i => .str (numS i)) ?_ (by rw [(hm.2 r hr).1]; omega) (fun i hi => ⟨_, rfl, ?_⟩) ?_
    · walk_at "co sp"
      exact ⟨_, rfl, rfl, rfl, rfl⟩
    · walk_at "co sp"
      exact w_opt (hnum r hr i hi).1 ⟨rfl, rfl⟩
    · walk_at "co sp"
      have e : (r.map fun i => Val.str (numS i)) = (r.map numS).map .str := by rw [List.map_map]; rfl
      rw [e]
      exact Ends.eq (join_at (Nat.le_trans (hline r hr).2 (by decide))) ⟨rfl, rfl⟩
  · walk_at "co sp"
    have e : (m.map fun r => Val.str (lineT r)) = (m.map lineT).map .str := by rw [List.map_map]; rfl
    rw [e]
    refine Ends.eq (join_at (Nat.le_trans hall.2 (by decide))) ?_
    walk_at "co sp"
    rw [List.take_length]
    exact ⟨rfl, rfl⟩
end Lk56
end

section
set_option linter.all false
set_option maxRecDepth 100000
set_option autoImplicit false
namespace Lk56
open PySem L2 Co TL
theorem text_short {m : Mat} {k : Nat} (hm : Sq k 1000000000 m) (k6 : k ≤ 6) : (textT m).length ≤ 450 := by
  have hnum : ∀ r ∈ m, ∀ i ∈ r, (numS i).length ≤ 11 := fun r hr i hi => by
    obtain ⟨b1, b2⟩ := (hm.2 r hr).2 i hi
    rw [← tl_len]
    exact int_short b1 b2
  have hline : ∀ r ∈ m, (lineT r).length ≤ 6 * (11 + 1) := fun r hr =>
    (join_len (s := ⟨#[32]⟩) (b := 11) (c := 6) (fun y hy => by obtain ⟨i, mi, rfl⟩ := List.mem_map.mp hy; exact hnum r hr i mi) (by rw [List.length_map, (hm.2 r hr).1]; exact k6)).1
  have hall := (join_len (s := ⟨#[32, 47, 32]⟩) (ys := m.map lineT) (b := 6 * (11 + 1)) (c := 6) (fun y hy => by obtain ⟨r, mr, rfl⟩ := List.mem_map.mp hy; exact hline r mr) (by rw [List.length_map, hm.1]; exact k6)).1
  exact Nat.le_trans hall (by decide)
theorem vat_ok (d : Nat) {h : Hh} {ns : List Int} {k : Nat} {Q : Val → Hh → Prop} (hl : ns.length ≤ 63) (q : ∀ a b c : Int, Q (.ref h.length) (h ++ [.lst [.int a, .int b, .int c]])) : Co.Ends (runF pg (d + 1) 37 [.ro (ns.map .int), .int (k : Nat)] h) Q := by
  refine run_s (fn := f37) (s := [some (.ro (ns.map .int)), some (.int (k : Nat)), none, none, none, none]) rfl rfl rfl ?_
  unfold f37
  dsimp only
  refine w_seq (w_asg (w_tup (w_cons rfl (Ends.mono (P := fun v h1 => ∃ c : Int, v = .int c ∧ h1 = h) ?_ ?_))))
  · walk_at "co sp"
    refine w_if (fun z => ?_) (fun z => ?_)
    · have zl : k < ns.length := by
        have := of_decide_eq_true z
        rw [List.length_map] at this
        omega
      walk_at "co sp"
      refine w_opt (x := .int ns[k]) (atI_at k (by rw [List.getElem?_map, List.getElem?_eq_getElem zl]; rfl) rfl) ?_
      walk_at "co sp"
      exact ⟨_, rfl, rfl⟩
    · walk_at "co sp"
      exact ⟨_, rfl, rfl⟩
  rintro v h1 ⟨c, rfl, rfl⟩
  walk_at "co sp"
  refine w_for ?_
  walk_at "co sp"
  refine ⟨6, rfl, ?_⟩
  walk_at "co sp"
  refine w_opt (x := .lst (cut (ns.map Val.int) none (some 6))) rfl ?_
  refine ⟨_, rfl, fun rs s h2 => ∃ (a : Option Val) (x : Int), s = [some (.ro (ns.map .int)), some (.int (k : Nat)), a, none, some (.int c), some (.int x)] ∧ h2 = h1 ∧ ∀ v ∈ rs, ∃ i : Int, v = .int i, fun _ _ _ _ => rfl, ?_, ?_, ⟨none, _, rfl, rfl, fun v mv => ?_⟩⟩
  · rintro s h2 ⟨a, x, rfl, rfl, _⟩
    walk_at "co sp"
    refine w_orP (decide (c < 0)) (decide (100000000000000000 ≤ c)) ?_ (fun _ => ?_) ?_
    · walk_at "co sp"
      exact ⟨rfl, rfl⟩
    · walk_at "co sp"
      refine w_opt (x := .int 100000000000000000) (by kernel_rfl) ?_
      walk_at "co sp"
      exact ⟨rfl, rfl⟩
    refine w_if (fun z => ?_) (fun z => ?_)
    · walk_at "co sp"
      refine w_opt (x := .int (if c < 0 then -c else c)) rfl ?_
      walk_at "co sp"
      exact w_backK (q _ _ _)
    · walk_at "co sp"
      exact w_backK (q _ _ _)
  · rintro v rs s h2 ⟨a, x, rfl, rfl, hr⟩
    obtain ⟨i, rfl⟩ := hr v List.mem_cons_self
    walk_at "co sp"
    refine w_opt (rop_mi (mulOk_r (by decide))) ?_
    walk_at "co sp"
    exact l_next ⟨_, _, rfl, rfl, fun u mu => hr u (List.mem_cons_of_mem _ mu)⟩
  · obtain ⟨i, _, rfl⟩ := List.mem_map.mp (List.mem_of_mem_drop (List.mem_of_mem_take mv))
    exact ⟨i, rfl⟩
end Lk56
end

section
set_option linter.all false
set_option maxRecDepth 100000
set_option autoImplicit false
namespace Lk56
open PySem L2 Co TL
theorem here_ok (d : Nat) {h : Hh} {n : Nat} {many wd : Int} {Q : Val → Hh → Prop} (V : Vat h n) (a : 0 ≤ many) (b : many ≤ 1000) (s0 : 0 ≤ wd) (s1 : wd ≤ 1000000000) (q : ∀ (u : List Int) (h2 : Hh), (u.length : Int) = many → (∀ x ∈ u, -wd ≤ x ∧ x ≤ wd) → Co.Drawn n h h2 → Q (tupI u) h2) : Co.Ends (runF pg (d + 2) 51 [.ref n, .int many, .int wd] h) Q := by
  refine run_s (fn := f51) (s := [some (.ref n), some (.int many), some (.int wd), none]) rfl rfl rfl ?_
  unfold f51
  dsimp only
  refine w_seq (w_ret (w_callB (w_cons rfl ?_)))
  refine w_compI2 ?_
  walk_at "co sp"
  refine ⟨_, rfl, by omega, by show (rangeL 0 many.toNat).length ≤ 16777216; rw [range_len]; omega, fun dn acc hh => Co.Drawn n h hh ∧ ∃ u : List Int, acc = u.map .int ∧ u.length = dn.length ∧ ∀ x ∈ u, -wd ≤ x ∧ x ≤ wd, fun _ _ _ _ => rfl, ⟨V.refl, [], rfl, rfl, by simp⟩, ?_, ?_⟩
  · rintro v _ dn acc hh ⟨D, u, rfl, e1, e2⟩
    refine cStep_of rfl ?_
    walk_at "co sp"
    refine ⟨fun _ => ?_, fun z => nomatch z⟩
    walk_at "co sp"
    refine draw (D.vat V) (by omega) (by omega) fun x h2 x0 x1 D2 => ?_
    walk_at "co sp"
    refine ⟨D.trans D2, u ++ [x - wd], by rw [List.map_append]; rfl, by simp [e1], fun y my => ?_⟩
    rcases List.mem_append.mp my with m | m
    · exact e2 y m
    · rw [List.mem_singleton.mp m]; omega
  · rintro r h2 ⟨D, u, rfl, e1, e2⟩
    rw [range_len] at e1
    walk_at "co sp"
    refine w_backF (fz_tupI u) ?_
    rw [List.take_of_length_le (by rw [D.len]; exact Nat.le_refl _)]
    exact q u h2 (by omega) e2 D
theorem law_int_ok (d : Nat) {h : Hh} {v : Val} (f : fz v = true) : runF pg (d + 1) 54 [v] h = .ok (.bl (isZ v)) h := by
  refine gives_ends ?_
  refine run_s (fn := f54) (s := [some v]) rfl rfl rfl ?_
  unfold f54
  dsimp only
  refine w_seq (w_ret ?_)
  refine w_andP (isIns h .int v) (!isIns h .bool v) ?_ (fun z => ?_) ?_
  · walk_at "co sp"
    exact ⟨kind_fz f, rfl, rfl⟩
  · walk_at "co sp"
    exact ⟨kind_fz f, _, rfl, rfl, rfl⟩
  · walk_at "co sp"
    rw [List.take_length, isI_int f]
    exact ⟨rfl, rfl⟩
theorem law_led_ok (d : Nat) {h : Hh} {m : Mat} {v : List Int} {k : Nat} (q : Sqr m) (b : Bdd 1000000000 m) (lv : v.length = m.length) (l : m.length ≤ 16000000) (hk : k ≤ 16000000) : runF pg (d + 1) 41 [rowsV m, tupI v, .int (k : Nat)] h = .ok (tupI (itM m k v)) h := by
  refine gives_ends ?_
  refine run_s (fn := f41) (s := [some (rowsV m), some (tupI v), some (.int (k : Nat)), none, none, none, none]) rfl rfl rfl ?_
  unfold f41
  dsimp only
  walk_at "co sp"
  refine w_for ?_
  walk_at "co sp"
  refine ⟨_, rfl, by omega, fun rs s h2 => ∃ (w : List Int) (a : Option Val), s = [some (rowsV m), some (tupI w), some (.int (k : Nat)), a, none, none, none] ∧ h2 = h ∧ w.length = m.length ∧ itM m rs.length w = itM m k v, fun _ _ _ _ => rfl, ?_, ?_, ⟨v, none, rfl, rfl, lv, ?_⟩⟩
  · rintro s h2 ⟨w, a, rfl, rfl, lw, e⟩
    walk_at "co sp"
    refine w_backF (fz_tupI _) ?_
    rw [List.take_length, ← e]
    exact ⟨rfl, rfl⟩
  · rintro x rs s h2 ⟨w, a, rfl, rfl, lw, e⟩
    walk_at "co sp"
    refine w_tupP m (fun r => .lst (r.map .int)) (fun r => .int (dot r w)) ?_ (by omega) (fun r hr => ⟨_, rfl, ?_⟩) ?_
    · walk_at "co sp"
      exact ⟨_, rfl, rfl, rfl, rfl⟩
    · have lr := q r hr
      refine w_sumP (List.zip r w) (fun p => .tup [.int p.1, .int p.2]) (fun p => p.1 * p.2) ?_ (by rw [List.length_zip]; omega) (fun p hp => ⟨_, rfl, ?_⟩) ⟨?_, rfl⟩
      · walk_at "co sp"
        refine ⟨_, _, rfl, rfl, ?_, rfl, rfl⟩
        exact pairs_map r w
      · walk_at "co sp"
        refine w_opt (rop_mi (mulOk_l ?_)) ⟨rfl, rfl⟩
        have := b r hr p.1 (List.of_mem_zip hp).1
        omega
      · unfold dot
        rw [← List.map_uncurry_zip_eq_zipWith]
        rfl
    have e2 : Val.tup (m.map fun r => Val.int (dot r w)) = tupI (ledM m w) := by unfold tupI ledM; rw [List.map_map]; rfl
    rw [e2]
    walk_at "co sp"
    exact l_next ⟨ledM m w, _, rfl, rfl, ledM_len, e⟩
  · dsimp only
    rw [Int.toNat_natCast, rangeL_map, List.length_map, List.length_range]
def retI : Option Nat → Int
  | some k => (k : Nat)
  | none => 0
theorem law_return_ok (d : Nat) {h : Hh} {m : Mat} {v : List Int} (q : Sqr m) (b : Bdd 1000000000 m) (lv : v.length = m.length) (l : m.length ≤ 16000000) : runF pg (d + 2) 42 [rowsV m, tupI v] h = .ok (.int (retI (perM 60 m v))) h := by
  refine gives_ends ?_
  refine run_s (fn := f42) (s := [some (rowsV m), some (tupI v), none, none]) rfl rfl rfl ?_
  unfold f42
  dsimp only
  walk_at "co sp"
  refine w_for ?_
  walk_at "co sp"
  refine ⟨_, _, rfl, rfl, by omega, fun rs s h2 => ∃ (w : List Int) (t n : Nat) (a : Option Val), s = [some (rowsV m), some (tupI v), some (tupI w), a] ∧ h2 = h ∧ w.length = m.length ∧ rs = rangeL ((t : Int) + 1) n ∧ retM m v n t w = perM 60 m v, fun _ _ _ _ => rfl, ?_, ?_, ⟨v, 0, 60, none, rfl, rfl, lv, rfl, rfl⟩⟩
  · rintro s h2 ⟨w, t, n, a, rfl, rfl, lw, e0, e⟩
    have : n = 0 := by cases n with | zero => rfl | succ n => cases e0
    subst this
    walk_at "co sp"
    rw [List.take_length, ← e]
    exact ⟨rfl, rfl⟩
  · rintro x rs s h2 ⟨w, t, n, a, rfl, rfl, lw, e0, e⟩
    obtain ⟨n, rfl⟩ : ∃ j, n = j + 1 := by cases n with | zero => cases e0 | succ n => exact ⟨n, rfl⟩
    simp only [rangeL, List.cons.injEq] at e0
    obtain ⟨rfl, rfl⟩ := e0
    walk_at "co sp"
    refine ends_of (show runF pg (d + 1) 41 [rowsV m, tupI w, .int 1] h2 = .ok (tupI (ledM m w)) h2 from law_led_ok d (k := 1) q b lw l (by decide)) ?_
    walk_at "co sp"
    simp only [retM] at e
    refine w_if (fun z => ?_) (fun z => ?_)
    · walk_at "co sp"
      rw [if_pos (of_decide_eq_true z)] at e
      refine ⟨(fun y => nomatch y), (fun y => nomatch y), (fun y => nomatch y), fun y hy => ?_⟩
      cases hy
      walk_at "co sp"
      rw [List.take_length, ← e]
      exact ⟨rfl, rfl⟩
    · walk_at "co sp"
      rw [if_neg (of_decide_eq_false z)] at e
      exact l_next ⟨ledM m w, t + 1, n, _, rfl, rfl, ledM_len, rfl, e⟩
theorem ret_late (o : Option Nat) (h : ∀ k, o = some k → 0 < k) (i : Int) : retIs o (.int i) = (decide (0 < i) && decide (retI o = i)) := by
  cases o with
  | none =>
    rw [Bool.eq_iff_iff]
    simp only [Bool.and_eq_true,
                            decide_eq_true_eq]
    constructor
    · intro z; cases z
    · rintro ⟨a, b⟩
      have b : (0 : Int) = i := b
      omega
  | some k =>
    have := h k rfl
    rw [Bool.eq_iff_iff]
    show decide ((k : Int) = i) = true ↔ _
    simp only [Bool.and_eq_true,
                            decide_eq_true_eq]
    constructor
    · intro z; exact ⟨by omega, z⟩
    · rintro ⟨_, b⟩; exact b
theorem per_pos {N : Nat} {m : Mat} {v : List Int} : ∀ k, perM N m v = some k → 0 < k := fun k e => (perM_some.mp e).1
end Lk56
end

section
set_option linter.all false
set_option maxRecDepth 100000
set_option autoImplicit false
namespace Lk56
open PySem L2 Co TL
theorem abs_int {h : Hh} {i : Int} : Co.bi .abs (asL [.int i] h) = some (.int (if i < 0 then -i else i)) := rfl
theorem btw_abs (i : Int) : decide (1000000000 < (if i < 0 then -i else i)) = !btw (.int i) (-1000000000) 1000000000 := by
  simp only [btw]
  rw [Bool.eq_iff_iff]
  simp only [decide_eq_true_eq, Bool.not_eq_true', Bool.and_eq_false_iff, decide_eq_false_iff_not]
  split <;> omega
theorem law_ints_ok (d : Nat) {h : Hh} {v : Val} (f : fz v = true) (l : ∀ vs, v = .tup vs → vs.length ≤ 16777216) : runF pg (d + 2) 55 [v] h = .ok (.bl (numsV v)) h := by
  refine gives_ends ?_
  refine run_s (fn := f55) (s := [some v, none]) rfl rfl rfl ?_
  unfold f55
  dsimp only
  walk_at "co sp"
  refine ⟨kind_fz f, _, rfl, ?_⟩
  refine w_if (fun z => ?_) (fun z => ?_)
  · walk_at "co sp"
    rw [List.take_length]
    refine ⟨?_, rfl⟩
    cases v <;> first | rfl | (simp [isIns] at z; done)
  · obtain ⟨vs, rfl⟩ : ∃ vs, v = .tup vs := isI_tup f (by simpa using z)
    walk_at "co sp"
    refine w_compF1 vs id id (fun u => !btw u (-1000000000) 1000000000) ?_ (l vs rfl) (fun u hu => ⟨_, rfl, ?_, fun _ => ?_⟩) ?_
    · walk_at "co sp"
      exact ⟨_, rfl, by simp, rfl, rfl⟩
    · have fu := fzL_all.mp f u hu
      refine w_orP (!isZ u) (!btw u (-1000000000) 1000000000) ?_ (fun z => ?_) ⟨?_, rfl⟩
      · walk_at "co sp"
        exact ends_of (law_int_ok d fu) ⟨_, rfl, rfl, rfl⟩
      · obtain ⟨i, rfl⟩ := isZ_int (v := u) (by simpa using z)
        walk_at "co sp"
        refine w_opt abs_int ?_
        walk_at "co sp"
        refine w_opt (x := .int 1000000000) (by kernel_rfl) ?_
        walk_at "co sp"
        exact ⟨by rw [btw_abs], rfl⟩
      · cases u <;> rfl
    · walk_at "co sp"
      exact ⟨rfl, rfl⟩
    · walk_at "co sp"
      rw [List.take_length]
      refine ⟨?_, rfl⟩
      congr 1
      simp only [List.map_id, numsV]
      rw [Bool.eq_iff_iff]
      simp [List.isEmpty_iff, List.filter_eq_nil_iff, List.all_eq_true]
/-- a value that may be bent: no truth in it, tuples so deep at most -/
def lev : Nat → Val → Prop
  | 0, v => match v with
    | .tup _ => False
    | .bl _ => False
    | _ => True
  | k + 1, v => match v with
    | .tup vs => vs.length ≤ 1000 ∧ (toD 60 (.tup vs)).isSome = true ∧ ∀ u ∈ vs, lev k u
    | .bl _ => False
    | _ => True
theorem eqD_nilT {vs : List Val} (h : (toD 60 (.tup vs)).isSome = true) : eqD (.tup vs) (.tup []) = some vs.isEmpty := by
  obtain ⟨d, e⟩ := Option.isSome_iff_exists.mp h
  simp only [toD, Option.map_eq_some_iff] at e
  obtain ⟨ds, e1, rfl⟩ := e
  have el : ds.isEmpty = vs.isEmpty := by
    cases vs with
    | nil => simp [toDL] at e1; subst e1; rfl
    | cons v r =>
      simp only [toDL, Option.bind_eq_some_iff, Option.map_eq_some_iff] at e1
      obtain ⟨_, _, _, _, rfl⟩ := e1
      rfl
  simp only [eqD, toD, e1, toDL, Option.map_some, Option.bind_some, PyData.eqv]
  rw [← el]
  cases ds <;> rfl
theorem fzL_cut {vs : List Val} (h : fzL vs = true) (lo hi : Option Int) : fzL (cut vs lo hi) = true := fzL_all.mpr fun v m => fzL_all.mp h v (List.mem_of_mem_drop (List.mem_of_mem_take m))
theorem fzL_app {a b : List Val} (ha : fzL a = true) (hb : fzL b = true) : fzL (a ++ b) = true := fzL_all.mpr fun v m => by
  rcases List.mem_append.mp m with m | m
  · exact fzL_all.mp ha v m
  · exact fzL_all.mp hb v m
theorem cut_le {vs : List Val} (lo hi : Option Int) : (cut vs lo hi).length ≤ vs.length := by
  unfold cut
  rw [List.length_take,
                          List.length_drop]
  omega
theorem sl_tup {h : Hh} {vs : List Val} {lo hi : Option Int} : sliceV (rd h (.tup vs)) lo hi = some (.tup (cut vs lo hi)) := rfl
theorem add_tup {h h2 : Hh} {a b : List Val} (l : a.length + b.length ≤ 16777216) : bop .Add (rd h (.tup a)) (rd h2 (.tup b)) = some (.tup (a ++ b)) := by
  show (if a.length + b.length ≤ lim then some (Val.tup (a ++ b)) else none) = _
  rw [if_pos l]
/-- what a bent value is -/
def bentOk (r : Val) : Prop := fz r = true ∧ ∀ vs, r = .tup vs → vs.length ≤ 2003
def oddL (v : Val) : List Val := [.non, .lst [], .str ⟨⟨[]⟩⟩, .int (-1), .int 7, .dct [], .tup [v], .tup [.int 1, .int 2], .bl true, .bl false, .int 0, .tup [], .tup [.int 0], .tup [.tup [.int 1]], .int 1000000001]
theorem odd_good {v : Val} (f : fz v = true) : ∀ r ∈ oddL v, bentOk r := by
  intro r m
  simp only [oddL, List.mem_cons, List.not_mem_nil, or_false] at m
  rcases m with rfl | rfl | rfl | rfl | rfl | rfl | rfl | rfl | rfl | rfl | rfl | rfl | rfl | rfl | rfl <;>
    exact ⟨by simp [fz, fzL, fzK, f], fun vs e => by cases e <;> simp⟩
theorem bent_ok : ∀ (k d : Nat) {h : Hh} {n : Nat} {v : Val} {Q : Val → Hh → Prop} (_ : Vat h n) (_ : fz v = true) (_ : lev k v) (_ : ∀ (r : Val) (h2 : Hh), bentOk r → Co.Drawn n h h2 → Q r h2), Co.Ends (runF pg (d + k + 3) 52 [.ref n, v] h) Q := by
  intro k
  induction k with
  | zero =>
    intro d h n v Q V f lv q
    have tk : ∀ {hh : Hh}, Co.Drawn n h hh → Co.Drawn n h (hh.take h.length) := fun {hh} D => by
      rw [List.take_of_length_le (by rw [D.len]; exact Nat.le_refl _)]; exact D
    refine run_s (fn := f52) (s := [some (.ref n), some v, none, none, none]) rfl rfl rfl ?_
    unfold f52
    dsimp only
    walk_at "co sp"
    refine ⟨⟨rfl, by decide, by decide⟩, ?_⟩
    walk_at "co sp"
    refine w_opt (x := .int 1000000000) (by kernel_rfl) ?_
    walk_at "co sp"
    refine w_orP true true ?_ (fun z => nomatch z) ?_
    · walk_at "co sp"
      refine ⟨kind_fz f, _, rfl, ?_, rfl⟩
      cases v <;> first | rfl | (exact absurd lv id)
    refine w_if (fun _ => ?_) (fun z => nomatch z)
    walk_at "co sp"
    refine one_of (some_ := oddL v) V (by simp [oddL]) (by simp [oddL]) (fun u mu => fz_below 0 u (odd_good f u mu).1) fun r h2 mr D => ?_
    have g := odd_good f r mr
    exact w_out (w_out (w_backF g.1 (q r _ g (tk D))))
  | succ k ih =>
    intro d h n v Q V f lv q
    have tk : ∀ {hh : Hh}, Co.Drawn n h hh → Co.Drawn n h (hh.take h.length) := fun {hh} D => by
      rw [List.take_of_length_le (by rw [D.len]; exact Nat.le_refl _)]; exact D
    refine run_s (d := d + (k + 1) + 2) (fn := f52) (s := [some (.ref n), some v, none, none, none]) rfl rfl rfl ?_
    unfold f52
    dsimp only
    walk_at "co sp"
    refine ⟨⟨rfl, by decide, by decide⟩, ?_⟩
    walk_at "co sp"
    refine w_opt (x := .int 1000000000) (by kernel_rfl) ?_
    walk_at "co sp"
    by_cases tup : ∃ u us, v = .tup (u :: us)
    · obtain ⟨u0, us, rfl⟩ := tup
      generalize hvs : u0 :: us = vs at f lv ⊢
      have hne : 0 < vs.length := by rw [← hvs]; simp
      obtain ⟨l1, dt, lu⟩ := lv
      have fl : fzL vs = true := f
      refine w_orP false false ?_ (fun _ => ?_) ?_
      · walk_at "co sp"
        exact ⟨rfl, _, rfl, rfl, rfl⟩
      · walk_at "co sp"
        refine w_cop (eqD_nilT dt) ⟨?_, rfl⟩
        rw [← hvs]
        rfl
      refine w_if (fun z => nomatch z) (fun _ => ?_)
      walk_at "co sp"
      refine draw V (by omega) (by omega) fun x h2 x0 x1 D2 => ?_
      walk_at "co sp"
      refine draw (D2.vat V) (by decide) (by decide) fun y h3 y0 y1 D3 => ?_
      have D := D2.trans D3
      have xl : x.toNat < vs.length := by omega
      have eidx : ∀ hh : Hh, idxV (rd hh (.tup vs)) (.int x) = some vs[x.toNat] := fun hh => atI_at x.toNat (List.getElem?_eq_getElem xl) (by omega)
      have fx := fzL_all.mp fl _ (List.getElem_mem xl)
      have lx := lu _ (List.getElem_mem xl)
      generalize vs[x.toNat] = vx at eidx fx lx
      walk_at "co sp"
      refine w_if (fun z => ?_) (fun _ => ?_)
      · walk_at "co sp"
        refine ⟨_, rfl, ?_⟩
        walk_at "co sp"
        refine w_opt sl_tup ?_
        walk_at "co sp"
        refine ⟨_, rfl, ?_⟩
        walk_at "co sp"
        refine w_opt sl_tup ?_
        have c1 := cut_le (vs := vs) none (some x)
        have c2 := cut_le (vs := vs) (some (x + 1)) none
        refine w_opt (add_tup (by omega)) ?_
        have g : bentOk (.tup (cut vs none (some x) ++ cut vs (some (x + 1)) none)) := ⟨fzL_app (fzL_cut fl _ _) (fzL_cut fl _ _), fun ws e => by cases e; rw [List.length_append]; omega⟩
        exact w_out (w_out (w_backF g.1 (q _ _ g (tk D))))
      walk_at "co sp"
      refine w_if (fun z => ?_) (fun _ => ?_)
      · walk_at "co sp"
        refine ⟨_, rfl, ?_⟩
        walk_at "co sp"
        refine ⟨_, rfl, ?_⟩
        walk_at "co sp"
        refine w_opt sl_tup ?_
        have c1 := cut_le (vs := vs) (some x) (some (x + 1))
        refine w_opt (add_tup (by omega)) ?_
        have g : bentOk (.tup (vs ++ cut vs (some x) (some (x + 1)))) := ⟨fzL_app fl (fzL_cut fl _ _), fun ws e => by cases e; rw [List.length_append]; omega⟩
        exact w_out (w_out (w_backF g.1 (q _ _ g (tk D))))
      walk_at "co sp"
      refine w_if (fun z => ?_) (fun _ => ?_)
      · walk_at "co sp"
        refine ⟨_, rfl, ?_⟩
        walk_at "co sp"
        refine w_opt sl_tup ?_
        refine w_rev ?_
        walk_at "co sp"
        refine ⟨_, rfl, ?_⟩
        walk_at "co sp"
        refine w_opt sl_tup ?_
        have c1 := cut_le (vs := vs) none (some x)
        have c2 := cut_le (vs := vs) (some x) none
        refine .inr ⟨_, rfl, ?_⟩
        refine w_opt (add_tup (by rw [List.length_reverse]; omega)) ?_
        have g : bentOk (.tup (cut vs none (some x) ++ (cut vs (some x) none).reverse)) := ⟨fzL_app (fzL_cut fl _ _) (fzL_all.mpr fun v m => fzL_all.mp (fzL_cut fl (some x) none) v (List.mem_reverse.mp m)), fun ws e => by cases e; rw [List.length_append, List.length_reverse]; omega⟩
        exact w_out (w_out (w_backF g.1 (q _ _ g (tk D))))
      walk_at "co sp"
      refine w_if (fun z => ?_) (fun _ => ?_)
      · walk_at "co sp"
        refine w_opt (eidx _) ?_
        walk_at "co sp"
        refine one_of (some_ := [.lst vs, .tup [.tup vs], .non, vx]) (D.vat V) (by simp) (by simp) (fun u mu => ?_) fun r h4 mr D4 => ?_
        · simp only [List.mem_cons, List.not_mem_nil, or_false] at mu
          rcases mu with rfl | rfl | rfl | rfl
          · exact fz_below 0 _ fl
          · exact fz_below 0 _ (by simp [fz, fzL, fl])
          · rfl
          · exact fz_below 0 _ fx
        have g : bentOk r := by
          simp only [List.mem_cons, List.not_mem_nil, or_false] at mr
          rcases mr with rfl | rfl | rfl | rfl
          · exact ⟨fl, fun ws e => nomatch e⟩
          · exact ⟨by simp [fz, fzL, fl], fun ws e => by cases e; simp⟩
          · exact ⟨rfl, fun ws e => nomatch e⟩
          · refine ⟨fx, fun ws e => ?_⟩
            subst e
            cases k with
            | zero => exact absurd lx id
            | succ k => have := lx.1; omega
        exact w_out (w_out (w_backF g.1 (q _ _ g (tk (D.trans D4)))))
      walk_at "co sp"
      have isx : ∀ hh : Hh, isIns hh .int vx = isZ vx := fun hh => by
        cases k <;> cases vx <;> first | rfl | (exact absurd lx id) | cases fx
      refine w_andP (decide (y < 7)) (isZ vx) ?_ (fun _ => ?_) ?_
      · walk_at "co sp"
        exact ⟨rfl, rfl⟩
      · walk_at "co sp"
        refine w_opt (eidx _) ?_
        exact ⟨kind_fz fx, by rw [isx], rfl⟩
      refine w_if (fun z => ?_) (fun _ => ?_)
      · have zx : isZ vx = true := by
          simp only [Bool.and_eq_true] at z
          exact z.2
        obtain ⟨i, rfl⟩ := isZ_int zx
        walk_at "co sp"
        refine ⟨_, rfl, ?_⟩
        walk_at "co sp"
        refine w_opt sl_tup ?_
        walk_at "co sp"
        refine w_opt (eidx _) ?_
        walk_at "co sp"
        refine one_of (some_ := [.int 1, .int (-1), .int 2, .int (-5)]) (D.vat V) (by simp) (by simp) (by simp [below]) fun bv h8 hbv D8 => ?_
        obtain ⟨bw, rfl⟩ : ∃ i : Int, bv = .int i := by
          simp only [List.mem_cons, List.not_mem_nil, or_false] at hbv
          rcases hbv with rfl | rfl | rfl | rfl <;> exact ⟨_, rfl⟩
        walk_at "co sp"
        have c1 := cut_le (vs := vs) none (some x)
        have c2 := cut_le (vs := vs) (some (x + 1)) none
        refine w_opt (add_tup (by simp only [List.length_cons, List.length_nil]; omega)) ?_
        walk_at "co sp"
        refine ⟨_, rfl, ?_⟩
        walk_at "co sp"
        refine w_opt sl_tup ?_
        refine w_opt (add_tup (by rw [List.length_append]; simp only [List.length_cons, List.length_nil]; omega)) ?_
        have g : bentOk (.tup (cut vs none (some x) ++ [.int (i + bw)] ++ cut vs (some (x + 1)) none)) := ⟨fzL_app (fzL_app (fzL_cut fl _ _) rfl) (fzL_cut fl _ _), fun ws e => by cases e; rw [List.length_append, List.length_append]; simp only [List.length_cons, List.length_nil]; omega⟩
        exact w_out (w_out (w_backF g.1 (q _ _ g (tk (D.trans D8)))))
      · walk_at "co sp"
        refine ⟨_, rfl, ?_⟩
        walk_at "co sp"
        refine w_opt sl_tup ?_
        walk_at "co sp"
        refine w_opt (eidx _) ?_
        walk_at "co sp"
        refine ih d (D.vat V) fx lx fun r h8 gr D8 => ?_
        walk_at "co sp"
        have c1 := cut_le (vs := vs) none (some x)
        have c2 := cut_le (vs := vs) (some (x + 1)) none
        refine w_opt (add_tup (by simp only [List.length_cons, List.length_nil]; omega)) ?_
        walk_at "co sp"
        refine ⟨_, rfl, ?_⟩
        walk_at "co sp"
        refine w_opt sl_tup ?_
        refine w_opt (add_tup (by rw [List.length_append]; simp only [List.length_cons, List.length_nil]; omega)) ?_
        have g : bentOk (.tup (cut vs none (some x) ++ [r] ++ cut vs (some (x + 1)) none)) := ⟨fzL_app (fzL_app (fzL_cut fl _ _) (by simp [fzL, gr.1])) (fzL_cut fl _ _), fun ws e => by cases e; rw [List.length_append, List.length_append]; simp only [List.length_cons, List.length_nil]; omega⟩
        exact w_out (w_backF g.1 (q _ _ g (tk (D.trans D8))))
    · have good : Co.Ends (runF pg (d + (k + 1) + 2) 39 [.ref n, .lst (oddL v)] h) fun r h2 => bentOk r ∧ Co.Drawn n h h2 := by
        have := one_of (d := d + (k + 1)) (some_ := oddL v) (Q := fun r h2 => bentOk r ∧ Co.Drawn n h h2) V (by simp [oddL]) (by simp [oddL]) (fun u mu => fz_below 0 u (odd_good f u mu).1) fun r h2 mr D => ⟨odd_good f r mr, D⟩
        exact this
      refine w_orP (!isIns h .tuple v) (isIns h .tuple v) ?_ (fun z => ?_) ?_
      · walk_at "co sp"
        exact ⟨kind_fz f, _, rfl, rfl, rfl⟩
      · obtain ⟨vs, rfl⟩ := isI_tup f (by simpa using z)
        cases vs with
        | cons u us => exact absurd ⟨u, us, rfl⟩ tup
        | nil =>
          walk_at "co sp"
          exact w_cop (k := true) (by kernel_rfl) ⟨rfl, rfl⟩
      refine w_if (fun _ => ?_) (fun z => absurd z (by cases isIns h .tuple v <;> simp))
      walk_at "co sp"
      refine good.mono fun r h2 ⟨g, D⟩ => ?_
      exact w_out (w_out (w_backF g.1 (q r _ g (tk D))))
end Lk56
end

section
set_option linter.all false
set_option maxRecDepth 100000
set_option autoImplicit false
namespace Lk56
open PySem L2 Co TL
theorem law_lone_ok (d : Nat) {h : Hh} {n : Nat} {k : Int} (l : n ≤ 16000000) : runF pg (d + 1) 43 [.int (n : Nat), .int k] h = .ok (tupI (loneI n k)) h := by
  refine gives_ends ?_
  refine run_s (fn := f43) (s := [some (.int (n : Nat)), some (.int k), none]) rfl rfl rfl ?_
  unfold f43
  dsimp only
  refine w_seq (w_ret ?_)
  refine w_tupP (List.range n) (fun i => .int (i : Nat)) (fun (j : Nat) => .int (if (j : Int) = k then 1 else 0)) ?_ (by rw [List.length_range]; omega) (fun i hi => ⟨_, rfl, ?_⟩) ?_
  · walk_at "co sp"
    refine ⟨_, rfl, by omega, ?_, rfl, rfl⟩
    dsimp only
    rw [Int.toNat_natCast, rangeL_map]
  · walk_at "co sp"
    refine ⟨?_, rfl⟩
    congr 1
    by_cases z : (i : Int) = k <;> simp [z]
  · walk_at "co sp"
    have e : Val.tup ((List.range n).map fun (j : Nat) => Val.int (if (j : Int) = k then 1 else 0)) = tupI (loneI n k) := by unfold tupI loneI; rw [List.map_map]; rfl
    rw [e]
    refine w_backF (fz_tupI _) ?_
    rw [List.take_length]
    exact ⟨rfl, rfl⟩
theorem ne_bool {h h2 : Hh} {a b : Bool} : cop .NotEq (rd h (.bl a)) (rd h2 (.bl b)) = some (a != b) := by cases a <;> cases b <;> rfl
theorem zeros_val {h h2 : Hh} {k : Int} (a : 1 ≤ k) (b : k ≤ 1000) : bop .Mult (rd h (.tup [.int 0])) (rd h2 (.int k)) = some (tupI (List.replicate k.toNat 0)) := by
  show (if [Val.int 0] ≠ [] ∧ 1 ≤ k ∧ k ≤ 1000 ∧ [Val.int 0].length ≤ 1000 then some (Val.tup (List.replicate k.toNat [Val.int 0]).flatten) else none) = _
  rw [if_pos ⟨by simp, a, b, by simp⟩]
  have : ∀ n : Nat, (List.replicate n [Val.int 0]).flatten = (List.replicate n (0 : Int)).map .int := fun n => by
    induction n with
    | zero => rfl
    | succ n ih => rw [List.replicate_succ, List.flatten_cons, ih]; rfl
  rw [this]
  rfl
theorem lev_tupI {u : List Int} (l : u.length ≤ 1000) : lev 1 (tupI u) := by
  refine ⟨by rw [List.length_map]; exact l, by rw [show Val.tup (u.map .int) = tupI u from rfl, toD_tupI 58]; rfl, fun x mx => ?_⟩
  obtain ⟨i, _, rfl⟩ := List.mem_map.mp mx
  trivial
theorem bent_tupI {u : List Int} (l : u.length ≤ 2003) : bentOk (tupI u) := ⟨fz_tupI u, fun vs e => by unfold tupI at e; cases e; rw [List.length_map]; exact l⟩
end Lk56
end

section
set_option linter.all false
set_option maxRecDepth 100000
set_option autoImplicit false
namespace Lk56
open PySem L2 Co TL
def lateV (m : Mat) (o : Option (List Int)) : Bool := match o with
  | some u => decide (retI (perM 60 m u) = 0)
  | none => false
theorem judge {m : Mat} {cv : Val} (q : Sqr m) (l : m.length ≤ 6) : nbRows m cv = (numsV cv && (tupLen cv m.length && lateV m (stOf cv m.length))) := by
  unfold nbRows
  have e := stOf_ok cv m.length
  rw [← Bool.and_assoc, e]
  cases c : stOf cv m.length with
  | none => rfl
  | some u =>
    obtain ⟨_, lu, _⟩ := stOf_some c
    simp only [lateV, Option.isSome_some, Bool.true_and, per_bound q l lu]
    cases c2 : perM 30 m u with
    | none => rfl
    | some k =>
      have := (perM_some.mp c2).1
      show false = decide ((k : Int) = 0)
      rw [decide_eq_false
                              (by omega)]
theorem right_ok (d : Nat) {h : Hh} {n : Nat} (V : Vat h n) : Co.Ends (runF pg (d + 8) 56 [.ref n] h) fun v h2 => v = .bl true ∧ Co.Drawn n h h2 := by
  refine run_s (fn := f56) (s := [some (.ref n), none, none, none, none, none, none]) rfl rfl rfl ?_
  unfold f56
  dsimp only
  walk_at "co sp"
  refine w_for ?_
  walk_at "co sp"
  refine ⟨_, rfl, by decide, fun rs s h2 => ∃ (a b c e f g : Option Val), s = [some (.ref n), a, b, c, e, f, g] ∧ Co.Drawn n h h2, fun _ _ _ _ => rfl, ?_, ?_, ⟨none, none, none, none, none, none, rfl, V.refl⟩⟩
  · rintro s h2 ⟨a, b, c, e, f, g, rfl, D⟩
    walk_at "co sp"
    rw [List.take_of_length_le (by rw [D.len]; exact Nat.le_refl _)]
    exact ⟨rfl, D⟩
  · rintro v rs s h2 ⟨a, b, c, e, f, g, rfl, D⟩
    walk_at "co sp"
    refine any_ok (d + 2) (D.vat V) (by decide) (by decide) fun m k h3 k1 k5 hm D3 => ?_
    have D3 := D.trans D3
    have hm9 : Sq k 1000000000 m := hm.mono (by decide)
    have qm := hm9.sqr
    have bm := hm9.bdd
    have lm : m.length = k := hm.1
    have km : 1 ≤ m.length := by rw [lm]; exact k1
    have k6 : m.length ≤ 6 := by omega
    have rd_m : readT (textT m) = some m := readT_text (by intro e; rw [e] at km; simp at km) qm k6 bm
    walk_at "co sp"
    refine w_for ?_
    walk_at "co sp"
    refine ⟨_, rfl, by decide, fun rs s h2 => ∃ (c e f g : Option Val), s = [some (.ref n), some v, some (rowsV m), c, e, f, g] ∧ Co.Drawn n h h2, fun _ _ _ _ => rfl, ?_, ?_, ⟨_, _, _, _, rfl, D3⟩⟩
    · rintro s h4 ⟨c, e, f, g, rfl, D4⟩
      walk_at "co sp"
      exact l_next ⟨_, _, _, _, _, _, rfl, D4⟩
    · rintro w rs s h4 ⟨c, e, f, g, rfl, D4⟩
      walk_at "co sp"
      refine w_opt (lenRows rfl) ?_
      walk_at "co sp"
      refine w_opt (lenRows rfl) ?_
      walk_at "co sp"
      refine draw (D4.vat V) (by omega) (by omega) fun x h5 x0 x1 D5 => ?_
      have D5 := D4.trans D5
      walk_at "co sp"
      refine ends_of (law_lone_ok (d + 6) (n := m.length) (k := x) (by omega)) ?_
      walk_at "co sp"
      refine w_opt (lenRows rfl) ?_
      walk_at "co sp"
      refine here_ok (d + 5) (D5.vat V) (by omega) (by omega) (by decide) (by decide) fun u h6 lu bu D6 => ?_
      have D6 := D5.trans D6
      walk_at "co sp"
      refine w_opt (lenRows rfl) ?_
      walk_at "co sp"
      refine w_opt (zeros_val (by omega) (by omega)) ?_
      walk_at "co sp"
      refine one_of (some_ := [tupI (loneI m.length x), tupI (loneI m.length x), tupI u, tupI (List.replicate (m.length : Int).toNat 0), .non]) (D6.vat V) (by simp) (by simp) (fun x mx => ?_) fun pv h7 hpv D7 => ?_
      · simp only [List.mem_cons, List.not_mem_nil, or_false] at mx
        rcases mx with rfl | rfl | rfl | rfl | rfl <;> first | exact fz_below 0 _ (fz_tupI _) | rfl
      have D7 := D6.trans D7
      have hp : (∃ u2 : List Int, pv = tupI u2 ∧ u2.length ≤ 1000) ∨ pv = .non := by
        simp only [List.mem_cons, List.not_mem_nil, or_false] at hpv
        rcases hpv with rfl | rfl | rfl | rfl | rfl
        · exact .inl ⟨_, rfl, by rw [loneI_len]; omega⟩
        · exact .inl ⟨_, rfl, by rw [loneI_len]; omega⟩
        · exact .inl ⟨_, rfl, by omega⟩
        · exact .inl ⟨_, rfl, by rw [List.length_replicate]; omega⟩
        · exact .inr rfl
      have fpv : fz pv = true ∧ lev 1 pv ∧ bentOk pv := by
        rcases hp with ⟨u2, rfl, l2⟩ | rfl
        · exact ⟨fz_tupI _, lev_tupI l2, bent_tupI (by omega)⟩
        · exact ⟨rfl, trivial, rfl, fun vs e => nomatch e⟩
      clear hpv hp
      refine w_name rfl (w_go ?_)
      refine w_seq (Ends.mono (P := fun p h1 => ∃ cv, p = (.next, [some (.ref n), some v, some (rowsV m), some w, some (tupI (loneI m.length x)), some cv, g]) ∧ bentOk cv ∧ Co.Drawn n h h1) ?_ ?_)
      · walk_at "co sp"
        refine draw (D7.vat V) (by decide) (by decide) fun y h10 y0 y1 D10 => ?_
        have D10 := D7.trans D10
        walk_at "co sp"
        refine w_if (fun _ => ?_) (fun _ => ?_)
        · walk_at "co sp"
          refine bent_ok 1 (d + 3) (D10.vat V) fpv.1 fpv.2.1 fun r h11 gr D11 => ?_
          walk_at "co sp"
          exact ⟨r, rfl, gr, D10.trans D11⟩
        · walk_at "co sp"
          exact ⟨pv, rfl, fpv.2.2, D10⟩
      rintro p h10 ⟨cv, rfl, ⟨fcv, lcv⟩, D10⟩
      have lcv2 : ∀ vs, cv = .tup vs → vs.length ≤ 16777216 := fun vs e => by have := lcv vs e; omega
      refine w_go ?_
      walk_at "co sp"
      have jd := judge (m := m) (cv := cv) qm k6
      refine w_andP (numsV cv) (tupLen cv m.length && lateV m (stOf cv m.length)) ?_ (fun z => ?_) ?_
      · walk_at "co sp"
        exact ends_of (law_ints_ok (d + 5) fcv lcv2) ⟨rfl, rfl⟩
      · obtain ⟨vs, rfl⟩ : ∃ vs, cv = .tup vs := by cases cv <;> first | exact ⟨_, rfl⟩ | cases z
        refine w_andP (tupLen (.tup vs) m.length) (lateV m (stOf (.tup vs) m.length)) ?_ (fun z2 => ?_) ⟨rfl, rfl⟩
        · walk_at "co sp"
          refine w_opt (lenRows rfl) ?_
          walk_at "co sp"
          refine ⟨?_, rfl⟩
          congr 1
          show _ = decide (vs.length = m.length)
          rw [decide_eq_decide]
          omega
        · have sts : (stOf (.tup vs) m.length).isSome = true := by
            rw [← stOf_ok, z, z2]
            rfl
          obtain ⟨u2, eu2⟩ := Option.isSome_iff_exists.mp sts
          obtain ⟨e2, lu2, _⟩ := stOf_some eu2
          rw [eu2, e2]
          walk_at "co sp"
          refine ends_of (law_return_ok (d + 5) qm bm lu2 (by omega)) ?_
          walk_at "co sp"
          exact ⟨rfl, rfl⟩
      rw [← jd]
      walk_at "co sp"
      refine Ends.eq (text_ok (d + 6) (hm.mono (by decide)) (k := k) (by omega)).1 ?_
      walk_at "co sp"
      refine ends_of (asked_ok (d + 6) (accepts_notback d (h := h10) (t := textT m) (cv := cv) (Nat.le_trans (text_short hm9 (k := k) (by omega)) (by decide)) fcv lcv2)) ?_
      have e0 : nbClaim (textT m) cv = nbRows m cv := by unfold nbClaim; rw [rd_m]
      rw [e0]
      walk_at "co sp"
      refine w_cop ne_bool ?_
      refine w_if (fun z => absurd z (by rw [bne_self_eq_false]; exact Bool.false_ne_true)) (fun _ => ?_)
      walk_at "co sp"
      exact l_next ⟨_, _, _, _, rfl, D10⟩
end Lk56
end

section
set_option linter.all false
set_option maxRecDepth 100000
set_option autoImplicit false
namespace Lk56
open PySem L2 Co TL
theorem law_ok (d : Nat) {ns : List Int} (hl : ns.length ≤ 63) : ∃ h, runF pg (d + 9) 57 [.ro (ns.map .int)] [] = .ok (.bl true) h := by
  suffices key : Co.Ends (runF pg (d + 9) 57 [.ro (ns.map .int)] []) fun v _ => v = .bl true by
    obtain ⟨v, h, e, rfl⟩ := key
    exact ⟨h, e⟩
  refine run_s (fn := f57) (s := [some (.ro (ns.map .int)), none]) rfl rfl rfl ?_
  unfold f57
  dsimp only
  walk_at "co sp"
  refine w_for ?_
  walk_at "co sp"
  rw [List.length_map]
  refine w_opt rfl ?_
  walk_at "co sp"
  refine w_opt rfl ?_
  refine ⟨_, rfl, by split <;> (try split) <;> omega, fun rs s h2 => ∃ (a : Option Val), s = [some (.ro (ns.map .int)), a] ∧ ∀ v ∈ rs, ∃ k : Nat, v = .int (k : Nat), fun _ _ _ _ => rfl, ?_, ?_, ⟨none, rfl, fun v mv => ?_⟩⟩
  · rintro s h2 ⟨a, rfl, _⟩
    walk_at "co sp"
    rfl
  · rintro v rs s h2 ⟨a, rfl, hr⟩
    obtain ⟨k, rfl⟩ := hr v List.mem_cons_self
    walk_at "co sp"
    refine vat_ok (d + 7) hl fun x y z => ?_
    walk_at "co sp"
    have V : Vat (h2 ++ [.lst [.int x, .int y, .int z]]) h2.length := ⟨x, y, z, by rw [List.getElem?_append_right (Nat.le_refl _), Nat.sub_self]; rfl⟩
    refine (right_ok d V).mono ?_
    rintro v h3 ⟨rfl, D⟩
    refine ⟨_, rfl, ?_⟩
    refine w_if (fun z => nomatch z) (fun _ => ?_)
    walk_at "co sp"
    exact l_next ⟨_, rfl, fun u mu => hr u (List.mem_cons_of_mem _ mu)⟩
  · dsimp only at mv
    rw [rangeL_map] at mv
    obtain ⟨k, _, rfl⟩ := List.mem_map.mp mv
    exact ⟨k, rfl⟩
end Lk56
end

section
set_option linter.all false
set_option maxRecDepth 100000
namespace Lk56
open PySem L2 Co
theorem run (ns : List Int) (hl : ns.length ≤ 63) (hb : ∀ z ∈ ns, Builtin.Int.intBits z ≤ 1048576) : ∃ h, runF (progOf os) 40 57 [.ro (ns.map .int)] [] = .ok (.bl true) h := by
  rw [pg_eq]
  exact law_ok 31 hl
theorem walk {l : PySem.W.OpenLaw} {q : Program} {loose : List Str} {XP : (Str → Option Value) → Heap → Prop} {YP : World → Heap → Prop} {d : DefRec} {K : Params → PySem.W.Frag} (hn : l.most = some 63) (hdf : d.params.defaults = []) (hY : ∀ (w : World) (h : Heap), YP w h → (K w.params).In h) (hnm : d.name = Str.ofString "law")
    (F : ∀ w : World, AllDefs (K w.params) os ∧ AllNone (K w.params) tab.blt ∧ AllCst (K w.params) tab.cst) :
    PySem.W.WalkO q loose XP YP l.row.toRowW d []
                            (fun f vs => PySem.call f vs) :=
  walkG (n := 63) (d := 40) (f := 57) (x := Str.ofString "_law_cells") (Pg := progOf os) (C := fun _ _ => 0) hn (by decide) hdf ⟨rfl, by decide, by decide⟩ hY
    (fun w mg fa h KX G hmg => law_tab (lo := o57) (t := tab) (os := os) KX G (by rw [hnm] at hmg; exact hmg) rfl rfl rfl oks kwoks (F w).1 (F w).2.1 (F w).2.2 40) run
end Lk56
end

open PySem PySem.W PyProof.Rows Co in
set_option
                        maxRecDepth 100000 in
set_option maxHeartbeats 0 in
theorem PySem.Challenge.cw_countertables_k56_whole_machines_that_ar_holds : PySem.Challenge.rw_countertables_k56_whole_machines_that_ar.Holds := by
  w_on; o_law; k_head;
                          (case hw => w_witness2)
  k_fill
  refine Lk56.walk (l := PySem.Challenge.rw_countertables_k56_whole_machines_that_ar) rfl rfl (fun w h Y => PySem.W.kIn_of Y) rfl ?F
  case F =>
    intro w
    refine ⟨?zD, ?zN, ?zC⟩
    case zD =>
      refine' ⟨def_mk ?za0 ?zl0 ?zc0 ?zk0, ?_⟩
      (case za0 => k_is)
      (case zl0 => k_is)
      (case zc0 => k_is)
      (case zk0 => k_is)
      refine' ⟨def_mk ?za1 ?zl1 ?zc1 ?zk1, ?_⟩
      (case za1 => k_is)
      (case zl1 => k_is)
      (case zc1 => k_is)
      (case zk1 => k_is)
      refine' ⟨def_mk ?za2 ?zl2 ?zc2 ?zk2, ?_⟩
      (case za2 => k_is)
      (case zl2 => k_is)
      (case zc2 => k_is)
      (case zk2 => k_is)
      refine' ⟨def_mk ?za3 ?zl3 ?zc3 ?zk3, ?_⟩
      (case za3 => k_is)
      (case zl3 => k_is)
      (case zc3 => k_is)
      (case zk3 => k_is)
      refine' ⟨def_mk ?za4 ?zl4 ?zc4 ?zk4, ?_⟩
      (case za4 => k_is)
      (case zl4 => k_is)
      (case zc4 => k_is)
      (case zk4 => k_is)
      refine' ⟨def_mk ?za5 ?zl5 ?zc5 ?zk5, ?_⟩
      (case za5 => k_is)
      (case zl5 => k_is)
      (case zc5 => k_is)
      (case zk5 => k_is)
      refine' ⟨def_mk ?za6 ?zl6 ?zc6 ?zk6, ?_⟩
      (case za6 => k_is)
      (case zl6 => k_is)
      (case zc6 => k_is)
      (case zk6 => k_is)
      refine' ⟨def_mk ?za7 ?zl7 ?zc7 ?zk7, ?_⟩
      (case za7 => k_is)
      (case zl7 => k_is)
      (case zc7 => k_is)
      (case zk7 => k_is)
      refine' ⟨def_mk ?za8 ?zl8 ?zc8 ?zk8, ?_⟩
      (case za8 => k_is)
      (case zl8 => k_is)
      (case zc8 => k_is)
      (case zk8 => k_is)
      refine' ⟨def_mk ?za9 ?zl9 ?zc9 ?zk9, ?_⟩
      (case za9 => k_is)
      (case zl9 => k_is)
      (case zc9 => k_is)
      (case zk9 => k_is)
      refine' ⟨def_mk ?za10 ?zl10 ?zc10 ?zk10, ?_⟩
      (case za10 => k_is)
      (case zl10 => k_is)
      (case zc10 => k_is)
      (case zk10 => k_is)
      refine' ⟨def_mk ?za11 ?zl11 ?zc11 ?zk11, ?_⟩
      (case za11 => k_is)
      (case zl11 => k_is)
      (case zc11 => k_is)
      (case zk11 => k_is)
      refine' ⟨def_mk ?za12 ?zl12 ?zc12 ?zk12, ?_⟩
      (case za12 => k_is)
      (case zl12 => k_is)
      (case zc12 => k_is)
      (case zk12 => k_is)
      refine' ⟨def_mk ?za13 ?zl13 ?zc13 ?zk13, ?_⟩
      (case za13 => k_is)
      (case zl13 => k_is)
      (case zc13 => k_is)
      (case zk13 => k_is)
      refine' ⟨def_mk ?za14 ?zl14 ?zc14 ?zk14, ?_⟩
      (case za14 => k_is)
      (case zl14 => k_is)
      (case zc14 => k_is)
      (case zk14 => k_is)
      refine' ⟨def_mk ?za15 ?zl15 ?zc15 ?zk15, ?_⟩
      (case za15 => k_is)
      (case zl15 => k_is)
      (case zc15 => k_is)
      (case zk15 => k_is)
      refine' ⟨def_mk ?za16 ?zl16 ?zc16 ?zk16, ?_⟩
      (case za16 => k_is)
      (case zl16 => k_is)
      (case zc16 => k_is)
      (case zk16 => k_is)
      refine' ⟨def_mk ?za17 ?zl17 ?zc17 ?zk17, ?_⟩
      (case za17 => k_is)
      (case zl17 => k_is)
      (case zc17 => k_is)
      (case zk17 => k_is)
      refine' ⟨def_mk ?za18 ?zl18 ?zc18 ?zk18, ?_⟩
      (case za18 => k_is)
      (case zl18 => k_is)
      (case zc18 => k_is)
      (case zk18 => k_is)
      refine' ⟨def_mk ?za19 ?zl19 ?zc19 ?zk19, ?_⟩
      (case za19 => k_is)
      (case zl19 => k_is)
      (case zc19 => k_is)
      (case zk19 => k_is)
      refine' ⟨def_mk ?za20 ?zl20 ?zc20 ?zk20, ?_⟩
      (case za20 => k_is)
      (case zl20 => k_is)
      (case zc20 => k_is)
      (case zk20 => k_is)
      refine' ⟨def_mk ?za21 ?zl21 ?zc21 ?zk21, ?_⟩
      (case za21 => k_is)
      (case zl21 => k_is)
      (case zc21 => k_is)
      (case zk21 => k_is)
      refine' ⟨def_mk ?za22 ?zl22 ?zc22 ?zk22, ?_⟩
      (case za22 => k_is)
      (case zl22 => k_is)
      (case zc22 => k_is)
      (case zk22 => k_is)
      refine' ⟨def_mk ?za23 ?zl23 ?zc23 ?zk23, ?_⟩
      (case za23 => k_is)
      (case zl23 => k_is)
      (case zc23 => k_is)
      (case zk23 => k_is)
      refine' ⟨def_mk ?za24 ?zl24 ?zc24 ?zk24, ?_⟩
      (case za24 => k_is)
      (case zl24 => k_is)
      (case zc24 => k_is)
      (case zk24 => k_is)
      refine' ⟨def_mk ?za25 ?zl25 ?zc25 ?zk25, ?_⟩
      (case za25 => k_is)
      (case zl25 => k_is)
      (case zc25 => k_is)
      (case zk25 => k_is)
      refine' ⟨def_mk ?za26 ?zl26 ?zc26 ?zk26, ?_⟩
      (case za26 => k_is)
      (case zl26 => k_is)
      (case zc26 => k_is)
      (case zk26 => k_is)
      refine' ⟨def_mk ?za27 ?zl27 ?zc27 ?zk27, ?_⟩
      (case za27 => k_is)
      (case zl27 => k_is)
      (case zc27 => k_is)
      (case zk27 => k_is)
      refine' ⟨def_mk ?za28 ?zl28 ?zc28 ?zk28, ?_⟩
      (case za28 => k_is)
      (case zl28 => k_is)
      (case zc28 => k_is)
      (case zk28 => k_is)
      refine' ⟨def_mk ?za29 ?zl29 ?zc29 ?zk29, ?_⟩
      (case za29 => k_is)
      (case zl29 => k_is)
      (case zc29 => k_is)
      (case zk29 => k_is)
      refine' ⟨def_mk ?za30 ?zl30 ?zc30 ?zk30, ?_⟩
      (case za30 => k_is)
      (case zl30 => k_is)
      (case zc30 => k_is)
      (case zk30 => k_is)
      refine' ⟨def_mk ?za31 ?zl31 ?zc31 ?zk31, ?_⟩
      (case za31 => k_is)
      (case zl31 => k_is)
      (case zc31 => k_is)
      (case zk31 => k_is)
      refine' ⟨def_mk ?za32 ?zl32 ?zc32 ?zk32, ?_⟩
      (case za32 => k_is)
      (case zl32 => k_is)
      (case zc32 => k_is)
      (case zk32 => k_is)
      refine' ⟨def_mk ?za33 ?zl33 ?zc33 ?zk33, ?_⟩
      (case za33 => k_is)
      (case zl33 => k_is)
      (case zc33 => k_is)
      (case zk33 => k_is)
      refine' ⟨def_mk ?za34 ?zl34 ?zc34 ?zk34, ?_⟩
      (case za34 => k_is)
      (case zl34 => k_is)
      (case zc34 => k_is)
      (case zk34 => k_is)
      refine' ⟨def_mk ?za35 ?zl35 ?zc35 ?zk35, ?_⟩
      (case za35 => k_is)
      (case zl35 => k_is)
      (case zc35 => k_is)
      (case zk35 => k_is)
      refine' ⟨def_mk ?za36 ?zl36 ?zc36 ?zk36, ?_⟩
      (case za36 => k_is)
      (case zl36 => k_is)
      (case zc36 => k_is)
      (case zk36 => k_is)
      refine' ⟨def_mk ?za37 ?zl37 ?zc37 ?zk37, ?_⟩
      (case za37 => k_is)
      (case zl37 => k_is)
      (case zc37 => k_is)
      (case zk37 => k_is)
      refine' ⟨def_mk ?za38 ?zl38 ?zc38 ?zk38, ?_⟩
      (case za38 => k_is)
      (case zl38 => k_is)
      (case zc38 => k_is)
      (case zk38 => k_is)
      refine' ⟨def_mk ?za39 ?zl39 ?zc39 ?zk39, ?_⟩
      (case za39 => k_is)
      (case zl39 => k_is)
      (case zc39 => k_is)
      (case zk39 => k_is)
      refine' ⟨def_mk ?za40 ?zl40 ?zc40 ?zk40, ?_⟩
      (case za40 => k_is)
      (case zl40 => k_is)
      (case zc40 => k_is)
      (case zk40 => k_is)
      refine' ⟨def_mk ?za41 ?zl41 ?zc41 ?zk41, ?_⟩
      (case za41 => k_is)
      (case zl41 => k_is)
      (case zc41 => k_is)
      (case zk41 => k_is)
      refine' ⟨def_mk ?za42 ?zl42 ?zc42 ?zk42, ?_⟩
      (case za42 => k_is)
      (case zl42 => k_is)
      (case zc42 => k_is)
      (case zk42 => k_is)
      refine' ⟨def_mk ?za43 ?zl43 ?zc43 ?zk43, ?_⟩
      (case za43 => k_is)
      (case zl43 => k_is)
      (case zc43 => k_is)
      (case zk43 => k_is)
      refine' ⟨def_mk ?za44 ?zl44 ?zc44 ?zk44, ?_⟩
      (case za44 => k_is)
      (case zl44 => k_is)
      (case zc44 => k_is)
      (case zk44 => k_is)
      refine' ⟨def_mk ?za45 ?zl45 ?zc45 ?zk45, ?_⟩
      (case za45 => k_is)
      (case zl45 => k_is)
      (case zc45 => k_is)
      (case zk45 => k_is)
      refine' ⟨def_mk ?za46 ?zl46 ?zc46 ?zk46, ?_⟩
      (case za46 => k_is)
      (case zl46 => k_is)
      (case zc46 => k_is)
      (case zk46 => k_is)
      refine' ⟨def_mk ?za47 ?zl47 ?zc47 ?zk47, ?_⟩
      (case za47 => k_is)
      (case zl47 => k_is)
      (case zc47 => k_is)
      (case zk47 => k_is)
      refine' ⟨def_mk ?za48 ?zl48 ?zc48 ?zk48, ?_⟩
      (case za48 => k_is)
      (case zl48 => k_is)
      (case zc48 => k_is)
      (case zk48 => k_is)
      refine' ⟨def_mk ?za49 ?zl49 ?zc49 ?zk49, ?_⟩
      (case za49 => k_is)
      (case zl49 => k_is)
      (case zc49 => k_is)
      (case zk49 => k_is)
      refine' ⟨def_mk ?za50 ?zl50 ?zc50 ?zk50, ?_⟩
      (case za50 => k_is)
      (case zl50 => k_is)
      (case zc50 => k_is)
      (case zk50 => k_is)
      refine' ⟨def_mk ?za51 ?zl51 ?zc51 ?zk51, ?_⟩
      (case za51 => k_is)
      (case zl51 => k_is)
      (case zc51 => k_is)
      (case zk51 => k_is)
      refine' ⟨def_mk ?za52 ?zl52 ?zc52 ?zk52, ?_⟩
      (case za52 => k_is)
      (case zl52 => k_is)
      (case zc52 => k_is)
      (case zk52 => k_is)
      refine' ⟨def_mk ?za53 ?zl53 ?zc53 ?zk53, ?_⟩
      (case za53 => k_is)
      (case zl53 => k_is)
      (case zc53 => k_is)
      (case zk53 => k_is)
      refine' ⟨def_mk ?za54 ?zl54 ?zc54 ?zk54, ?_⟩
      (case za54 => k_is)
      (case zl54 => k_is)
      (case zc54 => k_is)
      (case zk54 => k_is)
      refine' ⟨def_mk ?za55 ?zl55 ?zc55 ?zk55, ?_⟩
      (case za55 => k_is)
      (case zl55 => k_is)
      (case zc55 => k_is)
      (case zk55 => k_is)
      refine' ⟨def_mk ?za56 ?zl56 ?zc56 ?zk56, ?_⟩
      (case za56 => k_is)
      (case zl56 => k_is)
      (case zc56 => k_is)
      (case zk56 => k_is)
      refine' ⟨def_mk ?za57 ?zl57 ?zc57 ?zk57, ?_⟩
      (case za57 => k_is)
      (case zl57 => k_is)
      (case zc57 => k_is)
      (case zk57 => k_is)
      exact trivial
    case zN =>
      refine ⟨?_, ?_, ?_, ?_, ?_, ?_, ?_, ?_, ?_, ?_, ?_, ?_, ?_, ?_, ?_, ?_, ?_, trivial⟩
      all_goals k_is
    case zC =>
      refine' ⟨cst_int ?zx0, cst_int ?zx1, cst_int ?zx2, cst_int ?zx3, cst_str ?zx4, cst_str ?zx5, cst_int ?zx6, cst_int ?zx7, trivial⟩
      (case zx0 => k_is)
      (case zx1 => k_is)
      (case zx2 => k_is)
      (case zx3 => k_is)
      (case zx4 => k_is)
      (case zx5 => k_is)
      (case zx6 => k_is)
      (case zx7 => k_is)

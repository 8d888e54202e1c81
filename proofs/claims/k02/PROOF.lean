import PyProof.Rows.All
import HandS.ForMost
import HandS.Wide
import HandS.WideBits
import HandS.Deep
import HandS.Star
import HandS.TupAny
import HandS.SortInts
import HandS.RaiseMore
import HandS.Codes
import HandS.Property
import HandS.TupMul
import HandS.SetFor
import HandS.IsInst
import HandS.Rev
import HandS.Replace
import HandS.Strs
import HandS.Style
import HandS.Iter
import HandS.Zip
import KE.GoesEnum
import KE.KDictZip
import HandS.Comp
import HandS.TryOnly
import KE.KCallOwn
import PyProof.InstNe
import HandS.FStr
import HandS.Small
import HandS.Words
import HandS.EndBits
import HandS.Text
import KE.RegKIsAll
import PySem.Challenge.RW_countertables_k02_tables_made
set_option Elab.async false
section
set_option linter.all false
set_option maxRecDepth 100000
/-! Co1: a small core language: values as trees, an abstract heap of what is changed, an interpreter. -/
namespace Co
open PySem L2

inductive Val where
  | non | bl (b : Bool) | int (i : Int) | str (s : Str)
  | tup (vs : List Val) | lst (vs : List Val) | ro (vs : List Val)
  | dct (kvs : List (Key × Val))
  | ins (c : Nat) (fs : List (Key × Val))
  | ref (n : Nat)
  deriving Inhabited

mutual
def Val.beq : Val → Val → Bool
  | .non, .non => true
  | .bl a, .bl b => decide (a = b)
  | .int a, .int b => decide (a = b)
  | .str a, .str b => decide (a = b)
  | .tup a, .tup b => Val.beqL a b
  | .lst a, .lst b => Val.beqL a b
  | .ro a, .ro b => Val.beqL a b
  | .dct a, .dct b => Val.beqK a b
  | .ins c a, .ins d b => decide (c = d) && Val.beqK a b
  | .ref a, .ref b => decide (a = b)
  | _, _ => false
def Val.beqL : List Val → List Val → Bool
  | [], [] => true
  | a :: r, b :: s => Val.beq a b && Val.beqL r s
  | _, _ => false
def Val.beqK : List (Key × Val) → List (Key × Val) → Bool
  | [], [] => true
  | (k, a) :: r, (m, b) :: s => decide (k = m) && (Val.beq a b && Val.beqK r s)
  | _, _ => false
end
mutual
theorem Val.beq_eq : ∀ a b : Val, Val.beq a b = true → a = b
  | .non, b, h => by cases b <;> simp_all [Val.beq]
  | .bl a, b, h => by cases b <;> simp_all [Val.beq]
  | .int a, b, h => by cases b <;> simp_all [Val.beq]
  | .str a, b, h => by cases b <;> simp_all [Val.beq]
  | .tup a, b, h => by cases b <;> simp [Val.beq] at h; rw [Val.beqL_eq _ _ h]
  | .lst a, b, h => by cases b <;> simp [Val.beq] at h; rw [Val.beqL_eq _ _ h]
  | .ro a, b, h => by cases b <;> simp [Val.beq] at h; rw [Val.beqL_eq _ _ h]
  | .dct a, b, h => by cases b <;> simp [Val.beq] at h; rw [Val.beqK_eq _ _ h]
  | .ins c a, b, h => by cases b <;> simp [Val.beq] at h; rw [h.1, Val.beqK_eq _ _ h.2]
  | .ref a, b, h => by cases b <;> simp_all [Val.beq]
theorem Val.beqL_eq : ∀ a b : List Val, Val.beqL a b = true → a = b
  | [], b, h => by cases b <;> simp_all [Val.beqL]
  | x :: r, b, h => by
    cases b with
    | nil => simp [Val.beqL] at h
    | cons y s => simp [Val.beqL] at h; rw [Val.beq_eq _ _ h.1, Val.beqL_eq _ _ h.2]
theorem Val.beqK_eq : ∀ a b : List (Key × Val), Val.beqK a b = true → a = b
  | [], b, h => by cases b <;> simp_all [Val.beqK]
  | (k, x) :: r, b, h => by
    cases b with
    | nil => simp [Val.beqK] at h
    | cons y s =>
      obtain ⟨m, y⟩ := y
      simp [Val.beqK] at h
      rw [h.1, Val.beq_eq _ _ h.2.1, Val.beqK_eq _ _ h.2.2]
end
mutual
theorem Val.beq_refl : ∀ a : Val, Val.beq a a = true
  | .non => rfl
  | .bl a => by simp [Val.beq]
  | .int a => by simp [Val.beq]
  | .str a => by simp [Val.beq]
  | .tup a => by simp [Val.beq, Val.beqL_refl a]
  | .lst a => by simp [Val.beq, Val.beqL_refl a]
  | .ro a => by simp [Val.beq, Val.beqL_refl a]
  | .dct a => by simp [Val.beq, Val.beqK_refl a]
  | .ins c a => by simp [Val.beq, Val.beqK_refl a]
  | .ref a => by simp [Val.beq]
theorem Val.beqL_refl : ∀ a : List Val, Val.beqL a a = true
  | [] => rfl
  | x :: r => by simp [Val.beqL, Val.beq_refl x, Val.beqL_refl r]
theorem Val.beqK_refl : ∀ a : List (Key × Val), Val.beqK a a = true
  | [] => rfl
  | (k, x) :: r => by simp [Val.beqK, Val.beq_refl x, Val.beqK_refl r]
end
instance : DecidableEq Val := fun a b => if h : Val.beq a b = true then .isTrue (Val.beq_eq a b h) else .isFalse fun e => h (e ▸ Val.beq_refl a)

/-- an object that may change -/
inductive Ob where
  | lst (vs : List Val)
  | ins (c : Nat) (fs : List (Key × Val))
abbrev Hh := List Ob

/-- what a run gives -/
inductive Res (α : Type) where
  | ok (a : α) (h : Hh)
  | bad
def Res.bind {α β : Type} : Res α → (α → Hh → Res β) → Res β
  | .ok a h, f => f a h
  | .bad, _ => .bad
@[simp] theorem Res.bind_ok {α β : Type} (a : α) (h : Hh) (f : α → Hh → Res β) : (Res.ok a h).bind f = f a h := rfl
@[simp] theorem Res.bind_bad {α β : Type} (f : α → Hh → Res β) : (Res.bad : Res α).bind f = .bad := rfl
theorem Res.bind_eq {α β : Type} {r : Res α} {f : α → Hh → Res β} {b : β} {h' : Hh} (e : r.bind f = .ok b h') : ∃ a h, r = .ok a h ∧ f a h = .ok b h' := by
  cases r with
  | ok a h => exact ⟨a, h, rfl, e⟩
  | bad => cases e
def opt {α : Type} (o : Option α) (h : Hh) : Res α := match o with | some a => .ok a h | none => .bad
@[simp] theorem opt_some {α : Type} (a : α) (h : Hh) : opt (some a) h = .ok a h := rfl
@[simp] theorem opt_none {α : Type} (h : Hh) : opt (none : Option α) h = .bad := rfl
theorem opt_eq {α : Type} {o : Option α} {h h' : Hh} {a : α} (e : opt o h = .ok a h') : o = some a ∧ h' = h := by
  cases o with
  | none => cases e
  | some b => cases e; exact ⟨rfl, rfl⟩

/-! ### operations by values -/
/-- the most items, signs -/
abbrev lim : Nat := 16777216
/-- a list that may change, as it stands -/
def rd (h : Hh) (v : Val) : Val := match v with
  | .ref n => (match h[n]? with | some (.lst vs) => .lst vs | _ => v)
  | v => v

def asL (vs : List Val) (h : Hh) : List Val := vs.map (rd h)
/-! data: nested to so deep -/
mutual
def toD : Nat → Val → Option PyData
  | _, .non => some .none
  | _, .bl b => some (.bool b)
  | _, .int i => some (.int i)
  | _, .str s => if s.cps.all (· < 0x110000) then some (.str s) else none
  | k + 1, .tup vs => (toDL k vs).map .tuple
  | k + 1, .lst vs => (toDL k vs).map .list
  | _, _ => none
def toDL : Nat → List Val → Option (List PyData)
  | _, [] => some []
  | k, v :: r => (toD k v).bind fun d => (toDL k r).map fun ds => d :: ds
end
def eqD (a b : Val) : Option Bool := (toD 60 a).bind fun d => (toD 60 b).map fun e => PyData.eqv d e
def inD (a : Val) : List Val → Option Bool
  | [] => some false
  | b :: r => (eqD b a).bind fun k => (inD a r).map fun m => k || m

def mulOk (i j : Int) : Bool := decide (i.natAbs < 2 ^ 64) || (decide (j.natAbs < 2 ^ 64) || decide (i.natAbs.log2 + j.natAbs.log2 < 1000000))
def divOk (i j : Int) : Bool := !decide (j = 0) && !Builtin.divisionGoesByPylong i j
def powOk (i j : Int) : Bool := decide (0 ≤ j) && (decide (j ≤ 1000000) && decide (i.natAbs < 2 ^ 64))
def repOk (n : Nat) (k : Int) : Bool := decide (0 ≤ k) && (decide (k < 2 ^ 63) && decide (n * k.toNat ≤ lim))
def bop : Operator → Val → Val → Option Val
  | .Add, .int i, .int j => some (.int (i + j))
  | .Add, .str x, .str y => if x.length + y.length ≤ lim then some (.str (x ++ y)) else none
  | .Add, .lst xs, .lst ys => if xs.length + ys.length ≤ lim then some (.lst (xs ++ ys)) else none
  | .Add, .tup xs, .tup ys => if xs.length + ys.length ≤ lim then some (.tup (xs ++ ys)) else none
  | .Sub, .int i, .int j => some (.int (i - j))
  | .Mult, .int i, .int j => if mulOk i j = true then some (.int (i * j)) else none
  | .Mult, .lst xs, .int k => if repOk xs.length k = true then some (.lst (List.replicate k.toNat xs).flatten) else none
  | .Mult, .tup xs, .int k => if xs ≠ [] ∧ 1 ≤ k ∧ k ≤ 1000 ∧ xs.length ≤ 1000 then some (.tup (List.replicate k.toNat xs).flatten) else none
  | .FloorDiv, .int i, .int j => if divOk i j = true then some (.int (i.fdiv j)) else none
  | .Mod, .int i, .int j => if j = 0 then none else some (.int (i.fmod j))
  | .Pow, .int i, .int j => if powOk i j = true then some (.int (i ^ j.toNat)) else none
  | _, _, _ => none
def lexLt : List Int
                        → List Int → Bool
  | [], [] => false
  | [], _ :: _ => true
  | _ :: _, [] => false
  | x :: xs, y :: ys => if x = y then lexLt xs ys else decide
                          (x < y)
def intsV : List Val → Option (List Int)
  | [] => some []
  | .int i :: r => (intsV r).map (i :: ·)
  | _ :: _ => none
def blsV : List Val → Option (List Bool)
  | [] => some []
  | .bl i :: r => (blsV r).map (i :: ·)
  | _ :: _ => none
def strsV : List Val → Option (List Str)
  | [] => some []
  | .str i :: r => (strsV r).map (i :: ·)
  | _ :: _ => none
def putW (k : Key) (v : Val) : List (Key × Val) → List (Key × Val)
  | [] => [(k, v)]
  | (m, w) :: r => if m = k then (m, v) :: r else (m, w) :: putW k v r
def isNon : Val → Bool
  | .non => true
  | _ => false
def keyOf : Val → Option Key
  | .int i => some (.inl i)
  | .str s => some (.inr s)
  | _ => none
def keyIn (k : Key) (kvs : List (Key × Val)) : Bool := (kvs.find? fun p => decide (p.1 = k)).isSome
def keyGet (k : Key) (kvs : List (Key × Val)) : Option Val := (kvs.find? fun p => decide (p.1 = k)).map (·.2)
def memb (a : Val) : Val → Option Bool
  | .lst xs => (toD 60 a).bind fun _ => inD a xs
  | .tup xs => (toD 60 a).bind fun _ => inD a xs
  | .dct kvs => (keyOf a).map fun k => keyIn k kvs
  | .str z => (match a with | .str t => (match t.cps.toList with | [c] => some (decide (c ∈ z.cps.toList)) | _ => none) | _ => none)
  | _ => none
def isTr (b : Bool) : Val → Option Bool
  | .bl a => some (decide (a = b))
  | .non => some false
  | _ => none
def cop : CmpOp → Val → Val → Option Bool
  | .Eq, .str x, .str y => some (decide (x = y))
  | .NotEq, .str x, .str y => some (!decide (x = y))
  | .Eq, .lst (_ :: _), .lst [] => some false
  | .NotEq, .lst (_ :: _), .lst [] => some true
  | .Eq, a, b => eqD a b
  | .NotEq, a, b => (eqD a b).map not
  | .Lt, .int i, .int j => some (decide (i < j))
  | .LtE, .int i, .int j => some (decide (i ≤ j))
  | .Gt, .int i, .int j => some (decide (j < i))
  | .GtE, .int i, .int j => some (decide (j ≤ i))
  | .Is, a, .non => some (isNon a)
  | .IsNot, a, .non => some (!isNon a)
  | .Is, a, .bl b => isTr b a
  | .IsNot, a, .bl b => (isTr b a).map not
  | .In, a, b => memb a b
  | .NotIn, a, b => (memb a b).map not
  | _, _, _ => none

/-! ### built-in functions by values -/
inductive IsT where
  | int | bool | str | tuple | list | dict | cls (c : Nat)
  deriving DecidableEq
def isIns (h : Hh) : IsT → Val → Bool
  | .int, .int _ => true
  | .int, .bl _ => true
  | .bool, .bl _ => true
  | .str, .str _ => true
  | .tuple, .tup _ => true
  | .list, .lst _ => true
  | .list, .ro _ => true
  | .list, .ref n => (match h[n]? with | some (.lst _) => true | _ => false)
  | .dict, .dct _ => true
  | .cls c, .ins d _ => decide (d = c)
  | .cls c, .ref n => (match h[n]? with | some (.ins d _) => decide (d = c) | _ => false)
  | _, _ => false
/-- its class is known -/
def kindOk (ncl : Nat) (h : Hh) : Val → Bool
  | .ins c _ => decide (c < ncl)
  | .ref n => (match h[n]? with | some (.ins c _) => decide (c < ncl) | some (.lst _) => true | none => false)
  | _ => true
def insI
                        (x : Int) : List Int → List Int
  | [] => [x]
  | y :: r => if x ≤ y then x :: y :: r else y :: insI x r
def sortI : List Int → List Int
  | [] => []
  | x :: r => insI x (sortI r)
def maxI : Int → List Int → Int
  | x, [] => x
  | x, y :: r => maxI (if x < y then y else x) r
def minI : Int → List Int → Int
  | x, [] => x
  | x, y :: r => minI (if y < x then y else x) r
def nodupI : List Int → List Int
  | [] => []
  | x :: r => if decide (x ∈ r) = true then nodupI r else x :: nodupI r
inductive Bi where
  | abs | all | any | bool | divmod | int | len | max | min | str | sum | tuple | list | sorted | sset | repr
  deriving DecidableEq
def seqOf : Val → Option (List Val)
  | .lst xs => some xs
  | .tup xs => some xs
  | _ => none
def bi : Bi → List Val → Option Val
  | .abs, [.int i] => some (.int (if i < 0 then -i else i))
  | .all, [.lst xs] => (blsV xs).map fun bs => .bl (bs.all id)
  | .any, [.lst xs] => (blsV xs).map fun bs => .bl (bs.any id)
  | .bool, [.bl b] => some (.bl b)
  | .bool, [.int i] => some (.bl (i != 0))
  | .divmod, [.int i, .int j] => if 0 < j ∧ Builtin.divisionGoesByPylong i j = false then some (.tup [.int (i / j), .int (i % j)]) else none
  | .int, [.int i] => some (.int i)
  | .int, [.bl b] => some (.int (if b then 1 else 0))
  | .int, [.str s] => if s.length ≤ 640 then (PySem.intText? s).map .int else none
  | .len, [.lst xs] => some (.int xs.length)
  | .len, [.tup xs] => some (.int xs.length)
  | .len, [.ro xs] => some (.int xs.length)
  | .len, [.dct xs] => some (.int xs.length)
  | .len, [.str s] => if s.length ≤ lim then some (.int s.length) else none
  | .max, [.int i, .int j] => some (.int (if j > i then j else i))
  | .min, [.int i, .int j] => some (.int (if j < i then j else i))
  | .max, [.lst xs] => (intsV xs).bind fun l => (match l with | [] => none | x :: r => some (.int (maxI x r)))
  | .min, [.lst xs] => (intsV xs).bind fun l => (match l with | [] => none | x :: r => some (.int (minI x r)))
  | .str, [.int i] => if i.natAbs.log2 < 1920 then some (.str (toString i : String)) else none
  | .str, [.str s] => some (.str s)
  | .sum, [.lst xs] => (intsV xs).map fun l => .int l.sum
  | .tuple, [v] => (seqOf v).map .tup
  | .list, [.str s] => if s.cps.size ≤ lim then some (.lst ((s.cps.toList.map fun c => (⟨#[c]⟩ : Str)).map .str)) else none
  | .list, [v] => (seqOf v).map .lst
  | .sorted, [.lst xs] => (intsV xs).map fun l => .lst ((sortI l).map .int)
  | .sorted, [.tup xs] => (intsV xs).map fun l => .lst ((sortI l).map .int)
  | .repr, [.lst xs] => (toD 60 (.lst xs)).bind fun d => if d.showable = true ∧ d.shown.length ≤ lim then some (.str d.shown) else none
  | .repr, [.tup xs] => (toD 60 (.tup xs)).bind fun d => if d.showable = true ∧ d.shown.length ≤ lim then some (.str d.shown) else none
  | .repr, [.bl b] => some (.str (if b then "True" else "False"))
  | .repr, [.non] => some (.str "None")
  | .repr, [.int i] => if i.natAbs.log2 < 1920 then some (.str (toString i : String)) else none
  | .repr, [.str x] => if (reprText x).length ≤ lim then some (.str (reprText x)) else none
  | .sset, [.lst xs] => (intsV xs).bind fun l => if l.length ≤ 4000 ∧ (nodupI l).length < 64 then some (.lst ((sortI (nodupI l)).map .int)) else none
  | _, _ => none
def cut {α : Type} (xs : List α) (lo hi : Option Int) : List α := (xs.drop (HT.sIx xs.length 0 lo)).take (HT.sIx xs.length xs.length hi - HT.sIx xs.length 0 lo)
def sliceV (v : Val) (lo hi : Option Int) : Option Val := match v with
  | .lst xs => some (.lst (cut xs lo hi))
  | .tup xs => some (.tup (cut xs lo hi))
  | .ro xs => some (.lst (cut xs lo hi))
  | .str s => if s.length ≤ lim then some (.str (cutS s lo hi)) else none
  | _ => none
def idxV : Val → Val → Option Val
  | .lst xs, .int i => atI xs i
  | .tup xs, .int i => atI xs i
  | .ro xs, .int i => atI xs i
  | .str s, .int i => if s.length ≤ lim then (atI s.cps.toList i).map fun c => .str ⟨#[c]⟩ else none
  | .dct kvs, v => (keyOf v).bind fun k => keyGet k kvs
  | _, _ => none
inductive Me where
  | join | split | count | index | append | extend | pop
  deriving DecidableEq
def ixD (a : Val) : List Val → Option Nat
  | [] => none
  | b :: r => (eqD b a).bind fun k => if k then some 0 else (ixD a r).map (· + 1)
def meV : Me → Val → List Val → Option Val
  | .join, .str s, [v] => (seqOf v).bind fun xs => (strsV xs).bind fun ys => if (ys.map (·.length)).sum + ys.length * s.length ≤ lim then some (.str (Txt.join s ys)) else none
  | .split, .str s, [.str t] => if (t.length == 0) = false ∧ s.length + 2 ≤ lim then some (.lst ((Txt.split s t).map .str)) else none
  | .count, .lst xs, [.int i] => (intsV xs).map fun l => .int (l.count i : Nat)
  | .index, .lst xs, [v] => (toDL 60 xs).bind fun _ => (ixD v xs).map fun n => .int (n : Nat)
  | _, _, _ => none

/-! ### the syntax -/
inductive CE where
  | var (i : Nat)
  | cst (v : Val)
  | bin (op : Operator) (a b : CE)
  | neg (a : CE)
  | not (a : CE)
  | and (a b : CE)
  | or (a b : CE)
  | cmp (op : CmpOp) (a b : CE)
  | chain (o1 o2 : CmpOp) (a b c : CE)
  | ite (c a b : CE)
  | tup (es : List CE)
  | lst (m : Bool) (es : List CE)
  | star (e : CE)
  | dct (ks : List Key) (es : List CE)
  | callF (f : Nat) (es : List CE)
  | callK (f : Nat) (perm : List Nat) (es : List CE)
  | callB (b : Bi) (es : List CE)
  | listM (e : CE)
  | splitM (o e : CE)
  | repl (a : CE) (y z : Str)
  | isI (t : IsT) (e : CE)
  | meth (m : Me) (o : CE) (es : List CE)
  | fld (o : CE) (f : Str)
  | make (c : Nat) (es : List CE)
  | mcall (o : CE) (m : Str) (es : List CE)
  | idx (a i : CE)
  | slice (a : CE) (lo hi : Option CE)
  | rev (a : CE)
  | comp (m : Bool) (own : List Nat) (tg : List Nat) (one : Bool) (it : CE) (ifs : List CE) (elt : CE)
  | range1 (a : CE)
  | range2 (a b : CE)
  | enum (a : CE)
  | zip (a b : CE)
  | zipS (a : CE)
  | of (a : CE)
  | bad
  deriving Inhabited

/-- the values of the parameters, from the keywords' values -/
def permL {α : Type} (perm : List Nat) (vs : List α) : List α := perm.filterMap fun i => vs[i]?
/-- what the interpreter leans on -/
structure G where
  call : Nat → List Val → Hh → Res Val
  make : Nat → List Val → Hh → Res Val
  meth : Nat → Str → Option Nat
  prop : Nat → Str → Option Nat
  ncl : Nat
  base : Nat
abbrev Env := List (Option Val)
abbrev Gd := List (Nat × List Val)
def guardOk (h : Hh) : Gd → Bool
  | [] => true
  | (n, vs) :: r => (match h[n]? with | some (.lst ws) => Val.beqL ws vs | _ => false) && guardOk h r
def wipeE (s : Env) : List Nat → Env
  | [] => s
  | v :: vs => (wipeE s vs).set v none
def setMany : List Nat → List Val → Env → Option Env
  | [], [], s => some s
  | i :: r, v :: vs, s => setMany r vs (s.set i (some v))
  | _, _, _ => none
def setT (one : Bool) (tg : List Nat) (v : Val) (h : Hh) (s : Env) : Option Env :=
  if one = true then setMany tg [v] s else match rd h v with
    | .tup vs => setMany tg vs s
    | .lst vs => setMany tg vs s
    | _ => none
def compL (gd : Gd) (step : Val → Hh → Res (Option Val)) : List Val → Hh → Res (List Val)
  | [], h => if guardOk h gd = true then .ok [] h else .bad
  | v :: vs, h => if guardOk h gd = true then (step v h).bind fun o h1 => (compL gd step vs h1).bind fun r h2 => .ok (match o with | some x => x :: r | none => r) h2 else .bad
def allocL (m : Bool) (vs : List Val) (h : Hh) : Res Val := if m = true then .ok (.ref h.length) (h ++ [.lst vs]) else .ok (.lst vs) h
mutual
/-- all its objects stand below n -/
def below (n : Nat) : Val → Bool
  | .tup vs => belowL n vs
  | .lst vs => belowL n vs
  | .ro vs => belowL n vs
  | .dct kvs => belowK n kvs
  | .ins _ kvs => belowK n kvs
  | .ref m => decide (m < n)
  | _ => true
def belowL (n : Nat) : List Val → Bool
  | [] => true
  | v :: r => below n v && belowL n r
def belowK (n : Nat) : List (Key × Val) → Bool
  | [] => true
  | (_, v) :: r => below n v && belowK n r
end
/-- may v be stored in the object at n -/
def mayStore (base n : Nat) (v : Val) : Bool := decide (base ≤ n) || below n v
def tyOk : Me → Val → Bool
  | .join, .str _ => true
  | .split, .str _ => true
  | .join, _ => false
  | .split, _ => false
  | _, .lst _ => true
  | _, _ => false
def meM (g : G) (m : Me) (o : Val) (vs : List Val) (h : Hh) : Res Val := match m, o, vs with
  | .append, .ref n, [v] => (match h[n]? with
    | some (.lst ws) => if ws.length < lim ∧ mayStore g.base n v = true then .ok .non (h.set n (.lst (ws ++ [v]))) else .bad
    | _ => .bad)
  | .pop, .ref n, [.int i] => (match h[n]? with
    | some (.lst ws) => (match ixN ws.length i with
      | some j => (match ws[j]? with
        | some v => .ok v (h.set n (.lst (ws.eraseIdx j)))
        | none => .bad)
      | none => .bad)
    | _ => .bad)
  | .extend, .ref n, [v] => (match h[n]?, rd h v with
    | some (.lst ws), .lst us => if ws.length + us.length ≤ lim ∧ mayStore g.base n (.lst us) = true then .ok .non (h.set n (.lst (ws ++ us))) else .bad
    | _, _ => .bad)
  | m, o, vs => opt (meV m (rd h o) (asL vs h)) h
def fldV (h : Hh) (v : Val) : Option (Nat × List (Key × Val)) := match v with
  | .ins c fs => some (c, fs)
  | .ref n => (match h[n]? with | some (.ins c fs) => some (c, fs) | _ => none)
  | _ => none
def pairs : List Val → List Val → List Val
  | a :: r, b :: s => .tup [a, b] :: pairs r s
  | _, _ => []
def enumFrom : Nat → List Val → List Val
  | _, [] => []
  | n, v :: r => .tup [.int n, v] :: enumFrom (n + 1) r
def rangeL (lo : Int) : Nat → List Val
  | 0 => []
  | n + 1 => .int lo :: rangeL (lo + 1) n
/-- a walked thing: its items, and what must stand meanwhile -/
def itOf (h : Hh) (v : Val) : Option (List Val × Gd) := match v with
  | .lst xs => some (xs, [])
  | .tup xs => some (xs, [])
  | .ro xs => some (xs, [])
  | .str s => some (s.cps.toList.map fun c => .str ⟨#[c]⟩, [])
  | .ref n => (match h[n]? with | some (.lst ws) => some (ws, [(n, ws)]) | _ => none)
  | _ => none
/-- .. a list or a tuple -/
def itOf2 (h : Hh) (v : Val) : Option (List Val × Gd) := match v with
  | .str _ => none
  | v => itOf h v
/-- .. of each row -/
def itsOf (h : Hh) : List Val → Option (List (List Val) × Gd)
  | [] => some ([], [])
  | v :: r => (itOf2 h v).bind fun p => (itsOf h r).map fun q => (p.1 :: q.1, p.2 ++ q.2)
def minLen : List (List Val) → Nat
  | [] => 0
  | [x] => x.length
  | x :: r => min x.length (minLen r)
/-- the columns as tuples -/
def colsL (xss : List (List Val)) : List Val := (List.range (minLen xss)).map fun i => .tup (xss.filterMap (·[i]?))
/-- .. a list -/
def itOfL (h : Hh) (v : Val) : Option (List Val × Gd) := match v with
  | .lst xs => some (xs, [])
  | .ro xs => some (xs, [])
  | .ref n => itOf h (.ref n)
  | _ => none
mutual
def evE (g : G) : CE → Env → Hh → Res Val
  | .var i, s, h => (match s[i]? with | some (some v) => .ok v h | _ => .bad)
  | .cst v, _, h => .ok v h
  | .bin op a b, s, h => (evE g a s h).bind fun x h1 => (evE g b s h1).bind fun y h2 => opt (bop op (rd h2 x) (rd h2 y)) h2
  | .neg a, s, h => (evE g a s h).bind fun x h1 => (match x with | .int i => .ok (.int (-i)) h1 | _ => .bad)
  | .not a, s, h => (evE g a s h).bind fun x h1 => (match x with | .bl b => .ok (.bl (!b)) h1 | _ => .bad)
  | .and a b, s, h => (evE g a s h).bind fun x h1 => (match x with | .bl true => evE g b s h1 | .bl false => .ok (.bl false) h1 | _ => .bad)
  | .or a b, s, h => (evE g a s h).bind fun x h1 => (match x with | .bl true => .ok (.bl true) h1 | .bl false => evE g b s h1 | _ => .bad)
  | .cmp op a b, s, h => (evE g a s h).bind fun x h1 => (evE g b s h1).bind fun y h2 => opt ((cop op (rd h2 x) (rd h2 y)).map .bl) h2
  | .chain o1 o2 a b c, s, h => (evE g a s h).bind fun x h1 => (evE g b s h1).bind fun y h2 => (match cop o1 (rd h2 x) (rd h2 y) with
      | some true => (evE g c s h2).bind fun z h3 => opt ((cop o2 (rd h3 y) (rd h3 z)).map .bl) h3
      | some false => .ok (.bl false) h2
      | none => .bad)
  | .ite c a b, s, h => (evE g c s h).bind fun x h1 => (match x with | .bl true => evE g a s h1 | .bl false => evE g b s h1 | _ => .bad)
  | .tup es, s, h => (evEs g es s h).bind fun vs h1 => if vs.length ≤ lim then .ok (.tup vs) h1 else .bad
  | .lst m es, s, h => (evEs g es s h).bind fun vs h1 => if vs.length ≤ lim then allocL m vs h1 else .bad
  | .dct ks es, s, h => (evEs g es s h).bind fun vs h1 => if ks.length = vs.length ∧ ks.length ≤ 15 ∧ ks.Nodup then .ok (.dct (ks.zip vs)) h1 else .bad
  | .callF f es, s, h => (evEs g es s h).bind fun vs h1 => g.call f vs h1
  | .callK f perm es, s, h => (evEs g es s h).bind fun vs h1 => g.call f (permL perm vs) h1
  | .callB b es, s, h => (evEs g es s h).bind fun vs h1 => opt (bi b (asL vs h1)) h1
  | .listM e, s, h => (evE g e s h).bind fun v h1 => (match seqOf (rd h1 v) with | some vs => allocL true vs h1 | none => .bad)
  | .splitM o e, s, h => (evE g o s h).bind fun x h1 => (match x with
      | .str a => (evE g e s h1).bind fun y h2 => (match y with
        | .str t => if (t.length == 0) = false ∧ a.length + 2 ≤ lim then allocL true ((Txt.split a t).map .str) h2 else .bad
        | _ => .bad)
      | _ => .bad)
  | .repl a y z, s, h => (evE g a s h).bind fun x h1 => (match x with
      | .str t => if (y == z) = false ∧ t.length + (t.length + 1) * z.length ≤ lim then .ok (.str (Txt.replace t y z)) h1 else .bad
      | _ => .bad)
  | .isI t e, s, h => (evE g e s h).bind fun v h1 => if kindOk g.ncl h1 v = true then .ok (.bl (isIns h1 t v)) h1 else .bad
  | .meth m o es, s, h => (evE g o s h).bind fun x h1 => if tyOk m (rd h1 x) = true then (evEs g es s h1).bind fun vs h2 => meM g m x vs h2 else .bad
  | .fld o f, s, h => (evE g o s h).bind fun x h1 => (match fldV h1 x with
      | some (c, fs) => if c < g.ncl then (match g.prop c f with
        | some p => g.call p [x] h1
        | none => if (g.meth c f).isSome = true then .bad else opt (keyGet (.inr f) fs) h1) else .bad
      | none => .bad)
  | .make c es, s, h => (evEs g es s h).bind fun vs h1 => g.make c vs h1
  | .mcall o m es, s, h => (evE g o s h).bind fun x h1 => (evEs g es s h1).bind fun vs h2 => (match fldV h1 x with
      | some (c, _) => (match g.meth c m with | some p => g.call p (x :: vs) h2 | none => .bad)
      | none => .bad)
  | .idx a i, s, h => (evE g a s h).bind fun x h1 => (evE g i s h1).bind fun y h2 => opt (idxV (rd h2 x) y) h2
  | .slice a lo hi, s, h => (evE g a s h).bind fun x h1 => (evO g lo s h1).bind fun l h2 => (evO g hi s h2).bind fun u h3 => opt (sliceV (rd h3 x) l u) h3
  | .rev a, s, h => (evE g a s h).bind fun x h1 => (match rd h1 x with | .lst xs => .ok (.lst xs.reverse) h1 | .tup xs => .ok (.tup xs.reverse) h1 | _ => .bad)
  | .comp m own tg one it ifs elt, s, h => (evI g it s h).bind fun p h1 =>
      if p.1.length ≤ lim then (compL p.2 (fun v h => match setT one tg v h (wipeE s own) with
        | some s1 => (evC g ifs s1 h).bind fun b h2 => if b = true then (evE g elt s1 h2).bind fun x h3 => .ok (some x) h3 else .ok none h2
        | none => .bad) p.1 h1).bind fun vs h2 => allocL m vs h2 else .bad
  | .star _, _, _ => .bad
  | .range1 _, _, _ => .bad
  | .range2 _ _, _, _ => .bad
  | .enum _, _, _ => .bad
  | .zip _ _, _, _ => .bad
  | .zipS _, _, _ => .bad
  | .of _, _, _ => .bad
  | .bad, _, _ => .bad
def evEs (g : G) : List CE → Env → Hh → Res (List Val)
  | [], _, h => .ok [] h
  | .star e :: r, s, h => (evE g e s h).bind fun x h1 => (match seqOf (rd h1 x) with
      | some vs => (evEs g r s h1).bind fun ws h2 => .ok (vs ++ ws) h2
      | none => .bad)
  | e :: r, s, h => (evE g e s h).bind fun v h1 => (evEs g r s h1).bind fun ws h2 => .ok (v :: ws) h2
def evO (g : G) : Option CE → Env → Hh → Res (Option Int)
  | none, _, h => .ok none h
  | some e, s, h => (evE g e s h).bind fun v h1 => (match v with | .int i => .ok (some i) h1 | _ => .bad)
def evC (g : G) : List CE → Env → Hh → Res Bool
  | [], _, h => .ok true h
  | c :: r, s, h => (evE g c s h).bind fun v h1 => (match v with | .bl true => evC g r s h1 | .bl false => .ok false h1 | _ => .bad)
def evI (g : G) : CE → Env → Hh → Res (List Val × Gd)
  | .range1 a, s, h => (evE g a s h).bind fun x h1 => (match x with | .int j => if -lim ≤ j ∧ j ≤ lim then .ok (rangeL 0 j.toNat, []) h1 else .bad | _ => .bad)
  | .range2 a b, s, h => (evE g a s h).bind fun x h1 => (evE g b s h1).bind fun y h2 => (match x, y with
      | .int i, .int j => if -lim ≤ i ∧ i ≤ lim ∧ -lim ≤ j ∧ j - i ≤ lim ∧ j ≤ lim then .ok (rangeL i (j - i).toNat, []) h2 else .bad
      | _, _ => .bad)
  | .enum a, s, h => (evE g a s h).bind fun x h1 => (match itOf2 h1 x with | some (vs, gd) => .ok (enumFrom 0 vs, gd) h1 | none => .bad)
  | .zip a b, s, h => (evE g a s h).bind fun x h1 => (evE g b s h1).bind fun y h2 => (match itOf2 h2 x, itOf2 h2 y with
      | some (vs, gd), some (ws, gd2) => .ok (pairs vs ws, gd ++ gd2) h2
      | _, _ => .bad)
  | .zipS a, s, h => (evE g a s h).bind fun x h1 => (match itOf2 h1 x with
      | some (rows, _) => (match itsOf h1 rows with
        | some (xss, gd) => if 0 < rows.length ∧ rows.length ≤ 8 then .ok (colsL xss, gd) h1 else .bad
        | none => .bad)
      | none => .bad)
  | .of e, s, h => (evE g e s h).bind fun x h1 => opt (itOf h1 x) h1
  | _, _, _ => .bad
end
end Co
end

section
set_option linter.all false
set_option maxRecDepth 100000
/-! Co2: statements, functions, the run. -/
namespace Co
open PySem L2

inductive CT where
  | name (i : Nat)
  | sub (o i : CE)
  | tup (ts : List CT)
  deriving Inhabited
inductive CS where
  | asg (t : CT) (e : CE)
  | fld (o : CE) (f : Str) (e : CE)
  | for (t : CT) (it : CE) (b : List CS)
  | while (c : CE) (b : List CS)
  | ifs (c : CE) (a b : List CS)
  | ret (e : CE)
  | retN
  | expr (e : CE)
  | brk
  | cont
  | pass
  | bad
  deriving Inhabited
inductive Ctl where
  | next | brk | cont | ret (v : Val)
mutual
def asgT (g : G) : CT → Val → Env → Hh → Res Env
  | .name i, v, s, h => .ok (s.set i (some v)) h
  | .sub o i, v, s, h => (evE g o s h).bind fun x h1 => (evE g i s h1).bind fun y h2 => (match x, y with
      | .ref n, .int k => (match h2[n]? with
        | some (.lst ws) => (match ixN ws.length k with
          | some j => if mayStore g.base n v = true then .ok s (h2.set n (.lst (ws.set j v))) else .bad
          | none => .bad)
        | _ => .bad)
      | _, _ => .bad)
  | .tup ts, v, s, h => (match rd h v with
      | .tup vs => asgTs g ts vs s h
      | .lst vs => asgTs g ts vs s h
      | _ => .bad)
def asgTs (g : G) : List CT → List Val → Env → Hh → Res Env
  | [], [], s, h => .ok s h
  | t :: r, v :: vs, s, h => (asgT g t v s h).bind fun s1 h1 => asgTs g r vs s1 h1
  | _, _, _, _ => .bad
end
def forL (gd : Gd) (step : Val → Env → Hh → Res (Ctl × Env)) : List Val → Env → Hh → Res (Ctl × Env)
  | [], s, h => if guardOk h gd = true then .ok (.next, s) h else .bad
  | v :: vs, s, h => if guardOk h gd = true then (step v s h).bind fun p h1 => (match p.1 with
      | .next => forL gd step vs p.2 h1
      | .cont => forL gd step vs p.2 h1
      | .brk => .ok (.next, p.2) h1
      | .ret v => .ok (.ret v, p.2) h1) else .bad
def whileL (test : Env → Hh → Res Bool) (step : Env → Hh → Res (Ctl × Env)) : Nat → Env → Hh → Res (Ctl × Env)
  | 0, _, _ => .bad
  | n + 1, s, h => (test s h).bind fun b h1 => if b = true then (step s h1).bind fun p h2 => (match p.1 with
      | .next => whileL test step n p.2 h2
      | .cont => whileL test step n p.2 h2
      | .brk => .ok (.next, p.2) h2
      | .ret v => .ok (.ret v, p.2) h2) else .ok (.next, s) h1
/-- turns that a while may make -/
def turns : Nat := 1000000000
def truthR (r : Res Val) : Res Bool := r.bind fun v h => match v with | .bl b => .ok b h | _ => .bad
def setFld (g : G) (o : Val) (f : Str) (v : Val) (h : Hh) : Res Unit := match o with
  | .ref n => (match h[n]? with
    | some (.ins c fs) => if c < g.ncl ∧ (g.prop c f).isSome = false ∧ (g.meth c f).isSome = false ∧ fs.length < 900 ∧ mayStore g.base n v = true then .ok () (h.set n (.ins c (putW (.inr f) v fs))) else .bad
    | _ => .bad)
  | _ => .bad
mutual
def exS (g : G) : CS → Env → Hh → Res (Ctl × Env)
  | .asg t e, s, h => (evE g e s h).bind fun v h1 => (asgT g t v s h1).bind fun s1 h2 => .ok (.next, s1) h2
  | .fld o f e, s, h => (evE g e s h).bind fun v h1 => (evE g o s h1).bind fun x h2 => (setFld g x f v h2).bind fun _ h3 => .ok (.next, s) h3
  | .for t it b, s, h => (evI g it s h).bind fun p h1 => forL p.2 (fun v s h => (asgT g t v s h).bind fun s1 h1 => exSs g b s1 h1) p.1 s h1
  | .while c b, s, h => whileL (fun s h => truthR (evE g c s h)) (fun s h => exSs g b s h) turns s h
  | .ifs c a b, s, h => (truthR (evE g c s h)).bind fun k h1 => if k = true then exSs g a s h1 else exSs g b s h1
  | .ret e, s, h => (evE g e s h).bind fun v h1 => .ok (.ret v, s) h1
  | .retN, s, h => .ok (.ret .non, s) h
  | .expr e, s, h => (evE g e s h).bind fun _ h1 => .ok (.next, s) h1
  | .brk, s, h => .ok (.brk, s) h
  | .cont, s, h => .ok (.cont, s) h
  | .pass, s, h => .ok (.next, s) h
  | .bad, _, _ => .bad
def exSs (g : G) : List CS → Env → Hh → Res (Ctl × Env)
  | [], s, h => .ok (.next, s) h
  | c :: r, s, h => (exS g c s h).bind fun p h1 => (match p.1 with
      | .next => exSs g r p.2 h1
      | k => .ok (k, p.2) h1)
end

/-! ### functions -/
structure Fn where
  np : Nat
  n : Nat
  body : List CS
  keep : Bool
structure Cl where
  init : Option Nat
  frozen : Bool
  meths : List (Str × Nat)
  props : List (Str × Nat)
structure Prog where
  fns : List Fn
  cls : List Cl
def frz1 (base : Nat) (h : Hh) (w : Val) : Option Val := if below base w = true then some w else match w with
  | .ref n => (match h[n]? with | some (.lst us) => if belowL base us = true then some (.lst us) else none | _ => none)
  | _ => none
def frz1L (base : Nat) (h : Hh) : List Val → Option (List Val)
  | [] => some []
  | v :: r => (frz1 base h v).bind fun w => (frz1L base h r).map fun ws => w :: ws
def frz (base : Nat) (h : Hh) (v : Val) : Option Val := if below base v = true then some v else match v with
  | .ref n => (match h[n]? with | some (.lst ws) => (frz1L base h ws).map .lst | _ => none)
  | .tup vs => (frz1L base h vs).map .tup
  | _ => none
def retR (keep : Bool) (base : Nat) (p : Ctl) (h : Hh) : Res Val := match p with
  | .next => if keep = true then .ok .non h else .ok .non (h.take base)
  | .ret v => if keep = true then .ok v h else (match frz base h v with | some w => .ok w (h.take base) | none => .bad)
  | _ => .bad
def clOf (P : Prog) (c : Nat) : Option Cl := P.cls[c]?
def tab (l : List (Str × Nat)) (f : Str) : Option Nat := (l.find? fun p => decide (p.1 = f)).map (·.2)
def makeR (P : Prog) (call : Nat → List Val → Hh → Res Val) (c : Nat) (vs : List Val) (h : Hh) : Res Val := match P.cls[c]? with
  | some cl => (match cl.init with
    | some f => (call f (.ref h.length :: vs) (h ++ [.ins c []])).bind fun r h1 =>
        if isNon r = true then (if cl.frozen = true then (match h1[h.length]? with
          | some (.ins d fs) => if belowK h.length fs = true ∧ h1.length = h.length + 1 then .ok (.ins d fs) (h1.take h.length) else .bad
          | _ => .bad) else .ok (.ref h.length) h1) else .bad
    | none => .bad)
  | none => .bad
def gOf (P : Prog) (call : Nat → List Val → Hh → Res Val) (base : Nat) : G where
  call := call
  make := makeR P call
  meth := fun c m => (P.cls[c]?).bind fun cl => tab cl.meths m
  prop := fun c m => (P.cls[c]?).bind fun cl => tab cl.props m
  ncl := P.cls.length
  base := base
def runF (P : Prog) : Nat → Nat → List Val → Hh → Res Val
  | 0, _, _, _ => .bad
  | d + 1, f, args, h => match P.fns[f]? with
    | some fn => if args.length = fn.np then
        (exSs (gOf P (runF P d) h.length) fn.body (args.map some ++ List.replicate (fn.n - args.length) none) h).bind fun p h1 => retR fn.keep h.length p.1 h1 else .bad
    | none => .bad
example (g : G) : evE g (.bin .Add (.cst (.int 1)) (.cst (.int 2))) [] [] = .ok (.int 3) [] := rfl
end Co
end

section
set_option linter.all false
set_option maxRecDepth 100000
/-! Co3: what a value, a heap of the core stands for; readings; first constructs. -/
namespace Co
open PySem PySem.Spec
                        PyProof.Rows L2

/-- the addresses of our changing objects; addresses that no value stands at meanwhile -/
structure Rg where
  own : List Addr
  no : List Addr
instance : Membership Addr Rg := ⟨fun R a => a ∈ R.own ∨ a ∈ R.no⟩
theorem Rg.mem_own {R : Rg} {a : Addr} (h : a ∈ R.own) : a ∈ R := .inl h
theorem Rg.not_own {R : Rg} {a : Addr} (h : a ∉ R) : a ∉ R.own := fun z => h (.inl z)
/-- one more of ours -/
def Rg.add (R : Rg) (p : Addr) : Rg := ⟨R.own ++ [p], R.no⟩
theorem sz : (sizeLine : Nat) = lim := sizeLine_eq
/-! ### values -/
def TupAt (K : PySem.W.Frag) (R : Rg) (H : Hp) (a : Addr) (xs : List V) : Prop :=
  xs.length ≤ sizeLine ∧ ((Rd H a (.tup xs) ∧ a ∉ R) ∨ ∃ (o : Obj) (its : Array Value) (n : Nat), K.lookup a = some o ∧ o.cls = .type "tuple" ∧ o.data = .seq its n ∧ its.size ≤ sizeLine ∧ Vals xs its.toList)
def LstAt (R : Rg) (H : Hp) (a : Addr) (xs : List V) : Prop := xs.length ≤ sizeLine ∧ H a = some (.lst xs) ∧ a ∉ R
def RoAt (K : PySem.W.Frag) (R : Rg) (H : Hp) (a : Addr) (xs : List V) : Prop :=
  xs.length ≤ sizeLine ∧ ((Rd H a (.lst xs) ∧ a ∉ R) ∨ ∃ (o : Obj) (its : Array Value) (n : Nat), K.lookup a = some o ∧ o.cls = .type "list" ∧ o.dict = none ∧ o.data = .seq its n ∧ its.size ≤ sizeLine ∧ Vals xs its.toList)
theorem RoAt.sq {K : PySem.W.Frag} {R : Rg} {H : Hp} {a : Addr} {xs : List V} (t : RoAt K R H a xs) : SqL K H a xs := by
  rcases t.2 with h | h
  · exact .inl h.1
  · exact .inr h
theorem TupAt.sq {K : PySem.W.Frag} {R : Rg} {H : Hp} {a : Addr} {xs : List V} (t : TupAt K R H a xs) : SqT K H a xs := by
  rcases t.2 with h | h
  · exact .inl h.1
  · exact .inr h
theorem LstAt.sq {K : PySem.W.Frag} {R : Rg} {H : Hp} {a : Addr} {xs : List V} (t : LstAt R H a xs) : SqL K H a xs := .inl (.inl t.2.1)
mutual
def Den (K : PySem.W.Frag) (C : Nat → Addr) (R : Rg) (H : Hp) : Val → V → Prop
  | .non, x => x = .non
  | .bl b, x => x = .bl b
  | .int i, x => x = .int i
  | .str s, x => x = .str s
  | .tup vs, x => ∃ a xs, x = .ref a ∧ TupAt K R H a xs ∧ DenL K C R H vs xs
  | .lst vs, x => ∃ a xs, x = .ref a ∧ LstAt R H a xs ∧ DenL K C R H vs xs
  | .ro vs, x => ∃ a xs, x = .ref a ∧ RoAt K R H a xs ∧ DenL K C R H vs xs
  | .dct kvs, x => ∃ a xs, x = .ref a ∧ H a = some (.dK xs) ∧ a ∉ R ∧ DenK K C R H kvs xs
  | .ins c kvs, x => ∃ (a dx : Addr) (gs : List (Str × V)), x = .ref a ∧ H a = some (.ins (C c) dx gs) ∧ a ∉ R ∧ DenK K C R H kvs (gs.map fun p => (Sum.inr p.1, p.2))
  | .ref n, x => ∃ a, R.own[n]? = some a ∧ x = .ref a
def DenL (K : PySem.W.Frag) (C : Nat → Addr) (R : Rg) (H : Hp) : List Val → List V → Prop
  | [], xs => xs = []
  | v :: r, xs => ∃ x ys, xs = x :: ys ∧ Den K C R H v x ∧ DenL K C R H r ys
def DenK (K : PySem.W.Frag) (C : Nat → Addr) (R : Rg) (H : Hp) : List (Key × Val) → List (Key × V) → Prop
  | [], xs => xs = []
  | (k, v) :: r, xs => ∃ x ys, xs = (k, x) :: ys ∧ Den K C R H v x ∧ DenK K C R H r ys
end
/-- what stands stays -/
structure Ext (R R' : Rg) (H H' : Hp) : Prop where
  more : ∃ r, R'.own = R.own ++ r ∧ ∀ a ∈ r, H a = none
  no : ∀ a ∈ R'.no, a ∈ R.no ∨ H a = none
  yes : ∀ a ∈ R.no, a ∈ R'.no
  keep : ∀ a o, H a = some o → a ∉ R.own → H' a = some o
  there : ∀ a, H a ≠ none → H' a ≠ none
theorem Ext.refl (R : Rg) (H : Hp) : Ext R R H H := ⟨⟨[], by simp, by simp⟩, fun _ h => .inl h, fun _ h => h, fun _ _ h _ => h, fun _ h => h⟩
theorem Ext.outO {R R' : Rg} {H H' : Hp} (e : Ext R R' H H') {a : Addr} {o : HO} (h : H a = some o) (n : a ∉ R.own) : a ∉ R'.own := by
  obtain ⟨⟨r, e1, hr⟩, _, _, _⟩ := e
  intro m
  rw [e1] at m
  rcases List.mem_append.mp m with m | m
  · exact n m
  · rw [hr a m] at h; cases h
theorem Ext.out {R R' : Rg} {H H' : Hp} (e : Ext R R' H H') {a : Addr} {o : HO} (h : H a = some o) (n : a ∉ R) : a ∉ R' := by
  rintro (m | m)
  · exact e.outO h (Rg.not_own n) m
  · rcases e.no a m with m | m
    · exact n (.inr m)
    · rw [m] at h; cases h
theorem Ext.trans {R R1 R2 : Rg} {H H1 H2 : Hp} (a : Ext R R1 H H1) (b : Ext R1 R2 H1 H2) : Ext R R2 H H2 := by
  have nn : ∀ c, H1 c = none → H c = none := fun c m => by
    cases q : H c with
    | none => rfl
    | some o => exact absurd m (a.there c (by rw [q]; exact fun z => by cases z))
  refine ⟨?_, fun c m => ?_, fun c m => b.yes c (a.yes c m), fun c o h n => b.keep c o (a.keep c o h n) (a.outO h n), fun c h => b.there c (a.there c h)⟩
  · obtain ⟨⟨r, e1, hr⟩, _, _, _, _⟩ := id a
    obtain ⟨⟨r2, e2, hr2⟩, _, _, _, _⟩ := id b
    refine ⟨r ++ r2, by rw [e2, e1, List.append_assoc], fun c hc => ?_⟩
    rcases List.mem_append.mp hc with m | m
    · exact hr c m
    · exact nn c (hr2 c m)
  · rcases b.no c m with m | m
    · exact a.no c m
    · exact .inr (nn c m)
/-- a new object that is not ours -/
theorem Ext.new {R : Rg} {H : Hp} {p : Addr} {o : HO} (h : H p = none) : Ext R R H (upd H p o) :=
  ⟨⟨[], by simp, by simp⟩, fun _ h => .inl h, fun _ h => h, fun a u e _ => by rw [upd_ne (ne_of_none e h)]; exact e, fun a e => by
    cases q : H a with
    | none => exact absurd q e
    | some u => rw [upd_ne (ne_of_none q h), q]; exact fun z => by cases z⟩
/-- .. that is ours -/
theorem Ext.own {R : Rg} {H : Hp} {p : Addr} {o : HO} (h : H p = none) : Ext R (R.add p) H (upd H p o) :=
  ⟨⟨[p], rfl, fun a m => by rw [List.mem_singleton.mp m]; exact h⟩, fun _ h => .inl h, fun _ h => h, (Ext.new (R := R) h).keep, (Ext.new (R := R) h).there⟩
/-- one of ours is written -/
theorem Ext.set {R : Rg} {H : Hp} {p : Addr} {o : HO} (h : p ∈ R.own) : Ext R R H (upd H p o) :=
  ⟨⟨[], by simp, by simp⟩, fun _ h => .inl h, fun _ h => h, fun a u e n => by rw [upd_ne (show a ≠ p from fun z => n (by rw [z]; exact h))]; exact e, fun a e => by
    by_cases q : a = p
    · subst q; rw [upd_same]; exact fun z => by cases z
    · rw [upd_ne q]; exact e⟩
theorem Rd.mono {R R' : Rg} {H H' : Hp} (e : Ext R R' H H') {a : Addr} {o : HO} (h : Rd H a o) (n : a ∉ R) : Rd H' a o := by
  rcases h with h | ⟨u, h⟩
  · exact .inl (e.keep a _ h (Rg.not_own n))
  · exact .inr ⟨u, e.keep a _ h (Rg.not_own n)⟩
theorem Rd.out {R R' : Rg} {H H' : Hp} (e : Ext R R' H H') {a : Addr} {o : HO} (h : Rd H a o) (n : a ∉ R) : a ∉ R' := by
  rcases h with h | ⟨u, h⟩ <;> exact e.out h n
section
variable {K : PySem.W.Frag} {C : Nat → Addr} {R R' : Rg} {H H' : Hp}
theorem TupAt.mono (e : Ext R R' H H') {a : Addr} {xs : List V} (t : TupAt K R H a xs) : TupAt K R' H' a xs :=
  ⟨t.1, t.2.elim (fun h => .inl ⟨Rd.mono e h.1 h.2, Rd.out e h.1 h.2⟩) .inr⟩
theorem LstAt.mono (e : Ext R R' H H') {a : Addr} {xs : List V} (t : LstAt R H a xs) : LstAt R' H' a xs :=
  ⟨t.1, e.keep a _ t.2.1 (Rg.not_own t.2.2), e.out t.2.1 t.2.2⟩
theorem RoAt.mono (e : Ext R R' H H') {a : Addr} {xs : List V} (t : RoAt K R H a xs) : RoAt K R' H' a xs :=
  ⟨t.1, t.2.elim (fun h => .inl ⟨Rd.mono e h.1 h.2, Rd.out e h.1 h.2⟩) .inr⟩
mutual
theorem Den.mono (e : Ext R R' H H') : ∀ (v : Val) (x : V), Den K C R H v x → Den K C R' H' v x
  | .non, _, h => h
  | .bl _, _, h => h
  | .int _, _, h => h
  | .str _, _, h => h
  | .tup vs, x, h => by
    obtain ⟨a, xs, q, t, d⟩ := h
    exact ⟨a, xs, q, t.mono e, DenL.mono e vs xs d⟩
  | .lst vs, x, h => by
    obtain ⟨a, xs, q, t, d⟩ := h
    exact ⟨a, xs, q, t.mono e, DenL.mono e vs xs d⟩
  | .ro vs, x, h => by
    obtain ⟨a, xs, q, t, d⟩ := h
    exact ⟨a, xs, q, t.mono e, DenL.mono e vs xs d⟩
  | .dct vs, x, h => by
    obtain ⟨a, xs, q, t, n, d⟩ := h
    exact ⟨a, xs, q, e.keep a _ t (Rg.not_own n), e.out t n, DenK.mono e vs xs d⟩
  | .ins c vs, x, h => by
    obtain ⟨a, dx, gs, q, t, n, d⟩ := h
    exact ⟨a, dx, gs, q, e.keep a _ t (Rg.not_own n), e.out t n, DenK.mono e vs _ d⟩
  | .ref n, x, h => by
    obtain ⟨a, q, r⟩ := h
    obtain ⟨r', er, _⟩ := e.more
    exact ⟨a, by rw [er, List.getElem?_append_left (List.getElem?_eq_some_iff.mp q).1]; exact q, r⟩
theorem DenL.mono (e : Ext R R' H H') : ∀ (vs : List Val) (xs : List V), DenL K C R H vs xs → DenL K C R' H' vs xs
  | [], _, h => h
  | v :: r, _, h => by
    obtain ⟨x, ys, q, d, d2⟩ := h
    exact ⟨x, ys, q, Den.mono e v x d, DenL.mono e r ys d2⟩
theorem DenK.mono (e : Ext R R' H H') : ∀ (vs : List (Key × Val)) (xs : List (Key × V)), DenK K C R H vs xs → DenK K C R' H' vs xs
  | [], _, h => h
  | (k, v) :: r, _, h => by
    obtain ⟨x, ys, q, d, d2⟩ := h
    exact ⟨x, ys, q, Den.mono e v x d, DenK.mono e r ys d2⟩
end
theorem DenL.length : ∀ {vs : List Val} {xs : List V}, DenL K C R H vs xs → vs.length = xs.length
  | [], _, h => by rw [show _ = ([] : List V) from h]; rfl
  | v :: r, _, h => by
    obtain ⟨x, ys, q, d, d2⟩ := h
    rw [q, List.length_cons, List.length_cons, DenL.length d2]
theorem DenL.append : ∀ {vs ws : List Val} {xs ys : List V}, DenL K C R H vs xs → DenL K C R H ws ys → DenL K C R H (vs ++ ws) (xs ++ ys)
  | [], _, _, _, h, k => by rw [show _ = ([] : List V) from h]; exact k
  | v :: r, _, _, _, h, k => by
    obtain ⟨x, zs, q, d, d2⟩ := h
    exact ⟨x, _, by rw [q]; rfl, d, DenL.append d2 k⟩
theorem DenL.get : ∀ {vs : List Val} {xs : List V} {i : Nat} {v : Val}, DenL K C R H vs xs → vs[i]? = some v → ∃ x, xs[i]? = some x ∧ Den K C R H v x
  | [], _, _, _, _, e => by simp at e
  | v :: r, _, 0, _, h, e => by
    obtain ⟨x, zs, q, d, d2⟩ := h
    cases e
    exact ⟨x, by rw [q]; rfl, d⟩
  | v :: r, _, i + 1, _, h, e => by
    obtain ⟨x, zs, q, d, d2⟩ := h
    obtain ⟨y, e1, e2⟩ := DenL.get (i := i) d2 (by simpa using e)
    exact ⟨y, by rw [q]; simpa using e1, e2⟩
theorem DenL.get' : ∀ {vs : List Val} {xs : List V} {i : Nat} {x : V}, DenL K C R H vs xs → xs[i]? = some x → ∃ v, vs[i]? = some v ∧ Den K C R H v x
  | [], _, _, _, h, e => by rw [show _ = ([] : List V) from h] at e; simp at e
  | v :: r, _, 0, _, h, e => by
    obtain ⟨x, zs, q, d, d2⟩ := h
    rw [q] at e
    cases e
    exact ⟨v, rfl, d⟩
  | v :: r, _, i + 1, _, h, e => by
    obtain ⟨x, zs, q, d, d2⟩ := h
    rw [q] at e
    obtain ⟨y, e1, e2⟩ := DenL.get' (i := i) d2 (by simpa using e)
    exact ⟨y, by simpa using e1, e2⟩
theorem DenL.set : ∀ {vs : List Val} {xs : List V} (i : Nat) {v : Val} {x : V}, DenL K C R H vs xs → Den K C R H v x → DenL K C R H (vs.set i v) (xs.set i x)
  | [], _, _, _, _, h, k => by rw [show _ = ([] : List V) from h]; rfl
  | v :: r, _, 0, _, _, h, k => by
    obtain ⟨x, zs, q, d, d2⟩ := h
    rw [q]
    exact ⟨_, _, rfl, k, d2⟩
  | v :: r, _, i + 1, _, _, h, k => by
    obtain ⟨x, zs, q, d, d2⟩ := h
    rw [q]
    exact ⟨_, _, rfl, d, DenL.set i d2 k⟩
theorem DenL.take : ∀ {vs : List Val} {xs : List V} (i : Nat), DenL K C R H vs xs → DenL K C R H (vs.take i) (xs.take i)
  | [], _, i, h => by rw [show _ = ([] : List V) from h]; simp [DenL]
  | v :: r, _, 0, h => by simp [DenL]
  | v :: r, _, i + 1, h => by
    obtain ⟨x, zs, q, d, d2⟩ := h
    rw [q]
    exact ⟨_, _, rfl, d, DenL.take i d2⟩
theorem DenL.drop : ∀ {vs : List Val} {xs : List V} (i : Nat), DenL K C R H vs xs → DenL K C R H (vs.drop i) (xs.drop i)
  | [], _, i, h => by rw [show _ = ([] : List V) from h]; simp [DenL]
  | v :: r, _, 0, h => by simpa using h
  | v :: r, _, i + 1, h => by
    obtain ⟨x, zs, q, d, d2⟩ := h
    rw [q]
    exact DenL.drop i d2
theorem DenL.rep {vs : List Val} {xs : List V} (h : DenL K C R H vs xs) : ∀ n : Nat, DenL K C R H (List.replicate n vs).flatten (List.replicate n xs).flatten
  | 0 => rfl
  | n + 1 => by rw [List.replicate_succ, List.replicate_succ, List.flatten_cons, List.flatten_cons]; exact h.append (DenL.rep h n)
theorem DenL.cut {vs : List Val} {xs : List V} (h : DenL K C R H vs xs) (lo hi : Option Int) : DenL K C R H (Co.cut vs lo hi) (cutV xs lo hi) := by
  unfold Co.cut cutV
  rw [h.length]
  exact (h.drop _).take _
theorem DenL.rev {vs : List Val} {xs : List V} (h : DenL K C R H vs xs) : DenL K C R H vs.reverse xs.reverse := by
  induction vs generalizing xs with
  | nil => rw [show xs = ([] : List V) from h]; rfl
  | cons v r ih =>
    obtain ⟨x, zs, q, d, d2⟩ := h
    rw [q, List.reverse_cons, List.reverse_cons]
    exact (ih d2).append ⟨x, [], rfl, d, rfl⟩
theorem DenL.ints : ∀ {vs : List Val} {xs : List V} {ns : List Int}, DenL K C R H vs xs → intsV vs = some ns → xs = ns.map V.int
  | [], _, _, h, e => by rw [show _ = ([] : List V) from h]; cases e; rfl
  | v :: r, _, ns, h, e => by
    obtain ⟨x, zs, q, d, d2⟩ := h
    cases v <;> simp [intsV] at e
    obtain ⟨l, e1, e2⟩ := e
    rw [q, ← e2, DenL.ints d2 e1, show x = _ from d]; rfl
theorem DenL.bls : ∀ {vs : List Val} {xs : List V} {ns : List Bool}, DenL K C R H vs xs → blsV vs = some ns → xs = ns.map V.bl
  | [], _, _, h, e => by rw [show _ = ([] : List V) from h]; cases e; rfl
  | v :: r, _, ns, h, e => by
    obtain ⟨x, zs, q, d, d2⟩ := h
    cases v <;> simp [blsV] at e
    obtain ⟨l, e1, e2⟩ := e
    rw [q, ← e2, DenL.bls d2 e1, show x = _ from d]; rfl
theorem DenL.strs : ∀ {vs : List Val} {xs : List V} {ns : List Str}, DenL K C R H vs xs → strsV vs = some ns → xs = ns.map V.str
  | [], _, _, h, e => by rw [show _ = ([] : List V) from h]; cases e; rfl
  | v :: r, _, ns, h, e => by
    obtain ⟨x, zs, q, d, d2⟩ := h
    cases v <;> simp [strsV] at e
    obtain ⟨l, e1, e2⟩ := e
    rw [q, ← e2, DenL.strs d2 e1, show x = _ from d]; rfl
theorem DenL.ofInts : ∀ (ns : List Int), DenL K C R H (ns.map Val.int) (ns.map V.int)
  | [] => rfl
  | i :: r => ⟨_, _, rfl, rfl, DenL.ofInts r⟩
theorem DenL.ofStrs : ∀ (ns : List Str), DenL K C R H (ns.map Val.str) (ns.map V.str)
  | [] => rfl
  | i :: r => ⟨_, _, rfl, rfl, DenL.ofStrs r⟩
/-! data -/
mutual
theorem Den.dp : ∀ (k : Nat) (v : Val) (x : V) (d : PyData), Den K C R H v x → toD k v = some d → Dp K H x d ∧ d.canLay0 = true ∧ d.depth ≤ k
  | k, .non, x, d, h, e => by
    cases k <;> (simp [toD] at e; subst e; rw [show x = _ from h]; exact ⟨.non, rfl, Nat.zero_le _⟩)
  | k, .bl b, x, d, h, e => by
    cases k <;> (simp [toD] at e; subst e; rw [show x = _ from h]; exact ⟨.bl b, rfl, Nat.zero_le _⟩)
  | k, .int b, x, d, h, e => by
    cases k <;> (simp [toD] at e; subst e; rw [show x = _ from h]; exact ⟨.int b, rfl, Nat.zero_le _⟩)
  | k, .str b, x, d, h, e => by
    cases k <;> (simp only [toD] at e; split at e <;> cases e; rename_i hb; rw [show x = _ from h]; exact ⟨.str b, hb, Nat.zero_le _⟩)
  | 0, .tup vs, x, d, h, e => by simp [toD] at e
  | 0, .lst vs, x, d, h, e => by simp [toD] at e
  | k + 1, .tup vs, x, d, h, e => by
    simp only [toD, Option.map_eq_some_iff] at e
    obtain ⟨ds, e, rfl⟩ := e
    obtain ⟨a, xs, rfl, t, dl⟩ := h
    obtain ⟨p, q, r⟩ := DenL.dp k vs xs ds dl e
    exact ⟨.tup t.sq p, q, Nat.succ_le_succ r⟩
  | k + 1, .lst vs, x, d, h, e => by
    simp only [toD, Option.map_eq_some_iff] at e
    obtain ⟨ds, e, rfl⟩ := e
    obtain ⟨a, xs, rfl, t, dl⟩ := h
    obtain ⟨p, q, r⟩ := DenL.dp k vs xs ds dl e
    exact ⟨.lst t.sq p, q, Nat.succ_le_succ r⟩
  | k, .dct _, x, d, h, e => by cases k <;> simp [toD] at e
  | k, .ro _, x, d, h, e => by cases k <;> simp [toD] at e
  | k, .ins _ _, x, d, h, e => by cases k <;> simp [toD] at e
  | k, .ref _, x, d, h, e => by cases k <;> simp [toD] at e
theorem DenL.dp : ∀ (k : Nat) (vs : List Val) (xs : List V) (ds : List PyData), DenL K C R H vs xs → toDL k vs = some ds → DpAll K H xs ds ∧ PyData.canLayAll0 ds = true ∧ PyData.depthAll ds ≤ k
  | k, [], xs, ds, h, e => by
    simp [toDL] at e; subst e; rw [show xs = _ from h]; exact ⟨.nil, rfl, Nat.zero_le _⟩
  | k, v :: r, xs, ds, h, e => by
    simp only [toDL, Option.bind_eq_some_iff, Option.map_eq_some_iff] at e
    obtain ⟨d, e1, es, e2, rfl⟩ := e
    obtain ⟨x, ys, rfl, h1, h2⟩ := h
    obtain ⟨p, q, t⟩ := Den.dp k v x d h1 e1
    obtain ⟨p2, q2, t2⟩ := DenL.dp k r ys es h2 e2
    exact ⟨.cons p p2, by simp [PyData.canLayAll0, q, q2], by simp only [PyData.depthAll]; omega⟩
end
theorem Den.shaped {v : Val} {x : V} {d : PyData} (h : Den K C R H v x) (e : toD 60 v = some d) : Dp K H x d ∧ SeqAt.shaped d = true := by
  obtain ⟨p, q, r⟩ := Den.dp 60 v x d h e
  refine ⟨p, ?_⟩
  unfold SeqAt.shaped
  rw [q, Bool.true_and]
  exact decide_eq_true
                          (by omega)
end
end Co
end

section
set_option linter.all false
set_option maxRecDepth 100000
set_option autoImplicit false
/-! Co4: states, readings, the first expressions. -/
namespace Co
open PySem PySem.Spec
                        PyProof.Rows L2

def obBelow (b : Nat) : Ob → Bool
  | .lst vs => belowL b vs
  | .ins _ fs => belowK b fs
def ObD (K : PySem.W.Frag) (C : Nat → Addr) (R : Rg) (H : Hp) : Ob → Option HO → Prop
  | .lst vs, some (.lst xs) => xs.length ≤ sizeLine ∧ DenL K C R H vs xs
  | .ins c kvs, some (.ins a dx gs) => a = C c ∧ DenK K C R H kvs (gs.map fun p => (Sum.inr p.1, p.2))
  | _, _ => False
structure Sim (K : PySem.W.Frag) (C : Nat → Addr) (bs : List Nat) (base : Nat) (R : Rg) (h : Hh) (H : Hp) : Prop where
  len : R.own.length = h.length
  nd : R.own.Nodup
  dj : ∀ a ∈ R.own, a ∉ R.no
  obj : ∀ (n : Nat) (o : Ob) (a : Addr), h[n]? = some o → R.own[n]? = some a → ObD K C R H o (H a)
  cl : ∀ b ∈ bs, ∀ (n : Nat) (o : Ob), n < b → h[n]? = some o → obBelow b o = true
  le : ∀ b ∈ bs, b ≤ base
  nn : ∀ a ∈ R.no, H a ≠ none
def DenS (K : PySem.W.Frag) (C : Nat → Addr) (R : Rg) (H : Hp) (s : Env) (σ : L2.St) : Prop :=
  s.length = σ.length ∧ ∀ (i : Nat) (v : Val), s[i]? = some (some v) → ∃ x, σ[i]? = some (some x) ∧ Den K C R H v x
section
variable {K : PySem.W.Frag} {C : Nat → Addr} {bs : List Nat} {base : Nat} {R R' : Rg} {h h' : Hh} {H H' : Hp} {s : Env} {σ : L2.St}
theorem DenS.mono (d : DenS K C R H s σ) (e : Ext R R' H H') : DenS K C R' H' s σ :=
  ⟨d.1, fun i v q => let ⟨x, a, b⟩ := d.2 i v q; ⟨x, a, b.mono e⟩⟩
theorem DenS.set (d : DenS K C R H s σ) (i : Nat) {v : Val} {x : V} (k : Den K C R H v x) : DenS K C R H (s.set i (some v)) (σ.set i (some x)) := by
  refine ⟨by simp [d.1], fun j w q => ?_⟩
  by_cases hj : i = j
  · subst hj
    have hl : i < s.length := by
      have := (List.getElem?_eq_some_iff.mp q).1
      simpa using this
    rw [List.getElem?_set_self hl] at q
    cases q
    exact ⟨x, by rw [List.getElem?_set_self (by rw [← d.1]; exact hl)], k⟩
  · rw [List.getElem?_set_ne hj] at q
    obtain ⟨y, a, b⟩ := d.2 j w q
    exact ⟨y, by rw [List.getElem?_set_ne hj]; exact a, b⟩
theorem DenS.unset (d : DenS K C R H s σ) (i : Nat) : DenS K C R H (s.set i none) (σ.set i none) := by
  refine ⟨by simp [d.1], fun j w q => ?_⟩
  by_cases hj : i = j
  · subst hj
    by_cases hl : i < s.length
    · rw [List.getElem?_set_self hl] at q; cases q
    · rw [List.getElem?_eq_none (by simpa using hl)] at q; cases q
  · rw [List.getElem?_set_ne hj] at q
    obtain ⟨y, a, b⟩ := d.2 j w q
    exact ⟨y, by rw [List.getElem?_set_ne hj]; exact a, b⟩
theorem DenS.wipe (d : DenS K C R H s σ) : ∀ vs : List Nat, DenS K C R H (wipeE s vs) (L2.wipe σ vs)
  | [] => d
  | v :: vs => (DenS.wipe d vs).unset v
/-- a new object that is not ours -/
theorem Sim.new (S : Sim K C bs base R h H) {p : Addr} {o : HO} (n : H p = none) : Sim K C bs base R h (upd H p o) := by
  refine ⟨S.len, S.nd, S.dj, fun i ob a e r => ?_, S.cl, S.le, fun a m => (Ext.new (R := R) n).there a (S.nn a m)⟩
  have q := S.obj i ob a e r
  have np : a ≠ p := by
    intro z
    subst z
    rw [n] at q
    cases ob <;> exact q.elim
  rw [upd_ne np]
  have X : Ext R R H (upd H p o) := Ext.new n
  cases ob with
  | lst vs =>
    cases ha : H a with
    | none => rw [ha] at q; exact q.elim
    | some u =>
      rw [ha] at q
      cases u <;> first | exact q.elim | exact ⟨q.1, q.2.mono X⟩
  | ins c kvs =>
    cases ha : H a with
    | none => rw [ha] at q; exact q.elim
    | some u =>
      rw [ha] at q
      cases u <;> first | exact q.elim | exact ⟨q.1, DenK.mono X _ _ q.2⟩
theorem ObD.mono {ob : Ob} {u : Option HO} (q : ObD K C R H ob u) (X : Ext R R' H H') : ObD K C R' H' ob u := by
  cases ob with
  | lst vs =>
    cases u with
    | none => exact q.elim
    | some u => cases u <;> first | exact q.elim | exact ⟨q.1, q.2.mono X⟩
  | ins c kvs =>
    cases u with
    | none => exact q.elim
    | some u => cases u <;> first | exact q.elim | exact ⟨q.1, DenK.mono X _ _ q.2⟩
theorem Sim.there (S : Sim K C bs base R h H) {i : Nat} {a : Addr} (r : R.own[i]? = some a) : ∃ o, h[i]? = some o ∧ ObD K C R H o (H a) := by
  have hl : i < h.length := by rw [← S.len]; exact (List.getElem?_eq_some_iff.mp r).1
  exact ⟨h[i], List.getElem?_eq_getElem hl, S.obj i _ a (List.getElem?_eq_getElem hl) r⟩
/-- a new list of ours -/
theorem Sim.alloc (S : Sim K C bs base R h H) (hb : base ≤ h.length) {p : Addr} {vs : List Val} {xs : List V} (n : H p = none) (hl : xs.length ≤ sizeLine) (d : DenL K C R H vs xs) :
    Sim K C bs base (R.add p) (h ++ [.lst vs]) (upd H p (.lst xs)) := by
  have X : Ext R (R.add p) H (upd H p (.lst xs)) := Ext.own n
  have nR : p ∉ R.own := fun m => by
    obtain ⟨i, hi⟩ := List.getElem?_of_mem m
    obtain ⟨o, _, q⟩ := S.there hi
    rw [n] at q
    cases o <;> exact q.elim
  refine ⟨by simp [S.len, Rg.add], ?_, ?_, fun i ob a e r => ?_, fun b hb2 i ob hi e => ?_, S.le, fun a m => X.there a (S.nn a m)⟩
  · simp only [Rg.add]
    rw [List.nodup_append]
    refine ⟨S.nd, by simp, fun a ha b hb2 => ?_⟩
    rw [List.mem_singleton.mp hb2]
    exact fun z => nR (by rw [← z]; exact ha)
  · intro a ha hb2
    rcases List.mem_append.mp ha with m | m
    · exact S.dj a m hb2
    · rw [List.mem_singleton.mp m] at hb2
      exact S.nn p hb2 n
  · simp only [Rg.add] at r
    by_cases hi : i < h.length
    · rw [List.getElem?_append_left hi] at e
      rw [List.getElem?_append_left (by rw [S.len]; exact hi)] at r
      have q := S.obj i ob a e r
      have np : a ≠ p := fun z => nR (by rw [← z]; exact List.mem_of_getElem? r)
      rw [upd_ne np]
      exact q.mono X
    · have hi2 : i = h.length := by
        have := (List.getElem?_eq_some_iff.mp e).1
        simp at this
        omega
      subst hi2
      rw [List.getElem?_append_right (Nat.le_refl _), Nat.sub_self] at e
      rw [← S.len, List.getElem?_append_right (Nat.le_refl _), Nat.sub_self] at r
      cases e; cases r
      rw [upd_same]
      exact ⟨hl, d.mono X⟩
  · have : i < h.length := Nat.lt_of_lt_of_le hi (Nat.le_trans (S.le b hb2) hb)
    rw [List.getElem?_append_left this] at e
    exact S.cl b hb2 i ob hi e
mutual
theorem below_le {m n : Nat} (hmn : m ≤ n) : ∀ v : Val, below m v = true → below n v = true
  | .non, _ => rfl
  | .bl _, _ => rfl
  | .int _, _ => rfl
  | .str _, _ => rfl
  | .tup vs, h => by simp only [below] at h ⊢; exact belowL_le hmn vs h
  | .lst vs, h => by simp only [below] at h ⊢; exact belowL_le hmn vs h
  | .ro vs, h => by simp only [below] at h ⊢; exact belowL_le hmn vs h
  | .dct vs, h => by simp only [below] at h ⊢; exact belowK_le hmn vs h
  | .ins _ vs, h => by simp only [below] at h ⊢; exact belowK_le hmn vs h
  | .ref k, h => by simp only [below, decide_eq_true_eq] at h ⊢; omega
theorem belowL_le {m n : Nat} (hmn : m ≤ n) : ∀ v : List Val, belowL m v = true → belowL n v = true
  | [], _ => rfl
  | v :: r, h => by simp only [belowL, Bool.and_eq_true] at h ⊢; exact ⟨below_le hmn v h.1, belowL_le hmn r h.2⟩
theorem belowK_le {m n : Nat} (hmn : m ≤ n) : ∀ v : List (Key × Val), belowK m v = true → belowK n v = true
  | [], _ => rfl
  | (k, v) :: r, h => by simp only [belowK, Bool.and_eq_true] at h ⊢; exact ⟨below_le hmn v h.1, belowK_le hmn r h.2⟩
end
/-- one of ours is written: a list -/
theorem Sim.setL (S : Sim K C bs base R h H) {n : Nat} {p : Addr} {ws : List Val} {ys : List V} (r : R.own[n]? = some p) (hn : n < h.length) (hl : ys.length ≤ sizeLine) (d : DenL K C R H ws ys)
    (hm : base ≤ n ∨ belowL n ws = true ∨ ∀ b ∈ bs, n < b → belowL b ws = true) : Sim K C bs base R (h.set n (.lst ws)) (upd H p (.lst ys)) := by
  have mp : p ∈ R.own := List.mem_of_getElem? r
  have X : Ext R R H (upd H p (.lst ys)) := Ext.set mp
  refine ⟨by simp [S.len], S.nd, S.dj, fun i ob a e r2 => ?_, fun b hb i ob hi e => ?_, S.le, fun a m => X.there a (S.nn a m)⟩
  · by_cases hin : n = i
    · subst hin
      rw [List.getElem?_set_self hn] at e
      cases e
      rw [r] at r2; cases r2
      rw [upd_same]
      exact ⟨hl, d.mono X⟩
    · rw [List.getElem?_set_ne hin] at e
      have np : a ≠ p := fun z => by
        subst z
        have h1 := List.getElem?_eq_some_iff.mp r
        have h2 := List.getElem?_eq_some_iff.mp r2
        exact hin ((List.getElem_inj S.nd).mp (h1.2.trans h2.2.symm))
      rw [upd_ne np]
      exact (S.obj i ob a e r2).mono X
  · by_cases hin : n = i
    · subst hin
      rw [List.getElem?_set_self hn] at e
      cases e
      rcases hm with hm | hm | hm
      · exact absurd (Nat.lt_of_lt_of_le hi (S.le b hb)) (Nat.not_lt.mpr hm)
      · exact belowL_le (Nat.le_of_lt hi) ws hm
      · exact hm b hb hi
    · rw [List.getElem?_set_ne hin] at e
      exact S.cl b hb i ob hi e
/-- a list that is read: ours, or not -/
theorem Den.rd (S : Sim K C bs base R h H) {v : Val} {x : V} (d : Den K C R H v x) {vs : List Val} (e : rd h v = .lst vs) : ∃ a xs, x = .ref a ∧ H a = some (.lst xs) ∧ xs.length ≤ sizeLine ∧ DenL K C R H vs xs := by
  cases v <;> simp only [Co.rd] at e
  case lst ws =>
    cases e
    obtain ⟨a, xs, q, t, dl⟩ := d
    exact ⟨a, xs, q, t.2.1, t.1, dl⟩
  case ref n =>
    obtain ⟨a, r, q⟩ := d
    obtain ⟨o, ho, ob⟩ := S.there r
    rw [ho] at e
    cases o with
    | lst ws =>
      cases e
      cases ha : H a with
      | none => rw [ha] at ob; exact ob.elim
      | some u =>
        rw [ha] at ob
        cases u <;> first | exact ob.elim | exact ⟨a, _, q, ha, ob.1, ob.2⟩
    | ins c fs => cases e
  all_goals cases e
theorem rd_eq {v w : Val} (e : Co.rd h v = w) (n : ∀ vs, w ≠ .lst vs) : v = w := by
  cases v <;> simp only [Co.rd] at e <;> try exact e
  split at e
  · exact absurd e.symm (n _)
  · exact e
end
/-! ### readings -/
structure Sx where
  K : PySem.W.Frag
  C : Nat → Addr
  bs : List Nat
  g : G
def trE (Z : Sx) (c : CE) : TE := fun σ H Q => ∃ s h R v h', Sim Z.K Z.C Z.bs Z.g.base R h H ∧ Z.g.base ≤ h.length ∧ DenS Z.K Z.C R H s σ ∧ evE Z.g c s h = .ok v h' ∧
  ∀ R' H' x, Ext R R' H H' → Sim Z.K Z.C Z.bs Z.g.base R' h' H' → DenS Z.K Z.C R' H' s σ → Den Z.K Z.C R' H' v x → Q x H'
def trT (Z : Sx) (c : CE) : TT := fun σ H Q => ∃ s h R b h', Sim Z.K Z.C Z.bs Z.g.base R h H ∧ Z.g.base ≤ h.length ∧ DenS Z.K Z.C R H s σ ∧ evE Z.g c s h = .ok (.bl b) h' ∧
  ∀ R' H', Ext R R' H H' → Sim Z.K Z.C Z.bs Z.g.base R' h' H' → DenS Z.K Z.C R' H' s σ → Q b H'
def trA (Z : Sx) (es : List CE) : TA := fun σ H Q => ∃ s h R vs h', Sim Z.K Z.C Z.bs Z.g.base R h H ∧ Z.g.base ≤ h.length ∧ DenS Z.K Z.C R H s σ ∧ evEs Z.g es s h = .ok vs h' ∧
  ∀ R' H' xs, Ext R R' H H' → Sim Z.K Z.C Z.bs Z.g.base R' h' H' → DenS Z.K Z.C R' H' s σ → DenL Z.K Z.C R' H' vs xs → Q xs H'
theorem base_of {Z : Sx} {R R' : Rg} {h h' : Hh} {H H' : Hp} (X : Ext R R' H H') (S : Sim Z.K Z.C Z.bs Z.g.base R h H) (S' : Sim Z.K Z.C Z.bs Z.g.base R' h' H') (b : Z.g.base ≤ h.length) : Z.g.base ≤ h'.length := by
  obtain ⟨r, e, _⟩ := X.more
  rw [← S'.len, e, List.length_append, S.len]
  omega
/-- the names of a def's scope, and what stands around -/
structure Stc where
  N : List Str
  fns : List (Str × Nat)
  cls : List (Str × Nat)
  cst : List (Str × Val)
  blt : List Str
  mks : List Nat
  flds : List Str
  kws : List (Nat × List Str × List Nat)
/-- a promise of a def: without exceptions, where no guard stands -/
abbrev SpV := List V → Hp → VK → Prop
structure FnG (P : Program) (w : World) (K : PySem.W.Frag) (mg : Str → Option Value) (base : Heap) (k : Nat) (f : Addr) (fd : FuncData) (ps : List Str) (sp : SpV) : Prop where
  len : ∀ (vs : List V) (H : Hp) (Q : VK), sp vs H Q → vs.length = ps.length
  run : ∀ (A : Around) (outer : List PySem.Env) (s : Shared) (H : Hp) (args : Args) (us : List Value) (vs : List V) (Q : VK), Room k A → A.guards = some [] → Env0 P w K mg base A outer s H → BindsTo s fd args (ps.zip us) → Vals vs us → sp vs H Q →
    codeAny (model P w) A (.call (.ref f) args) (CR CX0 outer P w H s Q E0) s
/-- what the interpreter's call of def f promises -/
def spZ (Z : Sx) (f : Nat) : SpV := fun xs H Q => ∃ R h vs v h', Sim Z.K Z.C Z.bs Z.g.base R h H ∧ Z.g.base ≤ h.length ∧ DenL Z.K Z.C R H vs xs ∧ Z.g.call f vs h = .ok v h' ∧
  ∀ R' H' x, Ext R R' H H' → Sim Z.K Z.C Z.bs Z.g.base R' h' H' → Den Z.K Z.C R' H' v x → Q x H'
/-- .. of the making of an instance of class c: what its __init__ promises -/
def spM (Z : Sx) (c : Nat) : List V → Hp → VK → Prop := fun xs H Q => ∃ R h vs v h', Sim Z.K Z.C Z.bs Z.g.base R h H ∧ Z.g.base ≤ h.length ∧ DenL Z.K Z.C R H vs xs ∧ Z.g.make c vs h = .ok v h' ∧
  ∀ R' H' x, Ext R R' H H' → Sim Z.K Z.C Z.bs Z.g.base R' h' H' → Den Z.K Z.C R' H' v x → Q x H'
/-- a class that is looked at -/
structure ClsK (K : PySem.W.Frag) (C : Nat → Addr) (c : Nat) : Prop where
  cl : Cls K (C c)
  ha : PySem.W.findIn K (.ref (C c)) "__class__" = some (some (.builtin "object.__class__"))
  hn : PySem.W.specialIn K (.builtin "object.__class__") "__get__" = some
                          (some (.builtin "getset_descriptor.__get__"))
  htk : PySem.W.takesIn K
                          (.builtin "object.__class__") = some true
  hm : PySem.W.mroIn K (C c) (.type "object") = some true
def tyNames : List String := ["NoneType", "bool", "int", "str", "list", "tuple", "dict"]
/-- a call by names alone binds so -/
def KwB (fd : FuncData) (ps ks : List Str) (perm : List Nat) : Prop := ∀ (s : Shared) (ws : List Value), ws.length = ks.length → BindsTo s fd ⟨[], ks.zip ws⟩ (ps.zip (permL perm ws))
/-- a method of a class, at its address -/
structure SpOf (K : PySem.W.Frag) (Ca : Addr) (f : Str) (fa : Addr) : Prop where
  at_ : PySem.W.findIn K (.ref Ca) f = some (some (.ref fa))
  fn : PySem.W.isFn K (.ref fa) = true
  ne : f = "__eq__" → PySem.W.findIn K (.ref Ca) "__ne__" = some (some (.builtin "object.__ne__"))
/-- .. of a new object, by names behind it -/
def KwI (fd : FuncData) (ps ks : List Str) : Prop := ∀ (s : Shared) (x : Value) (ws : List Value), ws.length = ks.length → BindsTo s fd ⟨[x], ks.zip ws⟩ (ps.zip (x :: ws))
structure XOk (T : Stc) (Z : Sx) (X : Cx) (sc : Scope) : Prop where
  K : Z.K = X.K
  N : X.N = T.N
  nd : T.N.Nodup
  sc : X.env.scope = sc
  calm : X.calm = true
  room : Room 1 X.A
  gd : X.A.guards = some []
  blt : ∀ x ∈ T.blt, X.mg x = none
  cst : ∀ x v, T.cst.lookup x = some v → ∃ u xv, X.mg x = some u ∧ RelV xv u ∧ ∀ R H, Den X.K Z.C R H v xv
  fns : ∀ x f, T.fns.lookup x = some f → ∃ (k : Nat) (fa : Addr) (fd : FuncData) (ps : List Str), FnG X.prog X.w X.K X.mg X.base k fa fd ps (spZ Z f) ∧ Room k X.A ∧ X.mg x = some (.ref fa) ∧
    PySem.W.keepIn X.K (.ref fa) = true ∧ Binds X.K fd ps [] ∧ ∀ ks perm, (f, ks, perm) ∈ T.kws → perm ≠ [] → KwB fd ps ks perm
  mks : ∀ x c, T.cls.lookup x = some c → X.mg x = some (.ref (Z.C c)) ∧ c < Z.g.ncl ∧ (∀ t ∈ tyNames, PySem.W.kitOne X.K (.type t) (.ref (Z.C c)) = some false) ∧
    (∀ d, d < Z.g.ncl → PySem.W.kitOne X.K (.ref (Z.C d)) (.ref (Z.C c)) = some (decide (d = c))) ∧
    (c ∈ T.mks → ∃ (k : Nat) (fa : Addr) (fd : FuncData) (ps : List Str) (sp : SpV), Mk X.K (Z.C c) fa ∧ FnG X.prog X.w X.K X.mg X.base k fa fd ps sp ∧ Room (k + 1) X.A ∧ Binds X.K fd ps [] ∧ (∀ ks, (c, ks, []) ∈ T.kws → KwI fd ps ks) ∧
      ∀ xs H Q, spM Z c xs H Q → ∀ x dx, H x = none → H dx = none → dx ≠ x → sp (.ref x :: xs) (upd (upd H dx (.own x)) x (.ins (Z.C c) dx [])) (fun v H2 => v = .non ∧ Q (.ref x) H2))
  cls : ∀ c, c < Z.g.ncl → ClsK X.K Z.C c
  isb : ∀ c, c < Z.g.ncl → ∀ t ∈ tyNames, PySem.W.kitOne X.K (.ref (Z.C c)) (.type t) = some false
  noat : ∀ c f, c < Z.g.ncl → f ∈ T.flds → (Z.g.prop c f).isSome = false → (Z.g.meth c f).isSome = false → NoAttr X.K (Z.C c) f
  prs : ∀ c f p, c < Z.g.ncl → Z.g.prop c f = some p → ∃ (k : Nat) (pa fa : Addr) (fd : FuncData) (ps : List Str), PropOf X.K (Z.C c) f pa fa ∧ FnG X.prog X.w X.K X.mg X.base k fa fd ps (spZ Z p) ∧ Room (k + 1) X.A ∧ Binds X.K fd ps []
  sps : ∀ c f p, Z.g.meth c f = some p → c < Z.g.ncl ∧ (∀ t ∈ tyNames, PySem.W.kitOne X.K (.type t) (.ref (Z.C c)) = some false) ∧ (∀ d, d < Z.g.ncl → PySem.W.kitOne X.K (.ref (Z.C d)) (.ref (Z.C c)) = some (decide (d = c))) ∧ ∃ (k : Nat) (fa : Addr) (fd : FuncData) (ps : List Str), SpOf X.K (Z.C c) f fa ∧ FnG X.prog X.w X.K X.mg X.base k fa fd ps (spZ Z p) ∧ Room (k + 2) X.A ∧ Binds X.K fd ps []
  nob : ("__bool__" : Str) ∈ T.flds → ("__len__" : Str) ∈ T.flds → ∀ c, c < Z.g.ncl → NoAttr X.K (Z.C c) "__bool__" ∧ NoAttr X.K (Z.C c) "__len__"
def SE (T : Stc) (sc : Scope) (e : Expr) (c : CE) : Prop := ∀ (Z : Sx) (X : Cx), XOk T Z X sc → PE X e (trE Z c)
def ST (T : Stc) (sc : Scope) (e : Expr) (c : CE) : Prop := ∀ (Z : Sx) (X : Cx), XOk T Z X sc → PT X e (trT Z c)
def SA (T : Stc) (sc : Scope) (es : List Expr) (cs : List CE) : Prop := ∀ (Z : Sx) (X : Cx), XOk T Z X sc → PA X es (trA Z cs)
theorem bad_e {T : Stc} {sc : Scope} {e : Expr} : SE T sc e .bad := fun Z X ok => ⟨fun pins s σ H Q I h => by
  obtain ⟨s, h, R, v, h', _, _, _, e, _⟩ := h
  cases e⟩
theorem bad_t {T : Stc} {sc : Scope} {e : Expr} : ST T sc e .bad := fun Z X ok => ⟨fun pins s σ H Q I h => by
  obtain ⟨s, h, R, v, h', _, _, _, e, _⟩ := h
  cases e⟩
section
variable {T : Stc} {sc : Scope} {Z : Sx} {X : Cx}
theorem var_e {x : Str} {pos : Pos} {i : Nat} (hi : T.N[i]? = some x) (hv : Vis sc x) (h1 : (x == ("__debug__" : Str)) = false) (h2 : (x == ("__classdict__" : Str)) = false) : SE T sc (.Name x pos) (.var i) := fun Z X ok => by
  refine
                          ⟨fun pins s σ H Q I h => ?_⟩
  obtain ⟨s, h, R, v, h', S, b, D, e, k⟩ := h
  refine (pe_var (i := i) (by rw [ok.N]; exact hi) (by rw [ok.sc]; exact hv) h1 h2).run pins _ σ H Q I ?_
  simp only [evE] at e
  split at e
  · rename_i w hw
    cases e
    obtain ⟨x, a1, a2⟩ := D.2 i _ hw
    exact ⟨x, a1, k R H x (Ext.refl _ _) S D a2⟩
  · cases e
theorem two {a b : CE} {σ : L2.St} {H : Hp} {s : Env} {h h1 h2 : Hh} {R : Rg} {v w : Val} {W : V → V → Hp → Prop} (S : Sim Z.K Z.C Z.bs Z.g.base R h H) (hb : Z.g.base ≤ h.length) (D : DenS Z.K Z.C R H s σ)
    (ea : evE Z.g a s h = .ok v h1) (eb : evE Z.g b s h1 = .ok w h2)
    (k : ∀ R' H' x y, Ext R R' H H' → Sim Z.K Z.C Z.bs Z.g.base R' h2 H' → Z.g.base ≤ h2.length → DenS Z.K Z.C R' H' s σ → Den Z.K Z.C R' H' v x → Den Z.K Z.C R' H' w y → W x y H') :
    trE Z a σ H fun x H1 => trE Z b σ H1 fun y H2 => W x y H2 := by
  refine ⟨s, h, R, v, h1, S, hb, D, ea, fun R1 H1 x X1 S1 D1 dx => ?_⟩
  have b1 := base_of X1 S S1 hb
  refine ⟨s, h1, R1, w, h2, S1, b1, D1, eb, fun R2 H2 y X2 S2 D2 dy => ?_⟩
  exact k R2 H2 x y (X1.trans X2) S2 (base_of X2 S1 S2 b1) D2 (dx.mono X2) dy
end
end Co
end

section
set_option linter.all false
set_option maxRecDepth 100000
set_option autoImplicit false
/-! Co5: operations by values. -/
namespace Co
open PySem PySem.Spec
                        PyProof.Rows L2
section
variable {Z : Sx} {X : Cx} {R R' : Rg} {h h' : Hh} {H H' : Hp}
/-- what is known of a value behind an operation -/
abbrev Aft (Z : Sx) (R : Rg) (h : Hh) (H : Hp) (v : Val) (Q : VK) : Prop :=
  ∀ H' x, Ext R R H H' → Sim Z.K Z.C Z.bs Z.g.base R h H' → Den Z.K Z.C R H' v x → Q x H'
abbrev SimZ (Z : Sx) (R : Rg) (h : Hh) (H : Hp) : Prop := Sim Z.K Z.C Z.bs Z.g.base R h H
abbrev DenZ (Z : Sx) (R : Rg) (H : Hp) (v : Val) (x : V) : Prop := Den Z.K Z.C R H v x
abbrev DenLZ (Z : Sx) (R : Rg) (H : Hp) (v : List Val) (x : List V) : Prop := DenL Z.K Z.C R H v x
theorem Aft.here {v : Val} {Q : VK} (k : Aft Z R h H v Q) (S : SimZ Z R h H) {x : V} (d : DenZ Z R H v x) : Q x H := k H x (Ext.refl _ _) S d
theorem Sim.notin {K : PySem.W.Frag} {C : Nat → Addr} {bs : List Nat} {base : Nat} (S : Sim K C bs base R h H) {p : Addr} (n : H p = none) : p ∉ R := by
  rintro (m | m)
  · obtain ⟨i, hi⟩ := List.getElem?_of_mem m
    obtain ⟨o, _, q⟩ := S.there hi
    rw [n] at q
    cases o <;> exact q.elim
  · exact S.nn p m n
theorem Aft.lst {vs : List Val} {Q : VK} (k : Aft Z R h H (.lst vs) Q) (S : SimZ Z R h H) {p : Addr} {xs : List V} (n : H p = none) (hl : xs.length ≤ sizeLine) (d : DenLZ Z R H vs xs) : Q (.ref p) (upd H p (.lst xs)) :=
  k _ _ (Ext.new n) (S.new n) ⟨p, xs, rfl, ⟨hl, upd_same, S.notin n⟩, d.mono (Ext.new n)⟩
theorem Aft.tup {vs : List Val} {Q : VK} (k : Aft Z R h H (.tup vs) Q) (S : SimZ Z R h H) {p : Addr} {xs : List V} (n : H p = none) (hl : xs.length ≤ sizeLine) (d : DenLZ Z R H vs xs) : Q (.ref p) (upd H p (.tup xs)) :=
  k _ _ (Ext.new n) (S.new n) ⟨p, xs, rfl, ⟨hl, .inl ⟨.inl upd_same, S.notin n⟩⟩, d.mono (Ext.new n)⟩
theorem op_fdivP : OpR X (binaryOp .FloorDiv) (rI (fun i j => j ≠ 0 ∧ Builtin.divisionGoesByPylong i j = false) fun i j => .int (i.fdiv j)) := opI fun _ _ _ _ _ _ _ hc q => floordiv_int hc.1 q (.inl hc.2)
theorem op_mulA : OpR X (binaryOp .Mult) (rI (fun i j => mulOk i j = true) fun i j => .int (i * j)) := opI fun i j _ _ _ _ _ hc q => by
  refine mul_int q ?_
  unfold mulOk at hc
  simp only [Bool.or_eq_true, decide_eq_true_eq] at hc
  rcases hc with hc | hc | hc
  · exact .of_left (intBits_le_64 (by omega) (by omega))
  · exact .of_right (intBits_le_64 (by omega) (by omega))
  · exact CMulW.ok hc
theorem ints_den : ∀ {vs : List Val} {ns : List Int}, intsV vs = some ns → vs = ns.map Val.int
  | [], _, e => by cases e; rfl
  | v :: r, ns, e => by
    cases v <;> simp [intsV] at e
    obtain ⟨l, e1, e2⟩ := e
    rw [← e2, ints_den e1]; rfl
set_option maxHeartbeats
                        4000000 in
/-- a tuple, once -/
theorem tup_once (l : Addr) (its : Array Value) (n : Nat) (dd : Option Addr) (sl : Array (Option Value)) (u : Tok) :
    Meets (Builtin.«tuple.__mul__» ⟨[.ref l, .int 1 u], []⟩) (fun _ R s => s.heap.get? l = some { cls := .type "tuple", dict := dd, data := .seq its n, slots := sl } ∧ R (.ok (.ret (.ref l))) s) :=
  .of_wp fun P W A R s h => by
    obtain
                            ⟨hp, g, d, tk, os⟩ := s
    obtain ⟨hl, h⟩ := h
    have f1 := AutoSeq1.idx_int
    have one : (its.isEmpty || (1 : Int) == 1) = true := by simp
    wp_walk using
                            wpAny_loadPart' hl
    repeat (first
      | (refine wpAny_ite_true (decide_eq_true one) ?_; wp_walk using wpAny_loadPart' hl)
      | (refine wpAny_ite_false (by decide) ?_; wp_walk using wpAny_loadPart' hl))
    exact ⟨_, rfl, h⟩
def rOnce (K : PySem.W.Frag) : R2 := fun x y H Q => ∃ l xs, x = .ref l ∧ y = .int 1 ∧ SqT K H l xs ∧ Q (.ref l) H
theorem op_once : OpR X (binaryOp .Mult) (rOnce X.K) := by
  intro pins s σ H x
                          y v u Q I rx ry h
  obtain ⟨l, xs, rfl, rfl, hT, q⟩ := h
  cases rx
  obtain ⟨t, rfl⟩ := ry
  obtain ⟨its, r,
                          ⟨⟨cls, dd, data, sl⟩, ho, hc, n, hd⟩, hs⟩ := I.tuple hT
  simp only at hc hd
  subst hc hd
  exact wpAny_binaryOp_repeat_ref (T := "tuple") (U := "int") (by decide) ⟨_, ho, rfl⟩ (fun s2 => typeIs_int s2 1 t) noFill_tuple_mul F.fills_int_mul F.slot_int_rmul repeat_tuple F.slot_int_index.lookup
    (call_meets F.slot_int_rmul (typeIs_int s 1 t) F.entry_int_rmul (F.args_int_rmul_2 _ _) (int_rmul_tuple 1 t l its.toArray n dd sl)
      ⟨ho, rfl, ⟨_, ho, rfl⟩, call_meets F.slot_tuple_mul ⟨_, ho, rfl⟩ F.entry_tuple_mul (F.args_tuple_mul_2 _ _) (tup_once l its.toArray n dd sl t) ⟨ho, .ref l, H, I, rfl, q⟩⟩)
/-- a op b -/
theorem bop_ok (hK : Z.K = X.K) (S : SimZ Z R h H) {op : Operator} {v w r : Val} {x y : V} (e : bop op (rd h v) (rd h w) = some r) (dv : DenZ Z R H v x) (dw : DenZ Z R H w y) :
    ∃ rr : R2, OpR X (binaryOp op) rr ∧ ∀ Q, Aft Z R h H r Q → rr x y H Q := by
  generalize ea : rd h v = a at e
  generalize eb : rd h w = b at e
  have ii : ∀ {i : Int}, a = .int i → x = .int i := fun q => by
    subst q
    have := rd_eq ea (by simp)
    subst this
    exact dv
  have jj : ∀ {i : Int}, b = .int i → y = .int i := fun q => by
    subst q
    have := rd_eq eb (by simp)
    subst this
    exact dw
  have is : ∀ {i : Str}, a = .str i → x = .str i := fun q => by
    subst q
    have := rd_eq ea (by simp)
    subst this
    exact dv
  have js : ∀ {i : Str}, b = .str i → y = .str i := fun q => by
    subst q
    have := rd_eq eb (by simp)
    subst this
    exact dw
  unfold bop at e
  split at e
  · cases e
    exact ⟨_, op_add, fun Q k => ⟨_, _, ii rfl, jj rfl, k.here S rfl⟩⟩
  · split at e <;> cases e
    rename_i hl
    exact ⟨_, op_add_str, fun Q k => ⟨_, _, is rfl, js rfl, by rw [sz]; exact hl, k.here S rfl⟩⟩
  · split at e <;> cases e
    rename_i hl
    obtain ⟨p, xs, rfl, tp, l1, d1⟩ := dv.rd S ea
    obtain ⟨q, ys, rfl, tq, l2, d2⟩ := dw.rd S eb
    have hz : xs.length + ys.length ≤ sizeLine := by rw [← d1.length, ← d2.length, sz]; exact hl
    exact ⟨_, op_cat, fun Q k => ⟨p, q, xs, ys, rfl, rfl, tp, tq, hz, fun n hn => k.lst S hn (by rw [List.length_append]; exact hz) (d1.append d2)⟩⟩
  · split at e <;> cases e
    rename_i hl
    have e1 := rd_eq ea (by simp)
    have e2 := rd_eq eb (by simp)
    subst e1; subst e2
    obtain ⟨p, xs, rfl, tp, d1⟩ := dv
    obtain ⟨q, ys, rfl, tq, d2⟩ := dw
    have hz : xs.length + ys.length ≤ sizeLine := by rw [← d1.length, ← d2.length, sz]; exact hl
    refine ⟨_, op_catA, fun Q k => ⟨p, q, xs, ys, rfl, rfl, by rw [← hK]; exact tp.sq, by rw [← hK]; exact tq.sq, hz, fun z => ?_, fun _ z => ?_, fun _ _ n hn => k.tup S hn (by rw [List.length_append]; exact hz) (d1.append d2)⟩⟩
    · have : _ = 0 := d1.length.trans (by rw [z]; rfl)
      rw [List.length_eq_zero_iff.mp this] at k
      exact k.here S ⟨q, ys, rfl, tq, d2⟩
    · have : _ = 0 := d2.length.trans (by rw [z]; rfl)
      rw [List.length_eq_zero_iff.mp this, List.append_nil] at k
      exact k.here S ⟨p, xs, rfl, tp, d1⟩
  · cases e
    exact ⟨_, op_sub, fun Q k => ⟨_, _, ii rfl, jj rfl, k.here S rfl⟩⟩
  · split at e <;> cases e
    rename_i hl
    exact ⟨_, op_mulA, fun Q k => ⟨_, _, ii rfl, jj rfl, hl, k.here S rfl⟩⟩
  · split at e <;> cases e
    rename_i hl
    unfold repOk at hl
    simp only [Bool.and_eq_true, decide_eq_true_eq] at hl
    obtain ⟨p, xs, rfl, tp, l1, d1⟩ := dv.rd S ea
    have hz := hl.2.2
    rw [d1.length, ← sz] at hz
    exact ⟨_, op_rep, fun Q k => ⟨p, _, xs, rfl, jj rfl, tp, by omega, hl.2.1, hz, fun n hn => k.lst S hn (by rw [lm_len_rep_flat, Nat.mul_comm]; exact hz) (d1.rep _)⟩⟩
  · rename_i kk
    split at e <;> cases e
    rename_i hl
    have e1 := rd_eq ea (by simp)
    subst e1
    obtain ⟨p, xs, rfl, tp, d1⟩ := dv
    rw [d1.length] at hl
    have hx : xs ≠ [] := fun z => hl.1 (by have := d1.length; rw [z] at this; exact List.length_eq_zero_iff.mp this)
    by_cases one : kk = 1
    · subst one
      refine ⟨_, op_once, fun Q k => ⟨p, xs, rfl, jj rfl, by rw [← hK]; exact tp.sq, k.here S ⟨p, xs, rfl, tp, ?_⟩⟩⟩
      have := d1.rep 1
      simpa using this
    exact ⟨_, op_repT, fun Q k => ⟨p, _, xs, rfl, jj rfl, by rw [← hK]; exact tp.sq, hx, by omega, hl.2.2.1, hl.2.2.2, fun n hn => k.tup S hn (by
      rw [lm_len_rep_flat, sz]
      have h1 := hl.2.2.2
      have h2 := hl.2.2.1
      have hlim : lim = 16777216 := rfl
      have : kk.toNat * xs.length ≤ 1000 * 1000 := Nat.mul_le_mul (show kk.toNat ≤ 1000 by omega) h1
      omega) (d1.rep _)⟩⟩
  · split at e <;> cases e
    rename_i hl
    unfold divOk at hl
    simp only [Bool.and_eq_true, Bool.not_eq_true', decide_eq_false_iff_not] at hl
    exact ⟨_, op_fdivP, fun Q k => ⟨_, _, ii rfl, jj rfl, hl, k.here S rfl⟩⟩
  · split at e <;> cases e
    rename_i hl
    exact ⟨_, op_modN, fun Q k => ⟨_, _, ii rfl, jj rfl, hl, k.here S rfl⟩⟩
  · split at e <;> cases e
    rename_i hl
    unfold powOk at hl
    simp only [Bool.and_eq_true, decide_eq_true_eq] at hl
    exact ⟨_, op_pow, fun Q k => ⟨_, _, ii rfl, jj rfl, hl, k.here S rfl⟩⟩
  · cases e

/-! ### comparisons -/
theorem inD_eq (a : Val) : ∀ (bs : List Val) (k : Bool), inD a bs = some k → bs ≠ [] → ∃ d ds, toD 60 a = some d ∧ toDL 60 bs = some ds ∧ k = ds.any fun z => PyData.eqv z d
  | [], _, _, hn => absurd rfl hn
  | b :: r, k, e, _ => by
    simp only [inD, Option.bind_eq_some_iff, Option.map_eq_some_iff] at e
    obtain ⟨j, e1, m, e2, rfl⟩ := e
    simp only [eqD, Option.bind_eq_some_iff, Option.map_eq_some_iff] at e1
    obtain ⟨z, f1, d, f2, rfl⟩ := e1
    by_cases hr : r = []
    · subst hr
      simp only [inD] at e2
      cases e2
      exact ⟨d, [z], f2, by simp [toDL, f1], by simp⟩
    · obtain ⟨d', ds, g1, g2, rfl⟩ := inD_eq a r m e2 hr
      rw [f2] at g1; cases g1
      exact ⟨d, z :: ds, f2, by simp [toDL, f1, g2], by simp⟩
theorem shapedL {bs : List Val} {xs : List V} {ds : List PyData} (h : DenLZ Z R H bs xs) (e : toDL 60 bs = some ds) : DpAll Z.K H xs ds ∧ SeqAt.shaped (.list ds) = true ∧ SeqAt.shaped (.tuple ds) = true := by
  obtain ⟨p, q, r⟩ := DenL.dp 60 bs xs ds h e
  refine ⟨p, ?_, ?_⟩ <;> (unfold SeqAt.shaped; simp only [PyData.canLay0, PyData.depth, q]; rw [Bool.true_and]; exact decide_eq_true (by omega))
theorem op_inT (hu : X.A.units + 65 < cLine) : OpR X (compareOp .In) (fun x y H Q => ∃ d ds, Dp X.K H x d ∧ Dp X.K H y (.tuple ds) ∧ SeqAt.shaped d = true ∧ SeqAt.shaped (.tuple ds) = true ∧ Q (.bl (ds.any fun z => PyData.eqv z d)) H) := by
  rintro pins s σ H x y v u Q I rx ry ⟨d, ds, hd, he, sd, se, q⟩
  obtain
                          ⟨as, r1⟩ := Dp.reads I d x v hd rx
  obtain ⟨bs, r2⟩ := Dp.reads I (.tuple ds) y u he ry
  exact SeqAt.in_tuple_reads r2 r1 (SeqAt.canLay_of_shaped se) (SeqAt.canLay_of_shaped sd) (by
    have h1 := SeqAt.depth_of_shaped sd
    have h2 : min (PyData.depthAll ds) d.depth ≤ d.depth := Nat.min_le_right _ _
    omega) ⟨.bl _, H, I, rfl, q⟩
theorem op_notInT (hu : X.A.units + 65 < cLine) : OpR X (compareOp .NotIn) (fun x y H Q => ∃ d ds, Dp X.K H x d ∧ Dp X.K H y (.tuple ds) ∧ SeqAt.shaped d = true ∧ SeqAt.shaped (.tuple ds) = true ∧ Q (.bl (!ds.any fun z => PyData.eqv z d)) H) := by
  rintro pins s σ H x y v u Q I rx ry ⟨d, ds, hd, he, sd, se, q⟩
  obtain
                          ⟨as, r1⟩ := Dp.reads I d x v hd rx
  obtain ⟨bs, r2⟩ := Dp.reads I (.tuple ds) y u he ry
  exact SeqAt.notIn_tuple_reads r2 r1 (SeqAt.canLay_of_shaped se) (SeqAt.canLay_of_shaped sd) (by
    have h1 := SeqAt.depth_of_shaped sd
    have h2 : min (PyData.depthAll ds) d.depth ≤ d.depth := Nat.min_le_right _ _
    omega) ⟨.bl _, H, I, rfl, q⟩
theorem room65 (hr : Room 1 X.A) : X.A.units + 65 < cLine := by have := hr.un; omega
theorem room64 (hr : Room 1 X.A) : X.A.units + 64 < cLine := by have := hr.un; omega
theorem isNon_den {a : Val} {x : V} (d : DenZ Z R H a x) : decide (x = .non) = isNon a := by
  cases a with
  | non => rw [show x = _ from d]; rfl
  | bl b => rw [show x = _ from d]; rfl
  | int b => rw [show x = _ from d]; rfl
  | str b => rw [show x = _ from d]; rfl
  | tup b => obtain ⟨a, xs, rfl, _⟩ := d; rfl
  | lst b => obtain ⟨a, xs, rfl, _⟩ := d; rfl
  | ro b => obtain ⟨a, xs, rfl, _⟩ := d; rfl
  | dct b => obtain ⟨a, xs, rfl, _⟩ := d; rfl
  | ins c b => obtain ⟨a, dx, gs, rfl, _⟩ := d; rfl
  | ref n => obtain ⟨a, _, rfl⟩ := d; rfl
/-- what is read of a value -/
theorem rd_den (S : SimZ Z R h H) {v w : Val} {x : V} (e : rd h v = w) (d : DenZ Z R H v x) : (∃ a xs vs, w = .lst vs ∧ x = .ref a ∧ H a = some (.lst xs) ∧ xs.length ≤ sizeLine ∧ DenLZ Z R H vs xs) ∨ (DenZ Z R H w x ∧ ∀ vs, w ≠ .lst vs) := by
  by_cases hw : ∃ vs, w = .lst vs
  · obtain ⟨vs, rfl⟩ := hw
    obtain ⟨a, xs, h1, h2, h3, h4⟩ := d.rd S e
    exact .inl ⟨a, xs, vs, rfl, h1, h2, h3, h4⟩
  · have n : ∀ vs, w ≠ .lst vs := fun vs z => hw ⟨vs, z⟩
    rw [← rd_eq e n]
    exact .inr ⟨d, fun vs z => n vs (by rw [← rd_eq e n]; exact z)⟩
/-- .. data -/
theorem rd_dp (S : SimZ Z R h H) {v : Val} {x : V} {d : PyData} (dv : DenZ Z R H v x) (e : toD 60 (rd h v) = some d) : Dp Z.K H x d ∧ SeqAt.shaped d = true := by
  rcases rd_den S rfl dv with ⟨a, xs, vs, hw, rfl, t, l, dl⟩ | ⟨dw, _⟩
  · rw [hw] at e
    simp only [toD, Option.map_eq_some_iff] at e
    obtain ⟨ds, e, rfl⟩ := e
    obtain ⟨p, q, r⟩ := DenL.dp 59 vs xs ds dl e
    refine ⟨.lst (.inl (.inl t)) p, ?_⟩
    unfold SeqAt.shaped
    simp only [PyData.canLay0, PyData.depth, q]
    rw [Bool.true_and]
    exact decide_eq_true
                            (by omega)
  · exact dw.shaped e
theorem key_den {v : Val} {x : V} {k : Key} (e : keyOf (rd h v) = some k) (d : DenZ Z R H v x) : x = kV k := by
  generalize ea : rd h v = a at e
  cases a <;> simp only [keyOf] at e <;> cases e
  · have := rd_eq ea (by simp)
    subst this
    exact d
  · have := rd_eq ea (by simp)
    subst this
    exact d
theorem DenK.find : ∀ {kvs : List (Key × Val)} {xs : List (Key × V)}, DenK Z.K Z.C R H kvs xs → ∀ k : Key, (∀ v, keyGet k kvs = some v → ∃ x, valV xs k = some x ∧ DenZ Z R H v x) ∧ (valV xs k).isSome = keyIn k kvs
  | [], _, h, k => by
    rw [show _ = ([] : List (Key × V)) from h]
    exact ⟨fun v e => by simp [keyGet] at e, rfl⟩
  | (m, v) :: r, _, h, k => by
    obtain ⟨x, ys, q, d, d2⟩ := h
    subst q
    obtain ⟨i1, i2⟩ := DenK.find d2 k
    by_cases hm : m = k
    · subst hm
      refine ⟨fun w e => ?_, ?_⟩
      · simp [keyGet] at e
        subst e
        exact ⟨x, by simp [valV], d⟩
      · simp [valV, keyIn]
    · refine ⟨fun w e => ?_, ?_⟩
      · have e' : keyGet k r = some w := by simpa [keyGet, List.find?_cons, hm] using e
        obtain ⟨y, e2, d3⟩ := i1 w e'
        exact ⟨y, by simpa [valV, List.find?_cons, hm] using e2, d3⟩
      · have a1 : (valV ((m, x) :: ys) k) = valV ys k := by simp [valV, List.find?_cons, hm]
        have a2 : keyIn k ((m, v) :: r) = keyIn k r := by simp [keyIn, List.find?_cons, hm]
        rw [a1, a2, i2]
theorem op_inDict (hu : X.A.units + 64 < cLine) : OpR X (compareOp .In) (fun x y H Q => ∃ a o, y = .ref a ∧ DGet H a x o ∧ Q (.bl o.isSome) H) := by
  rintro pins s σ H x y v u Q I rx ry ⟨a, o, rfl, g, q⟩
  obtain rfl : u =
                          Value.ref a := ry
  exact d_in (by omega) I g rx fun s3 I3 => ⟨.bl o.isSome, H, I3, rfl, q⟩
theorem op_notInDict (hu : X.A.units + 64 < cLine) : OpR X (compareOp .NotIn) (fun x y H Q => ∃ a o, y = .ref a ∧ DGet H a x o ∧ Q (.bl (!o.isSome)) H) := by
  rintro pins s σ H x y v u Q I rx ry ⟨a, o, rfl, g, q⟩
  obtain rfl : u =
                          Value.ref a := ry
  exact d_notIn (by omega) I g rx fun s3 I3 => ⟨.bl (!o.isSome), H, I3, rfl, q⟩
theorem memb_ok (hK : Z.K = X.K) (hr : Room 1 X.A) (S : SimZ Z R h H) {v w : Val} {x y : V} {k : Bool} (e : memb (rd h v) (rd h w) = some k) (dv : DenZ Z R H v x) (dw : DenZ Z R H w y) :
    ∃ rr ss : R2, OpR X (compareOp .In) rr ∧ OpR X (compareOp .NotIn) ss ∧ (∀ Q, Aft Z R h H (.bl k) Q → rr x y H Q) ∧ ∀ Q, Aft Z R h H (.bl (!k)) Q → ss x y H Q := by
  generalize eb : rd h w = b at e
  unfold memb at e
  split at e
  · rename_i bs
    obtain ⟨p, xs, rfl, tp, l1, d1⟩ := dw.rd S eb
    simp only [Option.bind_eq_some_iff] at e
    obtain ⟨d, ed, e⟩ := e
    obtain ⟨pd, sd⟩ := rd_dp S dv ed
    rw [hK] at pd
    have main : ∃ ds, DpAll X.K H xs ds ∧ SeqAt.shaped (.list ds) = true ∧ k = ds.any fun z => PyData.eqv z d := by
      by_cases hn : bs = []
      · subst hn
        rw [show xs = [] from d1]
        simp only [inD] at e
        cases e
        exact ⟨[], .nil, rfl, rfl⟩
      · obtain ⟨d', ds, g1, g2, g3⟩ := inD_eq _ bs k e hn
        rw [ed] at g1; cases g1
        obtain ⟨a1, a2, _⟩ := shapedL d1 g2
        exact ⟨ds, by rw [← hK]; exact a1, a2, g3⟩
    obtain ⟨ds, a1, a2, rfl⟩ := main
    exact ⟨_, _, op_inD (room65 hr), op_notInD (room65 hr), fun Q k => ⟨d, ds, pd, .lst (.inl (.inl tp)) a1, sd, a2, k.here S rfl⟩, fun Q k => ⟨d, ds, pd, .lst (.inl (.inl tp)) a1, sd, a2, k.here S rfl⟩⟩
  · rename_i bs
    have e1 := rd_eq eb (by simp)
    subst e1
    obtain ⟨p, xs, rfl, tp, d1⟩ := dw
    simp only [Option.bind_eq_some_iff] at e
    obtain ⟨d, ed, e⟩ := e
    obtain ⟨pd, sd⟩ := rd_dp S dv ed
    rw [hK] at pd
    have main : ∃ ds, DpAll X.K H xs ds ∧ SeqAt.shaped (.tuple ds) = true ∧ k = ds.any fun z => PyData.eqv z d := by
      by_cases hn : bs = []
      · subst hn
        rw [show xs = [] from d1]
        simp only [inD] at e
        cases e
        exact ⟨[], .nil, rfl, rfl⟩
      · obtain ⟨d', ds, g1, g2, g3⟩ := inD_eq _ bs k e hn
        rw [ed] at g1; cases g1
        obtain ⟨a1, _, a2⟩ := shapedL d1 g2
        exact ⟨ds, by rw [← hK]; exact a1, a2, g3⟩
    obtain ⟨ds, a1, a2, rfl⟩ := main
    have tq : SqT X.K H p xs := by rw [← hK]; exact tp.sq
    exact ⟨_, _, op_inT (room65 hr), op_notInT (room65 hr), fun Q k => ⟨d, ds, pd, .tup tq a1, sd, a2, k.here S rfl⟩, fun Q k => ⟨d, ds, pd, .tup tq a1, sd, a2, k.here S rfl⟩⟩
  · rename_i kvs
    simp only [Option.map_eq_some_iff] at e
    obtain ⟨key, ek, rfl⟩ := e
    have e1 := rd_eq eb (by simp)
    subst e1
    obtain ⟨p, xs, rfl, tp, nr, d1⟩ := dw
    have g := key_den ek dv
    have gk := (DenK.find d1 key).2
    exact ⟨_, _, op_inDict (room64 hr), op_notInDict (room64 hr), fun Q k => ⟨p, _, rfl, by rw [g]; exact DGet.k tp, by rw [gk]; exact k.here S rfl⟩, fun Q k => ⟨p, _, rfl, by rw [g]; exact DGet.k tp, by rw [gk]; exact k.here S rfl⟩⟩
  · rename_i z
    have e1 := rd_eq eb (by simp)
    subst e1
    split at e
    · rename_i t ha
      split at e
      · rename_i c hc
        cases e
        have e2 := rd_eq ha (by simp)
        subst e2
        have et : t = ⟨#[c]⟩ := by
          obtain ⟨arr⟩ := t
          have : arr = #[c] := by rw [← Array.toArray_toList (xs := arr), hc]
          rw [this]
        rw [et] at dv
        exact ⟨_, _, op_in_sign, op_notIn_sign, fun Q k => ⟨c, z, dv, dw, k.here S rfl⟩, fun Q k => ⟨c, z, dv, dw, k.here S rfl⟩⟩
      · cases e
    · cases e
  · cases e
/-- is a truth: no other object than that -/
theorem op_isTr : OpR X (compareOp .Is) (fun x y H Q => ∃ d, y = .bl d ∧ ((∃ c, x = .bl c ∧ Q (.bl (decide (c = d))) H) ∨ (x = .non ∧ Q (.bl false) H))) := by
  intro pins s σ H x
                          y v u Q I rx ry h
  obtain ⟨d, rfl, h⟩ := h
  cases ry
  rcases h with ⟨c, rfl, q⟩ | ⟨rfl, q⟩
  · cases rx
    exact is_bool (fin_bl I q (by cases c <;> cases d <;> rfl))
  · cases rx
    exact wpAny_pure (a := Value.bool (Value.none == Value.bool d)) (fin_bl I q (by cases d <;> rfl))
theorem op_isntTr : OpR X (compareOp .IsNot) (fun x y H Q => ∃ d, y = .bl d ∧ ((∃ c, x = .bl c ∧ Q (.bl (!decide (c = d))) H) ∨ (x = .non ∧ Q (.bl true) H))) := by
  intro pins s σ H x
                          y v u Q I rx ry h
  obtain ⟨d, rfl, h⟩ := h
  cases ry
  rcases h with ⟨c, rfl, q⟩ | ⟨rfl, q⟩
  · cases rx
    exact isnot_bool (fin_bl I q (by cases c <;> cases d <;> rfl))
  · cases rx
    exact wpAny_pure (a := Value.bool (!(Value.none == Value.bool d))) (fin_bl I q (by cases d <;> rfl))
theorem op_eqS : OpR X (compareOp .Eq) (fun x y H Q => ∃ i j, x = .str i ∧ y = .str j ∧ Q (.bl (decide (i = j))) H) := by
  intro pins s σ H x
                          y v u Q I rx ry h
  obtain
                          ⟨i, j, rfl, rfl, q⟩ := h
  obtain ⟨t, rfl⟩ := rx
  obtain ⟨w, rfl⟩ := ry
  exact PyProof.Rows.eq_str (fin_bl I q (by by_cases z : i = j <;> simp [z]))
theorem op_neS : OpR X (compareOp .NotEq) (fun x y H Q => ∃ i j, x = .str i ∧ y = .str j ∧ Q (.bl (!decide (i = j))) H) := by
  intro pins s σ H x
                          y v u Q I rx ry h
  obtain
                          ⟨i, j, rfl, rfl, q⟩ := h
  obtain ⟨t, rfl⟩ := rx
  obtain ⟨w, rfl⟩ := ry
  exact PyProof.Rows.ne_str (fin_bl I q (by by_cases z : i = j <;> simp [z]))
/-- a list with items, and one without -/
theorem op_eqLen (hu : X.A.units + 64 < cLine) : OpR X (compareOp .Eq) (fun x y H Q => ∃ a b u us, x = .ref a ∧ y = .ref b ∧ H a = some (.lst (u :: us)) ∧ H b = some (.lst []) ∧ Q (.bl false) H) := by
  intro pins s σ H x y v w Q I rx ry h
  obtain ⟨a, b, u, us, rfl, rfl, ha, hb, q⟩ := h
  obtain rfl : v =
                          Value.ref a := rx
  obtain rfl : w = Value.ref b := ry
  obtain ⟨its, n, r, e, _⟩ := I.lst ha
  obtain ⟨its2, n2, r2, e2, _⟩ := I.lst hb
  cases r
  cases r2
  exact SeqAt.eq_list_lengthsAt ⟨_, e, rfl, n, rfl⟩ ⟨_, e2, rfl, n2, rfl⟩ (by simp) (by omega) ⟨.bl _, H, I, rfl, q⟩
theorem op_neLen (hu : X.A.units + 64 < cLine) : OpR X (compareOp .NotEq) (fun x y H Q => ∃ a b u us, x = .ref a ∧ y = .ref b ∧ H a = some (.lst (u :: us)) ∧ H b = some (.lst []) ∧ Q (.bl true) H) := by
  intro pins s σ H x y v w Q I rx ry h
  obtain ⟨a, b, u, us, rfl, rfl, ha, hb, q⟩ := h
  obtain rfl : v =
                          Value.ref a := rx
  obtain rfl : w = Value.ref b := ry
  obtain ⟨its, n, r, e, _⟩ := I.lst ha
  obtain ⟨its2, n2, r2, e2, _⟩ := I.lst hb
  cases r
  cases r2
  exact SeqAt.RcNeAt.lists_lengths ⟨_, e, rfl, n, rfl⟩ ⟨_, e2, rfl, n2, rfl⟩ (by simp) (by omega) _ _ _ _ ⟨.bl _, H, I, rfl, q⟩
theorem cop_ok (hK : Z.K = X.K) (hr : Room 1 X.A) (S : SimZ Z R h H) {op : CmpOp} {v w : Val} {x y : V} {k : Bool} (e : cop op (rd h v) (rd h w) = some k) (dv : DenZ Z R H v x) (dw : DenZ Z R H w y) :
    ∃ rr : R2, OpR X (compareOp op) rr ∧ ∀ Q, Aft Z R h H (.bl k) Q → rr x y H Q := by
  generalize ea : rd h v = a at e
  generalize eb : rd h w = b at e
  have ii : ∀ {i : Int}, a = .int i → x = .int i := fun q => by
    subst q
    have := rd_eq ea (by simp)
    subst this
    exact dv
  have jj : ∀ {i : Int}, b = .int i → y = .int i := fun q => by
    subst q
    have := rd_eq eb (by simp)
    subst this
    exact dw
  have bb : ∀ {i : Bool}, a = .bl i → x = .bl i := fun q => by
    subst q
    have := rd_eq ea (by simp)
    subst this
    exact dv
  have es : ∀ {i : Str}, a = .str i → x = .str i := fun q => by
    subst q
    have := rd_eq ea (by simp)
    subst this
    exact dv
  have et : ∀ {i : Str}, b = .str i → y = .str i := fun q => by
    subst q
    have := rd_eq eb (by simp)
    subst this
    exact dw
  unfold cop at e
  split at e
  · cases e
    exact ⟨_, op_eqS, fun Q k => ⟨_, _, es rfl, et rfl, k.here S rfl⟩⟩
  · cases e
    exact ⟨_, op_neS, fun Q k => ⟨_, _, es rfl, et rfl, k.here S rfl⟩⟩
  · cases e
    rcases rd_den S ea dv with ⟨a, xs, vs, hw, rfl, ta, _, dl⟩ | ⟨_, n⟩
    · rcases rd_den S eb dw with ⟨b, ys, ws, hw2, rfl, tb, _, dl2⟩ | ⟨_, n⟩
      · cases hw
        cases hw2
        obtain ⟨u, us, rfl, _⟩ := dl
        obtain rfl : ys = [] := dl2
        exact ⟨_, op_eqLen (room64 hr), fun Q k => ⟨_, _, _, _, rfl, rfl, ta, tb, k.here S rfl⟩⟩
      · exact absurd rfl (n _)
    · exact absurd rfl (n _)
  · cases e
    rcases rd_den S ea dv with ⟨a, xs, vs, hw, rfl, ta, _, dl⟩ | ⟨_, n⟩
    · rcases rd_den S eb dw with ⟨b, ys, ws, hw2, rfl, tb, _, dl2⟩ | ⟨_, n⟩
      · cases hw
        cases hw2
        obtain ⟨u, us, rfl, _⟩ := dl
        obtain rfl : ys = [] := dl2
        exact ⟨_, op_neLen (room64 hr), fun Q k => ⟨_, _, _, _, rfl, rfl, ta, tb, k.here S rfl⟩⟩
      · exact absurd rfl (n _)
    · exact absurd rfl (n _)
  · subst ea eb
    simp only [eqD, Option.bind_eq_some_iff, Option.map_eq_some_iff] at e
    obtain ⟨d, e1, d2, e2, rfl⟩ := e
    obtain ⟨p1, s1⟩ := rd_dp S dv e1
    obtain ⟨p2, s2⟩ := rd_dp S dw e2
    rw [hK] at p1 p2
    exact ⟨_, op_eqD (room64 hr), fun Q k => ⟨d, d2, p1, p2, s1, s2, k.here S rfl⟩⟩
  · subst ea eb
    simp only [eqD, Option.bind_eq_some_iff, Option.map_eq_some_iff] at e
    obtain ⟨_, ⟨d, e1, d2, e2, rfl⟩, rfl⟩ := e
    obtain ⟨p1, s1⟩ := rd_dp S dv e1
    obtain ⟨p2, s2⟩ := rd_dp S dw e2
    rw [hK] at p1 p2
    exact ⟨_, op_neD (room64 hr), fun Q k => ⟨d, d2, p1, p2, s1, s2, k.here S rfl⟩⟩
  · cases e
    exact ⟨_, op_lt, fun Q k => ⟨_, _, ii rfl, jj rfl, k.here S rfl⟩⟩
  · cases e
    exact ⟨_, op_le, fun Q k => ⟨_, _, ii rfl, jj rfl, k.here S rfl⟩⟩
  · cases e
    exact ⟨_, op_gt, fun Q k => ⟨_, _, ii rfl, jj rfl, k.here S rfl⟩⟩
  · cases e
    exact ⟨_, op_ge, fun Q k => ⟨_, _, ii rfl, jj rfl, k.here S rfl⟩⟩
  · cases e
    have e1 := rd_eq eb (by simp)
    subst e1
    have e2 : isNon (rd h v) = isNon v := by
      cases v <;> try rfl
      simp only [rd]
      split <;> rfl
    refine ⟨_, op_isN, fun Q k => ⟨dw, k.here S ?_⟩⟩
    show V.bl _ = V.bl _
    rw [isNon_den dv, ← ea, e2]
  · cases e
    have e1 := rd_eq eb (by simp)
    subst e1
    have e2 : isNon (rd h v) = isNon v := by
      cases v <;> try rfl
      simp only [rd]
      split <;> rfl
    refine ⟨_, op_notN, fun Q k => ⟨dw, k.here S ?_⟩⟩
    show V.bl _ = V.bl _
    rw [isNon_den dv, ← ea, e2]
  · have e1 := rd_eq eb (by simp)
    subst e1
    unfold isTr at e
    split at e <;> cases e
    · rw [show x = .bl _ from bb rfl]
      exact ⟨_, op_isTr, fun Q k => ⟨_, dw, .inl ⟨_, rfl, k.here S rfl⟩⟩⟩
    · have := rd_eq ea (by simp)
      subst this
      rw [show x = .non from dv]
      exact ⟨_, op_isTr, fun Q k => ⟨_, dw, .inr ⟨rfl, k.here S rfl⟩⟩⟩
  · have e1 := rd_eq eb (by simp)
    subst e1
    simp only [Option.map_eq_some_iff] at e
    obtain ⟨t, e, rfl⟩ := e
    unfold isTr at e
    split at e <;> cases e
    · rw [show x = .bl _ from bb rfl]
      exact ⟨_, op_isntTr, fun Q k => ⟨_, dw, .inl ⟨_, rfl, k.here S rfl⟩⟩⟩
    · have := rd_eq ea (by simp)
      subst this
      rw [show x = .non from dv]
      exact ⟨_, op_isntTr, fun Q k => ⟨_, dw, .inr ⟨rfl, k.here S rfl⟩⟩⟩
  · subst ea eb
    obtain ⟨rr, ss, h1, h2, h3, h4⟩ := memb_ok hK hr S e dv dw
    exact ⟨rr, h1, h3⟩
  · subst ea eb
    simp only [Option.map_eq_some_iff] at e
    obtain ⟨k', e, rfl⟩ := e
    obtain ⟨rr, ss, h1, h2, h3, h4⟩ := memb_ok hK hr S e dv dw
    exact ⟨ss, h2, h4⟩
  · cases e

/-! ### built-in functions -/
theorem call_lenD2 : CallR X (.builtin "len") (fun xs H Q => ∃ a kvs, xs = [V.ref a] ∧ H a = some (.dK kvs) ∧ Q (.int kvs.length) H) := call_lenD
theorem DenK.length : ∀ {kvs : List (Key × Val)} {xs : List (Key × V)}, DenK Z.K Z.C R H kvs xs → kvs.length = xs.length
  | [], _, h => by rw [show _ = ([] : List (Key × V)) from h]; rfl
  | (m, v) :: r, _, h => by
    obtain ⟨x, ys, q, d, d2⟩ := h
    rw [q, List.length_cons, List.length_cons, DenK.length d2]
theorem maxI_spec : ∀ (r : List Int) (x m : Int), m ∈ x :: r → (∀ y, y ∈ x :: r → y ≤ m) → m = maxI x r
  | [], x, m, hm, _ => by simpa [maxI] using hm
  | y :: r, x, m, hm, hle => by
    unfold maxI
    refine maxI_spec r _ m ?_ ?_
    · by_cases h : x < y
      · rw [if_pos h]
        rcases List.mem_cons.mp
                                hm with e | e
        · subst e
          have := hle y (by simp)
          omega
        · exact e
      · rw [if_neg h]
        rcases List.mem_cons.mp
                                hm with e | e
        · rw [e]; simp
        · rcases List.mem_cons.mp
                                e with e | e
          · have := hle x (by simp)
            have : m = x := by omega
            rw [this]; simp
          · exact List.mem_cons_of_mem _ e
    · intro z hz
      by_cases h : x < y
      · rw [if_pos h] at hz
        exact hle z (List.mem_cons_of_mem _ hz)
      · rw [if_neg h] at hz
        rcases List.mem_cons.mp hz with e | e
        · rw [e]; exact hle x (by simp)
        · exact hle z (by simp [e])
theorem minI_spec : ∀ (r : List Int) (x m : Int), m ∈ x :: r → (∀ y, y ∈ x :: r → m ≤ y) → m = minI x r
  | [], x, m, hm, _ => by simpa [minI] using hm
  | y :: r, x, m, hm, hle => by
    unfold minI
    refine minI_spec r _ m ?_ ?_
    · by_cases h : y < x
      · rw [if_pos h]
        rcases List.mem_cons.mp
                                hm with e | e
        · subst e
          have := hle y (by simp)
          omega
        · exact e
      · rw [if_neg h]
        rcases List.mem_cons.mp
                                hm with e | e
        · rw [e]; simp
        · rcases List.mem_cons.mp
                                e with e | e
          · have := hle x (by simp)
            have : m = x := by omega
            rw [this]; simp
          · exact List.mem_cons_of_mem _ e
    · intro z hz
      by_cases h : y < x
      · rw [if_pos h] at hz
        exact hle z (List.mem_cons_of_mem _ hz)
      · rw [if_neg h] at hz
        rcases List.mem_cons.mp hz with e | e
        · rw [e]; exact hle x (by simp)
        · exact hle z (by simp [e])
theorem insI_perm (x : Int) : ∀ l : List Int, (insI x l).Perm (x :: l)
  | [] => .refl _
  | y :: r => by
    unfold insI
    split
    · exact .refl _
    · exact ((insI_perm x r).cons y).trans (.swap x y r)
theorem sortI_perm : ∀ l : List Int, (sortI l).Perm l
  | [] => .refl _
  | x :: r => (insI_perm x (sortI r)).trans ((sortI_perm r).cons x)
theorem insI_sorted (x : Int) : ∀ {l : List Int}, l.Pairwise (· ≤ ·) → (insI x l).Pairwise (· ≤ ·)
  | [], _ => by simp [insI]
  | y :: r, h => by
    rw [List.pairwise_cons] at h
    unfold insI
    split
    · rename_i hxy
      rw [List.pairwise_cons]
      refine ⟨fun z hz => ?_, List.pairwise_cons.mpr h⟩
      rcases List.mem_cons.mp hz with e | e
      · rw [e]; exact hxy
      · have := h.1 z e
        omega
    · rename_i hxy
      rw [List.pairwise_cons]
      refine ⟨fun z hz => ?_, insI_sorted x h.2⟩
      rcases List.mem_cons.mp ((insI_perm x r).mem_iff.mp hz) with e | e
      · omega
      · exact h.1 z e
theorem sortI_sorted : ∀ l : List Int, (sortI l).Pairwise (· ≤ ·)
  | [] => .nil
  | x :: r => insI_sorted x (sortI_sorted r)
theorem sortI_the {l m : List Int} (p : m.Perm l) (s : m.Pairwise (· ≤ ·)) : m = sortI l :=
  (p.trans (sortI_perm l).symm).eq_of_pairwise (le := fun a b => decide (a ≤ b) = true) (fun a b _ _ h1 h2 => by simp at h1 h2; omega) (s.imp fun h => by simpa using h) ((sortI_sorted l).imp fun h => by simpa using h)
end
end Co
end

section
set_option linter.all false
set_option maxRecDepth 100000
set_option autoImplicit false
/-! Co6: built-in functions, methods, slices, places, by values. -/
namespace Co
open PySem PySem.Spec
                        PyProof.Rows L2
section
variable {Z : Sx} {X : Cx} {R R' : Rg} {h h' : Hh} {H H' : Hp}
def biV : Bi → Value
  | .abs => .builtin "abs"
  | .all => .builtin "all"
  | .any => .builtin "any"
  | .bool => .type "bool"
  | .divmod => .builtin "divmod"
  | .int => .type "int"
  | .len => .builtin "len"
  | .max => .builtin "max"
  | .min => .builtin "min"
  | .str => .type "str"
  | .sum => .builtin "sum"
  | .tuple => .type "tuple"
  | .list => .type "list"
  | .sorted => .builtin "sorted"
  | .sset => .none
  | .repr => .builtin "repr"
theorem asL_one {vs : List Val} {xs : List V} {w : Val} (d : DenLZ Z R H vs xs) (e : asL vs h = [w]) : ∃ v x, vs = [v] ∧ xs = [x] ∧ DenZ Z R H v x ∧ rd h v = w := by
  cases vs with
  | nil => cases e
  | cons v r =>
    cases r with
    | nil =>
      obtain ⟨x, ys, q, d1, d2⟩ := d
      rw [show ys = [] from d2] at q
      exact ⟨v, x, rfl, q, d1, (List.cons.inj e).1⟩
    | cons _ _ => cases e
theorem asL_two {vs : List Val} {xs : List V} {w u : Val} (d : DenLZ Z R H vs xs) (e : asL vs h = [w, u]) : ∃ v v' x x', vs = [v, v'] ∧ xs = [x, x'] ∧ DenZ Z R H v x ∧ DenZ Z R H v' x' ∧ rd h v = w ∧ rd h v' = u := by
  cases vs with
  | nil => cases e
  | cons v r =>
    cases r with
    | nil => cases e
    | cons v' r =>
      cases r with
      | nil =>
        obtain ⟨x, ys, q, d1, x', zs, q2, d3, d4⟩ := d
        rw [show zs = [] from d4] at q2
        rw [q2] at q
        exact ⟨v, v', x, x', rfl, q, d1, d3, (List.cons.inj e).1, (List.cons.inj (List.cons.inj e).2).1⟩
      | cons _ _ => cases e
theorem rd_int {v : Val} {x : V} {i : Int} (e : rd h v = .int i) (d : DenZ Z R H v x) : x = .int i := by
  have := rd_eq e (by simp)
  subst this
  exact d
theorem rd_bl {v : Val} {x : V} {i : Bool} (e : rd h v = .bl i) (d : DenZ Z R H v x) : x = .bl i := by
  have := rd_eq e (by simp)
  subst this
  exact d
theorem rd_non {v : Val} {x : V} (e : rd h v = .non) (d : DenZ Z R H v x) : x = .non := by
  have := rd_eq e (by simp)
  subst this
  exact d
theorem rd_str {v : Val} {x : V} {i : Str} (e : rd h v = .str i) (d : DenZ Z R H v x) : x = .str i := by
  have := rd_eq e (by simp)
  subst this
  exact d
theorem rd_tup {v : Val} {x : V} {vs : List Val} (e : rd h v = .tup vs) (d : DenZ Z R H v x) : DenZ Z R H (.tup vs) x := by
  have := rd_eq e (by simp)
  subst this
  exact d
theorem rd_ro {v : Val} {x : V} {vs : List Val} (e : rd h v = .ro vs) (d : DenZ Z R H v x) : DenZ Z R H (.ro vs) x := by
  have := rd_eq e (by simp)
  subst this
  exact d
theorem rd_dct {v : Val} {x : V} {vs : List (Key × Val)} (e : rd h v = .dct vs) (d : DenZ Z R H v x) : DenZ Z R H (.dct vs) x := by
  have := rd_eq e (by simp)
  subst this
  exact d
theorem cr_sortedTu : CallR X (.builtin "sorted") (fun vs H Q => ∃ (a : Addr) (ns : List Int), vs = [V.ref a] ∧ SqT X.K H a (ns.map V.int) ∧
    ∀ (ns' : List Int) (p : Addr), ns'.Perm ns → ns'.Pairwise (· ≤ ·) → H p = none → Q (.ref p) (upd H p (.lst (ns'.map V.int)))) := by
  intro pins s σ
                          H vs us Q I r h
  obtain
                          ⟨a, ns, rfl, hs, q⟩ := h
  obtain ⟨its, rv, ht, hz⟩ := I.tuple hs
  rw [Vals.ref1 r]
  have hi := rv.ints
  have hzl : its.length ≤ sizeLine := by rw [← rv.length]; exact hz
  obtain
                          ⟨o, ho, hc, n, hd⟩ := id ht
  refine Calls.call_function_entry PyProof.Rows.kind_sorted PyProof.Rows.plain_sorted PyProof.Rows.entry_sorted
                          (PyProof.Rows.args_sorted1 _) ?_
  unfold Builtin.«sorted»
  refine wpAny_bind
                          (m := checkCount "sorted" 1 1 _) (wpAny_pure ?_)
  refine wpAny_bind (wpAny_collect_seq a (.inr rfl) ho hc hd (fun h' hk => ?_) (by rw [List.size_toArray]; exact hzl))
  rw [List.toList_toArray]
  refine wpAny_bind (wpAny_newList ?_ hzl)
  have hoL : (h'.push (seqObj "list" its.toArray 0)).get? h'.objs.size = some (seqObj "list" its.toArray 0) := Heap.get?_push_size _ rfl
  show wpAny _ _ _ _ _ { s with heap := h'.push (seqObj "list" its.toArray 0) }
  refine wpAny_bind (wpAny_holding (wpAny_call_entry PyProof.Rows.slot_list_sort
                          ⟨_, hoL, rfl⟩ PyProof.Rows.entry_list_sort
    (SrtO.list_sort_ord (s := { s with heap := h'.push (seqObj "list" its.toArray 0) }) SrtO.swo_int hoL hzl (fun h2 => SrtO.ints_sortable hi h2) fun out h1 h2 => ⟨_, rfl, ?_⟩) (PyProof.Rows.args_list_sort _)))
  refine wpAny_pure
                          ⟨_, rfl, ?_⟩
  obtain
                          ⟨k1, k2, k3⟩ := SrtO.ints_out hi h1 h2
  obtain ⟨ep, he'⟩ := PyProof.Rows.sortedHeap_at (vs := its) (out := out.toArray) hoL
  have hlen :
                          ((out.map SrtO.iv).map V.int).length ≤ sizeLine := by
    rw [List.length_map,
                            k2.length_eq]
    rw [List.length_map] at hz
    exact hz
  have I0 : Inv X pins σ H { s with heap := h' } := I.kept (t' := s.toks) hk
  refine ⟨.ref h'.objs.size, upd H h'.objs.size (.lst ((out.map SrtO.iv).map V.int)), I0.laid (t' := s.toks) (fun b u hb => ?_) (Nat.le_refl _) ⟨hlen, out, ep, vals_of_ints k1, he'⟩, rfl, q _ _ k2 k3 (I0.hok.fresh (Nat.le_refl _))⟩
  have hlt : b < h'.objs.size := Heap.lt_size hb
  have hb2 : (h'.push (seqObj "list" its.toArray 0)).get? b = some u := Heap.get?_push_of_some _ hb
  rw [PyProof.Rows.sortedHeap_old (Nat.ne_of_lt hlt) (Heap.lt_size hb2)]
  exact hb2
theorem cr_repr (hr : Room 1 X.A) (hg : X.A.guards = some []) : CallR X (.builtin "repr") (fun xs H Q => ∃ (a : Addr) (d : PyData), xs = [.ref a] ∧ Dp X.K H (.ref a) d ∧ d.depth ≤ 60 ∧ d.canLay0 = true ∧ d.showable = true ∧ d.shown.length ≤ sizeLine ∧ Q (.str d.shown) H) := by
  intro pins s σ
                          H xs us Q I r h
  obtain ⟨a, d, rfl, dp, hd, hl, hs, hz, q⟩ := h
  rw [Vals.ref1 r]
  obtain ⟨as, rr⟩ := Dp.reads I d (.ref a) (.ref a) dp rfl
  have hu := hr.un
  exact PySem.repr_of_reads' rr hs (PyData.noDict_hsm (PyData.hasDict_of_canLay d hl)) hg (by omega) (fun b o e => e) (fun h' u tk hk => ⟨.str d.shown, H, I.kept (t' := tk) hk, ⟨u, rfl⟩, q⟩) hz
theorem cr_reprB : CallR X (.builtin "repr") (fun xs H Q => ∃ b : Bool, xs = [.bl b] ∧ Q (.str (if b then "True" else "False")) H) := by
  intro pins s σ
                          H xs us Q I r h
  obtain ⟨b, rfl, q⟩ := h
  obtain ⟨u, rfl, e⟩ := vals1 r
  have e : u = .bool b := e
  subst e
  exact PySem.P.repr_of_bool ⟨.str _, H, I.tok _, ⟨_, rfl⟩, q⟩
theorem cr_reprN : CallR X (.builtin "repr") (fun xs H Q => xs = [.non] ∧ Q (.str "None") H) := by
  intro pins s σ
                          H xs us Q I r h
  obtain ⟨rfl, q⟩ := h
  obtain ⟨u, rfl, e⟩ := vals1 r
  have e : u = .none := e
  subst e
  exact PySem.P.repr_of_none ⟨.str _, H, I.tok _, ⟨_, rfl⟩, q⟩
theorem cr_reprS : CallR X (.builtin "repr") (fun xs H Q => ∃ x : Str, xs = [.str x] ∧ (reprText x).length ≤ sizeLine ∧ Q (.str (reprText x)) H) := by
  intro pins s σ
                          H xs us Q I r h
  obtain ⟨x, rfl, hz, q⟩ := h
  obtain
                          ⟨u, rfl, t, rfl⟩ := vals1 r
  exact PySem.P.repr_of_str ⟨.str _, H, I.tok _, ⟨_, rfl⟩, q⟩ hz
theorem vals_of : ∀ {xs : List V} {us : List Value}, xs.length = us.length → (∀ (j : Nat) (x : V) (v : Value), xs[j]? = some x → us[j]? = some v → RelV x v) → Vals xs us
  | [], [], _, _ => .nil
  | x :: xs, u :: us, e, f => .cons (f 0 x u rfl rfl) (vals_of (by simpa using e) fun j y v p q => f (j + 1) y v (by simpa using p) (by simpa using q))
  | [], _ :: _, e, _ => by cases e
  | _ :: _, [], e, _ => by cases e
/-- list(text) -/
theorem call_list_signs {X : Cx} (hc : X.calm = true) : CallR X (.type "list") (fun xs H Q => ∃ z : Str, xs = [.str z] ∧ z.cps.size ≤ sizeLine ∧ ∀ p, H p = none → Q (.ref p) (upd H p (.lst ((z.cps.toList.map fun c => (⟨#[c]⟩ : Str)).map V.str)))) := by
  intro pins s σ
                          H xs us Q I r q
  obtain ⟨z, rfl, hz, q⟩ := q
  obtain
                          ⟨u, rfl, t, rfl⟩ := vals1 r
  refine call_list_str (hn := hz) (I.ok.hd hc) z t fun h1 tk acc c1 hk hD hacc => ?_
  have hl : (z.cps.toList.map fun c => (⟨#[c]⟩ : Str)).length = acc.toList.length := by
    rw [List.length_map, Array.length_toList, Array.length_toList, hacc.1]
  have hv : Vals ((z.cps.toList.map fun c => (⟨#[c]⟩ : Str)).map V.str) acc.toList := by
    refine vals_of (by rw [List.length_map]; exact hl) fun j x v ex ev => ?_
    rw [Array.getElem?_toList] at ev
    obtain ⟨c, u, e1, rfl⟩ := hacc.2 j v ev
    have : x = .str ⟨#[c]⟩ := by
      simp only [List.getElem?_map, Array.getElem?_toList, e1, Option.map_some] at ex
      cases ex
      rfl
    subst this
    exact ⟨u, rfl⟩
  exact ⟨.ref s.heap.objs.size, _, I.laid (t' := tk) hk (Nat.le_refl _)
    (show ObjOk X.prog X.w _ _ _ (.lst ((z.cps.toList.map fun c => (⟨#[c]⟩ : Str)).map V.str)) from ⟨by rw [List.length_map, List.length_map, Array.length_toList]; exact hz, acc.toList, c1, hv, by rw [Array.toArray_toList]; exact hD⟩), rfl, q _ (I.hok.fresh (Nat.le_refl _))⟩
theorem bi_ok (hK : Z.K = X.K) (hr : Room 1 X.A) (hgd : X.A.guards = some []) (hc : X.calm = true) (S : SimZ Z R h H) {b : Bi} {vs : List Val} {xs : List V} {r : Val} (hb : b ≠ .sset) (e : bi b (asL vs h) = some r) (d : DenLZ Z R H vs xs) :
    ∃ rr : List V → Hp → VK → Prop, CallR X (biV b) rr ∧ ∀ Q, Aft Z R h H r Q → rr xs H Q := by
  generalize ea : asL vs h = as at e
  unfold bi at e
  split at e
  · -- abs
    cases e
    obtain ⟨v, x, rfl, rfl, dv, ev⟩ := asL_one d ea
    exact ⟨_, call_abs, fun Q k => ⟨_, by rw [rd_int ev dv], k.here S rfl⟩⟩
  · -- all
    simp only [Option.map_eq_some_iff] at e
    obtain ⟨bs, e, rfl⟩ := e
    obtain ⟨v, x, rfl, rfl, dv, ev⟩ := asL_one d ea
    obtain ⟨a, ys, rfl, t, l, dl⟩ := dv.rd S ev
    exact ⟨_, cr_all hc, fun Q k => ⟨a, bs, rfl, .inl (.inl (by rw [t, dl.bls e])), k.here S rfl⟩⟩
  · -- any
    simp only [Option.map_eq_some_iff] at e
    obtain ⟨bs, e, rfl⟩ := e
    obtain ⟨v, x, rfl, rfl, dv, ev⟩ := asL_one d ea
    obtain ⟨a, ys, rfl, t, l, dl⟩ := dv.rd S ev
    exact ⟨_, cr_any hc, fun Q k => ⟨a, bs, rfl, .inl (.inl (by rw [t, dl.bls e])), k.here S rfl⟩⟩
  · cases e
    obtain ⟨v, x, rfl, rfl, dv, ev⟩ := asL_one d ea
    exact ⟨_, call_bool1, fun Q k => .inr ⟨_, by rw [rd_bl ev dv], k.here S rfl⟩⟩
  · cases e
    obtain ⟨v, x, rfl, rfl, dv, ev⟩ := asL_one d ea
    exact ⟨_, call_bool1, fun Q k => .inl ⟨_, by rw [rd_int ev dv], k.here S rfl⟩⟩
  · -- divmod
    split at e <;> cases e
    rename_i hl
    obtain ⟨v, v', x, x', rfl, rfl, dv, dv', ev, ev'⟩ := asL_two d ea
    exact ⟨_, call_divmodW, fun Q k => ⟨_, _, by rw [rd_int ev dv, rd_int ev' dv'], hl, fun p n => k.tup S n (by rw [sz]; show 2 ≤ 16777216; decide) ⟨_, _, rfl, rfl, _, _, rfl, rfl, rfl⟩⟩⟩
  · cases e
    obtain ⟨v, x, rfl, rfl, dv, ev⟩ := asL_one d ea
    exact ⟨_, call_int1, fun Q k => .inl ⟨_, by rw [rd_int ev dv], k.here S rfl⟩⟩
  · cases e
    obtain ⟨v, x, rfl, rfl, dv, ev⟩ := asL_one d ea
    exact ⟨_, call_int1, fun Q k => .inr ⟨_, by rw [rd_bl ev dv], k.here S rfl⟩⟩
  · split at e
    · rename_i hl
      simp only [Option.map_eq_some_iff] at e
      obtain ⟨n, e, rfl⟩ := e
      obtain ⟨v, x, rfl, rfl, dv, ev⟩ := asL_one d ea
      exact ⟨_, call_int_str, fun Q k => ⟨_, n, by rw [rd_str ev dv], e, hl, k.here S rfl⟩⟩
    · cases e
  · -- len
    cases e
    obtain ⟨v, x, rfl, rfl, dv, ev⟩ := asL_one d ea
    obtain ⟨a, ys, rfl, t, l, dl⟩ := dv.rd S ev
    exact ⟨_, call_len_seq, fun Q k => ⟨a, ys, rfl, .inl (.inl (.inl t)), by rw [← dl.length]; exact k.here S rfl⟩⟩
  · cases e
    obtain ⟨v, x, rfl, rfl, dv, ev⟩ := asL_one d ea
    obtain ⟨a, ys, rfl, t, dl⟩ := rd_tup ev dv
    exact ⟨_, call_len_seq, fun Q k => ⟨a, ys, rfl, .inr (by rw [← hK]; exact t.sq), by rw [← dl.length]; exact k.here S rfl⟩⟩
  · cases e
    obtain ⟨v, x, rfl, rfl, dv, ev⟩ := asL_one d ea
    obtain ⟨a, ys, rfl, t, dl⟩ := rd_ro ev dv
    exact ⟨_, call_len_seq, fun Q k => ⟨a, ys, rfl, .inl (by rw [← hK]; exact t.sq), by rw [← dl.length]; exact k.here S rfl⟩⟩
  · cases e
    obtain ⟨v, x, rfl, rfl, dv, ev⟩ := asL_one d ea
    obtain ⟨a, ys, rfl, t, nr, dl⟩ := rd_dct ev dv
    exact ⟨_, call_lenD, fun Q k => ⟨a, ys, rfl, t, by rw [← dl.length]; exact k.here S rfl⟩⟩
  · split at e <;> cases e
    rename_i hl
    obtain ⟨v, x, rfl, rfl, dv, ev⟩ := asL_one d ea
    exact ⟨_, call_len_str, fun Q k => ⟨_, by rw [rd_str ev dv], by rw [sz]; exact hl, k.here S rfl⟩⟩
  · cases e
    obtain ⟨v, v', x, x', rfl, rfl, dv, dv', ev, ev'⟩ := asL_two d ea
    exact ⟨_, call_max2 hc, fun Q k => ⟨_, _, by rw [rd_int ev dv, rd_int ev' dv'], k.here S rfl⟩⟩
  · cases e
    obtain ⟨v, v', x, x', rfl, rfl, dv, dv', ev, ev'⟩ := asL_two d ea
    exact ⟨_, call_min2 hc, fun Q k => ⟨_, _, by rw [rd_int ev dv, rd_int ev' dv'], k.here S rfl⟩⟩
  · simp only [Option.bind_eq_some_iff] at e
    obtain ⟨l, e1, e⟩ := e
    split at e <;> cases e
    rename_i y q
    obtain ⟨v, x, rfl, rfl, dv, ev⟩ := asL_one d ea
    obtain ⟨a, ys, rfl, t, lz, dl⟩ := dv.rd S ev
    exact ⟨_, cr_max hc, fun Q k => ⟨a, _, rfl, .inl (.inl (by rw [t, dl.ints e1])), by simp, fun m h1 h2 => by rw [maxI_spec _ _ _ h1 h2]; exact k.here S rfl⟩⟩
  · simp only [Option.bind_eq_some_iff] at e
    obtain ⟨l, e1, e⟩ := e
    split at e <;> cases e
    rename_i y q
    obtain ⟨v, x, rfl, rfl, dv, ev⟩ := asL_one d ea
    obtain ⟨a, ys, rfl, t, lz, dl⟩ := dv.rd S ev
    exact ⟨_, cr_min hc, fun Q k => ⟨a, _, rfl, .inl (.inl (by rw [t, dl.ints e1])), by simp, fun m h1 h2 => by rw [minI_spec _ _ _ h1 h2]; exact k.here S rfl⟩⟩
  · split at e <;> cases e
    rename_i hl
    obtain ⟨v, x, rfl, rfl, dv, ev⟩ := asL_one d ea
    exact ⟨_, call_str_int, fun Q k => ⟨_, by rw [rd_int ev dv], hl, k.here S rfl⟩⟩
  · cases e
    obtain ⟨v, x, rfl, rfl, dv, ev⟩ := asL_one d ea
    exact ⟨_, SkE.call_str_str, fun Q k => ⟨_, by rw [rd_str ev dv], k.here S rfl⟩⟩
  · simp only [Option.map_eq_some_iff] at e
    obtain ⟨l, e1, rfl⟩ := e
    obtain ⟨v, x, rfl, rfl, dv, ev⟩ := asL_one d ea
    obtain ⟨a, ys, rfl, t, lz, dl⟩ := dv.rd S ev
    exact ⟨_, cr_sum hc, fun Q k => ⟨a, l, rfl, .inl (.inl (by rw [t, dl.ints e1])), k.here S rfl⟩⟩
  · -- tuple
    simp only [Option.map_eq_some_iff] at e
    obtain ⟨ws, e1, rfl⟩ := e
    obtain ⟨v, x, rfl, rfl, dv, ev⟩ := asL_one d ea
    unfold seqOf at e1
    split at e1 <;> cases e1
    · obtain ⟨a, ys, rfl, t, lz, dl⟩ := dv.rd S ev
      exact ⟨_, call_tuple_of, fun Q k => ⟨a, ys, rfl, .inl ⟨.inl (.inl t), fun p n => k.tup S n lz dl⟩⟩⟩
    · have dt := rd_tup ev dv
      obtain ⟨a, ys, rfl, t, dl⟩ := id dt
      exact ⟨_, call_tuple_of, fun Q k => ⟨a, ys, rfl, .inr ⟨by rw [← hK]; exact t.sq, k.here S dt⟩⟩⟩
  · -- list of a text
    split at e <;> cases e
    rename_i hl
    obtain ⟨v, x, rfl, rfl, dv, ev⟩ := asL_one d ea
    refine ⟨_, call_list_signs hc, fun Q k => ⟨_, by rw [rd_str ev dv], by rw [sz]; exact hl, fun p n => ?_⟩⟩
    exact k.lst S n (by rw [List.length_map, List.length_map, Array.length_toList, sz]; exact hl) (DenL.ofStrs _)
  · -- list
    simp only [Option.map_eq_some_iff] at e
    obtain ⟨ws, e1, rfl⟩ := e
    obtain ⟨v, x, rfl, rfl, dv, ev⟩ := asL_one d ea
    unfold seqOf at e1
    split at e1 <;> cases e1
    · obtain ⟨a, ys, rfl, t, lz, dl⟩ := dv.rd S ev
      exact ⟨_, call_list_of, fun Q k => ⟨a, ys, rfl, .inl (.inl (.inl t)), fun p n => k.lst S n lz dl⟩⟩
    · obtain ⟨a, ys, rfl, t, dl⟩ := rd_tup ev dv
      exact ⟨_, call_list_of, fun Q k => ⟨a, ys, rfl, .inr (by rw [← hK]; exact t.sq), fun p n => k.lst S n t.1 dl⟩⟩
  · -- sorted
    simp only [Option.map_eq_some_iff] at e
    obtain ⟨l, e2, rfl⟩ := e
    obtain ⟨v, x, rfl, rfl, dv, ev⟩ := asL_one d ea
    obtain ⟨a, ys, rfl, t, lz, dl⟩ := dv.rd S ev
    exact ⟨_, cr_sortedI, fun Q k => ⟨a, l, rfl, .inl (.inl (by rw [t, dl.ints e2])), fun ns' p hp hs n => by
        rw [sortI_the hp hs]
        exact k.lst S n (by rw [List.length_map, (sortI_perm l).length_eq]; rw [dl.ints e2, List.length_map] at lz; exact lz) (DenL.ofInts _)⟩⟩
  · simp only [Option.map_eq_some_iff] at e
    obtain ⟨l, e2, rfl⟩ := e
    obtain ⟨v, x, rfl, rfl, dv, ev⟩ := asL_one d ea
    obtain ⟨a, ys, rfl, t, dl⟩ := rd_tup ev dv
    exact ⟨_, cr_sortedTu, fun Q k => ⟨a, l, rfl, by rw [← hK, ← dl.ints e2]; exact t.sq, fun ns' p hp hs n => by
        rw [sortI_the hp hs]
        have lz := t.1
        exact k.lst S n (by rw [List.length_map, (sortI_perm l).length_eq]; rw [dl.ints e2, List.length_map] at lz; exact lz) (DenL.ofInts _)⟩⟩
  · simp only [Option.bind_eq_some_iff] at e
    obtain ⟨dd, e1, e2⟩ := e
    split at e2 <;> cases e2
    rename_i hl
    obtain ⟨v, x, rfl, rfl, dv, ev⟩ := asL_one d ea
    obtain ⟨a, ys, rfl, t, lz, dl⟩ := dv.rd S ev
    simp only [toD, Option.map_eq_some_iff] at e1
    obtain ⟨ds, e1, rfl⟩ := e1
    obtain ⟨p, q, r⟩ := DenL.dp 59 _ ys ds dl e1
    rw [hK] at p
    exact ⟨_, cr_repr hr hgd, fun Q k => ⟨a, _, rfl, .lst (.inl (.inl t)) p, by simp only [PyData.depth]; omega, q, hl.1, by rw [sz]; exact hl.2, k.here S rfl⟩⟩
  · simp only [Option.bind_eq_some_iff] at e
    obtain ⟨dd, e1, e2⟩ := e
    split at e2 <;> cases e2
    rename_i hl
    obtain ⟨v, x, rfl, rfl, dv, ev⟩ := asL_one d ea
    have dt := rd_tup ev dv
    obtain ⟨a, ys, rfl, t, dl⟩ := id dt
    obtain ⟨p, q, r⟩ := Den.dp 60 _ _ _ dt e1
    rw [hK] at p
    exact ⟨_, cr_repr hr hgd, fun Q k => ⟨a, _, rfl, p, r, q, hl.1, by rw [sz]; exact hl.2, k.here S rfl⟩⟩
  · cases e
    obtain ⟨v, x, rfl, rfl, dv, ev⟩ := asL_one d ea
    exact ⟨_, cr_reprB, fun Q k => ⟨_, by rw [rd_bl ev dv], k.here S rfl⟩⟩
  · cases e
    obtain ⟨v, x, rfl, rfl, dv, ev⟩ := asL_one d ea
    exact ⟨_, cr_reprN, fun Q k => ⟨by rw [rd_non ev dv], k.here S rfl⟩⟩
  · split at e <;> cases e
    rename_i hl
    obtain ⟨v, x, rfl, rfl, dv, ev⟩ := asL_one d ea
    exact ⟨_, SkE.call_repr_int, fun Q k => ⟨_, by rw [rd_int ev dv], hl, k.here S rfl⟩⟩
  · split at e <;> cases e
    rename_i hl
    obtain ⟨v, x, rfl, rfl, dv, ev⟩ := asL_one d ea
    exact ⟨_, cr_reprS, fun Q k => ⟨_, by rw [rd_str ev dv], by rw [sz]; exact hl, k.here S rfl⟩⟩
  · exact absurd rfl hb
  · cases e

/-! ### methods -/
def meId : Me → String
  | .join => "str.join"
  | .split => "str.split"
  | .count => "list.count"
  | .index => "list.index"
  | .append => "list.append"
  | .extend => "list.extend"
  | .pop => "list.pop"
def meTy : Me → String
  | .join => "str"
  | .split => "str"
  | .count => "list"
  | .index => "list"
  | .append => "list"
  | .extend => "list"
  | .pop => "list"
def meNm : Me → Str
  | .join => "join"
  | .split => "split"
  | .count => "count"
  | .index => "index"
  | .append => "append"
  | .extend => "extend"
  | .pop => "pop"
theorem ixD_eq (a : Val) : ∀ (bs : List Val) (k : Nat), ixD a bs = some k → toDL 60 bs ≠ none → ∃ (d : PyData) (ds : List PyData) (z : PyData), toD 60 a = some d ∧ toDL 60 bs = some ds ∧ ds[k]? = some z ∧ PyData.eqv z d = true ∧ ∀ (m : Nat) (z' : PyData), m < k → ds[m]? = some z' → PyData.eqv z' d = false
  | [], _, e, _ => by cases e
  | b :: r, k, e, hn => by
    simp only [ixD, Option.bind_eq_some_iff] at e
    obtain ⟨j, e1, e2⟩ := e
    simp only [eqD, Option.bind_eq_some_iff, Option.map_eq_some_iff] at e1
    obtain ⟨z, f1, d, f2, rfl⟩ := e1
    have hr : toDL 60 r ≠ none := fun q => hn (by simp [toDL, f1, q])
    cases hd : toDL 60 r with
    | none => exact absurd hd hr
    | some ds =>
      by_cases hz : PyData.eqv z d = true
      · rw [if_pos hz] at e2
        cases e2
        exact ⟨d, z :: ds, z, f2, by simp [toDL, f1, hd], rfl, hz, fun m z' hm => by omega⟩
      · rw [if_neg hz] at e2
        simp only [Option.map_eq_some_iff] at e2
        obtain ⟨k', e2, rfl⟩ := e2
        obtain ⟨d', ds', z2, g1, g2, g3, g4, g5⟩ := ixD_eq a r k' e2 hr
        rw [f2] at g1; cases g1
        rw [hd] at g2; cases g2
        refine ⟨d, z :: ds, z2, f2, by simp [toDL, f1, hd], by simpa using g3, g4, fun m z' hm he => ?_⟩
        cases m with
        | zero =>
          have : z = z' := by simpa using he
          rw [← this]
          simpa using hz
        | succ m => exact g5 m z' (by omega) (by simpa using he)
theorem strs_den : ∀ {vs : List Val} {ns : List Str}, strsV vs = some ns → vs = ns.map Val.str
  | [], _, e => by cases e; rfl
  | v :: r, ns, e => by
    cases v <;> simp [strsV] at e
    obtain ⟨l, e1, e2⟩ := e
    rw [← e2, strs_den e1]; rfl
theorem meV_ok (hK : Z.K = X.K) (hr : Room 1 X.A) (S : SimZ Z R h H) {m : Me} {o : Val} {vs : List Val} {x : V} {xs : List V} {r : Val} (e : meV m (rd h o) (asL vs h) = some r) (d0 : DenZ Z R H o x) (d : DenLZ Z R H vs xs) :
    ∃ rr : V → List V → Hp → VK → Prop, MtR X (meId m) rr ∧ ∀ Q, Aft Z R h H r Q → rr x xs H Q := by
  generalize ea : asL vs h = as at e
  generalize eo : rd h o = oo at e
  unfold meV at e
  split at e
  · -- join
    simp only [Option.bind_eq_some_iff] at e
    obtain ⟨ys, e1, zs, e2, e3⟩ := e
    split at e3 <;> cases e3
    rename_i hl
    obtain ⟨v, y, rfl, rfl, dv, ev⟩ := asL_one d ea
    rw [rd_str eo d0]
    unfold seqOf at e1
    split at e1 <;> cases e1
    · obtain ⟨a, us, rfl, t, lz, dl⟩ := dv.rd S ev
      exact ⟨_, mt_join, fun Q k => ⟨_, a, zs, rfl, rfl, .inl (.inl (.inl (by rw [t, dl.strs e2]))), hl, k.here S rfl⟩⟩
    · obtain ⟨a, us, rfl, t, dl⟩ := rd_tup ev dv
      exact ⟨_, mt_join, fun Q k => ⟨_, a, zs, rfl, rfl, .inr (by rw [← hK, ← dl.strs e2]; exact t.sq), hl, k.here S rfl⟩⟩
  · -- split
    split at e <;> cases e
    rename_i hl
    obtain ⟨v, y, rfl, rfl, dv, ev⟩ := asL_one d ea
    rw [rd_str eo d0, rd_str ev dv]
    refine ⟨_, mt_split, fun Q k => ⟨_, _, rfl, rfl, hl.1, by rw [sz]; exact hl.2, fun p n => k.lst S n (by
      rw [List.length_map, sz]
      exact Nat.le_trans (PyProof.Rows.split_le _ _) hl.2) (DenL.ofStrs _)⟩⟩
  · -- count
    simp only [Option.map_eq_some_iff] at e
    obtain ⟨l, e1, rfl⟩ := e
    obtain ⟨v, y, rfl, rfl, dv, ev⟩ := asL_one d ea
    obtain ⟨a, us, rfl, t, lz, dl⟩ := d0.rd S eo
    exact ⟨_, mt_lcount, fun Q k => ⟨a, l, _, rfl, by rw [rd_int ev dv], .inl (.inl (by rw [t, dl.ints e1])), k.here S rfl⟩⟩
  · -- index
    simp only [Option.bind_eq_some_iff, Option.map_eq_some_iff] at e
    obtain ⟨ds, e1, n, e2, rfl⟩ := e
    obtain ⟨v, y, rfl, rfl, dv, ev⟩ := asL_one d ea
    obtain ⟨a, us, rfl, t, lz, dl⟩ := d0.rd S eo
    obtain ⟨dd, ds', z, g1, g2, g3, g4, g5⟩ := ixD_eq _ _ _ e2 (by rw [e1]; exact fun q => by cases q)
    rw [e1] at g2; cases g2
    obtain ⟨a1, a2, _⟩ := shapedL dl e1
    rw [← ev] at g1
    obtain ⟨p1, p2⟩ := rd_dp S dv g1
    rw [hK] at a1 p1
    exact ⟨_, mt_indexD (room65 hr), fun Q k => ⟨a, y, dd, ds, n, z, rfl, rfl, .lst (.inl (.inl t)) a1, p1, a2, p2, g3, g4, g5, k.here S rfl⟩⟩
  · cases e
theorem tyOk_ok (S : SimZ Z R h H) {m : Me} {o : Val} {x : V} (e : tyOk m (rd h o) = true) (d : DenZ Z R H o x) : tyV X.K (meTy m) x H := by
  have hs : ∀ z, rd h o = .str z → x = .str z := fun z q => rd_str q d
  have hl : ∀ z, rd h o = .lst z → tyV X.K "list" x H := fun z q => by
    obtain ⟨a, us, rfl, t, lz, dl⟩ := d.rd S q
    exact .inl ⟨rfl, us, .inl (.inl t)⟩
  generalize rd h o = w at e hs hl
  cases m <;> cases w <;> first | exact hl _ rfl | (rw [hs _ rfl]; rfl) | exact absurd e (by simp [tyOk])
theorem belowL_append (n : Nat) : ∀ xs ys : List Val, belowL n (xs ++ ys) = (belowL n xs && belowL n ys)
  | [], ys => by simp [belowL]
  | x :: r, ys => by simp [belowL, belowL_append n r ys, Bool.and_assoc]
theorem belowL_erase (n : Nat) : ∀ (xs : List Val) (j : Nat), belowL n xs = true → belowL n (xs.eraseIdx j) = true
  | [], _, _ => rfl
  | x :: r, 0, h => by
    simp only [belowL, Bool.and_eq_true] at h
    exact h.2
  | x :: r, j + 1, h => by
    simp only [belowL, Bool.and_eq_true] at h
    simp only [List.eraseIdx_cons_succ, belowL, h.1, belowL_erase n r j h.2, Bool.and_self]
theorem DenL.erase {K : PySem.W.Frag} {C : Nat → Addr} {R : Rg} {H : Hp} : ∀ {vs : List Val} {xs : List V} (j : Nat), DenL K C R H vs xs → DenL K C R H (vs.eraseIdx j) (xs.eraseIdx j)
  | [], _, _, h => by rw [show _ = ([] : List V) from h]; rfl
  | v :: r, _, 0, h => by
    obtain ⟨x, zs, q, d, d2⟩ := h
    rw [q]
    exact d2
  | v :: r, _, j + 1, h => by
    obtain ⟨x, zs, q, d, d2⟩ := h
    rw [q]
    exact ⟨x, _, rfl, d, DenL.erase j d2⟩
/-- a method that may change its list -/
theorem meM_ok (hK : Z.K = X.K) (hr : Room 1 X.A) (S : SimZ Z R h H) {m : Me} {o : Val} {vs : List Val} {x : V} {xs : List V} {r : Val} (e : meM Z.g m o vs h = .ok r h') (d0 : DenZ Z R H o x) (d : DenLZ Z R H vs xs) :
    ∃ rr : V → List V → Hp → VK → Prop, MtR X (meId m) rr ∧ ∀ Q : VK, (∀ H' x, Ext R R H H' → Sim Z.K Z.C Z.bs Z.g.base R h' H' → Den Z.K Z.C R H' r x → Q x H') → rr x xs H Q := by
  unfold meM at e
  split at e
  · -- append
    rename_i n v
    split at e
    · rename_i ws hn
      split at e <;> cases e
      rename_i hl
      obtain ⟨a, ra, rfl⟩ := id d0
      obtain ⟨y, ys, rfl, dv, rfl⟩ := id d
      have hlt := (List.getElem?_eq_some_iff.mp hn).1
      have ho := S.obj n _ a hn ra
      cases ha : H a with
      | none => rw [ha] at ho; exact ho.elim
      | some u =>
        rw [ha] at ho
        cases u <;> first | exact ho.elim | skip
        rename_i us
        obtain ⟨l1, d1⟩ := ho
        have dn := d1.append (show DenL Z.K Z.C R H [v] [y] from ⟨y, [], rfl, dv, rfl⟩)
        have hz : us.length < sizeLine := by rw [← d1.length, sz]; exact hl.1
        refine ⟨_, mt_append, fun Q k => ⟨a, us, y, rfl, rfl, ha, hz, k _ _ (Ext.set (List.mem_of_getElem? ra)) (S.setL ra hlt (by rw [List.length_append, List.length_singleton]; omega) dn ?_) rfl⟩⟩
        have hm := hl.2
        unfold mayStore at hm
        simp only [Bool.or_eq_true, decide_eq_true_eq] at hm
        rcases hm with hm | hm
        · exact .inl hm
        · refine .inr (.inr fun b hb hnb => ?_)
          have q := S.cl b hb n _ hnb hn
          simp only [obBelow] at q
          rw [belowL_append, q]
          simp [belowL, below_le (Nat.le_of_lt hnb) v hm]
    · cases e
  · -- pop
    rename_i n i
    split at e
    case h_2 => cases e
    rename_i ws hn
    split at e
    case h_2 => cases e
    rename_i j hj
    split at e <;> cases e
    rename_i hw
    obtain ⟨a, ra, rfl⟩ := id d0
    obtain ⟨y, ys, rfl, dv, rfl⟩ := id d
    obtain rfl : y = .int i := dv
    have hlt := (List.getElem?_eq_some_iff.mp hn).1
    have ho := S.obj n _ a hn ra
    cases ha : H a with
    | none => rw [ha] at ho; exact ho.elim
    | some u =>
      rw [ha] at ho
      cases u <;> first | exact ho.elim | skip
      rename_i us
      obtain ⟨l1, d1⟩ := ho
      obtain ⟨x1, ex1, dx1⟩ := d1.get hw
      obtain ⟨q1, q2, q3, q4⟩ := ixN_seq hj
      have hl : ws.length = us.length := d1.length
      have big : us.length ≤ 16777216 := by rw [sz] at l1; exact l1
      have dn := d1.erase j
      refine ⟨_, mt_popAt, fun Q k => ⟨a, us, i, j, x1, rfl, rfl, ha, by omega, by omega, by rw [← hl]; exact q1, ex1, k _ _ (Ext.set (List.mem_of_getElem? ra)) (S.setL ra hlt (Nat.le_trans (by rw [List.length_eraseIdx]; split <;> omega) l1) dn ?_) (dx1.mono (Ext.set (List.mem_of_getElem? ra)))⟩⟩
      refine .inr (.inr fun b hb hnb => ?_)
      have q := S.cl b hb n _ hnb hn
      simp only [obBelow] at q
      exact belowL_erase b ws j q
  · -- extend
    rename_i n v
    split at e
    · rename_i ws us hn hv
      split at e <;> cases e
      rename_i hl
      obtain ⟨a, ra, rfl⟩ := id d0
      obtain ⟨y, ys, rfl, dv, rfl⟩ := id d
      obtain ⟨b, zs, rfl, tb, lb, db⟩ := dv.rd S hv
      have hlt := (List.getElem?_eq_some_iff.mp hn).1
      have ho := S.obj n _ a hn ra
      cases ha : H a with
      | none => rw [ha] at ho; exact ho.elim
      | some u =>
        rw [ha] at ho
        cases u <;> first | exact ho.elim | skip
        rename_i us2
        obtain ⟨l1, d1⟩ := ho
        have dn := d1.append db
        have hz : us2.length + zs.length ≤ sizeLine := by rw [← d1.length, ← db.length, sz]; exact hl.1
        refine ⟨_, mt_extend, fun Q k => ⟨a, b, us2, zs, rfl, rfl, ha, tb, hz, k _ _ (Ext.set (List.mem_of_getElem? ra)) (S.setL ra hlt (by rw [List.length_append]; exact hz) dn ?_) rfl⟩⟩
        have hm := hl.2
        unfold mayStore at hm
        simp only [Bool.or_eq_true, decide_eq_true_eq] at hm
        rcases hm with hm | hm
        · exact .inl hm
        · refine .inr (.inr fun b hb hnb => ?_)
          have q := S.cl b hb n _ hnb hn
          simp only [obBelow] at q
          simp only [below] at hm
          rw [belowL_append, q, belowL_le (Nat.le_of_lt hnb) _ hm]
          rfl
    · cases e
  · obtain ⟨e1, rfl⟩ := opt_eq e
    exact meV_ok hK hr S e1 d0 d
/-! ### slices, places -/
theorem sl_ro : SlR X (fun x lo hi H Q => ∃ a xs, x = .ref a ∧ RoAt X.K R H a xs ∧ ∀ p, H p = none → Q (.ref p) (upd H p (.lst (cutV xs lo hi)))) := by
  intro pins s σ H x v vl vu lo hi sl Q I rx hs pl pu ⟨a, xs, e, t, q⟩
  exact sl_list pins s σ H x v vl vu lo hi sl Q I rx hs pl pu ⟨a, xs, e, t.sq, q⟩
theorem sIx_le (n : Nat) {d : Nat} (hd : d ≤ n) (o : Option Int) : HT.sIx n d o ≤ n := HT.sIx_le _ _ hd o
theorem cut_whole {α : Type} {vs : List α} {lo hi : Option Int} (hw : HT.sIx vs.length 0 lo = 0 ∧ HT.sIx vs.length vs.length hi = vs.length) : cut vs lo hi = vs := by
  unfold cut
  rw [hw.1, hw.2]
  simp
theorem sl_ok (hK : Z.K = X.K) (S : SimZ Z R h H) {v : Val} {x : V} {lo hi : Option Int} {r : Val} (e : sliceV (rd h v) lo hi = some r) (dv : DenZ Z R H v x) :
    ∃ rr : V → Option Int → Option Int → Hp → VK → Prop, SlR X rr ∧ ∀ Q, Aft Z R h H r Q → rr x lo hi H Q := by
  generalize ev : rd h v = w at e
  unfold sliceV at e
  split at e
  · cases e
    obtain ⟨a, ys, rfl, t, lz, dl⟩ := dv.rd S ev
    exact ⟨_, sl_list, fun Q k => ⟨a, ys, rfl, .inl (.inl t), fun p n => k.lst S n (Nat.le_trans (cutV_length _ _ _) lz) (dl.cut lo hi)⟩⟩
  · cases e
    have dt := rd_tup ev dv
    obtain ⟨a, ys, rfl, t, dl⟩ := id dt
    refine ⟨_, sl_tupA, fun Q k => ⟨a, ys, rfl, by rw [← hK]; exact t.sq, fun hw => ?_, fun _ p n => k.tup S n (Nat.le_trans (cutV_length _ _ _) t.1) (dl.cut lo hi)⟩⟩
    rw [cut_whole (by rw [dl.length]; exact hw)] at k
    exact k.here S dt
  · cases e
    obtain ⟨a, ys, rfl, t, dl⟩ := rd_ro ev dv
    exact ⟨_, sl_list, fun Q k => ⟨a, ys, rfl, by rw [← hK]; exact t.sq, fun p n => k.lst S n (Nat.le_trans (cutV_length _ _ _) t.1) (dl.cut lo hi)⟩⟩
  · split at e <;> cases e
    rename_i hl
    exact ⟨_, sl_str, fun Q k => ⟨_, rd_str ev dv, by rw [sz]; exact hl, k.here S rfl⟩⟩
  · cases e
theorem atI_den {vs : List Val} {xs : List V} (d : DenLZ Z R H vs xs) {i : Int} {r : Val} (e : atI vs i = some r) : ∃ y, atI xs i = some y ∧ DenZ Z R H r y := by
  unfold atI at e ⊢
  rw [← d.length]
  simp only [Option.bind_eq_some_iff] at e ⊢
  obtain ⟨j, e1, e2⟩ := e
  obtain ⟨y, e3, e4⟩ := d.get e2
  exact ⟨y, ⟨j, e1, e3⟩, e4⟩
theorem ix_dict (hu : X.A.units + 64 < cLine) : IxR X (fun x y H Q => ∃ a v, x = .ref a ∧ DGet H a y (some v) ∧ Q v H) := by
  intro value slice pins s σ
                          H x y v u Q I rx ry h hs
  obtain ⟨a, z, rfl, g, q⟩ := h
  obtain rfl : v =
                          Value.ref a := rx
  exact tail_any (dict_typeIs I g) PySem.F.slot_dict_getitem.lookup (d_getItem (by omega) I g ry fun w' s3 I3 rw' => ⟨z, H, I3, rw', q⟩) hs
theorem ix_ok (hK : Z.K = X.K) (hr : Room 1 X.A) (S : SimZ Z R h H) {v w : Val} {x y : V} {r : Val} (e : idxV (rd h v) w = some r) (dv : DenZ Z R H v x) (dw : DenZ Z R H w y) :
    ∃ rr : R2, IxR X rr ∧ ∀ Q, Aft Z R h H r Q → rr x y H Q := by
  generalize ev : rd h v = u at e
  unfold idxV at e
  split at e
  · obtain ⟨a, ys, rfl, t, lz, dl⟩ := dv.rd S ev
    obtain ⟨z, e1, dz⟩ := atI_den dl e
    exact ⟨_, ix_list, fun Q k => ⟨a, ys, _, z, rfl, dw, .inl (.inl t), e1, k.here S dz⟩⟩
  · obtain ⟨a, ys, rfl, t, dl⟩ := rd_tup ev dv
    obtain ⟨z, e1, dz⟩ := atI_den dl e
    exact ⟨_, ix_tup, fun Q k => ⟨a, ys, _, z, rfl, dw, by rw [← hK]; exact t.sq, e1, k.here S dz⟩⟩
  · obtain ⟨a, ys, rfl, t, dl⟩ := rd_ro ev dv
    obtain ⟨z, e1, dz⟩ := atI_den dl e
    exact ⟨_, ix_list, fun Q k => ⟨a, ys, _, z, rfl, dw, by rw [← hK]; exact t.sq, e1, k.here S dz⟩⟩
  · split at e
    · rename_i hl
      simp only [Option.map_eq_some_iff] at e
      obtain ⟨c, e, rfl⟩ := e
      exact ⟨_, ix_str, fun Q k => ⟨_, _, c, rd_str ev dv, dw, by rw [sz]; exact hl, e, k.here S rfl⟩⟩
    · cases e
  · simp only [Option.bind_eq_some_iff] at e
    obtain ⟨kk, e1, e2⟩ := e
    obtain ⟨a, ys, rfl, t, nr, dk⟩ := rd_dct ev dv
    obtain ⟨z, f1, f2⟩ := (dk.find kk).1 _ e2
    have ey : y = kV kk := by
      cases w <;> simp only [keyOf] at e1 <;> cases e1 <;> exact dw
    exact ⟨_, ix_dict (room64 hr), fun Q k => ⟨a, z, rfl, .inl ⟨ys, kk, .inl t, ey, f1.symm⟩, k.here S f2⟩⟩
  · cases e
end
end Co
end

section
set_option linter.all false
set_option maxRecDepth 100000
set_option autoImplicit false
/-! Co7: expressions. -/
namespace Co
open PySem PySem.Spec
                        PyProof.Rows L2

/-! ### what is asked of the text -/
def starred : Expr → Bool
  | .Starred _ _ => true
  | _ => false
def noStar (es : List Expr) : Bool := es.all fun e => !starred e
theorem star1 {e : Expr} {es : List Expr} {env : PySem.Env} (h : starred e = false) : starEach (e :: es) env = (false, eval e env) :: starEach es env := by
  cases e <;> first | rfl | cases h
theorem any_no {pos : Pos} {env : PySem.Env} : ∀ {es : List Expr}, noStar es = true → (backTo pos (starEach es env)).any (·.1) = false
  | [], _ => rfl
  | e :: r, h => by
    simp only [noStar, List.all_cons, Bool.and_eq_true, Bool.not_eq_true'] at h
    rw [star1 h.1]
    show (false || (backTo pos (starEach r env)).any (·.1)) = false
    rw [any_no (show noStar r = true from h.2)]
    rfl
theorem all_no {pos : Pos} {env : PySem.Env} : ∀ {es : List Expr}, noStar es = true → (backTo pos (starEach es env)).all (fun x => !x.1) = true
  | [], _ => rfl
  | e :: r, h => by
    simp only [noStar, List.all_cons, Bool.and_eq_true, Bool.not_eq_true'] at h
    rw [star1 h.1]
    show (true && (backTo pos (starEach r env)).all (fun x => !x.1)) = true
    rw [all_no (show noStar r = true from h.2)]
    rfl
/-- no call without arguments -/
def plainBase : Expr → Bool
  | .Call (.Name _ _) [] [] _ => false
  | _ => true
theorem base_ok {o : Expr} {f : Str} {env : PySem.Env} {w : Sem Value} (h : plainBase o = true) : attributeBase o f env w = w := by
  unfold attributeBase
  split
  · rename_i e
    simp [plainBase] at h
  · rfl
theorem few_ok {pos : Pos} {env : PySem.Env} {es : List Expr} (h : noStar es = true) (hl : es.length < 30) :
    ((backTo pos (starEach es env)).all (fun x => !x.1) && (backToKw pos (keywordEach [] env)).all (fun x => x.1.isSome) && decide (es.length + ([] : List Keyword).length + (if ([] : List Keyword).isEmpty then 0 else 1) < 30)) = true := by
  rw [all_no h]
  show (true && true && decide (es.length + 0 + 0 < 30)) = true
  simp [hl]
/-- a test of no own kind -/
def plainTest : Expr → Bool
  | .UnaryOp .Not _ _ => false
  | .BoolOp .. => false
  | .IfExp .. => false
  | .Compare .. => false
  | _ => true
theorem test_ok {e : Expr} {env : PySem.Env} (h : plainTest e = true) (whole : Sem Value) : isTrue e env whole = (do let v ← whole; standAt e.pos; holding [v] (truthy v)) := by
  cases e
  case UnaryOp op x pos => cases op <;> first | rfl | cases h
  all_goals first | rfl | cases h
def notSet : Expr → Bool
  | .Set .. => false
  | _ => true
theorem marks_ok {op : CmpOp} {b : Expr} (h : notSet b = true) : behindInMarks op b = false := by
  cases b <;> first | rfl | cases h
def notSlice : Expr → Bool
  | .Slice .. => false
  | _ => true
theorem plainIx_ok {b : Expr} (h : notSlice b = true) : PlainIx b := fun o i => by
  unfold subscripted
  cases b <;> first | rfl | cases h

theorem OpR.one {X : Cx} {f : Value → Value → Sem Value} : OpR X f (fun x y H Q => ∃ rr : R2, OpR X f rr ∧ rr x y H Q) := by
  intro pins s σ H x y v u Q I rx ry ⟨rr, o, q⟩
  exact o pins s σ H x y v u Q I rx ry q
theorem MtR.one {X : Cx} {id : String} : MtR X id (fun x xs H Q => ∃ rr : V → List V → Hp → VK → Prop, MtR X id rr ∧ rr x xs H Q) := by
  intro pins s σ H x xs v us Q I rx rs ⟨rr, o, q⟩
  exact o pins s σ H x xs v us Q I rx rs q
theorem CallR.one {X : Cx} {f : Value} : CallR X f (fun xs H Q => ∃ rr : List V → Hp → VK → Prop, CallR X f rr ∧ rr xs H Q) := by
  intro pins s σ H xs us Q I rs ⟨rr, o, q⟩
  exact o pins s σ H xs us Q I rs q
theorem SlR.one {X : Cx} : SlR X (fun x lo hi H Q => ∃ rr : V → Option Int → Option Int → Hp → VK → Prop, SlR X rr ∧ rr x lo hi H Q) := by
  intro pins s σ H x v vl vu lo hi sl Q I rx hs pl pu ⟨rr, o, q⟩
  exact o pins s σ H x v vl vu lo hi sl Q I rx hs pl pu q
theorem IxR.one {X : Cx} : IxR X (fun x y H Q => ∃ rr : R2, IxR X rr ∧ rr x y H Q) := by
  intro value slice pins s σ H x y v u Q I rx ry ⟨rr, o, q⟩ hs
  exact o value slice pins s σ H x y v u Q I rx ry q hs

section
variable {T : Stc} {sc : Scope} {a b c : Expr} {ca cb cc : CE} {pos : Pos}
/-! ### constants -/
theorem int_e {i : Int} {j} : SE T sc (.Constant (.int i) j pos) (.cst (.int i)) := fun Z X ok => ⟨fun pins s σ H Q I h => by
  obtain ⟨se, h0, R, v, h1, S, bb, D, e, k⟩ := h
  cases e
  exact pe_int.run pins _ σ H Q I (k R H _ (Ext.refl _ _) S D rfl)⟩
theorem bl_e {i : Bool} {j} : SE T sc (.Constant (.bool i) j pos) (.cst (.bl i)) := fun Z X ok => ⟨fun pins s σ H Q I h => by
  obtain ⟨se, h0, R, v, h1, S, bb, D, e, k⟩ := h
  cases e
  exact pe_bl.run pins _ σ H Q I (k R H _ (Ext.refl _ _) S D rfl)⟩
theorem non_e {j} : SE T sc (.Constant .none j pos) (.cst .non) := fun Z X ok => ⟨fun pins s σ H Q I h => by
  obtain ⟨se, h0, R, v, h1, S, bb, D, e, k⟩ := h
  cases e
  exact pe_non.run pins _ σ H Q I (k R H _ (Ext.refl _ _) S D rfl)⟩
theorem str_e {x : Str} {j} : SE T sc (.Constant (.str x) j pos) (.cst (.str x)) := fun Z X ok => ⟨fun pins s σ H Q I h => by
  obtain ⟨se, h0, R, v, h1, S, bb, D, e, k⟩ := h
  cases e
  exact pe_str.run pins _ σ H Q I (k R H _ (Ext.refl _ _) S D rfl)⟩
/-- a global name of a scope -/
def isGl (sc : Scope) (x : Str) : Bool := sc.names.lookup x == some .globalImplicit
theorem gl_of {Z : Sx} {X : Cx} (ok : XOk T Z X sc) {x : Str} (h : isGl sc x = true) : Gl X x := by
  unfold Gl Env.kindOf
  rw [ok.sc]
  simpa [isGl] using h
theorem glob_e {x : Str} {v : Val} (hg : isGl sc x = true) (hc : T.cst.lookup x = some v) (hd : (x == ("__debug__" : Str)) = false) : SE T sc (.Name x pos) (.cst v) := fun Z X ok => ⟨fun pins s σ H Q I h => by
  obtain ⟨se, h0, R, v, h1, S, bb, D, e, k⟩ := h
  cases e
  obtain ⟨u, xv, e1, r, dd⟩ := ok.cst x _ hc
  refine (pe_glob (gl_of ok hg) e1 r hd).run pins _ σ H Q I (k R H _ (Ext.refl _ _) S D ?_)
  rw [ok.K]
  exact dd R H⟩
/-! ### operators -/
theorem bin_e {op : Operator} (ha : SE T sc a ca) (hb : SE T sc b cb) : SE T sc (.BinOp a op b pos) (.bin op ca cb) := fun Z X ok => by
  refine
                          ⟨fun pins s σ H Q I h => ?_⟩
  obtain ⟨se, h0, R, v, h1, S, bb, D, e, k⟩ := h
  simp only [evE] at e
  obtain ⟨x, h2, e1, e⟩ := Res.bind_eq e
  obtain ⟨y, h3, e2, e⟩ := Res.bind_eq e
  obtain ⟨e3, rfl⟩ := opt_eq e
  refine (pe_op OpR.one (ha Z X ok) (hb Z X ok)).run pins _ σ H Q I ?_
  exact two S bb D e1 e2 fun R' H' vx vy X' S' b' D' dx dy =>
    let ⟨rr, o, q⟩ := bop_ok ok.K S' e3 dx dy
    ⟨rr, o, q Q fun H2 x2 X2 S2 d2 => k R' H2 x2 (X'.trans X2) S2 (D'.mono X2) d2⟩
theorem one {Z : Sx} {a : CE} {σ : L2.St} {H : Hp} {s : Env} {h h1 : Hh} {R : Rg} {v : Val} {W : V → Hp → Prop} (S : Sim Z.K Z.C Z.bs Z.g.base R h H) (hb : Z.g.base ≤ h.length) (D : DenS Z.K Z.C R H s σ)
    (ea : evE Z.g a s h = .ok v h1)
    (k : ∀ R' H' x, Ext R R' H H' → Sim Z.K Z.C Z.bs Z.g.base R' h1 H' → Z.g.base ≤ h1.length → DenS Z.K Z.C R' H' s σ → Den Z.K Z.C R' H' v x → W x H') :
    trE Z a σ H fun x H1 => W x H1 :=
  ⟨s, h, R, v, h1, S, hb, D, ea, fun R1 H1 x X1 S1 D1 dx => k R1 H1 x X1 S1 (base_of X1 S S1 hb) D1 dx⟩
theorem neg_e (ha : SE T sc a ca) : SE T sc (.UnaryOp .USub a pos) (.neg ca) := fun Z X ok => by
  refine
                          ⟨fun pins s σ H Q I h => ?_⟩
  obtain ⟨se, h0, R, v, h1, S, bb, D, e, k⟩ := h
  simp only [evE] at e
  obtain ⟨x, h2, e1, e⟩ := Res.bind_eq e
  split at e <;> cases e
  refine (pe_un un_neg (ha Z X ok)).run pins _ σ H Q I ?_
  exact one S bb D e1 fun R' H' vx X' S' b' D' dx => ⟨_, dx, k R' H' _ X' S' D' rfl⟩
theorem not_e (ha : SE T sc a ca) : SE T sc (.UnaryOp .Not a pos) (.not ca) := fun Z X ok => by
  refine
                          ⟨fun pins s σ H Q I h => ?_⟩
  obtain ⟨se, h0, R, v, h1, S, bb, D, e, k⟩ := h
  simp only [evE] at e
  obtain ⟨x, h2, e1, e⟩ := Res.bind_eq e
  split at e <;> cases e
  refine (pe_not (ha Z X ok)).run pins _ σ H Q I ?_
  exact one S bb D e1 fun R' H' vx X' S' b' D' dx => ⟨_, dx, k R' H' _ X' S' D' rfl⟩
theorem and_e {rest : List Expr} (ha : SE T sc a ca) (hb : SE T sc (.BoolOp .And (b :: rest) pos) cb) : SE T sc (.BoolOp .And (a :: b :: rest) pos) (.and ca cb) := fun Z X ok => by
  refine
                          ⟨fun pins s σ H Q I h => ?_⟩
  obtain ⟨se, h0, R, v, h1, S, bb, D, e, k⟩ := h
  simp only [evE] at e
  obtain ⟨x, h2, e1, e⟩ := Res.bind_eq e
  refine (pe_and (ha Z X ok) (hb Z X ok)).run pins _ σ H Q I ?_
  refine one S bb D e1 fun R' H' vx X' S' b' D' dx => ?_
  split at e
  · exact ⟨true, dx, se, h2, R', v, h1, S', b', D', e, fun R2 H2 x2 X2 S2 D2 d2 => k R2 H2 x2 (X'.trans X2) S2 D2 d2⟩
  · cases e
    exact ⟨false, dx, k R' H' _ X' S' D' rfl⟩
  · cases e
theorem or_e {rest : List Expr} (ha : SE T sc a ca) (hb : SE T sc (.BoolOp .Or (b :: rest) pos) cb) : SE T sc (.BoolOp .Or (a :: b :: rest) pos) (.or ca cb) := fun Z X ok => by
  refine
                          ⟨fun pins s σ H Q I h => ?_⟩
  obtain ⟨se, h0, R, v, h1, S, bb, D, e, k⟩ := h
  simp only [evE] at e
  obtain ⟨x, h2, e1, e⟩ := Res.bind_eq e
  refine (pe_or (ha Z X ok) (hb Z X ok)).run pins _ σ H Q I ?_
  refine one S bb D e1 fun R' H' vx X' S' b' D' dx => ?_
  split at e
  · cases e
    exact ⟨true, dx, k R' H' _ X' S' D' rfl⟩
  · exact ⟨false, dx, se, h2, R', v, h1, S', b', D', e, fun R2 H2 x2 X2 S2 D2 d2 => k R2 H2 x2 (X'.trans X2) S2 D2 d2⟩
  · cases e
theorem bone_e {op} (ha : SE T sc a ca) : SE T sc (.BoolOp op [a] pos) ca := fun Z X ok => pe_one (ha Z X ok)
theorem cmp_e {op : CmpOp} (hm : notSet b = true) (ha : SE T sc a ca) (hb : SE T sc b cb) : SE T sc (.Compare a [op] [b] pos) (.cmp op ca cb) := fun Z X ok => by
  refine
                          ⟨fun pins s σ H Q I h => ?_⟩
  obtain ⟨se, h0, R, v, h1, S, bb, D, e, k⟩ := h
  simp only [evE] at e
  obtain ⟨x, h2, e1, e⟩ := Res.bind_eq e
  obtain ⟨y, h3, e2, e⟩ := Res.bind_eq e
  obtain ⟨e3, rfl⟩ := opt_eq e
  simp only [Option.map_eq_some_iff] at e3
  obtain ⟨kk, e3, rfl⟩ := e3
  refine (pe_cmpR OpR.one (ha Z X ok) (hb Z X ok) (marks_ok hm)).run pins _ σ H Q I ?_
  exact two S bb D e1 e2 fun R' H' vx vy X' S' b' D' dx dy =>
    let ⟨rr, o, q⟩ := cop_ok ok.K ok.room S' e3 dx dy
    ⟨rr, o, q Q fun H2 x2 X2 S2 d2 => k R' H2 x2 (X'.trans X2) S2 (D'.mono X2) d2⟩
theorem cmp_t {op : CmpOp} (hm : notSet b = true) (ha : SE T sc a ca) (hb : SE T sc b cb) : ST T sc (.Compare a [op] [b] pos) (.cmp op ca cb) := fun Z X ok => by
  refine
                          ⟨fun pins s σ H Q I h => ?_⟩
  obtain ⟨se, h0, R, v, h1, S, bb, D, e, k⟩ := h
  simp only [evE] at e
  obtain ⟨x, h2, e1, e⟩ := Res.bind_eq e
  obtain ⟨y, h3, e2, e⟩ := Res.bind_eq e
  obtain ⟨e3, rfl⟩ := opt_eq e
  simp only [Option.map_eq_some_iff] at e3
  obtain ⟨kk, e3, e4⟩ := e3
  cases e4
  refine (pt_cmpR OpR.one (ha Z X ok) (hb Z X ok) (marks_ok hm)).run pins _ σ H Q I ?_
  exact two S bb D e1 e2 fun R' H' vx vy X' S' b' D' dx dy =>
    let ⟨rr, o, q⟩ := cop_ok ok.K ok.room S' e3 dx dy
    ⟨rr, o, q _ fun H2 x2 X2 S2 d2 => ⟨_, d2, k R' H2 (X'.trans X2) S2 (D'.mono X2)⟩⟩
theorem chain_core {Z : Sx} {X : Cx} {o1 o2 : CmpOp} {σ : L2.St} {H : Hp} {Q : VK} {v : Val} {s : Env} {h h' : Hh} {R : Rg} (ok : XOk T Z X sc) (S : Sim Z.K Z.C Z.bs Z.g.base R h H) (hb : Z.g.base ≤ h.length) (D : DenS Z.K Z.C R H s σ)
    (e : evE Z.g (.chain o1 o2 ca cb cc) s h = .ok v h') (k : ∀ R' H' x, Ext R R' H H' → Sim Z.K Z.C Z.bs Z.g.base R' h' H' → DenS Z.K Z.C R' H' s σ → Den Z.K Z.C R' H' v x → Q x H') :
    tChain (fun x y H Q => ∃ rr : R2, OpR X (compareOp o1) rr ∧ rr x y H Q) (fun x y H Q => ∃ rr : R2, OpR X (compareOp o2) rr ∧ rr x y H Q) (trE Z ca) (trE Z cb) (trE Z cc) σ H Q := by
  simp only [evE] at e
  obtain ⟨x, h2, e1, e⟩ := Res.bind_eq e
  obtain ⟨y, h3, e2, e⟩ := Res.bind_eq e
  refine two S hb D e1 e2 fun R' H' vx vy X' S' b' D' dx dy => ?_
  split at e
  · rename_i hk
    obtain ⟨z, h4, e3, e⟩ := Res.bind_eq e
    obtain ⟨e4, rfl⟩ := opt_eq e
    simp only [Option.map_eq_some_iff] at e4
    obtain ⟨kk, e4, rfl⟩ := e4
    obtain ⟨rr, o, q⟩ := cop_ok ok.K ok.room S' hk dx dy
    refine ⟨rr, o, q _ fun H2 x2 X2 S2 d2 => ⟨true, d2, ?_⟩⟩
    rw [if_pos rfl]
    refine one S2 b' (D'.mono X2) e3 fun R3 H3 x3 X3 S3 b3 D3 d3 => ?_
    obtain ⟨rr, o, q⟩ := cop_ok ok.K ok.room S3 e4 ((dy.mono X2).mono X3) d3
    exact ⟨rr, o, q Q fun H4 x4 X4 S4 d4 => k R3 H4 x4 (((X'.trans X2).trans X3).trans X4) S4 (D3.mono X4) d4⟩
  · rename_i hk
    cases e
    obtain ⟨rr, o, q⟩ := cop_ok ok.K ok.room S' hk dx dy
    refine ⟨rr, o, q _ fun H2 x2 X2 S2 d2 => ⟨false, d2, ?_⟩⟩
    rw [if_neg
                            Bool.false_ne_true]
    exact k R' H2 _ (X'.trans X2) S2 (D'.mono X2) rfl
  · cases e
theorem marks2_ok {o1 o2 : CmpOp} (h2 : notSet c = true) : lastMarks [o1, o2] [b, c] = false := by
  show behindInMarks o2 c = false
  exact marks_ok h2
theorem chain_e {o1 o2 : CmpOp} (hm : notSet c = true) (ha : SE T sc a ca) (hb : SE T sc b cb) (hc : SE T sc c cc) : SE T sc (.Compare a [o1, o2] [b, c] pos) (.chain o1 o2 ca cb cc) := fun Z X ok => by
  refine
                          ⟨fun pins s σ H Q I h => ?_⟩
  obtain ⟨se, h0, R, v, h1, S, bb, D, e, k⟩ := h
  exact (pe_chain OpR.one OpR.one (ha Z X ok) (hb Z X ok) (hc Z X ok) (marks2_ok hm)).run pins _ σ H Q I (chain_core ok S bb D e k)
theorem chain_t {o1 o2 : CmpOp} (hm : notSet c = true) (ha : SE T sc a ca) (hb : SE T sc b cb) (hc : SE T sc c cc) : ST T sc (.Compare a [o1, o2] [b, c] pos) (.chain o1 o2 ca cb cc) := fun Z X ok => by
  refine
                          ⟨fun pins s σ H Q I h => ?_⟩
  obtain ⟨se, h0, R, v, h1, S, bb, D, e, k⟩ := h
  refine (pt_chain OpR.one OpR.one (ha Z X ok) (hb Z X ok) (hc Z X ok) (marks2_ok hm)).run pins _ σ H Q I (chain_core ok S bb D e fun R' H' x X' S' D' d' => ⟨v, d', k R' H' X' S' D'⟩)
theorem val_t (ht : plainTest a = true) (ha : SE T sc a ca) : ST T sc a ca := fun Z X ok => by
  refine
                          ⟨fun pins s σ H Q I h => ?_⟩
  obtain ⟨se, h0, R, v, h1, S, bb, D, e, k⟩ := h
  exact (pt_val (ha Z X ok) (test_ok ht)).run pins _ σ H Q I ⟨se, h0, R, _, h1, S, bb, D, e, fun R' H' x X' S' D' d' => ⟨v, d', k R' H' X' S' D'⟩⟩
theorem not_t (ha : ST T sc a ca) : ST T sc (.UnaryOp .Not a pos) (.not ca) := fun Z X ok => by
  refine
                          ⟨fun pins s σ H Q I h => ?_⟩
  obtain ⟨se, h0, R, v, h1, S, bb, D, e, k⟩ := h
  simp only [evE] at e
  obtain ⟨x, h2, e1, e⟩ := Res.bind_eq e
  split at e <;> cases e
  exact (pt_not (ha Z X ok)).run pins _ σ H Q I ⟨se, h0, R, _, _, S, bb, D, e1, fun R' H' X' S' D' => k R' H' X' S' D'⟩
def SW (T : Stc) (sc : Scope) (e : Expr) (c : CE) : Prop := ∀ (Z : Sx) (X : Cx), XOk T Z X sc → PW X e (trT Z c)
theorem SW.st (h : SW T sc a ca) : ST T sc a ca := fun Z X ok => (h Z X ok).pt
theorem wand1 (ha : ST T sc a ca) : SW T sc (.BoolOp .And [a] pos) ca := fun Z X ok => pw_and1 (ha Z X ok)
theorem wor1 (ha : ST T sc a ca) : SW T sc (.BoolOp .Or [a] pos) ca := fun Z X ok => pw_or1 (ha Z X ok)
theorem wand {rest : List Expr} (ha : ST T sc a ca) (hb : SW T sc (.BoolOp .And (b :: rest) pos) cb) : SW T sc (.BoolOp .And (a :: b :: rest) pos) (.and ca cb) := fun Z X ok => by
  refine
                          ⟨fun wh pins s σ H Q I h => ?_⟩
  obtain ⟨se, h0, R, v, h1, S, bb, D, e, k⟩ := h
  simp only [evE] at e
  obtain ⟨x, h2, e1, e⟩ := Res.bind_eq e
  refine (pw_and (ha Z X ok) (hb Z X ok)).run wh pins _ σ H Q I ?_
  split at e
  · refine ⟨se, h0, R, _, h2, S, bb, D, e1, fun R' H' X' S' D' => ?_⟩
    show
                            (if true = true then _ else _)
    rw [if_pos rfl]
    exact ⟨se, h2, R', v, h1, S', base_of X' S S' bb, D', e, fun R2 H2 X2 S2 D2 => k R2 H2 (X'.trans X2) S2 D2⟩
  · cases e
    refine ⟨se, h0, R, _, _, S, bb, D, e1, fun R' H' X' S' D' => ?_⟩
    show (if false = true then _ else _)
    rw [if_neg
                            Bool.false_ne_true]
    exact k R' H' X' S' D'
  · cases e
theorem wor {rest : List Expr} (ha : ST T sc a ca) (hb : SW T sc (.BoolOp .Or (b :: rest) pos) cb) : SW T sc (.BoolOp .Or (a :: b :: rest) pos) (.or ca cb) := fun Z X ok => by
  refine
                          ⟨fun wh pins s σ H Q I h => ?_⟩
  obtain ⟨se, h0, R, v, h1, S, bb, D, e, k⟩ := h
  simp only [evE] at e
  obtain ⟨x, h2, e1, e⟩ := Res.bind_eq e
  refine (pw_or (ha Z X ok) (hb Z X ok)).run wh pins _ σ H Q I ?_
  split at e
  · cases e
    refine ⟨se, h0, R, _, _, S, bb, D, e1, fun R' H' X' S' D' => ?_⟩
    show
                            (if true = true then _ else _)
    rw [if_pos rfl]
    exact k R' H' X' S' D'
  · refine ⟨se, h0, R, _, h2, S, bb, D, e1, fun R' H' X' S' D' => ?_⟩
    show (if false = true then _ else _)
    rw [if_neg
                            Bool.false_ne_true]
    exact ⟨se, h2, R', v, h1, S', base_of X' S S' bb, D', e, fun R2 H2 X2 S2 D2 => k R2 H2 (X'.trans X2) S2 D2⟩
  · cases e
theorem ite_e (hc : ST T sc c cc) (ha : SE T sc a ca) (hb : SE T sc b cb) : SE T sc (.IfExp c a b pos) (.ite cc ca cb) := fun Z X ok => by
  refine
                          ⟨fun pins s σ H Q I h => ?_⟩
  obtain ⟨se, h0, R, v, h1, S, bb, D, e, k⟩ := h
  simp only [evE] at e
  obtain ⟨x, h2, e1, e⟩ := Res.bind_eq e
  refine (pe_ifExp (hc Z X ok) (ha Z X ok) (hb Z X ok)).run pins _ σ H Q I ?_
  split at e
  · refine ⟨se, h0, R, _, h2, S, bb, D, e1, fun R' H' X' S' D' => ?_⟩
    show
                            (if true = true then _ else _)
    rw [if_pos rfl]
    exact ⟨se, h2, R', v, h1, S', base_of X' S S' bb, D', e, fun R2 H2 x2 X2 S2 D2 d2 => k R2 H2 x2 (X'.trans X2) S2 D2 d2⟩
  · refine ⟨se, h0, R, _, h2, S, bb, D, e1, fun R' H' X' S' D' => ?_⟩
    show (if false = true then _ else _)
    rw [if_neg
                            Bool.false_ne_true]
    exact ⟨se, h2, R', v, h1, S', base_of X' S S' bb, D', e, fun R2 H2 x2 X2 S2 D2 d2 => k R2 H2 x2 (X'.trans X2) S2 D2 d2⟩
  · cases e
end
end Co
end

section
set_option linter.all false
set_option maxRecDepth 100000
set_option autoImplicit false
/-! Co8: displays, calls, methods, places. -/
namespace Co
open PySem PySem.Spec
                        PyProof.Rows L2
section
variable {T : Stc} {sc : Scope} {a b c : Expr} {ca cb cc : CE} {pos : Pos}
/-! ### argument lists -/
def starC : CE → Bool
  | .star _ => true
  | _ => false
theorem evEs_cons {g : G} {c : CE} {cs : List CE} {s : Env} {h : Hh} (hc : starC c = false) : evEs g (c :: cs) s h = (evE g c s h).bind fun v h1 => (evEs g cs s h1).bind fun ws h2 => .ok (v :: ws) h2 := by
  cases c <;> first | rfl | cases hc
theorem nil_a : SA T sc [] [] := fun Z X ok => ⟨fun ps pins s σ H Q I h => by
  obtain ⟨se, h0, R, v, h1, S, bb, D, e, k⟩ := h
  cases e
  exact pa_nil.run ps pins _ σ H Q I (k R H _ (Ext.refl _ _) S D rfl)⟩
theorem cons_a {es : List Expr} {cs : List CE} (hs : starred a = false) (hc : starC ca = false) (ha : SE T sc a ca) (hr : SA T sc es cs) : SA T sc (a :: es) (ca :: cs) := fun Z X ok => ⟨fun ps pins s σ H Q I h => by
  obtain ⟨se, h0, R, v, h1, S, bb, D, e, k⟩ := h
  rw [evEs_cons hc] at e
  obtain ⟨x, h2, e1, e⟩ := Res.bind_eq e
  obtain ⟨xs, h3, e2, e⟩ := Res.bind_eq e
  cases e
  refine (pa_cons (ha Z X ok) (hr Z X ok) (star1 hs)).run ps pins _ σ H Q I ?_
  refine one S bb D e1 fun R' H' vx X' S' b' D' dx => ?_
  exact ⟨se, h2, R', _, _, S', b', D', e2, fun R2 H2 ys X2 S2 D2 d2 => k R2 H2 (vx :: ys) (X'.trans X2) S2 D2 ⟨vx, ys, rfl, dx.mono X2, d2⟩⟩⟩
/-! ### where a token is out: x.replace("..", "..") behind a written text -/
def SET (T : Stc) (sc : Scope) (e : Expr) (c : CE) : Prop := ∀ (Z : Sx) (X : Cx), XOk T Z X sc → PET X e (trE Z c)
theorem bin_et {op : Operator} (ha : SET T sc a ca) (hb : SE T sc b cb) : SET T sc (.BinOp a op b pos) (.bin op ca cb) := fun Z X ok pins s σ H Q t0 I h => by
  obtain ⟨se, h0, R, v, h1, S, bb, D, e, k⟩ := h
  simp only [evE] at e
  obtain ⟨x, h2, e1, e⟩ := Res.bind_eq e
  obtain ⟨y, h3, e2, e⟩ := Res.bind_eq e
  obtain ⟨e3, rfl⟩ := opt_eq e
  have w : trE Z ca σ H fun x H1 => trE Z cb σ H1 fun y H2 => ∃ rr : R2, OpR X (binaryOp op) rr ∧ rr x y H2 Q := two S bb D e1 e2 fun R' H' vx vy X' S' b' D' dx dy =>
    let ⟨rr, o, q⟩ := bop_ok ok.K S' e3 dx dy
    ⟨rr, o, q Q fun H2 x2 X2 S2 d2 => k R' H2 x2 (X'.trans X2) S2 (D'.mono X2) d2⟩
  refine wpAny_BinOp (thn (ha Z X ok pins s σ H _ t0 I w) fun v s1 ⟨x, H1, I1, r1, q1⟩ => ?_)
  refine thn ((hb Z X ok).run pins s1 σ H1 _ I1 q1) fun u s2 ⟨y, H2, I2, r2, q2⟩ => ?_
  exact OpR.one pins s2 σ H2 x y v u Q I2 r1 r2 q2
theorem repl_et {x y z : Str} {i j0 j1 : Nat} {p1 c0 c1 apos : Pos} (hi : T.N[i]? = some x) (hv : Vis sc x) (hd : (x == ("__debug__" : Str)) = false) (hcd : (x == ("__classdict__" : Str)) = false) (hline : (apos.endLine == pos.line) = true) :
    SET T sc (.Call (.Attribute (.Name x p1) "replace" apos) [.Constant (.str y) j0 c0, .Constant (.str z) j1 c1] [] pos) (.repl (.var i) y z) := fun Z X ok pins s σ H Q t0 I h => by
  obtain ⟨se, h0, R, v, h1, S, bb, D, e, k⟩ := h
  simp only [evE] at e
  split at e
  case h_2 => cases e
  rename_i w hw
  simp only [Res.bind_ok] at e
  split at e
  case h_2 => cases e
  rename_i t
  split at e
  case isFalse => cases e
  rename_i hc
  cases e
  obtain ⟨xv, hσ, dx⟩ := D.2 i _ hw
  have dx : xv = .str t := dx
  subst dx
  have hlim : lim = 16777216 := rfl
  have hbase : attributeBase (.Name x p1) "replace" X.env (eval (.Name x p1) X.env) = eval (.Name x p1) X.env := by rfl
  have hst : starEach [.Constant (.str y) j0 c0, .Constant (.str z) j1 c1] X.env = [(false, eval (.Constant (.str y) j0 c0) X.env), (false, eval (.Constant (.str z) j1 c1) X.env)] := by rfl
  refine PySem.Call_method2 hbase hst hline (raw_name (by rw [ok.N]; exact hi) (by rw [ok.sc]; exact hv) I hσ (fun v r => ?_) hd hcd)
  obtain ⟨tx, e⟩ := r
  subst e
  refine ⟨"str", _, F.plainAttrs_str, F.slot_str_replace, F.type_str_replace, typeIs_str _ _ _,
                          (fun _ e => nomatch e), Calls.callWith_builtin rfl (Calls.evalArgs_plain (Calls.spliced_cons ?_))⟩
  refine Calls.Constant_str ?_
  refine Calls.spliced_cons
                          (Calls.Constant_str (Calls.spliced_nil ?_))
  refine PySem.SC.replace (show s.toks ≠ 0 by omega) (show s.toks + 1 ≠ 0 by omega) (show s.toks ≠ s.toks + 1 by omega) hc.1 (by have := hc.2; omega) fun t' kk => ?_
  exact ⟨.str (Txt.replace t y z), H, I.tok kk, ⟨t', rfl⟩, k R H _ (Ext.refl _ _) S D rfl⟩
theorem lit_et_a {u : Str} {j : Nat} {p : Pos} {es : List Expr} {cs : List CE} (hs : starred a = false) (hc : starC ca = false) (ha : SET T sc a ca) (hr : SA T sc es cs) : SA T sc (.Constant (.str u) j p :: a :: es) (.cst (.str u) :: ca :: cs) := fun Z X ok => ⟨fun ps pins s σ H Q I h => by
  obtain ⟨se, h0, R, v, h1, S, bb, D, e, k⟩ := h
  rw [evEs_cons rfl] at e
  simp only [evE, Res.bind_ok] at e
  obtain ⟨xs, h3, e0, e⟩ := Res.bind_eq e
  cases e
  rw [evEs_cons hc] at e0
  obtain ⟨x, h2, e1, e0⟩ := Res.bind_eq e0
  obtain ⟨ws, h3, e2, e0⟩ := Res.bind_eq e0
  cases e0
  have w : trE Z ca σ H fun x H1 => trA Z cs σ H1 fun xs H2 => Q (V.str u :: x :: xs) H2 := by
    refine one S bb D e1 fun R' H' vx X' S' b' D' dx => ?_
    exact ⟨se, h2, R', _, _, S', b', D', e2, fun R2 H2 ys X2 S2 D2 d2 => k R2 H2 (V.str u :: vx :: ys) (X'.trans X2) S2 D2 ⟨_, _, rfl, rfl, vx, ys, rfl, dx.mono X2, d2⟩⟩
  show wpAny _ _ (spliced ((false, eval (.Constant (.str u) j p) X.env) :: backTo ps (starEach (a :: es) X.env))) _ _ s
  refine Calls.spliced_cons
                          (Calls.Constant_str ?_)
  rw [star1 hs]
  show wpAny _ _ (spliced ((false, eval a X.env) :: backTo ps (starEach es X.env))) _ _ _
  refine Calls.spliced_cons ?_
  refine thn (ha Z X ok pins _ σ H _ (Nat.succ_pos s.toks) (I.tok (s.toks + 1)) w) fun v s1 ⟨x, H1, I1, r1, q1⟩ => ?_
  refine thn ((hr Z X ok).run ps pins s1 σ H1 _ I1 q1) fun us s2 ⟨xs, H2, I2, r2, q2⟩ => ?_
  exact ⟨V.str u :: x :: xs, H2, I2, .cons ⟨_, rfl⟩ (.cons r1 r2), q2⟩⟩
theorem seq_den {Z : Sx} {X : Cx} {R : Rg} {h : Hh} {H : Hp} {v : Val} {x : V} {vs : List Val} (hK : Z.K = X.K) (S : SimZ Z R h H) (e : seqOf (rd h v) = some vs) (d : DenZ Z R H v x) :
    ∃ (p : Addr) (xs : List V), x = .ref p ∧ (SqT X.K H p xs ∨ SqL X.K H p xs) ∧ xs.length ≤ sizeLine ∧ DenLZ Z R H vs xs := by
  generalize ew : rd h v = w at e
  unfold seqOf at e
  split at e <;> cases e
  · obtain ⟨p, xs, rfl, t, l, dl⟩ := d.rd S ew
    exact ⟨p, xs, rfl, .inr (.inl (.inl t)), l, dl⟩
  · obtain ⟨p, xs, rfl, t, dl⟩ := rd_tup ew d
    exact ⟨p, xs, rfl, .inl (by rw [← hK]; exact t.sq), t.1, dl⟩
theorem star_a {es : List Expr} {cs : List CE} {p : Pos} (ha : SE T sc a ca) (hr : SA T sc es cs) : SA T sc (.Starred a p :: es) (.star ca :: cs) := fun Z X ok => ⟨fun ps pins s σ H Q I h => by
  obtain ⟨se, h0, R, v, h1, S, bb, D, e, k⟩ := h
  simp only [evEs] at e
  obtain ⟨x, h2, e1, e⟩ := Res.bind_eq e
  split at e
  · rename_i vs hv
    obtain ⟨xs, h3, e2, e⟩ := Res.bind_eq e
    cases e
    refine (StX.pa_star (ha Z X ok) (hr Z X ok) rfl).run ps pins _ σ H Q I ?_
    refine one S bb D e1 fun R' H' vx X' S' b' D' dx => ?_
    obtain ⟨p, ys, rfl, hq, _, dl⟩ := seq_den ok.K S' hv dx
    exact ⟨p, ys, rfl, hq, se, h2, R', _, _, S', b', D', e2, fun R2 H2 zs X2 S2 D2 d2 => k R2 H2 (ys ++ zs) (X'.trans X2) S2 D2 ((dl.mono X2).append d2)⟩
  · cases e⟩
theorem more {Z : Sx} {es : List CE} {σ : L2.St} {H : Hp} {s : Env} {h h1 : Hh} {R : Rg} {vs : List Val} {W : List V → Hp → Prop} (S : Sim Z.K Z.C Z.bs Z.g.base R h H) (hb : Z.g.base ≤ h.length) (D : DenS Z.K Z.C R H s σ)
    (ea : evEs Z.g es s h = .ok vs h1)
    (k : ∀ R' H' xs, Ext R R' H H' → Sim Z.K Z.C Z.bs Z.g.base R' h1 H' → Z.g.base ≤ h1.length → DenS Z.K Z.C R' H' s σ → DenL Z.K Z.C R' H' vs xs → W xs H') :
    trA Z es σ H fun x H1 => W x H1 :=
  ⟨s, h, R, vs, h1, S, hb, D, ea, fun R1 H1 x X1 S1 D1 dx => k R1 H1 x X1 S1 (base_of X1 S S1 hb) D1 dx⟩
/-! ### displays -/
theorem alloc_ok {Z : Sx} {R : Rg} {h h' : Hh} {H : Hp} {m : Bool} {vs : List Val} {xs : List V} {v : Val} {σ : L2.St} {s : Env} {p : Addr} {Q : VK} (S : SimZ Z R h H) (hb : Z.g.base ≤ h.length) (D : DenS Z.K Z.C R H s σ) (e : allocL m vs h = .ok v h') (hl : xs.length ≤ sizeLine)
    (d : DenLZ Z R H vs xs) (n : H p = none) (k : ∀ R' H' x, Ext R R' H H' → Sim Z.K Z.C Z.bs Z.g.base R' h' H' → DenS Z.K Z.C R' H' s σ → Den Z.K Z.C R' H' v x → Q x H') : Q (.ref p) (upd H p (.lst xs)) := by
  unfold allocL at e
  split at e <;> cases e
  · refine k (R.add p) _ _ (Ext.own n) (S.alloc hb n hl d) (D.mono (Ext.own n)) ⟨p, ?_, rfl⟩
    show (R.own ++ [p])[h.length]? = some p
    rw [← S.len, List.getElem?_append_right (Nat.le_refl _), Nat.sub_self]
    rfl
  · exact Aft.lst (Z := Z) (R := R) (h := h) (H := H) (Q := Q) (fun H' x X' S' d' => k R H' x X' S' (D.mono X') d') S n hl d
theorem tup_e {es : List Expr} {cs : List CE} {j} (h : SA T sc es cs) : SE T sc (.Tuple es j pos) (.tup cs) := fun Z X ok => by
  refine ⟨fun pins s σ H Q I hh => ?_⟩
  obtain ⟨se, h0, R, v, h1, S, bb, D, e, k⟩ := hh
  simp only [evE] at e
  obtain ⟨vs, h2, e1, e⟩ := Res.bind_eq e
  split at e <;> cases e
  rename_i hl
  refine (pe_tup (h Z X ok)).run pins _ σ H Q I (more S bb D e1 fun R' H' xs X' S' b' D' dx => ?_)
  have hz : xs.length ≤ sizeLine := by rw [← dx.length, sz]; exact hl
  exact ⟨hz, fun p n => Aft.tup (Z := Z) (R := R') (h := h1) (H := H') (Q := Q) (fun H2 x X2 S2 d2 => k R' H2 x (X'.trans X2) S2 (D'.mono X2) d2) S' n hz dx⟩
theorem lst_e {es : List Expr} {cs : List CE} {m : Bool} (h : SA T sc es cs) : SE T sc (.List es pos) (.lst m cs) := fun Z X ok => by
  refine ⟨fun pins s σ H Q I hh => ?_⟩
  obtain ⟨se, h0, R, v, h1, S, bb, D, e, k⟩ := hh
  simp only [evE] at e
  obtain ⟨vs, h2, e1, e⟩ := Res.bind_eq e
  split at e <;> try cases e
  rename_i hl
  refine (pe_lst (h Z X ok)).run pins _ σ H Q I (more S bb D e1 fun R' H' xs X' S' b' D' dx => ?_)
  have hz : xs.length ≤ sizeLine := by rw [← dx.length, sz]; exact hl
  exact ⟨hz, fun p n => alloc_ok S' b' D' e hz dx n fun R2 H2 x X2 S2 D2 d2 => k R2 H2 x (X'.trans X2) S2 D2 d2⟩
/-! ### calls of built-ins -/
theorem call_ok {Z : Sx} {X : Cx} {R : Rg} {h : Hh} {H : Hp} {bb : Bi} {vs : List Val} {xs : List V} {r : Val} {Q : VK} (ok : XOk T Z X sc) (S : SimZ Z R h H) (hb : bb ≠ .sset) (e : bi bb (asL vs h) = some r) (d : DenLZ Z R H vs xs) (k : Aft Z R h H r Q) :
    ∃ rr : List V → Hp → VK → Prop, CallR X (biV bb) rr ∧ rr xs H Q :=
  let ⟨rr, o, q⟩ := bi_ok ok.K ok.room ok.gd ok.calm S hb e d
  ⟨rr, o, q Q k⟩
theorem callB_e {es : List Expr} {ces : List CE} {x : Str} {bb : Bi} {id : String} {p : Pos} (hb : bb ≠ .sset) (hv : biV bb = .builtin id) (hx : bootBuiltins x = some (.builtin id)) (hg : isGl sc x = true) (hm : x ∈ T.blt) (hn : x ≠ "__name__") (hdb : (x == ("__debug__" : Str)) = false)
    (hs : noStar (a :: es) = true) (ha : SA T sc (a :: es) ces) : SE T sc (.Call (.Name x p) (a :: es) [] pos) (.callB bb ces) := fun Z X ok => by
  refine
                          ⟨fun pins s σ H Q I h => ?_⟩
  obtain ⟨se, h0, R, v, h1, S, b0, D, e, k⟩ := h
  simp only [evE] at e
  obtain ⟨vs, h2, e1, e⟩ := Res.bind_eq e
  obtain ⟨e3, rfl⟩ := opt_eq e
  simp only [noStar, List.all_cons, Bool.and_eq_true, Bool.not_eq_true'] at hs
  have hc : CallR X (.builtin id) (fun xs H Q => ∃ rr : List V → Hp → VK → Prop, CallR X (biV bb) rr ∧ rr xs H Q) := by rw [hv]; exact CallR.one
  refine (pe_callB hc (gl_of ok hg) (ok.blt x hm) hx (ha Z X ok) hn hdb (star1 hs.1) (any_no hs.2)).run pins _ σ H Q I ?_
  exact more S b0 D e1 fun R' H' xs X' S' b' D' dx => call_ok ok S' hb e3 dx fun H2 x2 X2 S2 d2 => k R' H2 x2 (X'.trans X2) S2 (D'.mono X2) d2
theorem callT_e {es : List Expr} {ces : List CE} {x : Str} {bb : Bi} {id : String} {p : Pos} (hb : bb ≠ .sset) (hv : biV bb = .type id) (hx : bootBuiltins x = some (.type id)) (hg : isGl sc x = true) (hm : x ∈ T.blt) (hn : x ≠ "__name__") (hdb : (x == ("__debug__" : Str)) = false)
    (hs : noStar (a :: es) = true) (ha : SA T sc (a :: es) ces) : SE T sc (.Call (.Name x p) (a :: es) [] pos) (.callB bb ces) := fun Z X ok => by
  refine
                          ⟨fun pins s σ H Q I h => ?_⟩
  obtain ⟨se, h0, R, v, h1, S, b0, D, e, k⟩ := h
  simp only [evE] at e
  obtain ⟨vs, h2, e1, e⟩ := Res.bind_eq e
  obtain ⟨e3, rfl⟩ := opt_eq e
  simp only [noStar, List.all_cons, Bool.and_eq_true, Bool.not_eq_true'] at hs
  have hc : CallR X (.type id) (fun xs H Q => ∃ rr : List V → Hp → VK → Prop, CallR X (biV bb) rr ∧ rr xs H Q) := by rw [hv]; exact CallR.one
  refine (pe_callTy hc (gl_of ok hg) (ok.blt x hm) hx (ha Z X ok) hn hdb (star1 hs.1) (any_no hs.2)).run pins _ σ H Q I ?_
  exact more S b0 D e1 fun R' H' xs X' S' b' D' dx => call_ok ok S' hb e3 dx fun H2 x2 X2 S2 d2 => k R' H2 x2 (X'.trans X2) S2 (D'.mono X2) d2
/-- list(e) that is changed later -/
theorem listM_e {p : Pos} (hg : isGl sc "list" = true) (hm : ("list" : Str) ∈ T.blt) (hs : starred a = false) (hc : starC ca = false) (ha : SE T sc a ca) : SE T sc (.Call (.Name "list" p) [a] [] pos) (.listM ca) := fun Z X ok => by
  refine
                          ⟨fun pins s σ H Q I h => ?_⟩
  obtain ⟨se, h0, R, v, h1, S, b0, D, e, k⟩ := h
  simp only [evE] at e
  obtain ⟨w, h2, e1, e⟩ := Res.bind_eq e
  split at e
  case h_2 => cases e
  rename_i vs hv
  refine (pe_callTy call_list_of (gl_of ok hg) (ok.blt _ hm) boot_list (cons_a hs hc ha nil_a Z X ok) (by decide) (by decide) (star1 hs) rfl).run pins _ σ H Q I ?_
  have e2 : evEs Z.g [ca] se h0 = .ok [w] h2 := by
    rw [evEs_cons hc, e1]
    rfl
  refine more S b0 D e2 fun R' H' xs X' S' b' D' dx => ?_
  obtain ⟨x, ys, rfl, d1, d2⟩ := dx
  rw [show ys = [] from d2]
  obtain ⟨q, zs, rfl, hq, hl, dl⟩ := seq_den ok.K S' hv d1
  exact ⟨q, zs, rfl, hq.elim .inr .inl, fun l n => alloc_ok S' b' D' e hl dl n fun R2 H2 x X2 S2 D2 d2 => k R2 H2 x (X'.trans X2) S2 D2 d2⟩
end
end Co
end

section
set_option linter.all false
set_option maxRecDepth 100000
set_option autoImplicit false
/-! Lr: list(range(n)) that is changed later. -/
namespace Co
open PySem PySem.Spec
                        PyProof.Rows L2
section
variable {X : Cx}
theorem cr_range1 : CallR X (.type "range") (fun vs H Q => ∃ i, vs = [V.int i] ∧ ∀ p, H p = none → Q (.ref p) (upd H p (.rng 0 i))) := by
  intro pins s σ
                          H vs us Q I r h
  obtain ⟨i, rfl, q⟩ := h
  obtain
                          ⟨u, rfl, t, rfl⟩ := vals1 r
  refine call_range_1 ⟨.ref s.heap.objs.size, upd H s.heap.objs.size (.rng 0 i), I.laid (t' := s.toks + 1 + 1) (fun b o e => Heap.get?_push_of_some _ e) (Nat.le_refl _) ?_, rfl, q _ (I.hok.fresh (Nat.le_refl _))⟩
  exact ⟨s.toks, t, s.toks + 1, Heap.get?_push_size _ rfl⟩
theorem cr_list_rng (hc : X.calm = true) : CallR X (.type "list") (fun xs H Q => ∃ (r : Addr) (j : Int), xs = [.ref r] ∧ H r = some (.rng 0 j) ∧ -16777216 ≤ j ∧ j ≤ 16777216 ∧ ∀ p, H p = none → Q (.ref p) (upd H p (.lst ((List.range j.toNat).map fun i : Nat => V.int i)))) := by
  intro pins s σ
                          H xs us Q I r h
  obtain ⟨a, j, rfl, ha, j0, j1, q⟩ := h
  rw [Vals.ref1 r]
  obtain ⟨t, u, v, ho⟩ := I.hok a _ ha
  refine call_list_range (n := j.toNat) (I.ok.hd hc) ho (small_one (by decide) (by decide) (by omega) (by omega)) (by rw [rangeSize_nat, Int.sub_zero]) (by omega) fun h1 tk acc c1 hk hD hacc => ?_
  have hl : ((List.range j.toNat).map fun i : Nat => V.int i).length = acc.toList.length := by
    rw [List.length_map, List.length_range, Array.length_toList, hacc.1]
  have hv : Vals ((List.range j.toNat).map fun i : Nat => V.int i) acc.toList := by
    have main : ∀ {xs : List V} {us : List Value}, xs.length = us.length → (∀ (j : Nat) (x : V) (v : Value), xs[j]? = some x → us[j]? = some v → RelV x v) → Vals xs us := by
      intro xs
      induction xs with
      | nil => intro us e _; cases us with | nil => exact .nil | cons => cases e
      | cons x xs ih =>
        intro us e f
        cases us with
        | nil => cases e
        | cons u us => exact .cons (f 0 x u rfl rfl) (ih (by simpa using e) fun j y v p q => f (j + 1) y v (by simpa using p) (by simpa using q))
    refine main hl fun k x w ex ew => ?_
    rw [Array.getElem?_toList] at ew
    obtain ⟨t2, rfl⟩ := hacc.2 k w ew
    rw [List.getElem?_map] at ex
    have kl : k < j.toNat := by
      have := (Array.getElem?_eq_some_iff.mp ew).1
      rw [← hacc.1]; exact this
    rw [List.getElem?_range kl] at ex
    cases ex
    exact ⟨t2, by simp⟩
  exact ⟨.ref s.heap.objs.size, _, I.laid (t' := tk) hk (Nat.le_refl _)
    (show ObjOk X.prog X.w _ _ _ (.lst ((List.range j.toNat).map fun i : Nat => V.int i)) from ⟨by rw [List.length_map, List.length_range, sizeLine_eq]; omega, acc.toList, c1, hv, by rw [Array.toArray_toList]; exact hD⟩), rfl, q _ (I.hok.fresh (Nat.le_refl _))⟩
end
theorem compL_var {g : G} {s : Env} : ∀ {vs r : List Val} {h h' : Hh}, compL [] (fun v h => match setT true [0] v h (wipeE s [0]) with
        | some s1 => (evC g [] s1 h).bind fun b h2 => if b = true then (evE g (.var 0) s1 h2).bind fun x h3 => .ok (some x) h3 else .ok none h2
        | none => .bad) vs h = .ok r h' → r = vs ∧ h' = h
  | [], r, h, h', e => by
    simp only [compL, guardOk, if_true] at e
    cases e
    exact ⟨rfl, rfl⟩
  | v :: vs, r, h, h', e => by
    simp only [compL, guardOk, if_true] at e
    obtain ⟨o, h1, e1, e2⟩ := Res.bind_eq e
    simp only [setT, if_true, setMany, evC, Res.bind_ok] at e1
    obtain ⟨x, h3, e3, e4⟩ := Res.bind_eq e1
    cases e4
    simp only [evE] at e3
    split at e3
    · rename_i w hw
      cases e3
      have hl : 0 < (wipeE s [0]).length := by
        have := (List.getElem?_eq_some_iff.mp hw).1
        simpa using this
      rw [List.getElem?_set_self hl] at hw
      cases hw
      obtain ⟨r2, h4, e5, e6⟩ := Res.bind_eq e2
      cases e6
      obtain ⟨rfl, rfl⟩ := compL_var e5
      exact ⟨rfl, rfl⟩
    · cases e3
theorem comp_range {g : G} {ca : CE} {s : Env} {h h' : Hh} {v : Val} (e : evE g (.comp true [0] [0] true (.range1 ca) [] (.var 0)) s h = .ok v h') : ∃ j h1, evE g ca s h = .ok (.int j) h1 ∧ -16777216 ≤ j ∧ j ≤ 16777216 ∧ allocL true (rangeL 0 j.toNat) h1 = .ok v h' := by
  simp only [evE, evI] at e
  obtain ⟨p, h1, e1, e⟩ := Res.bind_eq e
  obtain ⟨x, h2, e2, e3⟩ := Res.bind_eq e1
  split at e3
  case h_2 => cases e3
  rename_i j
  split at e3
  case isFalse => cases e3
  rename_i hj
  cases e3
  split at e
  case isFalse => cases e
  obtain ⟨r, h3, e4, e5⟩ := Res.bind_eq e
  obtain ⟨rfl, rfl⟩ := compL_var e4
  exact ⟨j, _, e2, hj.1, hj.2, e5⟩
theorem rangeL_nat (n : Nat) : rangeL 0 n = (List.range n).map fun i : Nat => Val.int i := by
  have : ∀ (n lo : Nat), rangeL lo n = (List.range' lo n).map fun i : Nat => Val.int i := fun n => by
    induction n with
    | zero => intro lo; rfl
    | succ n ih =>
      intro lo
      have := ih (lo + 1)
      simp only [rangeL, List.range'_succ, List.map_cons]
      rw [show ((lo : Int) + 1) = ((lo + 1 : Nat) : Int) from rfl, this]
  rw [List.range_eq_range']
  exact this n 0
section
variable {T : Stc} {sc : Scope} {a : Expr} {ca : CE} {pos : Pos}
theorem listR_e {p p2 q : Pos} (hg : isGl sc "list" = true) (hm : ("list" : Str) ∈ T.blt) (hg2 : isGl sc "range" = true) (hm2 : ("range" : Str) ∈ T.blt) (hs : starred a = false) (hc : starC ca = false) (ha : SE T sc a ca) :
    SE T sc (.Call (.Name "list" p) [.Call (.Name "range" p2) [a] [] q] [] pos) (.comp true [0] [0] true (.range1 ca) [] (.var 0)) := fun Z X ok => by
  refine
                          ⟨fun pins s σ H Q I h => ?_⟩
  obtain ⟨se, h0, R, v, h1, S, b0, D, e, k⟩ := h
  obtain ⟨j, h2, e1, j0, j1, e3⟩ := comp_range e
  have inner := pe_callTy (p := p2) (pos := q) cr_range1 (gl_of ok hg2) (ok.blt _ hm2) (by decide +kernel : bootBuiltins "range" = some (.type "range")) (cons_a hs hc ha nil_a Z X ok) (by decide) (by decide) (star1 hs) rfl
  refine (pe_callTy (cr_list_rng ok.calm) (gl_of ok hg) (ok.blt _ hm) boot_list (pa_cons inner pa_nil rfl) (by decide) (by decide) rfl rfl).run pins _ σ H Q I ?_
  have e2 : evEs Z.g [ca] se h0 = .ok [.int j] h2 := by
    rw [evEs_cons hc, e1]
    rfl
  refine more S b0 D e2 fun R' H' xs X' S' b' D' dx => ?_
  obtain ⟨x, ys, rfl, d1, d2⟩ := dx
  rw [show ys = [] from d2, show x = .int j from d1]
  refine ⟨j, rfl, fun r nr => ?_⟩
  have X2 : Ext R' R' H' (upd H' r (.rng 0 j)) := Ext.new nr
  have S2 := S'.new (o := .rng 0 j) nr
  refine ⟨r, j, rfl, upd_same, j0, j1, fun p n => ?_⟩
  have dl : DenLZ Z R' (upd H' r (.rng 0 j)) (rangeL 0 j.toNat) ((List.range j.toNat).map fun i : Nat => V.int i) := by
    rw [rangeL_nat]
    have := DenL.ofInts (K := Z.K) (C := Z.C) (R := R') (H := upd H' r (.rng 0 j)) ((List.range j.toNat).map fun i : Nat => (i : Int))
    rw [List.map_map, List.map_map] at this
    exact this
  exact alloc_ok S2 b' (D'.mono X2) e3 (by rw [List.length_map, List.length_range, sizeLine_eq]; omega) dl n fun R3 H3 y X3 S3 D3 d3 => k R3 H3 y ((X'.trans X2).trans X3) S3 D3 d3
theorem bop_lst {h : Hh} {x y z : Val} {zs : List Val} (e : bop .Add x y = some z) (hz : rd h z = .lst zs) : ∃ us, z = .lst us := by
  unfold bop at e
  split at e <;> first | (split at e <;> cases e <;> first | exact ⟨_, rfl⟩ | (simp [rd] at hz; done); done) | (cases e; simp [rd] at hz; done) | (cases e; done)
theorem bop_cat {x y : Val} {zs : List Val} (e : bop .Add x y = some (.lst zs)) : ∃ as bs, x = .lst as ∧ y = .lst bs ∧ as.length + bs.length ≤ lim ∧ zs = as ++ bs := by
  cases x <;> cases y <;> simp only [bop] at e <;> first | (cases e; done) | (split at e <;> cases e; done) | skip
  split at e <;> cases e
  rename_i hl
  exact ⟨_, _, rfl, rfl, hl, rfl⟩
/-- a sum of lists that is changed later -/
theorem addM_e {b : Expr} {cb : CE} (ha : SE T sc a ca) (hb : SE T sc b cb) : SE T sc (.BinOp a .Add b pos) (.listM (.bin .Add (.bin .Add ca cb) (.lst false []))) := fun Z X ok => by
  refine
                          ⟨fun pins s σ H Q I h => ?_⟩
  obtain ⟨se, h0, R, v, h1, S, b0, D, e, k⟩ := h
  simp only [evE, evEs, Res.bind_ok] at e
  obtain ⟨w, h2, e1, e⟩ := Res.bind_eq e
  obtain ⟨z, h3, e2, e1⟩ := Res.bind_eq e1
  obtain ⟨x, h4, e3, e2⟩ := Res.bind_eq e2
  obtain ⟨y, h5, e4, e2⟩ := Res.bind_eq e2
  obtain ⟨e5, rfl⟩ := opt_eq e2
  simp only [List.length_nil, Nat.zero_le, if_true, allocL, Bool.false_eq_true, if_false, Res.bind_ok] at e1
  obtain ⟨e6, rfl⟩ := opt_eq e1
  have hz : ∃ zs, z = .lst zs := by
    have e6 : bop .Add (rd h2 z) (.lst []) = some w := e6
    cases hz : rd h2 z <;> rw [hz] at e6 <;> first | (simp [bop] at e6; done) | skip
    rename_i zs
    exact bop_lst e5 hz
  obtain ⟨zs, rfl⟩ := hz
  have e6 : bop .Add (.lst zs) (.lst []) = some w := e6
  simp only [bop, List.length_nil, Nat.add_zero, List.append_nil] at e6
  split at e6 <;> cases e6
  have e : allocL true zs h2 = .ok v h1 := e
  obtain ⟨as, bs, ea, eb, hl, rfl⟩ := bop_cat e5
  refine (pe_op op_cat (ha Z X ok) (hb Z X ok)).run pins _ σ H Q I ?_
  refine two S b0 D e3 e4 fun R' H' vx vy X' S' b' D' dx dy => ?_
  obtain ⟨p, xs, rfl, tp, l1, d1⟩ := dx.rd S' ea
  obtain ⟨q, ys, rfl, tq, l2, d2⟩ := dy.rd S' eb
  have hz : xs.length + ys.length ≤ sizeLine := by rw [← d1.length, ← d2.length, sz]; exact hl
  exact ⟨p, q, xs, ys, rfl, rfl, tp, tq, hz, fun n hn => alloc_ok S' b' D' e (by rw [List.length_append]; exact hz) (d1.append d2) hn fun R2 H2 x X2 S2 D2 d2 => k R2 H2 x (X'.trans X2) S2 D2 d2⟩
end
end Co
end

section
set_option linter.all false
set_option maxRecDepth 100000
set_option autoImplicit false
/-! Co9: calls of own defs, making, fields, properties, methods, places, slices. -/
namespace Co
open PySem PySem.Spec
                        PyProof.Rows L2
section
variable {P : Program} {w : World} {K : PySem.W.Frag} {mg : Str → Option Value} {base : Heap} {k : Nat} {f : Addr} {fd : FuncData} {ps : List Str} {sp : SpV} {X : Cx} {pins : List (Addr × Obj)} {σ : L2.St} {H : Hp} {s : Shared} {Q : VK} {us : List Value} {vs : List V}
theorem crEnd {A : Around} {outer : List PySem.Env} {r : Result} {s' : Shared} (h : CR CX0 outer P w H s Q E0 r s') : ∃ u, r = .ok (.ret u) ∧ L2.CE outer P w H s Q u s' := by
  cases r with
  | error e => exact False.elim h
  | ok fl =>
    cases fl with
    | ret u => exact ⟨u, rfl, h⟩
    | next => exact False.elim h
    | brk => exact False.elim h
    | cont => exact False.elim h
theorem bindsN {s : Shared} (hb : Binds K fd ps []) (hk : K.In s.heap) (hl : us.length = ps.length) : BindsTo s fd ⟨us, []⟩ (ps.zip us) := by
  have := hb s us hk (by rw [List.append_nil]; exact hl)
  rwa [List.append_nil] at this
theorem run_fnG (F : FnG X.prog X.w X.K X.mg X.base k f fd ps sp) (hr : Room k X.A) (hgd : X.A.guards = some []) (hb : Binds X.K fd ps []) (I : Inv X pins σ H s) (r : Vals vs us) (h : sp vs H Q) :
    wpAny (model X.prog X.w) X.A (call
                            (.ref f) us) (EP X pins σ Q) X.xe s := by
  have hl : us.length = ps.length := by rw [← r.length]; exact F.len _ _ _ h
  refine wpAny_call (codeAny_mono (F.run X.A X.stack s H ⟨us, []⟩ us vs Q hr hgd I.env0 (bindsN hb I.kIn hl) r h) fun r s' hq => ?_)
  obtain ⟨u, rfl, q⟩ := crEnd (A := X.A) hq
  exact I.after q
theorem permL_vals {vs : List V} {us : List Value} (r : Vals vs us) (perm : List Nat) : Vals (permL perm vs) (permL perm us) := by
  induction perm with
  | nil => exact .nil
  | cons i t ih =>
    unfold permL at ih ⊢
    rw [List.filterMap_cons, List.filterMap_cons]
    cases e : vs[i]? with
    | none =>
      have : us[i]? = none := List.getElem?_eq_none (by rw [← r.length]; exact List.getElem?_eq_none_iff.mp e)
      rw [this]
      exact ih
    | some x =>
      obtain ⟨u, eu, ru⟩ := r.get e
      rw [eu]
      exact .cons ru ih
theorem run_fnGK {ks : List Str} {perm : List Nat} (F : FnG X.prog X.w X.K X.mg X.base k f fd ps sp) (hr : Room k X.A) (hgd : X.A.guards = some []) (hb : KwB fd ps ks perm) (hl : us.length = ks.length) (I : Inv X pins σ H s) (r : Vals vs us) (h : sp (permL perm vs) H Q) :
    wpAny (model X.prog X.w) X.A (call (.ref f) [] (ks.zip us)) (EP X pins σ Q) X.xe s := by
  refine wpAny_call (codeAny_mono (F.run X.A X.stack s H ⟨[], ks.zip us⟩ (permL perm us) (permL perm vs) Q hr hgd I.env0 (hb s us hl) (permL_vals r perm) h) fun r s' hq => ?_)
  obtain ⟨u, rfl, q⟩ := crEnd (A := X.A) hq
  exact I.after q
theorem make_guards {A : Around} {C : Addr} {us : List Value} {kw : List (Str × Value)} : (A.under (.builtin "type.__call__" ⟨.ref C :: us, kw⟩)).guards = A.guards := by
  have e : (Code.builtin "type.__call__" ⟨.ref C :: us, kw⟩).guards = [] := by
    first | rfl | simp [Code.guards, Code.isGuard, guardIds]
  unfold Around.under
  rw [e]
  cases A.guards <;> rfl
theorem run_makeG {C : Addr} (M : Mk X.K C f) (F : FnG X.prog X.w X.K X.mg X.base k f fd ps sp) (hr : Room (k + 1) X.A) (hgd : X.A.guards = some []) (hb : Binds X.K fd ps []) (I : Inv X pins σ H s) (r : Vals vs us)
    (h : ∀ x dx, H x = none → H dx = none → dx ≠ x → sp (.ref x :: vs) (upd (upd H dx (.own x)) x (.ins C dx [])) (fun v H2 => v = .non ∧ Q (.ref x) H2)) :
    wpAny (model X.prog X.w) X.A (call
                            (.ref C) us) (EP X pins σ Q) X.xe s := by
  have hq := h (s.heap.objs.size + 1) s.heap.objs.size (I.hok.fresh (Nat.le_succ _))
                          (I.hok.fresh (Nat.le_refl _)) (Nat.ne_of_lt (Nat.lt_succ_self _))
  have I2 := Inv.made
                          (C := C) I
  have r2 : Vals (V.ref (s.heap.objs.size + 1) :: vs)
                          (Value.ref (s.heap.objs.size + 1) :: us) := .cons rfl r
  have hl : (Value.ref (s.heap.objs.size + 1) :: us).length = ps.length := by rw [← r2.length]; exact F.len _ _ _ hq
  refine wpAny_call (make_map (f := f) I.kIn M.makes M.init (beq_iff_eq.mp M.fn) (codeAny_mono (F.run _ X.stack _ _ ⟨Value.ref (s.heap.objs.size + 1) :: us, []⟩ (Value.ref (s.heap.objs.size + 1) :: us) _ _ (hr.make C us []) (make_guards.trans hgd)
    (I2.env0.make C us []) (bindsN hb I2.kIn hl) r2 hq) fun r s' hq' => ?_))
  obtain ⟨u, rfl, q⟩ := crEnd (A := X.A) hq'
  obtain ⟨v, H', I3, rv, ev, q3⟩ := I2.after q
  subst ev
  exact ⟨rv, ⟨V.ref
                          (s.heap.objs.size + 1), H', I3, rfl, q3⟩⟩
theorem getpropG {a dx C p g : Addr} {fs : List (Str × V)} {n : Str} {b : Bool} {E' : Value → Shared → Prop} (I : Inv X pins σ H s) (ea : H a = some (.ins C dx fs)) (c : Cls X.K C) (hp : PropOf X.K C n p g)
    (F : FnG X.prog X.w X.K X.mg X.base k g fd ps sp) (hr : Room (k + 1) X.A) (hgd : X.A.guards = some []) (hb : Binds X.K fd ps []) (h : sp [.ref a] H Q) : wpAny (model X.prog X.w) X.A (getAttr (.ref a) n b) (EP X pins σ Q) E' s := by
  obtain
                          ⟨mA, O, _, _, _, _⟩ := ins_get I.hok ea
  obtain ⟨od, J, _⟩ := O.look
  obtain
                          ⟨rest, hrec⟩ := hp.rec_
  have I1 := I.tok (s.toks + 1)
  have hl : [Value.ref a].length = ps.length := by rw [← F.len _ _ _ h]; rfl
  have hc :
                          (PySem.W.clsIn X.K C).isSome = true := by
    obtain
                            ⟨cd, hc, _⟩ := PySem.W.any_some c.hd
    rw [hc]
    rfl
  refine PySem.W.get_bind I.kIn J (PySem.W.plainGet_of (c.get n)).1 (PySem.W.findObj_data hc hp.at_ hp.get hp.tak) (PySem.W.plainGet_of (c.get n)).2 (wpAny_call (PySem.W.prop_get (s := { s with toks := s.toks + 1 }) I.kIn hrec ?_))
  refine codeAny_mono (F.run X.A.in1 X.stack { s with toks := s.toks + 1 } H ⟨[.ref a], []⟩ [.ref a] [.ref a] Q hr.in1 hgd I1.env0.in1 (bindsN hb I1.kIn hl) (.cons rfl .nil) h) fun r s' hq => ?_
  obtain ⟨u, rfl, q⟩ := crEnd (A := X.A) hq
  obtain ⟨v, H', I3, rv, q3⟩ := I1.after q
  show wpAny _ _
                          (handedOut u) _ _ _
  rw [PySem.W.handedOut_of
                          (handed_of rv)]
  exact wpAny_pure
                          ⟨v, H', I3, rv, q3⟩
end
section
variable {T : Stc} {sc : Scope} {a b c : Expr} {ca cb cc : CE} {pos : Pos}
theorem callF_e {es : List Expr} {ces : List CE} {x : Str} {f : Nat} {p : Pos} (hx : T.fns.lookup x = some f) (hg : isGl sc x = true) (hdb : (x == ("__debug__" : Str)) = false) (hs : noStar (a :: es) = true) (ha : SA T sc (a :: es) ces) :
    SE T sc (.Call (.Name x p) (a :: es) [] pos) (.callF f ces) := fun Z X ok => by
  refine
                          ⟨fun pins s σ H Q I h => ?_⟩
  obtain ⟨se, h0, R, v, h1, S, b0, D, e, k⟩ := h
  simp only [evE] at e
  obtain ⟨vs, h2, e1, e⟩ := Res.bind_eq e
  simp only [noStar, List.all_cons, Bool.and_eq_true, Bool.not_eq_true'] at hs
  obtain ⟨kk, fa, fd, ps, F, hr, hm, hk, hb, _⟩ := ok.fns x f hx
  refine wpAny_Call_Name_kw (ld_glob I (gl_of ok hg) hm ?_ hdb)
  refine PySem.W.callWith_K (h₀ := X.base) I.ok.mod.kin hk (thn ((ha Z X ok).run pos pins s σ H _ I (more S b0 D e1 fun R' H' xs X' S' b' D' dx => ?_)) fun us s1 ⟨vs, H1, I1, r, q⟩ => ⟨I1.kIn, run_fnG F hr ok.gd hb I1 r q⟩) (star1 hs.1) (any_no hs.2)
  exact ⟨R', h2, vs, v, h1, S', b', dx, e, fun R2 H2 x2 X2 S2 d2 => k R2 H2 x2 (X'.trans X2) S2 (D'.mono X2) d2⟩
theorem callF0_e {x : Str} {f : Nat} {p : Pos} (hx : T.fns.lookup x = some f) (hg : isGl sc x = true) (hdb : (x == ("__debug__" : Str)) = false) : SE T sc (.Call (.Name x p) [] [] pos) (.callF f []) := fun Z X ok => by
  refine
                          ⟨fun pins s σ H Q I h => ?_⟩
  obtain ⟨se, h0, R, v, h1, S, b0, D, e, k⟩ := h
  simp only [evE, evEs, Res.bind_ok] at e
  obtain ⟨kk, fa, fd, ps, F, hr, hm, hk, hb, _⟩ := ok.fns x f hx
  refine wpAny_Call_Name_kw (ld_glob I (gl_of ok hg) hm ?_ hdb)
  refine PySem.W.callWith_K0 I.kIn hk (run_fnG (us := []) (vs := []) F hr ok.gd hb I .nil ?_)
  exact ⟨R, h0, [], v, h1, S, b0, rfl, e, fun R2 H2 x2 X2 S2 d2 => k R2 H2 x2 X2 S2 (D.mono X2) d2⟩
/-! by names alone -/
def SK (T : Stc) (sc : Scope) (kws : List Keyword) (cs : List CE) : Prop := ∀ (Z : Sx) (X : Cx), XOk T Z X sc → PK X kws (trA Z cs)
theorem nil_k : SK T sc [] [] := fun Z X ok => ⟨fun ps pins s σ H Q I h => by
  obtain ⟨se, h0, R, v, h1, S, bb, D, e, k⟩ := h
  cases e
  exact pk_nil.run ps pins s σ H Q I (k R H _ (Ext.refl R H) S D rfl)⟩
theorem cons_k {kws : List Keyword} {cs : List CE} {nm : Option Str} {kp : Pos} (hc : starC ca = false) (ha : SE T sc a ca) (hr : SK T sc kws cs) : SK T sc (⟨nm, a, kp⟩ :: kws) (ca :: cs) := fun Z X ok => ⟨fun ps pins s σ H Q I h => by
  obtain ⟨se, h0, R, v, h1, S, bb, D, e, k⟩ := h
  rw [evEs_cons hc] at e
  obtain ⟨x, h2, e1, e⟩ := Res.bind_eq e
  obtain ⟨xs, h3, e2, e⟩ := Res.bind_eq e
  cases e
  refine (pk_cons (ha Z X ok) (hr Z X ok)).run ps pins s σ H Q I ?_
  exact one S bb D e1 fun R1 H1 vx X1 S1 b1 D1 dx => ⟨se, h2, R1, xs, _, S1, b1, D1, e2, fun R2 H2 ys X2 S2 D2 d2 => k R2 H2 (vx :: ys) (X1.trans X2) S2 D2 ⟨vx, ys, rfl, dx.mono X2, d2⟩⟩⟩
/-- the names of keywords -/
def kwNm : List Keyword → Option (List Str)
  | [] => some []
  | ⟨some nm, _, _⟩ :: r => (kwNm r).map (nm :: ·)
  | _ :: _ => none
theorem kwNm_ok {env : PySem.Env} {pos : Pos} : ∀ {kws : List Keyword} {ks : List Str}, kwNm kws = some ks → (backToKw pos (keywordEach kws env)).all (·.1.isSome) = true ∧ (backToKw pos (keywordEach kws env)).filterMap (·.1) = ks ∧ (backToKw pos (keywordEach kws env)).any (·.1.isNone) = false
  | [], ks, h => by cases h; exact ⟨rfl, rfl, rfl⟩
  | ⟨none, e, kp⟩ :: r, ks, h => nomatch h
  | ⟨some nm, e, kp⟩ :: r, ks, h => by
    obtain ⟨l, h1, rfl⟩ := Option.map_eq_some_iff.mp h
    obtain ⟨q1, q2, q3⟩ := kwNm_ok (env := env) (pos := pos) h1
    refine ⟨?_, ?_, ?_⟩
    · show (true && (backToKw pos (keywordEach r env)).all (·.1.isSome)) = true
      rw [q1]; rfl
    · show nm :: (backToKw pos (keywordEach r env)).filterMap (·.1) = nm :: l
      rw [q2]
    · show (false || (backToKw pos (keywordEach r env)).any (·.1.isNone)) = false
      rw [q3]; rfl
theorem permL_den {K : PySem.W.Frag} {C : Nat → Addr} {R : Rg} {H : Hp} {vs : List Val} {xs : List V} (d : DenL K C R H vs xs) (perm : List Nat) : DenL K C R H (permL perm vs) (permL perm xs) := by
  induction perm with
  | nil => exact rfl
  | cons i t ih =>
    unfold permL at ih ⊢
    rw [List.filterMap_cons, List.filterMap_cons]
    cases e : vs[i]? with
    | none =>
      have : xs[i]? = none := List.getElem?_eq_none (by rw [← d.length]; exact List.getElem?_eq_none_iff.mp e)
      rw [this]
      exact ih
    | some v =>
      obtain ⟨x, ex, dx⟩ := d.get e
      rw [ex]
      exact ⟨x, _, rfl, dx, ih⟩
theorem evEs_len {g : G} : ∀ {cs : List CE} {s : Env} {h h' : Hh} {vs : List Val}, (∀ c ∈ cs, starC c = false) → evEs g cs s h = .ok vs h' → vs.length = cs.length
  | [], _, _, _, _, _, e => by simp only [evEs] at e; cases e; rfl
  | c :: r, s, h, h', vs, hc, e => by
    rw [evEs_cons (hc c List.mem_cons_self)] at e
    obtain ⟨x, h2, e1, e⟩ := Res.bind_eq e
    obtain ⟨xs, h3, e2, e⟩ := Res.bind_eq e
    cases e
    rw [List.length_cons, List.length_cons, evEs_len (fun c m => hc c (List.mem_cons_of_mem _ m)) e2]
theorem callK_e {kws : List Keyword} {ces : List CE} {x : Str} {f : Nat} {ks : List Str} {perm : List Nat} {p : Pos} (hx : T.fns.lookup x = some f) (hg : isGl sc x = true) (hdb : (x == ("__debug__" : Str)) = false) (hks : kwNm kws = some ks) (hm : (f, ks, perm) ∈ T.kws) (hpm : perm ≠ []) (hl : ces.length = ks.length) (hc : ∀ c ∈ ces, starC c = false) (ha : SK T sc kws ces) :
    SE T sc (.Call (.Name x p) [] kws pos) (.callK f perm ces) := fun Z X ok => by
  refine
                          ⟨fun pins s σ H Q I h => ?_⟩
  obtain ⟨se, h0, R, v, h1, S, b0, D, e, k⟩ := h
  simp only [evE] at e
  obtain ⟨vs, h2, e1, e⟩ := Res.bind_eq e
  obtain ⟨kk, fa, fd, ps, F, hr, hmm, hk, hb, hkb⟩ := ok.fns x f hx
  obtain ⟨q1, q2, q3⟩ := kwNm_ok (env := X.env) (pos := pos) hks
  have hpl : ((backTo pos (starEach [] X.env)).any (·.1) || (backToKw pos (keywordEach kws X.env)).any (·.1.isNone)) = false := by
    rw [q3]; rfl
  refine wpAny_Call_Name_kw (ld_glob I (gl_of ok hg) hmm ?_ hdb)
  refine PySem.W.callWith_KW0 (h₀ := X.base) I.ok.mod.kin hk q1 (thn ((ha Z X ok).run pos pins s σ H _ I (more S b0 D e1 (W := fun xs H' => xs.length = ks.length ∧ spZ Z f (permL perm xs) H' Q) fun R' H' xs X' S' b' D' dx => ?_)) fun us s1 ⟨vs, H1, I1, r, q⟩ => ⟨I1.kIn, ?_⟩) hpl
  · refine ⟨by rw [← dx.length, evEs_len hc e1, hl], R', h2, permL perm vs, v, h1, S', b', permL_den dx perm, e, fun R2 H2 x2 X2 S2 d2 => k R2 H2 x2 (X'.trans X2) S2 (D'.mono X2) d2⟩
  · rw [q2]
    exact run_fnGK F hr ok.gd (hkb ks perm hm hpm) (by rw [← r.length]; exact q.1) I1 r q.2
theorem make_e {es : List Expr} {ces : List CE} {x : Str} {cl : Nat} {p : Pos} (hx : T.cls.lookup x = some cl) (hmk : cl ∈ T.mks) (hg : isGl sc x = true) (hdb : (x == ("__debug__" : Str)) = false) (hs : noStar (a :: es) = true) (ha : SA T sc (a :: es) ces) :
    SE T sc (.Call (.Name x p) (a :: es) [] pos) (.make cl ces) := fun Z X ok => by
  refine
                          ⟨fun pins s σ H Q I h => ?_⟩
  obtain ⟨se, h0, R, v, h1, S, b0, D, e, k⟩ := h
  simp only [evE] at e
  obtain ⟨vs, h2, e1, e⟩ := Res.bind_eq e
  simp only [noStar, List.all_cons, Bool.and_eq_true, Bool.not_eq_true'] at hs
  obtain ⟨hm, _, _, _, hmm⟩ := ok.mks x cl hx
  obtain ⟨kk, fa, fd, ps, sp, M, F, hr, hb, _, hsp⟩ := hmm hmk
  refine wpAny_Call_Name_kw (ld_glob I (gl_of ok hg) hm ?_ hdb)
  refine PySem.W.callWith_K (h₀ := X.base) I.ok.mod.kin M.kp (thn ((ha Z X ok).run pos pins s σ H _ I (more S b0 D e1 fun R' H' xs X' S' b' D' dx => ?_)) fun us s1 ⟨vs, H1, I1, r, q⟩ => ⟨I1.kIn, run_makeG M F hr ok.gd hb I1 r (hsp vs H1 Q q)⟩) (star1 hs.1) (any_no hs.2)
  exact ⟨R', h2, vs, v, h1, S', b', dx, e, fun R2 H2 x2 X2 S2 d2 => k R2 H2 x2 (X'.trans X2) S2 (D'.mono X2) d2⟩
/-! ### fields -/
theorem look_map (f : Str) : ∀ gs : List (Str × V), valV (gs.map fun p => (Sum.inr p.1, p.2)) (Sum.inr f : Key) = gs.lookup f
  | [] => rfl
  | (g, x) :: r => by
    by_cases h : g = f
    · subst h
      simp [valV, List.find?_cons, List.lookup_cons]
    · have h2 : (f == g) = false := beq_eq_false_iff_ne.mpr fun z => h z.symm
      have h3 : ¬ (Sum.inr g : Key) = Sum.inr f := fun z => h (Sum.inr.inj z)
      rw [List.lookup_cons, h2]
      have := look_map f r
      simpa [valV, List.find?_cons, h3] using this
theorem fld_den {Z : Sx} {R : Rg} {h : Hh} {H : Hp} {v : Val} {x : V} {cl : Nat} {fs : List (Key × Val)} (S : SimZ Z R h H) (e : fldV h v = some (cl, fs)) (d : DenZ Z R H v x) :
    ∃ (p dx : Addr) (gs : List (Str × V)), x = .ref p ∧ H p = some (.ins (Z.C cl) dx gs) ∧ DenK Z.K Z.C R H fs (gs.map fun p => (Sum.inr p.1, p.2)) := by
  unfold fldV at e
  split at e
  · cases e
    obtain ⟨p, dx, gs, e1, e2, e3, e4⟩ := d
    exact ⟨p, dx, gs, e1, e2, e4⟩
  · rename_i n
    split at e
    · rename_i cl' fs' hn
      cases e
      obtain ⟨p, r, rfl⟩ := id d
      have o := S.obj n _ p hn r
      cases ha : H p with
      | none => rw [ha] at o; exact o.elim
      | some u =>
        rw [ha] at o
        cases u <;> first | exact o.elim | skip
        obtain ⟨e1, e2⟩ := o
        subst e1
        exact ⟨p, _, _, rfl, ha, e2⟩
    · cases e
  · cases e
theorem fld_e {f : Str} (hf : f ∈ T.flds) (hb : plainBase a = true) (ha : SE T sc a ca) : SE T sc (.Attribute a f pos) (.fld ca f) := fun Z X ok => by
  refine
                          ⟨fun pins s σ H Q I h => ?_⟩
  obtain ⟨se, h0, R, v, h1, S, b0, D, e, k⟩ := h
  simp only [evE] at e
  obtain ⟨w, h2, e1, e⟩ := Res.bind_eq e
  split at e
  case h_2 => cases e
  rename_i cl fs hfl
  split at e
  case isFalse => cases e
  rename_i hcl
  refine attr_of (base_ok hb) (thn ((ha Z X ok).run pins s σ H _ I (one (W := fun x H1 => ∃ R', Ext R R' H H1 ∧ Sim Z.K Z.C Z.bs Z.g.base R' h2 H1 ∧ Z.g.base ≤ h2.length ∧ DenS Z.K Z.C R' H1 se σ ∧ Den Z.K Z.C R' H1 w x) S b0 D e1 fun R' H' x X' S' b' D' dx => ⟨R', X', S', b', D', dx⟩)) fun u s1 ⟨x, H1, I1, r1, R', X', S', b', D', dx⟩ => ?_)
  obtain ⟨p, dd, gs, rfl, hp, dk⟩ := fld_den S' hfl dx
  obtain rfl : u = Value.ref p := r1
  have ck := ok.cls cl hcl
  split at e
  · rename_i pr hpr
    obtain ⟨kk, pa, fa, fd, ps, PO, F, hr, hbb⟩ := ok.prs cl f pr hcl hpr
    refine getpropG I1 hp ck.cl PO F hr ok.gd hbb ?_
    exact ⟨R', h2, [w], v, h1, S', b', ⟨_, _, rfl, dx, rfl⟩, e, fun R2 H2 x2 X2 S2 d2 => k R2 H2 x2 (X'.trans X2) S2 (D'.mono X2) d2⟩
  · rename_i hpr
    split at e
    · cases e
    · rename_i hme
      obtain ⟨e3, rfl⟩ := opt_eq e
      obtain ⟨y, f1, f2⟩ := (dk.find (Sum.inr f)).1 v e3
      rw [look_map] at f1
      refine getattr_ok I1 hp ck.cl (ok.noat cl f hcl hf (by rw [hpr]; rfl) (by simpa using hme)) f1 fun u' s2 I2 ru => ⟨y, H1, I2, ru, ?_⟩
      exact k R' H1 y X' S' D' f2
/-! ### methods of lists and strs -/
theorem me_slot (m : Me) : Slot (meTy m) (meNm m) (meId m) := by
  cases m
  · exact PySem.F.slot_str_join
  · exact PySem.F.slot_str_split
  · exact PySem.F.slot_list_count
  · exact PySem.F.slot_list_index
  · exact PySem.F.slot_list_append
  · exact PySem.F.slot_list_extend
  · exact PySem.F.slot_list_pop
theorem me_ty (m : Me) : typeOf (.builtin (meId m)) = pure (.type "method_descriptor") := by
  cases m
  · exact PySem.F.type_str_join
  · exact PySem.F.type_str_split
  · exact PySem.F.type_list_count
  · exact PySem.F.type_list_index
  · exact PySem.F.type_list_append
  · exact PySem.F.type_list_extend
  · exact PySem.F.type_list_pop
theorem me_plain (m : Me) : PlainAttrs (meTy m) := by
  cases m <;> first | exact PySem.F.plainAttrs_str | exact PySem.F.plainAttrs_list
theorem meth_e {m : Me} {es : List Expr} {ces : List CE} {apos : Pos} (hb : plainBase a = true) (hs : noStar (b :: es) = true) (hl : (b :: es).length < 30) (hline : (apos.endLine == pos.line) = true) (ha : SE T sc a ca) (hes : SA T sc (b :: es) ces) :
    SE T sc (.Call (.Attribute a (meNm m) apos) (b :: es) [] pos) (.meth m ca ces) := fun Z X ok => by
  refine
                          ⟨fun pins s σ H Q I h => ?_⟩
  obtain ⟨se, h0, R, v, h1, S, b0, D, e, k⟩ := h
  simp only [evE] at e
  obtain ⟨w, h2, e1, e⟩ := Res.bind_eq e
  split at e
  case isFalse => cases e
  rename_i hty
  obtain ⟨vs, h3, e2, e⟩ := Res.bind_eq e
  have few := few_ok (pos := pos) (env := X.env) hs hl
  simp only [noStar, List.all_cons, Bool.and_eq_true, Bool.not_eq_true'] at hs
  refine (pe_bm (me_plain m) (me_slot m) (me_ty m) MtR.one (ha Z X ok) (hes Z X ok) (base_ok hb) few hline (star1 hs.1) (any_no hs.2)).run pins _ σ H Q I ?_
  refine one S b0 D e1 fun R' H' x X' S' b' D' dx => ?_
  refine ⟨tyOk_ok S' hty dx, more S' b' D' e2 fun R2 H2 xs X2 S2 b2 D2 d2 => ?_⟩
  obtain ⟨rr, o, q⟩ := meM_ok ok.K ok.room S2 e (dx.mono X2) d2
  exact ⟨rr, o, q Q fun H3 y X3 S3 d3 => k R2 H3 y ((X'.trans X2).trans X3) S3 (D2.mono X3) d3⟩
/-- a text's parts, in a list that is changed later -/
theorem splitM_e {apos : Pos} (hb : plainBase a = true) (hs : starred b = false) (hc : starC cb = false) (hline : (apos.endLine == pos.line) = true) (ha : SE T sc a ca) (hes : SE T sc b cb) :
    SE T sc (.Call (.Attribute a "split" apos) [b] [] pos) (.splitM ca cb) := fun Z X ok => by
  refine
                          ⟨fun pins s σ H Q I h => ?_⟩
  obtain ⟨se, h0, R, v, h1, S, b0, D, e, k⟩ := h
  simp only [evE] at e
  obtain ⟨w, h2, e1, e⟩ := Res.bind_eq e
  split at e
  case h_2 => cases e
  rename_i z
  obtain ⟨y, h3, e2, e⟩ := Res.bind_eq e
  split at e
  case h_2 => cases e
  rename_i t
  split at e
  case isFalse => cases e
  rename_i hl
  have few := few_ok (pos := pos) (env := X.env) (es := [b]) (by simp [noStar, hs]) (by simp)
  refine (pe_bm (me_plain .split) (me_slot .split) (me_ty .split) mt_split (ha Z X ok) (cons_a hs hc hes nil_a Z X ok) (base_ok hb) few hline (star1 hs) rfl).run pins _ σ H Q I ?_
  have e3 : evEs Z.g [cb] se h2 = .ok [.str t] h3 := by
    rw [evEs_cons hc, e2]
    rfl
  refine one S b0 D e1 fun R' H' x X' S' b' D' dx => ?_
  rw [show x = .str z from dx]
  refine ⟨rfl, more S' b' D' e3 fun R2 H2 xs X2 S2 b2 D2 d2 => ?_⟩
  obtain ⟨x2, ys, rfl, d3, d4⟩ := d2
  rw [show ys = [] from d4, show x2 = .str t from d3]
  refine ⟨_, _, rfl, rfl, hl.1, by rw [sz]; exact hl.2, fun p n => ?_⟩
  exact alloc_ok S2 b2 D2 e (by rw [List.length_map, sz]; exact Nat.le_trans (PyProof.Rows.split_le _ _) hl.2) (DenL.ofStrs _) n fun R3 H3 y X3 S3 D3 d3 => k R3 H3 y ((X'.trans X2).trans X3) S3 D3 d3
/-! ### places, slices -/
theorem idx_e (hn : notSlice b = true) (ha : SE T sc a ca) (hb : SE T sc b cb) : SE T sc (.Subscript a b pos) (.idx ca cb) := fun Z X ok => by
  refine
                          ⟨fun pins s σ H Q I h => ?_⟩
  obtain ⟨se, h0, R, v, h1, S, b0, D, e, k⟩ := h
  simp only [evE] at e
  obtain ⟨x, h2, e1, e⟩ := Res.bind_eq e
  obtain ⟨y, h3, e2, e⟩ := Res.bind_eq e
  obtain ⟨e3, rfl⟩ := opt_eq e
  refine (pe_ix IxR.one (ha Z X ok) (hb Z X ok) (plainIx_ok hn)).run pins _ σ H Q I ?_
  exact two S b0 D e1 e2 fun R' H' vx vy X' S' b' D' dx dy =>
    let ⟨rr, o, q⟩ := ix_ok ok.K ok.room S' e3 dx dy
    ⟨rr, o, q Q fun H2 x2 X2 S2 d2 => k R' H2 x2 (X'.trans X2) S2 (D'.mono X2) d2⟩
/-- a part of a slice -/
def trO (Z : Sx) (c : Option CE) : TO := fun σ H Q => ∃ s h R o h', Sim Z.K Z.C Z.bs Z.g.base R h H ∧ Z.g.base ≤ h.length ∧ DenS Z.K Z.C R H s σ ∧ evO Z.g c s h = .ok o h' ∧
  ∀ R' H', Ext R R' H H' → Sim Z.K Z.C Z.bs Z.g.base R' h' H' → DenS Z.K Z.C R' H' s σ → Q o H'
def SO (T : Stc) (sc : Scope) (e : Option Expr) (c : Option CE) : Prop := ∀ (Z : Sx) (X : Cx), XOk T Z X sc → PO X e (trO Z c)
theorem none_o : SO T sc none none := fun Z X ok => ⟨fun pins s σ H Q I h => by
  obtain ⟨se, h0, R, v, h1, S, b0, D, e, k⟩ := h
  cases e
  exact po_none.run pins _ σ H Q I (k R H (Ext.refl _ _) S D)⟩
theorem some_o (ha : SE T sc a ca) : SO T sc (some a) (some ca) := fun Z X ok => ⟨fun pins s σ H Q I h => by
  obtain ⟨se, h0, R, v, h1, S, b0, D, e, k⟩ := h
  simp only [evO] at e
  obtain ⟨x, h2, e1, e⟩ := Res.bind_eq e
  split at e <;> cases e
  exact (po_some (ha Z X ok)).run pins _ σ H Q I (one S b0 D e1 fun R' H' vx X' S' b' D' dx => ⟨_, dx, k R' H' X' S' D'⟩)⟩
theorem slice_e {lo hi : Option Expr} {cl ch : Option CE} {p2 : Pos} (ha : SE T sc a ca) (hl : SO T sc lo cl) (hh : SO T sc hi ch) : SE T sc (.Subscript a (.Slice lo hi none p2) pos) (.slice ca cl ch) := fun Z X ok => by
  refine
                          ⟨fun pins s σ H Q I h => ?_⟩
  obtain ⟨se, h0, R, v, h1, S, b0, D, e, k⟩ := h
  simp only [evE] at e
  obtain ⟨x, h2, e1, e⟩ := Res.bind_eq e
  obtain ⟨l, h3, e2, e⟩ := Res.bind_eq e
  obtain ⟨u, h4, e3, e⟩ := Res.bind_eq e
  obtain ⟨e4, rfl⟩ := opt_eq e
  refine (pe_slice SlR.one (ha Z X ok) (hl Z X ok) (hh Z X ok)).run pins _ σ H Q I ?_
  refine one S b0 D e1 fun R' H' vx X' S' b' D' dx => ⟨se, h2, R', l, h3, S', b', D', e2, fun R2 H2 X2 S2 D2 => ?_⟩
  have b2 := base_of X2 S' S2 b'
  refine ⟨se, h3, R2, u, _, S2, b2, D2, e3, fun R3 H3 X3 S3 D3 => ?_⟩
  obtain ⟨rr, o, q⟩ := sl_ok ok.K S3 e4 ((dx.mono X2).mono X3)
  exact ⟨rr, o, q Q fun H4 x4 X4 S4 d4 => k R3 H4 x4 (((X'.trans X2).trans X3).trans X4) S4 (D3.mono X4) d4⟩
end
end Co
end

section
set_option linter.all false
set_option maxRecDepth 100000
set_option autoImplicit false
/-! Cs: sorted(set(..)) of a list of ints. -/
namespace Co
open PySem PySem.Spec
                        PyProof.Rows L2
/-- a set as it is made -/
abbrev set0 (w : World) : Obj := { cls := .type "set", dict := none, data := .set #[] 0 (.fresh 0 0 (!w.params.followText "set-order")) }
section
variable {P : Program} {w : World} {A : Around}
                        {E : Value → Shared → Prop} {s : Shared}
/-- what stands when the set of a list of ints is full -/
def Full (w : World) (ns : List Int) (s : Shared) (s2 : Shared) : Prop := ∃ h' tk c, s2 = { s with heap := h', toks := tk } ∧ SetR w h' s.heap.objs.size (fun j => decide (j ∈ ns)) c ∧ c ≤ ns.length ∧ ∀ b o, s.heap.get? b = some o → h'.get? b = some o
theorem set_fill {l : Addr} {items : Array Value} {ns : List Int} (h0 : A.handled = none) (hl : s.heap.IsList l items) (hi : IntsAre items.toList ns) (hb : ns.length + 1 < scanBound) :
    wpAny (model P w) A (Builtin.«set.__init__» ⟨[.ref s.heap.objs.size, .ref l], []⟩) (fun fl s2 => fl = .done (.ret .none) ∧ Full w ns s s2) E { s with heap := s.heap.push (set0 w) } := by
  have len : items.size = ns.length := by have q := hi.length; rwa [Array.length_toList] at q
  have hpush : ∀ b o, s.heap.get? b = some o → (s.heap.push (set0 w)).get? b = some o := fun b o e => Heap.get?_push_of_some _ e
  have hset : (s.heap.push (set0 w)).get? s.heap.objs.size = some (set0 w) := Heap.get?_push_size _ rfl
  have hset' := hset
  have l1 : (s.heap.push (set0 w)).IsList l items := hl.push _
  obtain ⟨ol, gl, cl, nl, dl⟩ := hl
  obtain ⟨c0, d0, a0, t0⟩ := ol
  simp only at cl dl
  subst cl dl
  have gl1 := hpush _ _ gl
  have ll := Heap.lt_size gl
  have ne1 := F.sub_list_set
  have ne2 := F.sub_list_frozenset
  have ne3 : (Value.type "list" == Value.type "dict") = false := by decide
  have sz : (s.heap.push (set0 w)).objs.size = s.heap.objs.size + 1 := Heap.size_push ..
  unfold Builtin.«set.__init__»
                          noKeywords Builtin.Frozenset.updateFrom
  generalize hPI : pyIter = PI
  wp_walk
  subst hPI
  refine wpAny_pyIter_list l1 ?_
  refine wpAny_bind
                          (wpAny_runValue ?_)
  have far : l ≠ (s.heap.push (set0 w)).objs.size := by rw [sz]; exact Nat.ne_of_lt (Nat.lt_succ_of_lt ll)
  have out : s.heap.objs.size ∉ [(s.heap.push (set0 w)).objs.size, l] := by
    intro m
    rcases List.mem_cons.mp m with e | m
    · rw [sz] at e
      exact Nat.ne_of_lt (Nat.lt_succ_self _) e
    · exact Nat.ne_of_lt ll (List.mem_singleton.mp m).symm
  have val : ∀ (i : Nat) (v : Value), items[i]? = some v → ∃ k t, ns[i]? = some k ∧ v = .int k t := fun i v hv => by
    have hi2 : i < ns.length := by rw [← len]; exact (Array.getElem?_eq_some_iff.mp hv).1
    obtain ⟨t, e⟩ := PyProof.Rows.IntsAre.int_at hi i v (by rw [Array.getElem?_toList]; exact hv)
    refine ⟨ns[i], t, List.getElem?_eq_getElem hi2, e.trans ?_⟩
    rw [List.getD_eq_getElem?_getD, List.getElem?_eq_getElem hi2] <;> rfl
  refine set_update_ints ((Walks.list (A := A.in1) (by simp [h0]) _ l far items).toS) s.heap.objs.size out ns len hb val items.size 0 _ (by omega) (Nat.zero_le _) ⟨⟨_, Heap.get?_push_size _ rfl, rfl, rfl⟩, l1.push _⟩
    ⟨0, Nat.le_refl 0, setR_new_at (Heap.get?_push_of_some _ hset)⟩ fun s' c hm hc hS => ?_
  obtain ⟨h', g2, d2, tk, o2⟩ := s'
  obtain rfl : g2 = s.gens := hm.gens
  obtain rfl : d2 = s.drawn := hm.drawn
  obtain rfl : o2 = s.os := hm.os
  show wpAny _ _ _ _ _ _
  refine wpAny_pure ?_
  show wpAny _ _
                          (ret Value.none) _ _ _
  refine wpAny_pure ⟨rfl, h', tk, c, rfl, hS, by rw [← len]; exact hc, fun b o e => ?_⟩
  have hb0 := Heap.lt_size e
  refine hm.heap b o (fun m => ?_) (Heap.get?_push_of_some _ (hpush b o e))
  rcases List.mem_cons.mp m with q | m
  · exact Nat.ne_of_lt hb0 q
  · have z := List.mem_singleton.mp m
    rw [sz] at z
    exact Nat.ne_of_lt (Nat.lt_succ_of_lt hb0) z
/-- set(l) -/
theorem call_setL {l : Addr} {items : Array Value} {ns : List Int} {Q : Value → Shared → Prop} (h0 : A.handled = none) (hl : s.heap.IsList l items) (hi : IntsAre items.toList ns) (hb : ns.length + 1 < scanBound) (q : ∀ s2, Full w ns s s2 → Q (.ref s.heap.objs.size) s2) :
    wpAny (model P w) A (call
                            (.type "set") [.ref l]) Q E s := by
  obtain ⟨_, _, order⟩ := F.called_set.mro
  have made := F.called_set.made
  have below := F.called_set.sub
  refine wpAny_call
                          (codeAny_of_tree ?_)
  show wpAny _ _ (callAny
                          (.type "set") _) _ _ _
  refine wpAny_pure ⟨Code.quiet_builtin _
                          (by decide +kernel), codeAny_builtin F.entry_type_call ?_⟩
  rw [Around.under_plain
                          (weight_type_call_type "set" [.ref l] []) rfl]
  have k1 := F.called_set.notType
  have k2 := F.called_set.canCreate
  have k3 := F.typeCall_set_1 (.ref l)
  repeat (any_goals
                          (first | assumption | wp_step))
  refine codeAny_mono (code_set_led1 (.ref l) (E := E) (Q₁ := fun v s1 => v = .ref s.heap.objs.size ∧ s1 = { s with heap := s.heap.push (set0 w) }) ⟨rfl, rfl⟩) fun r s1 hr => ?_
  cases r with
  | error e => exact hr
  | ok fl =>
    cases fl with
    | next => exact hr.elim
    | brk => exact hr.elim
    | cont => exact hr.elim
    | ret v =>
      obtain ⟨rfl, rfl⟩ := hr
      have ty : Shared.TypeIs { s with heap := s.heap.push (set0 w) } (.ref s.heap.objs.size) "set" := ⟨_, Heap.get?_push_size _ rfl, rfl⟩
      have k4 := F.called_set.init.lookup
      have k5 := F.called_set.init.bind (.ref s.heap.objs.size)
      repeat (any_goals
                              (first | assumption | wp_step))
      refine codeAny_mono (codeAny_call_builtin (R := wants (fun r s2 => r = .none ∧ Full w ns s s2) E) F.called_set.init.plain F.entry_set_init (check_set_init_1 ty ?_)) fun r2 s2 hr2 => ?_
      · refine wpAny_mono (set_fill h0 hl hi hb) (fun fl s2 ⟨e, f⟩ => ?_) fun _ _ e => e
        subst e
        exact ⟨rfl, f⟩
      · cases r2 with
        | error e => exact hr2
        | ok fl2 =>
          cases fl2 with
          | next => exact hr2.elim
          | brk => exact hr2.elim
          | cont => exact hr2.elim
          | ret r =>
            obtain ⟨rfl, full⟩ := hr2
            repeat (any_goals
                                    (first | assumption | wp_step))
            exact q _ full
end
theorem nodupI_mem (x : Int) : ∀ l : List Int, x ∈ nodupI l ↔ x ∈ l
  | [] => Iff.rfl
  | y :: r => by
    unfold nodupI
    split
    · rename_i h
      rw [nodupI_mem x r, List.mem_cons]
      constructor
      · exact .inr
      · rintro (e | h2)
        · rw [e]; exact of_decide_eq_true h
        · exact h2
    · rw [List.mem_cons, List.mem_cons, nodupI_mem x r]
theorem nodupI_nd : ∀ l : List Int, (nodupI l).Nodup
  | [] => List.nodup_nil
  | y :: r => by
    unfold nodupI
    split
    · exact nodupI_nd r
    · rename_i h
      refine List.nodup_cons.mpr ⟨fun m => h (decide_eq_true ((nodupI_mem y r).mp m)), nodupI_nd r⟩
theorem set_size {w : World} {h : Heap} {a : Addr} {ns : List Int} {c : Nat} (R : SetR w h a (fun j => decide (j ∈ ns)) c) : c = (nodupI ns).length := by
  obtain ⟨o, es, ep, t, _, _, _, _, nd, mem, _, _, sz, _⟩ := R
  have p : (es.toList.map L2.keyOf).Perm (nodupI ns) := (List.perm_ext_iff_of_nodup nd (nodupI_nd ns)).mpr fun k => by
    rw [← mem k, decide_eq_true_eq, nodupI_mem]
  have := p.length_eq
  rw [List.length_map, Array.length_toList, sz] at this
  exact this
def rSetL (K : PySem.W.Frag) (w : World) : List V → Hp → VK → Prop := fun vs H Q => ∃ (l : Addr) (ns : List Int), vs = [V.ref l] ∧ SqL K H l (ns.map V.int) ∧ ns.length ≤ 4000 ∧ ∀ p, H p = none → Q (.ref p) (upd H p (SetO w p (fun j => decide (j ∈ ns)) (nodupI ns).length))
theorem ints_of {ns : List Int} : ∀ {us : List Value}, Vals (ns.map V.int) us → IntsAre us ns := fun {us} r => by
  induction ns generalizing us with
  | nil => cases r; exact .nil
  | cons n ns ih =>
    cases r with
    | cons r t =>
      obtain ⟨k, rfl⟩ := r
      exact .cons n k (ih t)
theorem cr_setL {X : Cx} (hc : X.calm = true) : CallR X (.type "set") (rSetL X.K X.w) := by
  intro pins s σ
                          H vs us Q I r h
  obtain ⟨l, ns, rfl, hq, hl, q⟩ := h
  rw [Vals.ref1 r]
  obtain ⟨its, rv, pl, _⟩ := I.list hq
  refine call_setL (I.ok.hd hc) pl.isList (ns := ns) (by simpa using ints_of rv) (by unfold scanBound; omega) fun s2 full => ?_
  obtain ⟨h', tk, c, rfl, R, _, k⟩ := full
  have e := set_size R
  subst e
  exact ⟨.ref _, _, I.laid (t' := tk) k (Nat.le_refl _) (setO_new R), rfl, q _ (I.hok.fresh (Nat.le_refl _))⟩
theorem sortI_set {ns ms : List Int} (s : ms.Pairwise (· < ·)) (m : ∀ k : Int, k ∈ ms ↔ decide (k ∈ ns) = true) : ms = sortI (nodupI ns) := by
  refine sortI_the ?_ (s.imp fun h => by omega)
  refine (List.perm_ext_iff_of_nodup (s.imp fun h => by omega) (nodupI_nd ns)).mpr fun k => ?_
  rw [m k, decide_eq_true_eq, nodupI_mem]
section
variable {T : Stc} {sc : Scope} {a : Expr} {ca : CE} {pos : Pos}
theorem sset_e {p p2 q : Pos} (hg : isGl sc "sorted" = true) (hm : ("sorted" : Str) ∈ T.blt) (hg2 : isGl sc "set" = true) (hm2 : ("set" : Str) ∈ T.blt) (hs : starred a = false) (hc : starC ca = false) (ha : SE T sc a ca) :
    SE T sc (.Call (.Name "sorted" p) [.Call (.Name "set" p2) [a] [] q] [] pos) (.callB .sset [ca]) := fun Z X ok => by
  refine
                          ⟨fun pins s σ H Q I h => ?_⟩
  obtain ⟨se, h0, R, v, h1, S, b0, D, e, k⟩ := h
  simp only [evE] at e
  obtain ⟨vs, h2, e1, e⟩ := Res.bind_eq e
  obtain ⟨e3, rfl⟩ := opt_eq e
  have inner := pe_callTy (pos := q) (p := p2) (cr_setL ok.calm) (gl_of ok hg2) (ok.blt _ hm2) (by decide +kernel) (cons_a hs hc ha nil_a Z X ok) (by decide) (by decide) (star1 hs) rfl
  refine (pe_callB (cr_sortedSet ok.calm) (gl_of ok hg) (ok.blt _ hm) (by decide +kernel) (pa_cons inner pa_nil (star1 rfl)) (by decide) (by decide) (star1 rfl) rfl).run pins _ σ H Q I ?_
  refine more S b0 D e1 fun R' H' xs X' S' b' D' dx => ?_
  generalize ea : asL vs h1 = as at e3
  obtain ⟨zs, rfl⟩ : ∃ zs, as = [.lst zs] := by
    cases as with
    | nil => cases e3
    | cons w r => cases r with
      | nil => cases w <;> first | exact ⟨_, rfl⟩ | cases e3
      | cons w2 r => cases w <;> cases e3
  obtain ⟨l, e4, e5⟩ := Option.bind_eq_some_iff.mp (show (intsV zs).bind (fun l => if l.length ≤ 4000 ∧ (nodupI l).length < 64 then some (Val.lst ((sortI (nodupI l)).map .int)) else none) = some v from e3)
  split at e5 <;> cases e5
  have c : l.length ≤ 4000 ∧ (nodupI l).length < 64 := by assumption
  obtain ⟨v1, y, rfl, rfl, dv, ev⟩ := asL_one dx ea
  obtain ⟨p3, us, rfl, t, lz, dl⟩ := dv.rd S' ev
  refine ⟨p3, l, rfl, .inl (.inl (by rw [t, dl.ints e4])), c.1, fun p4 n4 => ?_⟩
  refine ⟨p4, _, _, rfl, upd_same, c.2, fun ms r pw mem len nr => ?_⟩
  have X1 : Ext R' R' H' (upd H' p4 (SetO X.w p4 (fun j => decide (j ∈ l)) (nodupI l).length)) := Ext.new n4
  have S1 := S'.new (o := SetO X.w p4 (fun j => decide (j ∈ l)) (nodupI l).length) n4
  have k1 : Aft Z R' h1 (upd H' p4 (SetO X.w p4 (fun j => decide (j ∈ l)) (nodupI l).length)) (.lst ((sortI (nodupI l)).map .int)) Q := fun H2 x X2 S2 d2 => k R' H2 x (X'.trans (X1.trans X2)) S2 (D'.mono (X1.trans X2)) d2
  rw [sortI_set pw mem]
  refine k1.lst S1 nr ?_ (DenL.ofInts _)
  rw [List.length_map, (sortI_perm _).length_eq, sz]
  have := c.2
  show _ ≤ 16777216
  omega
end
end Co
end

section
set_option linter.all false
set_option maxRecDepth 100000
set_option autoImplicit false
/-! Co10: isinstance, reversed slices, the empty dict. -/
namespace Co
open PySem PySem.Spec
                        PyProof.Rows L2
/-- a built-in type's name -/
def tyOf : IsT → Option String
  | .int => some "int"
  | .bool => some "bool"
  | .str => some "str"
  | .tuple => some "tuple"
  | .list => some "list"
  | .dict => some "dict"
  | .cls _ => none
def subT (t : String) (q : IsT) : Bool := match q with
  | .int => t == "int" || t == "bool"
  | .bool => t == "bool"
  | .str => t == "str"
  | .tuple => t == "tuple"
  | .list => t == "list"
  | .dict => t == "dict"
  | .cls _ => false
theorem kb_all : (tyNames.all fun t => [IsT.int, .bool, .str, .tuple, .list, .dict].all fun q => match tyOf q with | some nm => decide (kitB t nm = some (subT t q)) | none => true) = true := by decide +kernel
theorem kb {t : String} (ht : t ∈ tyNames) {q : IsT} {nm : String} (hn : tyOf q = some nm) : kitB t nm = some (subT t q) := by
  have h := List.all_eq_true.mp kb_all t ht
  have h2 := List.all_eq_true.mp h q (by cases q <;> simp [tyOf] at hn ⊢)
  rw [hn] at h2
  simpa using h2
section
variable {T : Stc} {sc : Scope} {a b c : Expr} {ca cb cc : CE} {pos : Pos}
/-- the type of a value: a built-in, or an own class -/
theorem tyx {Z : Sx} {X : Cx} {R : Rg} {h : Hh} {H : Hp} {v : Val} {x : V} (ok : XOk T Z X sc) (S : SimZ Z R h H) (hk : kindOk Z.g.ncl h v = true) (d : DenZ Z R H v x) :
    (∃ t ∈ tyNames, TyX X.K H x (.type t) ∧ ∀ q : IsT, isIns h q v = subT t q) ∨
    ∃ cl, cl < Z.g.ncl ∧ TyX X.K H x (.ref (Z.C cl)) ∧ ∀ q, isIns h q v = (match q with | .cls d => decide (cl = d) | _ => false) := by
  have hK := ok.K
  have ins : ∀ {cl : Nat} {p dx : Addr} {gs : List (Str × V)}, cl < Z.g.ncl → H p = some (.ins (Z.C cl) dx gs) → TyX X.K H (.ref p) (.ref (Z.C cl)) := fun hc hp =>
    let k := ok.cls _ hc
    .base (.ins hp k.cl k.ha k.hn k.htk k.hm)
  cases v with
  | non => rw [show x = _ from d]; exact .inl ⟨"NoneType", by simp [tyNames], .base .non, fun q => by cases q <;> rfl⟩
  | bl i => rw [show x = _ from d]; exact .inl ⟨"bool", by simp [tyNames], .base (.bl i), fun q => by cases q <;> rfl⟩
  | int i => rw [show x = _ from d]; exact .inl ⟨"int", by simp [tyNames], .base (.int i), fun q => by cases q <;> rfl⟩
  | str i => rw [show x = _ from d]; exact .inl ⟨"str", by simp [tyNames], .base (.str i), fun q => by cases q <;> rfl⟩
  | tup vs =>
    obtain ⟨p, xs, rfl, t, dl⟩ := d
    refine .inl ⟨"tuple", by simp [tyNames], ?_, fun q => by cases q <;> rfl⟩
    rcases t.2 with ⟨(t | ⟨u, t⟩), _⟩ | ⟨o, its, n, h1, h2, _⟩
    · exact .base (.tup t)
    · exact .fTuple t
    · exact .kTuple (by rw [← hK]; exact h1) h2
  | lst vs =>
    obtain ⟨p, xs, rfl, t, dl⟩ := d
    exact .inl ⟨"list", by simp [tyNames], .base (.lst t.2.1), fun q => by cases q <;> rfl⟩
  | ro vs =>
    obtain ⟨p, xs, rfl, t, dl⟩ := d
    refine .inl ⟨"list", by simp [tyNames], ?_, fun q => by cases q <;> rfl⟩
    rcases t.2 with ⟨(t | ⟨u, t⟩), _⟩ | ⟨o, its, n, h1, h2, _⟩
    · exact .base (.lst t)
    · exact .base (.frz t)
    · exact .kList (by rw [← hK]; exact h1) h2
  | dct vs =>
    obtain ⟨p, xs, rfl, t, n, dl⟩ := d
    exact .inl ⟨"dict", by simp [tyNames], .base (.dK t), fun q => by cases q <;> rfl⟩
  | ins cl fs =>
    obtain ⟨p, dx, gs, rfl, t, n, dl⟩ := d
    have hc : cl < Z.g.ncl := by simpa [kindOk] using hk
    exact .inr ⟨cl, hc, ins hc t, fun q => by cases q <;> rfl⟩
  | ref n =>
    obtain ⟨p, r, rfl⟩ := id d
    obtain ⟨o, ho, od⟩ := S.there r
    cases hp : H p with
    | none => rw [hp] at od; cases o <;> exact od.elim
    | some u =>
      rw [hp] at od
      cases o with
      | lst vs =>
        cases u <;> first | exact od.elim | skip
        refine .inl ⟨"list", by simp [tyNames], .base (.lst hp), fun q => ?_⟩
        cases q <;> simp [isIns, ho, subT]
      | ins cl fs =>
        cases u <;> first | exact od.elim | skip
        obtain ⟨e1, e2⟩ := od
        subst e1
        have hc : cl < Z.g.ncl := by simpa [kindOk, ho] using hk
        refine .inr ⟨cl, hc, ins hc hp, fun q => ?_⟩
        cases q <;> simp [isIns, ho]
theorem boot_isinstance : bootBuiltins "isinstance" = some
                        (.builtin "isinstance") := by decide +kernel
theorem isB_e {q : IsT} {nm : String} {x : Str} {p p2 : Pos} (hn : tyOf q = some nm) (hx : bootBuiltins x = some (.type nm)) (hg : isGl sc "isinstance" = true) (hm : ("isinstance" : Str) ∈ T.blt) (hg2 : isGl sc x = true) (hm2 : x ∈ T.blt) (hxn : x ≠ "__name__") (hdb : (x == ("__debug__" : Str)) = false)
    (hs : starred a = false) (ha : SE T sc a ca) : SE T sc (.Call (.Name "isinstance" p) [a, .Name x p2] [] pos) (.isI q ca) := fun Z X ok => by
  refine
                          ⟨fun pins s σ H Q I h => ?_⟩
  obtain ⟨se, h0, R, v, h1, S, b0, D, e, k⟩ := h
  simp only [evE] at e
  obtain ⟨w, h2, e1, e⟩ := Res.bind_eq e
  split at e <;> cases e
  rename_i hk
  have pa : PA X [a, .Name x p2] (tCons (trE Z ca) (tCons (tC (.ty nm)) tNil)) :=
    pa_cons (ha Z X ok) (pa_cons (pe_bltn (gl_of ok hg2) (ok.blt _ hm2) hx rfl hxn hdb) pa_nil rfl) (star1 hs)
  refine (pe_callB call_isi (gl_of ok hg) (ok.blt _ hm) boot_isinstance pa (by decide) (by decide) (star1 hs) rfl).run pins _ σ H Q I ?_
  refine one S b0 D e1 fun R' H' y X' S' b' D' dy => ?_
  rcases tyx ok S' hk dy with ⟨t, ht, ty, hi⟩ | ⟨cl, hc, ty, hi⟩
  · exact ⟨y, _, _, _, _, rfl, .ty nm, ty, (kit_ty (kb ht hn)).trans (by rw [hi]), k R' H' _ X' S' D' rfl⟩
  · refine ⟨y, _, _, _, false, rfl, .ty nm, ty, ok.isb cl hc nm ?_, ?_⟩
    · cases q <;> simp [tyOf] at hn <;> subst hn <;> simp [tyNames]
    · refine k R' H' _ X' S' D' ?_
      rw [hi]
      cases q <;> first | rfl | cases hn
theorem isC_e {cl : Nat} {x : Str} {p p2 : Pos} (hx : T.cls.lookup x = some cl) (hg : isGl sc "isinstance" = true) (hm : ("isinstance" : Str) ∈ T.blt) (hg2 : isGl sc x = true) (hdb : (x == ("__debug__" : Str)) = false)
    (hs : starred a = false) (ha : SE T sc a ca) : SE T sc (.Call (.Name "isinstance" p) [a, .Name x p2] [] pos) (.isI (.cls cl) ca) := fun Z X ok => by
  refine
                          ⟨fun pins s σ H Q I h => ?_⟩
  obtain ⟨se, h0, R, v, h1, S, b0, D, e, k⟩ := h
  simp only [evE] at e
  obtain ⟨w, h2, e1, e⟩ := Res.bind_eq e
  split at e <;> cases e
  rename_i hk
  obtain ⟨hmg, hcl, k1, k2, _⟩ := ok.mks x cl hx
  have pa : PA X [a, .Name x p2] (tCons (trE Z ca) (tCons (tC (.ref (Z.C cl))) tNil)) :=
    pa_cons (ha Z X ok) (pa_cons (pe_glob (gl_of ok hg2) hmg rfl hdb) pa_nil rfl) (star1 hs)
  refine (pe_callB call_isi (gl_of ok hg) (ok.blt _ hm) boot_isinstance pa (by decide) (by decide) (star1 hs) rfl).run pins _ σ H Q I ?_
  refine one S b0 D e1 fun R' H' y X' S' b' D' dy => ?_
  rcases tyx ok S' hk dy with ⟨t, ht, ty, hi⟩ | ⟨d, hc, ty, hi⟩
  · exact ⟨y, _, _, _, false, rfl, .own _, ty, k1 t ht, k R' H' _ X' S' D' (by rw [hi]; rfl)⟩
  · refine ⟨y, _, _, _, _, rfl, .own _, ty, k2 d hc, k R' H' _ X' S' D' ?_⟩
    rw [hi]
    rfl
/-- what stands at t[::-1] -/
theorem back_range (xs : Array Value) : ((List.range xs.size).filterMap fun (k : Nat) => xs[((xs.size : Int) - 1 + (k : Int) * -1).toNat]?).toArray = xs.toList.reverse.toArray := by
  congr 1
  have e : ∀ k ∈ List.range xs.size, xs[((xs.size : Int) - 1 + (k : Int) * -1).toNat]? = some (xs.toList.reverse.getD k .none) := fun k mk => by
    have lk := List.mem_range.mp mk
    rw [show ((xs.size : Int) - 1 + (k : Int) * -1).toNat = xs.size - 1 - k from by omega]
    rw [Array.getElem?_eq_getElem (by omega), List.getD_eq_getElem?_getD, List.getElem?_reverse (by rw [Array.length_toList]; exact lk), Array.length_toList, List.getElem?_eq_getElem (by rw [Array.length_toList]; omega)]
    rfl
  have g : ∀ (l : List Nat), (∀ k ∈ l, xs[((xs.size : Int) - 1 + (k : Int) * -1).toNat]? = some (xs.toList.reverse.getD k .none)) → (l.filterMap fun (k : Nat) => xs[((xs.size : Int) - 1 + (k : Int) * -1).toNat]?) = l.map fun k => xs.toList.reverse.getD k .none := fun l => by
    induction l with
    | nil => intro _; rfl
    | cons k l ih =>
      intro h
      rw [List.filterMap_cons, h k List.mem_cons_self, ih fun j mj => h j (List.mem_cons_of_mem _ mj)]
      rfl
  rw [g _ e]
  refine List.ext_getElem
                          (by simp) fun i h1 h2 => ?_
  rw [List.getElem_map, List.getElem_range,
                          List.getD_eq_getElem?_getD, List.getElem?_eq_getElem h2]
  rfl
section
variable {prog : Program}
                        {w : World} {A : Around} {E : Value → Shared → Prop} {s : Shared}
theorem tuple_back {t sl : Addr} {items : Array Value} {vl vu vs : Value} {Q : Value → Shared → Prop} (ht : IsTup s.heap t items) (hs : s.heap.IsSliceOf sl vl vu vs) (pl : IsPart vl none) (pu : IsPart vu none) (ps : IsPart vs (some (-1)))
    (h : Q (.ref s.heap.objs.size) { s with heap := s.heap.push { cls := .type "tuple", data := .seq items.toList.reverse.toArray } }) (hsz : items.size ≤ sizeLine) : wpAny (model prog w) A (getItem (.ref t) (.ref sl)) Q E s := by
  have room : sizeOk (.seq items.toList.reverse.toArray) := by
    show items.toList.reverse.toArray.size ≤ sizeLine
    simpa using hsz
  obtain
                          ⟨os, hos, hcs, hds⟩ := id hs
  have isl : s.TypeIs (.ref sl) "slice" := ⟨os, hos, hcs⟩
  unfold getItem
  try with_reducible
                          refine wpAny_holding ?_
  first | refine wpAny_bind
                          (wpAny_pure ?_) | skip
  refine wpAny_bind
                          (wpAny_sequenceKey ht.typeIs (by decide) ?_)
  refine wpAny_bind (wpAny_callSpecial?_slot (name := Str.ofString "__getitem__") ht.typeIs
    PyProof.Rows.slot_tuple_getitem (wpAny_call_entry PyProof.Rows.slot_tuple_getitem
      ht.typeIs entry_tuple_getitem ?_ (args_tuple_getitem _ _)))
  show wpAny _ _ (Builtin.Tuple.tupleItemsOf
                          (.ref t) >>= _) _ _ s
  refine wpAny_bind (PyProof.Rows.tupleItemsOf_ ht ?_)
  refine wpAny_bind (wpAny_typeOf isl ?_)
  rw [if_pos (by decide)]
  have told : ∀ {R : Int × Int × Nat → Shared → Prop}, R ((items.size : Int) - 1, -1, items.size) s → wpAny (model prog w) A.in1 (Builtin.Slice.sliceApplied (.ref sl) (pure (items.size : Int))) R E s := fun {R} hR => by
    unfold Builtin.Slice.sliceApplied
                            Builtin.Slice.sliceFields
    refine wpAny_bind (wpAny_bind (wpAny_field hos hds (x := vl) rfl (wpAny_bind (wpAny_field hos hds (x := vu) rfl (wpAny_bind (wpAny_field hos hds (x := vs) rfl (wpAny_pure ?_)))))))
    refine wpAny_bind (HT.slicePart_ ps ?_)
    show wpAny _ _ (if ((-1 : Int) == 0) = true then _ else _) _ _ s
    rw [if_neg (by decide)]
    refine wpAny_bind (HT.slicePart_ pl (wpAny_bind (HT.slicePart_ pu (wpAny_bind (wpAny_pure ?_)))))
    have e1 : Builtin.Slice.sliceAdjust none none (-1) (items.size : Int) = ((items.size : Int) - 1, -1) := rfl
    show wpAny _ _ (match Builtin.Slice.sliceAdjust none none (-1) (items.size : Int) with | (lo, hi) => pure (lo, (-1 : Int), Builtin.Slice.slicePlaces lo hi (-1))) _ _ s
    rw [e1]
    have e2 : Builtin.Slice.slicePlaces ((items.size : Int) - 1) (-1) (-1) = items.size := by
      unfold
                              Builtin.Slice.slicePlaces
      rw [if_neg (by decide)]
      by_cases z : items.size = 0
      · rw [if_neg (by omega), z]; rfl
      · rw [if_pos (by omega)]
        have : ((items.size : Int) - 1 - -1 - 1) / (- -1) = (items.size : Int) - 1 := by
          rw [Int.neg_neg, Int.ediv_one]; omega
        rw [this]
        omega
    show wpAny _ _ (pure ((items.size : Int) - 1, (-1 : Int), Builtin.Slice.slicePlaces ((items.size : Int) - 1) (-1) (-1))) _ _ s
    rw [e2]
    exact wpAny_pure hR
  refine wpAny_bind (told ?_)
  have nw : ¬ ((((items.size : Int) - 1 == 0) && (-1 : Int) == 1 && items.size == items.size) = true) := by simp
  show wpAny _ _ (if (((items.size : Int) - 1 == 0) && (-1 : Int) == 1 && items.size == items.size) = true then _ else _) _ _ s
  rw [if_neg nw]
  show wpAny _ _ (Builtin.Tuple.tupleExact ((List.range items.size).filterMap fun (k : Nat) => items[((items.size : Int) - 1 + (k : Int) * -1).toNat]?).toArray >>= _) _ _ s
  rw [back_range]
  first
    | exact wpAny_bind (m := Builtin.Tuple.tupleExact _) (wpAny_newObj_type (wpAny_pure ⟨_, rfl, wpAny_pure h⟩) room)
    | exact wpAny_bind (m := Builtin.Tuple.tupleExact _) (wpAny_newObj_type (wpAny_bind (wpAny_pure (wpAny_pure ⟨_, rfl, wpAny_pure h⟩))) room)
    | exact wpAny_bind (wpAny_bind (m := Builtin.Tuple.tupleExact _) (wpAny_newObj_type (wpAny_pure (wpAny_pure ⟨_, rfl, wpAny_pure h⟩)) room))
    | exact wpAny_bind (wpAny_bind (m := Builtin.Tuple.tupleExact _) (wpAny_newObj_type (wpAny_pure ⟨_, rfl, wpAny_pure h⟩) room))
end
def tBack (K : PySem.W.Frag) (te : TE) : TE := fun σ H Q => te σ H fun x H1 => (∃ a xs, x = .ref a ∧ SqL K H1 a xs ∧ ∀ p, H1 p = none → Q (.ref p) (upd H1 p (.lst xs.reverse))) ∨ (∃ a xs, x = .ref a ∧ SqT K H1 a xs ∧ ∀ p, H1 p = none → Q (.ref p) (upd H1 p (.tup xs.reverse)))
theorem pe_back {X : Cx} {e : Expr} {te : TE} {k : Nat} {p1 p2 p3 pos : Pos} (he : PE X e te) : PE X (.Subscript e (.Slice none none (some (.UnaryOp .USub (.Constant (.int 1) k p1) p2)) p3) pos) (tBack X.K te) := by
  refine
                          ⟨fun pins s σ H Q I h => ?_⟩
  refine Subscript_ (thn (he.run pins s σ H _ I h)
                          fun v s1 ⟨x, H1, I1, r1, q1⟩ => ?_)
  obtain ⟨a, ex⟩ : ∃ a, x = .ref a := by rcases q1 with ⟨a, xs, ex, _⟩ | ⟨a, xs, ex, _⟩ <;> exact ⟨a, ex⟩
  subst ex
  cases r1
  have hst : PO X (some (.UnaryOp .USub (.Constant (.int 1) k p1) p2)) (tPart
                          (tUn (rU fun i => .int (-i)) (tC (.int 1)))) := po_some (pe_un un_neg pe_int)
  refine wpAny_Slice (thn (po_none.run pins s1 σ H1 (fun o H2 => o = none ∧ H2 = H1) I1
                          ⟨rfl, rfl⟩) fun vl s2 ⟨l, H2, I2, pl, el, e2⟩ => ?_)
  subst el e2
  refine thn (po_none.run pins s2 σ H2 (fun o H3 => o = none ∧ H3 = H2) I2
                          ⟨rfl, rfl⟩) fun vu s3 ⟨u, H3, I3, pu, eu, e3⟩ => ?_
  subst eu e3
  refine thn (hst.run pins s3 σ H3 (fun o H4 => o = some (-1) ∧ H4 = H3) I3
                          ⟨1, rfl, -1, rfl, rfl, rfl⟩) fun vs s4 ⟨o, H4, I4, ps, eo, e4⟩ => ?_
  subst eo e4
  have I5 : Inv X pins σ H4 { s4 with heap := s4.heap.push { cls := .type "slice", data := .fields #[vl, vu, vs] } } := I4.kept
                          (t' := s4.toks) fun b ob q => Heap.get?_push_of_some _ q
  show wpAny (model X.prog X.w) X.A (subscriptTail e (.Slice none none (some (.UnaryOp .USub (.Constant (.int 1) k p1) p2)) p3) (.ref a)
                          (.ref s4.heap.objs.size)) (EP X pins σ Q) X.xe { s4 with heap := s4.heap.push { cls := .type "slice", data := .fields #[vl, vu, vs] } }
  rcases q1 with ⟨a', xs, ex, hx, q⟩ | ⟨a', xs, ex, hx, q⟩
  · cases ex
    obtain
                            ⟨its, r, ht, hz⟩ := I5.list hx
    have hlen := r.length
    refine tail_any (ops := [.ref a, .ref s4.heap.objs.size]) ht.isList.typeIs
                            (PySem.slot_list_getitem.lookup) ?_ (by with_unfolding_all rfl)
    refine wpAny_getItem_list_slice ht.isList (Heap.IsSliceOf.new _ vl vu vs) pl pu ps
                            (by decide) ?_ (by rw [List.size_toArray]; omega)
    rw [PySem.W.krv_pick]
    refine ⟨.ref _, _, I5.laid (t' := s4.toks) (o := .lst xs.reverse)
                            (fun b ob q => Heap.get?_push_of_some _ q) (Nat.le_refl _) ?_, rfl, q _ (I5.hok.fresh (Nat.le_refl _))⟩
    exact
                            ⟨by rw [List.length_reverse]; exact hz, _, 0, r.reverse, Heap.get?_push_size _ rfl⟩
  · cases ex
    obtain ⟨its, r, ht, hz⟩ := I5.tuple hx
    have hlen := r.length
    refine tail_any (ops := [.ref a, .ref s4.heap.objs.size]) ht.typeIs (PyProof.Rows.slot_tuple_getitem.lookup) ?_ (by with_unfolding_all rfl)
    refine tuple_back ht (Heap.IsSliceOf.new _ vl vu vs) pl pu ps ?_ (by rw [List.size_toArray]; omega)
    refine ⟨.ref _, _, I5.laid (t' := s4.toks) (o := .tup xs.reverse) (fun b ob q => Heap.get?_push_of_some _ q) (Nat.le_refl _) ?_, rfl, q _ (I5.hok.fresh (Nat.le_refl _))⟩
    exact ⟨by rw [List.length_reverse]; exact hz, _, r.reverse, IsTup.new _ _⟩
/-- xs[::-1] -/
theorem rev_e {j : Nat} {p1 p2 p3 : Pos} (ha : SE T sc a ca) : SE T sc (.Subscript a (.Slice none none (some (.UnaryOp .USub (.Constant (.int 1) j p1) p2)) p3) pos) (.rev ca) := fun Z X ok => by
  refine
                          ⟨fun pins s σ H Q I h => ?_⟩
  obtain ⟨se, h0, R, v, h1, S, b0, D, e, k⟩ := h
  simp only [evE] at e
  obtain ⟨w, h2, e1, e⟩ := Res.bind_eq e
  split at e
  · rename_i vs hv
    cases e
    refine (pe_back (ha Z X ok)).run pins _ σ H Q I ?_
    refine one S b0 D e1 fun R' H' y X' S' b' D' dy => .inl ?_
    obtain ⟨p, ys, rfl, t, l, dl⟩ := dy.rd S' hv
    refine ⟨p, ys, rfl, .inl (.inl t), fun n hn => ?_⟩
    exact Aft.lst (Z := Z) (R := R') (h := h1) (H := H') (Q := Q) (fun H2 x X2 S2 d2 => k R' H2 x (X'.trans X2) S2 (D'.mono X2) d2) S' hn (by rw [List.length_reverse]; exact l) dl.rev
  · rename_i vs hv
    cases e
    refine (pe_back (ha Z X ok)).run pins _ σ H Q I ?_
    refine one S b0 D e1 fun R' H' y X' S' b' D' dy => .inr ?_
    rcases rd_den S' hv dy with ⟨_, _, _, z, _⟩ | ⟨dt, _⟩
    · cases z
    obtain ⟨p, ys, rfl, t, dl⟩ := dt
    refine ⟨p, ys, rfl, by rw [← ok.K]; exact t.sq, fun n hn => ?_⟩
    exact Aft.tup (Z := Z) (R := R') (h := h1) (H := H') (Q := Q) (fun H2 x X2 S2 d2 => k R' H2 x (X'.trans X2) S2 (D'.mono X2) d2) S' hn (by rw [List.length_reverse]; exact t.1) dl.rev
  · cases e
theorem dct0_e : SE T sc (.Dict [] [] pos) (.dct [] []) := fun Z X ok => by
  refine
                          ⟨fun pins s σ H Q I h => ?_⟩
  obtain ⟨se, h0, R, v, h1, S, b0, D, e, k⟩ := h
  simp only [evE, evEs, Res.bind_ok] at e
  rw [if_pos (by simp)] at e
  cases e
  refine pe_dnewK.run pins _ σ H Q I fun p n => ?_
  exact k R _ _ (Ext.new n) (S.new n) (D.mono (Ext.new n)) ⟨p, [], rfl, upd_same, S.notin n, rfl⟩
end
end Co
end

section
set_option linter.all false
set_option maxRecDepth 100000
set_option autoImplicit false
/-! Co11: what is walked. -/
namespace Co
open PySem PySem.Spec
                        PyProof.Rows L2
/-! ### zip of a list and a tuple, in any order -/
inductive Src where
  | lst (a : Addr)
  | tup (a : Addr)
def Src.at : Src → Addr
  | .lst a => a
  | .tup a => a
def Src.has (K : PySem.W.Frag) (H : Hp) : Src → List V → Prop
  | .lst a, xs => SqL K H a xs
  | .tup a, xs => SqT K H a xs
def Src.it (h : Heap) : Src → Addr → Nat → Prop
  | .lst a, i, n => h.IsListIter i a n
  | .tup a, i, n => h.IsTupleIter i a n
def Src.sq (h : Heap) : Src → Array Value → Prop
  | .lst a, xs => h.IsList a xs
  | .tup a, xs => h.IsTuple a xs
def Src.ob : Src → Obj
  | .lst l => { cls := .type "list_iterator", data := .fields #[.ref l, .int 0 0] }
  | .tup t => { cls := .type "tuple_iterator", data := .fields #[.ref t, .int 0 0] }
theorem Src.items {X : Cx} {pins : List (Addr × Obj)} {σ : L2.St} {H : Hp} {s : Shared} {r : Src} {xs : List V} (I : Inv X pins σ H s) (h : r.has X.K H xs) : ∃ its : List Value, Vals xs its ∧ r.sq s.heap its.toArray ∧ xs.length ≤ sizeLine ∧ r.at < s.heap.objs.size := by
  cases r with
  | lst a =>
    obtain ⟨its, rv, p, z⟩ := I.list h
    exact ⟨its, rv, p.isList, z, p.lt⟩
  | tup a =>
    obtain ⟨its, rv, p, z⟩ := I.tuple h
    obtain ⟨o, ho, _⟩ := id p
    exact ⟨its, rv, p, z, Heap.lt_size ho⟩
theorem Src.inj {X : Cx} {pins : List (Addr × Obj)} {σ : L2.St} {H : Hp} {s : Shared} {r : Src} {xs ys : List V} (I : Inv X pins σ H s) (h : r.has X.K H xs) (h2 : r.has X.K H ys) : xs = ys := by
  cases r with
  | lst a => exact I.list_inj h h2
  | tup a => exact I.tuple_inj h h2
theorem Src.draws {P : Program} {w : World} {A : Around} (hh : A.handled = none) (r : Src) (it : Addr) (hne : r.at ≠ it) (items : Array Value) : Draws P w A it [it, r.at] items.size (fun i v => items[i]? = some v) (fun i h => r.it h it i ∧ r.sq h items) := by
  cases r with
  | lst a => exact .list hh it a hne items
  | tup a => exact .tuple hh it a hne items
theorem Src.begins (r : Src) (items : Array Value) : Begins (.ref r.at) r.ob fun h => r.sq h items := by
  cases r with
  | lst a => exact begins_list a items
  | tup a => exact begins_tuple a items
theorem Src.it_at {r : Src} {h h' : Heap} {i : Addr} {n : Nat} (st : r.it h i n) (k : ∀ o, h.get? i = some o → h'.get? i = some o) : r.it h' i n := by
  cases r with
  | lst a => exact Heap.IsListIter.at st k
  | tup a => exact Heap.IsTupleIter.at st k
theorem Src.it_ob {r : Src} {h : Heap} {i : Addr} {n : Nat} (st : r.it h i n) : ∃ o, h.get? i = some o ∧ ∀ v, o.data ≠ .cell v := by
  cases r <;> (obtain ⟨o, e, c, d⟩ := st; exact ⟨o, e, fun v q => by rw [d] at q; cases q⟩)
theorem Src.it_new {r : Src} {h : Heap} {i : Addr} (e : h.get? i = some r.ob) : r.it h i 0 := by
  cases r <;> exact ⟨_, e, rfl, rfl⟩
/-- the sequences at the two sources, the items in new pairs -/
def ItZ (K : PySem.W.Frag) (r q : Src) : It :=
  ⟨fun i H => ∃ (xs ys : List V) (x y : V), r.has K H xs ∧ q.has K H ys ∧ xs[i]? = some x ∧ ys[i]? = some y,
    fun i H v H' => ∃ T x y, v = .ref T ∧ H T = none ∧ H' = upd H T (.tup [x, y]) ∧ (∀ xs, r.has K H xs → xs[i]? = some x) ∧ ∀ ys, q.has K H ys → ys[i]? = some y,
    fun i H => ∃ xs ys : List V, r.has K H xs ∧ q.has K H ys ∧ i ≤ xs.length ∧ i ≤ ys.length ∧ (i = xs.length ∨ i = ys.length)⟩
theorem turn_Z {P : Program} {w : World} {K : PySem.W.Frag} {elts : List Expr} {kk : Nat} {tpos : Pos} {r q : Src} {z TI TO i1 i2 : Addr} (D : ZipSep2 z TI TO i1 i2 [i1, r.at] [i2, q.at]) (n1 : r.at ≠ i1) (n2 : q.at ≠ i2) :
    Turn P w K (.Tuple elts kk tpos) (ItZ K r q) [z, TI, TO, i1, i2] z (fun i h => IsZip h z TI TO .none ∧ IsTupOf2 h TI (.ref i1) (.ref i2) ∧ (∃ x y, IsTupOf2 h TO x y) ∧ r.it h i1 i ∧ q.it h i2 i) where
  mem := by simp
  obj := fun i h st c hc => by
    obtain ⟨hz, hTI,
                            ⟨x, y, hTO⟩, h1, h2⟩ := st
    have e' : c = z ∨ c = TI ∨ c = TO ∨
                            c = i1 ∨ c = i2 := by simpa using hc
    rcases e' with e | e | e | e | e <;> rw [e]
    · exact ⟨_, hz, fun v q => nomatch q⟩
    · exact ⟨_, hTI, fun v q => nomatch q⟩
    · exact ⟨_, hTO, fun v q => nomatch q⟩
    · exact Src.it_ob h1
    · exact Src.it_ob h2
  keep := fun i h h' st k => by
    obtain ⟨hz, hTI,
                            ⟨x, y, hTO⟩, h1, h2⟩ := st
    exact ⟨k z (by simp) _ hz, k TI (by simp) _ hTI, ⟨x, y, k TO (by simp) _ hTO⟩, Src.it_at h1 fun o e => k i1 (by simp) o e, Src.it_at h2 fun o e => k i2 (by simp) o e⟩
  item := by
    intro X hP hw hK hc i
                            pins s σ H E I hf st hg
    subst hP hw hK
    obtain ⟨hz, hTI,
                            ⟨x0, y0, hTO⟩, h1, h2⟩ := st
    obtain
                            ⟨xs, ys, x, y, hqx, hqy, hx, hy⟩ := hg
    obtain ⟨its, rv, p, _, l1⟩ := Src.items I hqx
    obtain ⟨its2, rv2, p2, _, l2⟩ := Src.items I hqy
    obtain
                            ⟨u, hu, ru⟩ := rv.get hx
    obtain
                            ⟨u2, hu2, ru2⟩ := rv2.get hy
    have hzl : z < s.heap.objs.size
                            := Heap.lt_size hz
    have hi1 : i < its.toArray.size := by
      have := (List.getElem?_eq_some_iff.mp hu).1
      simpa using this
    have hi2 : i < its2.toArray.size := by
      have := (List.getElem?_eq_some_iff.mp hu2).1
      simpa using this
    have hh : X.A.in1.handled = none := I.ok.hd hc
    refine wpAny_pyNext_zipD2_item D (Src.draws (P := X.prog) (w := X.w) hh r i1 n1 its.toArray) (Src.draws (P := X.prog) (w := X.w) hh q i2 n2 its2.toArray) hz hTI hTO ⟨h1, p⟩ ⟨h2, p2⟩ hi1 hi2 fun x1 x2 h' tk y1 y2 b1 b2 d1 d2 b5 hsz hk => ?_
    have ex1 : x1 = u := by
      have y1' : its.toArray[i]? = some x1 := y1
      rw [show its.toArray[i]? = some u by simpa using hu] at y1'
      exact (Option.some.inj y1').symm
    have ex2 : x2 = u2 := by
      have y2' : its2.toArray[i]? = some x2 := y2
      rw [show its2.toArray[i]? = some u2 by simpa using hu2] at y2'
      exact (Option.some.inj y2').symm
    subst ex1 ex2
    refine ⟨_, rfl, wpAny_letOwnedTupleGo_zip (s := { s with heap := h', toks := tk }) b1 fun h'' z'' sb => ?_⟩
    have hT2 : h''.get? s.heap.objs.size = some { cls := .type "tuple", data := .seq #[x1, x2] } := (sb.2 _ (Nat.ne_of_gt hzl)).trans b5
    have new : ObjOk X.prog X.w (upd H s.heap.objs.size
                            (.tup [x, y])) h'' s.heap.objs.size (.tup [x, y]) :=
      ⟨by show 2 ≤ sizeLine; decide, [x1, x2], .cons ru (.cons ru2 .nil), ⟨_, hT2, rfl, _, rfl⟩⟩
    have I1 : Inv X pins σ (upd H s.heap.objs.size (.tup [x, y])) { s with heap := h'', toks := tk } :=
      I.turnedNew (t' := tk) (ch := [z, TI, TO, i1, i2]) (fun c o hb e => (sb.2 c (fun e' => hb (by simp [e']))).trans (hk c o (fun e' => hb (by simp [e'])) (fun e' => hb (by simp [e'])) (fun e' => hb (by simp [e'])) (fun e' => hb (by simp [e'])) e)) hf (Nat.le_refl _) new
    refine ⟨.ref s.heap.objs.size, _, I1, rfl, ⟨_, x, y, rfl, I.hok.fresh (Nat.le_refl _), rfl, fun l hl => by rw [Src.inj I hl hqx]; exact hx, fun l hl => by rw [Src.inj I hl hqy]; exact hy⟩, ⟨z'', ?_, ⟨x1, x2, ?_⟩, ?_, ?_⟩, fun c hcm => ?_⟩
    · exact (sb.2 _ D.TIz).trans
                            (hk _ _ D.TIz D.TITO D.TIi1 D.TIi2 hTI)
    · exact (sb.2 _ D.TOz).trans b2
    · exact Src.it_at d1.1 fun o e => (sb.2 _ (Ne.symm D.zi1)).trans e
    · exact Src.it_at d2.1 fun o e => (sb.2 _ (Ne.symm D.zi2)).trans e
    · have hlt : c <
                            s.heap.objs.size := by
        have e' : c = z ∨ c = TI ∨ c = TO ∨ c
                                = i1 ∨ c = i2 := by simpa using hcm
        rcases e' with e | e | e | e | e <;> rw [e]
        · exact hzl
        · exact Heap.lt_size hTI
        · exact Heap.lt_size hTO
        · obtain ⟨_, e1, _⟩ := Src.it_ob h1; exact Heap.lt_size e1
        · obtain ⟨_, e2, _⟩ := Src.it_ob h2; exact Heap.lt_size e2
      rw [upd_ne
                              (Nat.ne_of_lt hlt)]
      exact (hf c hcm).1
  done := by
    intro X hP hw hK hc i
                            pins s σ H E I hf st hg
    subst hP hw hK
    obtain ⟨hz, hTI,
                            ⟨x0, y0, hTO⟩, h1, h2⟩ := st
    obtain ⟨xs, ys, hqx, hqy, e1, e2, hend⟩ := hg
    obtain ⟨its, rv, p, _, l1⟩ := Src.items I hqx
    obtain ⟨its2, rv2, p2, _, l2⟩ := Src.items I hqy
    have g1 := rv.length
    have g2 := rv2.length
    have hh : X.A.in1.handled = none := I.ok.hd hc
    exact wpAny_pyNext_zipD2_end D (Src.draws (P := X.prog) (w := X.w) hh r i1 n1 its.toArray) (Src.draws (P := X.prog) (w := X.w) hh q i2 n2 its2.toArray) hz hTI hTO ⟨h1, p⟩ ⟨h2, p2⟩
      (by rw [List.size_toArray]; omega) (by rw [List.size_toArray]; omega) (by rw [List.size_toArray, List.size_toArray]; omega) fun h' tk hk => ⟨rfl, I.turnedL (t' := tk) (ch := [z, TI, TO, i1, i2]) (fun c o hb e =>
      hk c o (fun e' => hb (by simp [e'])) (fun e' => hb (by simp [e'])) (fun e' => hb (by simp [e'])) (fun e' => hb (by simp [e'])) e) hf⟩
  self :=
                          fun A i s Q E st h => wpAny_pyIter_zip st.1 h
/-- zip(a, b), the sources by the values -/
def srcV (K : PySem.W.Frag) (H : Hp) (x : V) (r : Src) (xs : List V) : Prop := x = .ref r.at ∧ r.has K H xs
def iZ (K : PySem.W.Frag) (ta : TA) : TI := fun σ H R => ta σ H fun vs H1 => ∃ (r q : Src) (xs ys : List V), vs = [.ref r.at, .ref q.at] ∧ r.has K H1 xs ∧ q.has K H1 ys ∧ R (ItZ K r q) H1
theorem pi_Z {X : Cx} {e e2 : Expr} {ta : TA} {p pos tpos : Pos} {elts : List Expr} {kk : Nat} (hg : Gl X "zip") (hm : X.mg "zip" = none) (ha : PA X [e, e2] ta)
    (hs : starEach [e, e2] X.env = (false, eval e X.env) :: starEach [e2] X.env) (hpl : (backTo pos (starEach [e2] X.env)).any (·.1) = false) :
    PI X (.Tuple elts kk tpos) (.Call (.Name "zip" p) [e, e2] [] pos) (iZ X.K ta) := by
  refine
                          ⟨fun pins s σ H R I h => ?_⟩
  refine Call_ (ld_blt I hg hm PyProof.Rows.boot_zip (PyProof.Rows.callWith_type1
                          (thn (ha.run pos pins s σ H _ I h) fun us s1 ⟨vs, H1, I1, r1, q1⟩ => ?_) hs hpl))
  obtain ⟨r, q, xs, ys, ex, hqx, hqy, k⟩ := q1
  subst ex
  obtain ⟨u1, u2, rfl, ra, rb⟩ := r1.two
  cases ra
  cases rb
  obtain ⟨its, rv, p1, _, la⟩ := Src.items I1 hqx
  obtain ⟨its2, rv2, p2, _, lb⟩ := Src.items I1 hqy
  refine zip_begins2 (Src.begins r its.toArray) (Src.begins q its2.toArray) p1 p2 fun h' hz hTI hTO h1 h2 hsz hk => wpAny_pyIter_zip hz ?_
  have I2 : Inv X pins σ H1 { s1 with heap := h' } := I1.kept
                          (t' := s1.toks) hk
  have D := zip_sep2 (N := s1.heap.objs.size) (fp1 := [r.at]) (fp2 := [q.at]) (fun b hb => by rw [List.mem_singleton.mp hb]; exact la) (fun b hb => by rw [List.mem_singleton.mp hb]; exact lb)
  refine ⟨s1.heap.objs.size + 4, [s1.heap.objs.size + 4, s1.heap.objs.size + 2, s1.heap.objs.size + 3, s1.heap.objs.size, s1.heap.objs.size + 1], _, _, H1, rfl, I2, turn_Z D (Nat.ne_of_lt la) (Nat.ne_of_lt (Nat.lt_succ_of_lt lb)), ⟨hz, hTI, ⟨_, _, hTO⟩, Src.it_new h1, Src.it_new h2⟩, fun c hcm => ?_, k⟩
  have e' : c = s1.heap.objs.size + 4 ∨ c = s1.heap.objs.size + 2 ∨ c = s1.heap.objs.size
                          + 3 ∨ c = s1.heap.objs.size ∨ c = s1.heap.objs.size + 1 := by simpa using hcm
  have hle :
                          s1.heap.objs.size ≤ c := by
    rcases e' with z | z | z | z | z <;> rw [z] <;> first | exact Nat.le_refl _ | exact Nat.le_add_right _ _
  exact I1.fpOk hle
                          (I1.hok.fresh hle)
/-! ### a list, a tuple, a str, by the value -/
/-- an iterator just made over a source -/
def ItS (K : PySem.W.Frag) (r : Src) : It := ⟨fun i H => ∃ xs x, r.has K H xs ∧ xs[i]? = some x, fun i H x H' => H' = H ∧ ∀ xs, r.has K H xs → xs[i]? = some x, fun i H => ∃ xs, r.has K H xs ∧ xs.length ≤ i⟩
def iAny (K : PySem.W.Frag) (tl : TE) : TI := fun σ H R => tl σ H fun x H1 => (∃ a, x = .ref a ∧ (∃ xs, SqL K H1 a xs) ∧ R (Itl K a) H1) ∨ (∃ a, x = .ref a ∧ (∃ xs, SqT K H1 a xs) ∧ R (Itt K a) H1) ∨ ∃ z, x = .str z ∧ R (Its z) H1
theorem pi_any {X : Cx} {tg l : Expr} {tl : TE} (hl : PE X l tl) : PI X tg l (iAny X.K tl) := by
  refine
                          ⟨fun pins s σ H R I h => ?_⟩
  refine thn (hl.run pins s σ H _ I h)
                          fun v s1 ⟨x, H1, I1, r1, q1⟩ => ?_
  rcases q1 with ⟨a, e, ⟨xs, hq⟩, q⟩ | ⟨a, e, ⟨xs, hq⟩, q⟩ | ⟨z, e, q⟩
  · subst e
    cases r1
    obtain
                            ⟨its, rv, p, hz⟩ := I1.list hq
    refine wpAny_pyIter_list
                            p.isList ?_
    refine ⟨s1.heap.objs.size, [s1.heap.objs.size], _, _, H1, rfl, I1.kept (t' := s1.toks)
                            fun b o e => Heap.get?_push_of_some _ e, turn_list a _, ⟨_, Heap.get?_push_size _ rfl, rfl, rfl⟩, fun b hb => ?_, q⟩
    rw [List.mem_singleton.mp hb]
    exact I1.fpOk (Nat.le_refl _)
                            (I1.hok.fresh (Nat.le_refl _))
  · subst e
    cases r1
    obtain
                            ⟨its, rv, p, hz⟩ := I1.tuple hq
    refine wpAny_pyIter_tuple
                            (show s1.heap.IsTuple a its.toArray from p) ?_
    refine ⟨s1.heap.objs.size, [s1.heap.objs.size], _, _, H1, rfl, I1.kept (t' := s1.toks)
                            fun b o e => Heap.get?_push_of_some _ e, turn_tuple a _, ⟨_, Heap.get?_push_size _ rfl, rfl, rfl⟩, fun b hb => ?_, q⟩
    rw [List.mem_singleton.mp hb]
    exact I1.fpOk (Nat.le_refl _)
                            (I1.hok.fresh (Nat.le_refl _))
  · subst e
    obtain ⟨t, rfl⟩ := r1
    cases ha : z.cps.all (· < 128)
    · exact wpAny_pyIter_wide ha (pi_one (tk := s1.toks) I1 _ (turn_str _ z t "str_iterator" (.inr rfl)) ⟨_, Heap.get?_push_size _ rfl, rfl, rfl⟩ q)
    · exact wpAny_pyIter_ascii ha (pi_one (tk := s1.toks) I1 _ (turn_str _ z t "str_ascii_iterator" (.inl rfl)) ⟨_, Heap.get?_push_size _ rfl, rfl, rfl⟩ q)
end Co
end

section
set_option linter.all false
set_option maxRecDepth 100000
set_option autoImplicit false
/-! Cz: zip(*rows). -/
namespace Co
open PySem PySem.Spec
                        PyProof.Rows L2
abbrev Rs := List (Src × Array Value)
def zObj (N n : Nat) (f0 : Value) (b : Bool) : Obj := { cls := .type "zip", data := .fields #[f0, .bool b, .bool false, .ref (N + n), .ref (N + n + 1)] }
def zRef (N n : Nat) : Array Value := ((List.range' 0 n).map fun k => Value.ref (N + k)).toArray
def zTup (a : Array Value) : Obj := { cls := .type "tuple", data := .seq a }
/-- iterator k stands at p k -/
def ZIts (N : Nat) (rs : Rs) (p : Nat → Nat) (h : Heap) : Prop := ∀ (k : Nat) (r : Src × Array Value), rs[k]? = some r → r.1.it h (N + k) (p k) ∧ r.1.sq h r.2
theorem Src.sq_at {r : Src} {h h' : Heap} {its : Array Value} (st : r.sq h its) (k : ∀ o, h.get? r.at = some o → h'.get? r.at = some o) : r.sq h' its := by
  cases r with
  | lst a => exact Heap.IsList.at st k
  | tup a => exact Heap.IsTuple.at st k
theorem ZIts.over {N : Nat} {rs : Rs} {p : Nat → Nat} {h h' : Heap} (hb : ∀ r : Src × Array Value, r ∈ rs → @LT.lt Nat _ r.1.at N) (z : ZIts N rs p h) (k : ∀ c o, c < N + rs.length → h.get? c = some o → h'.get? c = some o) : ZIts N rs p h' := by
  intro j r e
  have lt : j < rs.length := (List.getElem?_eq_some_iff.mp e).1
  have a : @LT.lt Nat _ r.1.at N := hb r (List.mem_of_getElem? e)
  exact ⟨Src.it_at (z j r e).1 fun o q => k _ o (show @LT.lt Nat _ (N + j) (N + rs.length) by omega) q, Src.sq_at (z j r e).2 fun o q => k _ o (show @LT.lt Nat _ r.1.at (N + rs.length) by omega) q⟩
/-- the iterators below k have gone on -/
def upTo (i k : Nat) : Nat → Nat := fun j => if j < k then i + 1 else i
theorem ZIts.step {N i k : Nat} {rs : Rs} {h h' : Heap} {r : Src × Array Value} (hb : ∀ r : Src × Array Value, r ∈ rs → @LT.lt Nat _ r.1.at N) (z : ZIts N rs (upTo i k) h) (hr : rs[k]? = some r) (sb : Heap.SameBut (N + k) h h') (st : r.1.it h' (N + k) (i + 1)) : ZIts N rs (upTo i (k + 1)) h' := by
  intro j q e
  have lt : j < rs.length := (List.getElem?_eq_some_iff.mp e).1
  have a : @LT.lt Nat _ q.1.at N := hb q (List.mem_of_getElem? e)
  have sq : q.1.sq h' q.2 := Src.sq_at (z j q e).2 fun o u => sb.extBut _ _ (show @Ne Nat q.1.at (N + k) by omega) u
  by_cases c : j = k
  · subst c
    rw [hr] at e; cases e
    refine ⟨?_, sq⟩
    rw [show upTo i (j + 1) j = i + 1 from if_pos (Nat.lt_succ_self _)]
    exact st
  · refine ⟨?_, sq⟩
    rw [show upTo i (k + 1) j = upTo i k j from by unfold upTo; split <;> split <;> omega]
    exact Src.it_at (z j q e).1 fun o u => sb.extBut _ _ (show @Ne Nat (N + j) (N + k) by omega) u
theorem ZIts.all {N i k : Nat} {rs : Rs} {h : Heap} (z : ZIts N rs (upTo i k) h) (e : k = rs.length) : ZIts N rs (fun _ => i + 1) h := by
  intro j q f
  have lt : j < rs.length := (List.getElem?_eq_some_iff.mp f).1
  have := z j q f
  rwa [show upTo i k j = i + 1 from if_pos (by omega)] at this
theorem ZIts.none {N i : Nat} {rs : Rs} {h : Heap} (z : ZIts N rs (fun _ => i) h) : ZIts N rs (upTo i 0) h := by
  intro j q f
  rw [show upTo i 0 j = i from if_neg (Nat.not_lt_zero _)]
  exact z j q f
/-- the loop's state, where the kept tuple is used again -/
structure Own1 (N : Nat) (rs : Rs) (i k : Nat) (b : Bool) (hp g : Heap) : Prop where
  zip : g.get? (N + rs.length + 2) = some (zObj N rs.length .ellipsis b)
  tup : ∃ a : Array Value, a.size = rs.length ∧ g.get? (N + rs.length + 1) = some (zTup a) ∧ ∀ (j : Nat) (r : Src × Array Value), j < k → rs[j]? = some r → a[j]? = r.2[i]?
  its : ZIts N rs (upTo i k) g
  size : g.objs.size = hp.objs.size
  keep : ∀ c o, (c < N ∨ N + rs.length + 2 < c ∨ c = N + rs.length) → hp.get? c = some o → g.get? c = some o
  some : ∀ (j : Nat) (r : Src × Array Value), j < k → rs[j]? = some r → i < r.2.size
/-- .. where a new tuple is made -/
structure Held1 (N : Nat) (rs : Rs) (i k : Nat) (hp g : Heap) (a : Array Value) : Prop where
  tup : a.size = k ∧ ∀ (j : Nat) (r : Src × Array Value), j < k → rs[j]? = some r → a[j]? = r.2[i]?
  its : ZIts N rs (upTo i k) g
  size : g.objs.size = hp.objs.size
  keep : ∀ c o, (c < N ∨ N + rs.length ≤ c) → hp.get? c = some o → g.get? c = some o
  some : ∀ (j : Nat) (r : Src × Array Value), j < k → rs[j]? = some r → i < r.2.size
/-- the whole of zip(..) before turn i -/
structure ZAt (N : Nat) (rs : Rs) (i : Nat) (h : Heap) : Prop where
  zip : ∃ (f0 : Value) (b : Bool), h.get? (N + rs.length + 2) = some (zObj N rs.length f0 b) ∧ (f0 = .none ∨ ∃ T : Addr, f0 = rawInt T)
  tin : h.get? (N + rs.length) = some (zTup (zRef N rs.length))
  tout : ∃ a : Array Value, a.size = rs.length ∧ h.get? (N + rs.length + 1) = some (zTup a)
  its : ZIts N rs (fun _ => i) h
/-- what a turn gives -/
def ZGive (N : Nat) (rs : Rs) (i : Nat) (s : Shared) (Q : Value → Shared → Prop) : Prop :=
  ∀ (h' : Heap) (tk : Nat) (a : Array Value), a.size = rs.length → (∀ (j : Nat) (r : Src × Array Value), rs[j]? = some r → a[j]? = r.2[i]?) → ZAt N rs (i + 1) h' → h'.get? s.heap.objs.size = some (zTup a) → h'.objs.size = s.heap.objs.size + 1 →
    (∀ c o, (c < N ∨ N + rs.length + 2 < c) → s.heap.get? c = some o → h'.get? c = some o) → Q (.ref s.heap.objs.size) { s with heap := h', toks := tk }
/-- what the end gives -/
def ZEnd (N : Nat) (rs : Rs) (s : Shared) (E : Value → Shared → Prop) : Prop :=
  ∀ (h' : Heap) (tk : Nat) (e : Addr), (∀ c o, (c < N ∨ N + rs.length + 2 < c) → s.heap.get? c = some o → h'.get? c = some o) → (∃ o, h'.get? e = some o ∧ o.cls = .type "StopIteration") → E (.ref e) { s with heap := h', toks := tk }
theorem zRef_idx (N n : Nat) : (zRef N n).toList.zipIdx = (List.range' 0 n).map fun j => (Value.ref (N + j), j) := by
  have key : ∀ (n k : Nat), (((List.range' k n).map fun j => Value.ref (N + j)).zipIdx k) = (List.range' k n).map fun j => (Value.ref (N + j), j) := by
    intro n
    induction n with
    | zero => intro k; rfl
    | succ n ih => intro k; rw [List.range'_succ, List.map_cons, List.zipIdx_cons, ih, List.map_cons]
  exact key n 0
section
variable {prog : Program} {w : World} {A : Around} {E : Value → Shared → Prop} {N i : Nat} {rs : Rs} {f0 : Value} {b : Bool} {a : Array Value}
theorem upd_tup {s : Shared} {T : Addr} {a : Array Value} {x : Value} {k : Nat} {Q : Unit → Shared → Prop} (hT : s.heap.get? T = some (zTup a)) (sz : a.size ≤ 64)
    (h : ∀ h', h'.get? T = some (zTup (a.setIfInBounds k x)) → Heap.SameBut T s.heap h' → Q () { s with heap := h' }) :
    wpAny (model prog w) A (updateSeq T
                            (·.setIfInBounds k x)) Q E s := by
  have l64 : 64 ≤ sizeLine := by decide
  refine wpAny_updateSeq hT rfl (h _ ?_ (Heap.SameBut.update ..)) (hz := by omega) (_hz' := by rw [Array.size_setIfInBounds]; omega)
  rw [Heap.get?_update_self
                          _ hT rfl]
  simp [Obj.mapSeq, zTup]
theorem free_true {s : Shared} {z TI TO : Nat} {Q : Bool → Shared → Prop} (hz : s.heap.get? z = some { cls := .type "zip", data := .fields #[f0, .bool b, .bool false, .ref TI, .ref TO] })
    (hf : f0 = .none ∨ ∃ T : Addr, f0 = rawInt T ∧ s.heap.get? T = Option.none) (h : Q true s) : wpAny (model prog w) A (Builtin.SmallTypes.ownedTupleIsFree (.ref z)) Q E s := by
  unfold
                          Builtin.SmallTypes.ownedTupleIsFree
  rcases hf with rfl | ⟨T, rfl, hT⟩
  · exact wpAny_bind (wpAny_field hz rfl (x := .none) rfl (wpAny_pure h))
  · refine wpAny_bind (wpAny_field hz rfl (x := rawInt T) rfl ?_)
    show wpAny _ _ (loadIfAlive
                            ((T : Int).toNat) >>= _) _ _ _
    rw [Int.toNat_natCast]
    refine wpAny_bind ?_
    show wpAny _ _ (.loadIfAlive T .pure) _ _ _
    intro Γ p hΓ
    rw [Sem.wp_loadIfAlive, hT]
    revert Γ p
    show wpAny _ _ (.pure Option.none) _ _ _
    refine wpAny_pure ?_
    exact wpAny_pure h
theorem zipN_owned {s : Shared} {Q : Value → Shared → Prop} (hh : A.handled = none) (hb : ∀ r : Src × Array Value, r ∈ rs → @LT.lt Nat _ r.1.at N) (ne : 0 < rs.length) (few : rs.length ≤ 64)
    (hz : s.heap.get? (N + rs.length + 2) = some (zObj N rs.length f0 b)) (hTI : s.heap.get? (N + rs.length) = some (zTup (zRef N rs.length))) (hTO : s.heap.get? (N + rs.length + 1) = some (zTup a)) (ha : a.size = rs.length)
    (st : ZIts N rs (fun _ => i) s.heap) (le : ∀ r : Src × Array Value, r ∈ rs → i ≤ r.2.size)
    (hf : f0 = .none ∨ ∃ T : Addr, f0 = rawInt T ∧ s.heap.get? T = Option.none)
    (hQ : (∀ r : Src × Array Value, r ∈ rs → i < r.2.size) → ZGive N rs i s Q) (hE : (∃ r : Src × Array Value, r ∈ rs ∧ i = r.2.size) → ZEnd N rs s E) :
    wpAny (model prog w) A (Builtin.«zip.__next__» ⟨[.ref (N + rs.length + 2)], []⟩) (fun fin s' => ∃ v, fin = .done (.ret v) ∧ Q v s') E s := by
  obtain
                          ⟨hp, g, d, tk0, os⟩ := s
  show wpAny _ _ (field (.ref (N + rs.length + 2)) 2 >>= _) _ _ _
  refine wpAny_bind (wpAny_field hz rfl
                          (x := .bool false) rfl ?_)
  show wpAny _ _ (field (.ref (N + rs.length + 2)) 3 >>= _) _ _ _
  refine wpAny_bind (wpAny_field hz rfl (x := .ref (N + rs.length)) rfl ?_)
  refine wpAny_bind
                          (wpAny_seqItems hTI rfl ?_)
  dsimp only
  have zne : (zRef N rs.length).isEmpty = false := by
    obtain ⟨m, e⟩ : ∃ m, rs.length = m + 1 := ⟨rs.length - 1, by omega⟩
    rw [e]
    simp [zRef, List.range'_succ]
  rw [zne]
  simp only [Bool.false_eq_true,
                          if_false]
  refine wpAny_bind (free_true hz hf ?_)
  simp only [if_true]
  refine wpAny_bind
                          (wpAny_rule ?_)
  refine wpAny_bind (wpAny_field hz rfl (x := .ref (N + rs.length + 1)) rfl ?_)
  refine wpAny_bind (wpAny_setField_rec hz
                          (by simp) fun g0 hz0 hs0 => ?_)
  replace hz0 : g0.get? (N + rs.length + 2) = some (zObj N rs.length .ellipsis b) := hz0
  replace hs0 : Heap.SameBut (N + rs.length + 2) hp g0 := hs0
  rw [zRef_idx]
  refine wpAny_bind (wpAny_forIn_list _ (fun l acc s1 => acc = (Option.none, ()) ∧ ∃ k, l = (List.range' k (rs.length - k)).map (fun j => (Value.ref (N + j), j)) ∧ k ≤ rs.length ∧ ∃ g1 tk, s1 = ⟨g1, g, d, tk, os⟩ ∧ Own1 N rs i k b hp g1) _ ?_ ?_ _ _ ?_)
  · rintro x rest acc s1 ⟨rfl, k, el, kn, g1, tk, rfl, O⟩
    obtain ⟨m, em⟩ : ∃ m, rs.length - k = m + 1 := by
      cases e : rs.length - k with
      | zero => rw [e] at el; cases el
      | succ m => exact ⟨m, rfl⟩
    rw [em, List.range'_succ, List.map_cons] at el
    injection el with e1 e2
    subst e1 e2
    obtain ⟨r, hr⟩ : ∃ r, rs[k]? = some r := ⟨_, List.getElem?_eq_getElem (by omega)⟩
    have rb : @LT.lt Nat _ r.1.at N := hb r (List.mem_of_getElem? hr)
    refine wpAny_bind (wpAny_onRaise ?_)
    show wpAny _ _ (Builtin.SmallTypes.nextOf (.ref (N + k)) >>= _) _ _ ⟨g1, g, d, tk, os⟩
    have D := Src.draws (P := prog) (w := w) hh r.1 (N + k) (show @Ne Nat r.1.at (N + k) by omega) r.2
    have z := O.its k r hr
    rw [show upTo i k k = i from if_neg (Nat.lt_irrefl _)] at z
    rcases Nat.lt_or_eq_of_le (le r (List.mem_of_getElem? hr)) with lt | eq
    case inr =>
      rw [eq] at z
      refine wpAny_bind (D.done ⟨g1, g, d, tk, os⟩ _ _ z fun q e hq he => ?_)
      replace hq : Heap.ExtBut (N + k) g1 q := hq
      obtain ⟨oe, hoe, hce⟩ := he
      replace hoe : q.get?
                              e = some oe := hoe
      have hzq : q.get? (N + rs.length + 2) = some (zObj N rs.length .ellipsis b) := hq _ _ (show @Ne Nat (N + rs.length + 2) (N + k) by omega) O.zip
      have hez : e ≠ N + rs.length + 2 := fun x => by rw [x, hzq] at hoe; cases hoe; simp [zObj] at hce
      refine wpAny_setField_rec (s := ⟨q, g, d, tk, os⟩) hzq (by simp) fun q' _ hq' => ?_
      replace hq' : Heap.SameBut (N + rs.length + 2) q q' := hq'
      refine hE ⟨r, List.mem_of_getElem? hr, eq⟩ q' tk e (fun c o cc x => ?_) ⟨oe, hq'.extBut _ _ hez hoe, hce⟩
      have cc : (@LT.lt Nat _ c N ∨ @LT.lt Nat _ (N + rs.length + 2) c) := cc
      exact hq'.extBut _ _ (show @Ne Nat c (N + rs.length + 2) by omega) (hq _ _ (show @Ne Nat c (N + k) by omega) (O.keep c o (by rcases cc with x | x; exact .inl x; exact .inr (.inl x)) x))
    refine wpAny_bind (D.item i _ _ _ lt z fun x1 p1 tk1 hx1 sn1 hp1 => wpAny_pure ?_)
    replace hp1 : Heap.SameBut (N + k) g1 p1 := hp1
    obtain ⟨a1, sa1, ga1, va1⟩ := O.tup
    have hU1 : p1.get? (N + rs.length + 1) = some (zTup a1) := hp1.extBut _ _ (show @Ne Nat (N + rs.length + 1) (N + k) by omega) ga1
    refine wpAny_bind (wpAny_seqItems
                            (s := ⟨p1, g, d, tk1, os⟩) hU1 rfl ?_)
    refine wpAny_bind (upd_tup (s := ⟨p1, g, d, tk1, os⟩) hU1 (by omega) fun g2 hT1 hs1 => ?_)
    refine wpAny_bind
                            (wpAny_letGo (wpAny_pure ?_))
    replace hs1 : Heap.SameBut (N + rs.length + 1) p1 g2 := hs1
    refine ⟨rfl, k + 1, by rw [show rs.length - (k + 1) = m by omega], by omega, g2, tk1, rfl, ?_⟩
    refine ⟨?_, ⟨_, by rw [Array.size_setIfInBounds]; exact sa1, hT1, fun j q lj hq => ?_⟩, ?_, by rw [hs1.1, hp1.1, O.size], fun c o cc e => ?_, fun j q lj hq => ?_⟩
    · exact hs1.extBut _ _ (show @Ne Nat (N + rs.length + 2) (N + rs.length + 1) by omega) (hp1.extBut _ _ (show @Ne Nat (N + rs.length + 2) (N + k) by omega) O.zip)
    · by_cases c : j = k
      · subst c
        rw [hr] at hq; cases hq
        rw [show r.2[i]? = some x1 from hx1]
        rw [Array.getElem?_setIfInBounds_self, if_pos (by omega)]
      · rw [Array.getElem?_setIfInBounds_ne (by omega)]
        exact va1 j q (by omega) hq
    · refine ZIts.over hb (O.its.step hb hr hp1 sn1.1) fun c o cc e => hs1.extBut _ _ ?_ e
      have cc : @LT.lt Nat _ c (N + rs.length) := cc
      show @Ne Nat c (N + rs.length + 1)
      omega
    · have cc : (@LT.lt Nat _ c N ∨ @LT.lt Nat _ (N + rs.length + 2) c ∨ @Eq Nat c (N + rs.length)) := cc
      exact hs1.extBut _ _ (show @Ne Nat c (N + rs.length + 1) by omega) (hp1.extBut _ _ (show @Ne Nat c (N + k) by omega) (O.keep c o cc e))
    · by_cases c : j = k
      · subst c
        rw [hr] at hq; cases hq
        exact lt
      · exact O.some j q (by omega) hq
  · rintro acc s1 ⟨rfl, k, el, kn, g1, tk, rfl, O⟩
    have ek : rs.length = k := by
      cases e : rs.length - k with
      | zero => omega
      | succ m => rw [e] at el; cases el
    subst ek
    obtain ⟨a1, sa1, ga1, va1⟩ := O.tup
    refine wpAny_bind (wpAny_seqItems (s := ⟨g1, g, d, tk, os⟩) ga1 rfl ?_)
    have l64 : 64 ≤ sizeLine := by decide
    refine wpAny_bind (wpAny_newTuple (hsz := by rw [Array.length_toList]; omega) ?_)
    have zlt : @LT.lt Nat _ (N + rs.length + 2) g1.objs.size := Heap.lt_size O.zip
    refine wpAny_bind ?_
    unfold
                            Builtin.SmallTypes.ownedTupleHandOut
    have hz2 : (g1.push (zTup a1)).get? (N + rs.length + 2) = some (zObj N rs.length .ellipsis b) := Heap.get?_push_of_some _ O.zip
    refine wpAny_bind (wpAny_setField_rec hz2 (by simp) fun g2 hz3 hs3 => ?_)
    replace hz3 : g2.get? (N + rs.length + 2) = some (zObj N rs.length (rawInt g1.objs.size) b) := hz3
    refine wpAny_setField_rec hz3 (by simp) fun g3 hz4 hs4 => ?_
    replace hz4 : g3.get? (N + rs.length + 2) = some (zObj N rs.length (rawInt g1.objs.size) false) := hz4
    replace hs3 : Heap.SameBut (N + rs.length + 2) (g1.push (zTup a1)) g2 := hs3
    replace hs4 : Heap.SameBut (N + rs.length + 2) g2 g3 := hs4
    have up : ∀ (c : Addr) (o : Obj), c ≠ N + rs.length + 2 → g1.get? c = some o → g3.get? c = some o := fun c o c1 e => hs4.extBut _ _ c1 (hs3.extBut _ _ c1 (Heap.get?_push_of_some _ e))
    have hsz : g1.objs.size = hp.objs.size := O.size
    have hT : g3.get? g1.objs.size = some (zTup a1) := hs4.extBut _ _ (Nat.ne_of_gt zlt) (hs3.extBut _ _ (Nat.ne_of_gt zlt) (Heap.get?_push_size _ rfl))
    have hs8 : g3.objs.size = g1.objs.size + 1 := by rw [hs4.1, hs3.1, Heap.size_push]
    refine wpAny_pure
                            ⟨_, rfl, ?_⟩
    show Q (.ref g1.objs.size) ⟨g3, g, d, tk, os⟩
    rw [hsz] at hT hs8 hz4 ⊢
    refine hQ (fun r mr => by obtain ⟨j, e⟩ := List.getElem?_of_mem mr; exact O.some j r (List.getElem?_eq_some_iff.mp e).1 e) g3 tk a1 sa1 (fun j r e => va1 j r (List.getElem?_eq_some_iff.mp e).1 e) ⟨⟨_, _, hz4, .inr ⟨_, rfl⟩⟩, ?_, ⟨a1, sa1, up _ _ (show @Ne Nat (N + rs.length + 1) (N + rs.length + 2) by omega) ga1⟩, ?_⟩ hT hs8 fun c o cc e => ?_
    · exact up _ _ (show @Ne Nat (N + rs.length) (N + rs.length + 2) by omega) (O.keep _ _ (.inr (.inr rfl)) hTI)
    · refine ZIts.over hb (O.its.all rfl) fun c o cc e => up c o ?_ e
      have cc : @LT.lt Nat _ c (N + rs.length) := cc
      show @Ne Nat c (N + rs.length + 2)
      omega
    · have cc : (@LT.lt Nat _ c N ∨ @LT.lt Nat _ (N + rs.length + 2) c) := cc
      exact up c o (show @Ne Nat c (N + rs.length + 2) by omega) (O.keep c o (by rcases cc with x | x; exact .inl x; exact .inr (.inl x)) e)
  · exact ⟨rfl, 0, by rfl, by omega, g0, tk0, rfl, hz0, ⟨a, ha, hs0.extBut _ _ (show @Ne Nat (N + rs.length + 1) (N + rs.length + 2) by omega) hTO, fun j r lj => absurd lj (Nat.not_lt_zero _)⟩, ZIts.over hb st.none fun c o cc e => hs0.extBut _ _ (by
      have cc : @LT.lt Nat _ c (N + rs.length) := cc
      show @Ne Nat c (N + rs.length + 2)
      omega) e, hs0.1, fun c o cc e => hs0.extBut _ _ (by
      have cc : (@LT.lt Nat _ c N ∨ @LT.lt Nat _ (N + rs.length + 2) c ∨ @Eq Nat c (N + rs.length)) := cc
      show @Ne Nat c (N + rs.length + 2)
      omega) e, fun j r lj => absurd lj (Nat.not_lt_zero _)⟩
theorem zipN_held {s : Shared} {T : Addr} {oT : Obj} {Q : Value → Shared → Prop} (hh : A.handled = none) (hb : ∀ r : Src × Array Value, r ∈ rs → @LT.lt Nat _ r.1.at N) (ne : 0 < rs.length) (few : rs.length ≤ 64)
    (hz : s.heap.get? (N + rs.length + 2) = some (zObj N rs.length (rawInt T) b)) (hTI : s.heap.get? (N + rs.length) = some (zTup (zRef N rs.length))) (hTO : s.heap.get? (N + rs.length + 1) = some (zTup a)) (ha : a.size = rs.length)
    (st : ZIts N rs (fun _ => i) s.heap) (le : ∀ r : Src × Array Value, r ∈ rs → i ≤ r.2.size)
    (hT : s.heap.get? T = some oT)
    (hQ : (∀ r : Src × Array Value, r ∈ rs → i < r.2.size) → ZGive N rs i s Q) (hE : (∃ r : Src × Array Value, r ∈ rs ∧ i = r.2.size) → ZEnd N rs s E) :
    wpAny (model prog w) A (Builtin.«zip.__next__» ⟨[.ref (N + rs.length + 2)], []⟩) (fun fin s' => ∃ v, fin = .done (.ret v) ∧ Q v s') E s := by
  obtain
                          ⟨hp, g, d, tk0, os⟩ := s
  show wpAny _ _ (field (.ref (N + rs.length + 2)) 2 >>= _) _ _ _
  refine wpAny_bind (wpAny_field hz rfl
                          (x := .bool false) rfl ?_)
  show wpAny _ _ (field (.ref (N + rs.length + 2)) 3 >>= _) _ _ _
  refine wpAny_bind (wpAny_field hz rfl (x := .ref (N + rs.length)) rfl ?_)
  refine wpAny_bind
                          (wpAny_seqItems hTI rfl ?_)
  dsimp only
  have zne : (zRef N rs.length).isEmpty = false := by
    obtain ⟨m, e⟩ : ∃ m, rs.length = m + 1 := ⟨rs.length - 1, by omega⟩
    rw [e]
    simp [zRef, List.range'_succ]
  rw [zne]
  simp only [Bool.false_eq_true,
                          if_false]
  refine wpAny_bind (wpAny_tupleHeld_zip hz hT fun g0 hz0 hs0 => ?_)
  replace hz0 : g0.get? (N + rs.length + 2) = some (zObj N rs.length (rawInt T) true) := hz0
  replace hs0 : Heap.SameBut (N + rs.length + 2) hp g0 := hs0
  simp only [Bool.false_eq_true,
                          if_false]
  refine wpAny_bind ?_
  rw [← Array.forIn_toList]
  refine wpAny_forIn_list _ (fun l acc s1 => acc.1 = Option.none ∧ ∃ k, l = (List.range' k (rs.length - k)).map (fun j => Value.ref (N + j)) ∧ k ≤ rs.length ∧ ∃ g1 tk, s1 = ⟨g1, g, d, tk, os⟩ ∧ Held1 N rs i k g0 g1 acc.2) _ ?_ ?_ _ _ ?_
  · rintro x rest ⟨acc0, acc⟩ s1 ⟨e0, k, el, kn, g1, tk, rfl, O⟩
    dsimp only at e0 O
    subst e0
    obtain ⟨m, em⟩ : ∃ m, rs.length - k = m + 1 := by
      cases e : rs.length - k with
      | zero => rw [e] at el; cases el
      | succ m => exact ⟨m, rfl⟩
    rw [em, List.range'_succ, List.map_cons] at el
    injection el with e1 e2
    subst e1 e2
    obtain ⟨r, hr⟩ : ∃ r, rs[k]? = some r := ⟨_, List.getElem?_eq_getElem (by omega)⟩
    have rb : @LT.lt Nat _ r.1.at N := hb r (List.mem_of_getElem? hr)
    refine wpAny_bind
                            (wpAny_holding ?_)
    show wpAny _ _ (Builtin.SmallTypes.nextOf (.ref (N + k)) >>= _) _ _ ⟨g1, g, d, tk, os⟩
    have D := Src.draws (P := prog) (w := w) hh r.1 (N + k) (show @Ne Nat r.1.at (N + k) by omega) r.2
    have z := O.its k r hr
    rw [show upTo i k k = i from if_neg (Nat.lt_irrefl _)] at z
    have kp : ∀ c o, (c < N ∨ N + rs.length + 2 < c) → hp.get? c = some o → g1.get? c = some o := fun c o cc e => by
      have cc : (@LT.lt Nat _ c N ∨ @LT.lt Nat _ (N + rs.length + 2) c) := cc
      exact O.keep c o (by rcases cc with x | x; exact .inl x; exact .inr (show @LE.le Nat _ (N + rs.length) c by omega)) (hs0.extBut _ _ (show @Ne Nat c (N + rs.length + 2) by omega) e)
    rcases Nat.lt_or_eq_of_le (le r (List.mem_of_getElem? hr)) with lt | eq
    case inr =>
      rw [eq] at z
      refine wpAny_bind (D.done ⟨g1, g, d, tk, os⟩ _ _ z fun q e hq he => ?_)
      replace hq : Heap.ExtBut (N + k) g1 q := hq
      refine hE ⟨r, List.mem_of_getElem? hr, eq⟩ q tk e (fun c o cc x => ?_) he
      have cc2 : (@LT.lt Nat _ c N ∨ @LT.lt Nat _ (N + rs.length + 2) c) := cc
      exact hq _ _ (show @Ne Nat c (N + k) by omega) (kp c o cc x)
    refine wpAny_bind (D.item i _ _ _ lt z fun x1 p1 tk1 hx1 sn1 hp1 => wpAny_pure ?_)
    replace hp1 : Heap.SameBut (N + k) g1 p1 := hp1
    refine wpAny_pure ?_
    refine ⟨rfl, k + 1, by rw [show rs.length - (k + 1) = m by omega], by omega, p1, tk1, rfl, ?_⟩
    refine ⟨⟨by rw [Array.size_push, O.tup.1], fun j q lj hq => ?_⟩, O.its.step hb hr hp1 sn1.1, by rw [hp1.1, O.size], fun c o cc e => ?_, fun j q lj hq => ?_⟩
    · by_cases c : j = k
      · subst c
        rw [hr] at hq; cases hq
        rw [show r.2[i]? = some x1 from hx1]
        rw [Array.getElem?_push, if_pos O.tup.1.symm]
      · rw [Array.getElem?_push, if_neg (by rw [O.tup.1]; exact c)]
        exact O.tup.2 j q (by omega) hq
    · have cc2 : (@LT.lt Nat _ c N ∨ @LE.le Nat _ (N + rs.length) c) := cc
      exact hp1.extBut _ _ (show @Ne Nat c (N + k) by omega) (O.keep c o cc e)
    · by_cases c : j = k
      · subst c
        rw [hr] at hq; cases hq
        exact lt
      · exact O.some j q (by omega) hq
  · rintro ⟨acc0, acc⟩ s1 ⟨e0, k, el, kn, g1, tk, rfl, O⟩
    dsimp only at e0 O
    subst e0
    have ek : rs.length = k := by
      cases e : rs.length - k with
      | zero => omega
      | succ m => rw [e] at el; cases el
    subst ek
    have l64 : 64 ≤ sizeLine := by decide
    refine wpAny_bind (wpAny_newTuple (hsz := by rw [Array.length_toList, O.tup.1]; omega) ?_)
    refine wpAny_pure
                            ⟨_, rfl, ?_⟩
    have hsz : g1.objs.size = hp.objs.size := by rw [O.size, hs0.1]
    show Q (.ref g1.objs.size) ⟨g1.push (zTup acc), g, d, tk, os⟩
    have up : ∀ (c : Addr) (o : Obj), c < N ∨ N + rs.length ≤ c → c ≠ N + rs.length + 2 → hp.get? c = some o → (g1.push (zTup acc)).get? c = some o := fun c o cc c1 e => Heap.get?_push_of_some _ (O.keep c o cc (hs0.extBut _ _ c1 e))
    have hT : (g1.push (zTup acc)).get? g1.objs.size = some (zTup acc) := Heap.get?_push_size _ rfl
    have hs8 : (g1.push (zTup acc)).objs.size = g1.objs.size + 1 := Heap.size_push ..
    have hz9 : (g1.push (zTup acc)).get? (N + rs.length + 2) = some (zObj N rs.length (rawInt T) true) := Heap.get?_push_of_some _ (O.keep _ _ (.inr (show @LE.le Nat _ (N + rs.length) (N + rs.length + 2) by omega)) hz0)
    rw [hsz] at hT hs8 ⊢
    refine hQ (fun r mr => by obtain ⟨j, e⟩ := List.getElem?_of_mem mr; exact O.some j r (List.getElem?_eq_some_iff.mp e).1 e) _ tk acc O.tup.1 (fun j r e => O.tup.2 j r (List.getElem?_eq_some_iff.mp e).1 e) ⟨⟨_, _, hz9, .inr ⟨_, rfl⟩⟩, ?_, ⟨a, ha, up _ _ (.inr (show @LE.le Nat _ (N + rs.length) (N + rs.length + 1) by omega)) (show @Ne Nat (N + rs.length + 1) (N + rs.length + 2) by omega) hTO⟩, ?_⟩ hT hs8 fun c o cc e => ?_
    · exact up _ _ (.inr (Nat.le_refl _)) (show @Ne Nat (N + rs.length) (N + rs.length + 2) by omega) hTI
    · exact ZIts.over hb (O.its.all rfl) fun c o cc e => Heap.get?_push_of_some _ e
    · have cc2 : (@LT.lt Nat _ c N ∨ @LT.lt Nat _ (N + rs.length + 2) c) := cc
      exact up c o (by rcases cc2 with x | x; exact .inl x; exact .inr (show @LE.le Nat _ (N + rs.length) c by omega)) (show @Ne Nat c (N + rs.length + 2) by omega) e
  · exact ⟨rfl, 0, by rw [zRef, List.toList_toArray]; rfl, by omega, g0, tk0, rfl, ⟨rfl, fun j r lj => absurd lj (Nat.not_lt_zero _)⟩, ZIts.over hb st.none fun c o cc e => hs0.extBut _ _ (by
      have cc : @LT.lt Nat _ c (N + rs.length) := cc
      show @Ne Nat c (N + rs.length + 2)
      omega) e, rfl, fun c o cc e => e, fun j r lj => absurd lj (Nat.not_lt_zero _)⟩
/-- next of zip(..): a turn or the end -/
theorem zipN_next {s : Shared} {Q : Option Value → Shared → Prop} (hh : A.handled = none) (hb : ∀ r : Src × Array Value, r ∈ rs → @LT.lt Nat _ r.1.at N) (ne : 0 < rs.length) (few : rs.length ≤ 64)
    (st : ZAt N rs i s.heap) (le : ∀ r : Src × Array Value, r ∈ rs → i ≤ r.2.size)
    (hQ : (∀ r : Src × Array Value, r ∈ rs → i < r.2.size) → ZGive N rs i s fun v => Q (some v))
    (hE : (∃ r : Src × Array Value, r ∈ rs ∧ i = r.2.size) → ∀ (h' : Heap) (tk : Nat), (∀ c o, (c < N ∨ N + rs.length + 2 < c) → s.heap.get? c = some o → h'.get? c = some o) → Q none { s with heap := h', toks := tk }) :
    wpAny (model prog w) A (pyNext (.ref (N + rs.length + 2))) Q E s := by
  obtain ⟨⟨f0, b, hz, hf⟩, tin, ⟨a, ha, tout⟩, its⟩ := st
  have hTy : s.TypeIs (.ref (N + rs.length + 2)) "zip" := ⟨_, hz, rfl⟩
  unfold pyNext
  have main : ∀ {E2 : Value → Shared → Prop}, (∀ (v : Value) (s2 : Shared), Q (some v) s2 → Q (some v) s2) → ((∃ r : Src × Array Value, r ∈ rs ∧ i = r.2.size) → ZEnd N rs s E2) → wpAny (model prog w) A.in1 (Builtin.«zip.__next__» ⟨[.ref (N + rs.length + 2)], []⟩) (fun fin s' => ∃ v, fin = .done (.ret v) ∧ Q (some v) s') E2 s := by
    intro E2 _ hE2
    rcases hf with rfl | ⟨T, rfl⟩
    · exact zipN_owned (A := A.in1) hh hb ne few hz tin tout ha its le (.inl rfl) hQ hE2
    · cases hT : s.heap.get? T with
      | none => exact zipN_owned (A := A.in1) hh hb ne few hz tin tout ha its le (.inr ⟨T, rfl, hT⟩) hQ hE2
      | some oT => exact zipN_held (A := A.in1) hh hb ne few hz tin tout ha its le hT hQ hE2
  refine wpAny_bind (wpAny_attempt (wpAny_callSpecial?_slot
                          (name := Str.ofString "__next__") hTy F.slot_zip_next
    (wpAny_call_entry F.slot_zip_next hTy F.entry_zip_next (wpAny_mono (main (fun _ _ q => q) (E2 := _) fun hx h' tk e hk he => ?_) (fun fin s2 ⟨v, e, q⟩ => ⟨v, e, wpAny_pure q⟩) fun _ _ x => x) (F.args_zip_next_1 _))))
  obtain ⟨o, ho, hc⟩ := he
  refine wpAny_bind (wpAny_isInstance (T := "StopIteration")
                          (b := true) ⟨o, ho, hc⟩ isSubtype_stop ?_)
  exact wpAny_pure (hE hx _ _ hk)
end
end Co
end

section
set_option linter.all false
set_option maxRecDepth 100000
set_option autoImplicit false
namespace Co
open PySem PySem.Spec
                        PyProof.Rows L2
theorem zipUp {α β : Type} {P : α → β → Prop} : ∀ {as : List α}, (∀ a ∈ as, ∃ b, P a b) → ∃ bs : List β, bs.length = as.length ∧ ∀ (k : Nat) (a : α), as[k]? = some a → ∃ b, bs[k]? = some b ∧ P a b
  | [], _ => ⟨[], rfl, fun k a e => by cases e⟩
  | a :: as, h => by
    obtain ⟨b, hb⟩ := h a List.mem_cons_self
    obtain ⟨bs, l, e⟩ := zipUp (as := as) fun x m => h x (List.mem_cons_of_mem _ m)
    refine ⟨b :: bs, by rw [List.length_cons, l, List.length_cons], fun k a' e' => ?_⟩
    cases k with
    | zero => cases e'; exact ⟨b, rfl, hb⟩
    | succ k => exact e k a' e'
theorem vals_ext : ∀ {xs : List V} {us : List Value}, xs.length = us.length → (∀ (k : Nat) (x : V) (u : Value), xs[k]? = some x → us[k]? = some u → RelV x u) → Vals xs us
  | [], [], _, _ => .nil
  | x :: xs, u :: us, l, h => .cons (h 0 x u rfl rfl) (vals_ext (Nat.succ.inj l) fun k => h (k + 1))
/-- the sequences at the sources, the items in new tuples -/
def ItZS (K : PySem.W.Frag) (rs : List Src) : It :=
  ⟨fun i H => ∀ r ∈ rs, ∃ (xs : List V) (x : V), r.has K H xs ∧ xs[i]? = some x,
    fun i H v H' => ∃ (T : Addr) (ys : List V), v = .ref T ∧ H T = none ∧ H' = upd H T (.tup ys) ∧ ys.length = rs.length ∧ ∀ (k : Nat) (r : Src), rs[k]? = some r → ∀ xs, r.has K H xs → ys[k]? = xs[i]?,
    fun i H => (∀ r ∈ rs, ∃ xs : List V, r.has K H xs ∧ i ≤ xs.length) ∧ ∃ (r : Src) (xs : List V), r ∈ rs ∧ r.has K H xs ∧ i = xs.length⟩
/-- the cells of zip(..), the sources' items aside -/
def ZTn (N : Nat) (rs : List Src) (i : Nat) (h : Heap) : Prop :=
  (∃ (f0 : Value) (b : Bool), h.get? (N + rs.length + 2) = some (zObj N rs.length f0 b) ∧ (f0 = .none ∨ ∃ T : Addr, f0 = rawInt T)) ∧ h.get? (N + rs.length) = some (zTup (zRef N rs.length)) ∧
  (∃ a : Array Value, a.size = rs.length ∧ h.get? (N + rs.length + 1) = some (zTup a)) ∧ ∀ (k : Nat) (r : Src), rs[k]? = some r → r.it h (N + k) i
theorem ZTn.at {N i : Nat} {rs : List Src} {qs : Rs} {h : Heap} (z : ZTn N rs i h) (e : qs.map Prod.fst = rs) (sq : ∀ q : Src × Array Value, q ∈ qs → q.1.sq h q.2) : ZAt N qs i h := by
  subst e
  obtain ⟨z1, z2, z3, z4⟩ := z
  rw [List.length_map] at z1 z2 z3
  exact ⟨z1, z2, z3, fun k r e => ⟨z4 k r.1 (by rw [List.getElem?_map, e]; rfl), sq r (List.mem_of_getElem? e)⟩⟩
theorem ZAt.tn {N i : Nat} {rs : List Src} {qs : Rs} {h : Heap} (z : ZAt N qs i h) (e : qs.map Prod.fst = rs) : ZTn N rs i h := by
  subst e
  obtain ⟨z1, z2, z3, z4⟩ := z
  unfold ZTn
  rw [List.length_map]
  refine ⟨z1, z2, z3, fun k r e => ?_⟩
  rw [List.getElem?_map] at e
  obtain ⟨q, e1, rfl⟩ := Option.map_eq_some_iff.mp e
  exact (z4 k q e1).1
theorem let_any {prog : Program} {w : World} {A : Around} {E : Value → Shared → Prop} {s : Shared} {tg : Expr} {N i : Nat} {T : Addr} {rs : Rs} {Q : Unit → Shared → Prop} (hb : ∀ r : Src × Array Value, r ∈ rs → @LT.lt Nat _ r.1.at N) (z : ZAt N rs i s.heap)
    (q : ∀ h2, ZAt N rs i h2 → Heap.SameBut (N + rs.length + 2) s.heap h2 → Q () { s with heap := h2 }) : wpAny (model prog w) A (letOwnedTupleGo tg (.ref (N + rs.length + 2)) (.ref T)) Q E s := by
  obtain ⟨⟨f0, b, hz, hf⟩, tin, ⟨a, ha, tout⟩, its⟩ := id z
  have up : wpAny (model prog w) A (setField (.ref (N + rs.length + 2)) 0 .none) Q E s := wpAny_setField_rec hz (by simp) fun h' hz' hs' => q h' ⟨⟨.none, b, hz', .inl rfl⟩, (hs'.2 _ (by show @Ne Nat _ _; omega)).trans tin, ⟨a, ha, (hs'.2 _ (by show @Ne Nat _ _; omega)).trans tout⟩, ZIts.over hb its fun c o lt e => (hs'.2 c (by show @Ne Nat _ _; have : @LT.lt Nat _ c (N + rs.length) := lt; omega)).trans e⟩ hs'
  have kept : Q () s := q s.heap z ⟨rfl, fun _ _ => rfl⟩
  have main : wpAny (model prog w) A (do
      let o ← load (N + rs.length + 2)
      match o.cls, o.data with
      | .type n, .fields vs =>
        if ["enumerate", "zip", "dict_itemiterator", "dict_reverseitemiterator", "odict_iterator", "itertools.zip_longest", "itertools.pairwise"].contains n && vs[0]? == some (rawInt T) then
          rule
                                  "for.unpacks-the-owned-tuple"
          updateField (N + rs.length + 2) 0 .none
      | _, _ => pure ()) Q E s := by
    refine wpAny_bind
                            (wpAny_load hz ?_)
    show wpAny _ _ (if
                            (["enumerate", "zip", "dict_itemiterator", "dict_reverseitemiterator", "odict_iterator", "itertools.zip_longest", "itertools.pairwise"].contains "zip" &&
      (#[f0, .bool b, .bool false, .ref (N + rs.length), .ref (N + rs.length + 1)] : Array Value)[0]? == some (rawInt T)) = true then _ else _) Q E s
    refine wpAny_ite_split (fun _ => ?_) (fun _ => wpAny_pure kept)
    refine wpAny_bind
                            (wpAny_rule ?_)
    show wpAny _ _ (setField (.ref (N + rs.length + 2)) 0 .none) Q E s
    exact up
  cases tg <;> first | exact main | exact wpAny_pure kept
theorem turn_ZS {P : Program} {w : World} {K : PySem.W.Frag} {tg : Expr} {rs : List Src} {N : Nat} (hb : ∀ r ∈ rs, @LT.lt Nat _ r.at N) (ne : 0 < rs.length) (few : rs.length ≤ 64) :
    Turn P w K tg (ItZS K rs) (List.range' N (rs.length + 3)) (N + rs.length + 2) (ZTn N rs) where
  mem := by rw [List.mem_range'_1]; exact ⟨by show @LE.le Nat _ _ _; omega, by show @LT.lt Nat _ _ _; omega⟩
  obj := fun i h st c hc => by
    obtain ⟨⟨f0, b, hz, _⟩, hTI, ⟨a, _, hTO⟩, its⟩ := st
    rw [List.mem_range'_1] at hc
    have hc : @LE.le Nat _ N c ∧ @LT.lt Nat _ c (N + (rs.length + 3)) := hc
    by_cases c1 : @Eq Nat c (N + rs.length + 2)
    · rw [show c = N + rs.length + 2 from c1]; exact ⟨_, hz, fun v q => nomatch q⟩
    by_cases c2 : @Eq Nat c (N + rs.length + 1)
    · rw [show c = N + rs.length + 1 from c2]; exact ⟨_, hTO, fun v q => nomatch q⟩
    by_cases c3 : @Eq Nat c (N + rs.length)
    · rw [show c = N + rs.length from c3]; exact ⟨_, hTI, fun v q => nomatch q⟩
    obtain ⟨k, rfl⟩ : ∃ k : Nat, c = N + k := ⟨@HSub.hSub Nat Nat Nat _ c N, by show @Eq Nat c _; omega⟩
    obtain ⟨r, hr⟩ : ∃ r, rs[k]? = some r := ⟨_, List.getElem?_eq_getElem (by omega)⟩
    exact Src.it_ob (its k r hr)
  keep := fun i h h' st k => by
    obtain ⟨⟨f0, b, hz, hf⟩, hTI, ⟨a, ha, hTO⟩, its⟩ := st
    refine ⟨⟨f0, b, k _ (by rw [List.mem_range'_1]; exact ⟨by show @LE.le Nat _ _ _; omega, by show @LT.lt Nat _ _ _; omega⟩) _ hz, hf⟩, k _ (by rw [List.mem_range'_1]; exact ⟨by show @LE.le Nat _ _ _; omega, by show @LT.lt Nat _ _ _; omega⟩) _ hTI, ⟨a, ha, k _ (by rw [List.mem_range'_1]; exact ⟨by show @LE.le Nat _ _ _; omega, by show @LT.lt Nat _ _ _; omega⟩) _ hTO⟩, fun j r e => ?_⟩
    have lt : j < rs.length := (List.getElem?_eq_some_iff.mp e).1
    exact Src.it_at (its j r e) fun o q => k _ (by rw [List.mem_range'_1]; exact ⟨by show @LE.le Nat _ _ _; omega, by show @LT.lt Nat _ _ _; omega⟩) o q
  item := by
    intro X hP hw hK hc i
                            pins s σ H E I hf st hg
    subst hP hw hK
    have hh : X.A.in1.handled = none := I.ok.hd hc
    obtain ⟨bs, bl, be⟩ := zipUp (P := fun (r : Src) (q : Src × Array Value) => q.1 = r ∧ ∃ (xs : List V) (y : V) (u : Value), r.has X.K H xs ∧ xs[i]? = some y ∧ q.2[i]? = some u ∧ RelV y u ∧ r.sq s.heap q.2) (as := rs) fun r mr => by
      obtain ⟨xs, y, hx, hy⟩ := hg r mr
      obtain ⟨its, rv, p, _, l1⟩ := Src.items I hx
      obtain ⟨u, hu, ru⟩ := rv.get hy
      exact ⟨(r, its.toArray), rfl, xs, y, u, hx, hy, by simpa using hu, ru, p⟩
    have em : bs.map Prod.fst = rs := by
      apply List.ext_getElem?
      intro k
      rw [List.getElem?_map]
      cases e : rs[k]? with
      | none =>
        rw [List.getElem?_eq_none (by rw [bl]; exact List.getElem?_eq_none_iff.mp e)]
        rfl
      | some r =>
        obtain ⟨q, e1, e2, _⟩ := be k r e
        rw [e1, ← e2]; rfl
    have lb : bs.length = rs.length := bl
    have info : ∀ q ∈ bs, ∃ (xs : List V) (y : V) (u : Value), q.1.has X.K H xs ∧ xs[i]? = some y ∧ q.2[i]? = some u ∧ RelV y u ∧ q.1.sq s.heap q.2 := fun q mq => by
      obtain ⟨k, ek⟩ := List.getElem?_of_mem mq
      have : rs[k]? = some q.1 := by rw [← em, List.getElem?_map, ek]; rfl
      obtain ⟨q2, e1, e2, r⟩ := be k q.1 this
      rw [ek] at e1; cases e1
      exact r
    have hb2 : ∀ r : Src × Array Value, r ∈ bs → @LT.lt Nat _ r.1.at N := fun r mr => hb r.1 (by rw [← em]; exact List.mem_map_of_mem mr)
    have hlt : ∀ r : Src × Array Value, r ∈ bs → i < r.2.size := fun r mr => by
      obtain ⟨_, _, u, _, _, e, _⟩ := info r mr
      exact (Array.getElem?_eq_some_iff.mp e).1
    obtain ⟨ys, yl, ye⟩ := zipUp (P := fun (q : Src × Array Value) (y : V) => (∀ xs, q.1.has X.K H xs → xs[i]? = some y) ∧ ∃ u, q.2[i]? = some u ∧ RelV y u) (as := bs) fun q mq => by
      obtain ⟨xs, y, u, h1, h2, h3, h4, _⟩ := info q mq
      exact ⟨y, fun xs' h' => by rw [Src.inj I h' h1]; exact h2, u, h3, h4⟩
    have zz := st.at em fun q mq => (info q mq).choose_spec.choose_spec.choose_spec.2.2.2.2
    have hfr := hf
    rw [← lb] at hf ⊢
    refine zipN_next (rs := bs) hh hb2 (by omega) (by omega) zz (fun r mr => Nat.le_of_lt (hlt r mr)) (fun _ h' tk a sa va z' gT sz kp => ?_) fun ⟨r, mr, e⟩ => absurd (hlt r mr) (by omega)
    refine ⟨_, rfl, let_any (s := { s with heap := h', toks := tk }) hb2 z' fun h2 z2 sb => ?_⟩
    have zlt : @LT.lt Nat _ (N + bs.length + 2) s.heap.objs.size := by
      obtain ⟨_, _, q, _⟩ := zz.zip
      exact Heap.lt_size q
    have vs : Vals ys a.toList := vals_ext (by have := a.length_toList; omega) fun k y u e1 e2 => by
      have kl : k < bs.length := by rw [← yl]; exact (List.getElem?_eq_some_iff.mp e1).1
      obtain ⟨y', e3, _, u', e4, rl⟩ := ye k bs[k] (List.getElem?_eq_getElem kl)
      rw [e1] at e3; cases e3
      have := va k bs[k] (List.getElem?_eq_getElem kl)
      rw [e4] at this
      rw [Array.getElem?_toList, this] at e2
      cases e2
      exact rl
    have l64 : 64 ≤ sizeLine := by decide
    have gT2 : h2.get? s.heap.objs.size = some (zTup a) := (sb.2 _ (by show @Ne Nat _ _; have : @LT.lt Nat _ (N + bs.length + 2) s.heap.objs.size := zlt; omega)).trans gT
    have new : ObjOk X.prog X.w (upd H s.heap.objs.size (.tup ys)) h2 s.heap.objs.size (.tup ys) :=
      ⟨by show ys.length ≤ sizeLine; omega, a.toList, vs, ⟨_, gT2, rfl, 0, by simp [zTup]⟩⟩
    have I1 : Inv X pins σ (upd H s.heap.objs.size (.tup ys)) { s with heap := h2, toks := tk } :=
      I.turnedNew (t' := tk) (ch := List.range' N (bs.length + 3)) (fun c o hb e => (sb.2 c (by rw [List.mem_range'_1] at hb; show @Ne Nat _ _; have hb : ¬ (@LE.le Nat _ N c ∧ @LT.lt Nat _ c (N + (bs.length + 3))) := hb; omega)).trans (kp c o (by
        rw [List.mem_range'_1] at hb
        have hb : ¬ (@LE.le Nat _ N c ∧ @LT.lt Nat _ c (N + (bs.length + 3))) := hb
        by_cases c1 : @LT.lt Nat _ c N
        · exact .inl c1
        · exact .inr (by show @LT.lt Nat _ (N + bs.length + 2) c; omega)) e)) hf (Nat.le_refl _) new
    refine ⟨.ref s.heap.objs.size, _, I1, rfl, ⟨_, ys, rfl, I.hok.fresh (Nat.le_refl _), rfl, by omega, fun k r e xs hx => ?_⟩, z2.tn em, fun c hcm => ?_⟩
    · obtain ⟨q, e1, e2, _⟩ := be k r e
      obtain ⟨y, e3, e4, _⟩ := ye k q e1
      rw [e3, e4 xs (by rw [e2]; exact hx)]
    · rw [List.mem_range'_1] at hcm
      have hcm' : @LE.le Nat _ N c ∧ @LT.lt Nat _ c (N + (bs.length + 3)) := hcm
      rw [upd_ne (show @Ne Nat c s.heap.objs.size by omega)]
      exact (hf c (by rw [List.mem_range'_1]; exact hcm)).1
  done := by
    intro X hP hw hK hc i
                            pins s σ H E I hf st hg
    subst hP hw hK
    have hh : X.A.in1.handled = none := I.ok.hd hc
    obtain ⟨hg, r0, xs0, m0, hx0, ei⟩ := hg
    obtain ⟨bs, bl, be⟩ := zipUp (P := fun (r : Src) (q : Src × Array Value) => q.1 = r ∧ ∃ (xs : List V), r.has X.K H xs ∧ i ≤ xs.length ∧ q.2.size = xs.length ∧ r.sq s.heap q.2) (as := rs) fun r mr => by
      obtain ⟨xs, hx, hi⟩ := hg r mr
      obtain ⟨its, rv, p, _, l1⟩ := Src.items I hx
      exact ⟨(r, its.toArray), rfl, xs, hx, hi, by rw [List.size_toArray, rv.length], p⟩
    have em : bs.map Prod.fst = rs := by
      apply List.ext_getElem?
      intro k
      rw [List.getElem?_map]
      cases e : rs[k]? with
      | none =>
        rw [List.getElem?_eq_none (by rw [bl]; exact List.getElem?_eq_none_iff.mp e)]
        rfl
      | some r =>
        obtain ⟨q, e1, e2, _⟩ := be k r e
        rw [e1, ← e2]; rfl
    have lb : bs.length = rs.length := bl
    have info : ∀ q ∈ bs, ∃ (xs : List V), q.1.has X.K H xs ∧ i ≤ xs.length ∧ q.2.size = xs.length ∧ q.1.sq s.heap q.2 := fun q mq => by
      obtain ⟨k, ek⟩ := List.getElem?_of_mem mq
      have : rs[k]? = some q.1 := by rw [← em, List.getElem?_map, ek]; rfl
      obtain ⟨q2, e1, e2, r⟩ := be k q.1 this
      rw [ek] at e1; cases e1
      exact r
    have hb2 : ∀ r : Src × Array Value, r ∈ bs → @LT.lt Nat _ r.1.at N := fun r mr => hb r.1 (by rw [← em]; exact List.mem_map_of_mem mr)
    have zz := st.at em fun q mq => (info q mq).choose_spec.2.2.2
    rw [← lb] at hf ⊢
    refine zipN_next (rs := bs) hh hb2 (by omega) (by omega) zz (fun r mr => ?_) (fun all => ?_) fun _ h' tk kp => ⟨rfl, I.turnedL (t' := tk) (ch := List.range' N (bs.length + 3)) (fun c o hb e => kp c o (by
        rw [List.mem_range'_1] at hb
        have hb : ¬ (@LE.le Nat _ N c ∧ @LT.lt Nat _ c (N + (bs.length + 3))) := hb
        by_cases c1 : @LT.lt Nat _ c N
        · exact .inl c1
        · exact .inr (by show @LT.lt Nat _ (N + bs.length + 2) c; omega)) e) hf⟩
    · obtain ⟨xs, _, h1, h2, _⟩ := info r mr
      omega
    · exfalso
      obtain ⟨k, ek⟩ := List.getElem?_of_mem m0
      obtain ⟨q, e1, e2, xs, h1, _, h3, _⟩ := be k r0 ek
      have := all q (List.mem_of_getElem? e1)
      rw [Src.inj I h1 hx0] at h3
      omega
  self :=
                          fun A i s Q E st h => by
    obtain ⟨⟨f0, b, hz, _⟩, _⟩ := st
    have hT : s.TypeIs (.ref (N + rs.length + 2)) "zip" := ⟨_, hz, rfl⟩
    refine wpAny_pyIter_slot hT F.slot_zip_iter
                            (wpAny_call_entry F.slot_zip_iter hT F.entry_zip_iter ?_ (F.args_zip_iter_1 _))
    show wpAny _ _ (ret (.ref (N + rs.length + 2))) _ _ s
    exact wpAny_pure
                            ⟨_, rfl, "zip", _, hT, F.slot_zip_next.lookup, h⟩
end Co
end

section
set_option linter.all false
set_option maxRecDepth 100000
namespace Co
open PySem PySem.Spec
                        PyProof.Rows L2
theorem zipCall (args : List Value) : checkTypeCall "zip" ⟨args, []⟩ = pure () := by kernel_rfl
theorem zipNew : ∀ (args : List Value), args.length ≤ 8 → checkBuiltinCall "zip.__new__" ⟨.type "zip" :: args, []⟩ = pure ()
  | [], _ => by kernel_rfl
  | [a], _ => by kernel_rfl
  | [a, b], _ => by kernel_rfl
  | [a, b, c], _ => by kernel_rfl
  | [a, b, c, d], _ => by kernel_rfl
  | [a, b, c, d, e], _ => by kernel_rfl
  | [a, b, c, d, e, f], _ => by kernel_rfl
  | [a, b, c, d, e, f, g], _ => by kernel_rfl
  | [a, b, c, d, e, f, g, h], _ => by kernel_rfl
  | _ :: _ :: _ :: _ :: _ :: _ :: _ :: _ :: _ :: _, l => by simp only [List.length_cons] at l; omega
theorem zipArgs (obj : Value) (args : List Value) : argsOk "object.__init__" ⟨obj :: args, []⟩ := by unfold argsOk; kernel_rfl
def itObs (rs : Rs) (h : Heap) : Heap := rs.foldl (fun h r => h.push r.1.ob) h
theorem meets_zip_newN (rs : Rs) (few : rs.length ≤ 8) :
    Meets (Builtin.«zip.__new__» ⟨.type "zip" :: rs.map fun r => .ref r.1.at, []⟩) (fun _ R s => (∀ r : Src × Array Value, r ∈ rs → r.1.sq s.heap r.2 ∧ @LT.lt Nat _ r.1.at s.heap.objs.size) ∧
      ∀ h', h'.get? (s.heap.objs.size + rs.length + 2) = some (zObj s.heap.objs.size rs.length .none false) → h'.get? (s.heap.objs.size + rs.length) = some (zTup (zRef s.heap.objs.size rs.length)) → h'.get? (s.heap.objs.size + rs.length + 1) = some (zTup (Array.replicate rs.length .none)) →
        (∀ (k : Nat) (r : Src × Array Value), rs[k]? = some r → h'.get? (s.heap.objs.size + k) = some r.1.ob) → (∀ c o, s.heap.get? c = some o → h'.get? c = some o) → R (.ok (.ret (.ref (s.heap.objs.size + rs.length + 2)))) { s with heap := h' }) :=
  .of_wp
                          fun prog w A R s h => by
    obtain
                            ⟨hp, g, d, tk, os⟩ := s
    obtain ⟨h1, h⟩ := h
    have hsub := sub_zip
    wp_walk using wpAny_forIn_list _ (fun rest (acc : Array Value) s' => ∃ k g1, rest = (rs.drop k).map (fun r => Value.ref r.1.at) ∧ k ≤ rs.length ∧ acc = zRef hp.objs.size k ∧ s' = ⟨g1, g, d, tk, os⟩ ∧ g1.objs.size = hp.objs.size + k ∧ (∀ (j : Nat) (r : Src × Array Value), j < k → rs[j]? = some r → g1.get? (hp.objs.size + j) = some r.1.ob) ∧ ∀ c o, hp.get? c = some o → g1.get? c = some o) _
    case turn =>
      rintro x rest acc s' ⟨k, g1, er, kn, rfl, rfl, sz, obs, kp⟩
      obtain ⟨r, hr⟩ : ∃ r, rs[k]? = some r := by
        cases e : rs[k]? with
        | some r => exact ⟨r, rfl⟩
        | none =>
          rw [List.drop_eq_nil_of_le (List.getElem?_eq_none_iff.mp e)] at er
          cases er
      have kl : k < rs.length := (List.getElem?_eq_some_iff.mp hr).1
      rw [List.drop_eq_getElem_cons kl, List.map_cons] at er
      injection er with e1 e2
      have er : rs[k] = r := by
        have := List.getElem?_eq_getElem kl
        rw [hr] at this
        exact
                                (Option.some.inj this).symm
      rw [er] at e1
      subst e1 e2
      obtain ⟨sq, lt⟩ := h1 r (List.mem_of_getElem? hr)
      have B := Src.begins r.1 r.2
      refine wpAny_bind (wpAny_holding (B.iter prog w _ _ ⟨g1, g, d, tk, os⟩ _ (B.keeps _ _ sq kp) (wpAny_pure ?_)))
      refine ⟨k + 1, g1.push r.1.ob, rfl, kl, ?_, rfl, by rw [Heap.size_push, sz]; rfl, fun j q lj hq => ?_, fun c o e => Heap.get?_push_of_some _ (kp c o e)⟩
      · show (zRef hp.objs.size k).push (.ref g1.objs.size) = _
        rw [sz]
        unfold zRef
        rw [List.range'_concat, List.map_append, List.push_toArray]
        simp
      · by_cases c : j = k
        · subst c
          rw [hr] at hq; cases hq
          rw [← sz]
          exact Heap.get?_push_size _ B.free
        · exact Heap.get?_push_of_some _ (obs j q (by omega) hq)
    case fin =>
      rintro acc s' ⟨k, g1, er, kn, rfl, rfl, sz, obs, kp⟩
      have ek : rs.length = k := by
        cases e : rs.length - k with
        | zero => omega
        | succ m =>
          have := congrArg List.length er
          rw [List.length_map, List.length_drop] at this
          simp at this
          omega
      subst ek
      have l64 : 64 ≤ sizeLine := by decide
      have zs : (zRef hp.objs.size rs.length).size = rs.length := by unfold zRef; simp
      refine wpAny_pure ?_
      refine wpAny_bind (wpAny_newTuple (hsz := by rw [Array.length_toList, zs]; omega) ?_)
      refine wpAny_bind (wpAny_newTuple (hsz := by rw [List.length_map, Array.length_toList, zs]; omega) ?_)
      wp_walk
      refine ⟨_, rfl, ?_⟩
      have e1 : (zRef hp.objs.size rs.length).toList.toArray = zRef hp.objs.size rs.length := by simp
      have e2 : (List.map (fun _ => Value.none) (zRef hp.objs.size rs.length).toList).toArray = Array.replicate rs.length Value.none := by
        rw [List.map_const', Array.length_toList, zs]; simp
      let g2 := g1.push { cls := .type "tuple", data := .seq (zRef hp.objs.size rs.length).toList.toArray }
      let g3 := g2.push { cls := .type "tuple", data := .seq (List.map (fun _ => Value.none) (zRef hp.objs.size rs.length).toList).toArray }
      let g4 := g3.push { cls := .type "zip", data := .fields #[.none, .bool false, .bool false, .ref g1.objs.size, .ref g2.objs.size] }
      show R (.ok (.ret (.ref g3.objs.size))) ⟨g4, g, d, tk, os⟩
      have s2 : g2.objs.size = hp.objs.size + rs.length + 1 := by rw [Heap.size_push, sz]
      have s3 : g3.objs.size = hp.objs.size + rs.length + 2 := by rw [Heap.size_push, s2]
      have q4 : g4.get? g3.objs.size = some { cls := .type "zip", data := .fields #[.none, .bool false, .bool false, .ref g1.objs.size, .ref g2.objs.size] } := Heap.get?_push_size _ rfl
      have q3 : g4.get? g2.objs.size = some (zTup (List.map (fun _ => Value.none) (zRef hp.objs.size rs.length).toList).toArray) := Heap.get?_push_of_some _ (Heap.get?_push_size _ rfl)
      have q2 : g4.get? g1.objs.size = some (zTup (zRef hp.objs.size rs.length).toList.toArray) := Heap.get?_push_of_some _ (Heap.get?_push_of_some _ (Heap.get?_push_size _ rfl))
      rw [e2] at q3
      rw [e1] at q2
      rw [s3, s2, sz] at q4
      rw [s2] at q3
      rw [sz] at q2
      rw [s3]
      have up : ∀ (c : Addr) (o : Obj), g1.get? c = some o → g4.get? c = some o := fun c o e => Heap.get?_push_of_some _ (Heap.get?_push_of_some _ (Heap.get?_push_of_some _ e))
      exact h g4 q4 q2 q3 (fun k r e => up _ _ (obs k r (List.getElem?_eq_some_iff.mp e).1 e)) fun c o e => up c o (kp c o e)
    case h =>
      exact ⟨0, hp, rfl, Nat.zero_le _, rfl, rfl, rfl, fun j r lj => absurd lj (Nat.not_lt_zero _), fun c o e => e⟩

theorem zipN_begins {prog : Program} {w : World} {A : Around} {E : Value → Shared → Prop} {s : Shared} {rs : Rs} {Q : Value → Shared → Prop} (few : rs.length ≤ 8) (hq : ∀ r : Src × Array Value, r ∈ rs → r.1.sq s.heap r.2 ∧ @LT.lt Nat _ r.1.at s.heap.objs.size)
    (h : ∀ h', ZTn s.heap.objs.size (rs.map Prod.fst) 0 h' → (∀ c o, s.heap.get? c = some o → h'.get? c = some o) → Q (.ref (s.heap.objs.size + rs.length + 2)) { s with heap := h' }) :
    wpAny (model prog w) A (call (.type "zip") (rs.map fun r => .ref r.1.at)) Q E s := by
  refine callType_new F.called_zip (by decide) (zipCall _) (zipNew _ (by rw [List.length_map]; exact few)) (fun obj => zipArgs obj _) F.entry_zip_new (meets_zip_newN rs few) ⟨hq, fun h' a b c d e => ⟨⟨_, a, rfl⟩, h h' ?_ e⟩⟩
  unfold ZTn
  rw [List.length_map]
  refine ⟨⟨_, _, a, .inl rfl⟩, b, ⟨_, Array.size_replicate, c⟩, fun k r e => ?_⟩
  rw [List.getElem?_map] at e
  obtain ⟨q, e1, rfl⟩ := Option.map_eq_some_iff.mp e
  exact Src.it_new (d k q e1)
theorem callWith_typeS {M : Model} {A : Around} {E : Value → Shared → Prop} {s : Shared} {pos p : Pos} {T : String} {e : Expr} {env : PySem.Env} {Q : Value → Shared → Prop}
    (h : wpAny M A (eval e env) (fun v s1 => PySem.W.StarOf M A E v (fun vs s2 => wpAny M A (call (.type T) vs) Q E s2) s1) E s) :
    wpAny M A (callWith pos (.type T) [] (backTo pos (starEach [.Starred e p] env)) []) Q E s := by
  rw [show starEach [.Starred e p] env = [(true, eval e env)] from rfl]
  unfold callWith
  refine wpAny_bind (wpAny_holding (wpAny_mono (PySem.W.ks_lone (Q := fun a s1 => wpAny M A (call (.type T) a.pos a.kw) Q E s1) h) (fun a s1 h1 => wpAny_bind (wpAny_standAt ?_)) fun _ _ x => x))
  refine wpAny_bind
                          (wpAny_pure ?_)
  refine wpAny_bind (wpAny_mono (wpAny_operating h1) (fun r s2 hr => wpAny_bind (wpAny_holding (wpAny_point (wpAny_pure hr)))) fun _ _ x => x)
/-- zip(*v): the rows at the value -/
def iZS (K : PySem.W.Frag) (te : TE) : TI := fun σ H R => te σ H fun v H1 => ∃ (r : Src) (rs : List Src), v = .ref r.at ∧ r.has K H1 (rs.map fun q => .ref q.at) ∧ 0 < rs.length ∧ rs.length ≤ 8 ∧ (∀ q ∈ rs, ∃ ys, q.has K H1 ys) ∧ R (ItZS K rs) H1
theorem vals_refs : ∀ {rs : List Src} {its : List Value}, Vals (rs.map fun q => V.ref q.at) its → its = rs.map fun q => Value.ref q.at
  | [], _, h => by cases h; rfl
  | r :: rs, _, h => by
    cases h with
    | cons a b =>
      cases a
      rw [vals_refs b]; rfl
theorem Src.star {X : Cx} {E : Value → Shared → Prop} {r : Src} {its : List Value} {s : Shared} {Q : List Value → Shared → Prop} (h : r.sq s.heap its.toArray) (hz : its.length ≤ sizeLine)
    (k : ∀ h', (∀ c o, s.heap.get? c = some o → h'.get? c = some o) → Q its { s with heap := h' }) : PySem.W.StarOf (model X.prog X.w) X.A E (.ref r.at) Q s := by
  unfold PySem.W.StarOf
                          notIterableAtAll
  cases r with
  | lst a =>
    obtain ⟨o, ho, hc, n, hd⟩ := id h
    have hT : s.TypeIs
                            (.ref a) "list" := ⟨o, ho, hc⟩
    exact wpAny_bind (wpAny_specialOf hT PySem.F.slot_list_iter.lookup (wpAny_pure ⟨rfl, wpAny_collect_seq a (.inl rfl) ho hc hd (fun h' hk => by simpa using k h' hk) (by rw [List.size_toArray]; exact hz)⟩))
  | tup a =>
    obtain ⟨o, ho, hc, n, hd⟩ := id h
    have hT : s.TypeIs
                            (.ref a) "tuple" := ⟨o, ho, hc⟩
    exact wpAny_bind (wpAny_specialOf hT PySem.F.slot_tuple_iter.lookup (wpAny_pure ⟨rfl, wpAny_collect_seq a (.inr rfl) ho hc hd (fun h' hk => by simpa using k h' hk) (by rw [List.size_toArray]; exact hz)⟩))
theorem pi_ZS {X : Cx} {e : Expr} {te : TE} {p pos pz : Pos} {tg : Expr} (hg : Gl X "zip") (hm : X.mg "zip" = none) (he : PE X e te) :
    PI X tg (.Call (.Name "zip" p) [.Starred e pz] [] pos) (iZS X.K te) := by
  refine
                          ⟨fun pins s σ H R I h => ?_⟩
  refine Call_ (ld_blt I hg hm PyProof.Rows.boot_zip (callWith_typeS (thn (he.run pins s σ H _ I h) fun u s1 ⟨v, H1, I1, r1, q1⟩ => ?_)))
  obtain ⟨r, rs, rfl, hr, l0, l8, rows, k⟩ := q1
  cases r1
  obtain ⟨its, rv, p1, z1, _⟩ := Src.items I1 hr
  have ei := vals_refs rv
  refine Src.star p1 (by rw [← rv.length]; exact z1) fun h2 hk => ?_
  have I2 : Inv X pins σ H1 { s1 with heap := h2 } := I1.kept (t' := s1.toks) hk
  obtain ⟨bs, bl, be⟩ := zipUp (P := fun (r : Src) (q : Src × Array Value) => q.1 = r ∧ r.sq h2 q.2 ∧ @LT.lt Nat _ r.at h2.objs.size) (as := rs) fun r mr => by
    obtain ⟨ys, hy⟩ := rows r mr
    obtain ⟨its, rv, p, _, l1⟩ := Src.items I2 hy
    exact ⟨(r, its.toArray), rfl, p, l1⟩
  have em : bs.map Prod.fst = rs := by
    apply List.ext_getElem?
    intro k
    rw [List.getElem?_map]
    cases e : rs[k]? with
    | none =>
      rw [List.getElem?_eq_none (by rw [bl]; exact List.getElem?_eq_none_iff.mp e)]
      rfl
    | some r =>
      obtain ⟨q, e1, e2, _⟩ := be k r e
      rw [e1, ← e2]; rfl
  have ea : its = bs.map fun q => Value.ref q.1.at := by rw [ei, ← em, List.map_map]; rfl
  rw [ea]
  have info : ∀ q : Src × Array Value, q ∈ bs → q.1.sq h2 q.2 ∧ @LT.lt Nat _ q.1.at h2.objs.size := fun q mq => by
    obtain ⟨k, ek⟩ := List.getElem?_of_mem mq
    have : rs[k]? = some q.1 := by rw [← em, List.getElem?_map, ek]; rfl
    obtain ⟨q2, e1, e2, r⟩ := be k q.1 this
    rw [ek] at e1; cases e1
    exact r
  refine zipN_begins (s := { s1 with heap := h2 }) (by omega) info fun h3 zt hk3 => ?_
  rw [em] at zt
  have I3 : Inv X pins σ H1 { s1 with heap := h3 } := I2.kept (t' := s1.toks) hk3
  have D : Turn X.prog X.w X.K tg (ItZS X.K rs) (List.range' h2.objs.size (rs.length + 3)) (h2.objs.size + rs.length + 2) (ZTn h2.objs.size rs) := turn_ZS (fun r mr => by
    obtain ⟨k, ek⟩ := List.getElem?_of_mem mr
    exact (be k r ek).choose_spec.2.2.2) l0 (by omega)
  rw [bl]
  refine D.self _ 0 _ _ _ zt ⟨h2.objs.size + rs.length + 2, _, _, _, H1, rfl, I3, D, zt, fun c hcm => ?_, k⟩
  rw [List.mem_range'_1] at hcm
  exact I2.fpOk hcm.1 (I2.hok.fresh hcm.1)
/-- zip(a, b, ..): the rows at the values -/
def iZA (K : PySem.W.Frag) (ta : TA) : TI := fun σ H R => ta σ H fun vs H1 => ∃ rs : List Src, vs = rs.map (fun q => .ref q.at) ∧ 0 < rs.length ∧ rs.length ≤ 8 ∧ (∀ q ∈ rs, ∃ ys, q.has K H1 ys) ∧ R (ItZS K rs) H1
theorem pi_ZA {X : Cx} {e : Expr} {es : List Expr} {ta : TA} {p pos : Pos} {tg : Expr} (hg : Gl X "zip") (hm : X.mg "zip" = none) (ha : PA X (e :: es) ta)
    (hs : starEach (e :: es) X.env = (false, eval e X.env) :: starEach es X.env) (hpl : (backTo pos (starEach es X.env)).any (·.1) = false) :
    PI X tg (.Call (.Name "zip" p) (e :: es) [] pos) (iZA X.K ta) := by
  refine
                          ⟨fun pins s σ H R I h => ?_⟩
  refine Call_ (ld_blt I hg hm PyProof.Rows.boot_zip (PyProof.Rows.callWith_type1
                          (thn (ha.run pos pins s σ H _ I h) fun us s1 ⟨vs, H1, I1, r1, q1⟩ => ?_) hs hpl))
  obtain ⟨rs, rfl, l0, l8, rows, k⟩ := q1
  have ei := vals_refs r1
  have I2 : Inv X pins σ H1 s1 := I1
  obtain ⟨bs, bl, be⟩ := zipUp (P := fun (r : Src) (q : Src × Array Value) => q.1 = r ∧ r.sq s1.heap q.2 ∧ @LT.lt Nat _ r.at s1.heap.objs.size) (as := rs) fun r mr => by
    obtain ⟨ys, hy⟩ := rows r mr
    obtain ⟨its, rv, p, _, l1⟩ := Src.items I2 hy
    exact ⟨(r, its.toArray), rfl, p, l1⟩
  have em : bs.map Prod.fst = rs := by
    apply List.ext_getElem?
    intro k
    rw [List.getElem?_map]
    cases e : rs[k]? with
    | none =>
      rw [List.getElem?_eq_none (by rw [bl]; exact List.getElem?_eq_none_iff.mp e)]
      rfl
    | some r =>
      obtain ⟨q, e1, e2, _⟩ := be k r e
      rw [e1, ← e2]; rfl
  have ea : us = bs.map fun q => Value.ref q.1.at := by rw [ei, ← em, List.map_map]; rfl
  rw [ea]
  have info : ∀ q : Src × Array Value, q ∈ bs → q.1.sq s1.heap q.2 ∧ @LT.lt Nat _ q.1.at s1.heap.objs.size := fun q mq => by
    obtain ⟨k, ek⟩ := List.getElem?_of_mem mq
    have : rs[k]? = some q.1 := by rw [← em, List.getElem?_map, ek]; rfl
    obtain ⟨q2, e1, e2, r⟩ := be k q.1 this
    rw [ek] at e1; cases e1
    exact r
  refine zipN_begins (s := s1) (by omega) info fun h3 zt hk3 => ?_
  rw [em] at zt
  have I3 : Inv X pins σ H1 { s1 with heap := h3 } := I2.kept (t' := s1.toks) hk3
  have D : Turn X.prog X.w X.K tg (ItZS X.K rs) (List.range' s1.heap.objs.size (rs.length + 3)) (s1.heap.objs.size + rs.length + 2) (ZTn s1.heap.objs.size rs) := turn_ZS (fun r mr => by
    obtain ⟨k, ek⟩ := List.getElem?_of_mem mr
    exact (be k r ek).choose_spec.2.2.2) l0 (by omega)
  rw [bl]
  refine D.self _ 0 _ _ _ zt ⟨s1.heap.objs.size + rs.length + 2, _, _, _, H1, rfl, I3, D, zt, fun c hcm => ?_, k⟩
  rw [List.mem_range'_1] at hcm
  exact I2.fpOk hcm.1 (I2.hok.fresh hcm.1)
end Co
end

section
set_option linter.all false
set_option maxRecDepth 100000
set_option autoImplicit false
/-! Ce: enumerate over a list or a tuple. -/
namespace Co
open PySem PySem.Spec
                        PyProof.Rows L2
set_option maxHeartbeats
                        1000000 in
theorem meets_enumerate_one {v : Value} {o : Obj} {H : Heap → Prop} (B : Begins v o H) :
    Meets (Builtin.«enumerate.__new__» ⟨[.type "enumerate", v], []⟩) (fun _ R s => H s.heap ∧
      R (.ok (.ret (.ref (s.heap.push o).objs.size))) { s with heap := (s.heap.push o).push { cls := .type "enumerate", data := .fields #[.none, .bool false, .ref s.heap.objs.size, rawInt 0, .none, .none] } }) :=
  .of_wp
                          fun prog w A R s h => by
    obtain ⟨hp, g, d, tk, os⟩ := s; obtain
                            ⟨h1, h⟩ := h
    have hsub := sub_enumerate
    have q1 : ∀ {A' : Around} {E : Value → Shared → Prop} {Q : Value → Shared → Prop}, Q (.ref hp.objs.size)
                            ⟨hp.push o, g, d, tk, os⟩ → wpAny (model prog w) A' (pyIter v) Q E ⟨hp, g, d, tk, os⟩ :=
      fun q => B.iter prog w _ _
                              ⟨hp, g, d, tk, os⟩ _ h1 q
    wp_walk using q1
    refine wpAny_stack_any
                            fun st => wpAny_pure ?_
    split
    · rename_i c _ _ _ _ _
      cases
                              (c == Value.type "enumerate")
      · wp_walk using q1
        exact ⟨_, rfl, h⟩
      · wp_walk using q1
        exact ⟨_, rfl, h⟩
    · wp_walk using q1
      exact ⟨_, rfl, h⟩
theorem enum_one {prog : Program} {w : World} {A : Around} {E : Value → Shared → Prop} {s : Shared} {v : Value} {o : Obj} {H : Heap → Prop} {Q : Value → Shared → Prop} (B : Begins v o H) (h1 : H s.heap)
    (h : ∀ h', IsEnum h' (s.heap.objs.size + 1) s.heap.objs.size 0 .none → h'.get? s.heap.objs.size = some o → h'.objs.size = s.heap.objs.size + 2 →
      (∀ b o, s.heap.get? b = some o → h'.get? b = some o) → Q
                              (.ref (s.heap.objs.size + 1)) { s with heap := h' }) :
    wpAny (model prog w) A (call (.type "enumerate") [v]) Q E s := by
  refine callType_new F.called_enumerate (by decide) (F.typeCall_enumerate_1 _)
                          (F.newCall_enumerate_1 _) (fun obj => F.args_object_init_2 obj _) F.entry_enumerate_new
    (meets_enumerate_one B) ⟨h1, ?_⟩
  have hz :
                          (s.heap.push o).objs.size = s.heap.objs.size + 1 := Heap.size_push ..
  show _ ∧ _
  rw [hz]
  have he : IsEnum ((s.heap.push o).push { cls := .type "enumerate", data := .fields #[.none, .bool false, .ref s.heap.objs.size, rawInt 0, .none, .none] }) (s.heap.objs.size + 1) s.heap.objs.size 0 .none := by
    have := Heap.get?_push_size (s.heap.push o) (o := { cls := .type "enumerate", data := .fields #[.none, .bool false, .ref s.heap.objs.size, rawInt 0, .none, .none] }) rfl
    rw [hz] at this; exact this
  refine ⟨⟨_, he, rfl⟩, h _ he (Heap.get?_push_of_some _ (Heap.get?_push_size _ B.free))
                          (by rw [Heap.size_push, hz]) fun b o x => Heap.get?_push_of_some _ (Heap.get?_push_of_some _ x)⟩
/-- the sequence at the source as it stands at each turn, each item in a new pair -/
def ItE (K : PySem.W.Frag) (r : Src) : It :=
  ⟨fun i H => ∃ (xs : List V) (x : V), r.has K H xs ∧ xs[i]? = some x, fun i H v H' => ∃ T x, v = .ref T ∧ H T = none ∧ H' = upd H T (.tup [.int (i : Nat), x]) ∧ ∀ xs, r.has K H xs → xs[i]? = some x, fun i H => ∃ xs : List V, r.has K H xs ∧ xs.length = i⟩
theorem turn_E {P : Program} {w : World} {K : PySem.W.Frag} {elts : List Expr} {kk : Nat} {tpos : Pos} (r : Src) (e it : Addr) (n1 : r.at ≠ it) (n2 : e ≠ r.at) :
    Turn P w K (.Tuple elts kk tpos) (ItE K r) [e, it] e (fun i h => (∃ old, IsEnum h e it ((i : Nat) : Int) old) ∧ r.it h it i ∧ e ≠ it) where
  mem := by simp
  obj := fun i h st b hb => by
    obtain ⟨⟨old, he⟩, hi, _⟩ := st
    have e' : b = e ∨ b =
                            it := by simpa using hb
    rcases e' with z | z
    · rw [z]; exact ⟨_, he,
                            fun v q => nomatch q⟩
    · rw [z]; exact Src.it_ob hi
  keep := fun i h h' st k => let ⟨⟨old, he⟩, hi, hne⟩ := st; ⟨⟨old, k e (by simp) _ he⟩, Src.it_at hi fun o q => k it (by simp) o q, hne⟩
  item := by
    intro X hP hw hK hc i
                            pins s σ H E I hf st hg
    subst hP hw hK
    obtain
                            ⟨⟨old, he⟩, hit, hne⟩ := st
    obtain ⟨xs, x, hq, hx⟩ := hg
    obtain ⟨its, rv, p, _, _⟩ := Src.items I hq
    obtain
                            ⟨u, hu, ru⟩ := rv.get hx
    have hel : e < s.heap.objs.size
                            := Heap.lt_size he
    have hil : it < s.heap.objs.size := by obtain ⟨_, q, _⟩ := Src.it_ob hit; exact Heap.lt_size q
    have hh : X.A.in1.handled = none := I.ok.hd hc
    have hi1 : i < its.toArray.size := by
      have := (List.getElem?_eq_some_iff.mp hu).1
      simpa using this
    refine wpAny_pyNext_enum_itemD (Src.draws (P := X.prog) (w := X.w) hh r it n1 its.toArray) he ⟨hit, p⟩ hi1 hne (by simp; exact ⟨hne, n2⟩) fun u1 h' tk hx1 ho hit' hT hsz hk => ?_
    have ex1 : u1 = u := by
      have y1' : its.toArray[i]? = some u1 := hx1
      rw [show its.toArray[i]? = some u by simpa using hu] at y1'
      exact (Option.some.inj y1').symm
    subst ex1
    refine ⟨_, rfl, wpAny_letOwnedTupleGo_enum (s := { s with heap := h', toks := tk + 1 }) ho fun h'' he' sb => ?_⟩
    have hT2 : h''.get? s.heap.objs.size = some { cls := .type "tuple", data := .seq #[.int i tk, u1] } := (sb.2 _ (Nat.ne_of_gt hel)).trans hT
    have new : ObjOk X.prog X.w (upd H s.heap.objs.size (.tup [.int
                            (i : Nat), x])) h'' s.heap.objs.size (.tup [.int (i : Nat), x]) :=
      ⟨by show 2 ≤ sizeLine; decide, [.int i tk, u1], .cons ⟨_, rfl⟩ (.cons ru .nil), ⟨_, hT2, rfl, _, rfl⟩⟩
    have I1 : Inv X pins σ (upd H s.heap.objs.size (.tup [.int (i : Nat), x])) { s with heap := h'', toks := tk + 1 } :=
      I.turnedNew (ch := [e, it]) (fun b ob hb q => (sb.2 b (fun z => hb (by simp [z]))).trans
                              (hk b ob (fun z => hb (by simp [z])) (fun z => hb (by simp [z])) q)) hf (Nat.le_refl _) new
    refine ⟨.ref s.heap.objs.size, _, I1, rfl, ⟨_, x, rfl, I.hok.fresh (Nat.le_refl _), rfl, fun ys hy => by rw [Src.inj I hy hq]; exact hx⟩, ⟨⟨u1, ?_⟩, Src.it_at hit'.1 fun o q => (sb.2 it (Ne.symm hne)).trans q, hne⟩, fun b hb => ?_⟩
    · have e1 : ((i + 1 : Nat) : Int) =
                            (i : Int) + 1 := by omega
      rw [e1]; exact he'
    · have hb' : b <
                            s.heap.objs.size := by
        have e' : b = e ∨ b =
                                it := by simpa using hb
        rcases e' with z | z
        · rw [z]; exact hel
        · rw [z]; exact hil
      rw [upd_ne
                              (Nat.ne_of_lt hb')]
      exact (hf b hb).1
  done := by
    intro X hP hw hK hc i
                            pins s σ H E I hf st hg
    subst hP hw hK
    obtain
                            ⟨⟨old, he⟩, hit, hne⟩ := st
    obtain ⟨xs, hq, hx⟩ := hg
    obtain ⟨its, rv, p, _, _⟩ := Src.items I hq
    have hh : X.A.in1.handled = none := I.ok.hd hc
    obtain ⟨f0, f1, f2, f3, f4, f5⟩ := hf it
                            (by simp)
    have hl := rv.length
    have en : i = its.toArray.size := by rw [List.size_toArray]; omega
    refine wpAny_pyNext_enum_endD (Src.draws (P := X.prog) (w := X.w) hh r it n1 its.toArray) he ⟨by rw [← en]; exact hit, p⟩ fun h' eb => ⟨rfl, I.turned (t' := s.toks) (fun b o hb q => eb b o hb q) f0 f1 f3 f4 f5⟩
  self := fun A i s Q E st h => let
                          ⟨⟨_, he⟩, _⟩ := st; wpAny_pyIter_enum he h
def iE (K : PySem.W.Frag) (ta : TA) : TI := fun σ H R => ta σ H fun vs H1 => ∃ (r : Src) (xs : List V), vs = [.ref r.at] ∧ r.has K H1 xs ∧ R (ItE K r) H1
theorem pi_E {X : Cx} {e : Expr} {ta : TA} {p pos tpos : Pos} {elts : List Expr} {kk : Nat} (hg : Gl X "enumerate") (hm : X.mg "enumerate" = none) (ha : PA X [e] ta) (hs : starEach [e] X.env = [(false, eval e X.env)]) :
    PI X (.Tuple elts kk tpos) (.Call (.Name "enumerate" p) [e] [] pos) (iE X.K ta) := by
  refine
                          ⟨fun pins s σ H R I h => ?_⟩
  refine Call_ (ld_blt I hg hm boot_enumerate (PyProof.Rows.callWith_type1 (thn
                          (ha.run pos pins s σ H _ I h) fun us s1 ⟨vs, H1, I1, r1, q1⟩ => ?_) hs rfl))
  obtain
                          ⟨a, xs, ex, hq, q⟩ := q1
  subst ex
  cases r1 with
  | cons r rr =>
    cases rr
    cases r
    obtain ⟨its, rv, p', _, la⟩ := Src.items I1 hq
    refine enum_one (Src.begins a its.toArray) p' fun h' he hit hsz hk => wpAny_pyIter_enum he ?_
    have I2 : Inv X pins σ H1 { s1 with heap := h' } := I1.kept
                            (t' := s1.toks) hk
    refine ⟨s1.heap.objs.size + 1, [s1.heap.objs.size + 1, s1.heap.objs.size], _, _, H1, rfl, I2, turn_E a (s1.heap.objs.size + 1) s1.heap.objs.size (Nat.ne_of_lt la) (Nat.ne_of_gt (Nat.lt_succ_of_lt la)), ⟨⟨.none, he⟩, Src.it_new hit, Nat.succ_ne_self _⟩, fun b hb => ?_, q⟩
    have e' : b = s1.heap.objs.size + 1 ∨ b
                            = s1.heap.objs.size := by simpa using hb
    have hle :
                            s1.heap.objs.size ≤ b := by
      rcases e' with z | z
      · rw [z]; exact
                              Nat.le_add_right _ _
      · rw [z]; exact Nat.le_refl _
    exact I1.fpOk hle
                            (I1.hok.fresh hle)
end Co
end

section
set_option linter.all false
set_option maxRecDepth 100000
set_option autoImplicit false
/-! Co12: what is walked, by values. -/
namespace Co
open PySem PySem.Spec
                        PyProof.Rows L2
def ItD (Z : Sx) (R : Rg) (H : Hp) (vs : List Val) (gd : Gd) (J : It) : Prop :=
  ∀ (R2 : Rg) (h2 : Hh) (H2 : Hp), Ext R R2 H H2 → Sim Z.K Z.C Z.bs Z.g.base R2 h2 H2 → guardOk h2 gd = true →
    (∀ (i : Nat) (v : Val), vs[i]? = some v → J.go i H2 ∧ ∀ (x : V) (H3 : Hp), J.yld i H2 x H3 → Ext R2 R2 H2 H3 ∧ Sim Z.K Z.C Z.bs Z.g.base R2 h2 H3 ∧ Den Z.K Z.C R2 H3 v x) ∧ J.stop vs.length H2
def trI (Z : Sx) (c : CE) : TI := fun σ H RR => ∃ s h R p h', Sim Z.K Z.C Z.bs Z.g.base R h H ∧ Z.g.base ≤ h.length ∧ DenS Z.K Z.C R H s σ ∧ evI Z.g c s h = .ok p h' ∧
  ∀ R' H' J, Ext R R' H H' → Sim Z.K Z.C Z.bs Z.g.base R' h' H' → DenS Z.K Z.C R' H' s σ → ItD Z R' H' p.1 p.2 J → RR J H'
def SI (T : Stc) (sc : Scope) (tg e : Expr) (c : CE) : Prop := ∀ (Z : Sx) (X : Cx), XOk T Z X sc → PI X tg e (trI Z c)
section
variable {Z : Sx} {R R' : Rg} {h : Hh} {H H' : Hp}
theorem guard_one {n : Nat} {ws : List Val} (g : guardOk h [(n, ws)] = true) : h[n]? = some (.lst ws) := by
  simp only [guardOk, Bool.and_true] at g
  split at g
  · rename_i w hw
    rw [hw, Val.beqL_eq _ _ g]
  · cases g
theorem guard_app {a b : Gd} (g : guardOk h (a ++ b) = true) : guardOk h a = true ∧ guardOk h b = true := by
  induction a with
  | nil => exact ⟨rfl, g⟩
  | cons p r ih =>
    obtain ⟨n, vs⟩ := p
    simp only [List.cons_append, guardOk, Bool.and_eq_true] at g ⊢
    exact ⟨⟨g.1, (ih g.2).1⟩, (ih g.2).2⟩
/-- where the items of a walked value stand -/
theorem itOf_src {v : Val} {x : V} {vs : List Val} {gd : Gd} (S : SimZ Z R h H) (e : itOf h v = some (vs, gd)) (d : DenZ Z R H v x) (ns : ∀ z, v ≠ .str z) :
    ∃ r : Src, x = .ref r.at ∧ ∀ (R2 : Rg) (h2 : Hh) (H2 : Hp), Ext R R2 H H2 → Sim Z.K Z.C Z.bs Z.g.base R2 h2 H2 → guardOk h2 gd = true → ∃ xs, r.has Z.K H2 xs ∧ DenLZ Z R2 H2 vs xs := by
  unfold itOf at e
  split at e
  · cases e
    obtain ⟨a, xs, rfl, t, dl⟩ := d
    exact ⟨.lst a, rfl, fun R2 h2 H2 X2 S2 g => ⟨xs, (t.mono X2).sq, dl.mono X2⟩⟩
  · cases e
    obtain ⟨a, xs, rfl, t, dl⟩ := d
    exact ⟨.tup a, rfl, fun R2 h2 H2 X2 S2 g => ⟨xs, (t.mono X2).sq, dl.mono X2⟩⟩
  · cases e
    obtain ⟨a, xs, rfl, t, dl⟩ := d
    exact ⟨.lst a, rfl, fun R2 h2 H2 X2 S2 g => ⟨xs, (t.mono X2).sq, dl.mono X2⟩⟩
  · exact absurd rfl (ns _)
  · rename_i n
    split at e
    · rename_i ws hn
      cases e
      have d' := d
      obtain ⟨a, ra, rfl⟩ := d
      refine ⟨.lst a, rfl, fun R2 h2 H2 X2 S2 g => ?_⟩
      have hg := guard_one g
      obtain ⟨b, xs, e1, t, l, dl⟩ := Den.rd S2 (d'.mono X2) (show rd h2 (.ref n) = .lst vs by simp [rd, hg])
      cases e1
      exact ⟨xs, .inl (.inl t), dl⟩
    · cases e
  · cases e
theorem srcItl {r : Src} {K : PySem.W.Frag} : ∃ J : It, (∀ a, r = .lst a → J = Itl K a) ∧ (∀ a, r = .tup a → J = Itt K a) := by
  cases r with
  | lst a => exact ⟨Itl K a, fun b e => by cases e; rfl, fun b e => by cases e⟩
  | tup a => exact ⟨Itt K a, fun b e => by (cases e), fun b e => by cases e; rfl⟩
theorem itOf2_of {v : Val} {p : List Val × Gd} (e : itOf2 h v = some p) : itOf h v = some p ∧ ∀ z, v ≠ .str z := by
  unfold itOf2 at e
  split at e
  · cases e
  · rename_i hn
    exact ⟨e, hn⟩
theorem itOfL_src {v : Val} {x : V} {vs : List Val} {gd : Gd} (S : SimZ Z R h H) (e : itOfL h v = some (vs, gd)) (d : DenZ Z R H v x) :
    ∃ a, x = .ref a ∧ ∀ (R2 : Rg) (h2 : Hh) (H2 : Hp), Ext R R2 H H2 → Sim Z.K Z.C Z.bs Z.g.base R2 h2 H2 → guardOk h2 gd = true → ∃ xs, SqL Z.K H2 a xs ∧ DenLZ Z R2 H2 vs xs := by
  unfold itOfL at e
  split at e
  · cases e
    obtain ⟨a, xs, rfl, t, dl⟩ := d
    exact ⟨a, rfl, fun R2 h2 H2 X2 S2 g => ⟨xs, (t.mono X2).sq, dl.mono X2⟩⟩
  · cases e
    obtain ⟨a, xs, rfl, t, dl⟩ := d
    exact ⟨a, rfl, fun R2 h2 H2 X2 S2 g => ⟨xs, (t.mono X2).sq, dl.mono X2⟩⟩
  · rename_i n
    simp only [itOf] at e
    split at e
    · rename_i ws hn
      cases e
      have d' := d
      obtain ⟨a, ra, rfl⟩ := d
      refine ⟨a, rfl, fun R2 h2 H2 X2 S2 g => ?_⟩
      have hg := guard_one g
      obtain ⟨b, xs, e1, t, l, dl⟩ := Den.rd S2 (d'.mono X2) (show rd h2 (.ref n) = .lst vs by simp [rd, hg])
      cases e1
      exact ⟨xs, .inl (.inl t), dl⟩
    · cases e
  · cases e
theorem of_itD {v : Val} {x : V} {vs : List Val} {gd : Gd} (S : SimZ Z R h H) (e : itOf h v = some (vs, gd)) (g0 : guardOk h gd = true) (d : DenZ Z R H v x) :
    (∃ a, x = .ref a ∧ (∃ xs, SqL Z.K H a xs) ∧ ItD Z R H vs gd (Itl Z.K a)) ∨ (∃ a, x = .ref a ∧ (∃ xs, SqT Z.K H a xs) ∧ ItD Z R H vs gd (Itt Z.K a)) ∨ ∃ z, x = .str z ∧ ItD Z R H vs gd (Its z) := by
  by_cases hs : ∃ z, v = .str z
  · obtain ⟨z, rfl⟩ := hs
    simp only [itOf] at e
    cases e
    refine .inr (.inr ⟨z, d, fun R2 h2 H2 X2 S2 g => ⟨fun i v hv => ?_, ?_⟩⟩)
    · simp only [List.getElem?_map, Option.map_eq_some_iff] at hv
      obtain ⟨c, hc, rfl⟩ := hv
      have hc' : z.cps[i]? = some c := by simpa using hc
      refine ⟨(Array.getElem?_eq_some_iff.mp hc').1, fun x H3 ⟨e1, c2, e2, e3⟩ => ?_⟩
      subst e1
      rw [hc'] at e2
      cases e2
      exact ⟨Ext.refl _ _, S2, e3⟩
    · show z.cps.size ≤ _
      simp
  · obtain ⟨r, hx, hr⟩ := itOf_src S e d fun z q => hs ⟨z, q⟩
    obtain ⟨xs0, h0, _⟩ := hr R h H (Ext.refl _ _) S g0
    cases r with
    | lst a =>
      refine .inl ⟨a, hx, ⟨xs0, h0⟩, fun R2 h2 H2 X2 S2 g => ?_⟩
      obtain ⟨xs, hq, dl⟩ := hr R2 h2 H2 X2 S2 g
      refine ⟨fun i v hv => ?_, ⟨xs, hq, Nat.le_of_eq dl.length.symm⟩⟩
      obtain ⟨y, hy, dy⟩ := dl.get hv
      refine ⟨⟨xs, y, hq, hy⟩, fun x H3 ⟨e1, e2⟩ => ?_⟩
      subst e1
      have := e2 xs hq
      rw [hy] at this
      cases this
      exact ⟨Ext.refl _ _, S2, dy⟩
    | tup a =>
      refine .inr (.inl ⟨a, hx, ⟨xs0, h0⟩, fun R2 h2 H2 X2 S2 g => ?_⟩)
      obtain ⟨xs, hq, dl⟩ := hr R2 h2 H2 X2 S2 g
      refine ⟨fun i v hv => ?_, ⟨xs, hq, Nat.le_of_eq dl.length.symm⟩⟩
      obtain ⟨y, hy, dy⟩ := dl.get hv
      refine ⟨⟨xs, y, hq, hy⟩, fun x H3 ⟨e1, e2⟩ => ?_⟩
      subst e1
      have := e2 xs hq
      rw [hy] at this
      cases this
      exact ⟨Ext.refl _ _, S2, dy⟩
theorem guard_of {v : Val} {vs : List Val} {gd : Gd} (e : itOf h v = some (vs, gd)) : guardOk h gd = true := by
  unfold itOf at e
  split at e <;> first | (cases e; rfl) | skip
  · rename_i n
    split at e
    · rename_i ws hn
      cases e
      simp only [guardOk, hn, Bool.and_true]
      exact Val.beqL_refl _
    · cases e
  · cases e
theorem guard_ofL {v : Val} {vs : List Val} {gd : Gd} (e : itOfL h v = some (vs, gd)) : guardOk h gd = true := by
  unfold itOfL at e
  split at e <;> first | (cases e; rfl) | exact guard_of e | cases e
theorem rangeL_get : ∀ (n : Nat) (lo : Int) (i : Nat) (v : Val), (rangeL lo n)[i]? = some v → i < n ∧ v = .int (lo + i)
  | 0, lo, i, v, e => by simp [rangeL] at e
  | n + 1, lo, 0, v, e => by
    simp [rangeL] at e
    exact ⟨Nat.succ_pos _, by rw [← e]; simp⟩
  | n + 1, lo, i + 1, v, e => by
    simp only [rangeL, List.getElem?_cons_succ] at e
    obtain ⟨h1, h2⟩ := rangeL_get n (lo + 1) i v e
    exact ⟨Nat.succ_lt_succ h1, by rw [h2]; congr 1; omega⟩
theorem rangeL_len : ∀ (n : Nat) (lo : Int), (rangeL lo n).length = n
  | 0, _ => rfl
  | n + 1, lo => by rw [rangeL, List.length_cons, rangeL_len]
theorem range_itD (lo : Int) (n : Nat) : ItD Z R H (rangeL lo n) [] (Itr lo n) := fun R2 h2 H2 X2 S2 g => by
  refine ⟨fun i v hv => ?_, ?_⟩
  · obtain ⟨h1, h2⟩ := rangeL_get n lo i v hv
    subst h2
    refine ⟨h1, fun x H3 ⟨e1, e2⟩ => ?_⟩
    subst e1
    exact ⟨Ext.refl _ _, S2, e2⟩
  · show n ≤ _
    rw [rangeL_len]
    exact Nat.le_refl _
theorem enum_get : ∀ (vs : List Val) (n i : Nat) (v : Val), (enumFrom n vs)[i]? = some v → ∃ w, vs[i]? = some w ∧ v = .tup [.int ((n + i : Nat) : Int), w]
  | [], n, i, v, e => by simp [enumFrom] at e
  | w :: r, n, 0, v, e => by
    simp [enumFrom] at e
    exact ⟨w, rfl, by rw [← e]; simp⟩
  | w :: r, n, i + 1, v, e => by
    simp only [enumFrom, List.getElem?_cons_succ] at e
    obtain ⟨u, h1, h2⟩ := enum_get r (n + 1) i v e
    exact ⟨u, by simpa using h1, by rw [h2, show n + 1 + i = n + (i + 1) by omega]⟩
theorem enum_len : ∀ (vs : List Val) (n : Nat), (enumFrom n vs).length = vs.length
  | [], _ => rfl
  | w :: r, n => by rw [enumFrom, List.length_cons, enum_len, List.length_cons]
theorem pairs_get : ∀ (vs ws : List Val) (i : Nat) (v : Val), (pairs vs ws)[i]? = some v → ∃ a b, vs[i]? = some a ∧ ws[i]? = some b ∧ v = .tup [a, b]
  | [], ws, i, v, e => by simp [pairs] at e
  | _ :: _, [], i, v, e => by simp [pairs] at e
  | a :: r, b :: s, 0, v, e => by
    simp [pairs] at e
    exact ⟨a, b, rfl, rfl, e.symm⟩
  | a :: r, b :: s, i + 1, v, e => by
    simp only [pairs, List.getElem?_cons_succ] at e
    obtain ⟨x, y, h1, h2, h3⟩ := pairs_get r s i v e
    exact ⟨x, y, by simpa using h1, by simpa using h2, h3⟩
theorem pairs_len : ∀ (vs ws : List Val), (pairs vs ws).length = min vs.length ws.length
  | [], ws => by simp [pairs]
  | _ :: _, [] => by simp [pairs]
  | a :: r, b :: s => by rw [pairs, List.length_cons, pairs_len, List.length_cons, List.length_cons]; omega
/-- a pair just made -/
theorem pair_new {R2 : Rg} {h2 : Hh} {H2 : Hp} {T : Addr} {a b : Val} {x y : V} (S2 : Sim Z.K Z.C Z.bs Z.g.base R2 h2 H2) (n : H2 T = none) (da : DenZ Z R2 H2 a x) (db : DenZ Z R2 H2 b y) :
    Ext R2 R2 H2 (upd H2 T (.tup [x, y])) ∧ Sim Z.K Z.C Z.bs Z.g.base R2 h2 (upd H2 T (.tup [x, y])) ∧ Den Z.K Z.C R2 (upd H2 T (.tup [x, y])) (.tup [a, b]) (.ref T) := by
  have X2 : Ext R2 R2 H2 (upd H2 T (.tup [x, y])) := Ext.new n
  exact ⟨X2, S2.new n, ⟨T, [x, y], rfl, ⟨by rw [sz]; show 2 ≤ 16777216; decide, .inl ⟨.inl upd_same, S2.notin n⟩⟩, ⟨x, [y], rfl, da.mono X2, y, [], rfl, db.mono X2, rfl⟩⟩⟩
end
section
variable {T : Stc} {sc : Scope} {a b c : Expr} {ca cb cc : CE} {pos : Pos} {tg : Expr}
theorem of_i (ha : SE T sc a ca) : SI T sc tg a (.of ca) := fun Z X ok => by
  refine ⟨fun pins s σ H RR I hh => ?_⟩
  obtain ⟨se, h0, R, p, h1, S, b0, D, e, k⟩ := hh
  simp only [evI] at e
  obtain ⟨w, h2, e1, e⟩ := Res.bind_eq e
  obtain ⟨e2, rfl⟩ := opt_eq e
  obtain ⟨vs, gd⟩ := p
  refine (pi_any (ha Z X ok)).run pins _ σ H RR I ?_
  refine one S b0 D e1 fun R' H' x X' S' b' D' dx => ?_
  rw [← ok.K]
  rcases of_itD S' e2 (guard_of e2) dx with ⟨y, q1, q2, q3⟩ | ⟨y, q1, q2, q3⟩ | ⟨y, q1, q3⟩
  · exact .inl ⟨y, q1, q2, k R' H' _ X' S' D' q3⟩
  · exact .inr (.inl ⟨y, q1, q2, k R' H' _ X' S' D' q3⟩)
  · exact .inr (.inr ⟨y, q1, k R' H' _ X' S' D' q3⟩)
theorem range1_i {p : Pos} (hg : isGl sc "range" = true) (hm : ("range" : Str) ∈ T.blt) (hs : starred a = false) (hc : starC ca = false) (ha : SE T sc a ca) : SI T sc tg (.Call (.Name "range" p) [a] [] pos) (.range1 ca) := fun Z X ok => by
  refine ⟨fun pins s σ H RR I hh => ?_⟩
  obtain ⟨se, h0, R, q, h1, S, b0, D, e, k⟩ := hh
  simp only [evI] at e
  obtain ⟨w, h2, e1, e⟩ := Res.bind_eq e
  split at e
  case h_2 => cases e
  split at e
  case isFalse => cases e
  rename_i j hj
  cases e
  have e2 : evEs Z.g [ca] se h0 = .ok [.int j] h1 := by rw [evEs_cons hc, e1]; rfl
  refine (pi_range1 (gl_of ok hg) (ok.blt _ hm) (cons_a hs hc ha nil_a Z X ok) (star1 hs)).run pins _ σ H RR I ?_
  refine more S b0 D e2 fun R' H' xs X' S' b' D' dx => ?_
  obtain ⟨x, ys, rfl, d1, d2⟩ := dx
  rw [show ys = [] from d2, show x = .int j from d1]
  exact ⟨j, rfl, by have : lim = 16777216 := rfl; omega, by have : lim = 16777216 := rfl; omega, k R' H' _ X' S' D' (range_itD 0 j.toNat)⟩
theorem range2_i {p : Pos} (hg : isGl sc "range" = true) (hm : ("range" : Str) ∈ T.blt) (hs : starred a = false) (hc : starC ca = false) (hs2 : starred b = false) (hc2 : starC cb = false) (ha : SE T sc a ca) (hb : SE T sc b cb) :
    SI T sc tg (.Call (.Name "range" p) [a, b] [] pos) (.range2 ca cb) := fun Z X ok => by
  refine ⟨fun pins s σ H RR I hh => ?_⟩
  obtain ⟨se, h0, R, q, h1, S, b0, D, e, k⟩ := hh
  simp only [evI] at e
  obtain ⟨w, h2, e1, e⟩ := Res.bind_eq e
  obtain ⟨w2, h3, e2, e⟩ := Res.bind_eq e
  split at e
  case h_2 => cases e
  rename_i i j e0
  split at e
  case isFalse => cases e
  rename_i hj
  cases e
  have e3 : evEs Z.g [ca, cb] se h0 = .ok [.int i, .int j] h1 := by rw [evEs_cons hc, e1, Res.bind_ok, evEs_cons hc2, e2]; rfl
  refine (pi_range2 (gl_of ok hg) (ok.blt _ hm) (cons_a hs hc ha (cons_a hs2 hc2 hb nil_a) Z X ok) ((star1 hs).trans (by rw [star1 hs2]; rfl)) (star1 hs2)).run pins _ σ H RR I ?_
  refine more S b0 D e3 fun R' H' xs X' S' b' D' dx => ?_
  obtain ⟨x, ys, rfl, d1, y, zs, rfl, d2, d3⟩ := dx
  rw [show zs = [] from d3, show x = .int i from d1, show y = .int j from d2]
  have hl : lim = 16777216 := rfl
  exact ⟨i, j, rfl, ⟨by omega, by omega, by omega, by omega⟩, k R' H' _ X' S' D' (range_itD i (j - i).toNat)⟩
theorem zip_i {p tpos : Pos} {elts : List Expr} {kk : Nat} (hg : isGl sc "zip" = true) (hm : ("zip" : Str) ∈ T.blt) (hs : starred a = false) (hc : starC ca = false) (hs2 : starred b = false) (hc2 : starC cb = false) (ha : SE T sc a ca) (hb : SE T sc b cb) :
    SI T sc (.Tuple elts kk tpos) (.Call (.Name "zip" p) [a, b] [] pos) (.zip ca cb) := fun Z X ok => by
  refine ⟨fun pins s σ H RR I hh => ?_⟩
  obtain ⟨se, h0, R, q, h1, S, b0, D, e, k⟩ := hh
  simp only [evI] at e
  obtain ⟨w, h2, e1, e⟩ := Res.bind_eq e
  obtain ⟨w2, h3, e2, e⟩ := Res.bind_eq e
  split at e
  case h_2 => cases e
  rename_i vs gd ws gd2 hv hw
  cases e
  have e3 : evEs Z.g [ca, cb] se h0 = .ok [w, w2] h1 := by rw [evEs_cons hc, e1, Res.bind_ok, evEs_cons hc2, e2]; rfl
  have hz : noStar [b] = true := by simp [noStar, hs2]
  refine (pi_Z (gl_of ok hg) (ok.blt _ hm) (cons_a hs hc ha (cons_a hs2 hc2 hb nil_a) Z X ok) (star1 hs) (any_no hz)).run pins _ σ H RR I ?_
  refine more S b0 D e3 fun R' H' xs X' S' b' D' dx => ?_
  obtain ⟨x, ys, rfl, d1, y, zs, rfl, d2, d3⟩ := dx
  rw [show zs = [] from d3]
  obtain ⟨hv, n1⟩ := itOf2_of hv
  obtain ⟨hw, n2⟩ := itOf2_of hw
  obtain ⟨r, rfl, hr⟩ := itOf_src S' hv d1 n1
  obtain ⟨q, rfl, hq⟩ := itOf_src S' hw d2 n2
  obtain ⟨xs0, f1, _⟩ := hr R' h1 H' (Ext.refl _ _) S' (guard_of hv)
  obtain ⟨ys0, f2, _⟩ := hq R' h1 H' (Ext.refl _ _) S' (guard_of hw)
  rw [← ok.K]
  refine ⟨r, q, xs0, ys0, rfl, f1, f2, k R' H' _ X' S' D' fun R2 h2 H2 X2 S2 g => ?_⟩
  obtain ⟨g1, g2⟩ := guard_app g
  obtain ⟨xs2, k1, dl1⟩ := hr R2 h2 H2 X2 S2 g1
  obtain ⟨ys2, k2, dl2⟩ := hq R2 h2 H2 X2 S2 g2
  refine ⟨fun i v hv2 => ?_, ?_⟩
  · obtain ⟨a1, b1, q1, q2, rfl⟩ := pairs_get vs ws i v hv2
    obtain ⟨x1, j1, e1'⟩ := dl1.get q1
    obtain ⟨y1, j2, e2'⟩ := dl2.get q2
    refine ⟨⟨xs2, ys2, x1, y1, k1, k2, j1, j2⟩, fun x3 H3 ⟨TT, x4, y4, u1, u2, u3, u4, u5⟩ => ?_⟩
    have v1 := u4 xs2 k1
    have v2 := u5 ys2 k2
    rw [j1] at v1; cases v1
    rw [j2] at v2; cases v2
    subst u1 u3
    exact pair_new S2 u2 e1' e2'
  · rw [pairs_len]
    have l1 := dl1.length
    have l2 := dl2.length
    exact ⟨xs2, ys2, k1, k2, by omega, by omega, by omega⟩
theorem rows_src {Z : Sx} {R : Rg} {h : Hh} {H : Hp} (S : SimZ Z R h H) : ∀ {rows : List Val} {xs : List V} {xss : List (List Val)} {gd : Gd}, DenLZ Z R H rows xs → itsOf h rows = some (xss, gd) →
    ∃ rs : List Src, xs = rs.map (fun q => .ref q.at) ∧ rs.length = xss.length ∧ guardOk h gd = true ∧ ∀ (k : Nat) (r : Src) (vs : List Val), rs[k]? = some r → xss[k]? = some vs → ∀ (R2 : Rg) (h2 : Hh) (H2 : Hp), Ext R R2 H H2 → Sim Z.K Z.C Z.bs Z.g.base R2 h2 H2 → guardOk h2 gd = true → ∃ ys, r.has Z.K H2 ys ∧ DenLZ Z R2 H2 vs ys
  | [], xs, xss, gd, d, e => by
    cases e
    rw [show xs = [] from d]
    exact ⟨[], rfl, rfl, rfl, fun k r vs e => by cases e⟩
  | v :: rows, xs, xss, gd, d, e => by
    obtain ⟨x, ys, rfl, d1, d2⟩ := d
    simp only [itsOf] at e
    obtain ⟨p, e1, e⟩ := Option.bind_eq_some_iff.mp e
    obtain ⟨q, e2, e⟩ := Option.map_eq_some_iff.mp e
    cases e
    obtain ⟨e1, n1⟩ := itOf2_of e1
    obtain ⟨r, rfl, hr⟩ := itOf_src S e1 d1 n1
    obtain ⟨rs, rfl, l, g, k⟩ := rows_src S d2 e2
    refine ⟨r :: rs, rfl, by rw [List.length_cons, l, List.length_cons], ?_, fun j r' vs a b R2 h2 H2 X2 S2 g2 => ?_⟩
    · have g1 := guard_of e1
      have app : ∀ (a b : Gd), guardOk h a = true → guardOk h b = true → guardOk h (a ++ b) = true := fun a b ga gb => by
        induction a with
        | nil => exact gb
        | cons p r ih =>
          obtain ⟨n, vs⟩ := p
          simp only [List.cons_append, guardOk, Bool.and_eq_true] at ga ⊢
          exact ⟨ga.1, ih ga.2⟩
      exact app _ _ g1 g
    · obtain ⟨ga, gb⟩ := guard_app g2
      cases j with
      | zero => cases a; cases b; exact hr R2 h2 H2 X2 S2 ga
      | succ j => exact k j r' vs a b R2 h2 H2 X2 S2 gb
theorem itsOf_len {h : Hh} : ∀ {rows : List Val} {xss : List (List Val)} {gd : Gd}, itsOf h rows = some (xss, gd) → xss.length = rows.length
  | [], _, _, e => by cases e; rfl
  | v :: rows, xss, gd, e => by
    simp only [itsOf] at e
    obtain ⟨p, e1, e⟩ := Option.bind_eq_some_iff.mp e
    obtain ⟨q, e2, e⟩ := Option.map_eq_some_iff.mp e
    cases e
    rw [List.length_cons, itsOf_len e2, List.length_cons]
theorem minLen_le : ∀ {xss : List (List Val)} {x : List Val}, x ∈ xss → minLen xss ≤ x.length
  | [y], x, m => by rw [List.mem_singleton.mp m]; exact Nat.le_refl _
  | y :: z :: r, x, m => by
    rw [minLen]
    · rcases List.mem_cons.mp m with rfl | m
      · exact Nat.min_le_left _ _
      · exact Nat.le_trans (Nat.min_le_right _ _) (minLen_le m)
    · nofun
theorem minLen_eq : ∀ {xss : List (List Val)}, xss ≠ [] → ∃ x ∈ xss, minLen xss = x.length
  | [y], _ => ⟨y, List.mem_singleton_self _, rfl⟩
  | y :: z :: r, _ => by
    obtain ⟨x, m, e⟩ := minLen_eq (xss := z :: r) (by nofun)
    by_cases c : y.length ≤ minLen (z :: r)
    · exact ⟨y, List.mem_cons_self, by rw [minLen]; exact Nat.min_eq_left c; nofun⟩
    · exact ⟨x, List.mem_cons_of_mem _ m, by rw [minLen, ← e]; exact Nat.min_eq_right (by omega); nofun⟩
theorem filt_all {xss : List (List Val)} {i : Nat} (h : ∀ x ∈ xss, i < x.length) : (xss.filterMap (·[i]?)).length = xss.length ∧ ∀ (k : Nat) (x : List Val), xss[k]? = some x → (xss.filterMap (·[i]?))[k]? = x[i]? := by
  induction xss with
  | nil => exact ⟨rfl, fun k x e => by cases e⟩
  | cons y r ih =>
    obtain ⟨a, b⟩ := ih fun x m => h x (List.mem_cons_of_mem _ m)
    have yl := h y List.mem_cons_self
    rw [List.filterMap_cons_some (f := fun x : List Val => x[i]?) (List.getElem?_eq_getElem yl)]
    refine ⟨by rw [List.length_cons, a, List.length_cons], fun k x e => ?_⟩
    cases k with
    | zero => cases e; exact (List.getElem?_eq_getElem yl).symm
    | succ k => exact b k x e
theorem denL_ext {Z : Sx} {R : Rg} {H : Hp} : ∀ {vs : List Val} {xs : List V}, vs.length = xs.length → (∀ (k : Nat) (v : Val) (x : V), vs[k]? = some v → xs[k]? = some x → DenZ Z R H v x) → DenLZ Z R H vs xs
  | [], [], _, _ => rfl
  | v :: vs, x :: xs, l, k => ⟨x, xs, rfl, k 0 v x rfl rfl, denL_ext (Nat.succ.inj l) fun j => k (j + 1)⟩
theorem tup_new {Z : Sx} {R2 : Rg} {h2 : Hh} {H2 : Hp} {T : Addr} {vs : List Val} {ys : List V} (S2 : Sim Z.K Z.C Z.bs Z.g.base R2 h2 H2) (n : H2 T = none) (few : ys.length ≤ 16) (d : DenLZ Z R2 H2 vs ys) :
    Ext R2 R2 H2 (upd H2 T (.tup ys)) ∧ Sim Z.K Z.C Z.bs Z.g.base R2 h2 (upd H2 T (.tup ys)) ∧ Den Z.K Z.C R2 (upd H2 T (.tup ys)) (.tup vs) (.ref T) := by
  have X2 : Ext R2 R2 H2 (upd H2 T (.tup ys)) := Ext.new n
  exact ⟨X2, S2.new n, ⟨T, ys, rfl, ⟨by rw [sz]; show ys.length ≤ 16777216; omega, .inl ⟨.inl upd_same, S2.notin n⟩⟩, d.mono X2⟩⟩
theorem zipS_i {p px pz : Pos} {x : Str} (hg : isGl sc "zip" = true) (hm : ("zip" : Str) ∈ T.blt) (ha : SE T sc a ca) :
    SI T sc (.Name x px) (.Call (.Name "zip" p) [.Starred a pz] [] pos) (.zipS ca) := fun Z X ok => by
  refine ⟨fun pins s σ H RR I hh => ?_⟩
  obtain ⟨se, h0, R, q, h1, S, b0, D, e, k⟩ := hh
  simp only [evI] at e
  obtain ⟨w, h2, e1, e⟩ := Res.bind_eq e
  split at e
  case h_2 => cases e
  rename_i rows gd0 hv
  split at e
  case h_2 => cases e
  rename_i xss gd hx
  split at e
  case isFalse => cases e
  rename_i few
  cases e
  refine (pi_ZS (gl_of ok hg) (ok.blt _ hm) (ha Z X ok)).run pins _ σ H RR I ?_
  refine one S b0 D e1 fun R' H' v X' S' b' D' dx => ?_
  rw [← ok.K]
  obtain ⟨hv, n1⟩ := itOf2_of hv
  obtain ⟨r, rfl, hr⟩ := itOf_src S' hv dx n1
  obtain ⟨xs, f1, dl⟩ := hr R' h1 H' (Ext.refl _ _) S' (guard_of hv)
  obtain ⟨rs, rfl, l, g0, src⟩ := rows_src S' dl hx
  have ll := itsOf_len hx
  refine ⟨r, rs, rfl, f1, by omega, by omega, fun q mq => ?_, k R' H' _ X' S' D' fun R2 h2 H2 X2 S2 g => ?_⟩
  · obtain ⟨j, ej⟩ := List.getElem?_of_mem mq
    have jl : j < xss.length := by rw [← l]; exact (List.getElem?_eq_some_iff.mp ej).1
    obtain ⟨ys, hy, _⟩ := src j q xss[j] ej (List.getElem?_eq_getElem jl) R' h1 H' (Ext.refl _ _) S' g0
    exact ⟨ys, hy⟩
  · refine ⟨fun i v hv2 => ?_, ?_⟩
    · unfold colsL at hv2
      obtain ⟨i', ei, rfl⟩ := List.getElem?_map .. ▸ hv2 |> Option.map_eq_some_iff.mp
      obtain ⟨il, rfl⟩ : i < minLen xss ∧ i' = i := by
        have := List.getElem?_eq_some_iff.mp ei
        obtain ⟨a, b⟩ := this
        rw [List.length_range] at a
        rw [List.getElem_range] at b
        exact ⟨a, b.symm⟩
      have lt : ∀ x ∈ xss, i' < x.length := fun x m => Nat.lt_of_lt_of_le il (minLen_le m)
      obtain ⟨fl, fk⟩ := filt_all lt
      refine ⟨fun q mq => ?_, fun x3 H3 ⟨TT, ys, u1, u2, u3, u4, u5⟩ => ?_⟩
      · obtain ⟨j, ej⟩ := List.getElem?_of_mem mq
        have jl : j < xss.length := by rw [← l]; exact (List.getElem?_eq_some_iff.mp ej).1
        obtain ⟨ys, hy, dy⟩ := src j q xss[j] ej (List.getElem?_eq_getElem jl) R2 h2 H2 X2 S2 g
        obtain ⟨y, q1, _⟩ := dy.get (List.getElem?_eq_getElem (lt xss[j] (List.getElem_mem jl)))
        exact ⟨ys, y, hy, q1⟩
      · subst u1 u3
        refine tup_new S2 u2 (by omega) (denL_ext (by omega) fun j v x e1 e2 => ?_)
        have jl : j < rs.length := by rw [← u4]; exact (List.getElem?_eq_some_iff.mp e2).1
        have jx : j < xss.length := by omega
        obtain ⟨zs, hz, dz⟩ := src j rs[j] xss[j] (List.getElem?_eq_getElem jl) (List.getElem?_eq_getElem jx) R2 h2 H2 X2 S2 g
        have := u5 j rs[j] (List.getElem?_eq_getElem jl) zs hz
        rw [e2] at this
        rw [fk j xss[j] (List.getElem?_eq_getElem jx)] at e1
        obtain ⟨y, q1, q2⟩ := dz.get e1
        rw [q1] at this; cases this
        exact q2
    · show (∀ r ∈ rs, _) ∧ _
      rw [show (colsL xss).length = minLen xss by unfold colsL; rw [List.length_map, List.length_range]]
      refine ⟨fun q mq => ?_, ?_⟩
      · obtain ⟨j, ej⟩ := List.getElem?_of_mem mq
        have jl : j < xss.length := by rw [← l]; exact (List.getElem?_eq_some_iff.mp ej).1
        obtain ⟨ys, hy, dy⟩ := src j q xss[j] ej (List.getElem?_eq_getElem jl) R2 h2 H2 X2 S2 g
        exact ⟨ys, hy, by rw [← dy.length]; exact minLen_le (List.getElem_mem jl)⟩
      · obtain ⟨x, mx, ex⟩ := minLen_eq (xss := xss) (by intro e; rw [e] at ll; simp at ll; omega)
        obtain ⟨j, ej⟩ := List.getElem?_of_mem mx
        have jl : j < rs.length := by rw [l]; exact (List.getElem?_eq_some_iff.mp ej).1
        obtain ⟨ys, hy, dy⟩ := src j rs[j] x (List.getElem?_eq_getElem jl) ej R2 h2 H2 X2 S2 g
        exact ⟨rs[j], ys, List.getElem_mem jl, hy, by rw [ex, dy.length]⟩
theorem enum_i {p tpos : Pos} {elts : List Expr} {kk : Nat} (hg : isGl sc "enumerate" = true) (hm : ("enumerate" : Str) ∈ T.blt) (hs : starred a = false) (hc : starC ca = false) (ha : SE T sc a ca) :
    SI T sc (.Tuple elts kk tpos) (.Call (.Name "enumerate" p) [a] [] pos) (.enum ca) := fun Z X ok => by
  refine ⟨fun pins s σ H RR I hh => ?_⟩
  obtain ⟨se, h0, R, q, h1, S, b0, D, e, k⟩ := hh
  simp only [evI] at e
  obtain ⟨w, h2, e1, e⟩ := Res.bind_eq e
  split at e
  case h_2 => cases e
  rename_i vs gd hv
  cases e
  have e2 : evEs Z.g [ca] se h0 = .ok [w] h1 := by rw [evEs_cons hc, e1]; rfl
  refine (pi_E (gl_of ok hg) (ok.blt _ hm) (cons_a hs hc ha nil_a Z X ok) (star1 hs)).run pins _ σ H RR I ?_
  refine more S b0 D e2 fun R' H' xs X' S' b' D' dx => ?_
  obtain ⟨x, ys, rfl, d1, d2⟩ := dx
  rw [show ys = [] from d2]
  obtain ⟨hv, n1⟩ := itOf2_of hv
  obtain ⟨a, rfl, hr⟩ := itOf_src S' hv d1 n1
  obtain ⟨xs0, f1, _⟩ := hr R' h1 H' (Ext.refl _ _) S' (guard_of hv)
  rw [← ok.K]
  refine ⟨a, xs0, rfl, f1, k R' H' _ X' S' D' fun R2 h2 H2 X2 S2 g => ?_⟩
  obtain ⟨xs2, k1, dl1⟩ := hr R2 h2 H2 X2 S2 g
  refine ⟨fun i v hv2 => ?_, ⟨xs2, k1, by rw [enum_len, dl1.length]⟩⟩
  obtain ⟨u, q1, rfl⟩ := enum_get vs 0 i v hv2
  obtain ⟨x1, j1, e1'⟩ := dl1.get q1
  refine ⟨⟨xs2, x1, k1, j1⟩, fun x3 H3 ⟨TT, x4, u1, u2, u3, u4⟩ => ?_⟩
  have v1 := u4 xs2 k1
  rw [j1] at v1; cases v1
  subst u1 u3
  rw [Nat.zero_add]
  exact pair_new S2 u2 rfl e1'
end
end Co
end

section
set_option linter.all false
set_option maxRecDepth 100000
set_option autoImplicit false
/-! Co13: comprehensions. -/
namespace Co
open PySem PySem.Spec
                        PyProof.Rows L2
/-! ### regions -/
section
variable {K : PySem.W.Frag} {C : Nat → Addr} {R R' : Rg} {H : Hp}
/-- another region under the same heap -/
structure Sub (R R' : Rg) : Prop where
  own : ∃ r, R'.own = R.own ++ r
  out : ∀ a, a ∉ R → a ∉ R'
mutual
theorem Den.sub (e : Sub R R') : ∀ (v : Val) (x : V), Den K C R H v x → Den K C R' H v x
  | .non, _, h => h
  | .bl _, _, h => h
  | .int _, _, h => h
  | .str _, _, h => h
  | .tup vs, x, h => by
    obtain ⟨a, xs, q, t, d⟩ := h
    exact ⟨a, xs, q, ⟨t.1, t.2.elim (fun z => .inl ⟨z.1, e.out a z.2⟩) .inr⟩, DenL.sub e vs xs d⟩
  | .lst vs, x, h => by
    obtain ⟨a, xs, q, t, d⟩ := h
    exact ⟨a, xs, q, ⟨t.1, t.2.1, e.out a t.2.2⟩, DenL.sub e vs xs d⟩
  | .ro vs, x, h => by
    obtain ⟨a, xs, q, t, d⟩ := h
    exact ⟨a, xs, q, ⟨t.1, t.2.elim (fun z => .inl ⟨z.1, e.out a z.2⟩) .inr⟩, DenL.sub e vs xs d⟩
  | .dct vs, x, h => by
    obtain ⟨a, xs, q, t, n, d⟩ := h
    exact ⟨a, xs, q, t, e.out a n, DenK.sub e vs xs d⟩
  | .ins c vs, x, h => by
    obtain ⟨a, dx, gs, q, t, n, d⟩ := h
    exact ⟨a, dx, gs, q, t, e.out a n, DenK.sub e vs _ d⟩
  | .ref n, x, h => by
    obtain ⟨a, q, r⟩ := h
    obtain ⟨r', er⟩ := e.own
    exact ⟨a, by rw [er, List.getElem?_append_left (List.getElem?_eq_some_iff.mp q).1]; exact q, r⟩
theorem DenL.sub (e : Sub R R') : ∀ (vs : List Val) (xs : List V), DenL K C R H vs xs → DenL K C R' H vs xs
  | [], _, h => h
  | v :: r, _, h => by
    obtain ⟨x, ys, q, d, d2⟩ := h
    exact ⟨x, ys, q, Den.sub e v x d, DenL.sub e r ys d2⟩
theorem DenK.sub (e : Sub R R') : ∀ (vs : List (Key × Val)) (xs : List (Key × V)), DenK K C R H vs xs → DenK K C R' H vs xs
  | [], _, h => h
  | (k, v) :: r, _, h => by
    obtain ⟨x, ys, q, d, d2⟩ := h
    exact ⟨x, ys, q, Den.sub e v x d, DenK.sub e r ys d2⟩
end
theorem ObD.sub (e : Sub R R') {ob : Ob} {u : Option HO} (q : ObD K C R H ob u) : ObD K C R' H ob u := by
  cases ob with
  | lst vs =>
    cases u with
    | none => exact q.elim
    | some u => cases u <;> first | exact q.elim | exact ⟨q.1, q.2.sub e⟩
  | ins c kvs =>
    cases u with
    | none => exact q.elim
    | some u => cases u <;> first | exact q.elim | exact ⟨q.1, DenK.sub e _ _ q.2⟩
theorem DenS.sub {s : Env} {σ : L2.St} (d : DenS K C R H s σ) (e : Sub R R') : DenS K C R' H s σ :=
  ⟨d.1, fun i v q => let ⟨x, a, b⟩ := d.2 i v q; ⟨x, a, b.sub e⟩⟩
end
section
variable {Z : Sx} {R R1 R' : Rg} {h h' : Hh} {H H1 H' : Hp}
/-- an address kept out -/
def Rg.put (R : Rg) (p : Addr) : Rg := ⟨R.own, p :: R.no⟩
theorem Sim.put (S : SimZ Z R h H) {p : Addr} (n : H p = none) (o : HO) : SimZ Z (R.put p) h (upd H p o) ∧ Ext R (R.put p) H (upd H p o) := by
  have X : Ext R (R.put p) H (upd H p o) := by
    have X0 : Ext R R H (upd H p o) := Ext.new n
    refine ⟨⟨[], by simp [Rg.put], by simp⟩, fun a m => ?_, fun a m => List.mem_cons_of_mem _ m, X0.keep, X0.there⟩
    rcases List.mem_cons.mp m with e | m
    · rw [e]; exact .inr n
    · exact .inl m
  refine ⟨⟨S.len, S.nd, fun a m m2 => ?_, fun i ob a e r => ?_, S.cl, S.le, fun a m => ?_⟩, X⟩
  · rcases List.mem_cons.mp m2 with e | m2
    · rw [e] at m
      exact (S.notin n) (.inl m)
    · exact S.dj a m m2
  · have q := S.obj i ob a e r
    have np : a ≠ p := by
      intro z
      subst z
      rw [n] at q
      cases ob <;> exact q.elim
    rw [upd_ne np]
    exact ObD.mono q X
  · rcases List.mem_cons.mp m with e | m
    · rw [e, upd_same]; exact fun z => by cases z
    · exact X.there a (S.nn a m)
/-- what is kept out changes -/
theorem Ext.putW {p : Addr} {o : HO} (X : Ext R R' H H') (n : H p = none) (hp : H' p ≠ none) : Ext R R' H (upd H' p o) :=
  ⟨X.more, X.no, X.yes, fun a u e m => by rw [upd_ne (ne_of_none e n)]; exact X.keep a u e m, fun a e => by
    by_cases q : a = p
    · rw [q, upd_same]; exact fun z => by cases z
    · rw [upd_ne q]; exact X.there a e⟩
theorem Ext.self {p : Addr} {o u : HO} (hp : H p = some u) : (∀ a x, H a = some x → a ∉ R → a ≠ p → upd H p o a = some x) := fun a x e _ q => by rw [upd_ne q]; exact e
mutual
theorem Den.putW {p : Addr} {o : HO} (hp : p ∈ R.no) : ∀ (v : Val) (x : V), Den Z.K Z.C R H v x → Den Z.K Z.C R (upd H p o) v x
  | .non, _, h => h
  | .bl _, _, h => h
  | .int _, _, h => h
  | .str _, _, h => h
  | .tup vs, x, h => by
    obtain ⟨a, xs, q, t, d⟩ := h
    refine ⟨a, xs, q, ⟨t.1, t.2.elim (fun z => .inl ⟨?_, z.2⟩) .inr⟩, DenL.putW hp vs xs d⟩
    have ne : a ≠ p := fun e => z.2 (by rw [e]; exact .inr hp)
    unfold Rd at z ⊢
    rw [upd_ne ne]
    exact z.1
  | .lst vs, x, h => by
    obtain ⟨a, xs, q, t, d⟩ := h
    have ne : a ≠ p := fun e => t.2.2 (by rw [e]; exact .inr hp)
    exact ⟨a, xs, q, ⟨t.1, by rw [upd_ne ne]; exact t.2.1, t.2.2⟩, DenL.putW hp vs xs d⟩
  | .ro vs, x, h => by
    obtain ⟨a, xs, q, t, d⟩ := h
    refine ⟨a, xs, q, ⟨t.1, t.2.elim (fun z => .inl ⟨?_, z.2⟩) .inr⟩, DenL.putW hp vs xs d⟩
    have ne : a ≠ p := fun e => z.2 (by rw [e]; exact .inr hp)
    unfold Rd at z ⊢
    rw [upd_ne ne]
    exact z.1
  | .dct vs, x, h => by
    obtain ⟨a, xs, q, t, n, d⟩ := h
    have ne : a ≠ p := fun e => n (by rw [e]; exact .inr hp)
    exact ⟨a, xs, q, by rw [upd_ne ne]; exact t, n, DenK.putW hp vs xs d⟩
  | .ins c vs, x, h => by
    obtain ⟨a, dx, gs, q, t, n, d⟩ := h
    have ne : a ≠ p := fun e => n (by rw [e]; exact .inr hp)
    exact ⟨a, dx, gs, q, by rw [upd_ne ne]; exact t, n, DenK.putW hp vs _ d⟩
  | .ref n, x, h => h
theorem DenL.putW {p : Addr} {o : HO} (hp : p ∈ R.no) : ∀ (vs : List Val) (xs : List V), DenL Z.K Z.C R H vs xs → DenL Z.K Z.C R (upd H p o) vs xs
  | [], _, h => h
  | v :: r, _, h => by
    obtain ⟨x, ys, q, d, d2⟩ := h
    exact ⟨x, ys, q, Den.putW hp v x d, DenL.putW hp r ys d2⟩
theorem DenK.putW {p : Addr} {o : HO} (hp : p ∈ R.no) : ∀ (vs : List (Key × Val)) (xs : List (Key × V)), DenK Z.K Z.C R H vs xs → DenK Z.K Z.C R (upd H p o) vs xs
  | [], _, h => h
  | (k, v) :: r, _, h => by
    obtain ⟨x, ys, q, d, d2⟩ := h
    exact ⟨x, ys, q, Den.putW hp v x d, DenK.putW hp r ys d2⟩
end
theorem Sim.putW (S : SimZ Z R h H) {p : Addr} (hp : p ∈ R.no) (o : HO) : SimZ Z R h (upd H p o) := by
  refine ⟨S.len, S.nd, S.dj, fun i ob a e r => ?_, S.cl, S.le, fun a m => ?_⟩
  · have q := S.obj i ob a e r
    have np : a ≠ p := fun z => S.dj a (List.mem_of_getElem? r) (by rw [z]; exact hp)
    rw [upd_ne np]
    cases ob with
    | lst vs =>
      cases ha : H a with
      | none => rw [ha] at q; exact q.elim
      | some u =>
        rw [ha] at q
        cases u <;> first | exact q.elim | exact ⟨q.1, DenL.putW hp _ _ q.2⟩
    | ins c kvs =>
      cases ha : H a with
      | none => rw [ha] at q; exact q.elim
      | some u =>
        rw [ha] at q
        cases u <;> first | exact q.elim | exact ⟨q.1, DenK.putW hp _ _ q.2⟩
  · by_cases q : a = p
    · rw [q, upd_same]; exact fun z => by cases z
    · rw [upd_ne q]; exact S.nn a m
/-- what was kept out is a list of ours -/
theorem Sim.adopt (S : SimZ Z R h H) (hb : Z.g.base ≤ h.length) {p : Addr} (hp : p ∈ R.no) {no : List Addr} (hno : ∀ a ∈ no, a ∈ R.no) (hn : p ∉ no) {vs : List Val} {xs : List V} (t : H p = some (.lst xs)) (hl : xs.length ≤ sizeLine) (d : DenLZ Z R H vs xs) :
    SimZ Z ⟨R.own ++ [p], no⟩ (h ++ [.lst vs]) H ∧ Sub R ⟨R.own ++ [p], no⟩ := by
  have hs : Sub R ⟨R.own ++ [p], no⟩ := by
    refine ⟨⟨[p], rfl⟩, fun a m => ?_⟩
    rintro (q | q)
    · rcases List.mem_append.mp
                            q with q | q
      · exact m (.inl q)
      · rw [List.mem_singleton.mp q] at m; exact m (.inr hp)
    · exact m (.inr (hno a q))
  have nR : p ∉ R.own := fun z => S.dj p z hp
  refine ⟨⟨by simp [S.len], ?_, fun a m m2 => ?_, fun i ob a e r => ?_, fun b hb2 i ob hi e => ?_, S.le, fun a m => S.nn a (hno a m)⟩, hs⟩
  · show (R.own ++ [p]).Nodup
    rw [List.nodup_append]
    refine ⟨S.nd, by simp, fun a ha b hb2 => ?_⟩
    rw [List.mem_singleton.mp hb2]
    exact fun z => nR (by rw [← z]; exact ha)
  · have m : a ∈ R.own ++ [p] := m
    rcases List.mem_append.mp m with m | m
    · exact S.dj a m (hno a m2)
    · rw [List.mem_singleton.mp m] at m2; exact hn m2
  · have r : (R.own ++ [p])[i]? = some a := r
    by_cases hi : i < h.length
    · rw [List.getElem?_append_left hi] at e
      rw [List.getElem?_append_left (by rw [S.len]; exact hi)] at r
      exact (S.obj i ob a e r).sub hs
    · have hi2 : i = h.length := by
        have := (List.getElem?_eq_some_iff.mp e).1
        simp at this
        omega
      subst hi2
      rw [List.getElem?_append_right (Nat.le_refl _), Nat.sub_self] at e
      rw [← S.len, List.getElem?_append_right (Nat.le_refl _), Nat.sub_self] at r
      cases e; cases r
      rw [t]
      exact ⟨hl, d.sub hs⟩
  · have : i < h.length := Nat.lt_of_lt_of_le hi (Nat.le_trans (S.le b hb2) hb)
    rw [List.getElem?_append_left this] at e
    exact S.cl b hb2 i ob hi e
theorem Sim.less (S : SimZ Z R h H) {no : List Addr} (hno : ∀ a ∈ no, a ∈ R.no) : SimZ Z ⟨R.own, no⟩ h H ∧ Sub R ⟨R.own, no⟩ := by
  have hs : Sub R ⟨R.own, no⟩ := ⟨⟨[], by simp⟩, fun a m => by
    rintro (q | q)
    · exact m (.inl q)
    · exact m (.inr (hno a q))⟩
  exact ⟨⟨S.len, S.nd, fun a m m2 => S.dj a m (hno a m2), fun i ob a e r => (S.obj i ob a e r).sub hs, S.cl, S.le, fun a m => S.nn a (hno a m)⟩, hs⟩
end
end Co
end

section
set_option linter.all false
set_option maxRecDepth 100000
set_option autoImplicit false
/-! Co14: comprehensions, ended. -/
namespace Co
open PySem PySem.Spec
                        PyProof.Rows L2
/-! ### names that are set -/
theorem wipe_comm {σ : L2.St} {i : Nat} {x : Option V} : ∀ {vs : List Nat}, i ∉ vs → wipe (σ.set i x) vs = (wipe σ vs).set i x
  | [], _ => rfl
  | v :: vs, h => by
    simp only [List.mem_cons, not_or] at h
    unfold wipe
    rw [wipe_comm h.2, List.set_comm _ _ h.1]
theorem wipe_set {σ : L2.St} {i : Nat} {x : Option V} : ∀ {vs : List Nat}, i ∈ vs → wipe (σ.set i x) vs = wipe σ vs
  | v :: vs, h => by
    unfold wipe
    by_cases hi : i ∈ vs
    · rw [wipe_set hi]
    · have e : i = v := by
        rcases List.mem_cons.mp
                                h with e | e
        · exact e
        · exact absurd e hi
      subst e
      rw [wipe_comm hi, List.set_set]
theorem wipe_wipe {σ : L2.St} : ∀ {vs ws : List Nat}, (∀ v ∈ vs, v ∈ ws) → wipe (wipe σ vs) ws = wipe σ ws
  | [], _, _ => rfl
  | v :: vs, ws, h => by
    show wipe ((wipe σ vs).set v none) ws = _
    rw [wipe_set (h v List.mem_cons_self), wipe_wipe fun u hu => h u (List.mem_cons_of_mem _ hu)]
def gSeq (K : PySem.W.Frag) (n : Nat) (t : TGs) : TG := fun v σ H Q => ∃ a xs, v = .ref a ∧ (SqT K H a xs ∨ SqL K H a xs) ∧ xs.length = n ∧ t xs σ H Q
def gNames : List Nat → TGs
  | [] => gNil
  | i :: r => gCons (gName i) (gNames r)
def trGn (K : PySem.W.Frag) (one : Bool) (tg : List Nat) : TG := if one = true then (match tg with | [i] => gName i | _ => fun _ _ _ _ => False) else gSeq K tg.length (gNames tg)
theorem pg_seq {X : Cx} {es : List Expr} {k : Nat} {t : TGs} {n : Nat} {pos : Pos} (hc : X.calm = true) (h : PGs X es t) (hn : (assignEach es X.env).length = n) (hst : (assignEach es X.env).findIdx? (·.1) = none) : PG X (.Tuple es k pos) (gSeq X.K n t) := by
  refine
                          ⟨fun pins s σ H v u Q I r hw => ?_⟩
  obtain
                          ⟨a, xs, e1, hq, hl, hw⟩ := hw
  rcases hq with hq | hq
  · exact (pg_tup hc h hn hst).run pins s σ H v u Q I r ⟨a, xs, e1, hq, hl, hw⟩
  · exact (pg_lst hc h hn hst).run pins s σ H v u Q I r ⟨a, xs, e1, hq, hl, hw⟩
/-- the names may be set -/
def nmOk (N : List Str) (can : Str → Bool) : List Expr → List Nat → Bool
  | [], [] => true
  | .Name x _ :: r, i :: is => decide (N[i]? = some x) && (can x && nmOk N can r is)
  | _, _ => false
theorem nm_each {N : List Str} {can : Str → Bool} {env : PySem.Env} : ∀ {es : List Expr} {is : List Nat}, nmOk N can es is = true → (assignEach es env).length = is.length ∧ (assignEach es env).findIdx? (·.1) = none
  | [], [], _ => ⟨rfl, rfl⟩
  | [], _ :: _, h => by simp [nmOk] at h
  | .Name x p :: r, i :: is, h => by
    simp only [nmOk, Bool.and_eq_true] at h
    obtain ⟨h1, h2⟩ := nm_each (env := env) h.2.2
    refine ⟨?_, ?_⟩
    · show (assignEach r env).length + 1 = is.length + 1
      rw [h1]
    · show List.findIdx? _ ((false, assign (.Name x p) env) :: assignEach r env) = none
      rw [List.findIdx?_cons, h2]
      rfl
  | .Name x p :: r, [], h => by simp [nmOk] at h
theorem nm_pgs {X : Cx} {can : Str → Bool} (hN : X.N.Nodup) (hcan : ∀ x, can x = true → Loc X.env.scope x ∧ (X.fn x = true ∨ X.env.scope.names.lookup x = some .local)) : ∀ {es : List Expr} {is : List Nat}, nmOk X.N can es is = true → PGs X es (gNames is)
  | [], [], _ => pgs_nil
  | [], _ :: _, h => by simp [nmOk] at h
  | .Name x p :: r, i :: is, h => by
    simp only [nmOk, Bool.and_eq_true, decide_eq_true_eq] at h
    obtain ⟨c1, c2⟩ := hcan x h.2.1
    exact pgs_cons (pg_name hN h.1 c1 c2) (nm_pgs hN hcan h.2.2) rfl
  | .Name x p :: r, [], h => by simp [nmOk] at h
section
variable {Z : Sx} {R : Rg} {h : Hh} {H : Hp} {s s1 : Env} {σ : L2.St}
theorem gNames_run {Q : L2.St → Hp → Prop} : ∀ {tg : List Nat} {vs : List Val} {xs : List V} {s : Env} {σ : L2.St}, setMany tg vs s = some s1 → DenL Z.K Z.C R H vs xs → DenS Z.K Z.C R H s σ →
    (∀ σ1, DenS Z.K Z.C R H s1 σ1 → (∀ own : List Nat, (∀ i ∈ tg, i ∈ own) → wipe σ1 own = wipe σ own) → Q σ1 H) → gNames tg xs σ H Q
  | [], [], xs, s, σ, e, d, ds, k => by
    cases e
    exact ⟨d, k σ ds fun _ _ => rfl⟩
  | [], _ :: _, xs, s, σ, e, d, ds, k => by cases e
  | _ :: _, [], xs, s, σ, e, d, ds, k => by cases e
  | i :: r, v :: vs, xs, s, σ, e, d, ds, k => by
    obtain ⟨x, ys, rfl, d1, d2⟩ := d
    refine ⟨x, ys, rfl, gNames_run (show setMany r vs (s.set i (some v)) = some s1 from e) d2 (ds.set i d1) fun σ1 ds1 hw => k σ1 ds1 fun own ho => ?_⟩
    rw [hw own fun j hj => ho j (List.mem_cons_of_mem _ hj), wipe_set (ho i List.mem_cons_self)]
theorem trGn_run {X : Cx} (hK : Z.K = X.K) {one : Bool} {tg : List Nat} {v : Val} {x : V} {Q : L2.St → Hp → Prop} (S : SimZ Z R h H) (e : setT one tg v h s = some s1) (d : DenZ Z R H v x) (ds : DenS Z.K Z.C R H s σ)
    (k : ∀ σ1, DenS Z.K Z.C R H s1 σ1 → (∀ own : List Nat, (∀ i ∈ tg, i ∈ own) → wipe σ1 own = wipe σ own) → Q σ1 H) : trGn X.K one tg x σ H Q := by
  unfold setT at e
  unfold trGn
  cases one with
  | true =>
    simp only [if_true] at e ⊢
    match tg, e with
    | [], e => cases e
    | [i], e =>
      obtain ⟨y, r, e1, hg⟩ := gNames_run (Z := Z) (R := R) (tg := [i]) (vs := [v]) (xs := [x]) e ⟨x, [], rfl, d, rfl⟩ ds k
      cases e1
      exact hg.2
    | _ :: _ :: _, e => cases e
  | false =>
    simp only [Bool.false_eq_true, if_false] at e ⊢
    generalize ew : rd h v = w at e
    have main : ∀ vs : List Val, setMany tg vs s = some s1 → (∃ (a : Addr) (xs : List V), x = .ref a ∧ (SqT X.K H a xs ∨ SqL X.K H a xs) ∧ DenLZ Z R H vs xs) → gSeq X.K tg.length (gNames tg) x σ H Q := fun vs e2 ⟨a, xs, q1, q2, q3⟩ => by
      refine ⟨a, xs, q1, q2, ?_, gNames_run e2 q3 ds k⟩
      rw [← q3.length]
      have : ∀ (tg : List Nat) (vs : List Val) (s : Env), setMany tg vs s = some s1 → vs.length = tg.length := by
        intro tg
        induction tg with
        | nil => intro vs s e; cases vs <;> first | rfl | cases e
        | cons i r ih => intro vs s e; cases vs with
          | nil => cases e
          | cons v vs => exact congrArg Nat.succ (ih vs _ e)
      exact this tg vs s e2
    split at e
    · obtain ⟨a, xs, q1, t, dl⟩ := rd_tup ew d
      exact main _ e ⟨a, xs, q1, .inl (by rw [← hK]; exact t.sq), dl⟩
    · obtain ⟨a, xs, q1, t, l, dl⟩ := d.rd S ew
      exact main _ e ⟨a, xs, q1, .inr (.inl (.inl t)), dl⟩
    · cases e
end
/-! ### the block's context -/
theorem XOk.blk {T : Stc} {Z : Sx} {X : Cx} {sc : Scope} (ok : XOk T Z X sc) (s : Shared) (H : Hp) (scope : Scope) (C : Addr) (cl : List (Str × Addr)) (fp : List Addr) : XOk T Z (X.blk s H scope (compEnvC scope cl C X.env) fp) (relS scope sc) where
  K := ok.K
  N := ok.N
  nd := ok.nd
  sc := by
    show relabel scope X.env = relS scope sc
    unfold relabel relS
    rw [← ok.sc]
    rfl
  calm := ok.calm
  room := ok.room
  gd := ok.gd
  blt := ok.blt
  cst := ok.cst
  fns := ok.fns
  mks := ok.mks
  cls := ok.cls
  isb := ok.isb
  noat := ok.noat
  prs := ok.prs
  sps := ok.sps
  nob := ok.nob
/-- may a name be set in a block -/
def canB (scope rsc : Scope) (x : Str) : Bool := rsc.names.lookup x == some .local || (rsc.names.lookup x == some .cell && scope.names.lookup x == some .cell)
/-- the tests of a clause -/
def trTs (Z : Sx) : List CE → TT
  | [] => tYes
  | [c] => trT Z c
  | _ => fun _ _ _ => False
def STs (T : Stc) (sc : Scope) (es : List Expr) (cs : List CE) : Prop := ∀ (Z : Sx) (X : Cx), XOk T Z X sc → PTs X es (trTs Z cs)
theorem ts_nil {T : Stc} {sc : Scope} : STs T sc [] [] := fun Z X ok => pts_nil
theorem ts_one {T : Stc} {sc : Scope} {a : Expr} {ca : CE} (h : ST T sc a ca) : STs T sc [a] [ca] := fun Z X ok => pts_one (h Z X ok)
theorem ts_run {Z : Sx} {cs : List CE} {σ : L2.St} {H : Hp} {s : Env} {h h1 : Hh} {R : Rg} {b : Bool} {W : Bool → Hp → Prop} (hl : cs.length ≤ 1) (S : Sim Z.K Z.C Z.bs Z.g.base R h H) (hb : Z.g.base ≤ h.length) (D : DenS Z.K Z.C R H s σ) (e : evC Z.g cs s h = .ok b h1)
    (k : ∀ R' H', Ext R R' H H' → Sim Z.K Z.C Z.bs Z.g.base R' h1 H' → Z.g.base ≤ h1.length → DenS Z.K Z.C R' H' s σ → W b H') : trTs Z cs σ H W := by
  match cs, hl, e with
  | [], _, e =>
    cases e
    exact k R H (Ext.refl _ _) S hb D
  | [c], _, e =>
    simp only [evC] at e
    obtain ⟨v, h2, e1, e⟩ := Res.bind_eq e
    split at e
    · cases e
      exact ⟨s, h, R, true, h1, S, hb, D, e1, fun R' H' X' S' D' => k R' H' X' S' (base_of X' S S' hb) D'⟩
    · cases e
      exact ⟨s, h, R, false, h1, S, hb, D, e1, fun R' H' X' S' D' => k R' H' X' S' (base_of X' S S' hb) D'⟩
    · cases e
  | _ :: _ :: _, hl, _ => exact absurd hl (by simp)
theorem comp_core {T : Stc} {sc : Scope} {Z : Sx} {X : Cx} {m one : Bool} {own tg : List Nat} {ci ce : CE} {cs : List CE} {σ : L2.St} {H : Hp} {s : Env} {h h' : Hh} {R : Rg} {v : Val} {Q : VK} (ok : XOk T Z X sc) (hl : cs.length ≤ 1) (ho : ∀ i ∈ tg, i ∈ own)
    (S : Sim Z.K Z.C Z.bs Z.g.base R h H) (hb : Z.g.base ≤ h.length) (D : DenS Z.K Z.C R H s σ) (e : evE Z.g (.comp m own tg one ci cs ce) s h = .ok v h')
    (k : ∀ R' H' x, Ext R R' H H' → Sim Z.K Z.C Z.bs Z.g.base R' h' H' → DenS Z.K Z.C R' H' s σ → Den Z.K Z.C R' H' v x → Q x H') :
    tLc (trI Z ci) (trGn X.K one tg) (trTs Z cs) (trE Z ce) own σ H Q := by
  simp only [evE] at e
  obtain ⟨p, h1, e1, e⟩ := Res.bind_eq e
  split at e
  case isFalse => cases e
  rename_i hlim
  obtain ⟨vals, h2, e2, e⟩ := Res.bind_eq e
  refine ⟨s, h, R, p, h1, S, hb, D, e1, fun R1 H1 J X1 S1 D1 itd => ?_⟩
  have b1 := base_of X1 S S1 hb
  intro Dd hD
  obtain ⟨S0, X0⟩ := S1.put hD (.lst [])
  generalize hstep : (fun (v : Val) (h : Hh) => match setT one tg v h (wipeE s own) with
        | some s1 => (evC Z.g cs s1 h).bind fun b h2 => if b = true then (evE Z.g ce s1 h2).bind fun x h3 => .ok (some x) h3 else .ok none h2
        | none => (.bad : Res (Option Val))) = step at e2
  refine ⟨fun i mm Hi => i + mm = p.1.length ∧ ∃ (Ri : Rg) (hi : Hh) (accV : List Val) (accX : List V) (rest : List Val), Ext R1 Ri H1 Hi ∧ Dd ∈ Ri.no ∧ Sim Z.K Z.C Z.bs Z.g.base Ri hi Hi ∧ Hi Dd = some (.lst accX) ∧ DenL Z.K Z.C Ri Hi accV accX ∧ accX.length ≤ i ∧
      compL p.2 step (p.1.drop i) hi = .ok rest h2 ∧ vals = accV ++ rest, ⟨p.1.length, by simp, R1.put Dd, h1, [], [], vals, X0, List.mem_cons_self, S0, upd_same, rfl, Nat.le_refl _, e2, rfl⟩, ?_⟩
  rintro i mm Hi ⟨him, Ri, hi, accV, accX, rest, Xi, hno, Si, hDi, dacc, hacc, ecl, evals⟩
  have bi := base_of Xi S1 Si b1
  cases hd : p.1.drop i with
  | nil =>
    rw [hd] at ecl
    have hi_len : i = p.1.length := by
      have := congrArg List.length hd
      simp at this
      omega
    simp only [compL] at ecl
    split at ecl
    case isFalse => cases ecl
    rename_i hg
    cases ecl
    obtain ⟨_, hstop⟩ := itd Ri h2 Hi Xi Si hg
    refine .inl ⟨by rw [hi_len]; exact hstop, ?_⟩
    rw [List.append_nil] at evals
    subst evals
    have hlX : accX.length ≤ sizeLine := by rw [sz]; omega
    have hn1 : Dd ∉ R1.no := fun z => S1.nn Dd z hD
    have hn1o : ∀ a ∈ R1.no, a ∈ Ri.no := Xi.yes
    unfold allocL at e
    split at e <;> cases e
    · obtain ⟨Sa, sub⟩ := Si.adopt bi hno hn1o hn1 hDi hlX dacc
      have Xe : Ext R1 ⟨Ri.own ++ [Dd], R1.no⟩ H1 Hi := by
        refine ⟨?_, fun a q => .inl q, fun a q => q, Xi.keep, Xi.there⟩
        obtain ⟨r, q1, q2⟩ := Xi.more
        refine ⟨r ++ [Dd], by show Ri.own ++ [Dd] = _; rw [q1, List.append_assoc], fun a ha => ?_⟩
        rcases List.mem_append.mp ha with q | q
        · exact q2 a q
        · rw [List.mem_singleton.mp q]; exact hD
      refine k _ Hi _ (X1.trans Xe) Sa (((D1.mono Xi).sub sub)) ⟨Dd, ?_, rfl⟩
      · show (Ri.own ++ [Dd])[h2.length]? = some Dd
        rw [← Si.len, List.getElem?_append_right (Nat.le_refl _), Nat.sub_self]
        rfl
    · obtain ⟨Sa, sub⟩ := Si.less hn1o
      have Xe : Ext R1 ⟨Ri.own, R1.no⟩ H1 Hi := ⟨Xi.more, fun a q => .inl q, fun a q => q, Xi.keep, Xi.there⟩
      refine k _ Hi _ (X1.trans Xe) Sa ((D1.mono Xi).sub sub) ⟨Dd, accX, rfl, ⟨hlX, hDi, ?_⟩, dacc.sub sub⟩
      rintro (q | q)
      · exact Si.dj Dd q hno
      · exact hn1 q
  | cons u us =>
    rw [hd] at ecl
    have hiu : p.1[i]? = some u := by
      have := congrArg (fun l => l[0]?) hd
      simpa using this
    have hilt : i < p.1.length := (List.getElem?_eq_some_iff.mp hiu).1
    have hus : us = p.1.drop (i + 1) := by
      have := congrArg List.tail hd
      simpa using this.symm
    simp only [compL] at ecl
    split at ecl
    case isFalse => cases ecl
    rename_i hg
    obtain ⟨o, h3, e3, ecl⟩ := Res.bind_eq ecl
    obtain ⟨r2, h4, e4, ecl⟩ := Res.bind_eq ecl
    obtain ⟨hgo, _⟩ := itd Ri hi Hi Xi Si hg
    obtain ⟨go, yld⟩ := hgo i u hiu
    refine .inr ⟨go, fun H' => i + 1 + (mm - 1) = p.1.length ∧ ∃ (Ri : Rg) (hi : Hh) (accV : List Val) (accX : List V) (rest : List Val), Ext R1 Ri H1 H' ∧ Dd ∈ Ri.no ∧ Sim Z.K Z.C Z.bs Z.g.base Ri hi H' ∧ H' Dd = some (.lst accX) ∧ DenL Z.K Z.C Ri H' accV accX ∧ accX.length ≤ i + 1 ∧
      compL p.2 step (p.1.drop (i + 1)) hi = .ok rest h2 ∧ vals = accV ++ rest, fun H' w => ⟨mm - 1, by omega, w⟩, fun x H' y => ?_⟩
    obtain ⟨Xy, Sy, dx⟩ := yld x H' y
    have X2 : Ext R1 Ri H1 H' := Xi.trans Xy
    have D2 : DenS Z.K Z.C Ri H' (wipeE s own) (wipe σ own) := (D1.mono X2).wipe own
    rw [← hstep] at e3
    dsimp only at e3
    split at e3
    case h_2 => cases e3
    rename_i s1 hs1
    refine trGn_run ok.K Sy hs1 dx D2 fun σ1 D3 hw => ⟨?_, ?_⟩
    · rw [hw own ho, wipe_wipe fun v hv => hv]
    obtain ⟨b, h5, e5, e3⟩ := Res.bind_eq e3
    refine ts_run hl Sy bi D3 e5 fun R6 H6 X6 S6 b6 D6 => ?_
    cases b with
    | false =>
      simp only [Bool.false_eq_true, if_false] at e3 ⊢
      cases e3
      cases ecl
      exact ⟨by omega, R6, h3, accV, accX, _, X2.trans X6, X6.yes _ hno, S6, X6.keep _ _ (Xy.keep _ _ hDi fun q => Si.dj _ q hno) fun q => Si.dj _ q hno, (dacc.mono Xy).mono X6, by omega, by rw [← hus]; exact e4, evals⟩
    | true =>
      simp only [if_true] at e3 ⊢
      obtain ⟨w, h7, e7, e3⟩ := Res.bind_eq e3
      cases e3
      cases ecl
      refine Co.one S6 b6 D6 e7 fun R8 H8 y8 X8 S8 b8 D8 d8 => ?_
      have hD8 : H8 Dd = some (.lst accX) := X8.keep _ _ (X6.keep _ _ (Xy.keep _ _ hDi fun q => Si.dj _ q hno) fun q => Si.dj _ q hno) fun q => S6.dj _ q (X6.yes _ hno)
      have hn8 : Dd ∈ R8.no := X8.yes _ (X6.yes _ hno)
      refine ⟨accX, hD8, by rw [sz]; omega, by omega, R8, h3, accV ++ [w], accX ++ [y8], r2, ((X2.trans X6).trans X8).putW hD (by rw [hD8]; exact fun z => by cases z), hn8, S8.putW hn8 _, upd_same, DenL.putW hn8 _ _ ((((dacc.mono Xy).mono X6).mono X8).append ⟨y8, [], rfl, d8, rfl⟩), by rw [List.length_append]; show accX.length + 1 ≤ i + 1; omega, by rw [← hus]; exact e4, by rw [evals]; simp⟩
section
variable {T : Stc} {sc : Scope} {a b c : Expr} {ca cb cc : CE} {pos : Pos}
/-- the target of a clause -/
def tgOk (N : List Str) (can : Str → Bool) (one : Bool) (tg : List Nat) : Expr → Bool
  | .Name x p => one && nmOk N can [.Name x p] tg
  | .Tuple es _ _ => !one && nmOk N can es tg
  | _ => false
theorem tg_pg {X : Cx} {can : Str → Bool} {one : Bool} {tg : List Nat} {e : Expr} (hc : X.calm = true) (hN : X.N.Nodup) (hcan : ∀ x, can x = true → Loc X.env.scope x ∧ (X.fn x = true ∨ X.env.scope.names.lookup x = some .local)) (h : tgOk X.N can one tg e = true) : PG X e (trGn X.K one tg) := by
  cases e <;> simp only [tgOk, Bool.false_eq_true] at h
  case Name x p =>
    simp only
                            [Bool.and_eq_true] at h
    obtain ⟨rfl, h⟩ := h
    match tg, h with
    | [], h => simp [nmOk] at h
    | [i], h =>
      simp only [nmOk, Bool.and_eq_true, decide_eq_true_eq] at h
      obtain ⟨c1, c2⟩ := hcan x h.2.1
      exact pg_name hN h.1 c1 c2
    | i :: j :: r, h => simp [nmOk] at h
  case Tuple es k p =>
    simp only [Bool.and_eq_true,
                            Bool.not_eq_true'] at h
    obtain ⟨rfl, h⟩ := h
    obtain ⟨h1, h2⟩ := nm_each (env := X.env) h
    exact pg_seq hc (nm_pgs hN hcan h) h1 h2
theorem can_b {X : Cx} {scope rsc : Scope} (hsc : X.env.scope = rsc) (hfn : X.fn = fun x => scope.names.lookup x == some .cell) (x : Str) (h : canB scope rsc x = true) : Loc X.env.scope x ∧ (X.fn x = true ∨ X.env.scope.names.lookup x = some .local) := by
  simp only [canB, Bool.or_eq_true, Bool.and_eq_true] at h
  rcases h with h | ⟨h1, h2⟩
  · have : rsc.names.lookup x = some .local := by simpa using h
    exact ⟨.inl (by rw [hsc]; exact this), .inr (by rw [hsc]; exact this)⟩
  · have : rsc.names.lookup x = some .cell := by simpa using h1
    exact ⟨.inr (by rw [hsc]; exact this), .inl (by rw [hfn]; exact h2)⟩
theorem comp_e {m one : Bool} {tg : List Nat} {own : List (Str × Nat)} {elt tge iter : Expr} {ifs : List Expr} {scope : Scope} {ci ce : CE} {cs : List CE} (hset : notSet iter = true) (hok : BlkOk T.N sc scope own) (hl : cs.length ≤ 1) (ho : ∀ i ∈ tg, i ∈ own.map (·.2))
    (htg : tgOk T.N (canB scope (relS scope sc)) one tg tge = true) (hi : SI T sc tge iter ci) (ht : STs T (relS scope sc) ifs cs) (he : SE T (relS scope sc) elt ce) :
    SE T sc (.ListComp elt [⟨tge, iter, ifs, 0⟩] scope pos) (.comp m (own.map (·.2)) tg one ci cs ce) := fun Z X ok => by
  refine
                          ⟨fun pins s σ H Q I h => ?_⟩
  obtain ⟨se, h0, R, v, h1, S, b0, D, e, k⟩ := h
  refine (pe_lc (wi := trI Z ci) (g := trGn X.K one tg) (tt := trTs Z cs) (te := trE Z ce) ok.calm (by rw [ok.N]; exact ok.nd) (hi Z X ok) (by rw [ok.N, ok.sc]; exact hok) (fun s H C cl fp => ?_) (fun s H C cl fp => ht Z _ (ok.blk s H scope C cl fp)) (fun s H C cl fp => he Z _ (ok.blk s H scope C cl fp)) (fun x => ?_)).run pins _ σ H Q I (comp_core ok hl ho S b0 D e k)
  · refine tg_pg (X := X.blk s H scope (compEnvC scope cl C X.env) fp) ok.calm (by show X.N.Nodup; rw [ok.N]; exact ok.nd) (can_b (ok.blk s H scope C cl fp).sc rfl) ?_
    show tgOk X.N _ one tg tge = true
    rw [ok.N]
    exact htg
  · unfold foldedSetIterable
    cases iter <;> first | rfl | cases hset
/-! ### dict displays -/
/-- the pairs of a display -/
def SPr (T : Stc) (sc : Scope) (keys : List (Option Expr)) (ks : List Key) (vals : List Expr) (ces : List CE) : Prop := ∀ (Z : Sx) (X : Cx), XOk T Z X sc → ∀ pos : Pos, ∃ trs : List (TE × TE), PPs X pos keys vals trs ∧
  ∀ (σ : L2.St) (H : Hp) (Q : List (V × V) → Hp → Prop) (s : Env) (h h' : Hh) (R : Rg) (vs : List Val), SimZ Z R h H → Z.g.base ≤ h.length → DenS Z.K Z.C R H s σ → evEs Z.g ces s h = .ok vs h' →
    (∀ R' H' xs, Ext R R' H H' → SimZ Z R' h' H' → DenS Z.K Z.C R' H' s σ → DenLZ Z R' H' vs xs → Q ((ks.zip xs).map fun kv => (kV kv.1, kv.2)) H') → tPairs trs σ H Q
theorem nil_p : SPr T sc [] [] [] [] := fun Z X ok pos => ⟨[], pps_nil, fun σ H Q s h h' R vs S hb D e k => by
  cases e
  exact k R H [] (Ext.refl R H) S D rfl⟩
theorem cons_p {keys : List (Option Expr)} {ks : List Key} {vals : List Expr} {ces : List CE} {kx : Expr} {key : Key} (hc : starC ca = false) (hk : ∀ X : Cx, PE X kx (tC (kV key))) (ha : SE T sc a ca) (hr : SPr T sc keys ks vals ces) : SPr T sc (some kx :: keys) (key :: ks) (a :: vals) (ca :: ces) := fun Z X ok pos => by
  obtain ⟨trs, hp, hq⟩ := hr Z X ok pos
  refine ⟨(tC (kV key), trE Z ca) :: trs, pps_cons (hk X) (ha Z X ok) hp, fun σ H Q s h h' R vs S hb D e k => ?_⟩
  rw [evEs_cons hc] at e
  obtain ⟨v, h2, e1, e⟩ := Res.bind_eq e
  obtain ⟨ws, h3, e2, e⟩ := Res.bind_eq e
  cases e
  show trE Z ca σ H fun y H2 => tPairs trs σ H2 fun ps H3 => Q ((kV key, y) :: ps) H3
  exact Co.one S hb D e1 fun R1 H1 y X1 S1 b1 D1 dy => hq σ H1 _ s h2 _ R1 ws S1 b1 D1 e2 fun R2 H2 xs X2 S2 D2 dx => k R2 H2 (y :: xs) (X1.trans X2) S2 D2 ⟨y, xs, rfl, dy.mono X2, dx⟩
theorem merge_nd : ∀ {more kvs : List (Key × V)}, ((kvs ++ more).map (·.1)).Nodup → mergeK kvs more = kvs ++ more
  | [], kvs, _ => (List.append_nil kvs).symm
  | p :: r, kvs, h => by
    have e : putK kvs p.1 p.2 = kvs ++ [p] := by
      unfold putK
      have : (kvs.any fun kv => decide (kv.1 = p.1)) = false := by
        rw [Bool.eq_false_iff]
        intro q
        obtain ⟨kv, m, z⟩ := List.any_eq_true.mp q
        rw [List.map_append, List.map_cons, List.nodup_append] at h
        exact h.2.2 kv.1 (List.mem_map_of_mem m) p.1 List.mem_cons_self (of_decide_eq_true z)
      rw [this]
      rfl
    show mergeK (putK kvs p.1 p.2) r = _
    rw [e, merge_nd (by rw [List.append_assoc]; exact h), List.append_assoc]
    rfl
theorem zip_denK {K : PySem.W.Frag} {C : Nat → Addr} {R : Rg} {H : Hp} : ∀ {ks : List Key} {vs : List Val} {xs : List V}, DenL K C R H vs xs → DenK K C R H (ks.zip vs) (ks.zip xs)
  | [], _, _, _ => rfl
  | k :: ks, [], _, d => by rw [show _ = ([] : List V) from d]; rfl
  | k :: ks, v :: vs, _, d => by
    obtain ⟨x, ys, rfl, d1, d2⟩ := d
    exact ⟨x, _, rfl, d1, zip_denK d2⟩
theorem disp_e {keys : List (Option Expr)} {ks : List Key} {vals : List Expr} {ces : List CE} (hall : keys.all (·.isSome) = true) (hl : keys.length = vals.length) (h0 : keys ≠ []) (h15 : keys.length ≤ 15) (hp : SPr T sc keys ks vals ces) : SE T sc (.Dict keys vals pos) (.dct ks ces) := fun Z X ok => by
  refine
                          ⟨fun pins s σ H Q I h => ?_⟩
  obtain ⟨se, h1, R, v, h2, S, b0, D, e, k⟩ := h
  simp only [evE] at e
  obtain ⟨vs, h3, e1, e⟩ := Res.bind_eq e
  split at e <;> cases e
  rename_i hc
  obtain ⟨trs, hpp, hq⟩ := hp Z X ok pos
  refine (pe_disp hpp hall hl h0 h15).run pins s σ H Q I fun p hn => ?_
  obtain ⟨S0, X0⟩ := S.put hn (.dK [])
  refine hq σ _ _ se h1 h2 (R.put p) vs S0 b0 (D.mono X0) e1 fun R' H' xs X' S' D' dx => ?_
  have hpR : p ∉ R.own := fun m => S.notin hn (.inl m)
  have hpno : p ∈ R'.no := X'.yes p List.mem_cons_self
  have hd : H' p = some (.dK []) := X'.keep p _ upd_same hpR
  have hxl : xs.length = ks.length := by rw [← dx.length, hc.1]
  refine ⟨hd, ks.zip xs, rfl, by rw [List.length_zip, hxl, Nat.min_self]; exact hc.2.1, ?_⟩
  have hm : mergeK [] (ks.zip xs) = ks.zip xs := by
    refine merge_nd ?_
    rw [List.nil_append, List.map_fst_zip (by omega)]
    exact hc.2.2
  rw [hm]
  have hn1 : p ∉ R.no := fun z => S.nn p z hn
  have hsub : ∀ q ∈ R.no, q ∈ R'.no := fun q m => X'.yes q (List.mem_cons_of_mem _ m)
  have Sw := S'.putW hpno (.dK (ks.zip xs))
  obtain ⟨Sa, sub⟩ := Sw.less hsub
  have XX : Ext R R' H H' := X0.trans X'
  have Xw : Ext R R' H (upd H' p (.dK (ks.zip xs))) := XX.putW hn (by rw [hd]; exact fun z => by cases z)
  have Xe : Ext R ⟨R'.own, R.no⟩ H (upd H' p (.dK (ks.zip xs))) := ⟨Xw.more, fun a q => .inl q, fun a q => q, Xw.keep, Xw.there⟩
  refine k _ _ _ Xe Sa (D.mono Xe) ⟨p, ks.zip xs, rfl, upd_same, ?_, zip_denK ((DenL.putW hpno _ _ dx).sub sub)⟩
  rintro (q | q)
  · exact S'.dj p q hpno
  · exact hn1 q
end
end Co
end

section
set_option linter.all false
set_option maxRecDepth 100000
set_option autoImplicit false
/-! Co15: targets, statements. -/
namespace Co
open PySem PySem.Spec
                        PyProof.Rows L2
/-- a def's own context, no exception leaves -/
structure XD (X : Cx) : Prop where
  fn : ∀ x, X.fn x = true
  px : PassesOwn (model X.prog X.w) X.A X.env X.xe
  kd : X.env.scope.kind = .function
def trG (Z : Sx) (ct : CT) : TG := fun x σ H Q => ∃ s h R v s1 h', Sim Z.K Z.C Z.bs Z.g.base R h H ∧ Z.g.base ≤ h.length ∧ DenS Z.K Z.C R H s σ ∧ Den Z.K Z.C R H v x ∧ asgT Z.g ct v s h = .ok s1 h' ∧
  ∀ R' H' σ', Ext R R' H H' → Sim Z.K Z.C Z.bs Z.g.base R' h' H' → DenS Z.K Z.C R' H' s1 σ' → Q σ' H'
def trGs (Z : Sx) (cts : List CT) : TGs := fun xs σ H Q => ∃ s h R vs s1 h', Sim Z.K Z.C Z.bs Z.g.base R h H ∧ Z.g.base ≤ h.length ∧ DenS Z.K Z.C R H s σ ∧ DenL Z.K Z.C R H vs xs ∧ asgTs Z.g cts vs s h = .ok s1 h' ∧
  ∀ R' H' σ', Ext R R' H H' → Sim Z.K Z.C Z.bs Z.g.base R' h' H' → DenS Z.K Z.C R' H' s1 σ' → Q σ' H'
def SG (T : Stc) (sc : Scope) (e : Expr) (c : CT) : Prop := ∀ (Z : Sx) (X : Cx), XOk T Z X sc → XD X → PG X e (trG Z c)
def SGs (T : Stc) (sc : Scope) (es : List Expr) (cs : List CT) : Prop := ∀ (Z : Sx) (X : Cx), XOk T Z X sc → XD X → PGs X es (trGs Z cs)
section
variable {T : Stc} {sc : Scope} {a b c : Expr} {ca cb cc : CE} {pos : Pos}
theorem name_g {x : Str} {i : Nat} (hi : T.N[i]? = some x) (hl : Loc sc x) : SG T sc (.Name x pos) (.name i) := fun Z X ok xd => by
  refine
                          ⟨fun pins s σ H v u Q I r h => ?_⟩
  obtain ⟨se, h0, R, w, s1, h1, S, b0, D, dw, e, k⟩ := h
  simp only [asgT] at e
  cases e
  exact (pg_name (i := i) (by rw [ok.N]; exact ok.nd) (by rw [ok.N]; exact hi) (by rw [ok.sc]; exact hl) (.inl (xd.fn x))).run pins s σ H v u Q I r (k R H _ (Ext.refl _ _) S (D.set i dw))
theorem nil_g : SGs T sc [] [] := fun Z X ok xd => ⟨fun pins s σ H vs us Q I r h => by
  obtain ⟨se, h0, R, ws, s1, h1, S, b0, D, dw, e, k⟩ := h
  cases ws with
  | nil =>
    simp only [asgTs] at e
    cases e
    exact pgs_nil.run pins s σ H vs us Q I r ⟨dw, k R H _ (Ext.refl _ _) S D⟩
  | cons v r => simp only [asgTs] at e; cases e⟩
theorem cons_g {es : List Expr} {ct : CT} {cts : List CT} (hs : starred a = false) (ha : SG T sc a ct) (hr : SGs T sc es cts) : SGs T sc (a :: es) (ct :: cts) := fun Z X ok xd => ⟨fun pins s σ H vs us Q I r h => by
  obtain ⟨se, h0, R, ws, s1, h1, S, b0, D, dw, e, k⟩ := h
  cases ws with
  | nil => simp only [asgTs] at e; cases e
  | cons v ws =>
    simp only [asgTs] at e
    obtain ⟨s2, h2, e1, e2⟩ := Res.bind_eq e
    obtain ⟨x, ys, rfl, d1, d2⟩ := dw
    refine (pgs_cons (ha Z X ok xd) (hr Z X ok xd) ?_).run pins s σ H _ us Q I r ⟨x, ys, rfl, se, h0, R, v, s2, h2, S, b0, D, d1, e1, fun R' H' σ' X' S' D' => ?_⟩
    · cases a <;> first | rfl | cases hs
    · exact ⟨s2, h2, R', ws, s1, h1, S', base_of X' S S' b0, D', d2.mono X', e2, fun R2 H2 σ2 X2 S2 D2 => k R2 H2 σ2 (X'.trans X2) S2 D2⟩⟩
theorem each_len {env : PySem.Env} : ∀ {es : List Expr}, noStar es = true → (assignEach es env).length = es.length ∧ (assignEach es env).findIdx? (·.1) = none
  | [], _ => ⟨rfl, rfl⟩
  | e :: r, h => by
    simp only [noStar, List.all_cons, Bool.and_eq_true, Bool.not_eq_true'] at h
    obtain ⟨h1, h2⟩ := each_len (env := env) (show noStar r = true from h.2)
    have e1 : assignEach (e :: r) env = (false, assign e env) :: assignEach r env := by
      cases e <;> first | rfl | cases h.1
    rw [e1]
    refine ⟨by rw [List.length_cons, h1, List.length_cons], ?_⟩
    rw [List.findIdx?_cons, h2]
    rfl
theorem asgTs_len {g : G} {cts : List CT} {vs : List Val} {s s1 : Env} {h h1 : Hh} (e : asgTs g cts vs s h = .ok s1 h1) : vs.length = cts.length := by
  induction cts generalizing vs s h with
  | nil =>
    cases vs with
    | nil => rfl
    | cons v r => simp only [asgTs] at e; cases e
  | cons c cts ih =>
    cases vs with
    | nil => simp only [asgTs] at e; cases e
    | cons v r =>
      simp only [asgTs] at e
      obtain ⟨s2, h2, e1, e2⟩ := Res.bind_eq e
      rw [List.length_cons, ih e2, List.length_cons]
theorem tup_g {es : List Expr} {cts : List CT} {k : Nat} (hs : noStar es = true) (hl : cts.length = es.length) (h : SGs T sc es cts) : SG T sc (.Tuple es k pos) (.tup cts) := fun Z X ok xd => by
  refine ⟨fun pins s σ H v u Q I r hh => ?_⟩
  obtain ⟨se, h0, R, w, s1, h1, S, b0, D, dw, e, k⟩ := hh
  simp only [asgT] at e
  obtain ⟨l1, l2⟩ := each_len (env := X.env) hs
  refine (pg_seq (n := es.length) ok.calm (h Z X ok xd) l1 l2).run pins s σ H v u Q I r ?_
  generalize ew : rd h0 w = ww at e
  split at e
  · obtain ⟨p, xs, rfl, t, dl⟩ := rd_tup ew dw
    exact ⟨p, xs, rfl, .inl (by rw [← ok.K]; exact t.sq), by rw [← dl.length, asgTs_len e, hl], se, h0, R, _, s1, h1, S, b0, D, dl, e, k⟩
  · obtain ⟨p, xs, rfl, t, l, dl⟩ := dw.rd S ew
    exact ⟨p, xs, rfl, .inr (.inl (.inl t)), by rw [← dl.length, asgTs_len e, hl], se, h0, R, _, s1, h1, S, b0, D, dl, e, k⟩
  · cases e
theorem ixN_lt {n : Nat} {k : Int} {j : Nat} (e : ixN n k = some j) : j < n := (ixN_seq e).2.1
theorem sub_g (hn : notSlice b = true) (ha : SE T sc a ca) (hb : SE T sc b cb) : SG T sc (.Subscript a b pos) (.sub ca cb) := fun Z X ok xd => by
  refine ⟨fun pins s σ H v u Q I r hh => ?_⟩
  obtain ⟨se, h0, R, w, s1, h1, S, b0, D, dw, e, k⟩ := hh
  simp only [asgT] at e
  obtain ⟨x, h2, e1, e⟩ := Res.bind_eq e
  obtain ⟨y, h3, e2, e⟩ := Res.bind_eq e
  split at e
  case h_2 => cases e
  rename_i n kk e0
  split at e
  case h_2 => cases e
  rename_i ws hws
  split at e
  case h_2 => cases e
  rename_i j hj
  split at e
  case isFalse => cases e
  rename_i hm
  cases e
  refine (pg_sub (ha Z X ok) (hb Z X ok) set_list ?_).run pins s σ H v u Q I r ?_
  · intro v
    cases b <;> first | rfl | cases hn
  · refine two S b0 D e1 e2 fun R' H' vx vy X' S' b' D' dx dy => ?_
    obtain ⟨p, rp, rfl⟩ := dx
    have ob := S'.obj n _ p hws rp
    cases hp : H' p with
    | none => rw [hp] at ob; exact ob.elim
    | some o =>
      rw [hp] at ob
      cases o <;> first | exact ob.elim | skip
      rename_i xs
      obtain ⟨l1, d1⟩ := ob
      have hlt := (List.getElem?_eq_some_iff.mp hws).1
      refine ⟨p, xs, kk, j, rfl, dy, hp, by rw [← d1.length]; exact hj, ?_⟩
      have X2 : Ext R' R' H' (upd H' p (.lst (xs.set j v))) := Ext.set (List.mem_of_getElem? rp)
      have dn := d1.set j (dw.mono X')
      refine k R' _ σ (X'.trans X2) (S'.setL rp hlt (by rw [List.length_set]; exact l1) dn ?_) (D'.mono X2)
      unfold mayStore at hm
      simp only [Bool.or_eq_true, decide_eq_true_eq] at hm
      rcases hm with hm | hm
      · exact .inl hm
      · refine .inr (.inr fun bb hbb hnb => ?_)
        have q := S'.cl bb hbb n _ hnb hws
        simp only [obBelow] at q
        have hw2 := below_le (Nat.le_of_lt hnb) w hm
        have : ∀ (l : List Val) (j : Nat), belowL bb l = true → belowL bb (l.set j w) = true := by
          intro l
          induction l with
          | nil => intro j h; exact h
          | cons v r ih =>
            intro j h
            simp only [belowL, Bool.and_eq_true] at h
            cases j with
            | zero => simp only [List.set_cons_zero, belowL, Bool.and_eq_true]; exact ⟨hw2, h.2⟩
            | succ j => simp only [List.set_cons_succ, belowL, Bool.and_eq_true]; exact ⟨h.1, ih j h.2⟩
        exact this ws j q
/-! ### statements -/
def ctlQ (Z : Sx) (D : Ends) (R : Rg) (σ : L2.St) (H : Hp) : Ctl → Prop
  | .next => D.nx σ H
  | .brk => D.bk σ H
  | .cont => D.ct σ H
  | .ret v => ∀ x, Den Z.K Z.C R H v x → D.rt x H
def trS (Z : Sx) (c : CS) : TS := fun D σ H => ∃ s h R p h', Sim Z.K Z.C Z.bs Z.g.base R h H ∧ Z.g.base ≤ h.length ∧ DenS Z.K Z.C R H s σ ∧ exS Z.g c s h = .ok p h' ∧
  ∀ R' H' σ', Ext R R' H H' → Sim Z.K Z.C Z.bs Z.g.base R' h' H' → DenS Z.K Z.C R' H' p.2 σ' → ctlQ Z D R' σ' H' p.1
def trSs (Z : Sx) (cs : List CS) : TS := fun D σ H => ∃ s h R p h', Sim Z.K Z.C Z.bs Z.g.base R h H ∧ Z.g.base ≤ h.length ∧ DenS Z.K Z.C R H s σ ∧ exSs Z.g cs s h = .ok p h' ∧
  ∀ R' H' σ', Ext R R' H H' → Sim Z.K Z.C Z.bs Z.g.base R' h' H' → DenS Z.K Z.C R' H' p.2 σ' → ctlQ Z D R' σ' H' p.1
def SS (T : Stc) (sc : Scope) (st : Stmt) (c : CS) : Prop := ∀ (Z : Sx) (X : Cx), XOk T Z X sc → XD X → PS X st (trS Z c)
def SSs (T : Stc) (sc : Scope) (st : List Stmt) (c : List CS) : Prop := ∀ (Z : Sx) (X : Cx), XOk T Z X sc → XD X → PSs X st (trSs Z c)
theorem nil_s : SSs T sc [] [] := fun Z X ok xd => ⟨fun pins s σ H D I h => by
  obtain ⟨se, h0, R, p, h1, S, b0, Ds, e, k⟩ := h
  simp only [exSs] at e
  cases e
  exact pss_nil.run pins s σ H D I (k R H σ (Ext.refl _ _) S Ds)⟩
theorem cons_s {st : Stmt} {sts : List Stmt} {c : CS} {cs : List CS} (ha : SS T sc st c) (hr : SSs T sc sts cs) : SSs T sc (st :: sts) (c :: cs) := fun Z X ok xd => ⟨fun pins s σ H D I h => by
  obtain ⟨se, h0, R, p, h1, S, b0, Ds, e, k⟩ := h
  simp only [exSs] at e
  obtain ⟨q, h2, e1, e2⟩ := Res.bind_eq e
  refine (pss_cons (ha Z X ok xd) (hr Z X ok xd)).run pins s σ H D I ⟨se, h0, R, q, h2, S, b0, Ds, e1, fun R' H' σ' X' S' D' => ?_⟩
  obtain ⟨ctl, s2⟩ := q
  cases ctl with
  | next => exact ⟨s2, h2, R', p, h1, S', base_of X' S S' b0, D', e2, fun R2 H2 σ2 X2 S2 D2 => k R2 H2 σ2 (X'.trans X2) S2 D2⟩
  | brk =>
    cases e2
    exact k R' H' σ' X' S' D'
  | cont =>
    cases e2
    exact k R' H' σ' X' S' D'
  | ret v =>
    cases e2
    exact k R' H' σ' X' S' D'⟩
theorem pass_s : SS T sc (.Pass pos) .pass := fun Z X ok xd => ⟨fun pins s σ H D I h => by
  obtain ⟨se, h0, R, p, h1, S, b0, Ds, e, k⟩ := h
  simp only [exS] at e
  cases e
  exact ps_pass.run pins s σ H D I (k R H σ (Ext.refl _ _) S Ds)⟩
theorem break_s : SS T sc (.Break pos) .brk := fun Z X ok xd => ⟨fun pins s σ H D I h => by
  obtain ⟨se, h0, R, p, h1, S, b0, Ds, e, k⟩ := h
  simp only [exS] at e
  cases e
  exact ps_break.run pins s σ H D I (k R H σ (Ext.refl _ _) S Ds)⟩
theorem cont_s : SS T sc (.Continue pos) .cont := fun Z X ok xd => ⟨fun pins s σ H D I h => by
  obtain ⟨se, h0, R, p, h1, S, b0, Ds, e, k⟩ := h
  simp only [exS] at e
  cases e
  exact ps_continue.run pins s σ H D I (k R H σ (Ext.refl _ _) S Ds)⟩
theorem doc_s {x : Str} {j} {p2 : Pos} : SS T sc (.Expr (.Constant (.str x) j p2) pos) .pass := fun Z X ok xd => ⟨fun pins s σ H D I h => by
  obtain ⟨se, h0, R, p, h1, S, b0, Ds, e, k⟩ := h
  simp only [exS] at e
  cases e
  exact ps_doc.run pins s σ H D I (k R H σ (Ext.refl _ _) S Ds)⟩
theorem ret_s (ha : SE T sc a ca) : SS T sc (.Return (some a) pos) (.ret ca) := fun Z X ok xd => ⟨fun pins s σ H D I h => by
  obtain ⟨se, h0, R, p, h1, S, b0, Ds, e, k⟩ := h
  simp only [exS] at e
  obtain ⟨v, h2, e1, e2⟩ := Res.bind_eq e
  cases e2
  exact (ps_ret (ha Z X ok)).run pins s σ H D I (Co.one S b0 Ds e1 fun R' H' x X' S' b' D' dx => k R' H' σ X' S' D' x dx)⟩
theorem retN_s : SS T sc (.Return none pos) .retN := fun Z X ok xd => ⟨fun pins s σ H D I h => by
  obtain ⟨se, h0, R, p, h1, S, b0, Ds, e, k⟩ := h
  simp only [exS] at e
  cases e
  exact ps_retN.run pins s σ H D I (k R H σ (Ext.refl _ _) S Ds _ rfl)⟩
theorem if_s {s1 s2 : List Stmt} {c1 c2 : List CS} (hc : ST T sc c cc) (h1 : SSs T sc s1 c1) (h2 : SSs T sc s2 c2) : SS T sc (.If c s1 s2 pos) (.ifs cc c1 c2) := fun Z X ok xd => ⟨fun pins s σ H D I h => by
  obtain ⟨se, h0, R, p, h3, S, b0, Ds, e, k⟩ := h
  simp only [exS, truthR] at e
  obtain ⟨b, h4, e1, e2⟩ := Res.bind_eq e
  obtain ⟨v, h5, e3, e4⟩ := Res.bind_eq e1
  split at e4 <;> cases e4
  refine (ps_if (hc Z X ok) (h1 Z X ok xd) (h2 Z X ok xd)).run pins s σ H D I ⟨se, h0, R, b, h4, S, b0, Ds, e3, fun R' H' X' S' D' => ?_⟩
  have bb := base_of X' S S' b0
  cases b with
  | true => exact ⟨se, h4, R', p, h3, S', bb, D', e2, fun R2 H2 σ2 X2 S2 D2 => k R2 H2 σ2 (X'.trans X2) S2 D2⟩
  | false => exact ⟨se, h4, R', p, h3, S', bb, D', e2, fun R2 H2 σ2 X2 S2 D2 => k R2 H2 σ2 (X'.trans X2) S2 D2⟩⟩
/-- no comprehension -/
def notComp : Expr → Bool
  | .ListComp .. => false
  | .SetComp .. => false
  | .DictComp .. => false
  | _ => true
theorem swaps_ok {e : Expr} {t : Option Expr} {l : Nat} {env : PySem.Env} (h : notComp e = true) : swapsWith e t l env = pure false := by
  cases e <;> first | rfl | cases h
theorem expr_s (hn : notComp a = true) (ha : SE T sc a ca) : SS T sc (.Expr a pos) (.expr ca) := fun Z X ok xd => ⟨fun pins s σ H D I h => by
  obtain ⟨se, h0, R, p, h1, S, b0, Ds, e, k⟩ := h
  simp only [exS] at e
  obtain ⟨v, h2, e1, e2⟩ := Res.bind_eq e
  cases e2
  exact (ps_expr (ha Z X ok) (swaps_ok hn)).run pins s σ H D I (Co.one S b0 Ds e1 fun R' H' x X' S' b' D' dx => k R' H' σ X' S' D')⟩
end
end Co
end

section
set_option linter.all false
set_option maxRecDepth 100000
set_option autoImplicit false
/-! Co16: loops, stores. -/
namespace Co
open PySem PySem.Spec
                        PyProof.Rows L2
section
variable {T : Stc} {sc : Scope} {a b c : Expr} {ca cb cc : CE} {pos : Pos}
theorem folded_ok {iter : Expr} {env : PySem.Env} (h : notSet iter = true) (x : Value) : foldedSetIterable iter env x = pure x := by
  unfold foldedSetIterable
  cases iter <;> first | rfl | cases h
theorem for_s {tg iter : Expr} {ct : CT} {ci : CE} {body : List Stmt} {cs : List CS} (hset : notSet iter = true) (hg : SG T sc tg ct) (hi : SI T sc tg iter ci) (hb : SSs T sc body cs) : SS T sc (.For tg iter body [] pos) (.for ct ci cs) := fun Z X ok xd => ⟨fun pins s σ H D I h => by
  obtain ⟨se, h0, R, q, h', S, b0, Ds, e, k⟩ := h
  simp only [exS] at e
  obtain ⟨p, h1, e1, e⟩ := Res.bind_eq e
  refine (ps_for xd.px ok.calm (hi Z X ok) (hg Z X ok xd) (hb Z X ok xd) (folded_ok hset)).run pins s σ H D I ⟨se, h0, R, p, h1, S, b0, Ds, e1, fun R1 H1 J X1 S1 D1 itd => ?_⟩
  have b1 := base_of X1 S S1 b0
  generalize hstep : (fun (v : Val) (s : Env) (h : Hh) => (asgT Z.g ct v s h).bind fun s1 h1 => exSs Z.g cs s1 h1) = step at e
  refine ⟨fun i mm σi Hi => i + mm = p.1.length ∧ ∃ (si : Env) (hi : Hh) (Ri : Rg), Ext R1 Ri H1 Hi ∧ Sim Z.K Z.C Z.bs Z.g.base Ri hi Hi ∧ DenS Z.K Z.C Ri Hi si σi ∧ forL p.2 step (p.1.drop i) si hi = .ok q h',
    ⟨p.1.length, by simp, se, h1, R1, Ext.refl _ _, S1, D1, e⟩, ?_⟩
  rintro i mm σi Hi ⟨him, si, hi, Ri, Xi, Si, Di, ei⟩
  have bi := base_of Xi S1 Si b1
  cases hd : p.1.drop i with
  | nil =>
    rw [hd] at ei
    have hi_len : i = p.1.length := by
      have := congrArg List.length hd
      simp at this
      omega
    simp only [forL] at ei
    split at ei
    case isFalse => cases ei
    rename_i hg
    cases ei
    obtain ⟨_, hstop⟩ := itd Ri h' Hi Xi Si hg
    exact .inl ⟨by rw [hi_len]; exact hstop, k Ri Hi σi (X1.trans Xi) Si Di⟩
  | cons u us =>
    rw [hd] at ei
    have hiu : p.1[i]? = some u := by
      have := congrArg (fun l => l[0]?) hd
      simpa using this
    have hilt : i < p.1.length := (List.getElem?_eq_some_iff.mp hiu).1
    have hus : us = p.1.drop (i + 1) := by
      have := congrArg List.tail hd
      simpa using this.symm
    simp only [forL] at ei
    split at ei
    case isFalse => cases ei
    rename_i hg
    obtain ⟨r, h3, e3, e4⟩ := Res.bind_eq ei
    obtain ⟨hgo, _⟩ := itd Ri hi Hi Xi Si hg
    obtain ⟨go, yld⟩ := hgo i u hiu
    refine .inr ⟨go, fun σ' H' => i + 1 + (mm - 1) = p.1.length ∧ ∃ (si : Env) (hi : Hh) (Ri : Rg), Ext R1 Ri H1 H' ∧ Sim Z.K Z.C Z.bs Z.g.base Ri hi H' ∧ DenS Z.K Z.C Ri H' si σ' ∧ forL p.2 step (p.1.drop (i + 1)) si hi = .ok q h',
      fun σ' H' w => ⟨mm - 1, by omega, w⟩, fun x H' y => ?_⟩
    obtain ⟨Xy, Sy, dx⟩ := yld x H' y
    rw [← hstep] at e3
    dsimp only at e3
    obtain ⟨s5, h5, e5, e6⟩ := Res.bind_eq e3
    refine ⟨si, hi, Ri, u, s5, h5, Sy, bi, Di.mono Xy, dx, e5, fun R6 H6 σ6 X6 S6 D6 => ?_⟩
    refine ⟨s5, h5, R6, r, h3, S6, base_of X6 Sy S6 bi, D6, e6, fun R7 H7 σ7 X7 S7 D7 => ?_⟩
    have XX : Ext R1 R7 H1 H7 := ((Xi.trans Xy).trans X6).trans X7
    obtain ⟨ctl, s8⟩ := r
    cases ctl with
    | next => exact ⟨by omega, s8, h3, R7, XX, S7, D7, by rw [← hus]; exact e4⟩
    | cont => exact ⟨by omega, s8, h3, R7, XX, S7, D7, by rw [← hus]; exact e4⟩
    | brk =>
      cases e4
      exact k R7 H7 σ7 (X1.trans XX) S7 D7
    | ret v =>
      cases e4
      exact k R7 H7 σ7 (X1.trans XX) S7 D7⟩
theorem while_s {body : List Stmt} {cs : List CS} (hc : ST T sc c cc) (hb : SSs T sc body cs) : SS T sc (.While c body [] pos) (.while cc cs) := fun Z X ok xd => ⟨fun pins s σ H D I h => by
  obtain ⟨se, h0, R, q, h', S, b0, Ds, e, k⟩ := h
  simp only [exS] at e
  refine (ps_while xd.px (hc Z X ok) (hb Z X ok xd)).run pins s σ H D I ?_
  generalize htest : (fun (s : Env) (h : Hh) => truthR (evE Z.g cc s h)) = test at e
  generalize hstep : (fun (s : Env) (h : Hh) => exSs Z.g cs s h) = step at e
  refine ⟨fun mm σi Hi => ∃ (si : Env) (hi : Hh) (Ri : Rg), Ext R Ri H Hi ∧ Sim Z.K Z.C Z.bs Z.g.base Ri hi Hi ∧ DenS Z.K Z.C Ri Hi si σi ∧ whileL test step mm si hi = .ok q h', ⟨turns, se, h0, R, Ext.refl _ _, S, Ds, e⟩, ?_⟩
  rintro mm σi Hi ⟨si, hi, Ri, Xi, Si, Di, ei⟩
  have bi := base_of Xi S Si b0
  cases mm with
  | zero => simp only [whileL] at ei; cases ei
  | succ mm =>
    simp only [whileL] at ei
    obtain ⟨bb, h2, e1, e2⟩ := Res.bind_eq ei
    rw [← htest] at e1
    simp only [truthR] at e1
    obtain ⟨v, h3, e3, e4⟩ := Res.bind_eq e1
    split at e4 <;> cases e4
    refine ⟨si, hi, Ri, bb, h2, Si, bi, Di, e3, fun R4 H4 X4 S4 D4 => ?_⟩
    cases bb with
    | false =>
      rw [if_neg Bool.false_ne_true] at e2
      cases e2
      exact k R4 H4 σi (Xi.trans X4) S4 D4
    | true =>
      rw [if_pos rfl] at e2
      obtain ⟨r, h5, e5, e6⟩ := Res.bind_eq e2
      rw [← hstep] at e5
      show ∃ N : L2.St → Hp → Prop, _
      refine ⟨fun σ' H' => ∃ (si : Env) (hi : Hh) (Ri : Rg), Ext R Ri H H' ∧ Sim Z.K Z.C Z.bs Z.g.base Ri hi H' ∧ DenS Z.K Z.C Ri H' si σ' ∧ whileL test step mm si hi = .ok q h', fun σ' H' w => ⟨mm, Nat.lt_succ_self _, w⟩, ?_⟩
      refine ⟨si, h2, R4, r, h5, S4, base_of X4 Si S4 bi, D4, e5, fun R7 H7 σ7 X7 S7 D7 => ?_⟩
      have XX : Ext R R7 H H7 := (Xi.trans X4).trans X7
      obtain ⟨ctl, s8⟩ := r
      cases ctl with
      | next => exact ⟨s8, h5, R7, XX, S7, D7, e6⟩
      | cont => exact ⟨s8, h5, R7, XX, S7, D7, e6⟩
      | brk =>
        cases e6
        exact k R7 H7 σ7 XX S7 D7
      | ret v =>
        cases e6
        exact k R7 H7 σ7 XX S7 D7⟩
/-! ### stores -/
def isName : Expr → Bool
  | .Name .. => true
  | _ => false
theorem swapsT_ok {e tg : Expr} {l : Nat} {env : PySem.Env} (h : isName tg = false) : swapsWith e (some tg) l env = pure false := by
  cases tg <;> first | (cases e <;> rfl) | cases h
def isSeqT : Expr → Bool
  | .Tuple .. => true
  | .List .. => true
  | _ => false
def isTup : Expr → Bool
  | .Tuple .. => true
  | _ => false
theorem noSwap1 {e tg : Expr} {env : PySem.Env} (h : isSeqT tg = false ∨ isTup e = false) : swappedStores [tg] e env = pure none := by
  cases tg <;> first | (cases e <;> rfl) | (rcases h with h | h; cases h; cases e <;> first | rfl | cases h)
theorem asg_core {Z : Sx} {X : Cx} {tg e : Expr} {ct : CT} {c : CE} {pins : List (Addr × Obj)} {s : Shared} {σ : L2.St} {H : Hp} {D : Ends} (I : L2.Inv X pins σ H s) (hst : starred tg = false) (he : PE X e (trE Z c)) (hg : PG X tg (trG Z ct))
    (h1 : swapsWith e (some tg) pos.line X.env = pure false) (h2 : swappedStores [tg] e X.env = pure none) (h : trS Z (.asg ct c) D σ H) : wpAny (model X.prog X.w) X.A (exec (.Assign [tg] e pos) X.env) (SP X pins D) X.xe s := by
  obtain ⟨se, h0, R, q, h', S, b0, Ds, ee, k⟩ := h
  simp only [exS] at ee
  obtain ⟨v, h3, e1, ee⟩ := Res.bind_eq ee
  obtain ⟨s4, h4, e2, ee⟩ := Res.bind_eq ee
  cases ee
  refine (ps_asg he hg h1 h2 ?_).run pins s σ H D I (Co.one S b0 Ds e1 fun R' H' x X' S' b' D' dx => ?_)
  · cases tg <;> first | rfl | cases hst
  · exact ⟨se, h3, R', v, s4, h', S', b', D', dx, e2, fun R2 H2 σ2 X2 S2 D2 => k R2 H2 σ2 (X'.trans X2) S2 D2⟩
/-- a value that is no comprehension, a target or a value that is no tuple -/
theorem asg_s {tg : Expr} {ct : CT} (hst : starred tg = false) (h1 : notComp a = true ∨ isName tg = false) (h2 : isSeqT tg = false ∨ isTup a = false) (ha : SE T sc a ca) (hg : SG T sc tg ct) : SS T sc (.Assign [tg] a pos) (.asg ct ca) := fun Z X ok xd => ⟨fun pins s σ H D I h =>
  asg_core I hst (ha Z X ok) (hg Z X ok xd) (h1.elim swaps_ok swapsT_ok) (noSwap1 h2) h⟩
/-- is the stored comprehension exchanged -/
def lcSwap (sc : Scope) (y : Str) (py lp : Pos) (scope : Scope) : Bool := sc.names.lookup y == some .local && (py.line == lp.line && !(scope.names.any fun (n, k) => n == y && (k == .local || k == .cell)))
theorem lc_no {env : PySem.Env} {y : Str} {py lp : Pos} {elt : Expr} {gs : List Comprehension} {scope : Scope} {l : Nat} (h : lcSwap env.scope y py lp scope = false) : swapsWith (.ListComp elt gs scope lp) (some (.Name y py)) l env = pure false := by
  unfold swapsWith
  show (pure (env.blockKind == .function && env.kindOf y == some .local && py.line == lp.line && !(scope.names.any fun (n, k) => n == y && (k == .local || k == .cell))) : Sem Bool) = pure false
  congr 1
  unfold lcSwap at h
  have e : env.kindOf y = env.scope.names.lookup y := rfl
  rw [e]
  generalize (env.scope.names.lookup y == some NameKind.local) = u at h ⊢
  generalize (py.line == lp.line) = w at h ⊢
  generalize (env.blockKind == ScopeKind.function) = z
  generalize (!(scope.names.any fun (n, k) => n == y && (k == .local || k == .cell))) = q at h ⊢
  cases u <;> cases w <;> cases q <;> cases z <;> simp_all
theorem asgLc_s {m one : Bool} {tg : List Nat} {own : List (Str × Nat)} {elt tge iter : Expr} {ifs : List Expr} {scope : Scope} {ci ce : CE} {cs : List CE} {y : Str} {i : Nat} {py lp : Pos} (hy : T.N[i]? = some y) (hsw : lcSwap sc y py lp scope = true) (hset : notSet iter = true) (hok : BlkOk T.N sc scope own) (hl : cs.length ≤ 1)
    (ho : ∀ i ∈ tg, i ∈ own.map (·.2)) (htg : tgOk T.N (canB scope (relS scope sc)) one tg tge = true) (hi : SI T sc tge iter ci) (ht : STs T (relS scope sc) ifs cs) (he : SE T (relS scope sc) elt ce) :
    SS T sc (.Assign [.Name y py] (.ListComp elt [⟨tge, iter, ifs, 0⟩] scope lp) pos) (.asg (.name i) (.comp m (own.map (·.2)) tg one ci cs ce)) := fun Z X ok xd => ⟨fun pins s σ H D I h => by
  obtain ⟨se, h0, R, q, h', S, b0, Ds, ee, k⟩ := h
  simp only [exS, asgT] at ee
  obtain ⟨v, h3, e1, ee⟩ := Res.bind_eq ee
  simp only [Res.bind_ok] at ee
  cases ee
  simp only [lcSwap, Bool.and_eq_true, Bool.not_eq_true'] at hsw
  have hyl : X.env.scope.names.lookup y = some .local := by rw [ok.sc]; simpa using hsw.1
  refine (ps_setLc (i := i) (wi := trI Z ci) (g := trGn X.K one tg) (tt := trTs Z cs) (te := trE Z ce) ok.calm (by rw [ok.N]; exact ok.nd) (by rw [ok.N]; exact hy) hyl (sw_true xd.kd hyl hsw.2.1 hsw.2.2) (hi Z X ok) (by rw [ok.N, ok.sc]; exact hok) (fun s H C cl fp => ?_) (fun s H C cl fp => ht Z _ (ok.blk s H scope C cl fp)) (fun s H C cl fp => he Z _ (ok.blk s H scope C cl fp)) (folded_ok hset)).run pins _ σ H D I ?_
  · refine tg_pg (X := X.blk s H scope (compEnvC scope cl C X.env) fp) ok.calm (by show X.N.Nodup; rw [ok.N]; exact ok.nd) (can_b (ok.blk s H scope C cl fp).sc rfl) ?_
    show tgOk X.N _ one tg tge = true
    rw [ok.N]
    exact htg
  · exact comp_core ok hl ho S b0 Ds e1 fun R' H' x X' S' D' dx => k R' H' _ X' S' (D'.set i dx)⟩
/-! ### stores that are swapped -/
def swNames (sc : Scope) (ts : List Expr) : List Str := ts.filterMap fun
    | .Name id pos => if sc.names.lookup id == some .local && pos.line == (ts.head?.map (·.pos.line)).getD 0 then some id else none
    | _ => none
def swK (sc : Scope) (ts vs : List Expr) : Option Bool :=
  if (!(ts.length == 2 || ts.length == 3) || vs.length != ts.length) = true then some false else
  if (vs.any fun | .Starred .. => true | _ => false) = true then some false else
  if ((swNames sc ts).length != ts.length || (swNames sc ts).eraseDups.length != (swNames sc ts).length) = true then some false else
  if vs.all (foldedForSure 8) = true then some false else if vs.all (constantsAlone 8) = true then none else some true
theorem sw_eq {ts vs : List Expr} {k k2 : Nat} {p p2 : Pos} {env : PySem.Env} (hk : env.scope.kind = .function) : swappedStores [.Tuple ts k p] (.Tuple vs k2 p2) env =
    (match swK env.scope ts vs with | some false => pure none | some true => pure (some (swNames env.scope ts)) | none => unsupported "assign.tuple-of-constant-expressions:order-of-the-stores") := by
  have hb : env.blockKind = .function
                          := by unfold Env.blockKind; rw [hk]; rfl
  unfold swappedStores swK
  dsimp only
  rw [hb]
  have hf : (ScopeKind.function != ScopeKind.function) = false := by decide
  rw [hf, Bool.or_false]
  by_cases c1 : (!(ts.length == 2 || ts.length == 3) || vs.length != ts.length) = true
  · rw [if_pos c1, if_pos c1]
  · rw [if_neg c1, if_neg c1]
    by_cases c2 : (vs.any fun | .Starred .. => true | _ => false) = true
    · rw [if_pos c2]
      exact if_pos c2
    · rw [if_neg c2]
      refine Eq.trans (if_neg c2) ?_
      by_cases c3 : ((swNames env.scope ts).length != ts.length || (swNames env.scope ts).eraseDups.length != (swNames env.scope ts).length) = true
      · rw [if_pos c3]
        exact if_pos c3
      · rw [if_neg c3]
        refine Eq.trans (if_neg c3) ?_
        by_cases c4 : vs.all (foldedForSure 8) = true
        · rw [if_pos c4, if_pos c4]
        · rw [if_neg c4, if_neg c4]
          by_cases c5 : vs.all (constantsAlone 8) = true
          · rw [if_pos c5, if_pos c5]
            rfl
          · rw [if_neg c5, if_neg c5]
            rfl
theorem asgT_s {ts vs : List Expr} {cts : List CT} {cvs : List CE} {k k2 : Nat} {p p2 : Pos} (hsw : swK sc ts vs = some false) (ha : SE T sc (.Tuple vs k2 p2) ca) (hg : SG T sc (.Tuple ts k p) (.tup cts)) : SS T sc (.Assign [.Tuple ts k p] (.Tuple vs k2 p2) pos) (.asg (.tup cts) ca) := fun Z X ok xd => ⟨fun pins s σ H D I h =>
  asg_core I rfl (ha Z X ok) (hg Z X ok xd) (swaps_ok rfl) (by rw [sw_eq xd.kd, ok.sc, hsw]) h⟩
theorem tupE_den {Z : Sx} {es : List CE} {s : Env} {h h2 : Hh} {v : Val} (e : evE Z.g (.tup es) s h = .ok v h2) : ∃ vs, evEs Z.g es s h = .ok vs h2 ∧ v = .tup vs := by
  simp only [evE] at e
  obtain ⟨vs, h3, e1, e⟩ := Res.bind_eq e
  split at e <;> cases e
  exact ⟨vs, e1, rfl⟩
theorem par2_s {x y : Str} {i j : Nat} {px py pt p2 : Pos} {kt k2 : Nat} (hi : T.N[i]? = some x) (hj : T.N[j]? = some y) (hij : i ≠ j) (hx : sc.names.lookup x = some .local) (hy : sc.names.lookup y = some .local)
    (hsw : swK sc [.Name x px, .Name y py] [a, b] = some true) (hnm : swNames sc [.Name x px, .Name y py] = [x, y]) (h : SA T sc [a, b] [ca, cb]) :
    SS T sc (.Assign [.Tuple [.Name x px, .Name y py] kt pt] (.Tuple [a, b] k2 p2) pos) (.asg (.tup [.name i, .name j]) (.tup [ca, cb])) := fun Z X ok xd => ⟨fun pins s σ H D I hh => by
  obtain ⟨se, h0, R, q, h', S, b0, Ds, ee, k⟩ := hh
  rw [exS] at ee
  obtain ⟨v, h3, e1, ee⟩ := Res.bind_eq ee
  obtain ⟨vs, e8, rfl⟩ := tupE_den e1
  clear e1
  simp only [asgT, rd] at ee
  obtain ⟨s4, h4, e2, ee⟩ := Res.bind_eq ee
  cases ee
  match vs, e8, e2 with
  | [u, w], e1, e2 =>
    simp only [asgTs, asgT, Res.bind_ok] at e2
    cases e2
    refine (ps_par ok.calm (by rw [ok.N]; exact ok.nd) (by rw [ok.N]; exact hi) (by rw [ok.N]; exact hj) hij (by rw [ok.sc]; exact hx) (by rw [ok.sc]; exact hy) (h Z X ok) (by rw [sw_eq xd.kd, ok.sc, hsw]; show pure (some _) = _; rw [hnm]) rfl).run pins s σ H D I ?_
    refine more S b0 Ds e1 fun R' H' xs X' S' b' D' dx => ?_
    obtain ⟨x1, _, rfl, d1, y1, _, rfl, d2, d3⟩ := dx
    rw [show _ = ([] : List V) from d3]
    exact ⟨x1, y1, rfl, k R' H' _ X' S' ((D'.set i d1).set j d2)⟩
  | [], _, e2 => simp only [asgTs] at e2; cases e2
  | [_], _, e2 => simp only [asgTs, asgT, Res.bind_ok] at e2; cases e2
  | _ :: _ :: _ :: _, _, e2 => simp only [asgTs, asgT, Res.bind_ok] at e2; cases e2⟩
theorem par3_s {x y z : Str} {i j l : Nat} {px py pz pt p2 : Pos} {kt k2 : Nat} (hi : T.N[i]? = some x) (hj : T.N[j]? = some y) (hl : T.N[l]? = some z) (hij : i ≠ j) (hil : i ≠ l) (hjl : j ≠ l) (hx : sc.names.lookup x = some .local) (hy : sc.names.lookup y = some .local) (hz : sc.names.lookup z = some .local)
    (hsw : swK sc [.Name x px, .Name y py, .Name z pz] [a, b, c] = some true) (hnm : swNames sc [.Name x px, .Name y py, .Name z pz] = [x, y, z]) (h : SA T sc [a, b, c] [ca, cb, cc]) :
    SS T sc (.Assign [.Tuple [.Name x px, .Name y py, .Name z pz] kt pt] (.Tuple [a, b, c] k2 p2) pos) (.asg (.tup [.name i, .name j, .name l]) (.tup [ca, cb, cc])) := fun Z X ok xd => ⟨fun pins s σ H D I hh => by
  obtain ⟨se, h0, R, q, h', S, b0, Ds, ee, k⟩ := hh
  rw [exS] at ee
  obtain ⟨v, h3, e1, ee⟩ := Res.bind_eq ee
  obtain ⟨vs, e8, rfl⟩ := tupE_den e1
  clear e1
  simp only [asgT, rd] at ee
  obtain ⟨s4, h4, e2, ee⟩ := Res.bind_eq ee
  cases ee
  match vs, e8, e2 with
  | [u, w, t], e1, e2 =>
    simp only [asgTs, asgT, Res.bind_ok] at e2
    cases e2
    refine (ps_par3 ok.calm (by rw [ok.N]; exact ok.nd) (by rw [ok.N]; exact hi) (by rw [ok.N]; exact hj) (by rw [ok.N]; exact hl) hij hil hjl (by rw [ok.sc]; exact hx) (by rw [ok.sc]; exact hy) (by rw [ok.sc]; exact hz) (h Z X ok) (by rw [sw_eq xd.kd, ok.sc, hsw]; show pure (some _) = _; rw [hnm]) rfl).run pins s σ H D I ?_
    refine more S b0 Ds e1 fun R' H' xs X' S' b' D' dx => ?_
    obtain ⟨x1, _, rfl, d1, y1, _, rfl, d2, z1, _, rfl, d3, d4⟩ := dx
    rw [show _ = ([] : List V) from d4]
    exact ⟨x1, y1, z1, rfl, k R' H' _ X' S' (((D'.set i d1).set j d2).set l d3)⟩
  | [], _, e2 => simp only [asgTs] at e2; cases e2
  | [_], _, e2 => simp only [asgTs, asgT, Res.bind_ok] at e2; cases e2
  | [_, _], _, e2 => simp only [asgTs, asgT, Res.bind_ok] at e2; cases e2
  | _ :: _ :: _ :: _ :: _, _, e2 => simp only [asgTs, asgT, Res.bind_ok] at e2; cases e2⟩
end
end Co
end

section
set_option linter.all false
set_option maxRecDepth 100000
set_option autoImplicit false
/-! Cf: an attribute of an own object is set. -/
namespace Co
open PySem PySem.Spec
                        PyProof.Rows L2
section
variable {K : PySem.W.Frag} {C : Nat → Addr} {bs : List Nat} {base : Nat} {R : Rg} {h : Hh} {H : Hp}
theorem denK_put {f : Str} {v : Val} {x : V} (d : Den K C R H v x) : ∀ {kvs : List (Key × Val)} {gs : List (Str × V)}, DenK K C R H kvs (gs.map fun p => (Sum.inr p.1, p.2)) → DenK K C R H (putW (.inr f) v kvs) ((putF f x gs).map fun p => (Sum.inr p.1, p.2))
  | [], gs, h => by
    have e : gs.map (fun p : Str × V => ((Sum.inr p.1 : Key), p.2)) = [] := h
    rw [List.map_eq_nil_iff.mp e]
    exact ⟨x, [], rfl, d, rfl⟩
  | (k, w) :: r, gs, h => by
    obtain ⟨y, ys, q, d1, d2⟩ := h
    cases gs with
    | nil => cases q
    | cons g gs =>
      obtain ⟨g, z⟩ := g
      simp only [List.map_cons, List.cons.injEq, Prod.mk.injEq] at q
      obtain ⟨⟨rfl, rfl⟩, rfl⟩ := q
      by_cases e : g = f
      · subst e
        simp only [putW, putF, if_true]
        exact ⟨x, _, rfl, d, d2⟩
      · have e2 : ¬ (Sum.inr g : Key) = Sum.inr f := fun z => e (Sum.inr.inj z)
        simp only [putW, putF, if_neg e, if_neg e2]
        exact ⟨z, _, rfl, d1, denK_put d d2⟩
theorem denK_len : ∀ {kvs : List (Key × Val)} {xs : List (Key × V)}, DenK K C R H kvs xs → kvs.length = xs.length
  | [], xs, h => by rw [show xs = [] from h]; rfl
  | (k, w) :: r, xs, h => by
    obtain ⟨y, ys, rfl, d1, d2⟩ := h
    rw [List.length_cons, List.length_cons, denK_len d2]
theorem belowK_put {b : Nat} {k : Key} {v : Val} (hv : below b v = true) : ∀ {kvs : List (Key × Val)}, belowK b kvs = true → belowK b (putW k v kvs) = true
  | [], _ => by simp only [putW, belowK, hv, Bool.and_self]
  | (m, w) :: r, h => by
    simp only [belowK, Bool.and_eq_true] at h
    unfold putW
    split
    · simp only [belowK, Bool.and_eq_true]; exact ⟨hv, h.2⟩
    · simp only [belowK, Bool.and_eq_true]; exact ⟨h.1, belowK_put hv h.2⟩
theorem Sim.setI (S : Sim K C bs base R h H) {n : Nat} {p : Addr} {c : Nat} {fs : List (Key × Val)} {dx : Addr} {gs : List (Str × V)} (r : R.own[n]? = some p) (hn : n < h.length) (d : DenK K C R H fs (gs.map fun p => (Sum.inr p.1, p.2)))
    (hm : base ≤ n ∨ ∀ b ∈ bs, n < b → belowK b fs = true) : Sim K C bs base R (h.set n (.ins c fs)) (upd H p (.ins (C c) dx gs)) := by
  have mp : p ∈ R.own := List.mem_of_getElem? r
  have X : Ext R R H (upd H p (.ins (C c) dx gs)) := Ext.set mp
  refine ⟨by simp [S.len], S.nd, S.dj, fun i ob a e r2 => ?_, fun b hb i ob hi e => ?_, S.le, fun a m => X.there a (S.nn a m)⟩
  · by_cases hin : n = i
    · subst hin
      rw [List.getElem?_set_self hn] at e
      cases e
      rw [r] at r2; cases r2
      rw [upd_same]
      exact ⟨rfl, d.mono X⟩
    · rw [List.getElem?_set_ne hin] at e
      have np : a ≠ p := fun z => by
        subst z
        have h1 := List.getElem?_eq_some_iff.mp r
        have h2 := List.getElem?_eq_some_iff.mp r2
        exact hin ((List.getElem_inj S.nd).mp (h1.2.trans h2.2.symm))
      rw [upd_ne np]
      exact (S.obj i ob a e r2).mono X
  · by_cases hin : n = i
    · subst hin
      rw [List.getElem?_set_self hn] at e
      cases e
      rcases hm with hm | hm
      · exact absurd (Nat.lt_of_lt_of_le hi (S.le b hb)) (Nat.not_lt.mpr hm)
      · exact hm b hb hi
    · rw [List.getElem?_set_ne hin] at e
      exact S.cl b hb i ob hi e
end
section
variable {T : Stc} {sc : Scope} {a o : Expr} {ca co : CE} {pos pos' : Pos}
theorem fld_s {f : Str} (hf : f ∈ T.flds) (ho : SE T sc o co) (ha : SE T sc a ca) : SS T sc (.Assign [.Attribute o f pos'] a pos) (.fld co f ca) := fun Z X ok xd => ⟨fun pins s σ H D I h => by
  obtain ⟨se, h0, R, q, h', S, b0, Ds, ee, k⟩ := h
  simp only [exS] at ee
  obtain ⟨v, h1, e1, ee⟩ := Res.bind_eq ee
  obtain ⟨x, h2, e2, ee⟩ := Res.bind_eq ee
  obtain ⟨u, h3, e3, ee⟩ := Res.bind_eq ee
  cases ee
  unfold setFld at e3
  split at e3
  case h_2 => cases e3
  rename_i n
  split at e3
  case h_2 => cases e3
  rename_i c fs hob
  split at e3
  case isFalse => cases e3
  rename_i hc
  cases e3
  obtain ⟨c1, c2, c3, c4, c5⟩ := hc
  refine (ps_fld (ho Z X ok) (ha Z X ok) (swapsT_ok rfl)).run pins s σ H D I ?_
  refine two S b0 Ds e1 e2 fun R' H' y xx X' S' b' D' dy dx => ?_
  obtain ⟨p, rp, rfl⟩ := dx
  have ob := S'.obj n _ p hob rp
  cases hp : H' p with
  | none => rw [hp] at ob; exact ob.elim
  | some w =>
    rw [hp] at ob
    cases w <;> first | exact ob.elim | skip
    rename_i cc dd gs
    obtain ⟨rfl, dk⟩ := ob
    have ll := denK_len dk
    rw [List.length_map] at ll
    have hlt := (List.getElem?_eq_some_iff.mp hob).1
    refine ⟨p, Z.C c, dd, gs, rfl, hp, (ok.cls c c1).cl, ok.noat c f c1 hf c2 c3, by omega, ?_⟩
    have X2 : Ext R' R' H' (upd H' p (.ins (Z.C c) dd (putF f y gs))) := Ext.set (List.mem_of_getElem? rp)
    refine k R' _ σ (X'.trans X2) (S'.setI rp hlt (denK_put dy dk) ?_) (D'.mono X2)
    unfold mayStore at c5
    simp only [Bool.or_eq_true, decide_eq_true_eq] at c5
    rcases c5 with hm | hm
    · exact .inl hm
    · refine .inr fun bb hbb hnb => ?_
      have q := S'.cl bb hbb n _ hnb hob
      simp only [obBelow] at q
      exact belowK_put (below_le (Nat.le_of_lt hnb) v hm) q⟩
end
end Co
end

section
set_option linter.all false
set_option maxRecDepth 100000
set_option autoImplicit false
/-! Cg: what a class says of its instances: ==, !=, str, repr, bool; making by name; f-strings; zip of three. -/
namespace Co
open PySem PySem.Spec
                        PyProof.Rows L2
section
open PySem.W PySem.Calls
variable {prog : Program} {w : World} {A : Around} {E : Value → Shared → Prop} {s : Shared} {K : Frag} {x C f : Addr} {ox : Obj} {od : Option Obj} {b tb : Value}
theorem ifBound_B {M : Model} {name : Str} {id : String} {args : List Value} {Q : Option Value → Shared → Prop} (X : K.In s.heap) (I : InstAt s.heap x ox C od) (hs : findIn K (.ref C) name = some (some (.builtin id)))
    (hb : ∀ self, bindSpecial (.builtin id) self = pure (.builtin id, [self])) (h : wpAny M A (call (.builtin id) (.ref x :: args)) (fun v => Q (some v)) E s) : wpAny M A (callSpecialIfBound? (.ref x) name args) Q E s := by
  simp only [callSpecialIfBound?,
                          bindSpecialIfBound?]
  refine wpAny_holding (wpAny_bind (wpAny_bind (wpAny_bind
                          (I.type.here ((looks_findIn X hs).here ?_)))))
  refine wpAny_bind
                          (wpAny_askSetting (wpAny_ite ?_))
  have fin : wpAny M A (call (.builtin id) ([.ref x] ++ args) >>= fun v => pure (some v)) Q E s := wpAny_bind (wpAny_mono h (fun v s' h' => wpAny_pure h') fun _ _ h' => h')
  split
  · exact wpAny_bind ((Looks.of_pure (hb _)).here (wpAny_pure (by exact fin)))
  · exact wpAny_tryCatch (wpAny_bind ((Looks.of_pure (hb _)).here (wpAny_pure (by exact fin))))
open PySem.Builtin in
theorem kne_obj {Q : Fin → Shared → Prop} (hu : A.units < cLine) (X : K.In s.heap) (I : InstAt s.heap x ox C od) (hs : findIn K (.ref C) "__eq__" = some (some (.ref f))) (hf : isFn K (.ref f) = true)
    (h : wpAny (model prog w) A (call (.ref f) [.ref x, b]) (fun v s' => ∃ k, v = .bool k ∧ Q (.done (.ret (.bool (!k)))) s') E s) : wpAny (model prog w) A (Builtin.«object.__ne__» ⟨[.ref x, b], []⟩) Q E s := by
  unfold
                          Builtin.«object.__ne__»
  repeat (first
    | with_reducible refine
                            wpAny_cRoomFor hu ?_
    | (refine wpAny_bind (m := callSpecialIfBound? (.ref x) (Str.ofString "__eq__") [b])
        (ifBound_K X I hs hf (wpAny_mono h (fun r s' hr => by
          obtain ⟨k, rfl, hq⟩ := hr
          repeat (first | exact wpAny_pure hq | exact wpAny_truthy_bool hq | exact hq | (refine wpAny_bind (m := truthy (.bool _)) (wpAny_truthy_bool ?_)) | wp_step)) fun _ _ e => e)))
    | wp_step)
theorem kne {Q : Value → Shared → Prop} (hu : A.units < cLine) (hu1 : A.in1.units < cLine) (X : K.In s.heap) (I : InstAt s.heap x ox C od) (hb : Looks (model prog w) s.heap (typeOf b) tb) (hn : notFirst K C tb = true)
    (hne : findIn K (.ref C) "__ne__" = some (some (.builtin "object.__ne__"))) (hs : findIn K (.ref C) "__eq__" = some (some (.ref f))) (hf : isFn K (.ref f) = true) (hm : mroIn K C (.type "object") = some true)
    (h : wpAny (model prog w) A.in1 (call (.ref f) [.ref x, b]) (fun v s' => ∃ k, v = .bool k ∧ Q (.bool (!k)) s') E s) : wpAny (model prog w) A (richCompare .NotEq (.ref x) b) Q E s := by
  have one : wpAny (model prog w) A (tryCompare (.ref x) "__ne__" b) (fun r s' => ∃ v, r = some v ∧ Q v s') E s := by
    unfold tryCompare
    refine wpAny_bind (ifBound_B X I hne PySem.F.cmp_object.ne.bind (wpAny_call (codeAny_call_builtin PySem.F.cmp_object.ne.plain PySem.F.cmpEntry_ne
      (check_slot (i := "object.__ne__") (owner := "object") (n := "__ne__") (by decide +kernel) (by decide +kernel) (I.type.andThen (looks_mroIn X hm)) (PySem.F.cmpArgs_ne _ _) (kne_obj hu1 X I hs hf (wpAny_mono h (fun v s' hv => ?_) fun _ _ e => e))))))
    obtain ⟨k, rfl, hq⟩ := hv
    first | exact ⟨k, rfl, wpAny_pure ⟨_, rfl, hq⟩⟩ | exact ⟨k, rfl, wpAny_pure (wpAny_pure ⟨_, rfl, hq⟩)⟩ | exact ⟨k, rfl, ⟨_, rfl, hq⟩⟩
  unfold richCompare
  simp only [oneThing_ref]
  refine wpAny_holding (wpAny_bind
                          (wpAny_cRoomFor hu ?_))
  refine wpAny_bind (I.type.here
                          (wpAny_bind (hb.here ?_)))
  split
  · rename_i q
    have e : subIn K tb
                            (.ref C) = some false := by
      rcases Bool.or_eq_true_iff.mp
                              hn with e | e
      · rw [beq_iff_eq.mp
                              e] at q; simp at q
      · exact beq_iff_eq.mp e
    refine wpAny_bind
                            ((looks_subIn X e).here ?_)
    simp only [Bool.false_eq_true,
                            if_false]
    refine wpAny_bind (wpAny_mono one
                            (fun r s' z => ?_) fun _ _ e => e)
    obtain ⟨v, rfl, hq⟩ := z
    exact wpAny_pure hq
  · refine wpAny_bind
                          (wpAny_pure ?_)
    simp only [Bool.false_eq_true,
                            if_false]
    refine wpAny_bind (wpAny_mono one
                            (fun r s' z => ?_) fun _ _ e => e)
    obtain ⟨v, rfl, hq⟩ := z
    exact wpAny_pure hq
open PySem.Builtin in
theorem krepr {Q : Value → Shared → Prop} (hu : A.in1.units < cLine) (X : K.In s.heap) (I : InstAt s.heap x ox C od) (hs : findIn K (.ref C) "__repr__" = some (some (.ref f))) (hf : isFn K (.ref f) = true)
    (h : wpAny (model prog w) A.in1 (call (.ref f) [.ref x]) (fun r s' => ∃ m tk, r = .str m tk ∧ Q (.str m tk) s') E s) : wpAny (model prog w) A (call (.builtin "repr") [.ref x]) Q E s := by
  refine Calls.call_function_entry F.kind_repr F.plain_repr F.entry_repr
                          (F.args_repr1 _) ?_
  unfold Builtin.«repr»
  refine wpAny_bind
                          (m := oneArg "repr" _) (wpAny_pure ?_)
  refine wpAny_bind
                          (wpAny_cRoomFor hu ?_)
  refine wpAny_bind (wpAny_bind (I.type.here
                          ((looks_findIn X hs).here ?_)))
  show wpAny _ _ (if (some
                          (Value.ref f)).isNone = true then _ else _) _ _ _
  rw [if_neg (by simp)]
  refine wpAny_bind (m := callSpecialIfBound? (.ref x) (Str.ofString "__repr__") _) (ifBound_K X I hs hf (wpAny_mono h (fun r s' hr => ?_) fun _ _ y => y))
  obtain ⟨m, tk, rfl, hq⟩ := hr
  refine wpAny_bind (wpAny_isInstance
                          (typeIs_str _ _ _) isSubtype_str_str ?_)
  first
    | exact wpAny_pure
                            ⟨_, rfl, hq⟩
    | (rw [if_pos rfl]; exact wpAny_pure
                            ⟨_, rfl, hq⟩)
    | (simp only [if_true]; exact wpAny_pure
                            ⟨_, rfl, hq⟩)
theorem ktruthy {M : Model} {Q : Bool → Shared → Prop} (X : K.In s.heap) (I : InstAt s.heap x ox C od) (h1 : findIn K (.ref C) "__bool__" = some none) (h2 : findIn K (.ref C) "__len__" = some none) (h : Q true s) : wpAny M A (truthy (.ref x)) Q E s := by
  unfold truthy
  refine wpAny_bind (m := callSpecial? (.ref x) (Str.ofString "__bool__")) (wpAny_bind (wpAny_bind (I.type.here ((looks_findIn X h1).here (wpAny_pure ?_)))))
  refine wpAny_bind (wpAny_bind (I.type.here ((looks_findIn X h2).here ?_)))
  show wpAny _ _ (if (none : Option Value).isNone = true then _ else _) _ _ _
  rw [if_pos (show
                          (none : Option Value).isNone = true from rfl)]
  exact wpAny_pure h
end
/-! ### steps of the core -/
theorem nf_of {K : PySem.W.Frag} {C : Addr} {t : Value} {d : Bool} (e : PySem.W.kitOne K t (.ref C) = some d) (h : d = false ∨ t = .ref C) : PySem.W.notFirst K C t = true := by
  unfold PySem.W.notFirst
  rcases h with rfl | rfl
  · unfold PySem.W.kitOne at e
    split at e
    · cases e
    · unfold PySem.W.kitCls at e
      dsimp only at e
      split at e
      · rw [e]; simp
      · cases e
  · simp
section
variable {T : Stc} {sc : Scope} {a b : Expr} {ca cb : CE} {pos : Pos} {Z : Sx} {X : Cx}
/-- a method's promise, asked by the class -/
def spS (Z : Sx) (nm : Str) (a : Addr) (rest : List V) (H : Hp) (Q : VK) : Prop := ∃ (dx : Addr) (gs : List (Str × V)) (cl p : Nat), H a = some (.ins (Z.C cl) dx gs) ∧ Z.g.meth cl nm = some p ∧ spZ Z p (.ref a :: rest) H Q
theorem call_m {A : Around} {pins : List (Addr × Obj)} {s : Shared} {σ : L2.St} {H : Hp} {Q : VK} {fa : Addr} {fd : FuncData} {ps : List Str} {k p : Nat} {vs : List V} {us : List Value} {W : Value → Shared → Prop} (ok : XOk T Z X sc) (I : Inv X pins σ H s) (F : FnG X.prog X.w X.K X.mg X.base k fa fd ps (spZ Z p)) (hr : Room k A) (hg : A.guards = some []) (hb : Binds X.K fd ps []) (E0 : Env0 X.prog X.w X.K X.mg X.base A X.stack s H)
    (r : Vals vs us) (h : spZ Z p vs H Q) (q : ∀ (v : V) (u : Value) (H' : Hp) (s' : Shared), Inv X pins σ H' s' → RelV v u → Q v H' → W u s') : wpAny (model X.prog X.w) A (call (.ref fa) us) W X.xe s := by
  have hl : us.length = ps.length := by rw [← r.length]; exact F.len _ _ _ h
  refine wpAny_call (codeAny_mono (F.run A X.stack s H ⟨us, []⟩ us vs Q hr hg E0 (bindsN hb I.kIn hl) r h) fun rr s' hq => ?_)
  obtain ⟨u, rfl, qq⟩ := crEnd (A := X.A) hq
  obtain ⟨v, H', I', rv, q'⟩ := I.after qq
  exact q v u H' s' I' rv q'
theorem call_str (ok : XOk T Z X sc) : CallR X (.type "str") (fun xs H Q => ∃ a, xs = [.ref a] ∧ spS Z "__str__" a [] H fun v H' => ∃ t, v = .str t ∧ Q (.str t) H') := by
  intro pins s σ
                          H xs us Q I r h
  obtain ⟨a, rfl, dx, gs, cl, p, ea, hm, h⟩ := h
  obtain rfl := Vals.ref1 r
  obtain ⟨hc, _, _, k, fa, fd, ps, SO, F, hr, hb⟩ := ok.sps cl _ p hm
  obtain
                          ⟨mA, O, _⟩ := ins_get I.hok ea
  obtain ⟨od, J, _⟩ := O.look
  refine PySem.W.kso_call hr.in1.in1.units0 I.kIn J SO.at_ SO.fn (call_m ok I F hr.in1.in1 ok.gd hb I.env0.in1.in1 r h fun v u H' s' I' rv q => ?_)
  obtain ⟨t, rfl, q⟩ := q
  obtain ⟨tk, rfl⟩ := rv
  exact ⟨.str t, H', I', ⟨tk, rfl⟩, q⟩
theorem call_repr (ok : XOk T Z X sc) : CallR X (.builtin "repr") (fun xs H Q => ∃ a, xs = [.ref a] ∧ spS Z "__repr__" a [] H fun v H' => ∃ t, v = .str t ∧ Q (.str t) H') := by
  intro pins s σ
                          H xs us Q I r h
  obtain ⟨a, rfl, dx, gs, cl, p, ea, hm, h⟩ := h
  obtain rfl := Vals.ref1 r
  obtain ⟨hc, _, _, k, fa, fd, ps, SO, F, hr, hb⟩ := ok.sps cl _ p hm
  obtain
                          ⟨mA, O, _⟩ := ins_get I.hok ea
  obtain ⟨od, J, _⟩ := O.look
  have hr1 : Room (k + 1) X.A.in1 := hr.in1
  refine krepr hr1.units0 I.kIn J SO.at_ SO.fn (call_m ok I F (hr1.mono (by omega)) ok.gd hb I.env0.in1 r h fun v u H' s' I' rv q => ?_)
  obtain ⟨t, rfl, q⟩ := q
  obtain ⟨tk, rfl⟩ := rv
  exact ⟨t, tk, rfl, .str t, H', I', ⟨tk, rfl⟩, q⟩
/-- what == asks of the other value -/
def othr (X : Cx) (Z : Sx) (cl : Nat) (y : V) (H : Hp) : Prop := ∃ (t : Value) (d : Bool), TyX X.K H y t ∧ PySem.W.kitOne X.K t (.ref (Z.C cl)) = some d ∧ (d = false ∨ t = .ref (Z.C cl))
theorem relV_ni {v : V} {u : Value} (r : RelV v u) : u ≠ .notImplemented := by
  rintro rfl
  cases v <;> first | (obtain ⟨t, e⟩ := r; cases e; done) | cases r
theorem cmpBack_of {Q : Value → Shared → Prop} {u : Value} {s : Shared} (n : u ≠ .notImplemented) (h : Q u s) : PySem.W.CmpBack Q u s := by
  cases u <;> first | exact h | exact absurd rfl n
theorem op_eqO (ok : XOk T Z X sc) : OpR X (compareOp .Eq) (fun x y H Q => ∃ a dx gs cl p, x = .ref a ∧ H a = some (.ins (Z.C cl) dx gs) ∧ Z.g.meth cl "__eq__" = some p ∧ othr X Z cl y H ∧ spZ Z p [.ref a, y] H Q) := by
  intro pins s σ H x
                          y v u Q I rx ry h
  obtain ⟨a, dx, gs, cl, p, rfl, ea, hm, ⟨t, d, ty, e1, e2⟩, h⟩ := h
  obtain rfl : v =
                          Value.ref a := rx
  obtain ⟨hc, _, _, k, fa, fd, ps, SO, F, hr, hb⟩ := ok.sps cl _ p hm
  obtain
                          ⟨mA, O, _⟩ := ins_get I.hok ea
  obtain ⟨od, J, _⟩ := O.look
  obtain ⟨P, kx, hP, _⟩ := kit_of I ry ty
  obtain ⟨m, hF⟩ := I.fr
  unfold compareOp
  refine PySem.W.cmp_K (op := .Eq) (tb := t) hr.units0 hF I.ok.mod.kin J (kx.ty _ _ I.kIn hP) (nf_of e1 e2) SO.at_ SO.fn (call_m ok I F (hr.mono (by omega)) ok.gd hb I.env0 (.cons (show RelV (V.ref a) (Value.ref a) from rfl) (.cons ry .nil)) h fun v u H' s' I' rv q => ?_)
  exact cmpBack_of (relV_ni rv) ⟨v, H', I', rv, q⟩
theorem op_neO (ok : XOk T Z X sc) : OpR X (compareOp .NotEq) (fun x y H Q => ∃ a dx gs cl p, x = .ref a ∧ H a = some (.ins (Z.C cl) dx gs) ∧ Z.g.meth cl "__eq__" = some p ∧ othr X Z cl y H ∧ spZ Z p [.ref a, y] H fun v H' => ∃ k, v = .bl k ∧ Q (.bl (!k)) H') := by
  intro pins s σ H x
                          y v u Q I rx ry h
  obtain ⟨a, dx, gs, cl, p, rfl, ea, hm, ⟨t, d, ty, e1, e2⟩, h⟩ := h
  obtain rfl : v =
                          Value.ref a := rx
  obtain ⟨hc, _, _, k, fa, fd, ps, SO, F, hr, hb⟩ := ok.sps cl _ p hm
  obtain
                          ⟨mA, O, _⟩ := ins_get I.hok ea
  obtain ⟨od, J, _⟩ := O.look
  obtain ⟨P, kx, hP, _⟩ := kit_of I ry ty
  have hr1 : Room (k + 1) X.A.in1 := hr.in1
  unfold compareOp
  refine kne hr.units0 hr1.units0 I.kIn J (kx.ty _ _ I.kIn hP) (nf_of e1 e2) (SO.ne rfl) SO.at_ SO.fn (ok.cls cl hc).hm (call_m ok I F (hr1.mono (by omega)) ok.gd hb I.env0.in1 (.cons (show RelV (V.ref a) (Value.ref a) from rfl) (.cons ry .nil)) h fun v u H' s' I' rv q => ?_)
  obtain ⟨kk, rfl, q⟩ := q
  obtain rfl : u = Value.bool kk := rv
  exact ⟨kk, rfl, .bl (!kk), H', I', rfl, q⟩
theorem mcall_eq {g : G} {o : CE} {nm : Str} {es : List CE} {s : Env} {h h' : Hh} {v : Val} (e : evE g (.mcall o nm es) s h = .ok v h') : ∃ x h1 vs h2 c fs p, evE g o s h = .ok x h1 ∧ evEs g es s h1 = .ok vs h2 ∧ fldV h1 x = some (c, fs) ∧ g.meth c nm = some p ∧ g.call p (x :: vs) h2 = .ok v h' := by
  simp only [evE] at e
  obtain ⟨x, h1, e1, e⟩ := Res.bind_eq e
  obtain ⟨vs, h2, e2, e⟩ := Res.bind_eq e
  split at e
  · rename_i c fs ef
    split at e
    · rename_i p ep
      exact ⟨x, h1, vs, h2, c, fs, p, e1, e2, ef, ep, e⟩
    · cases e
  · cases e
/-- the other value's type -/
theorem othr_of {R : Rg} {h : Hh} {H : Hp} {w : Val} {y : V} {cl : Nat} (ok : XOk T Z X sc) (S : SimZ Z R h H) (d : DenZ Z R H w y) (hk : kindOk Z.g.ncl h w = true) (own : ∀ t ∈ tyNames, PySem.W.kitOne X.K (.type t) (.ref (Z.C cl)) = some false) (own2 : ∀ d, d < Z.g.ncl → PySem.W.kitOne X.K (.ref (Z.C d)) (.ref (Z.C cl)) = some (decide (d = cl))) : othr X Z cl y H := by
  rcases tyx ok S hk d with ⟨t, ht, ty, _⟩ | ⟨c2, hc, ty, _⟩
  · exact ⟨_, false, ty, own t ht, .inl rfl⟩
  · refine ⟨_, _, ty, own2 c2 hc, ?_⟩
    by_cases e : c2 = cl
    · exact .inr (by rw [e])
    · exact .inl (decide_eq_false e)
theorem clsN {x : Str} {cl : Nat} (ok : XOk T Z X sc) (hx : T.cls.lookup x = some cl) : (∀ t ∈ tyNames, PySem.W.kitOne X.K (.type t) (.ref (Z.C cl)) = some false) ∧ ∀ d, d < Z.g.ncl → PySem.W.kitOne X.K (.ref (Z.C d)) (.ref (Z.C cl)) = some (decide (d = cl)) :=
  let ⟨_, _, a, b, _⟩ := ok.mks x cl hx
  ⟨a, b⟩

theorem app_nil (t : Str) : t ++ (⟨#[]⟩ : Str) = t := by
  cases t
  show (⟨_ ++ #[]⟩ : Str) = _
  simp
theorem add_str {x v : Val} (e : bop .Add x (.str ⟨#[]⟩) = some v) : ∃ t, x = .str t ∧ v = .str t := by
  cases x <;> simp only [bop] at e <;> first | (cases e; done) | skip
  split at e <;> cases e
  exact ⟨_, rfl, by rw [app_nil]⟩
theorem rdS {h : Hh} {x : Val} {t : Str} (e : Co.rd h x = .str t) : x = .str t := rd_eq e fun _ z => nomatch z
/-- str(o), repr(o), by the class -/
theorem sp_core {nm : Str} {se : Env} {h0 h1 : Hh} {v : Val} (e : evE Z.g (.bin .Add (.mcall ca nm []) (.cst (.str ⟨#[]⟩))) se h0 = .ok v h1) : ∃ o h2 c fs p t, evE Z.g ca se h0 = .ok o h2 ∧ fldV h2 o = some (c, fs) ∧ Z.g.meth c nm = some p ∧ Z.g.call p [o] h2 = .ok (.str t) h1 ∧ v = .str t := by
  rw [show evE Z.g (.bin .Add (.mcall ca nm []) (.cst (.str ⟨#[]⟩))) se h0 = (evE Z.g (.mcall ca nm []) se h0).bind fun x h1 => (evE Z.g (.cst (.str ⟨#[]⟩)) se h1).bind fun y h2 => opt (bop .Add (Co.rd h2 x) (Co.rd h2 y)) h2 from by simp only [evE]] at e
  obtain ⟨x, h2, e1, e⟩ := Res.bind_eq e
  obtain ⟨y, h3, e2, e⟩ := Res.bind_eq e
  simp only [evE] at e2
  cases e2
  obtain ⟨e3, rfl⟩ := opt_eq e
  obtain ⟨t, e4, rfl⟩ := add_str e3
  obtain rfl := rdS e4
  obtain ⟨o, h3, vs, h4, c, fs, p, f1, f2, f3, f4, f5⟩ := mcall_eq e1
  simp only [evEs] at f2
  cases f2
  exact ⟨o, h3, c, fs, p, t, f1, f3, f4, f5, rfl⟩
theorem boot_strT : bootBuiltins "str" = some (.type "str") := by decide +kernel
theorem boot_reprB : bootBuiltins "repr" = some (.builtin "repr") := by decide +kernel
theorem boot_boolT : bootBuiltins "bool" = some (.type "bool") := by decide +kernel
theorem strO_e {p : Pos} (hg : isGl sc "str" = true) (hm : ("str" : Str) ∈ T.blt) (hs : starred a = false) (hc : starC ca = false) (ha : SE T sc a ca) : SE T sc (.Call (.Name "str" p) [a] [] pos) (.bin .Add (.mcall ca "__str__" []) (.cst (.str ⟨#[]⟩))) := fun Z X ok => by
  refine
                          ⟨fun pins s σ H Q I h => ?_⟩
  obtain ⟨se, h0, R, v, h1, S, b0, D, e, k⟩ := h
  obtain ⟨o, h2, c, fs, p, t, e1, e2, e3, e4, rfl⟩ := sp_core e
  refine (pe_callTy (call_str ok) (gl_of ok hg) (ok.blt _ hm) boot_strT (cons_a hs hc ha nil_a Z X ok) (by decide) (by decide) (star1 hs) rfl).run pins _ σ H Q I ?_
  have ee : evEs Z.g [ca] se h0 = .ok [o] h2 := by rw [evEs_cons hc, e1]; rfl
  refine more S b0 D ee fun R' H' xs X' S' b' D' dx => ?_
  obtain ⟨y, ys, rfl, d1, d2⟩ := dx
  rw [show ys = [] from d2]
  obtain ⟨p', dd, gs, rfl, hp, dk⟩ := fld_den S' e2 d1
  exact ⟨p', rfl, dd, gs, c, p, hp, e3, R', h2, [o], _, h1, S', b', ⟨_, _, rfl, d1, rfl⟩, e4, fun R2 H2 x2 X2 S2 d2 => ⟨t, d2, k R2 H2 _ (X'.trans X2) S2 (D'.mono X2) rfl⟩⟩
theorem reprO_e {p : Pos} (hg : isGl sc "repr" = true) (hm : ("repr" : Str) ∈ T.blt) (hs : starred a = false) (hc : starC ca = false) (ha : SE T sc a ca) : SE T sc (.Call (.Name "repr" p) [a] [] pos) (.bin .Add (.mcall ca "__repr__" []) (.cst (.str ⟨#[]⟩))) := fun Z X ok => by
  refine
                          ⟨fun pins s σ H Q I h => ?_⟩
  obtain ⟨se, h0, R, v, h1, S, b0, D, e, k⟩ := h
  obtain ⟨o, h2, c, fs, p, t, e1, e2, e3, e4, rfl⟩ := sp_core e
  refine (pe_callB (call_repr ok) (gl_of ok hg) (ok.blt _ hm) boot_reprB (cons_a hs hc ha nil_a Z X ok) (by decide) (by decide) (star1 hs) rfl).run pins _ σ H Q I ?_
  have ee : evEs Z.g [ca] se h0 = .ok [o] h2 := by rw [evEs_cons hc, e1]; rfl
  refine more S b0 D ee fun R' H' xs X' S' b' D' dx => ?_
  obtain ⟨y, ys, rfl, d1, d2⟩ := dx
  rw [show ys = [] from d2]
  obtain ⟨p', dd, gs, rfl, hp, dk⟩ := fld_den S' e2 d1
  exact ⟨p', rfl, dd, gs, c, p, hp, e3, R', h2, [o], _, h1, S', b', ⟨_, _, rfl, d1, rfl⟩, e4, fun R2 H2 x2 X2 S2 d2 => ⟨t, d2, k R2 H2 _ (X'.trans X2) S2 (D'.mono X2) rfl⟩⟩
/-! bool(o), where the class tells neither truth nor length -/
theorem meets_bool_ins {K : PySem.W.Frag} {x C : Addr} {ox : Obj} {od : Option Obj} (h1 : PySem.W.findIn K (.ref C) "__bool__" = some none) (h2 : PySem.W.findIn K (.ref C) "__len__" = some none) :
    Meets (Builtin.«bool.__new__» ⟨[.type "bool", .ref x], []⟩) (fun _ R s => (K.In s.heap ∧ PySem.W.InstAt s.heap x ox C od) ∧ R (.ok (.ret (.bool true))) s) :=
  Meets.of_wp
                          fun prog w A R s hs => by
    obtain ⟨⟨hX, hI⟩, hs⟩ := hs
    obtain
                            ⟨hp, g, d, tk, os⟩ := s
    have f1 := F.conv_sub_bool
    repeat (any_goals (first | assumption | (with_reducible refine ktruthy hX hI h1 h2 ?_) | wp_step))
    all_goals first | exact
                            ⟨_, rfl, hs⟩ | exact hs | skip
theorem call_boolO (ok : XOk T Z X sc) (b1 : ("__bool__" : Str) ∈ T.flds) (b2 : ("__len__" : Str) ∈ T.flds) : CallR X (.type "bool") (fun xs H Q => ∃ a dx gs cl, xs = [.ref a] ∧ H a = some (.ins (Z.C cl) dx gs) ∧ cl < Z.g.ncl ∧ Q (.bl true) H) := by
  intro pins s σ
                          H xs us Q I r h
  obtain ⟨a, dx, gs, cl, rfl, ea, hc, q⟩ := h
  obtain rfl := Vals.ref1 r
  obtain
                          ⟨mA, O, _⟩ := ins_get I.hok ea
  obtain ⟨od, J, _⟩ := O.look
  obtain ⟨n1, n2⟩ := ok.nob b1 b2 cl hc
  exact call_bool_1 (meets_bool_ins n1 n2) ⟨⟨I.kIn, J⟩, ⟨rfl, .bl true, H, I, rfl, q⟩⟩
theorem isIns_fld {h : Hh} {w : Val} {cl : Nat} (e : isIns h (.cls cl) w = true) : ∃ fs, fldV h w = some (cl, fs) := by
  cases w <;> simp only [isIns] at e <;> first | (cases e; done) | skip
  · rename_i c fs
    rw [of_decide_eq_true e]
    exact ⟨fs, rfl⟩
  · rename_i n
    simp only [fldV]
    split at e
    · rename_i d fs hn
      have e : d = cl := of_decide_eq_true e
      rw [e]
      exact ⟨fs, rfl⟩
    · cases e
theorem boolO_e {p : Pos} {cl : Nat} (b1 : ("__bool__" : Str) ∈ T.flds) (b2 : ("__len__" : Str) ∈ T.flds) (hg : isGl sc "bool" = true) (hm : ("bool" : Str) ∈ T.blt) (hs : starred a = false) (hc : starC ca = false) (ha : SE T sc a ca) : SE T sc (.Call (.Name "bool" p) [a] [] pos) (.or (.isI (.cls cl) ca) .bad) := fun Z X ok => by
  refine
                          ⟨fun pins s σ H Q I h => ?_⟩
  obtain ⟨se, h0, R, v, h1, S, b0, D, e, k⟩ := h
  simp only [evE] at e
  obtain ⟨x, h2, e1, e⟩ := Res.bind_eq e
  obtain ⟨w, h3, e0, e4⟩ := Res.bind_eq e1
  by_cases hk : kindOk Z.g.ncl h3 w = true
  case neg => rw [if_neg hk] at e4; cases e4
  rw [if_pos hk] at e4
  cases e4
  cases hi : isIns h2 (.cls cl) w with
  | false => rw [hi] at e; cases e
  | true =>
    rw [hi] at e
    cases e
    obtain ⟨fs, hf⟩ := isIns_fld hi
    have hcl : cl < Z.g.ncl := by
      cases w <;> simp only [fldV] at hf <;> first | (cases hf; done) | skip
      · cases hf
        simpa [kindOk] using hk
      · simp only [kindOk] at hk
        split at hf <;> cases hf
        rename_i hn
        rw [hn] at hk
        simpa using hk
    refine (pe_callTy (call_boolO ok b1 b2) (gl_of ok hg) (ok.blt _ hm) boot_boolT (cons_a hs hc ha nil_a Z X ok) (by decide) (by decide) (star1 hs) rfl).run pins _ σ H Q I ?_
    have ee : evEs Z.g [ca] se h0 = .ok [w] h1 := by rw [evEs_cons hc, e0]; rfl
    refine more S b0 D ee fun R' H' xs X' S' b' D' dx => ?_
    obtain ⟨y, ys, rfl, d1, d2⟩ := dx
    rw [show ys = [] from d2]
    obtain ⟨p', dd, gs, rfl, hp, dk⟩ := fld_den S' hf d1
    exact ⟨p', dd, gs, cl, rfl, hp, hcl, k R' H' _ X' S' D' rfl⟩
/-! == and != of names -/
def eqC (cl i j : Nat) : CE := .ite (.isI (.cls cl) (.var j)) (.mcall (.var i) "__eq__" [.var j]) (.mcall (.var i) "__eq__" [.var j])
theorem eqC_eq {g : G} {cl i j : Nat} {se : Env} {h0 h1 : Hh} {v : Val} (e : evE g (eqC cl i j) se h0 = .ok v h1) : ∃ x w c fs p, evE g (.var i) se h0 = .ok x h0 ∧ evE g (.var j) se h0 = .ok w h0 ∧ kindOk g.ncl h0 w = true ∧ fldV h0 x = some (c, fs) ∧ g.meth c "__eq__" = some p ∧ g.call p [x, w] h0 = .ok v h1 := by
  unfold eqC at e
  rw [show ∀ (A B : CE), evE g (.ite A B B) se h0 = (evE g A se h0).bind fun x h1 => (match x with | .bl true => evE g B se h1 | .bl false => evE g B se h1 | _ => .bad) from fun A B => by first | (simp only [evE]; done) | (simp only [evE]; rfl)] at e
  obtain ⟨y, h2, e1, e⟩ := Res.bind_eq e
  simp only [evE] at e1
  obtain ⟨w, h3, e2, e4⟩ := Res.bind_eq e1
  clear e1
  have hj : h3 = h0 ∧ evE g (.var j) se h0 = .ok w h0 := by
    simp only [evE]
    split at e2 <;> cases e2
    exact ⟨rfl, by simp_all⟩
  obtain ⟨rfl, hj⟩ := hj
  by_cases hk : kindOk g.ncl h3 w = true
  case neg => rw [if_neg hk] at e4; cases e4
  rw [if_pos hk] at e4
  cases e4
  have e : evE g (.mcall (.var i) "__eq__" [.var j]) se h2 = .ok v h1 := by
    cases hi : isIns h2 (.cls cl) w <;> rw [hi] at e <;> exact e
  obtain ⟨x, h4, vs, h5, c, fs, p, f1, f2, f3, f4, f5⟩ := mcall_eq e
  have hi : h4 = h2 ∧ evE g (.var i) se h2 = .ok x h2 := by
    have f0 := f1
    simp only [evE] at f1
    split at f1 <;> cases f1
    exact ⟨rfl, f0⟩
  obtain ⟨rfl, hi⟩ := hi
  rw [evEs_cons rfl, hj] at f2
  simp only [Res.bind_ok, evEs] at f2
  cases f2
  exact ⟨x, w, c, fs, p, hi, hj, hk, f3, f4, f5⟩
theorem eqO_e {cl i j : Nat} (hm : notSet b = true) (ha : SE T sc a (.var i)) (hb : SE T sc b (.var j)) : SE T sc (.Compare a [.Eq] [b] pos) (eqC cl i j) := fun Z X ok => by
  refine
                          ⟨fun pins s σ H Q I h => ?_⟩
  obtain ⟨se, h0, R, v, h1, S, b0, D, e, k⟩ := h
  obtain ⟨x, w, c, fs, p, e1, e2, hk, f3, f4, f5⟩ := eqC_eq e
  refine (pe_cmpR (op_eqO ok) (ha Z X ok) (hb Z X ok) (marks_ok hm)).run pins _ σ H Q I ?_
  exact two S b0 D e1 e2 fun R' H' vx vy X' S' b' D' dx dy => by
    obtain ⟨p', dd, gs, rfl, hp, dk⟩ := fld_den S' f3 dx
    obtain ⟨_, t1, t2, _⟩ := ok.sps c _ p f4
    exact ⟨p', dd, gs, c, p, rfl, hp, f4, othr_of ok S' dy hk t1 t2, R', h0, [x, w], v, h1, S', b', ⟨_, _, rfl, dx, _, _, rfl, dy, rfl⟩, f5, fun R2 H2 x2 X2 S2 d2 => k R2 H2 x2 (X'.trans X2) S2 (D'.mono X2) d2⟩
theorem neO_e {cl i j : Nat} (hm : notSet b = true) (ha : SE T sc a (.var i)) (hb : SE T sc b (.var j)) : SE T sc (.Compare a [.NotEq] [b] pos) (.not (eqC cl i j)) := fun Z X ok => by
  refine
                          ⟨fun pins s σ H Q I h => ?_⟩
  obtain ⟨se, h0, R, v, h1, S, b0, D, e, k⟩ := h
  rw [show evE Z.g (.not (eqC cl i j)) se h0 = (evE Z.g (eqC cl i j) se h0).bind fun x h1 => (match x with | .bl b => .ok (.bl (!b)) h1 | _ => .bad) from by first | (simp only [evE]; done) | (simp only [evE]; rfl)] at e
  obtain ⟨u, h2, e0, e⟩ := Res.bind_eq e
  obtain ⟨kk, rfl⟩ : ∃ kk, u = .bl kk := by cases u <;> first | exact ⟨_, rfl⟩ | cases e
  cases e
  obtain ⟨x, w, c, fs, p, e1, e2, hk, f3, f4, f5⟩ := eqC_eq e0
  refine (pe_cmpR (op_neO ok) (ha Z X ok) (hb Z X ok) (marks_ok hm)).run pins _ σ H Q I ?_
  exact two S b0 D e1 e2 fun R' H' vx vy X' S' b' D' dx dy => by
    obtain ⟨p', dd, gs, rfl, hp, dk⟩ := fld_den S' f3 dx
    obtain ⟨_, t1, t2, _⟩ := ok.sps c _ p f4
    exact ⟨p', dd, gs, c, p, rfl, hp, f4, othr_of ok S' dy hk t1 t2, R', h0, [x, w], _, h1, S', b', ⟨_, _, rfl, dx, _, _, rfl, dy, rfl⟩, f5, fun R2 H2 x2 X2 S2 d2 => ⟨kk, d2, k R2 H2 _ (X'.trans X2) S2 (D'.mono X2) rfl⟩⟩
theorem eqO_t {cl i j : Nat} (hm : notSet b = true) (ha : SE T sc a (.var i)) (hb : SE T sc b (.var j)) : ST T sc (.Compare a [.Eq] [b] pos) (eqC cl i j) := fun Z X ok => by
  refine
                          ⟨fun pins s σ H Q I h => ?_⟩
  obtain ⟨se, h0, R, v, h1, S, b0, D, e, k⟩ := h
  obtain ⟨x, w, c, fs, p, e1, e2, hk, f3, f4, f5⟩ := eqC_eq e
  refine (pt_cmpR (op_eqO ok) (ha Z X ok) (hb Z X ok) (marks_ok hm)).run pins _ σ H Q I ?_
  exact two S b0 D e1 e2 fun R' H' vx vy X' S' b' D' dx dy => by
    obtain ⟨p', dd, gs, rfl, hp, dk⟩ := fld_den S' f3 dx
    obtain ⟨_, t1, t2, _⟩ := ok.sps c _ p f4
    exact ⟨p', dd, gs, c, p, rfl, hp, f4, othr_of ok S' dy hk t1 t2, R', h0, [x, w], _, h1, S', b', ⟨_, _, rfl, dx, _, _, rfl, dy, rfl⟩, f5, fun R2 H2 x2 X2 S2 d2 => ⟨_, d2, k R2 H2 (X'.trans X2) S2 (D'.mono X2)⟩⟩
theorem neO_t {cl i j : Nat} (hm : notSet b = true) (ha : SE T sc a (.var i)) (hb : SE T sc b (.var j)) : ST T sc (.Compare a [.NotEq] [b] pos) (.not (eqC cl i j)) := fun Z X ok => by
  refine
                          ⟨fun pins s σ H Q I h => ?_⟩
  obtain ⟨se, h0, R, v, h1, S, b0, D, e, k⟩ := h
  rw [show evE Z.g (.not (eqC cl i j)) se h0 = (evE Z.g (eqC cl i j) se h0).bind fun x h1 => (match x with | .bl b => .ok (.bl (!b)) h1 | _ => .bad) from by first | (simp only [evE]; done) | (simp only [evE]; rfl)] at e
  obtain ⟨u, h2, e0, e⟩ := Res.bind_eq e
  obtain ⟨kk, rfl⟩ : ∃ kk, u = .bl kk := by cases u <;> first | exact ⟨_, rfl⟩ | cases e
  cases e
  obtain ⟨x, w, c, fs, p, e1, e2, hk, f3, f4, f5⟩ := eqC_eq e0
  refine (pt_cmpR (op_neO ok) (ha Z X ok) (hb Z X ok) (marks_ok hm)).run pins _ σ H Q I ?_
  exact two S b0 D e1 e2 fun R' H' vx vy X' S' b' D' dx dy => by
    obtain ⟨p', dd, gs, rfl, hp, dk⟩ := fld_den S' f3 dx
    obtain ⟨_, t1, t2, _⟩ := ok.sps c _ p f4
    exact ⟨p', dd, gs, c, p, rfl, hp, f4, othr_of ok S' dy hk t1 t2, R', h0, [x, w], _, h1, S', b', ⟨_, _, rfl, dx, _, _, rfl, dy, rfl⟩, f5, fun R2 H2 x2 X2 S2 d2 => ⟨kk, d2, _, rfl, k R2 H2 (X'.trans X2) S2 (D'.mono X2)⟩⟩
/-! f-strings: a text, a length, a text -/
theorem len_int {es : List CE} {se : Env} {h0 h1 : Hh} {v : Val} {g : G} (e : evE g (.callB .len es) se h0 = .ok v h1) : ∃ n : Nat, v = .int n := by
  simp only [evE] at e
  obtain ⟨vs, h2, e1, e⟩ := Res.bind_eq e
  obtain ⟨e3, rfl⟩ := opt_eq e
  generalize asL vs h1 = ws at e3
  cases ws with
  | nil => cases e3
  | cons x r =>
    cases r with
    | nil => cases x <;> simp only [Co.bi] at e3 <;> first | (cases e3; done) | (cases e3; exact ⟨_, rfl⟩) | (split at e3 <;> cases e3; exact ⟨_, rfl⟩)
    | cons y r =>
      unfold Co.bi at e3
      split at e3 <;> simp_all
theorem fstr_e {s1 s2 : Str} {j1 j2} {p1 p2 p3 : Pos} {es : List CE} (ha : SE T sc a (.callB .len es)) (l1 : s1.length ≤ 1000) (l2 : s2.length ≤ 1000) :
    SE T sc (.JoinedStr [.Constant (.str s1) j1 p1, .FormattedValue a (-1) none p2, .Constant (.str s2) j2 p3] pos) (.bin .Add (.bin .Add (.cst (.str s1)) (.callB .str [.callB .len es])) (.cst (.str s2))) := fun Z X ok => by
  refine
                          ⟨fun pins s σ H Q I h => ?_⟩
  obtain ⟨se, h0, R, v, h1, S, b0, D, e, k⟩ := h
  rw [show ∀ (A B : CE), evE Z.g (.bin .Add A B) se h0 = (evE Z.g A se h0).bind fun x h1 => (evE Z.g B se h1).bind fun y h2 => opt (bop .Add (Co.rd h2 x) (Co.rd h2 y)) h2 from fun A B => by simp only [evE]] at e
  obtain ⟨x, h2, e1, e⟩ := Res.bind_eq e
  obtain ⟨y, h3, e2, e⟩ := Res.bind_eq e
  simp only [evE] at e2
  cases e2
  obtain ⟨e3, rfl⟩ := opt_eq e
  rw [show ∀ (A B : CE), evE Z.g (.bin .Add A B) se h0 = (evE Z.g A se h0).bind fun x h1 => (evE Z.g B se h1).bind fun y h2 => opt (bop .Add (Co.rd h2 x) (Co.rd h2 y)) h2 from fun A B => by simp only [evE]] at e1
  obtain ⟨x1, h4, e4, e1⟩ := Res.bind_eq e1
  simp only [evE] at e4
  cases e4
  obtain ⟨y1, h5, e5, e1⟩ := Res.bind_eq e1
  obtain ⟨e6, rfl⟩ := opt_eq e1
  rw [show ∀ A : CE, evE Z.g (.callB .str [A]) se h0 = (evEs Z.g [A] se h0).bind fun vs h1 => opt (Co.bi .str (asL vs h1)) h1 from fun A => by simp only [evE]] at e5
  obtain ⟨vs, h6, e7, e5⟩ := Res.bind_eq e5
  obtain ⟨e8, rfl⟩ := opt_eq e5
  rw [evEs_cons rfl] at e7
  obtain ⟨w, h7, e9, e7⟩ := Res.bind_eq e7
  simp only [evEs, Res.bind_ok] at e7
  cases e7
  obtain ⟨n, rfl⟩ := len_int e9
  have hb : (if ((n : Nat) : Int).natAbs.log2 < 1920 then some (Val.str ((toString ((n : Nat) : Int) : String) : Str)) else none) = some y1 := e8
  by_cases hn : ((n : Nat) : Int).natAbs.log2 < 1920
  case neg => rw [if_neg hn] at hb; cases hb
  rw [if_pos hn] at hb
  cases hb
  have h9 : bop .Add (.str s1) (.str ((toString ((n : Nat) : Int) : String) : Str)) = some x := e6
  simp only [bop] at h9
  by_cases hl : s1.length + ((toString ((n : Nat) : Int) : String) : Str).length ≤ lim
  case neg => rw [if_neg hl] at h9; cases h9
  rw [if_pos hl] at h9
  cases h9
  have h10 : bop .Add (.str (s1 ++ ((toString ((n : Nat) : Int) : String) : Str))) (.str s2) = some v := e3
  simp only [bop] at h10
  by_cases hl2 : (s1 ++ ((toString ((n : Nat) : Int) : String) : Str)).length + s2.length ≤ lim
  case neg => rw [if_neg hl2] at h10; cases h10
  rw [if_pos hl2] at h10
  cases h10
  have e0 : (Str.empty ++ s1) = s1 := by
    cases s1
    show (⟨#[] ++ _⟩ : Str) = _
    simp
  have z : (sizeLine : Nat) = lim := sizeLine_eq
  refine (pe_joined (.cons pe_str (.cons (pe_fmt (ha Z X ok)) (.cons pe_str .nil)))).run pins _ σ H Q I ?_
  refine ⟨s1, rfl, by rw [e0]; have : lim = 16777216 := rfl; omega, ?_⟩
  rw [e0]
  refine ⟨se, h0, R, _, _, S, b0, D, e9, fun R' H' x2 X' S' D' dx => ?_⟩
  obtain rfl : x2 = .int ((n : Nat) : Int) := dx
  refine .inr ⟨_, rfl, hn, _, rfl, ?_, s2, rfl, ?_, k R' H' _ X' S' D' rfl⟩
  · rw [Str.length_append, z]; exact hl
  · rw [Str.length_append, z]; exact hl2
/-! making by names -/
theorem run_makeI {X : Cx} {pins : List (Addr × Obj)} {σ : L2.St} {H : Hp} {s : Shared} {Q : VK} {k f C : Addr} {fd : FuncData} {ps ks : List Str} {sp : SpV} {vs : List V} {us : List Value} (M : Mk X.K C f) (F : FnG X.prog X.w X.K X.mg X.base k f fd ps sp) (hr : Room (k + 1) X.A) (hgd : X.A.guards = some []) (hb : KwI fd ps ks) (hl : us.length = ks.length) (I : Inv X pins σ H s) (r : Vals vs us)
    (h : ∀ x dx, H x = none → H dx = none → dx ≠ x → sp (.ref x :: vs) (upd (upd H dx (.own x)) x (.ins C dx [])) (fun v H2 => v = .non ∧ Q (.ref x) H2)) :
    wpAny (model X.prog X.w) X.A (call (.ref C) [] (ks.zip us)) (EP X pins σ Q) X.xe s := by
  have hq := h (s.heap.objs.size + 1) s.heap.objs.size (I.hok.fresh (Nat.le_succ _))
                          (I.hok.fresh (Nat.le_refl _)) (Nat.ne_of_lt (Nat.lt_succ_self _))
  have I2 := Inv.made
                          (C := C) I
  have r2 : Vals (V.ref (s.heap.objs.size + 1) :: vs)
                          (Value.ref (s.heap.objs.size + 1) :: us) := .cons rfl r
  refine wpAny_call (make_map (f := f) I.kIn M.makes M.init (beq_iff_eq.mp M.fn) (codeAny_mono (F.run _ X.stack _ _ ⟨[Value.ref (s.heap.objs.size + 1)], ks.zip us⟩ (Value.ref (s.heap.objs.size + 1) :: us) _ _ (hr.make C [] (ks.zip us)) (make_guards.trans hgd)
    (I2.env0.make C [] (ks.zip us)) (hb _ _ us hl) r2 hq) fun r s' hq' => ?_))
  obtain ⟨u, rfl, q⟩ := crEnd (A := X.A) hq'
  obtain ⟨v, H', I3, rv, ev, q3⟩ := I2.after q
  subst ev
  exact ⟨rv, ⟨V.ref
                          (s.heap.objs.size + 1), H', I3, rfl, q3⟩⟩
theorem makeK_e {kws : List Keyword} {ces : List CE} {x : Str} {cl : Nat} {ks : List Str} {p : Pos} (hx : T.cls.lookup x = some cl) (hmk : cl ∈ T.mks) (hg : isGl sc x = true) (hdb : (x == ("__debug__" : Str)) = false) (hks : kwNm kws = some ks) (hm : (cl, ks, []) ∈ T.kws) (hl : ces.length = ks.length) (hc : ∀ c ∈ ces, starC c = false) (ha : SK T sc kws ces) :
    SE T sc (.Call (.Name x p) [] kws pos) (.make cl ces) := fun Z X ok => by
  refine
                          ⟨fun pins s σ H Q I h => ?_⟩
  obtain ⟨se, h0, R, v, h1, S, b0, D, e, k⟩ := h
  simp only [evE] at e
  obtain ⟨vs, h2, e1, e⟩ := Res.bind_eq e
  obtain ⟨hmm, _, _, _, hmk2⟩ := ok.mks x cl hx
  obtain ⟨kk, fa, fd, ps, sp, M, F, hr, hb, hki, hsp⟩ := hmk2 hmk
  obtain ⟨q1, q2, q3⟩ := kwNm_ok (env := X.env) (pos := pos) hks
  have hpl : ((backTo pos (starEach [] X.env)).any (·.1) || (backToKw pos (keywordEach kws X.env)).any (·.1.isNone)) = false := by
    rw [q3]; rfl
  refine wpAny_Call_Name_kw (ld_glob I (gl_of ok hg) hmm ?_ hdb)
  refine PySem.W.callWith_KW0 (h₀ := X.base) I.ok.mod.kin M.kp q1 (thn ((ha Z X ok).run pos pins s σ H _ I (more S b0 D e1 (W := fun xs H' => xs.length = ks.length ∧ spM Z cl xs H' Q) fun R' H' xs X' S' b' D' dx => ?_)) fun us s1 ⟨vs, H1, I1, r, q⟩ => ⟨I1.kIn, ?_⟩) hpl
  · exact ⟨by rw [← dx.length, evEs_len hc e1, hl], R', h2, vs, v, h1, S', b', dx, e, fun R2 H2 x2 X2 S2 d2 => k R2 H2 x2 (X'.trans X2) S2 (D'.mono X2) d2⟩
  · rw [q2]
    exact run_makeI M F hr ok.gd (hki ks hm) (by rw [← r.length]; exact q.1) I1 r (hsp vs H1 Q q.2)
/-! zip of three and more -/
theorem zipA_i {es : List Expr} {ces : List CE} {p : Pos} {tg : Expr} (hg : isGl sc "zip" = true) (hm : ("zip" : Str) ∈ T.blt) (hs : noStar (a :: es) = true) (ha : SA T sc (a :: es) ces) :
    SI T sc tg (.Call (.Name "zip" p) (a :: es) [] pos) (.zipS (.tup ces)) := fun Z X ok => by
  refine ⟨fun pins s σ H RR I hh => ?_⟩
  obtain ⟨se, h0, R, q, h1, S, b0, D, e, k⟩ := hh
  simp only [noStar, List.all_cons, Bool.and_eq_true, Bool.not_eq_true'] at hs
  simp only [evI, evE] at e
  obtain ⟨w, h2, e1, e⟩ := Res.bind_eq e
  obtain ⟨vs, h3, e0, e1⟩ := Res.bind_eq e1
  split at e1 <;> cases e1
  simp only [itOf2, itOf] at e
  split at e
  case h_2 => cases e
  rename_i xss gd hx
  split at e
  case isFalse => cases e
  rename_i few
  cases e
  refine (pi_ZA (gl_of ok hg) (ok.blt _ hm) (ha Z X ok) (star1 hs.1) (any_no hs.2)).run pins _ σ H RR I ?_
  refine more S b0 D e0 fun R' H' xs X' S' b' D' dl => ?_
  rw [← ok.K]
  obtain ⟨rs, rfl, l, g0, src⟩ := rows_src S' dl hx
  have ll := itsOf_len hx
  refine ⟨rs, rfl, by omega, by omega, fun q mq => ?_, k R' H' _ X' S' D' fun R2 h2 H2 X2 S2 g => ?_⟩
  · obtain ⟨j, ej⟩ := List.getElem?_of_mem mq
    have jl : j < xss.length := by rw [← l]; exact (List.getElem?_eq_some_iff.mp ej).1
    obtain ⟨ys, hy, _⟩ := src j q xss[j] ej (List.getElem?_eq_getElem jl) R' h1 H' (Ext.refl _ _) S' g0
    exact ⟨ys, hy⟩
  · refine ⟨fun i v hv2 => ?_, ?_⟩
    · unfold colsL at hv2
      obtain ⟨i', ei, rfl⟩ := List.getElem?_map .. ▸ hv2 |> Option.map_eq_some_iff.mp
      obtain ⟨il, rfl⟩ : i < minLen xss ∧ i' = i := by
        have := List.getElem?_eq_some_iff.mp ei
        obtain ⟨a, b⟩ := this
        rw [List.length_range] at a
        rw [List.getElem_range] at b
        exact ⟨a, b.symm⟩
      have lt : ∀ x ∈ xss, i' < x.length := fun x m => Nat.lt_of_lt_of_le il (minLen_le m)
      obtain ⟨fl, fk⟩ := filt_all lt
      refine ⟨fun q mq => ?_, fun x3 H3 ⟨TT, ys, u1, u2, u3, u4, u5⟩ => ?_⟩
      · obtain ⟨j, ej⟩ := List.getElem?_of_mem mq
        have jl : j < xss.length := by rw [← l]; exact (List.getElem?_eq_some_iff.mp ej).1
        obtain ⟨ys, hy, dy⟩ := src j q xss[j] ej (List.getElem?_eq_getElem jl) R2 h2 H2 X2 S2 g
        obtain ⟨y, q1, _⟩ := dy.get (List.getElem?_eq_getElem (lt xss[j] (List.getElem_mem jl)))
        exact ⟨ys, y, hy, q1⟩
      · subst u1 u3
        refine tup_new S2 u2 (by omega) (denL_ext (by omega) fun j v x e1 e2 => ?_)
        have jl : j < rs.length := by rw [← u4]; exact (List.getElem?_eq_some_iff.mp e2).1
        have jx : j < xss.length := by omega
        obtain ⟨zs, hz, dz⟩ := src j rs[j] xss[j] (List.getElem?_eq_getElem jl) (List.getElem?_eq_getElem jx) R2 h2 H2 X2 S2 g
        have := u5 j rs[j] (List.getElem?_eq_getElem jl) zs hz
        rw [e2] at this
        rw [fk j xss[j] (List.getElem?_eq_getElem jx)] at e1
        obtain ⟨y, q1, q2⟩ := dz.get e1
        rw [q1] at this; cases this
        exact q2
    · show (∀ r ∈ rs, _) ∧ _
      rw [show (colsL xss).length = minLen xss by unfold colsL; rw [List.length_map, List.length_range]]
      refine ⟨fun q mq => ?_, ?_⟩
      · obtain ⟨j, ej⟩ := List.getElem?_of_mem mq
        have jl : j < xss.length := by rw [← l]; exact (List.getElem?_eq_some_iff.mp ej).1
        obtain ⟨ys, hy, dy⟩ := src j q xss[j] ej (List.getElem?_eq_getElem jl) R2 h2 H2 X2 S2 g
        exact ⟨ys, hy, by rw [← dy.length]; exact minLen_le (List.getElem_mem jl)⟩
      · obtain ⟨x, mx, ex⟩ := minLen_eq (xss := xss) (by intro e; rw [e] at ll; simp at ll; omega)
        obtain ⟨j, ej⟩ := List.getElem?_of_mem mx
        have jl : j < rs.length := by rw [l]; exact (List.getElem?_eq_some_iff.mp ej).1
        obtain ⟨ys, hy, dy⟩ := src j rs[j] x (List.getElem?_eq_getElem jl) ej R2 h2 H2 X2 S2 g
        exact ⟨rs[j], ys, List.getElem_mem jl, hy, by rw [ex, dy.length]⟩
end
end Co
end

section
set_option linter.all false
set_option maxRecDepth 100000
set_option autoImplicit false
/-! Co17: entering and leaving a def. -/
namespace Co
open PySem PySem.Spec
                        PyProof.Rows L2
section
variable {K : PySem.W.Frag} {C : Nat → Addr} {bs : List Nat} {base : Nat} {R R' : Rg} {h h' : Hh} {H H' : Hp}
/-- what stands below n, the first n of ours alone -/
def Rg.cut (R : Rg) (n : Nat) : Rg := ⟨R.own.take n, R.no⟩
theorem Rg.cut_out {R : Rg} {n : Nat} {a : Addr} (m : a ∉ R) : a ∉ R.cut n := by
  rintro (q | q)
  · exact m (.inl (List.mem_of_mem_take q))
  · exact m (.inr q)
mutual
theorem Den.cutR (n : Nat) : ∀ (v : Val) (x : V), below n v = true → Den K C R H v x → Den K C (R.cut n) H v x
  | .non, _, _, h => h
  | .bl _, _, _, h => h
  | .int _, _, _, h => h
  | .str _, _, _, h => h
  | .tup vs, x, b, h => by
    obtain ⟨a, xs, q, t, d⟩ := h
    exact ⟨a, xs, q, ⟨t.1, t.2.elim (fun z => .inl ⟨z.1, Rg.cut_out z.2⟩) .inr⟩, DenL.cutR n vs xs b d⟩
  | .lst vs, x, b, h => by
    obtain ⟨a, xs, q, t, d⟩ := h
    exact ⟨a, xs, q, ⟨t.1, t.2.1, Rg.cut_out t.2.2⟩, DenL.cutR n vs xs b d⟩
  | .ro vs, x, b, h => by
    obtain ⟨a, xs, q, t, d⟩ := h
    exact ⟨a, xs, q, ⟨t.1, t.2.elim (fun z => .inl ⟨z.1, Rg.cut_out z.2⟩) .inr⟩, DenL.cutR n vs xs b d⟩
  | .dct vs, x, b, h => by
    obtain ⟨a, xs, q, t, m, d⟩ := h
    exact ⟨a, xs, q, t, Rg.cut_out m, DenK.cutR n vs xs b d⟩
  | .ins c vs, x, b, h => by
    obtain ⟨a, dx, gs, q, t, m, d⟩ := h
    exact ⟨a, dx, gs, q, t, Rg.cut_out m, DenK.cutR n vs _ b d⟩
  | .ref k, x, b, h => by
    obtain ⟨a, q, r⟩ := h
    have hk : k < n := by simpa [below] using b
    exact ⟨a, by show (R.own.take n)[k]? = some a; rw [List.getElem?_take_of_lt hk]; exact q, r⟩
theorem DenL.cutR (n : Nat) : ∀ (vs : List Val) (xs : List V), belowL n vs = true → DenL K C R H vs xs → DenL K C (R.cut n) H vs xs
  | [], _, _, h => h
  | v :: r, _, b, h => by
    obtain ⟨x, ys, q, d, d2⟩ := h
    simp only [belowL, Bool.and_eq_true] at b
    exact ⟨x, ys, q, Den.cutR n v x b.1 d, DenL.cutR n r ys b.2 d2⟩
theorem DenK.cutR (n : Nat) : ∀ (vs : List (Key × Val)) (xs : List (Key × V)), belowK n vs = true → DenK K C R H vs xs → DenK K C (R.cut n) H vs xs
  | [], _, _, h => h
  | (k, v) :: r, _, b, h => by
    obtain ⟨x, ys, q, d, d2⟩ := h
    simp only [belowK, Bool.and_eq_true] at b
    exact ⟨x, ys, q, Den.cutR n v x b.1 d, DenK.cutR n r ys b.2 d2⟩
end
mutual
theorem Den.isBelow : ∀ (v : Val) (x : V), Den K C R H v x → below R.own.length v = true
  | .non, _, _ => rfl
  | .bl _, _, _ => rfl
  | .int _, _, _ => rfl
  | .str _, _, _ => rfl
  | .tup vs, x, h => by
    obtain ⟨a, xs, q, t, d⟩ := h
    exact DenL.isBelow vs xs d
  | .lst vs, x, h => by
    obtain ⟨a, xs, q, t, d⟩ := h
    exact DenL.isBelow vs xs d
  | .ro vs, x, h => by
    obtain ⟨a, xs, q, t, d⟩ := h
    exact DenL.isBelow vs xs d
  | .dct vs, x, h => by
    obtain ⟨a, xs, q, t, m, d⟩ := h
    exact DenK.isBelow vs xs d
  | .ins c vs, x, h => by
    obtain ⟨a, dx, gs, q, t, m, d⟩ := h
    exact DenK.isBelow vs _ d
  | .ref k, x, h => by
    obtain ⟨a, q, r⟩ := h
    exact decide_eq_true (List.getElem?_eq_some_iff.mp q).1
theorem DenL.isBelow : ∀ (vs : List Val) (xs : List V), DenL K C R H vs xs → belowL R.own.length vs = true
  | [], _, _ => rfl
  | v :: r, _, h => by
    obtain ⟨x, ys, q, d, d2⟩ := h
    simp only [belowL, Bool.and_eq_true]
    exact ⟨Den.isBelow v x d, DenL.isBelow r ys d2⟩
theorem DenK.isBelow : ∀ (vs : List (Key × Val)) (xs : List (Key × V)), DenK K C R H vs xs → belowK R.own.length vs = true
  | [], _, _ => rfl
  | (k, v) :: r, _, h => by
    obtain ⟨x, ys, q, d, d2⟩ := h
    simp only [belowK, Bool.and_eq_true]
    exact ⟨Den.isBelow v x d, DenK.isBelow r ys d2⟩
end
theorem ObD.isBelow {o : Ob} {u : Option HO} (d : ObD K C R H o u) : obBelow R.own.length o = true := by
  cases o with
  | lst vs =>
    cases u with
    | none => exact d.elim
    | some u => cases u <;> first | exact d.elim | exact d.2.isBelow
  | ins c kvs =>
    cases u with
    | none => exact d.elim
    | some u => cases u <;> first | exact d.elim | exact DenK.isBelow _ _ d.2
theorem ObD.cutR {o : Ob} {u : Option HO} {n : Nat} (b : obBelow n o = true) (d : ObD K C R H o u) : ObD K C (R.cut n) H o u := by
  cases o with
  | lst vs =>
    cases u with
    | none => exact d.elim
    | some u => cases u <;> first | exact d.elim | exact ⟨d.1, DenL.cutR n _ _ b d.2⟩
  | ins c kvs =>
    cases u with
    | none => exact d.elim
    | some u => cases u <;> first | exact d.elim | exact ⟨d.1, DenK.cutR n _ _ b d.2⟩
/-- a def is entered -/
theorem Sim.enter (S : Sim K C bs base R h H) (hb : base ≤ h.length) : Sim K C (h.length :: bs) h.length R h H := by
  refine ⟨S.len, S.nd, S.dj, S.obj, fun b m n o hn e => ?_, fun b m => ?_, S.nn⟩
  · rcases List.mem_cons.mp m with q | m
    · subst q
      have hl : n < R.own.length := by rw [S.len]; exact hn
      have q := S.obj n o _ e (List.getElem?_eq_getElem hl)
      have := q.isBelow
      rw [S.len] at this
      exact this
    · exact S.cl b m n o hn e
  · rcases List.mem_cons.mp m with q | m
    · exact Nat.le_of_eq q
    · exact Nat.le_trans (S.le b m) hb
/-- .. and left: what was made since goes -/
theorem Sim.leave {n : Nat} (S : Sim K C (n :: bs) n R h H) (hn : n ≤ h.length) (hle : ∀ b ∈ bs, b ≤ base) (hbn : base ≤ n) : Sim K C bs base (R.cut n) (h.take n) H := by
  have lenC : (R.cut n).own.length = (h.take n).length := by
    show (R.own.take n).length = _
    rw [List.length_take, List.length_take, S.len]
  refine ⟨lenC, S.nd.sublist (List.take_sublist _ _), fun a m m2 => S.dj a (List.mem_of_mem_take m) m2, fun i o a e r => ?_, fun b m i o hi e => ?_, hle, S.nn⟩
  · have hi : i < n := by
      have := (List.getElem?_eq_some_iff.mp e).1
      rw [List.length_take] at this
      omega
    rw [List.getElem?_take_of_lt hi] at e
    have r : (R.own.take n)[i]? = some a := r
    rw [List.getElem?_take_of_lt hi] at r
    exact (S.obj i o a e r).cutR (S.cl n List.mem_cons_self i o hi e)
  · have hi2 : i < n := by have := hle b m; omega
    rw [List.getElem?_take_of_lt hi2] at e
    exact S.cl b (List.mem_cons_of_mem _ m) i o hi e
theorem Sim.keep {n : Nat} (S : Sim K C (n :: bs) n R h H) (hle : ∀ b ∈ bs, b ≤ base) : Sim K C bs base R h H :=
  ⟨S.len, S.nd, S.dj, S.obj, fun b m => S.cl b (List.mem_cons_of_mem _ m), hle, S.nn⟩
theorem Ext.cutR {n : Nat} (X : Ext R R' H H') (hn : R.own.length = n) : Ext R (R'.cut n) H H' := by
  refine ⟨⟨[], ?_, by simp⟩, X.no, X.yes, X.keep, X.there⟩
  obtain ⟨r, e, _⟩ := X.more
  show R'.own.take n = _
  rw [e, ← hn, List.take_append_of_le_length (Nat.le_refl _), List.take_length, List.append_nil]
/-- one of ours that goes -/
theorem Sim.gone {n m : Nat} {a : Addr} (S : Sim K C bs base R h H) (hm : n ≤ m) (r : R.own[m]? = some a) : a ∉ R.cut n := by
  rintro (q | q)
  · obtain ⟨i, hi⟩ := List.getElem?_of_mem q
    have hi : (R.own.take n)[i]? = some a := hi
    have hlt : i < n := by
      have :=
                              (List.getElem?_eq_some_iff.mp hi).1
      rw [List.length_take] at this
      omega
    rw [List.getElem?_take_of_lt hlt] at hi
    have h1 := List.getElem?_eq_some_iff.mp r
    have h2 := List.getElem?_eq_some_iff.mp hi
    have := (List.getElem_inj S.nd).mp (h1.2.trans h2.2.symm)
    omega
  · exact S.dj a (List.mem_of_getElem? r) q
theorem lst_at (S : Sim K C bs base R h H) {m : Nat} {a : Addr} {ws : List Val} (r : R.own[m]? = some a) (e : h[m]? = some (.lst ws)) : ∃ xs, H a = some (.lst xs) ∧ xs.length ≤ sizeLine ∧ DenL K C R H ws xs := by
  have o := S.obj m _ a e r
  cases ha : H a with
  | none => rw [ha] at o; exact o.elim
  | some u =>
    rw [ha] at o
    cases u <;> first | exact o.elim | exact ⟨_, rfl, o.1, o.2⟩
theorem frz1_ok (S : Sim K C bs base R h H) {n : Nat} {v w : Val} {x : V} (e : frz1 n h v = some w) (d : Den K C R H v x) : Den K C (R.cut n) H w x := by
  unfold frz1 at e
  split at e
  · rename_i hb
    cases e
    exact d.cutR n _ _ hb
  · rename_i hb
    split at e
    · rename_i m
      split at e
      · rename_i us hu
        split at e <;> cases e
        rename_i hbl
        obtain ⟨a, r, rfl⟩ := d
        obtain ⟨xs, ha, hl, dl⟩ := lst_at S r hu
        exact ⟨a, xs, rfl, ⟨hl, ha, S.gone (Nat.le_of_not_lt fun z => hb (by simpa [below] using z)) r⟩, dl.cutR n _ _ hbl⟩
      · cases e
    · cases e
theorem frz1L_ok (S : Sim K C bs base R h H) {n : Nat} : ∀ {vs ws : List Val} {xs : List V}, frz1L n h vs = some ws → DenL K C R H vs xs → DenL K C (R.cut n) H ws xs
  | [], _, _, e, d => by cases e; exact d
  | v :: r, _, _, e, d => by
    simp only [frz1L, Option.bind_eq_some_iff, Option.map_eq_some_iff] at e
    obtain ⟨w, e1, ws, e2, rfl⟩ := e
    obtain ⟨x, ys, q, d1, d2⟩ := d
    exact ⟨x, ys, q, frz1_ok S e1 d1, frz1L_ok S e2 d2⟩
theorem frz_ok (S : Sim K C bs base R h H) {n : Nat} {v w : Val} {x : V} (e : frz n h v = some w) (d : Den K C R H v x) : Den K C (R.cut n) H w x := by
  unfold frz at e
  split at e
  · rename_i hb
    cases e
    exact d.cutR n _ _ hb
  · rename_i hb
    split at e
    · rename_i m
      split at e
      · rename_i us hu
        simp only [Option.map_eq_some_iff] at e
        obtain ⟨ws, e, rfl⟩ := e
        obtain ⟨a, r, rfl⟩ := d
        obtain ⟨xs, ha, hl, dl⟩ := lst_at S r hu
        exact ⟨a, xs, rfl, ⟨hl, ha, S.gone (Nat.le_of_not_lt fun z => hb (by simpa [below] using z)) r⟩, frz1L_ok S e dl⟩
      · cases e
    · simp only [Option.map_eq_some_iff] at e
      obtain ⟨ws, e, rfl⟩ := e
      obtain ⟨a, xs, rfl, t, dl⟩ := d
      exact ⟨a, xs, rfl, ⟨t.1, t.2.elim (fun z => .inl ⟨z.1, Rg.cut_out z.2⟩) .inr⟩, frz1L_ok S e dl⟩
    · cases e
end
end Co
end

section
set_option linter.all false
set_option maxRecDepth 100000
set_option autoImplicit false
/-! Co18: defs. -/
namespace Co
open PySem PySem.Spec
                        PyProof.Rows L2
theorem deeper_guards {A : Around} {env : PySem.Env} : (A.deeper env).guards = A.guards := by
  first | rfl | (cases A; rfl)
/-- a def by its body, where no guard stands -/
theorem fnG_of {P : Program} {w : World} {K : PySem.W.Frag} {mg : Str → Option Value} {base : Heap} {k : Nat} {f : Addr} {fd : FuncData} {x qual : Str} {st : Stmt} {N ps : List Str} {sp : SpV} (F : Fun K x qual st f fd) (S : FnScope N ps (defScope st)) (ln : ∀ (vs : List V) (H : Hp) (Q : VK), sp vs H Q → vs.length = ps.length)
    (body : ∀ (cdv : Value) (A : Around) (outer : List PySem.Env) (s : Shared) (H : Hp) (vs : List V) (Q : VK), Room k (A.deeper (envOfC qual (defScope st) s.heap.objs.size f cdv)) → A.guards = some [] → sp vs H Q →
      ∃ t : TS, PSs (cxOf CX0 P w K mg base N qual (defScope st) f cdv A outer s H E0).nox (defBody st) t ∧ t { nx := fun _ H' => Q .non H', rt := Q } (L2.start N vs) H) : FnG P w K mg base (k + 1) f fd ps sp := by
  obtain ⟨oc, od, kV, doc, pm, an, cdv, ct, osl, rfl, lkp, hcode⟩ := F.ex
  refine ⟨ln, fun A outer s H args us vs Q room gd ev bind rel want => ?_⟩
  have hlen := ln _ _ _ want
  have inK : K.In s.heap := ev.mod.kin.keeps fun c u q => (ev.bs c u q).1
  have noLim : s.heap.NoLimit := ev.mod.nolimit.keeps fun c u q => (ev.bs c u q).1
  have kinds : ∀ y ∈ ps.zip us, (defScope st).names.lookup y.1 = some .local ∨ ((defScope st).names.lookup y.1 = some .cell ∧ ((cellsFrom (s.heap.objs.size + 1) (defScope st).names []).lookup y.1).isSome = true) := fun ⟨nm, u⟩ hy => by
    rcases S.par nm (List.of_mem_zip hy).1 with z | z
    · exact .inl z
    · exact .inr ⟨z, PySem.W.cellsFrom_some _ _ _ (.inl z)⟩
  refine codeAny_call_function room.depth (inK _ _ lkp) rfl S.co S.gen rfl (PySem.W.codeRec_of inK hcode) (bind _ _ _ _ ?_)
  refine wpAny_newFunctionEnv_cells S.kind kinds fun env he s1 call => ?_
  subst he
  refine ⟨noLim.keeps call.toInCall.keep, codeAny_func ?_⟩
  obtain ⟨t, ht, hq⟩ := body cdv A outer s H vs Q (room.deeper _) gd want
  have I0 : Inv (cxOf CX0 P w K mg base N qual (defScope st) f cdv A outer s H E0) [] (L2.start N vs) H s1 := inv_start S room.hd ev hlen rel call
  refine wpAny_mono (ht.nox.run [] s1 (L2.start N vs) H _ I0 hq) (fun fl s2 res => ?_) fun er s2 res => res
  have done : ∀ {σ2 : L2.St} {H2 : Hp} {v : V} {u : Value}, Inv (cxOf CX0 P w K mg base N qual (defScope st) f cdv A outer s H E0) [] σ2 H2 s2 → RelV v u → Q v H2 → L2.CE outer P w H s Q u s2 :=
    fun {σ2 H2 v u} J rv q => ⟨v, H2, J.os, J.bare, J.base, J.hok, rv, q⟩
  cases fl with
  | ret u =>
    obtain ⟨v, σ2, H2, J, rv, q⟩ := res
    exact done J rv q
  | next =>
    obtain ⟨σ2, H2, J, q⟩ := res
    exact done (v := V.non) (u := Value.none) J rfl q
  | brk => exact res.elim fun _ z => z.elim fun _ q => q.2.elim
  | cont => exact res.elim fun _ z => z.elim fun _ q => q.2.elim
theorem FnG.imp {P : Program} {w : World} {K : PySem.W.Frag} {mg : Str → Option Value} {base : Heap} {k : Nat} {f : Addr} {fd : FuncData} {ps : List Str} {sp sp' : SpV} (F : FnG P w K mg base k f fd ps sp) (h : ∀ vs H Q, sp' vs H Q → sp vs H Q) : FnG P w K mg base k f fd ps sp' :=
  ⟨fun vs H Q q => F.len vs H Q (h _ _ _ q), fun A outer s H args us vs Q hr hg ev hb hv hs => F.run A outer s H args us vs Q hr hg ev hb hv (h _ _ _ hs)⟩
theorem FnG.mono {P : Program} {w : World} {K : PySem.W.Frag} {mg : Str → Option Value} {base : Heap} {j k : Nat} {f : Addr} {fd : FuncData} {ps : List Str} {sp : SpV} (F : FnG P w K mg base j f fd ps sp) (h : j ≤ k) : FnG P w K mg base k f fd ps sp :=
  ⟨F.len, fun A outer s H args us vs Q hr => F.run A outer s H args us vs Q (hr.mono h)⟩
/-- what the run of def f, to depth d, promises -/
def spF (Pg : Prog) (d : Nat) (K : PySem.W.Frag) (C : Nat → Addr) (f : Nat) : SpV := fun xs H Q => ∃ bs base R h vs v h', Sim K C bs base R h H ∧ base ≤ h.length ∧ DenL K C R H vs xs ∧ runF Pg d f vs h = .ok v h' ∧
  ∀ R' H' x, Ext R R' H H' → Sim K C bs base R' h' H' → Den K C R' H' v x → Q x H'
/-- a def of the text and of the core -/
structure FnS (P : Program) (w : World) (K : PySem.W.Frag) (mg : Str → Option Value) (C : Nat → Addr) (Pg : Prog) (f : Nat) (fn : Fn) (x qual : Str) (st : Stmt) (fa : Addr) (fd : FuncData) (N ps : List Str) (T : Stc) : Prop where
  at_ : Pg.fns[f]? = some fn
  np : fn.np = ps.length
  n : fn.n = N.length
  fun_ : Fun K x qual st fa fd
  sc : FnScope N ps (defScope st)
  N : T.N = N
  body : SSs T (defScope st) (defBody st) fn.body
/-- the static part of XOk -/
structure Stat (P : Program) (w : World) (K : PySem.W.Frag) (mg : Str → Option Value) (C : Nat → Addr) (Pg : Prog) (A : Nat → Addr) (D : Nat → FuncData) (ps : Nat → List Str) (T : Stc) : Prop where
  blt : ∀ x ∈ T.blt, mg x = none
  cst : ∀ x v, T.cst.lookup x = some v → ∃ u xv, mg x = some u ∧ RelV xv u ∧ ∀ R H, Den K C R H v xv
  fns : ∀ x f, T.fns.lookup x = some f → f < Pg.fns.length ∧ mg x = some (.ref (A f))
  kws : ∀ f ks perm, (f, ks, perm) ∈ T.kws → perm ≠ [] → KwB (D f) (ps f) ks perm
  mks : ∀ x c, T.cls.lookup x = some c → mg x = some (.ref (C c)) ∧ c < Pg.cls.length ∧ (∀ t ∈ tyNames, PySem.W.kitOne K (.type t) (.ref (C c)) = some false) ∧
    (∀ d, d < Pg.cls.length → PySem.W.kitOne K (.ref (C d)) (.ref (C c)) = some (decide (d = c))) ∧ (c ∈ T.mks → ∃ cl fi, Pg.cls[c]? = some cl ∧ cl.init = some fi ∧ fi < Pg.fns.length ∧ Mk K (C c) (A fi))
  cls : ∀ c, c < Pg.cls.length → ClsK K C c
  isb : ∀ c, c < Pg.cls.length → ∀ t ∈ tyNames, PySem.W.kitOne K (.ref (C c)) (.type t) = some false
  noat : ∀ c cl f, Pg.cls[c]? = some cl → f ∈ T.flds → tab cl.props f = none → tab cl.meths f = none → NoAttr K (C c) f
  prs : ∀ c cl f p, Pg.cls[c]? = some cl → tab cl.props f = some p → p < Pg.fns.length ∧ ∃ pa, PropOf K (C c) f pa (A p)
  sps : ∀ c cl f p, Pg.cls[c]? = some cl → tab cl.meths f = some p → p < Pg.fns.length ∧ SpOf K (C c) f (A p) ∧ (∀ t ∈ tyNames, PySem.W.kitOne K (.type t) (.ref (C c)) = some false) ∧ ∀ d, d < Pg.cls.length → PySem.W.kitOne K (.ref (C d)) (.ref (C c)) = some (decide (d = c))
  nob : ("__bool__" : Str) ∈ T.flds → ("__len__" : Str) ∈ T.flds → ∀ c, c < Pg.cls.length → NoAttr K (C c) "__bool__" ∧ NoAttr K (C c) "__len__"
  mkw : ∀ c ks cl fi, (c, ks, []) ∈ T.kws → Pg.cls[c]? = some cl → cl.init = some fi → KwI (D fi) (ps fi) ks
section
variable {P : Program} {w : World} {K : PySem.W.Frag} {mg : Str → Option Value} {base : Heap} {C : Nat → Addr} {Pg : Prog} {A : Nat → Addr} {D : Nat → FuncData} {ps : Nat → List Str}
/-- the promise of the making -/
theorem spM_of {d c : Nat} {cl : Cl} {fi : Nat} {bs : List Nat} {b0 : Nat} (hc : Pg.cls[c]? = some cl) (hf : cl.init = some fi) {xs : List V} {H : Hp} {Q : VK} (h : spM ⟨K, C, bs, gOf Pg (runF Pg d) b0⟩ c xs H Q) {x dx : Addr} (nx : H x = none) (nd : H dx = none) (ne : dx ≠ x) :
    spF Pg d K C fi (.ref x :: xs) (upd (upd H dx (.own x)) x (.ins (C c) dx [])) (fun v H2 => v = .non ∧ Q (.ref x) H2) := by
  obtain ⟨R, hh, vs, v, h', S, hb, dl, e, k⟩ := h
  have e : makeR Pg (runF Pg d) c vs hh = .ok v h' := e
  simp only [makeR, hc, hf] at e
  obtain ⟨r, h1, e1, e⟩ := Res.bind_eq e
  split at e
  case isFalse => cases e
  rename_i hr
  have Xd : Ext R R H (upd H dx (.own x)) := Ext.new nd
  have Sd := S.new (o := .own x) nd
  have nx2 : (upd H dx (.own x)) x = none := by rw [upd_ne (Ne.symm ne)]; exact nx
  have Xx : Ext R (R.add x) (upd H dx (.own x)) (upd (upd H dx (.own x)) x (.ins (C c) dx [])) := Ext.own nx2
  have XX := Xd.trans Xx
  have nR : x ∉ R := S.notin nx
  have Sx : Sim K C (hh.length :: bs) hh.length (R.add x) (hh ++ [.ins c []]) (upd (upd H dx (.own x)) x (.ins (C c) dx [])) := by
    have S2 := Sd.enter hb
    refine ⟨by simp [S2.len, Rg.add], ?_, fun a m m2 => ?_, fun i o a e r => ?_, fun b m n o hn e => ?_, S2.le, fun a m => Xx.there a (S2.nn a m)⟩
    · show (R.own ++ [x]).Nodup
      rw [List.nodup_append]
      refine ⟨S.nd, by simp, fun a ha b hb2 => ?_⟩
      rw [List.mem_singleton.mp hb2]
      exact fun z => nR (.inl (by rw [← z]; exact ha))
    · have m : a ∈ R.own ++ [x] := m
      rcases List.mem_append.mp m with m | m
      · exact S.dj a m m2
      · rw [List.mem_singleton.mp m] at m2; exact nR (.inr m2)
    · have r : (R.own ++ [x])[i]? = some a := r
      by_cases hi : i < hh.length
      · rw [List.getElem?_append_left hi] at e
        rw [List.getElem?_append_left (by rw [S.len]; exact hi)] at r
        have q := S2.obj i o a e r
        have np : a ≠ x := fun z => nR (.inl (by rw [← z]; exact List.mem_of_getElem? r))
        rw [upd_ne np]
        exact q.mono Xx
      · have hi2 : i = hh.length := by
          have := (List.getElem?_eq_some_iff.mp e).1
          simp at this
          omega
        subst hi2
        rw [List.getElem?_append_right (Nat.le_refl _), Nat.sub_self] at e
        rw [← S.len, List.getElem?_append_right (Nat.le_refl _), Nat.sub_self] at r
        cases e; cases r
        rw [upd_same]
        exact ⟨rfl, rfl⟩
    · have : n < hh.length := Nat.lt_of_lt_of_le hn (S2.le b m)
      rw [List.getElem?_append_left this] at e
      exact S2.cl b m n o hn e
  have rx : (R.add x).own[hh.length]? = some x := by
    show (R.own ++ [x])[hh.length]? = some x
    rw [← S.len, List.getElem?_append_right (Nat.le_refl _), Nat.sub_self]
    rfl
  refine ⟨hh.length :: bs, hh.length, R.add x, hh ++ [.ins c []], .ref hh.length :: vs, r, h1, Sx, by simp, ⟨.ref x, xs, rfl, ⟨x, rx, rfl⟩, dl.mono XX⟩, e1, fun R' H' y X' S' dr => ?_⟩
  have hy : y = .non := by
    cases r <;> simp only [isNon] at hr <;> first | exact dr | cases hr
  refine ⟨hy, ?_⟩
  have hl1 : hh.length < h1.length := by
    obtain ⟨q, eq, _⟩ := X'.more
    rw [← S'.len, eq]
    show hh.length < ((R.own ++ [x]) ++ q).length
    rw [List.length_append, List.length_append, S.len]
    simp
    omega
  have rx' : R'.own[hh.length]? = some x := by
    obtain ⟨q, eq, _⟩ := X'.more
    rw [eq, List.getElem?_append_left (List.getElem?_eq_some_iff.mp rx).1]
    exact rx
  split at e
  · split at e
    case h_2 => cases e
    rename_i dc fs hob
    split at e <;> cases e
    rename_i hfz _
    have Sl := S'.leave (Nat.le_of_lt hl1) S.le hb
    have Xl : Ext R (R'.cut hh.length) H H' := (XX.trans X').cutR S.len
    refine k _ H' _ Xl Sl ?_
    have o := S'.obj hh.length _ x hob rx'
    cases hx : H' x with
    | none => rw [hx] at o; exact o.elim
    | some u =>
      rw [hx] at o
      cases u <;> first | exact o.elim | skip
      obtain ⟨o1, o2⟩ := o
      subst o1
      exact ⟨x, _, _, rfl, hx, S'.gone (Nat.le_refl _) rx', DenK.cutR _ _ _ hfz.1 o2⟩
  · cases e
    exact k R' H' _ (XX.trans X') (S'.keep S.le) ⟨x, rx', rfl⟩
theorem spZ_of {d f : Nat} {bs : List Nat} {b0 : Nat} {xs : List V} {H : Hp} {Q : VK} (h : spZ ⟨K, C, bs, gOf Pg (runF Pg d) b0⟩ f xs H Q) : spF Pg d K C f xs H Q := by
  obtain ⟨R, hh, vs, v, h', S, hb, dl, e, k⟩ := h
  exact ⟨bs, b0, R, hh, vs, v, h', S, hb, dl, e, k⟩
/-- the context of a body -/
theorem xok_of {d k : Nat} {T : Stc} {X : Cx} {sc : Scope} {bs : List Nat} {b0 : Nat} (st : Stat P w K mg C Pg A D ps T) (ih : ∀ f, f < Pg.fns.length → FnG P w K mg base k (A f) (D f) (ps f) (spF Pg d K C f)) (bi : ∀ f, f < Pg.fns.length → Binds K (D f) (ps f) [] ∧ PySem.W.keepIn K (.ref (A f)) = true)
    (eP : X.prog = P) (ew : X.w = w) (eK : X.K = K) (emg : X.mg = mg) (eb : X.base = base) (eN : X.N = T.N) (nd : T.N.Nodup) (esc : X.env.scope = sc) (calm : X.calm = true) (hr : Room (k + 2) X.A) (gd : X.A.guards = some []) : XOk T ⟨K, C, bs, gOf Pg (runF Pg d) b0⟩ X sc := by
  subst eP ew eK emg eb
  refine ⟨rfl, eN, nd, esc, calm, hr.mono (by omega), gd, st.blt, st.cst, fun x f hx => ?_, fun x c hx => ?_, st.cls, st.isb, fun c f hc hf h1 h2 => ?_, fun c f p hc hp => ?_, fun c f p hp => ?_, st.nob⟩
  · obtain ⟨hlt, hm⟩ := st.fns x f hx
    exact ⟨k, A f, D f, ps f, (ih f hlt).imp fun _ _ _ => spZ_of, hr.mono (by omega), hm, (bi f hlt).2, (bi f hlt).1, st.kws f⟩
  · obtain ⟨h1, h2, h3, h4, h5⟩ := st.mks x c hx
    refine ⟨h1, h2, h3, h4, fun hm => ?_⟩
    obtain ⟨cl, fi, e1, e2, e3, M⟩ := h5 hm
    exact ⟨k, A fi, D fi, ps fi, _, M, ih fi e3, hr.mono (by omega), (bi fi e3).1, fun ks hk => st.mkw c ks cl fi hk e1 e2, fun xs H Q q x dx nx ndx ne => spM_of e1 e2 q nx ndx ne⟩
  · have hc : c < Pg.cls.length := hc
    have e : Pg.cls[c]? = some Pg.cls[c] := List.getElem?_eq_getElem hc
    have h1 : ((Pg.cls[c]?).bind fun cl => tab cl.props f).isSome = false := h1
    have h2 : ((Pg.cls[c]?).bind fun cl => tab cl.meths f).isSome = false := h2
    rw [e] at h1 h2
    exact st.noat c _ f e hf (by simpa using h1) (by simpa using h2)
  · have hc : c < Pg.cls.length := hc
    have e : Pg.cls[c]? = some Pg.cls[c] := List.getElem?_eq_getElem hc
    have hp : ((Pg.cls[c]?).bind fun cl => tab cl.props f) = some p := hp
    rw [e] at hp
    obtain ⟨h1, pa, h2⟩ := st.prs c _ f p e hp
    exact ⟨k, pa, A p, D p, ps p, h2, (ih p h1).imp fun _ _ _ => spZ_of, hr.mono (by omega), (bi p h1).1⟩
  · have hp : ((Pg.cls[c]?).bind fun cl => tab cl.meths f) = some p := hp
    obtain ⟨cl, e, hp⟩ := Option.bind_eq_some_iff.mp hp
    obtain ⟨h1, h2, h3, h4⟩ := st.sps c _ f p e hp
    exact ⟨(List.getElem?_eq_some_iff.mp e).1, h3, h4, k, A p, D p, ps p, h2, (ih p h1).imp fun _ _ _ => spZ_of, hr, (bi p h1).1⟩
theorem start_den {R : Rg} {H : Hp} {vs : List Val} {xs : List V} {N : List Str} {np n : Nat} (d : DenL K C R H vs xs) (hn : n = N.length) : DenS K C R H (vs.map some ++ List.replicate (n - vs.length) none) (L2.start N xs) := by
  have hl := d.length
  subst hn
  unfold L2.start
  refine ⟨by simp [hl], fun i v e => ?_⟩
  by_cases hi : i < vs.length
  · rw [List.getElem?_append_left (by simpa using hi), List.getElem?_map] at e
    cases ev : vs[i]? with
    | none => rw [ev] at e; cases e
    | some u =>
      rw [ev] at e
      cases e
      obtain ⟨x, ex, dx⟩ := d.get ev
      exact ⟨x, by rw [List.getElem?_append_left (by rw [List.length_map, ← hl]; exact hi), List.getElem?_map, ex]; rfl, dx⟩
  · rw [List.getElem?_append_right (by simpa using Nat.le_of_not_lt hi), List.getElem?_replicate] at e
    split at e <;> cases e
/-- THE PROMISE of every def of the core, to any depth -/
theorem fns_ok {Fn_ : Nat → Fn} {X Q_ : Nat → Str} {St : Nat → Stmt} {Ns : Nat → List Str} {Ts : Nat → Stc} (all : ∀ f, f < Pg.fns.length → FnS P w K mg C Pg f (Fn_ f) (X f) (Q_ f) (St f) (A f) (D f) (Ns f) (ps f) (Ts f) ∧ Stat P w K mg C Pg A D ps (Ts f))
    (bi : ∀ f, f < Pg.fns.length → Binds K (D f) (ps f) [] ∧ PySem.W.keepIn K (.ref (A f)) = true) : ∀ (d f : Nat), f < Pg.fns.length → FnG P w K mg base (3 * d + 1) (A f) (D f) (ps f) (spF Pg d K C f)
  | 0, f, hf => by
    refine ⟨fun vs H Q h => ?_, fun A outer s H args us vs Q hr hg ev hb hv h => ?_⟩ <;>
      (obtain ⟨bs, b0, R, hh, ws, v, h', S, hb, dl, e, k⟩ := h; simp only [runF] at e; cases e)
  | d + 1, f, hf => by
    obtain ⟨F, st⟩ := all f hf
    have ih := fns_ok all bi d
    have hN : (Ts f).N.Nodup := by rw [F.N]; exact F.sc.nd
    refine (fnG_of (k := 3 * d + 3) F.fun_ F.sc (fun vs H Q h => ?_) fun cdv Ar outer s H vs Q hr gd h => ?_)
    · obtain ⟨bs, b0, R, hh, ws, v, h', S, hb, dl, e, k⟩ := h
      simp only [runF, F.at_] at e
      split at e
      case isFalse => cases e
      rename_i hl
      rw [← dl.length, hl, F.np]
    · obtain ⟨bs, b0, R, hh, ws, v, h', S, hb, dl, e, k⟩ := h
      simp only [runF, F.at_] at e
      split at e
      case isFalse => cases e
      rename_i hl
      obtain ⟨p, h1, e1, e2⟩ := Res.bind_eq e
      have S2 := S.enter hb
      have xok : XOk (Ts f) ⟨K, C, hh.length :: bs, gOf Pg (runF Pg d) hh.length⟩ (cxOf CX0 P w K mg base (Ns f) (Q_ f) (defScope (St f)) (A f) cdv Ar outer s H E0).nox (defScope (St f)) :=
        xok_of st (fun g hg => (ih g hg)) bi rfl rfl rfl rfl rfl F.N.symm hN rfl rfl hr (deeper_guards.trans gd)
      refine ⟨trSs ⟨K, C, hh.length :: bs, gOf Pg (runF Pg d) hh.length⟩ (Fn_ f).body, F.body _ _ xok ⟨fun _ => rfl, PassesOwn.never, F.sc.kind⟩, _, hh, R, p, h1, S2, Nat.le_refl _, start_den (np := (Fn_ f).np) dl F.n, e1, fun R' H' σ' X' S' D' => ?_⟩
      have hlen : hh.length ≤ h1.length := by
        obtain ⟨r, er, _⟩ := X'.more
        rw [← S'.len, er, List.length_append, S.len]
        omega
      have Xc : Ext R (R'.cut hh.length) H H' := X'.cutR S.len
      have Sc : Sim K C bs b0 (R'.cut hh.length) (h1.take hh.length) H' := S'.leave hlen S.le hb
      obtain ⟨ctl, s9⟩ := p
      cases ctl with
      | next =>
        simp only [retR] at e2
        split at e2 <;> cases e2
        · exact k R' H' _ X' (S'.keep S.le) rfl
        · exact k _ H' _ Xc Sc rfl
      | brk => simp only [retR] at e2; cases e2
      | cont => simp only [retR] at e2; cases e2
      | ret u =>
        intro x dx
        simp only [retR] at e2
        split at e2
        · cases e2
          exact k R' H' _ X' (S'.keep S.le) dx
        · split at e2 <;> cases e2
          rename_i hz
          exact k _ H' _ Xc Sc (frz_ok S' hz dx)
end
end Co
end

section
set_option linter.all false
set_option maxRecDepth 100000
set_option autoImplicit false
/-! Co19: the end of a law. -/
namespace Co
open PySem PySem.Spec
                        PyProof.Rows L2
section
variable {P : Program} {w : World} {K : PySem.W.Frag} {mg mb : Str → Option Value} {k : Nat} {fa a : Addr} {fd : FuncData} {x : Str} {sp : SpV} {s : Shared} {vs : List Value} {ns : List Int}
/-- from an abstract heap in which at most the script is told of -/
theorem lawCore {H : Hp} (inK : K.In s.heap) (nsG : s.heap.Ns mainGlobals mg) (nsB : s.heap.Ns builtinsNs mb) (bl : ∀ x : Str, x ≠ "__name__" → mb x = bootBuiltins x) (lim : s.heap.NoLimit) (gens : s.gens = #[])
    (obA : s.heap.get? a = some { cls := .type "list", data := .seq vs.toArray }) (room : Room k callerA) (F : ∀ base : Heap, K.In base → base.Ns mainGlobals mg → FnG P w K mg base k fa fd [x] sp) (bind : ∀ (s : Shared) (u : Value), BindsTo s fd ⟨[u], []⟩ [(x, u)])
    (want : sp [.ref a] H (fun v _ => v = .bl true)) (only : Only H) (ok : HOk P w H s.heap) (isA : ∀ c, H c ≠ none → c = a) (noK : H a ≠ none → K.lookup a = none) :
    codeAny (model P w) callerA (.call (.ref fa) ⟨[.ref a], []⟩) (fun r s' => r = .ok (.ret (.bool true)) ∧ OldK s.heap s'.heap ∧ s'.os = s.os ∧ AllBare s'.gens) s := by
  have hid : ∀ {c : Addr} {o : Obj}, s.heap.get? c = some o → H c = none → (hidT s.heap H).get? c = some o := fun q n => hidT_get q n
  have isnt : ∀ {c : Addr} {o : Obj} {es : Array DictEntry} {ep : Nat}, s.heap.get? c = some o → o.data = .dict es ep → H c = none := fun {c o es ep} q d => by
    cases hc : H c with
    | none => rfl
    | some u =>
      have ec : c = a := isA c (by rw [hc]; simp)
      subst ec
      rw [obA] at q; cases q
      have d2 : Data.seq vs.toArray _ = Data.dict es ep := d
      cases d2
  have nsH : ∀ {c : Addr} {m : Str → Option Value}, s.heap.Ns c m → (hidT s.heap H).Ns c m := fun {c m} ⟨o, es, ep, q, d, r⟩ => ⟨o, es, ep, hid q (isnt q d), d, r⟩
  have inH : K.In (hidT s.heap H) := fun c o q => hid (inK c o q) (by
    cases hc : H c with
    | none => rfl
    | some u =>
      have ec : c = a := isA c (by rw [hc]; simp)
      subst ec
      rw [noK (by rw [hc]; simp)] at q; cases q)
  have md : Mod K mg (hidT s.heap H) := ⟨inH, nsH nsG, ⟨mb, nsH nsB, bl⟩, let ⟨mc, q1, q2⟩ := lim; ⟨mc, nsH q1, q2⟩⟩
  have ev : Env0 P w K mg (hidT s.heap H) callerA [] s H := ⟨rfl, md, fun c o q => of_hidT q, Nat.le_of_eq (hidT_size _ _), trivial, fun c hc => absurd (show c ∈ ([] : List Addr) from hc) (by simp), ok, .of_eq gens⟩
  refine codeAny_mono ((F _ inH (nsH nsG)).run callerA [] s H ⟨[.ref a], []⟩ [.ref a] [.ref a] _ room rfl ev (bind s (.ref a)) (.cons rfl .nil) want) fun r s' res => ?_
  obtain ⟨u, rfl, v, H', os, bare, un, ok', rel, q⟩ := crEnd (A := callerA) res
  have q2 : v = .bl true := q
  subst q2
  obtain rfl : u = Value.bool true := rel
  refine ⟨rfl, OldK.of_keep fun c o e => ?_, os, bare⟩
  cases hc : H c with
  | none => exact un.keep c o e hc (by intro z; exact absurd (show c ∈ ([] : List Addr) from z) (by simp)) (by simp)
  | some u =>
    rcases only c with z | ⟨ob, xs, z⟩
    · rw [hc] at z; cases z
    · obtain ⟨e1, _⟩ := ok c _ z
      obtain ⟨e2, _⟩ := ok' c _ (un.frzs c ob _ z)
      rw [e] at e1; cases e1
      exact e2
theorem lawCall (inK : K.In s.heap) (nsG : s.heap.Ns mainGlobals mg) (nsB : s.heap.Ns builtinsNs mb) (bl : ∀ x : Str, x ≠ "__name__" → mb x = bootBuiltins x) (lim : s.heap.NoLimit) (gens : s.gens = #[])
    (obA : s.heap.get? a = some { cls := .type "list", data := .seq vs.toArray }) (iA : IntsAre vs ns) (len : ns.length ≤ sizeLine) (room : Room k callerA) (F : ∀ base : Heap, K.In base → base.Ns mainGlobals mg → FnG P w K mg base k fa fd [x] sp)
    (bind : ∀ (s : Shared) (u : Value), BindsTo s fd ⟨[u], []⟩ [(x, u)]) (want : ∀ H : Hp, Only H → SqL K H a (ns.map V.int) → sp [.ref a] H (fun v _ => v = .bl true)) :
    codeAny (model P w) callerA (.call (.ref fa) ⟨[.ref a], []⟩) (fun r s' => r = .ok (.ret (.bool true)) ∧ OldK s.heap s'.heap ∧ s'.os = s.os ∧ AllBare s'.gens) s := by
  have rv := vals_ints iA
  cases hk : K.lookup a with
  | some o =>
    have q := inK a o hk
    rw [obA] at q
    cases q
    have no : Only (fun _ => none) := fun _ => .inl rfl
    exact lawCore (H := fun _ => none) inK nsG nsB bl lim gens obA room F bind (want _ no (.inr ⟨_, vs.toArray, _, hk, rfl, rfl, rfl, by rw [List.size_toArray, iA.length]; exact len, by simpa using rv⟩)) no (fun c u z => nomatch z) (fun c z => absurd rfl z) fun z => absurd rfl z
  | none =>
    have no : Only (fun c => if c = a then some (.frz { cls := .type "list", data := .seq vs.toArray } (.lst (ns.map V.int))) else none) := fun c => by
      by_cases hc : c = a
      · exact .inr ⟨_, _, if_pos hc⟩
      · exact .inl (if_neg hc)
    refine lawCore (H := fun c => if c = a then some (.frz { cls := .type "list", data := .seq vs.toArray } (.lst (ns.map V.int))) else none) inK nsG nsB bl lim gens obA room F bind (want _ no (.inl (.inr ⟨_, if_pos rfl⟩))) no (fun c u z => ?_) (fun c z => ?_) fun _ => hk
    · by_cases hc : c = a
      · have z2 := (if_pos hc).symm.trans z
        cases z2
        subst hc
        exact ⟨obA, by rw [List.length_map]; exact len, vs, _, rv, obA⟩
      · have z2 := (if_neg hc).symm.trans z
        cases z2
    · by_cases hc : c = a
      · exact hc
      · exact absurd (if_neg hc) z
end
/-- the goal that k_head leaves, from the run of the core's law -/
theorem walkG {l : PySem.W.OpenLaw} {n d f : Nat} {q : Program} {loose : List Str} {XP : (Str → Option Value) → Heap → Prop} {YP : World → Heap → Prop} {dr : DefRec} {K : Params → PySem.W.Frag} {x : Str} {Pg : Prog} {C : Params → Nat → Addr}
    (hn : l.most = some n) (hn2 : n ≤ sizeLine) (hdf : dr.params.defaults = []) (hr : Room (3 * d + 1) callerA) (hY : ∀ (w : World) (h : Heap), YP w h → (K w.params).In h)
    (F : ∀ (w : World) (mg : Str → Option Value) (fa : Addr) (h : Heap), (K w.params).In h → h.Ns mainGlobals mg → mg dr.name = some (.ref fa) →
      ∃ fd : FuncData, (∀ (s : Shared) (u : Value), BindsTo s fd ⟨[u], []⟩ [(x, u)]) ∧ ∀ base : Heap, (K w.params).In base → base.Ns mainGlobals mg → FnG l.prog w (K w.params) mg base (3 * d + 1) fa fd [x] (spF Pg d (K w.params) (C w.params) f))
    (run : ∀ ns : List Int, ns.length ≤ n → (∀ z ∈ ns, Builtin.Int.intBits z ≤ 1048576) → ∃ h, runF Pg d f [.ro (ns.map .int)] [] = .ok (.bl true) h) : PySem.W.WalkO q loose XP YP l.row.toRowW dr [] (fun f vs => PySem.call f vs) := by
  refine Att.attach_callB hn hdf
                          fun w s₀ s₁ mg mb fa o pm cd doc a vs ns G Y ho hd hcd hmg hobj hints hlen hbits hg => ?_
  have inK := hY w _ Y
  obtain ⟨fd, hb, hF⟩ := F w mg fa _ inK G.T.g hmg
  refine lawCall inK G.T.g G.T.b G.T.builtins G.T.nolimit hg hobj hints (Nat.le_trans hlen hn2) hr hF hb fun H hO hS => ?_
  obtain ⟨h', e⟩ := run ns hlen hbits
  have aR : a ∉ (⟨[], []⟩ : Rg) := by
    rintro (z | z) <;> cases z
  refine ⟨[], 0, ⟨[], []⟩, [], [.ro (ns.map .int)], .bl true, h', ⟨rfl, .nil, by simp, fun n o a e => by simp at e, by simp, by simp, by simp⟩, Nat.le_refl _, ⟨_, [], rfl, ⟨a, ns.map V.int, rfl, ⟨by rw [List.length_map]; exact Nat.le_trans hlen hn2, ?_⟩, DenL.ofInts ns⟩, rfl⟩, e, fun R' H' y X' S' dy => dy⟩
  rcases hS with z | z
  · exact .inl ⟨z, aR⟩
  · exact .inr z
end Co
end

section
set_option linter.all false
set_option maxRecDepth 100000
set_option autoImplicit false
/-! Co20: the text's form in the core, with its proof: expressions. -/
namespace Co
open PySem PySem.Spec
                        PyProof.Rows L2
def isBoolOp : Expr → Bool
  | .BoolOp .. => true
  | _ => false
structure GE (T : Stc) (sc : Scope) (e : Expr) where
  c : CE
  t : Bool
  se : SE T sc e c
  st : t = true → ST T sc e c
  sw : t = true → isBoolOp e = true → SW T sc e c
  ns : starC c = false
structure GA (T : Stc) (sc : Scope) (es : List Expr) where
  cs : List CE
  sa : SA T sc es cs
structure GO (T : Stc) (sc : Scope) (e : Option Expr) where
  c : Option CE
  so : SO T sc e c
structure GI (T : Stc) (sc : Scope) (tg e : Expr) where
  c : CE
  si : SI T sc tg e c
structure GT (T : Stc) (sc : Scope) (es : List Expr) where
  cs : List CE
  hl : cs.length ≤ 1
  ts : STs T sc es cs
/-- of an expression whose test is its truth -/
def GE.plain {T : Stc} {sc : Scope} {e : Expr} (c : CE) (se : SE T sc e c) (ns : starC c = false) (hb : isBoolOp e = false) : GE T sc e :=
  ⟨c, plainTest e, se, fun h => val_t h se, fun _ h => (by rw [hb] at h; cases h), ns⟩
def ixOf (x : Str) : List Str → Option Nat
  | [] => none
  | y :: r => if y = x then some 0 else (ixOf x r).map (· + 1)
theorem ixOf_eq {x : Str} : ∀ {l : List Str} {i : Nat}, ixOf x l = some i → l[i]? = some x
  | [], i, h => by cases h
  | y :: r, i, h => by
    unfold ixOf at h
    split at h
    · rename_i e
      cases h
      simp [e]
    · simp only [Option.map_eq_some_iff] at h
      obtain ⟨j, h, rfl⟩ := h
      simpa using ixOf_eq h
def visB (sc : Scope) (x : Str) : Bool := sc.names.lookup x == some .local || (sc.names.lookup x == some .cell || sc.names.lookup x == some .free)
theorem vis_of {sc : Scope} {x : Str} (h : visB sc x = true) : Vis sc x := by
  simp only [visB, Bool.or_eq_true, beq_iff_eq] at h
  exact h
def okNm (x : Str) : Bool := !(x == ("__debug__" : Str)) && !(x == ("__classdict__" : Str))
theorem okNm1 {x : Str} (h : okNm x = true) : (x == ("__debug__" : Str)) = false := by
  simp only [okNm, Bool.and_eq_true, Bool.not_eq_true'] at h
  exact h.1
theorem okNm2 {x : Str} (h : okNm x = true) : (x == ("__classdict__" : Str)) = false := by
  simp only [okNm, Bool.and_eq_true, Bool.not_eq_true'] at h
  exact h.2
/-! ### built-ins by name -/
def biNm : Bi → Str
  | .abs => "abs"
  | .all => "all"
  | .any => "any"
  | .bool => "bool"
  | .divmod => "divmod"
  | .int => "int"
  | .len => "len"
  | .max => "max"
  | .min => "min"
  | .str => "str"
  | .sum => "sum"
  | .tuple => "tuple"
  | .list => "list"
  | .sorted => "sorted"
  | .sset => ""
  | .repr => "repr"
def biAll : List Bi := [.abs, .all, .any, .bool, .divmod, .int, .len, .max, .min, .str, .sum, .tuple, .list, .sorted, .repr]
def biOf (x : Str) : Option Bi := biAll.find? fun b => decide (biNm b = x)
theorem biOf_eq {x : Str} {b : Bi} (h : biOf x = some b) : biNm b = x ∧ b ≠ .sset := by
  unfold biOf at h
  have h1 := List.find?_some h
  have h2 := List.mem_of_find?_eq_some h
  exact ⟨of_decide_eq_true h1, fun e => by subst e; exact absurd h2 (by decide)⟩
theorem boot_bi {b : Bi} (h : b ≠ .sset) : bootBuiltins (biNm b) = some (biV b) := by
  cases b <;> first | decide +kernel | exact absurd rfl h
theorem bi_e {T : Stc} {sc : Scope} {a : Expr} {es : List Expr} {ces : List CE} {x : Str} {b : Bi} {p pos : Pos} (hb : biOf x = some b) (hg : isGl sc x = true) (hm : x ∈ T.blt) (hs : noStar (a :: es) = true) (ha : SA T sc (a :: es) ces) : SE T sc (.Call (.Name x p) (a :: es) [] pos) (.callB b ces) := by
  obtain ⟨rfl, h⟩ := biOf_eq hb
  have hx := boot_bi h
  cases b <;> first
    | exact absurd rfl h
    | exact callB_e h rfl hx hg hm (by decide) (by decide) hs ha
    | exact callT_e h rfl hx hg hm (by decide) (by decide) hs ha
def meAll : List Me := [.join, .split, .count, .index, .append, .extend, .pop]
def meOf (x : Str) : Option Me := meAll.find? fun m => decide (meNm m = x)
theorem meOf_eq {x : Str} {m : Me} (h : meOf x = some m) : meNm m = x := of_decide_eq_true (List.find?_some (p := fun m => decide (meNm m = x)) h)
def tyAll : List IsT := [.int, .bool, .str, .tuple, .list, .dict]
def tyNm : IsT → Str
  | .int => "int"
  | .bool => "bool"
  | .str => "str"
  | .tuple => "tuple"
  | .list => "list"
  | .dict => "dict"
  | .cls _ => ""
def isOf (x : Str) : Option IsT := tyAll.find? fun q => decide (tyNm q = x)
/-- set(e), as an argument -/
def setArg : Expr → Option (Pos × Expr × Pos)
  | .Call (.Name x p2) [a] [] q => if x = "set" then some (p2, a, q) else none
  | _ => none
theorem setArg_eq {e : Expr} {r : Pos × Expr × Pos} (h : setArg e = some r) : e = .Call (.Name "set" r.1) [r.2.1] [] r.2.2 := by
  unfold setArg at h
  split at h
  · split at h <;> cases h
    rename_i hx
    rw [hx]
  · cases h
/-- range(e), as an argument -/
def rangeArg : Expr → Option (Pos × Expr × Pos)
  | .Call (.Name x p2) [a] [] q => if x = "range" then some (p2, a, q) else none
  | _ => none
theorem rangeArg_eq {e : Expr} {r : Pos × Expr × Pos} (h : rangeArg e = some r) : e = .Call (.Name "range" r.1) [r.2.1] [] r.2.2 := by
  unfold rangeArg at h
  split at h
  · split at h <;> cases h
    rename_i hx
    rw [hx]
  · cases h
theorem isI_e {T : Stc} {sc : Scope} {a : Expr} {ca : CE} {x : Str} {q : IsT} {p p2 pos : Pos} (hq : isOf x = some q) (hg : isGl sc "isinstance" = true) (hm : ("isinstance" : Str) ∈ T.blt) (hg2 : isGl sc x = true) (hm2 : x ∈ T.blt) (hs : starred a = false) (ha : SE T sc a ca) :
    SE T sc (.Call (.Name "isinstance" p) [a, .Name x p2] [] pos) (.isI q ca) := by
  unfold isOf at hq
  have h1 : tyNm q = x := of_decide_eq_true (List.find?_some (p := fun q => decide (tyNm q = x)) hq)
  have h2 := List.mem_of_find?_eq_some hq
  subst h1
  cases q
  case cls c => exact absurd h2 (by simp [tyAll])
  case int => exact isB_e (nm := "int") rfl (by decide +kernel) hg hm hg2 hm2 (by decide) (by decide) hs ha
  case bool => exact isB_e (nm := "bool") rfl (by decide +kernel) hg hm hg2 hm2 (by decide) (by decide) hs ha
  case str => exact isB_e (nm := "str") rfl (by decide +kernel) hg hm hg2 hm2 (by decide) (by decide) hs ha
  case tuple => exact isB_e (nm := "tuple") rfl (by decide +kernel) hg hm hg2 hm2 (by decide) (by decide) hs ha
  case list => exact isB_e (nm := "list") rfl (by decide +kernel) hg hm hg2 hm2 (by decide) (by decide) hs ha
  case dict => exact isB_e (nm := "dict") rfl (by decide +kernel) hg hm hg2 hm2 (by decide) (by decide) hs ha
/-! ### a block -/
def ownOf (N : List Str) (scope : Scope) : List (Str × Nat) := scope.names.filterMap fun p => if p.2 == .local || p.2 == .cell then (ixOf p.1 N).map fun i => (p.1, i) else none
def blkB (N : List Str) (sc scope : Scope) (own : List (Str × Nat)) : Bool :=
  decide (scope.kind = .function) && (scope.names.all (fun y => scope.names.lookup y.1 == some y.2) && (own.all (fun p => decide (N[p.2]? = some p.1)) &&
    (scope.names.all (fun y => !(y.2 == .free) || (sc.names.lookup y.1 == some .cell || sc.names.lookup y.1 == some .free)) && scope.names.all (fun y => !(y.2 == .local || y.2 == .cell) || (decide (y.1 ∈ own.map (·.1)) || decide (y.1 ∉ N))))))
theorem blk_of {N : List Str} {sc scope : Scope} {own : List (Str × Nat)} (h : blkB N sc scope own = true) : BlkOk N sc scope own := by
  simp only [blkB, Bool.and_eq_true, List.all_eq_true, decide_eq_true_eq, beq_iff_eq, Bool.or_eq_true, Bool.not_eq_true'] at h
  obtain ⟨h1, h2, h3, h4, h5⟩ := h
  refine ⟨h1, h2, h3, fun y hy e => ?_, fun y hy e => ?_⟩
  · rcases h4 y hy with q | q
    · rw [e] at q; cases q
    · exact q
  · rcases h5 y hy with q | q
    · rcases e with e | e <;> rw [e] at q <;> cases q
    · exact q
section
variable {T : Stc}
def compA {sc : Scope} (r : (e : Expr) → Option (GE T sc e)) : (es : List Expr) → Option (GA T sc es)
  | [] => some ⟨[], nil_a⟩
  | .Constant (.str u) j p :: .BinOp (.Call (.Attribute (.Name x p1) m apos) [.Constant (.str y) j0 c0, .Constant (.str z) j1 c1] [] p2) op b p3 :: es =>
    if h : m = "replace" ∧ okNm x = true ∧ visB sc x = true ∧ (apos.endLine == p2.line) = true then (match hi : ixOf x T.N with
      | some i => (r b).bind fun gb => (compA r es).map fun ga => ⟨.cst (.str u) :: .bin op (.repl (.var i) y z) gb.c :: ga.cs, by
          obtain ⟨rfl, h2, h3, h4⟩ := h
          exact lit_et_a rfl rfl (bin_et (repl_et (ixOf_eq hi) (vis_of h3) (okNm1 h2) (okNm2 h2) h4) gb.se) ga.sa⟩
      | none => none) else none
  | .Starred e p :: es => (r e).bind fun g => (compA r es).map fun ga => ⟨.star g.c :: ga.cs, star_a g.se ga.sa⟩
  | e :: es => if hs : starred e = false then (r e).bind fun g => (compA r es).map fun ga => ⟨g.c :: ga.cs, cons_a hs g.ns g.se ga.sa⟩ else none
def compK {sc : Scope} (r : (e : Expr) → Option (GE T sc e)) : (kws : List Keyword) → Option { cs : List CE // SK T sc kws cs ∧ (∀ c ∈ cs, starC c = false) }
  | [] => some ⟨[], nil_k, by simp⟩
  | ⟨nm, e, p⟩ :: kws => (r e).bind fun g => (compK r kws).map fun ga => ⟨g.c :: ga.1, cons_k g.ns g.se ga.2.1, fun c m => (List.mem_cons.mp m).elim (fun q => by rw [q]; exact g.ns) (ga.2.2 c)⟩
def kwFind (f : Nat) (ks : List Str) : List (Nat × List Str × List Nat) → Option (List Nat)
  | [] => none
  | q :: r => if q.1 = f ∧ q.2.1 = ks then some q.2.2 else kwFind f ks r
theorem kwFind_eq {f : Nat} {ks : List Str} {perm : List Nat} : ∀ {l : List (Nat × List Str × List Nat)}, kwFind f ks l = some perm → (f, ks, perm) ∈ l
  | [], h => nomatch h
  | q :: r, h => by
    unfold kwFind at h
    split at h
    · rename_i e
      cases h
      obtain ⟨a, b, c⟩ := q
      rw [← e.1, ← e.2]
      exact List.mem_cons_self
    · exact List.mem_cons_of_mem _ (kwFind_eq h)
def compD {sc : Scope} (r : (e : Expr) → Option (GE T sc e)) : (keys : List (Option Expr)) → (vals : List Expr) → Option { q : List Key × List CE // SPr T sc keys q.1 vals q.2 }
  | [], [] => some ⟨([], []), nil_p⟩
  | some (.Constant (.int i) j p) :: keys, v :: vals => (r v).bind fun g => (compD r keys vals).map fun gd => ⟨(.inl i :: gd.1.1, g.c :: gd.1.2), cons_p g.ns (fun X => pe_int) g.se gd.2⟩
  | some (.Constant (.str x) j p) :: keys, v :: vals => (r v).bind fun g => (compD r keys vals).map fun gd => ⟨(.inr x :: gd.1.1, g.c :: gd.1.2), cons_p g.ns (fun X => pe_str) g.se gd.2⟩
  | _, _ => none
def compO {sc : Scope} (r : (e : Expr) → Option (GE T sc e)) : (e : Option Expr) → Option (GO T sc e)
  | none => some ⟨none, none_o⟩
  | some e => (r e).map fun g => ⟨some g.c, some_o g.se⟩
def compTs {sc : Scope} (r : (e : Expr) → Option (GE T sc e)) : (es : List Expr) → Option (GT T sc es)
  | [] => some ⟨[], Nat.zero_le _, ts_nil⟩
  | [e] => (r e).bind fun g => if h : g.t = true then some ⟨[g.c], Nat.le_refl _, ts_one (g.st h)⟩ else none
  | _ => none
def compI {sc : Scope} (r : (e : Expr) → Option (GE T sc e)) (tg : Expr) : (e : Expr) → Option (GI T sc tg e)
  | .Call (.Name x p) [.Starred a pz] [] pos =>
    if h1 : x = "zip" ∧ isGl sc "zip" = true ∧ ("zip" : Str) ∈ T.blt then (match tg with
      | .Name y py => (r a).map fun g => ⟨.zipS g.c, h1.1 ▸ zipS_i h1.2.1 h1.2.2 g.se⟩
      | _ => none)
    else none
  | .Call (.Name x p) [a] [] pos =>
    if h1 : x = "range" ∧ isGl sc "range" = true ∧ ("range" : Str) ∈ T.blt ∧ starred a = false then (r a).map fun g => ⟨.range1 g.c, h1.1 ▸ range1_i h1.2.1 h1.2.2.1 h1.2.2.2 g.ns g.se⟩
    else if h2 : x = "enumerate" ∧ isGl sc "enumerate" = true ∧ ("enumerate" : Str) ∈ T.blt ∧ starred a = false then (match tg with
      | .Tuple elts k tp => (r a).map fun g => ⟨.enum g.c, h2.1 ▸ enum_i h2.2.1 h2.2.2.1 h2.2.2.2 g.ns g.se⟩
      | _ => none)
    else (r (.Call (.Name x p) [a] [] pos)).map fun g => ⟨.of g.c, of_i g.se⟩
  | .Call (.Name x p) [a, b] [] pos =>
    if h1 : x = "range" ∧ isGl sc "range" = true ∧ ("range" : Str) ∈ T.blt ∧ starred a = false ∧ starred b = false then (r a).bind fun g => (r b).map fun g2 => ⟨.range2 g.c g2.c, h1.1 ▸ range2_i h1.2.1 h1.2.2.1 h1.2.2.2.1 g.ns h1.2.2.2.2 g2.ns g.se g2.se⟩
    else if h2 : x = "zip" ∧ isGl sc "zip" = true ∧ ("zip" : Str) ∈ T.blt ∧ starred a = false ∧ starred b = false then (match tg with
      | .Tuple elts k tp => (r a).bind fun g => (r b).map fun g2 => ⟨.zip g.c g2.c, h2.1 ▸ zip_i h2.2.1 h2.2.2.1 h2.2.2.2.1 g.ns h2.2.2.2.2 g2.ns g.se g2.se⟩
      | _ => none)
    else (r (.Call (.Name x p) [a, b] [] pos)).map fun g => ⟨.of g.c, of_i g.se⟩
  | .Call (.Name x p) (a :: b :: c :: es) [] pos =>
    if h : x = "zip" ∧ isGl sc "zip" = true ∧ ("zip" : Str) ∈ T.blt ∧ noStar (a :: b :: c :: es) = true then (compA r (a :: b :: c :: es)).map fun ga => ⟨.zipS (.tup ga.cs), h.1 ▸ zipA_i h.2.1 h.2.2.1 h.2.2.2 ga.sa⟩
    else (r (.Call (.Name x p) (a :: b :: c :: es) [] pos)).map fun g => ⟨.of g.c, of_i g.se⟩
  | e => (r e).map fun g => ⟨.of g.c, of_i g.se⟩
/-- the places of a clause's target -/
def tgNames (N : List Str) : Expr → Option (Bool × List Nat)
  | .Name x _ => (ixOf x N).map fun i => (true, [i])
  | .Tuple es _ _ => (es.mapM fun (e : Expr) => match e with | .Name x _ => ixOf x N | _ => none).map fun l => (false, l)
  | _ => none
theorem lc_e {sc : Scope} {m : Bool} {elt tge iter : Expr} {ifs : List Expr} {scope : Scope} {pos : Pos} {q : Bool × List Nat} (hset : notSet iter = true) (hb : blkB T.N sc scope (ownOf T.N scope) = true) (ho : (q.2.all fun i => decide (i ∈ (ownOf T.N scope).map (·.2))) = true)
    (htg : tgOk T.N (canB scope (relS scope sc)) q.1 q.2 tge = true) (gi : GI T sc tge iter) (gt : GT T (relS scope sc) ifs) (ge : GE T (relS scope sc) elt) :
    SE T sc (.ListComp elt [⟨tge, iter, ifs, 0⟩] scope pos) (.comp m ((ownOf T.N scope).map (·.2)) q.2 q.1 gi.c gt.cs ge.c) :=
  comp_e hset (blk_of hb) gt.hl (fun i hi => of_decide_eq_true (List.all_eq_true.mp ho i hi)) htg gi.si gt.ts ge.se
def varOf : CE → Option Nat
  | .var i => some i
  | _ => none
theorem varOf_eq {c : CE} {i : Nat} (h : varOf c = some i) : c = .var i := by
  unfold varOf at h
  split at h <;> cases h
  rfl
def lenOf : CE → Option (List CE)
  | .callB .len es => some es
  | _ => none
theorem lenOf_eq {c : CE} {es : List CE} (h : lenOf c = some es) : c = .callB .len es := by
  unfold lenOf at h
  split at h <;> cases h
  rfl
/-- == and != by the class -/
def compEq {sc : Scope} {a b : Expr} {pos : Pos} (hm : notSet b = true) (ga : GE T sc a) (gb : GE T sc b) : (op : CmpOp) → Option (GE T sc (.Compare a [op] [b] pos))
  | .Eq => (match hi : varOf ga.c with
    | some i => (match hj : varOf gb.c with
      | some j => some ⟨eqC 0 i j, true, eqO_e hm (varOf_eq hi ▸ ga.se) (varOf_eq hj ▸ gb.se), fun _ => eqO_t hm (varOf_eq hi ▸ ga.se) (varOf_eq hj ▸ gb.se), (fun _ h => nomatch h), rfl⟩
      | none => none)
    | none => none)
  | .NotEq => (match hi : varOf ga.c with
    | some i => (match hj : varOf gb.c with
      | some j => some ⟨.not (eqC 0 i j), true, neO_e hm (varOf_eq hi ▸ ga.se) (varOf_eq hj ▸ gb.se), fun _ => neO_t hm (varOf_eq hi ▸ ga.se) (varOf_eq hj ▸ gb.se), (fun _ h => nomatch h), rfl⟩
      | none => none)
    | none => none)
  | _ => none
/-- str, repr, bool by the class -/
def compSp {sc : Scope} (r : (e : Expr) → Option (GE T sc e)) (ow : Bool) (x : Str) (p : Pos) (a : Expr) (es : List Expr) (pos : Pos) : Option (GE T sc (.Call (.Name x p) (a :: es) [] pos)) :=
  if h : ow = true ∧ es = [] ∧ isGl sc x = true ∧ x ∈ T.blt ∧ starred a = false then
    (if h1 : x = "str" then (r a).map fun ga => .plain (.bin .Add (.mcall ga.c "__str__" []) (.cst (.str ⟨#[]⟩))) (by
        obtain ⟨_, rfl, h2, h3, h4⟩ := h
        subst h1
        exact strO_e h2 h3 h4 ga.ns ga.se) rfl rfl
     else if h1 : x = "repr" then (r a).map fun ga => .plain (.bin .Add (.mcall ga.c "__repr__" []) (.cst (.str ⟨#[]⟩))) (by
        obtain ⟨_, rfl, h2, h3, h4⟩ := h
        subst h1
        exact reprO_e h2 h3 h4 ga.ns ga.se) rfl rfl
     else if h1 : x = "bool" ∧ ("__bool__" : Str) ∈ T.flds ∧ ("__len__" : Str) ∈ T.flds then (r a).map fun ga => .plain (.or (.isI (.cls 0) ga.c) .bad) (by
        obtain ⟨_, rfl, h2, h3, h4⟩ := h
        obtain ⟨rfl, b1, b2⟩ := h1
        exact boolO_e b1 b2 h2 h3 h4 ga.ns ga.se) rfl rfl
     else none)
  else none
def compE (T : Stc) (own : Pos → Bool) : (n : Nat) → (sc : Scope) → (e : Expr) → Option (GE T sc e)
  | 0, _, _ => none
  | n + 1, sc, e => match e with
    | .Constant (.int i) _ _ => some (.plain _ int_e rfl rfl)
    | .Constant (.bool i) _ _ => some (.plain _ bl_e rfl rfl)
    | .Constant .none _ _ => some (.plain _ non_e rfl rfl)
    | .Constant (.str i) _ _ => some (.plain _ str_e rfl rfl)
    | .Name x pos => if ho : okNm x = true then (match hi : ixOf x T.N with
        | some i => if hv : visB sc x = true then some (.plain _ (var_e (ixOf_eq hi) (vis_of hv) (okNm1 ho) (okNm2 ho)) rfl rfl) else none
        | none => if hg : isGl sc x = true then (match hc : T.cst.lookup x with
          | some v => some (.plain _ (glob_e hg hc (okNm1 ho)) rfl rfl)
          | none => none) else none) else none
    | .BinOp a .Add b pos => if own pos = true then (compE T own n sc a).bind fun ga => (compE T own n sc b).map fun gb => .plain _ (addM_e ga.se gb.se) rfl rfl
        else (compE T own n sc a).bind fun ga => (compE T own n sc b).map fun gb => .plain _ (bin_e ga.se gb.se) rfl rfl
    | .BinOp a op b pos => (compE T own n sc a).bind fun ga => (compE T own n sc b).map fun gb => .plain _ (bin_e ga.se gb.se) rfl rfl
    | .UnaryOp .USub a pos => (compE T own n sc a).map fun ga => .plain _ (neg_e ga.se) rfl rfl
    | .UnaryOp .Not a pos => (compE T own n sc a).map fun ga => ⟨.not ga.c, ga.t, not_e ga.se, fun h => not_t (ga.st h), (fun _ h => nomatch h), rfl⟩
    | .BoolOp .And [a] pos => (compE T own n sc a).map fun ga => ⟨ga.c, ga.t, bone_e ga.se, fun h => (wand1 (ga.st h)).st, fun h _ => wand1 (ga.st h), ga.ns⟩
    | .BoolOp .Or [a] pos => (compE T own n sc a).map fun ga => ⟨ga.c, ga.t, bone_e ga.se, fun h => (wor1 (ga.st h)).st, fun h _ => wor1 (ga.st h), ga.ns⟩
    | .BoolOp .And (a :: b :: r) pos => (compE T own n sc a).bind fun ga => (compE T own n sc (.BoolOp .And (b :: r) pos)).map fun gb =>
        ⟨.and ga.c gb.c, ga.t && gb.t, and_e ga.se gb.se, fun h => (wand (ga.st (Bool.and_eq_true_iff.mp h).1) (gb.sw (Bool.and_eq_true_iff.mp h).2 rfl)).st, fun h _ => wand (ga.st (Bool.and_eq_true_iff.mp h).1) (gb.sw (Bool.and_eq_true_iff.mp h).2 rfl), rfl⟩
    | .BoolOp .Or (a :: b :: r) pos => (compE T own n sc a).bind fun ga => (compE T own n sc (.BoolOp .Or (b :: r) pos)).map fun gb =>
        ⟨.or ga.c gb.c, ga.t && gb.t, or_e ga.se gb.se, fun h => (wor (ga.st (Bool.and_eq_true_iff.mp h).1) (gb.sw (Bool.and_eq_true_iff.mp h).2 rfl)).st, fun h _ => wor (ga.st (Bool.and_eq_true_iff.mp h).1) (gb.sw (Bool.and_eq_true_iff.mp h).2 rfl), rfl⟩
    | .Compare a [op] [b] pos => if hm : notSet b = true then (compE T own n sc a).bind fun ga => (compE T own n sc b).bind fun gb => (if own pos = true then compEq hm ga gb op else none).orElse fun _ => some ⟨.cmp op ga.c gb.c, true, cmp_e hm ga.se gb.se, fun _ => cmp_t hm ga.se gb.se, (fun _ h => nomatch h), rfl⟩ else none
    | .Compare a [o1, o2] [b, c] pos => if hm : notSet c = true then (compE T own n sc a).bind fun ga => (compE T own n sc b).bind fun gb => (compE T own n sc c).map fun gc =>
        ⟨.chain o1 o2 ga.c gb.c gc.c, true, chain_e hm ga.se gb.se gc.se, fun _ => chain_t hm ga.se gb.se gc.se, (fun _ h => nomatch h), rfl⟩ else none
    | .IfExp c a b pos => (compE T own n sc c).bind fun gc => (compE T own n sc a).bind fun ga => (compE T own n sc b).bind fun gb => if h : gc.t = true then some (.plain _ (ite_e (gc.st h) ga.se gb.se) rfl rfl) else none
    | .Tuple es j pos => (compA (compE T own n sc) es).map fun ga => .plain _ (tup_e ga.sa) rfl rfl
    | .List es pos => (compA (compE T own n sc) es).map fun ga => .plain _ (lst_e (m := own pos) ga.sa) rfl rfl
    | .Dict [] [] pos => some (.plain _ dct0_e rfl rfl)
    | .Dict (k :: keys) vals pos => if h : (k :: keys).all (·.isSome) = true ∧ (k :: keys).length = vals.length ∧ (k :: keys).length ≤ 15 then (compD (compE T own n sc) (k :: keys) vals).map fun gd => .plain _ (disp_e h.1 h.2.1 (List.cons_ne_nil _ _) h.2.2 gd.2) rfl rfl else none
    | .Attribute a f pos => if h : f ∈ T.flds ∧ plainBase a = true then (compE T own n sc a).map fun ga => .plain _ (fld_e h.1 h.2 ga.se) rfl rfl else none
    | .Subscript a (.Slice none none (some (.UnaryOp .USub (.Constant (.int 1) j p1) p2)) p3) pos => (compE T own n sc a).map fun ga => .plain _ (rev_e ga.se) rfl rfl
    | .Subscript a (.Slice lo hi none p2) pos => (compE T own n sc a).bind fun ga => (compO (compE T own n sc) lo).bind fun gl => (compO (compE T own n sc) hi).map fun gh => .plain _ (slice_e ga.se gl.so gh.so) rfl rfl
    | .Subscript a b pos => if hn : notSlice b = true then (compE T own n sc a).bind fun ga => (compE T own n sc b).map fun gb => .plain _ (idx_e hn ga.se gb.se) rfl rfl else none
    | .Call (.Name x p) [] [] pos => (match hf : T.fns.lookup x with
        | some f => if h : isGl sc x = true ∧ okNm x = true then some (.plain _ (callF0_e hf h.1 (okNm1 h.2)) rfl rfl) else none
        | none => none)
    | .Call (.Name x p) [] (kw :: kws) pos => (match hf : T.fns.lookup x with
        | some f => if h : isGl sc x = true ∧ okNm x = true then (match hks : kwNm (kw :: kws) with
          | some ks => (match hq : kwFind f ks T.kws with
            | some perm => (compK (compE T own n sc) (kw :: kws)).bind fun ga => if hl : ga.1.length = ks.length ∧ perm ≠ [] then some (.plain _ (callK_e hf h.1 (okNm1 h.2) hks (kwFind_eq hq) hl.2 hl.1 ga.2.2 ga.2.1) rfl rfl) else none
            | none => none)
          | none => none) else none
        | none => (match hc : T.cls.lookup x with
          | some c => if h : c ∈ T.mks ∧ isGl sc x = true ∧ okNm x = true then (match hks : kwNm (kw :: kws) with
            | some ks => if hk : (c, ks, ([] : List Nat)) ∈ T.kws then (compK (compE T own n sc) (kw :: kws)).bind fun ga => if hl : ga.1.length = ks.length then some (.plain _ (makeK_e hc h.1 h.2.1 (okNm1 h.2.2) hks hk hl ga.2.2 ga.2.1) rfl rfl) else none else none
            | none => none) else none
          | none => none))
    | .JoinedStr [.Constant (.str s1) j1 p1, .FormattedValue a fm none p2, .Constant (.str s2) j2 p3] pos => if h : fm = -1 ∧ s1.length ≤ 1000 ∧ s2.length ≤ 1000 then (compE T own n sc a).bind fun ga => (match hc : lenOf ga.c with
        | some es => some (.plain _ (h.1 ▸ fstr_e (lenOf_eq hc ▸ ga.se) h.2.1 h.2.2) rfl rfl)
        | none => none) else none
    | .Call (.Name x p) (a :: es) [] pos => (match hf : T.fns.lookup x with
        | some f => if h : isGl sc x = true ∧ okNm x = true ∧ noStar (a :: es) = true then (compA (compE T own n sc) (a :: es)).map fun ga => .plain _ (callF_e hf h.1 (okNm1 h.2.1) h.2.2 ga.sa) rfl rfl else none
        | none => (match hc : T.cls.lookup x with
          | some c => if h : c ∈ T.mks ∧ isGl sc x = true ∧ okNm x = true ∧ noStar (a :: es) = true then (compA (compE T own n sc) (a :: es)).map fun ga => .plain _ (make_e hc h.1 h.2.1 (okNm1 h.2.2.1) h.2.2.2 ga.sa) rfl rfl else none
          | none => (compSp (compE T own n sc) (own pos) x p a es pos).orElse fun _ => ((match hz : rangeArg a with
            | some r => if h : own pos = true ∧ x = "list" ∧ es = [] ∧ isGl sc "list" = true ∧ ("list" : Str) ∈ T.blt ∧ isGl sc "range" = true ∧ ("range" : Str) ∈ T.blt ∧ starred r.2.1 = false then (compE T own n sc r.2.1).map fun g => .plain (.comp true [0] [0] true (.range1 g.c) [] (.var 0)) (by
                obtain ⟨h0, rfl, rfl, h1, h2, h3, h4, h5⟩ := h
                rw [rangeArg_eq hz]
                exact listR_e h1 h2 h3 h4 h5 g.ns g.se) rfl rfl else none
            | none => none) : Option (GE T sc (.Call (.Name x p) (a :: es) [] pos))).orElse fun _ => if hl : own pos = true ∧ x = "list" ∧ es = [] ∧ isGl sc "list" = true ∧ ("list" : Str) ∈ T.blt ∧ starred a = false then (compE T own n sc a).map fun ga => .plain (.listM ga.c) (hl.2.1 ▸ hl.2.2.1 ▸ listM_e hl.2.2.2.1 hl.2.2.2.2.1 hl.2.2.2.2.2 ga.ns ga.se) rfl rfl
            else ((match hz : setArg a with
            | some r => if h : x = "sorted" ∧ es = [] ∧ isGl sc "sorted" = true ∧ ("sorted" : Str) ∈ T.blt ∧ isGl sc "set" = true ∧ ("set" : Str) ∈ T.blt ∧ starred r.2.1 = false then (compE T own n sc r.2.1).map fun g => .plain (.callB .sset [g.c]) (by
                obtain ⟨rfl, rfl, h1, h2, h3, h4, h5⟩ := h
                rw [setArg_eq hz]
                exact sset_e h1 h2 h3 h4 h5 g.ns g.se) rfl rfl else none
            | none => none) : Option (GE T sc (.Call (.Name x p) (a :: es) [] pos))).orElse fun _ => (match hb : biOf x with
            | some b => if h : isGl sc x = true ∧ x ∈ T.blt ∧ noStar (a :: es) = true then (compA (compE T own n sc) (a :: es)).map fun ga => .plain _ (bi_e hb h.1 h.2.1 h.2.2 ga.sa) rfl rfl else none
            | none => (match es with
              | [.Name t p2] => if h : x = "isinstance" ∧ isGl sc "isinstance" = true ∧ ("isinstance" : Str) ∈ T.blt ∧ isGl sc t = true ∧ starred a = false ∧ okNm t = true then (match hq : isOf t with
                | some q => if h2 : t ∈ T.blt then (compE T own n sc a).map fun ga => .plain (.isI q ga.c) (h.1 ▸ isI_e hq h.2.1 h.2.2.1 h.2.2.2.1 h2 h.2.2.2.2.1 ga.se) rfl rfl else none
                | none => (match hc2 : T.cls.lookup t with
                  | some cl => (compE T own n sc a).map fun ga => .plain (.isI (.cls cl) ga.c) (h.1 ▸ isC_e hc2 h.2.1 h.2.2.1 h.2.2.2.1 (okNm1 h.2.2.2.2.2) h.2.2.2.2.1 ga.se) rfl rfl
                  | none => none)) else none
              | _ => none))))
    | .Call (.Attribute o m apos) (a :: es) [] pos => if ho : own pos = true ∧ m = "split" ∧ es = [] ∧ plainBase o = true ∧ starred a = false ∧ (apos.endLine == pos.line) = true then (compE T own n sc o).bind fun go => (compE T own n sc a).map fun ga =>
            .plain (.splitM go.c ga.c) (ho.2.1 ▸ ho.2.2.1 ▸ splitM_e ho.2.2.2.1 ho.2.2.2.2.1 ga.ns ho.2.2.2.2.2 go.se ga.se) rfl rfl
        else (match hm : meOf m with
        | some me => if h : plainBase o = true ∧ noStar (a :: es) = true ∧ (a :: es).length < 30 ∧ (apos.endLine == pos.line) = true then (compE T own n sc o).bind fun go => (compA (compE T own n sc) (a :: es)).map fun ga =>
            .plain _ (meOf_eq hm ▸ meth_e h.1 h.2.1 h.2.2.1 h.2.2.2 go.se ga.sa) rfl rfl else none
        | none => none)
    | .ListComp elt [⟨tge, iter, ifs, 0⟩] scope pos => (match tgNames T.N tge with
        | some q => if h : notSet iter = true ∧ blkB T.N sc scope (ownOf T.N scope) = true ∧ (q.2.all fun i => decide (i ∈ (ownOf T.N scope).map (·.2))) = true ∧ tgOk T.N (canB scope (relS scope sc)) q.1 q.2 tge = true then
            (compI (compE T own n sc) tge iter).bind fun gi => (compTs (compE T own n (relS scope sc)) ifs).bind fun gt => (compE T own n (relS scope sc) elt).map fun ge => .plain _ (lc_e (m := own pos) h.1 h.2.1 h.2.2.1 h.2.2.2 gi gt ge) rfl rfl else none
        | none => none)
    | _ => none
end
end Co
end

section
set_option linter.all false
set_option maxRecDepth 100000
set_option autoImplicit false
/-! Co21: the text's form in the core, with its proof: statements. -/
namespace Co
open PySem PySem.Spec
                        PyProof.Rows L2
structure GS (T : Stc) (sc : Scope) (st : Stmt) where
  c : CS
  ss : SS T sc st c
structure GSs (T : Stc) (sc : Scope) (sts : List Stmt) where
  cs : List CS
  ss : SSs T sc sts cs
structure GG (T : Stc) (sc : Scope) (e : Expr) where
  c : CT
  sg : SG T sc e c
structure GGs (T : Stc) (sc : Scope) (es : List Expr) where
  cs : List CT
  hl : cs.length = es.length
  sg : SGs T sc es cs
def locB (sc : Scope) (x : Str) : Bool := sc.names.lookup x == some .local || sc.names.lookup x == some .cell
theorem loc_of {sc : Scope} {x : Str} (h : locB sc x = true) : Loc sc x := by
  simp only [locB, Bool.or_eq_true, beq_iff_eq] at h
  exact h
theorem bad_st {T : Stc} {sc : Scope} {st : Stmt} : SS T sc st .bad := fun Z X ok xd => ⟨fun pins s σ H D I h => by
  obtain ⟨se, h0, R, p, h1, S, b0, Ds, e, k⟩ := h
  simp only [exS] at e
  cases e⟩
theorem bad_s {T : Stc} {sc : Scope} {sts : List Stmt} : SSs T sc sts [.bad] := fun Z X ok xd => ⟨fun pins s σ H D I h => by
  obtain ⟨se, h0, R, p, h1, S, b0, Ds, e, k⟩ := h
  simp only [exSs, exS] at e
  cases e⟩
section
variable {T : Stc} {sc : Scope}
theorem lc0_s {y : Str} {i : Nat} {py lp pos : Pos} {elt : Expr} {gs : List Comprehension} {scope : Scope} (hy : ixOf y T.N = some i) (hl : locB sc y = true) (hs : lcSwap sc y py lp scope = false) (g : GE T sc (.ListComp elt gs scope lp)) : SS T sc (.Assign [.Name y py] (.ListComp elt gs scope lp) pos) (.asg (.name i) g.c) := fun Z X ok xd =>
  ⟨fun pins s σ H D I h => asg_core I rfl (g.se Z X ok) (name_g (ixOf_eq hy) (loc_of hl) Z X ok xd) (lc_no (by rw [ok.sc]; exact hs)) rfl h⟩
def compGs (r : (e : Expr) → Option (GG T sc e)) : (es : List Expr) → Option (GGs T sc es)
  | [] => some ⟨[], rfl, nil_g⟩
  | e :: es => if hs : starred e = false then (r e).bind fun g => (compGs r es).map fun gs => ⟨g.c :: gs.cs, by rw [List.length_cons, gs.hl, List.length_cons], cons_g hs g.sg gs.sg⟩ else none
def compG (T : Stc) (sc : Scope) (r : (e : Expr) → Option (GE T sc e)) : (n : Nat) → (e : Expr) → Option (GG T sc e)
  | 0, _ => none
  | n + 1, e => match e with
    | .Name x pos => (match hi : ixOf x T.N with
      | some i => if hl : locB sc x = true then some ⟨_, name_g (ixOf_eq hi) (loc_of hl)⟩ else none
      | none => none)
    | .Tuple es k pos => if hs : noStar es = true then (compGs (compG T sc r n) es).map fun gs => ⟨_, tup_g hs gs.hl gs.sg⟩ else none
    | .Subscript a b pos => if hn : notSlice b = true then (r a).bind fun ga => (r b).map fun gb => ⟨_, sub_g hn ga.se gb.se⟩ else none
    | _ => none
/-- what has no form here is never to be reached -/
def orBad {st : Stmt} (o : Option (GS T sc st)) : GS T sc st := match o with
  | some g => g
  | none => ⟨.bad, bad_st⟩
def compB (r : (st : Stmt) → Option (GS T sc st)) : (sts : List Stmt) → Option (GSs T sc sts)
  | [] => some ⟨[], nil_s⟩
  | st :: sts => (compB r sts).map fun gs => ⟨(orBad (r st)).c :: gs.cs, cons_s (orBad (r st)).ss gs.ss⟩
/-- a store in general -/
def compAsg (r : (e : Expr) → Option (GE T sc e)) (q : (e : Expr) → Option (GG T sc e)) (tg e : Expr) (pos : Pos) : Option (GS T sc (.Assign [tg] e pos)) :=
  if h : starred tg = false ∧ (notComp e = true ∨ isName tg = false) ∧ (isSeqT tg = false ∨ isTup e = false) then (r e).bind fun ge => (q tg).map fun gg => ⟨_, asg_s h.1 h.2.1 h.2.2 ge.se gg.sg⟩ else none
/-- a tuple stored at a tuple -/
def compPar (r : (e : Expr) → Option (GE T sc e)) (ts vs : List Expr) (k k2 : Nat) (p p2 pos : Pos) : Option (GS T sc (.Assign [.Tuple ts k p] (.Tuple vs k2 p2) pos)) :=
  match ts, vs with
  | [.Name x px, .Name y py], [a, b] => (match hi : ixOf x T.N, hj : ixOf y T.N with
    | some i, some j => if h : i ≠ j ∧ sc.names.lookup x = some .local ∧ sc.names.lookup y = some .local ∧ swK sc [.Name x px, .Name y py] [a, b] = some true ∧ swNames sc [.Name x px, .Name y py] = [x, y] ∧ starred a = false ∧ starred b = false then
        (r a).bind fun ga => (r b).map fun gb => ⟨_, par2_s (ixOf_eq hi) (ixOf_eq hj) h.1 h.2.1 h.2.2.1 h.2.2.2.1 h.2.2.2.2.1 (cons_a h.2.2.2.2.2.1 ga.ns ga.se (cons_a h.2.2.2.2.2.2 gb.ns gb.se nil_a))⟩ else none
    | _, _ => none)
  | [.Name x px, .Name y py, .Name z pz], [a, b, c] => (match hi : ixOf x T.N, hj : ixOf y T.N, hl : ixOf z T.N with
    | some i, some j, some l => if h : (i ≠ j ∧ i ≠ l ∧ j ≠ l) ∧ (sc.names.lookup x = some .local ∧ sc.names.lookup y = some .local ∧ sc.names.lookup z = some .local) ∧ swK sc [.Name x px, .Name y py, .Name z pz] [a, b, c] = some true ∧ swNames sc [.Name x px, .Name y py, .Name z pz] = [x, y, z] ∧ starred a = false ∧ starred b = false ∧ starred c = false then
        (r a).bind fun ga => (r b).bind fun gb => (r c).map fun gc => ⟨_, par3_s (ixOf_eq hi) (ixOf_eq hj) (ixOf_eq hl) h.1.1 h.1.2.1 h.1.2.2 h.2.1.1 h.2.1.2.1 h.2.1.2.2 h.2.2.1 h.2.2.2.1
          (cons_a h.2.2.2.2.1 ga.ns ga.se (cons_a h.2.2.2.2.2.1 gb.ns gb.se (cons_a h.2.2.2.2.2.2 gc.ns gc.se nil_a)))⟩ else none
    | _, _, _ => none)
  | _, _ => none
def compSt (T : Stc) (own : Pos → Bool) (sc : Scope) : (n : Nat) → (st : Stmt) → Option (GS T sc st)
  | 0, _ => none
  | n + 1, st => match st with
    | .Assign [.Name y py] (.ListComp elt [⟨tge, iter, ifs, 0⟩] scope lp) pos => (match hy : ixOf y T.N with
      | some i => if hs : lcSwap sc y py lp scope = true then (match tgNames T.N tge with
          | some q => if h : notSet iter = true ∧ blkB T.N sc scope (ownOf T.N scope) = true ∧ (q.2.all fun i => decide (i ∈ (ownOf T.N scope).map (·.2))) = true ∧ tgOk T.N (canB scope (relS scope sc)) q.1 q.2 tge = true then
              (compI (compE T own n sc) tge iter).bind fun gi => (compTs (compE T own n (relS scope sc)) ifs).bind fun gt => (compE T own n (relS scope sc) elt).map fun ge =>
                ⟨_, asgLc_s (m := own lp) (ixOf_eq hy) hs h.1 (blk_of h.2.1) gt.hl (fun i hi => of_decide_eq_true (List.all_eq_true.mp h.2.2.1 i hi)) h.2.2.2 gi.si gt.ts ge.se⟩ else none
          | none => none)
        else if hl : locB sc y = true then (compE T own n sc (.ListComp elt [⟨tge, iter, ifs, 0⟩] scope lp)).map fun g => ⟨_, lc0_s hy hl (by simpa using hs) g⟩ else none
      | none => none)
    | .Assign [.Tuple ts k p] (.Tuple vs k2 p2) pos => if h : swK sc ts vs = some false then
        (if hs : noStar ts = true then (compE T own n sc (.Tuple vs k2 p2)).bind fun ge => (compGs (compG T sc (compE T own n sc) n) ts).map fun gg => ⟨_, asgT_s (cvs := []) h ge.se (tup_g hs gg.hl gg.sg)⟩ else none)
        else compPar (compE T own n sc) ts vs k k2 p p2 pos
    | .Assign [.Attribute o f apos] e pos => if h : f ∈ T.flds then (compE T own n sc o).bind fun go => (compE T own n sc e).map fun ge => ⟨_, fld_s h go.se ge.se⟩ else none
    | .Assign [tg] e pos => compAsg (compE T own n sc) (compG T sc (compE T own n sc) n) tg e pos
    | .For tg iter body [] pos => if h : notSet iter = true then (compG T sc (compE T own n sc) n tg).bind fun gg => (compI (compE T own n sc) tg iter).bind fun gi => (compB (compSt T own sc n) body).map fun gb => ⟨_, for_s h gg.sg gi.si gb.ss⟩ else none
    | .While c body [] pos => (compE T own n sc c).bind fun gc => if h : gc.t = true then (compB (compSt T own sc n) body).map fun gb => ⟨_, while_s (gc.st h) gb.ss⟩ else none
    | .If c a b pos => (compE T own n sc c).bind fun gc => if h : gc.t = true then (compB (compSt T own sc n) a).bind fun ga => (compB (compSt T own sc n) b).map fun gb => ⟨_, if_s (gc.st h) ga.ss gb.ss⟩ else none
    | .Return none pos => some ⟨_, retN_s⟩
    | .Return (some e) pos => (compE T own n sc e).map fun g => ⟨_, ret_s g.se⟩
    | .Expr (.Constant (.str x) j p2) pos => some ⟨_, doc_s⟩
    | .Expr e pos => if h : notComp e = true then (compE T own n sc e).map fun g => ⟨_, expr_s h g.se⟩ else none
    | .Pass pos => some ⟨_, pass_s⟩
    | .Break pos => some ⟨_, break_s⟩
    | .Continue pos => some ⟨_, cont_s⟩
    | _ => none
/-- the code of a body -/
def codeOf (T : Stc) (own : Pos → Bool) (sc : Scope) (sts : List Stmt) : List CS := match compB (compSt T own sc 60) sts with
  | some g => g.cs
  | none => [.bad]
theorem code_ok {own : Pos → Bool} {sts : List Stmt} : SSs T sc sts (codeOf T own sc sts) := by
  unfold codeOf
  split
  · rename_i g _
    exact g.ss
  · exact bad_s
end
end Co
end

section
set_option linter.all false
set_option maxRecDepth 100000
set_option autoImplicit false
/-! Co22: a law's defs, told together. -/
namespace Co
open PySem PySem.Spec
                        PyProof.Rows L2
/-- a def of the module, as it stands behind the top -/
structure DefIn (K : PySem.W.Frag) (x : Str) (st : Stmt) (fa : Addr) : Prop where
  n : PySem.W.nsIn K mainGlobals x = some (some (.ref fa))
  ex : ∃ (oc : Value) (od : Option Addr) (kV doc pm : Value) (an : Option Addr) (cdv ct : Value) (osl : Array (Option Value)), K.lookup fa = some ⟨oc, od, .func (PySem.W.fnOf x x (defArgs st) (defBody st) (defScope st) .none kV doc pm an cdv ct), osl⟩ ∧ PySem.W.codeIn K cdv x = true
  k : PySem.W.keepIn K (.ref fa) = true
/-- one def of a law, from its text -/
structure One where
  nm : Str
  st : Stmt
  N : List Str
  ps : List Str
  T : Stc
  own : Pos → Bool
  keep : Bool
def One.fn (o : One) : Fn := ⟨o.ps.length, o.N.length, codeOf o.T o.own (defScope o.st) (defBody o.st), o.keep⟩
structure One.Ok (o : One) : Prop where
  sc : FnScope o.N o.ps (defScope o.st)
  N : o.T.N = o.N
  b : ∀ (kV doc pm : Value) (an : Option Addr) (cdv ct : Value) (us : List Value), us.length = o.ps.length → bindArgs (PySem.W.fnOf o.nm o.nm (defArgs o.st) (defBody o.st) (defScope o.st) .none kV doc pm an cdv ct) ⟨us, []⟩ = pure (o.ps.zip us)
/-- .. and by names alone -/
def KwOne (o : One) (ks : List Str) (perm : List Nat) : Prop := ∀ (kV doc pm : Value) (an : Option Addr) (cdv ct : Value) (ws : List Value), ws.length = ks.length → bindArgs (PySem.W.fnOf o.nm o.nm (defArgs o.st) (defBody o.st) (defScope o.st) .none kV doc pm an cdv ct) ⟨[], ks.zip ws⟩ = pure (o.ps.zip (permL perm ws))
def progOf (os : List One) : Prog := ⟨os.map One.fn, []⟩
/-- the law's promise (no classes) -/
theorem law_of {P : Program} {w : World} {K : PySem.W.Frag} {mg : Str → Option Value} {h : Heap} {os : List One} {x : Str} {f : Nat} {fa : Addr} {lo : One} (inK : K.In h) (G : h.Ns mainGlobals mg) (hfa : mg lo.nm = some (.ref fa)) (hf : os[f]? = some lo) (hx : lo.ps = [x])
    (ok : ∀ o ∈ os, o.Ok) (defs : ∀ (i : Nat) (o : One), os[i]? = some o → ∃ a, DefIn K o.nm o.st a)
    (blt : ∀ o ∈ os, ∀ y ∈ o.T.blt, PySem.W.nsIn K mainGlobals y = some none)
    (cst : ∀ o ∈ os, ∀ y v, o.T.cst.lookup y = some v → ∃ u xv, mg y = some u ∧ RelV xv u ∧ ∀ (R : Rg) (H : Hp), Den K (fun _ => 0) R H v xv)
    (fns : ∀ o ∈ os, ∀ y i, o.T.fns.lookup y = some i → ∃ p, os[i]? = some p ∧ p.nm = y) (cls : ∀ o ∈ os, o.T.cls = []) (kwo : ∀ o ∈ os, ∀ i ks perm, (i, ks, perm) ∈ o.T.kws → ∃ p, os[i]? = some p ∧ KwOne p ks perm) (d : Nat) :
    ∃ fd : FuncData, (∀ (s : Shared) (u : Value), BindsTo s fd ⟨[u], []⟩ [(x, u)]) ∧ ∀ base : Heap, K.In base → base.Ns mainGlobals mg → FnG P w K mg base (3 * d + 1) fa fd [x] (spF (progOf os) d K (fun _ => 0) f) := by
  have pick : ∀ i : Nat, ∃ (a : Addr) (fd : FuncData), ∀ o, os[i]? = some o → mg o.nm = some (.ref a) ∧ Fun K o.nm o.nm o.st a fd ∧ Binds K fd o.ps [] ∧ PySem.W.keepIn K (.ref a) = true ∧ ∀ ks perm, KwOne o ks perm → KwB fd o.ps ks perm := fun i => by
    cases e : os[i]? with
    | none => exact ⟨0, Inhabited.default, fun o q => nomatch q⟩
    | some o =>
      obtain ⟨a, D⟩ := defs i o e
      obtain ⟨oc, od, kV, doc, pm, an, cdv, ct, osl, l, c⟩ := D.ex
      have F := fun_mk (st := o.st) l c D.k
      refine ⟨a, PySem.W.fnOf o.nm o.nm (defArgs o.st) (defBody o.st) (defScope o.st) .none kV doc pm an cdv ct, fun p q => ?_⟩
      cases q
      exact ⟨PySem.W.mg_of inK G D.n, F, F.binds (ok o (List.mem_of_getElem? e)).b, D.k, fun ks perm z s ws hl => .of_eq (z kV doc pm an cdv ct ws hl)⟩
  obtain ⟨A, D, hD⟩ : ∃ (A : Nat → Addr) (D : Nat → FuncData), ∀ (i : Nat) (o : One), os[i]? = some o → mg o.nm = some (.ref (A i)) ∧ Fun K o.nm o.nm o.st (A i) (D i) ∧ Binds K (D i) o.ps [] ∧ PySem.W.keepIn K (.ref (A i)) = true ∧ ∀ ks perm, KwOne o ks perm → KwB (D i) o.ps ks perm :=
    ⟨fun i => (pick i).choose, fun i => (pick i).choose_spec.choose, fun i => (pick i).choose_spec.choose_spec⟩
  have hlen : (progOf os).fns.length = os.length := by simp [progOf]
  have good : ∀ i o, os[i]? = some o → i < os.length := fun i o e => (List.getElem?_eq_some_iff.mp e).1
  have main := fun (base : Heap) (hb : K.In base) (hn : base.Ns mainGlobals mg) => fns_ok (P := P) (w := w) (K := K) (mg := mg) (base := base) (C := fun _ => 0) (Pg := progOf os) (A := A) (D := D) (ps := fun i => ((os[i]?).map One.ps).getD [])
    (Fn_ := fun i => ((os[i]?).map One.fn).getD ⟨0, 0, [], false⟩) (X := fun i => ((os[i]?).map One.nm).getD "") (Q_ := fun i => ((os[i]?).map One.nm).getD "") (St := fun i => ((os[i]?).map One.st).getD (.Pass ⟨0, 0, 0, 0⟩)) (Ns := fun i => ((os[i]?).map One.N).getD []) (Ts := fun i => ((os[i]?).map One.T).getD ⟨[], [], [], [], [], [], [], []⟩)
    (fun i hi => by
      rw [hlen] at hi
      have e : os[i]? = some os[i] := List.getElem?_eq_getElem hi
      have m : os[i] ∈ os := List.getElem_mem hi
      obtain ⟨h1, h2, h3, h4, h5⟩ := hD i _ e
      have O := ok _ m
      simp only [e, Option.map_some, Option.getD_some]
      refine ⟨⟨by simp [progOf, e], rfl, rfl, h2, O.sc, O.N, code_ok⟩, ⟨fun y hy => PySem.W.mg_none_of inK G (blt _ m y hy), cst _ m, fun y j hy => ?_, fun j ks perm hy _ => ?_, fun y c hy => ?_, fun c hc => ?_, fun c hc => ?_, fun c cl f hc => ?_, fun c cl f p hc => ?_, fun c cl f p hc => by simp [progOf] at hc, fun _ _ c hc => absurd hc (by simp [progOf]), fun c ks cl fi _ hc => by simp [progOf] at hc⟩⟩
      · obtain ⟨p, ep, rfl⟩ := fns _ m y j hy
        exact ⟨by rw [hlen]; exact good j p ep, (hD j p ep).1⟩
      · obtain ⟨p, ep, z⟩ := kwo _ m j ks perm hy
        have := (hD j p ep).2.2.2.2 ks perm z
        simpa [ep] using this
      · rw [cls _ m] at hy; cases hy
      · exact absurd hc (by simp [progOf])
      · exact absurd hc (by simp [progOf])
      · simp [progOf] at hc
      · simp [progOf] at hc)
    (fun i hi => by
      rw [hlen] at hi
      have e : os[i]? = some os[i] := List.getElem?_eq_getElem hi
      obtain ⟨h1, h2, h3, h4, h5⟩ := hD i _ e
      simp only [e, Option.map_some, Option.getD_some]
      exact ⟨h3, h4⟩)
  obtain ⟨h1, h2, h3, h4, h5⟩ := hD f lo hf
  have efa : A f = fa := by
    rw [hfa] at h1
    cases h1
    rfl
  refine ⟨D f, fun s u => ?_, fun base hb hn => ?_⟩
  · obtain ⟨oc, od, kV, doc, pm, an, cdv, ct, osl, e, _, _⟩ := h2.ex
    rw [e, ← show lo.ps.zip [u] = [(x, u)] by rw [hx]; rfl]
    exact .of_eq ((ok lo (List.mem_of_getElem? hf)).b kV doc pm an cdv ct [u] (by rw [hx]; rfl))
  · have := main base hb hn d f (by rw [hlen]; exact good f lo hf)
    rw [hf] at this
    simp only [Option.map_some, Option.getD_some] at this
    rw [← efa, ← hx]
    exact this
/-- what a law's defs share -/
structure Tab where
  nms : List Str
  cst : List (Str × Val)
  blt : List Str
  own : List (Nat × Nat)
  kws : List (Nat × List Str × List Nat)
def ixs : Nat → List Str → List (Str × Nat)
  | _, [] => []
  | n, x :: r => (x, n) :: ixs (n + 1) r
theorem ixs_at {y : Str} : ∀ {l : List Str} {n i : Nat}, (ixs n l).lookup y = some i → ∃ j, i = n + j ∧ l[j]? = some y
  | [], _, _, h => by cases h
  | x :: r, n, i, h => by
    unfold ixs at h
    rw [List.lookup_cons] at h
    split at h
    · rename_i e
      cases h
      exact ⟨0, rfl, by simp [beq_iff_eq.mp e]⟩
    · obtain ⟨j, h1, h2⟩ := ixs_at h
      exact ⟨j + 1, by omega, by simpa using h2⟩
/-- alt: defs that stand twice, and the one of the two that is meant -/
def Tab.T (t : Tab) (alt : List (Str × Nat)) (N : List Str) : Stc := ⟨N, alt ++ ixs 0 t.nms, [], t.cst, t.blt, [], [], t.kws⟩
def Tab.one (t : Tab) (nm : Str) (st : Stmt) (N ps : List Str) (keep : Bool) (alt : List (Str × Nat)) : One := ⟨nm, st, N, ps, t.T alt N, fun p => t.own.contains (p.line, p.col), keep⟩
def altB (nms : List Str) (alt : List (Str × Nat)) : Bool := alt.all fun p => decide (nms[p.2]? = some p.1)
theorem alt_at {nms : List Str} {y : Str} {i : Nat} : ∀ {alt : List (Str × Nat)}, altB nms alt = true → alt.lookup y = some i → nms[i]? = some y
  | [], _, h => nomatch h
  | (x, j) :: r, b, h => by
    simp only [altB, List.all_cons, Bool.and_eq_true, decide_eq_true_eq] at b
    rw [List.lookup_cons] at h
    split at h
    · rename_i e
      cases h
      rw [b.1, beq_iff_eq.mp e]
    · exact alt_at (alt := r) b.2 h
def AllDefs (K : PySem.W.Frag) : List One → Prop
  | [] => True
  | o :: r => (∃ a, DefIn K o.nm o.st a) ∧ AllDefs K r
theorem AllDefs.get {K : PySem.W.Frag} : ∀ {os : List One} {i : Nat} {o : One}, AllDefs K os → os[i]? = some o → ∃ a, DefIn K o.nm o.st a
  | [], _, _, _, e => by simp at e
  | _ :: _, 0, _, h, e => by cases e; exact h.1
  | _ :: _, i + 1, _, h, e => AllDefs.get (i := i) h.2 (by simpa using e)
def AllOk (t : Tab) : List One → Prop
  | [] => True
  | o :: r => (o.Ok ∧ ∃ alt, o.T = t.T alt o.N ∧ altB t.nms alt = true) ∧ AllOk t r
theorem AllOk.mem {t : Tab} : ∀ {os : List One} {o : One}, AllOk t os → o ∈ os → o.Ok ∧ ∃ alt, o.T = t.T alt o.N ∧ altB t.nms alt = true
  | [], _, _, e => by cases e
  | p :: r, o, h, e => by
    rcases List.mem_cons.mp e with q | q
    · rw [q]; exact h.1
    · exact AllOk.mem h.2 q
def AllNone (K : PySem.W.Frag) : List Str → Prop
  | [] => True
  | y :: r => PySem.W.nsIn K mainGlobals y = some none ∧ AllNone K r
theorem AllNone.mem {K : PySem.W.Frag} : ∀ {l : List Str} {y : Str}, AllNone K l → y ∈ l → PySem.W.nsIn K mainGlobals y = some none
  | [], _, _, e => by cases e
  | p :: r, y, h, e => by
    rcases List.mem_cons.mp e with q | q
    · rw [q]; exact h.1
    · exact AllNone.mem h.2 q
/-- a constant of the module -/
def CstIn (K : PySem.W.Frag) (y : Str) : Val → Prop
  | .int i => ∃ t, PySem.W.nsIn K mainGlobals y = some (some (.int i t))
  | .str x => ∃ t, PySem.W.nsIn K mainGlobals y = some (some (.str x t))
  | .bl b => PySem.W.nsIn K mainGlobals y = some (some (.bool b))
  | _ => False
theorem CstIn.den {K : PySem.W.Frag} {h : Heap} {mg : Str → Option Value} {y : Str} {v : Val} (inK : K.In h) (G : h.Ns mainGlobals mg) (c : CstIn K y v) : ∃ u xv, mg y = some u ∧ RelV xv u ∧ ∀ (R : Rg) (H : Hp), Den K (fun _ => 0) R H v xv := by
  cases v <;> first | exact c.elim | skip
  case int i =>
    obtain ⟨t, e⟩ := c
    exact ⟨_, .int i, PySem.W.mg_of inK G e, ⟨t, rfl⟩, fun _ _ => rfl⟩
  case str i =>
    obtain ⟨t, e⟩ := c
    exact ⟨_, .str i, PySem.W.mg_of inK G e, ⟨t, rfl⟩, fun _ _ => rfl⟩
  case bl i => exact ⟨_, .bl i, PySem.W.mg_of inK G c, rfl, fun _ _ => rfl⟩
def AllCst (K : PySem.W.Frag) : List (Str × Val) → Prop
  | [] => True
  | (y, v) :: r => CstIn K y v ∧ AllCst K r
theorem AllCst.get {K : PySem.W.Frag} : ∀ {l : List (Str × Val)} {y : Str} {v : Val}, AllCst K l → l.lookup y = some v → CstIn K y v
  | [], _, _, _, e => by cases e
  | (z, u) :: r, y, v, h, e => by
    rw [List.lookup_cons] at e
    split at e
    · rename_i q
      cases e
      rw [beq_iff_eq.mp q]
      exact h.1
    · exact AllCst.get h.2 e
def AllKw (os : List One) : List (Nat × List Str × List Nat) → Prop
  | [] => True
  | (i, ks, perm) :: r => (∃ o, os[i]? = some o ∧ KwOne o ks perm) ∧ AllKw os r
theorem AllKw.get {os : List One} : ∀ {l : List (Nat × List Str × List Nat)} {i : Nat} {ks : List Str} {perm : List Nat}, AllKw os l → (i, ks, perm) ∈ l → ∃ o, os[i]? = some o ∧ KwOne o ks perm
  | [], _, _, _, _, m => by cases m
  | (j, qs, p) :: r, i, ks, perm, h, m => by
    rcases List.mem_cons.mp m with q | q
    · cases q; exact h.1
    · exact AllKw.get h.2 q
theorem law_tab {P : Program} {w : World} {K : PySem.W.Frag} {mg : Str → Option Value} {h : Heap} {t : Tab} {os : List One} {x : Str} {f : Nat} {fa : Addr} {lo : One} (inK : K.In h) (G : h.Ns mainGlobals mg) (hfa : mg lo.nm = some (.ref fa)) (hf : os[f]? = some lo) (hx : lo.ps = [x]) (nms : os.map One.nm = t.nms) (ok : AllOk t os) (kwo : AllKw os t.kws)
    (defs : AllDefs K os) (blt : AllNone K t.blt) (cst : AllCst K t.cst) (d : Nat) :
    ∃ fd : FuncData, (∀ (s : Shared) (u : Value), BindsTo s fd ⟨[u], []⟩ [(x, u)]) ∧ ∀ base : Heap, K.In base → base.Ns mainGlobals mg → FnG P w K mg base (3 * d + 1) fa fd [x] (spF (progOf os) d K (fun _ => 0) f) := by
  refine law_of inK G hfa hf hx (fun o m => (ok.mem m).1) (fun i o e => defs.get e) (fun o m y hy => ?_) (fun o m y v e => ?_) (fun o m y i e => ?_) (fun o m => ?_) (fun o m i ks perm e => ?_) d
  · obtain ⟨_, alt, eT, _⟩ := ok.mem m
    rw [eT] at hy
    exact blt.mem hy
  · obtain ⟨_, alt, eT, _⟩ := ok.mem m
    rw [eT] at e
    exact (cst.get e).den inK G
  · obtain ⟨_, alt, eT, hA⟩ := ok.mem m
    rw [eT] at e
    have e : (alt ++ ixs 0 t.nms).lookup y = some i := e
    have hi : t.nms[i]? = some y := by
      rw [List.lookup_append] at e
      cases q : alt.lookup y with
      | some j =>
        rw [q] at e
        cases e
        exact alt_at hA q
      | none =>
        rw [q] at e
        obtain ⟨j, rfl, hj⟩ := ixs_at (show (ixs 0 t.nms).lookup y = some i from e)
        rw [Nat.zero_add]
        exact hj
    rw [← nms, List.getElem?_map, Option.map_eq_some_iff] at hi
    exact hi
  · obtain ⟨_, alt, eT, _⟩ := ok.mem m
    rw [eT]
    rfl
  · obtain ⟨_, alt, eT, _⟩ := ok.mem m
    rw [eT] at e
    exact kwo.get e
theorem def_mk {K : PySem.W.Frag} {x : Str} {st : Stmt} {fa : Addr} {oc : Value} {od : Option Addr} {kV doc pm : Value} {an : Option Addr} {cdv ct : Value} {osl : Array (Option Value)} (a : PySem.W.nsIn K mainGlobals x = some (some (.ref fa)))
    (l : K.lookup fa = some ⟨oc, od, .func (PySem.W.fnOf x x (defArgs st) (defBody st) (defScope st) .none kV doc pm an cdv ct), osl⟩) (c : PySem.W.codeIn K cdv x = true) (k : PySem.W.keepIn K (.ref fa) = true) : ∃ a, DefIn K x st a :=
  ⟨fa, a, ⟨oc, od, kV, doc, pm, an, cdv, ct, osl, l, c⟩, k⟩
theorem cst_int {K : PySem.W.Frag} {y : Str} {i : Int} {t : Tok} (e : PySem.W.nsIn K mainGlobals y = some (some (.int i t))) : CstIn K y (.int i) := ⟨t, e⟩
theorem cst_str {K : PySem.W.Frag} {y : Str} {i : Str} {t : Tok} (e : PySem.W.nsIn K mainGlobals y = some (some (.str i t))) : CstIn K y (.str i) := ⟨t, e⟩
theorem cst_bl {K : PySem.W.Frag} {y : Str} {i : Bool} (e : PySem.W.nsIn K mainGlobals y = some (some (.bool i))) : CstIn K y (.bl i) := e
end Co
end

section
set_option linter.all false
set_option maxRecDepth 100000
set_option autoImplicit false
/-! Co23: a law's defs and classes, told together. -/
namespace Co
open PySem PySem.Spec
                        PyProof.Rows L2
/-- a def at its address -/
structure DefAt (K : PySem.W.Frag) (x q : Str) (st : Stmt) (fa : Addr) : Prop where
  ex : ∃ (oc : Value) (od : Option Addr) (kV doc pm : Value) (an : Option Addr) (cdv ct : Value) (osl : Array (Option Value)), K.lookup fa = some ⟨oc, od, .func (PySem.W.fnOf x q (defArgs st) (defBody st) (defScope st) .none kV doc pm an cdv ct), osl⟩ ∧ PySem.W.codeIn K cdv q = true
  k : PySem.W.keepIn K (.ref fa) = true
/-- one def, of the module or of a class -/
structure OneC where
  nm : Str
  q : Str
  glob : Bool
  st : Stmt
  N : List Str
  ps : List Str
  T : Stc
  own : Pos → Bool
  keep : Bool
def OneC.fn (o : OneC) : Fn := ⟨o.ps.length, o.N.length, codeOf o.T o.own (defScope o.st) (defBody o.st), o.keep⟩
structure OneC.Ok (o : OneC) : Prop where
  sc : FnScope o.N o.ps (defScope o.st)
  N : o.T.N = o.N
  b : ∀ (kV doc pm : Value) (an : Option Addr) (cdv ct : Value) (us : List Value), us.length = o.ps.length → bindArgs (PySem.W.fnOf o.nm o.q (defArgs o.st) (defBody o.st) (defScope o.st) .none kV doc pm an cdv ct) ⟨us, []⟩ = pure (o.ps.zip us)
def KwOneC (o : OneC) (ks : List Str) (perm : List Nat) : Prop := ∀ (kV doc pm : Value) (an : Option Addr) (cdv ct : Value) (ws : List Value), ws.length = ks.length → bindArgs (PySem.W.fnOf o.nm o.q (defArgs o.st) (defBody o.st) (defScope o.st) .none kV doc pm an cdv ct) ⟨[], ks.zip ws⟩ = pure (o.ps.zip (permL perm ws))
def KwIOne (o : OneC) (ks : List Str) : Prop := ∀ (kV doc pm : Value) (an : Option Addr) (cdv ct x : Value) (ws : List Value), ws.length = ks.length → bindArgs (PySem.W.fnOf o.nm o.q (defArgs o.st) (defBody o.st) (defScope o.st) .none kV doc pm an cdv ct) ⟨[x], ks.zip ws⟩ = pure (o.ps.zip (x :: ws))
def progC (os : List OneC) (cls : List Cl) : Prog := ⟨os.map OneC.fn, cls⟩
/-- a class at its address -/
structure ClIn (K : PySem.W.Frag) (C A : Nat → Addr) (n : Nat) (flds : List Str) (c : Nat) (cl : Cl) : Prop where
  ty : ∀ t ∈ tyNames, PySem.W.kitOne K (.type t) (.ref (C c)) = some false
  own : ∀ d, d < n → PySem.W.kitOne K (.ref (C d)) (.ref (C c)) = some (decide (d = c))
  k : ClsK K C c
  isb : ∀ t ∈ tyNames, PySem.W.kitOne K (.ref (C c)) (.type t) = some false
  made : ∀ fi, cl.init = some fi → Mk K (C c) (A fi)
  noat : ∀ f ∈ flds, tab cl.props f = none → tab cl.meths f = none → NoAttr K (C c) f
  prs : ∀ f p, tab cl.props f = some p → ∃ pa, PropOf K (C c) f pa (A p)
  sps : ∀ f p, tab cl.meths f = some p → SpOf K (C c) f (A p)
  nob : ("__bool__" : Str) ∈ flds → ("__len__" : Str) ∈ flds → NoAttr K (C c) "__bool__" ∧ NoAttr K (C c) "__len__"
theorem law_ofC {P : Program} {w : World} {K : PySem.W.Frag} {mg : Str → Option Value} {h : Heap} {os : List OneC} {cls : List Cl} {flds : List Str} {A C : Nat → Addr} {x : Str} {f : Nat} {fa : Addr} {lo : OneC} (inK : K.In h) (G : h.Ns mainGlobals mg) (hfa : mg lo.nm = some (.ref fa)) (hf : os[f]? = some lo) (hgl : lo.glob = true) (hx : lo.ps = [x])
    (ok : ∀ o ∈ os, o.Ok) (defs : ∀ (i : Nat) (o : OneC), os[i]? = some o → DefAt K o.nm o.q o.st (A i) ∧ (o.glob = true → PySem.W.nsIn K mainGlobals o.nm = some (some (.ref (A i)))))
    (blt : ∀ o ∈ os, ∀ y ∈ o.T.blt, PySem.W.nsIn K mainGlobals y = some none)
    (cst : ∀ o ∈ os, ∀ y v, o.T.cst.lookup y = some v → ∃ u xv, mg y = some u ∧ RelV xv u ∧ ∀ (R : Rg) (H : Hp), Den K C R H v xv)
    (fns : ∀ o ∈ os, ∀ y i, o.T.fns.lookup y = some i → ∃ p, os[i]? = some p ∧ p.nm = y ∧ p.glob = true)
    (cl1 : ∀ o ∈ os, ∀ y c, o.T.cls.lookup y = some c → c < cls.length ∧ PySem.W.nsIn K mainGlobals y = some (some (.ref (C c))) ∧ (c ∈ o.T.mks → ∃ cl fi, cls[c]? = some cl ∧ cl.init = some fi ∧ fi < os.length))
    (fl1 : ∀ o ∈ os, ∀ f ∈ o.T.flds, f ∈ flds) (cin : ∀ c cl, cls[c]? = some cl → ClIn K C A cls.length flds c cl) (prl : ∀ (c : Nat) (cl : Cl) (f : Str) (p : Nat), cls[c]? = some cl → tab cl.props f = some p → p < os.length)
    (mel : ∀ (c : Nat) (cl : Cl) (f : Str) (p : Nat), cls[c]? = some cl → tab cl.meths f = some p → p < os.length)
    (kwo : ∀ o ∈ os, ∀ i ks perm, (i, ks, perm) ∈ o.T.kws → perm ≠ [] → ∃ p, os[i]? = some p ∧ KwOneC p ks perm) (mkwo : ∀ o ∈ os, ∀ c ks cl fi, (c, ks, []) ∈ o.T.kws → cls[c]? = some cl → cl.init = some fi → ∃ p, os[fi]? = some p ∧ KwIOne p ks) (d : Nat) :
    ∃ fd : FuncData, (∀ (s : Shared) (u : Value), BindsTo s fd ⟨[u], []⟩ [(x, u)]) ∧ ∀ base : Heap, K.In base → base.Ns mainGlobals mg → FnG P w K mg base (3 * d + 1) fa fd [x] (spF (progC os cls) d K C f) := by
  have pick : ∀ i : Nat, ∃ (fd : FuncData), ∀ o, os[i]? = some o → Fun K o.nm o.q o.st (A i) fd ∧ Binds K fd o.ps [] ∧ PySem.W.keepIn K (.ref (A i)) = true ∧ (∀ ks perm, KwOneC o ks perm → KwB fd o.ps ks perm) ∧ ∀ ks, KwIOne o ks → KwI fd o.ps ks := fun i => by
    cases e : os[i]? with
    | none => exact ⟨Inhabited.default, fun o q => nomatch q⟩
    | some o =>
      obtain ⟨D, _⟩ := defs i o e
      obtain ⟨oc, od, kV, doc, pm, an, cdv, ct, osl, l, c⟩ := D.ex
      have F := fun_mk (st := o.st) l c D.k
      refine ⟨PySem.W.fnOf o.nm o.q (defArgs o.st) (defBody o.st) (defScope o.st) .none kV doc pm an cdv ct, fun p q => ?_⟩
      cases q
      exact ⟨F, F.binds (ok o (List.mem_of_getElem? e)).b, D.k, fun ks perm z s ws hl => .of_eq (z kV doc pm an cdv ct ws hl), fun ks z s x ws hl => .of_eq (z kV doc pm an cdv ct x ws hl)⟩
  obtain ⟨D, hD⟩ : ∃ (D : Nat → FuncData), ∀ (i : Nat) (o : OneC), os[i]? = some o → Fun K o.nm o.q o.st (A i) (D i) ∧ Binds K (D i) o.ps [] ∧ PySem.W.keepIn K (.ref (A i)) = true ∧ (∀ ks perm, KwOneC o ks perm → KwB (D i) o.ps ks perm) ∧ ∀ ks, KwIOne o ks → KwI (D i) o.ps ks :=
    ⟨fun i => (pick i).choose, fun i => (pick i).choose_spec⟩
  have hlen : (progC os cls).fns.length = os.length := by simp [progC]
  have good : ∀ i o, os[i]? = some o → i < os.length := fun i o e => (List.getElem?_eq_some_iff.mp e).1
  have main := fun (base : Heap) (hb : K.In base) (hn : base.Ns mainGlobals mg) => fns_ok (P := P) (w := w) (K := K) (mg := mg) (base := base) (C := C) (Pg := progC os cls) (A := A) (D := D) (ps := fun i => ((os[i]?).map OneC.ps).getD [])
    (Fn_ := fun i => ((os[i]?).map OneC.fn).getD ⟨0, 0, [], false⟩) (X := fun i => ((os[i]?).map OneC.nm).getD "") (Q_ := fun i => ((os[i]?).map OneC.q).getD "") (St := fun i => ((os[i]?).map OneC.st).getD (.Pass ⟨0, 0, 0, 0⟩)) (Ns := fun i => ((os[i]?).map OneC.N).getD []) (Ts := fun i => ((os[i]?).map OneC.T).getD ⟨[], [], [], [], [], [], [], []⟩)
    (fun i hi => by
      rw [hlen] at hi
      have e : os[i]? = some os[i] := List.getElem?_eq_getElem hi
      have m : os[i] ∈ os := List.getElem_mem hi
      obtain ⟨h2, h3, h4, h5⟩ := hD i _ e
      have O := ok _ m
      simp only [e, Option.map_some, Option.getD_some]
      refine ⟨⟨by simp [progC, e], rfl, rfl, h2, O.sc, O.N, code_ok⟩, ⟨fun y hy => PySem.W.mg_none_of inK G (blt _ m y hy), cst _ m, fun y j hy => ?_, fun j ks perm hy hpm => ?_, fun y c hy => ?_, fun c hc => ?_, fun c hc => ?_, fun c cl f hc => ?_, fun c cl f p hc hp => ?_, fun c cl f p hc hp => ?_, fun b1 b2 c hc => ?_, fun c ks cl fi hk hc hi => ?_⟩⟩
      · obtain ⟨p, ep, rfl, gp⟩ := fns _ m y j hy
        exact ⟨by rw [hlen]; exact good j p ep, PySem.W.mg_of inK G ((defs j p ep).2 gp)⟩
      · obtain ⟨p, ep, z⟩ := kwo _ m j ks perm hy hpm
        have := (hD j p ep).2.2.2.1 ks perm z
        simpa [ep] using this
      · obtain ⟨lc, hn, hm⟩ := cl1 _ m y c hy
        have ec : cls[c]? = some cls[c] := List.getElem?_eq_getElem lc
        have I := cin c _ ec
        refine ⟨PySem.W.mg_of inK G hn, lc, I.ty, I.own, fun mm => ?_⟩
        obtain ⟨cl, fi, e1, e2, e3⟩ := hm mm
        exact ⟨cl, fi, e1, e2, by rw [hlen]; exact e3, (cin c cl e1).made fi e2⟩
      · exact (cin c _ (List.getElem?_eq_getElem hc)).k
      · exact (cin c _ (List.getElem?_eq_getElem hc)).isb
      · exact fun hfl hp hm => (cin c cl hc).noat f (fl1 _ m f hfl) hp hm
      · exact ⟨by rw [hlen]; exact prl c cl f p hc hp, (cin c cl hc).prs f p hp⟩
      · exact ⟨by rw [hlen]; exact mel c cl f p hc hp, (cin c cl hc).sps f p hp, (cin c cl hc).ty, fun d hd => (cin c cl hc).own d hd⟩
      · exact (cin c _ (List.getElem?_eq_getElem hc)).nob (fl1 _ m _ b1) (fl1 _ m _ b2)
      · obtain ⟨p, ep, z⟩ := mkwo _ m c ks cl fi hk hc hi
        have := (hD fi p ep).2.2.2.2 ks z
        simpa [ep] using this)
    (fun i hi => by
      rw [hlen] at hi
      have e : os[i]? = some os[i] := List.getElem?_eq_getElem hi
      obtain ⟨h2, h3, h4, h5⟩ := hD i _ e
      simp only [e, Option.map_some, Option.getD_some]
      exact ⟨h3, h4⟩)
  obtain ⟨h2, h3, h4, h5⟩ := hD f lo hf
  have efa : A f = fa := by
    have h1 := PySem.W.mg_of inK G ((defs f lo hf).2 hgl)
    rw [hfa] at h1
    cases h1
    rfl
  refine ⟨D f, fun s u => ?_, fun base hb hn => ?_⟩
  · obtain ⟨oc, od, kV, doc, pm, an, cdv, ct, osl, e, _, _⟩ := h2.ex
    rw [e, ← show lo.ps.zip [u] = [(x, u)] by rw [hx]; rfl]
    exact .of_eq ((ok lo (List.mem_of_getElem? hf)).b kV doc pm an cdv ct [u] (by rw [hx]; rfl))
  · have := main base hb hn d f (by rw [hlen]; exact good f lo hf)
    rw [hf] at this
    simp only [Option.map_some, Option.getD_some] at this
    rw [← efa, ← hx]
    exact this
theorem walkC {l : PySem.W.OpenLaw} {n d f : Nat} {q : Program} {loose : List Str} {XP : (Str → Option Value) → Heap → Prop} {YP : World → Heap → Prop} {dr : DefRec} {K : Params → PySem.W.Frag} {x : Str} {Pg : Prog}
    (hn : l.most = some n) (hn2 : n ≤ sizeLine) (hdf : dr.params.defaults = []) (hr : Room (3 * d + 1) callerA) (hY : ∀ (w : World) (h : Heap), YP w h → (K w.params).In h)
    (F : ∀ (w : World) (mg : Str → Option Value) (fa : Addr) (h : Heap), (K w.params).In h → h.Ns mainGlobals mg → mg dr.name = some (.ref fa) →
      ∃ (C : Nat → Addr) (fd : FuncData), (∀ (s : Shared) (u : Value), BindsTo s fd ⟨[u], []⟩ [(x, u)]) ∧ ∀ base : Heap, (K w.params).In base → base.Ns mainGlobals mg → FnG l.prog w (K w.params) mg base (3 * d + 1) fa fd [x] (spF Pg d (K w.params) C f))
    (run : ∀ ns : List Int, ns.length ≤ n → (∀ z ∈ ns, Builtin.Int.intBits z ≤ 1048576) → ∃ h, runF Pg d f [.ro (ns.map .int)] [] = .ok (.bl true) h) : PySem.W.WalkO q loose XP YP l.row.toRowW dr [] (fun f vs => PySem.call f vs) := by
  refine Att.attach_callB hn hdf
                          fun w s₀ s₁ mg mb fa o pm cd doc a vs ns G Y ho hd hcd hmg hobj hints hlen hbits hg => ?_
  have inK := hY w _ Y
  obtain ⟨C, fd, hb, hF⟩ := F w mg fa _ inK G.T.g hmg
  refine lawCall inK G.T.g G.T.b G.T.builtins G.T.nolimit hg hobj hints (Nat.le_trans hlen hn2) hr hF hb fun H hO hS => ?_
  obtain ⟨h', e⟩ := run ns hlen hbits
  have aR : a ∉ (⟨[], []⟩ : Rg) := by
    rintro (z | z) <;> cases z
  refine ⟨[], 0, ⟨[], []⟩, [], [.ro (ns.map .int)], .bl true, h', ⟨rfl, .nil, by simp, fun n o a e => by simp at e, by simp, by simp, by simp⟩, Nat.le_refl _, ⟨_, [], rfl, ⟨a, ns.map V.int, rfl, ⟨by rw [List.length_map]; exact Nat.le_trans hlen hn2, ?_⟩, DenL.ofInts ns⟩, rfl⟩, e, fun R' H' y X' S' dy => dy⟩
  rcases hS with z | z
  · exact .inl ⟨z, aR⟩
  · exact .inr z
end Co
end

section
set_option linter.all false
set_option maxRecDepth 100000
set_option autoImplicit false
/-! Co24: the table of a law with classes. -/
namespace Co
open PySem PySem.Spec
                        PyProof.Rows L2
inductive Role where
  | glob
  | init (c : Nat)
  | prop (c : Nat) (f : Str)
  | meth (c : Nat) (f : Str)
def Role.isG : Role → Bool
  | .glob => true
  | _ => false
def RoleOk (K : PySem.W.Frag) (C : Nat → Addr) (nm : Str) (a : Addr) : Role → Prop
  | .glob => PySem.W.nsIn K mainGlobals nm = some (some (.ref a))
  | .init c => Mk K (C c) a
  | .prop c f => ∃ pa, PropOf K (C c) f pa a
  | .meth c f => SpOf K (C c) f a
structure TabC where
  nms : List Str
  cls : List (Str × Nat)
  mks : List Nat
  flds : List Str
  cst : List (Str × Val)
  blt : List Str
  own : List (Nat × Nat)
  kws : List (Nat × List Str × List Nat)
def TabC.T (t : TabC) (alt : List (Str × Nat)) (N : List Str) : Stc := ⟨N, alt ++ ixs 0 t.nms, t.cls, t.cst, t.blt, t.mks, t.flds, t.kws⟩
def TabC.one (t : TabC) (nm q : Str) (ro : Role) (st : Stmt) (N ps : List Str) (keep : Bool) (alt : List (Str × Nat)) : OneC := ⟨nm, q, ro.isG, st, N, ps, t.T alt N, fun p => t.own.contains (p.line, p.col), keep⟩
def AllDefsC (K : PySem.W.Frag) (C : Nat → Addr) : List OneC → List Role → Prop
  | [], [] => True
  | o :: r, ro :: rs => (o.glob = ro.isG ∧ ∃ a, DefAt K o.nm o.q o.st a ∧ RoleOk K C o.nm a ro) ∧ AllDefsC K C r rs
  | _, _ => False
theorem AllDefsC.get {K : PySem.W.Frag} {C : Nat → Addr} : ∀ {os : List OneC} {rs : List Role} {i : Nat} {o : OneC}, AllDefsC K C os rs → os[i]? = some o → ∃ ro, rs[i]? = some ro ∧ o.glob = ro.isG ∧ ∃ a, DefAt K o.nm o.q o.st a ∧ RoleOk K C o.nm a ro
  | [], _, _, _, _, e => by simp at e
  | _ :: _, [], _, _, h, _ => h.elim
  | _ :: _, ro :: _, 0, _, h, e => by cases e; exact ⟨ro, rfl, h.1⟩
  | _ :: _, _ :: _, i + 1, _, h, e => AllDefsC.get (i := i) h.2 (by simpa using e)
def AllOkC (t : TabC) : List OneC → Prop
  | [] => True
  | o :: r => (o.Ok ∧ ∃ alt, o.T = t.T alt o.N ∧ altB t.nms alt = true) ∧ AllOkC t r
theorem AllOkC.mem {t : TabC} : ∀ {os : List OneC} {o : OneC}, AllOkC t os → o ∈ os → o.Ok ∧ ∃ alt, o.T = t.T alt o.N ∧ altB t.nms alt = true
  | [], _, _, e => by cases e
  | p :: r, o, h, e => by
    rcases List.mem_cons.mp e with q | q
    · rw [q]; exact h.1
    · exact AllOkC.mem h.2 q
def KwAt (os : List OneC) (cls : List Cl) (i : Nat) (ks : List Str) : List Nat → Prop
  | [] => ∃ cl fi o, cls[i]? = some cl ∧ cl.init = some fi ∧ os[fi]? = some o ∧ KwIOne o ks
  | p :: ps => ∃ o, os[i]? = some o ∧ KwOneC o ks (p :: ps)
def AllKwC (os : List OneC) (cls : List Cl) : List (Nat × List Str × List Nat) → Prop
  | [] => True
  | (i, ks, perm) :: r => KwAt os cls i ks perm ∧ AllKwC os cls r
theorem AllKwC.get {os : List OneC} {cls : List Cl} : ∀ {l : List (Nat × List Str × List Nat)} {i : Nat} {ks : List Str} {perm : List Nat}, AllKwC os cls l → (i, ks, perm) ∈ l → KwAt os cls i ks perm
  | [], _, _, _, _, m => by cases m
  | (j, qs, p) :: r, i, ks, perm, h, m => by
    rcases List.mem_cons.mp m with q | q
    · cases q; exact h.1
    · exact AllKwC.get h.2 q
theorem CstIn.denC {K : PySem.W.Frag} {C : Nat → Addr} {h : Heap} {mg : Str → Option Value} {y : Str} {v : Val} (inK : K.In h) (G : h.Ns mainGlobals mg) (c : CstIn K y v) : ∃ u xv, mg y = some u ∧ RelV xv u ∧ ∀ (R : Rg) (H : Hp), Den K C R H v xv := by
  cases v <;> first | exact c.elim | skip
  case int i =>
    obtain ⟨t, e⟩ := c
    exact ⟨_, .int i, PySem.W.mg_of inK G e, ⟨t, rfl⟩, fun _ _ => rfl⟩
  case str i =>
    obtain ⟨t, e⟩ := c
    exact ⟨_, .str i, PySem.W.mg_of inK G e, ⟨t, rfl⟩, fun _ _ => rfl⟩
  case bl i => exact ⟨_, .bl i, PySem.W.mg_of inK G c, rfl, fun _ _ => rfl⟩
/-- what the state tells of a class, its defs aside -/
structure ClFacts (K : PySem.W.Frag) (C : Nat → Addr) (n : Nat) (flds : List Str) (c : Nat) (cl : Cl) : Prop where
  ty : ∀ t ∈ tyNames, PySem.W.kitOne K (.type t) (.ref (C c)) = some false
  own : ∀ d, d < n → PySem.W.kitOne K (.ref (C d)) (.ref (C c)) = some (decide (d = c))
  k : ClsK K C c
  isb : ∀ t ∈ tyNames, PySem.W.kitOne K (.ref (C c)) (.type t) = some false
  noat : ∀ f ∈ flds, tab cl.props f = none → tab cl.meths f = none → NoAttr K (C c) f
/-- truth and length are not told by the class -/
def NoB (flds : List Str) (cl : Cl) : Prop := ("__bool__" : Str) ∈ flds → ("__len__" : Str) ∈ flds → (tab cl.props "__bool__" = none ∧ tab cl.meths "__bool__" = none) ∧ tab cl.props "__len__" = none ∧ tab cl.meths "__len__" = none
def AllCls (K : PySem.W.Frag) (C : Nat → Addr) (n : Nat) (flds : List Str) : Nat → List Cl → Prop
  | _, [] => True
  | c, cl :: r => ClFacts K C n flds c cl ∧ AllCls K C n flds (c + 1) r
theorem AllCls.get {K : PySem.W.Frag} {C : Nat → Addr} {n : Nat} {flds : List Str} : ∀ {l : List Cl} {k c : Nat} {cl : Cl}, AllCls K C n flds k l → l[c]? = some cl → ClFacts K C n flds (k + c) cl
  | [], _, _, _, _, e => by simp at e
  | _ :: _, k, 0, _, h, e => by cases e; exact h.1
  | _ :: _, k, c + 1, _, h, e => by
    have := AllCls.get (c := c) h.2 (by simpa using e)
    rwa [show k + (c + 1) = k + 1 + c by omega]
def AllNm (K : PySem.W.Frag) (C : Nat → Addr) (n : Nat) : List (Str × Nat) → Prop
  | [] => True
  | (y, c) :: r => (c < n ∧ PySem.W.nsIn K mainGlobals y = some (some (.ref (C c)))) ∧ AllNm K C n r
theorem AllNm.get {K : PySem.W.Frag} {C : Nat → Addr} {n : Nat} : ∀ {l : List (Str × Nat)} {y : Str} {c : Nat}, AllNm K C n l → l.lookup y = some c → c < n ∧ PySem.W.nsIn K mainGlobals y = some (some (.ref (C c)))
  | [], _, _, _, e => by cases e
  | (z, u) :: r, y, v, h, e => by
    rw [List.lookup_cons] at e
    split at e
    · rename_i q
      cases e
      rw [beq_iff_eq.mp q]
      exact h.1
    · exact AllNm.get h.2 e
/-- the classes' defs stand where they should -/
def Placed (rs : List Role) (mks : List Nat) (flds : List Str) (cls : List Cl) : Prop :=
  (∀ cl ∈ cls, NoB flds cl) ∧   (∀ (c : Nat) (cl : Cl) (fi : Nat), cls[c]? = some cl → cl.init = some fi → rs[fi]? = some (.init c)) ∧ (∀ (c : Nat) (cl : Cl) (f : Str) (p : Nat), cls[c]? = some cl → tab cl.props f = some p → rs[p]? = some (.prop c f)) ∧ (∀ (c : Nat) (cl : Cl) (f : Str) (p : Nat), cls[c]? = some cl → tab cl.meths f = some p → rs[p]? = some (.meth c f)) ∧ ∀ c ∈ mks, ∃ (cl : Cl) (fi : Nat), cls[c]? = some cl ∧ cl.init = some fi
theorem law_tabC {P : Program} {w : World} {K : PySem.W.Frag} {mg : Str → Option Value} {h : Heap} {t : TabC} {os : List OneC} {rs : List Role} {cls : List Cl} {x : Str} {f : Nat} {fa : Addr} {lo : OneC} (inK : K.In h) (G : h.Ns mainGlobals mg) (hfa : mg lo.nm = some (.ref fa)) (hf : os[f]? = some lo) (hgl : lo.glob = true) (hx : lo.ps = [x]) (nms : ((os.map OneC.nm).take t.nms.length) = t.nms) (gl : (os.take t.nms.length).all OneC.glob = true) (ok : AllOkC t os) (kwo : AllKwC os cls t.kws)
    (pl : Placed rs t.mks t.flds cls) (lr : rs.length = os.length) (F : ∃ C : Nat → Addr, AllNm K C cls.length t.cls ∧ AllCls K C cls.length t.flds 0 cls ∧ AllDefsC K C os rs) (blt : AllNone K t.blt) (cst : AllCst K t.cst) (d : Nat) :
    ∃ (C : Nat → Addr) (fd : FuncData), (∀ (s : Shared) (u : Value), BindsTo s fd ⟨[u], []⟩ [(x, u)]) ∧ ∀ base : Heap, K.In base → base.Ns mainGlobals mg → FnG P w K mg base (3 * d + 1) fa fd [x] (spF (progC os cls) d K C f) := by
  obtain ⟨C, hn, hc, defs⟩ := F
  have pick : ∀ i : Nat, ∃ a : Addr, ∀ o ro, os[i]? = some o → rs[i]? = some ro → o.glob = ro.isG ∧ DefAt K o.nm o.q o.st a ∧ RoleOk K C o.nm a ro := fun i => by
    cases e : os[i]? with
    | none => exact ⟨0, fun o ro q => nomatch q⟩
    | some o =>
      obtain ⟨ro, e1, e2, a, D, q⟩ := defs.get e
      refine ⟨a, fun o' ro' q1 q2 => ?_⟩
      cases q1
      rw [e1] at q2; cases q2
      exact ⟨e2, D, q⟩
  obtain ⟨A, hA⟩ : ∃ A : Nat → Addr, ∀ i o ro, os[i]? = some o → rs[i]? = some ro → o.glob = ro.isG ∧ DefAt K o.nm o.q o.st (A i) ∧ RoleOk K C o.nm (A i) ro := ⟨fun i => (pick i).choose, fun i => (pick i).choose_spec⟩
  have rat : ∀ i o, os[i]? = some o → ∃ ro, rs[i]? = some ro := fun i o e => ⟨_, List.getElem?_eq_getElem (by rw [lr]; exact (List.getElem?_eq_some_iff.mp e).1)⟩
  have oat : ∀ i ro, rs[i]? = some ro → ∃ o, os[i]? = some o := fun i ro e => ⟨_, List.getElem?_eq_getElem (by rw [← lr]; exact (List.getElem?_eq_some_iff.mp e).1)⟩
  refine ⟨C, law_ofC (A := A) (flds := t.flds) inK G hfa hf hgl hx (fun o m => (ok.mem m).1) (fun i o e => ?_) (fun o m y hy => ?_) (fun o m y v e => ?_) (fun o m y i e => ?_) (fun o m y c e => ?_) (fun o m g hg => ?_) (fun c cl e => ?_) (fun c cl g p e1 e2 => ?_) (fun c cl g p e1 e2 => ?_) (fun o m i ks perm e hpm => ?_) (fun o m c ks cl fi e hc hi => ?_) d⟩
  · obtain ⟨ro, er⟩ := rat i o e
    obtain ⟨h1, h2, h3⟩ := hA i o ro e er
    refine ⟨h2, fun hg => ?_⟩
    rw [h1] at hg
    cases ro <;> first | exact h3 | cases hg
  · obtain ⟨_, alt, eT, _⟩ := ok.mem m
    rw [eT] at hy
    exact blt.mem hy
  · obtain ⟨_, alt, eT, _⟩ := ok.mem m
    rw [eT] at e
    exact (cst.get e).denC inK G
  · obtain ⟨_, alt, eT, hAl⟩ := ok.mem m
    rw [eT] at e
    have e : (alt ++ ixs 0 t.nms).lookup y = some i := e
    have hi : t.nms[i]? = some y := by
      rw [List.lookup_append] at e
      cases q : alt.lookup y with
      | some j =>
        rw [q] at e
        cases e
        exact alt_at hAl q
      | none =>
        rw [q] at e
        obtain ⟨j, rfl, hj⟩ := ixs_at (show (ixs 0 t.nms).lookup y = some i from e)
        rw [Nat.zero_add]
        exact hj
    have il : i < t.nms.length := (List.getElem?_eq_some_iff.mp hi).1
    rw [← nms, List.getElem?_take_of_lt il, List.getElem?_map, Option.map_eq_some_iff] at hi
    obtain ⟨p, ep, rfl⟩ := hi
    refine ⟨p, ep, rfl, ?_⟩
    exact List.all_eq_true.mp gl p (List.mem_of_getElem? (i := i) (by rw [List.getElem?_take_of_lt il]; exact ep))
  · obtain ⟨_, alt, eT, _⟩ := ok.mem m
    rw [eT] at e ⊢
    obtain ⟨h1, h2⟩ := hn.get e
    refine ⟨h1, h2, fun mm => ?_⟩
    obtain ⟨cl, fi, e1, e2⟩ := pl.2.2.2.2 c mm
    exact ⟨cl, fi, e1, e2, by rw [← lr]; exact (List.getElem?_eq_some_iff.mp (pl.2.1 c cl fi e1 e2)).1⟩
  · obtain ⟨_, alt, eT, _⟩ := ok.mem m
    rw [eT] at hg
    exact hg
  · have I := hc.get e
    rw [Nat.zero_add] at I
    refine ⟨I.ty, I.own, I.k, I.isb, fun fi ei => ?_, I.noat, fun g p ep => ?_, fun g p ep => ?_, fun b1 b2 => ?_⟩
    · have er := pl.2.1 c cl fi e ei
      obtain ⟨o, eo⟩ := oat fi _ er
      exact (hA fi o _ eo er).2.2
    · have er := pl.2.2.1 c cl g p e ep
      obtain ⟨o, eo⟩ := oat p _ er
      exact (hA p o _ eo er).2.2
    · have er := pl.2.2.2.1 c cl g p e ep
      obtain ⟨o, eo⟩ := oat p _ er
      exact (hA p o _ eo er).2.2
    · obtain ⟨⟨q1, q2⟩, q3, q4⟩ := pl.1 cl (List.mem_of_getElem? e) b1 b2
      exact ⟨I.noat _ b1 q1 q2, I.noat _ b2 q3 q4⟩
  · rw [← lr]
    exact (List.getElem?_eq_some_iff.mp (pl.2.2.1 c cl g p e1 e2)).1
  · rw [← lr]
    exact (List.getElem?_eq_some_iff.mp (pl.2.2.2.1 c cl g p e1 e2)).1
  · obtain ⟨_, alt, eT, _⟩ := ok.mem m
    rw [eT] at e
    have := kwo.get e
    cases perm with
    | nil => exact absurd rfl hpm
    | cons p ps => exact this
  · obtain ⟨_, alt, eT, _⟩ := ok.mem m
    rw [eT] at e
    obtain ⟨cl', fi', o', h1, h2, h3, h4⟩ := kwo.get e
    rw [hc] at h1; cases h1
    rw [hi] at h2; cases h2
    exact ⟨o', h3, h4⟩
end Co
end

section
set_option linter.all false
set_option maxRecDepth 100000
set_option autoImplicit false
/-! Co25: the facts of a law with one class, told one by one. -/
namespace Co
open PySem PySem.Spec
                        PyProof.Rows L2
def clsBody :
                        Stmt → List Stmt
  | .ClassDef
                          (body := b) .. => b
  | _ => []
/-- each of the names is none of the class's -/
def NoAts (K : PySem.W.Frag) (Ca : Addr) (cl : Cl) : List Str → Prop
  | [] => True
  | f :: r => (tab cl.props f = none → tab cl.meths f = none → NoAttr K Ca f) ∧ NoAts K Ca cl r
theorem NoAts.get {K : PySem.W.Frag} {Ca : Addr} {cl : Cl} : ∀ {l : List Str} {f : Str}, NoAts K Ca cl l → f ∈ l → tab cl.props f = none → tab cl.meths f = none → NoAttr K Ca f
  | [], _, _, m => nomatch m
  | g :: r, f, h, m => by
    rcases List.mem_cons.mp m with q | q
    · rw [q]; exact h.1
    · exact NoAts.get h.2 q
theorem no_prop {K : PySem.W.Frag} {Ca : Addr} {cl : Cl} {f : Str} (h : (tab cl.props f).isSome = true) : tab cl.props f = none → tab cl.meths f = none → NoAttr K Ca f := fun e => by rw [e] at h; cases h
theorem no_attr {K : PySem.W.Frag} {Ca : Addr} {cl : Cl} {f : Str} (h : PySem.W.findIn K (.ref Ca) f = some none) : tab cl.props f = none → tab cl.meths f = none → NoAttr K Ca f := fun _ _ => h
theorem ty_all {p : String → Prop} (a : p "NoneType") (b : p "bool") (c : p "int") (d : p "str") (e : p "list") (f : p "tuple") (g : p "dict") : ∀ t ∈ tyNames, p t := fun t m => by
  simp only [tyNames, List.mem_cons, List.not_mem_nil, or_false] at m
  rcases m with q | q | q | q | q | q | q <;> rw [q] <;> assumption
theorem cls_one {K : PySem.W.Frag} {os : List OneC} {rs : List Role} {nm : Str} {flds : List Str} {cl : Cl} {Ca : Addr} (aC : PySem.W.nsIn K mainGlobals nm = some (some (.ref Ca)))
    (t1 : PySem.W.kitOne K (.type "NoneType") (.ref Ca) = some false) (t2 : PySem.W.kitOne K (.type "bool") (.ref Ca) = some false) (t3 : PySem.W.kitOne K (.type "int") (.ref Ca) = some false) (t4 : PySem.W.kitOne K (.type "str") (.ref Ca) = some false) (t5 : PySem.W.kitOne K (.type "list") (.ref Ca) = some false) (t6 : PySem.W.kitOne K (.type "tuple") (.ref Ca) = some false) (t7 : PySem.W.kitOne K (.type "dict") (.ref Ca) = some false)
    (ow : PySem.W.kitOne K (.ref Ca) (.ref Ca) = some true)
    (pg : PySem.W.plainGet K Ca Str.empty = true) (hd : PySem.W.hasDictIn K Ca = true) (po : PySem.W.plainOver K Ca = true) (sa : PySem.W.findIn K (.ref Ca) "__setattr__" = some (some (.builtin "object.__setattr__")))
    (ha : PySem.W.findIn K (.ref Ca) "__class__" = some (some (.builtin "object.__class__"))) (hn : PySem.W.specialIn K (.builtin "object.__class__") "__get__" = some (some (.builtin "getset_descriptor.__get__"))) (htk : PySem.W.takesIn K (.builtin "object.__class__") = some true) (hm : PySem.W.mroIn K Ca (.type "object") = some true)
    (b1 : PySem.W.kitOne K (.ref Ca) (.type "NoneType") = some false) (b2 : PySem.W.kitOne K (.ref Ca) (.type "bool") = some false) (b3 : PySem.W.kitOne K (.ref Ca) (.type "int") = some false) (b4 : PySem.W.kitOne K (.ref Ca) (.type "str") = some false) (b5 : PySem.W.kitOne K (.ref Ca) (.type "list") = some false) (b6 : PySem.W.kitOne K (.ref Ca) (.type "tuple") = some false) (b7 : PySem.W.kitOne K (.ref Ca) (.type "dict") = some false)
    (na : NoAts K Ca cl flds) (D : AllDefsC K (fun _ => Ca) os rs) : ∃ C : Nat → Addr, AllNm K C [cl].length [(nm, 0)] ∧ AllCls K C [cl].length flds 0 [cl] ∧ AllDefsC K C os rs :=
  ⟨fun _ => Ca, ⟨⟨Nat.zero_lt_one, aC⟩, trivial⟩, ⟨⟨ty_all t1 t2 t3 t4 t5 t6 t7, fun d hd => by
    have : d = 0 := Nat.lt_one_iff.mp hd
    subst this
    exact ow, ⟨⟨pg, hd, po, sa⟩, ha, hn, htk, hm⟩, ty_all b1 b2 b3 b4 b5 b6 b7, fun f m => na.get m⟩, trivial⟩, D⟩
section
variable {K : PySem.W.Frag} {C : Nat → Addr} {x q : Str} {st : Stmt} {fa : Addr} {oc : Value} {od : Option Addr} {kV doc pm : Value} {an : Option Addr} {cdv ct : Value} {osl : Array (Option Value)}
theorem def_glob (a : PySem.W.nsIn K mainGlobals x = some (some (.ref fa))) (l : K.lookup fa = some ⟨oc, od, .func (PySem.W.fnOf x q (defArgs st) (defBody st) (defScope st) .none kV doc pm an cdv ct), osl⟩) (c : PySem.W.codeIn K cdv q = true) (k : PySem.W.keepIn K (.ref fa) = true) :
    ∃ a, DefAt K x q st a ∧ RoleOk K C x a .glob := ⟨fa, ⟨⟨oc, od, kV, doc, pm, an, cdv, ct, osl, l, c⟩, k⟩, a⟩
theorem def_init {n : Nat} (a : PySem.W.findIn K (.ref (C n)) "__init__" = some (some (.ref fa))) (l : K.lookup fa = some ⟨oc, od, .func (PySem.W.fnOf x q (defArgs st) (defBody st) (defScope st) .none kV doc pm an cdv ct), osl⟩) (c : PySem.W.codeIn K cdv q = true) (k : PySem.W.keepIn K (.ref fa) = true)
    (i : PySem.W.isFn K (.ref fa) = true) (m : PySem.W.makesIn K (C n) = true) (kc : PySem.W.keepIn K (.ref (C n)) = true) : ∃ a, DefAt K x q st a ∧ RoleOk K C x a (.init n) := ⟨fa, ⟨⟨oc, od, kV, doc, pm, an, cdv, ct, osl, l, c⟩, k⟩, ⟨m, a, i, kc⟩⟩
theorem def_prop {n : Nat} {f : Str} {pa : Addr} {rest : List Value} (a : PySem.W.findIn K (.ref (C n)) f = some (some (.ref pa))) (r : PySem.W.recIn K pa "property" = some (.ref fa :: rest)) (l : K.lookup fa = some ⟨oc, od, .func (PySem.W.fnOf x q (defArgs st) (defBody st) (defScope st) .none kV doc pm an cdv ct), osl⟩) (c : PySem.W.codeIn K cdv q = true) (k : PySem.W.keepIn K (.ref fa) = true)
    (g : PySem.W.specialIn K (.ref pa) "__get__" = some (some (.builtin "property.__get__"))) (t : PySem.W.takesIn K (.ref pa) = some true) : ∃ a, DefAt K x q st a ∧ RoleOk K C x a (.prop n f) := ⟨fa, ⟨⟨oc, od, kV, doc, pm, an, cdv, ct, osl, l, c⟩, k⟩, ⟨pa, a, g, t, rest, r⟩⟩
theorem def_meth {n : Nat} {f : Str} (a : PySem.W.findIn K (.ref (C n)) f = some (some (.ref fa))) (l : K.lookup fa = some ⟨oc, od, .func (PySem.W.fnOf x q (defArgs st) (defBody st) (defScope st) .none kV doc pm an cdv ct), osl⟩) (c : PySem.W.codeIn K cdv q = true) (k : PySem.W.keepIn K (.ref fa) = true)
    (i : PySem.W.isFn K (.ref fa) = true) (ne : (f == ("__eq__" : Str)) = false) : ∃ a, DefAt K x q st a ∧ RoleOk K C x a (.meth n f) := ⟨fa, ⟨⟨oc, od, kV, doc, pm, an, cdv, ct, osl, l, c⟩, k⟩, ⟨a, i, fun z => by rw [z] at ne; simp at ne⟩⟩
theorem def_eq {n : Nat} {f : Str} (a : PySem.W.findIn K (.ref (C n)) f = some (some (.ref fa))) (l : K.lookup fa = some ⟨oc, od, .func (PySem.W.fnOf x q (defArgs st) (defBody st) (defScope st) .none kV doc pm an cdv ct), osl⟩) (c : PySem.W.codeIn K cdv q = true) (k : PySem.W.keepIn K (.ref fa) = true)
    (i : PySem.W.isFn K (.ref fa) = true) (ne : PySem.W.findIn K (.ref (C n)) "__ne__" = some (some (.builtin "object.__ne__"))) : ∃ a, DefAt K x q st a ∧ RoleOk K C x a (.meth n f) := ⟨fa, ⟨⟨oc, od, kV, doc, pm, an, cdv, ct, osl, l, c⟩, k⟩, ⟨a, i, fun _ => ne⟩⟩
end
/-- one class, its defs in their places -/
def plB (rs : List Role) (mks : List Nat) (flds : List Str) (cl : Cl) : Bool :=
  (!decide (("__bool__" : Str) ∈ flds) || ((tab cl.props "__bool__").isNone && (tab cl.meths "__bool__").isNone && ((tab cl.props "__len__").isNone && (tab cl.meths "__len__").isNone))) && ((match cl.init with | some fi => (match rs[fi]? with | some (.init 0) => true | _ => false) | none => true) && (cl.props.all (fun p => match rs[p.2]? with | some (.prop 0 f) => decide (f = p.1) | _ => false) && (cl.meths.all (fun p => match rs[p.2]? with | some (.meth 0 f) => decide (f = p.1) | _ => false) && mks.all (fun c => decide (c = 0) && cl.init.isSome))))
theorem placed_one {rs : List Role} {mks : List Nat} {flds : List Str} {cl : Cl} (h : plB rs mks flds cl = true) : Placed rs mks flds [cl] := by
  simp only [plB, Bool.and_eq_true, List.all_eq_true, decide_eq_true_eq] at h
  obtain ⟨h0, h1, h2, h4, h3⟩ := h
  refine ⟨fun d m b1 b2 => ?_, fun c d fi e1 e2 => ?_, fun c d f p e1 e2 => ?_, fun c d f p e1 e2 => ?_, fun c m => ?_⟩
  · rw [List.mem_singleton.mp m]
    simp only [b1, decide_true, Bool.not_true, Bool.false_or, Bool.and_eq_true, Option.isNone_iff_eq_none, Bool.or_eq_true, Bool.not_eq_true', decide_eq_false_iff_not, not_true, false_or] at h0
    exact h0
  · cases c with
    | succ c => simp at e1
    | zero =>
      cases e1
      rw [e2] at h1
      dsimp only at h1
      split at h1
      · assumption
      · cases h1
  · cases c with
    | succ c => simp at e1
    | zero =>
      cases e1
      unfold tab at e2
      rw [Option.map_eq_some_iff] at e2
      obtain ⟨⟨f2, p2⟩, e3, rfl⟩ := e2
      have mm := List.mem_of_find?_eq_some e3
      have ee := of_decide_eq_true (List.find?_some (p := fun p : Str × Nat => decide (p.1 = f)) e3)
      have := h2 _ mm
      dsimp only at ee this
      split at this
      · rename_i g hg
        have := of_decide_eq_true this
        rw [hg, this, ee]
      · cases this
  · cases c with
    | succ c => simp at e1
    | zero =>
      cases e1
      unfold tab at e2
      rw [Option.map_eq_some_iff] at e2
      obtain ⟨⟨f2, p2⟩, e3, rfl⟩ := e2
      have mm := List.mem_of_find?_eq_some e3
      have ee := of_decide_eq_true (List.find?_some (p := fun p : Str × Nat => decide (p.1 = f)) e3)
      have := h4 _ mm
      dsimp only at ee this
      split at this
      · rename_i g hg
        have := of_decide_eq_true this
        rw [hg, this, ee]
      · cases this
  · obtain ⟨rfl, s⟩ := h3 c m
    obtain ⟨fi, e⟩ := Option.isSome_iff_exists.mp s
    exact ⟨cl, fi, rfl, e⟩
end Co
end

section
set_option linter.all false
set_option maxRecDepth 100000
set_option autoImplicit false
/-! Sy: runs of the core, told by what they end in. -/
namespace Co
open PySem L2
def Ends {α : Type} (r : Res α) (Q : α → Hh → Prop) : Prop := ∃ a h, r = .ok a h ∧ Q a h
section
variable {α β : Type} {r : Res α} {f : α → Hh → Res β} {P Q : α → Hh → Prop} {W : β → Hh → Prop} {a : α} {h : Hh}
theorem Ends.ok (q : Q a h) : Ends (.ok a h) Q := ⟨a, h, rfl, q⟩
theorem Ends.bind (e : Ends r P) (k : ∀ a h, P a h → Ends (f a h) W) : Ends (r.bind f) W := by
  obtain ⟨a, h, rfl, p⟩ := e
  exact k a h p
theorem Ends.mono (e : Ends r P) (k : ∀ a h, P a h → Q a h) : Ends r Q := let ⟨a, h, e, p⟩ := e; ⟨a, h, e, k a h p⟩
theorem Ends.eq (e : r = .ok a h) (q : Q a h) : Ends r Q := ⟨a, h, e, q⟩
theorem Ends.bindE (e : r = .ok a h) (k : Ends (f a h) W) : Ends (r.bind f) W := by
  rw [e]
  exact k
end
theorem run_def {P : Prog} {d f : Nat} {fn : Fn} {args : List Val} {h : Hh} (e : P.fns[f]? = some fn) (hl : args.length = fn.np) :
    runF P (d + 1) f args h = (exSs (gOf P (runF P d) h.length) fn.body (args.map some ++ List.replicate (fn.n - args.length) none) h).bind fun p h1 => retR fn.keep h.length p.1 h1 := by
  simp only [runF, e, hl, if_true]
theorem compL_map {gd : Gd} {step : Val → Hh → Res (Option Val)} {f : Val → Val} {h : Hh} (hg : guardOk h gd = true) : ∀ {vs : List Val}, (∀ v ∈ vs, step v h = .ok (some (f v)) h) → compL gd step vs h = .ok (vs.map f) h
  | [], _ => by simp only [compL, hg, if_true, List.map_nil]
  | v :: vs, k => by
    simp only [compL, hg, if_true]
    rw [k v List.mem_cons_self, Res.bind_ok, compL_map hg (fun u m => k u (List.mem_cons_of_mem _ m))]
    rfl
theorem compL_fmap {gd : Gd} {step : Val → Hh → Res (Option Val)} {f : Val → Option Val} {h : Hh} (hg : guardOk h gd = true) : ∀ {vs : List Val}, (∀ v ∈ vs, step v h = .ok (f v) h) → compL gd step vs h = .ok (vs.filterMap f) h
  | [], _ => by simp only [compL, hg, if_true, List.filterMap_nil]
  | v :: vs, k => by
    simp only [compL, hg, if_true]
    rw [k v List.mem_cons_self, Res.bind_ok, compL_fmap hg (fun u m => k u (List.mem_cons_of_mem _ m)), Res.bind_ok, List.filterMap_cons]
    cases f v <;> rfl
section
variable {h : Hh} {n : Nat} {i j : Int} {vs ws : List Val} {x y : Str} {b c : Bool} {g : G} {s : Env}
theorem rd_i : rd h (.int i) = .int i := rfl
theorem rd_b : rd h (.bl b) = .bl b := rfl
theorem rd_s : rd h (.str x) = .str x := rfl
theorem rd_n : rd h .non = .non := rfl
theorem rd_t : rd h (.tup vs) = .tup vs := rfl
theorem rd_l : rd h (.lst vs) = .lst vs := rfl
theorem rd_o : rd h (.ro vs) = .ro vs := rfl
theorem rd_r (e : h[n]? = some (.lst vs)) : rd h (.ref n) = .lst vs := by simp only [rd, e]
theorem bop_ai : bop .Add (.int i) (.int j) = some (.int (i + j)) := rfl
theorem bop_si : bop .Sub (.int i) (.int j) = some (.int (i - j)) := rfl
theorem bop_mi (e : mulOk i j = true) : bop .Mult (.int i) (.int j) = some (.int (i * j)) := by simp only [bop, e, if_true]
theorem bop_fi (e : divOk i j = true) : bop .FloorDiv (.int i) (.int j) = some (.int (i.fdiv j)) := by simp only [bop, e, if_true]
theorem bop_di (e : j ≠ 0) : bop .Mod (.int i) (.int j) = some (.int (i.fmod j)) := by simp only [bop, e, if_false]
theorem bop_as (e : x.length + y.length ≤ lim) : bop .Add (.str x) (.str y) = some (.str (x ++ y)) := by simp only [bop, e, if_true]
theorem bop_al (e : vs.length + ws.length ≤ lim) : bop .Add (.lst vs) (.lst ws) = some (.lst (vs ++ ws)) := by simp only [bop, e, if_true]
theorem bop_ml (e : repOk vs.length j = true) : bop .Mult (.lst vs) (.int j) = some (.lst (List.replicate j.toNat vs).flatten) := by simp only [bop, e, if_true]
theorem cop_lt : cop .Lt (.int i) (.int j) = some (decide (i < j)) := rfl
theorem cop_le : cop .LtE (.int i) (.int j) = some (decide (i ≤ j)) := rfl
theorem cop_gt : cop .Gt (.int i) (.int j) = some (decide (j < i)) := rfl
theorem cop_ge : cop .GtE (.int i) (.int j) = some (decide (j ≤ i)) := rfl
theorem truthR_b : truthR (.ok (.bl b) h) = .ok b h := rfl
theorem bi_ii : Co.bi .int [.int i] = some (.int i) := rfl
theorem bi_ib : Co.bi .int [.bl b] = some (.int (if b then 1 else 0)) := rfl
theorem bi_ll : Co.bi .len [.lst vs] = some (.int vs.length) := rfl
theorem bi_lt : Co.bi .len [.tup vs] = some (.int vs.length) := rfl
theorem bi_lo : Co.bi .len [.ro vs] = some (.int vs.length) := rfl
theorem asL_n : asL [] h = [] := rfl
theorem asL_c {v : Val} : asL (v :: vs) h = rd h v :: asL vs h := rfl
theorem idx_l : idxV (.lst vs) (.int i) = atI vs i := rfl
theorem idx_t : idxV (.tup vs) (.int i) = atI vs i := rfl
theorem atI_nat {α : Type} {l : List α} {k : Nat} : atI l (k : Int) = l[k]? := by
  unfold atI ixN
  simp only [Int.natCast_nonneg, if_true]
  by_cases q : k < l.length
  · rw [if_pos (by omega)]; simp
  · rw [if_neg (by omega)]; simp; omega
theorem atI_at {α : Type} {l : List α} {a : α} (k : Nat) (e : l[k]? = some a) (q : i = k) : atI l i = some a := by rw [q, atI_nat, e]
theorem ixN_at {m : Nat} (k : Nat) (e : k < m) (q : i = k) : ixN m i = some k := by
  unfold ixN
  rw [if_pos (by omega), if_pos
                          (by omega)]
  simp [q]
theorem noPy (q : j.natAbs < 2 ^ 64) : Builtin.divisionGoesByPylong i j = false := by
  unfold Builtin.divisionGoesByPylong
  simp only [Bool.and_eq_false_iff, decide_eq_false_iff_not]
  left
  by_cases h0 : j = 0
  · subst h0; simp
  · rw [if_neg (by simpa using h0)]
    have : j.natAbs.log2 < 64 := (Nat.log2_lt (by omega)).mpr q
    omega
theorem divOk_s (h0 : j ≠ 0) (q : j.natAbs < 2 ^ 64) : divOk i j = true := by
  unfold divOk
  rw [noPy q]
  simp [h0]
theorem mulOk_l (q : i.natAbs < 2 ^ 64) : mulOk i j = true := by simp [mulOk, q]
theorem mulOk_r (q : j.natAbs < 2 ^ 64) : mulOk i j = true := by simp [mulOk, q]
/-- a place of an object of ours is written -/
theorem asg_sub {o e : CE} {v : Val} {k : Nat} {h1 h2 : Hh} (eo : evE g o s h = .ok (.ref n) h1) (ei : evE g e s h1 = .ok (.int i) h2) (hn : h2[n]? = some (.lst ws)) (hk : i = k) (hl : k < ws.length) (hm : mayStore g.base n v = true) :
    asgT g (.sub o e) v s h = .ok s (h2.set n (.lst (ws.set k v))) := by
  simp only [asgT, eo, ei, Res.bind_ok, hn, ixN_at k hl hk, hm, if_true]
theorem store_i {m : Nat} : mayStore n m (.int i) = true := by simp [mayStore, below]
end
/-! ### step by step -/
section
variable {P : Prog} {d base : Nat} {g : G} {s : Env} {h : Hh} {Q : Val → Hh → Prop} {QS : List Val → Hh → Prop} {QE : Env → Hh → Prop} {QC : Ctl × Env → Hh → Prop} {QB : Bool → Hh → Prop} {QO : Option Int → Hh → Prop} {QI : List Val × Gd → Hh → Prop}
  {a b c e : CE} {es : List CE} {v : Val} {i : Nat}
theorem w_opt {α : Type} {o : Option α} {x : α} {R : α → Hh → Prop} (e : o = some x) (q : R x h) : Ends (opt o h) R := by
  rw [e]; exact .ok q
theorem w_var (e : s[i]? = some (some v)) (q : Q v h) : Ends (evE g (.var i) s h) Q := by
  simp only [evE, e]; exact .ok q
theorem w_cst (q : Q v h) : Ends (evE g (.cst v) s h) Q := by
  simp only [evE]; exact .ok q
theorem w_bin {op : Operator} (q : Ends (evE g a s h) fun x h1 => Ends (evE g b s h1) fun y h2 => Ends (opt (bop op (rd h2 x) (rd h2 y)) h2) Q) : Ends (evE g (.bin op a b) s h) Q := by
  simp only [evE]; exact .bind q fun x h1 q => .bind q fun y h2 q => q
theorem w_neg (q : Ends (evE g a s h) fun x h1 => ∃ i, x = .int i ∧ Q (.int (-i)) h1) : Ends (evE g (.neg a) s h) Q := by
  simp only [evE]; exact .bind q fun x h1 ⟨i, e, q⟩ => by subst e; exact .ok q
theorem w_negC {i : Int} (q : Q (.int (-i)) h) : Ends (evE g (.neg (.cst (.int i))) s h) Q := w_neg (w_cst ⟨i, rfl, q⟩)
theorem w_not (q : Ends (evE g a s h) fun x h1 => ∃ i, x = .bl i ∧ Q (.bl (!i)) h1) : Ends (evE g (.not a) s h) Q := by
  simp only [evE]; exact .bind q fun x h1 ⟨i, e, q⟩ => by subst e; exact .ok q
theorem w_and (q : Ends (evE g a s h) fun x h1 => ∃ k, x = .bl k ∧ (k = true → Ends (evE g b s h1) Q) ∧ (k = false → Q (.bl false) h1)) : Ends (evE g (.and a b) s h) Q := by
  simp only [evE]; exact .bind q fun x h1 ⟨k, e, q1, q2⟩ => by subst e; cases k; exact .ok (q2 rfl); exact q1 rfl
theorem w_or (q : Ends (evE g a s h) fun x h1 => ∃ k, x = .bl k ∧ (k = true → Q (.bl true) h1) ∧ (k = false → Ends (evE g b s h1) Q)) : Ends (evE g (.or a b) s h) Q := by
  simp only [evE]; exact .bind q fun x h1 ⟨k, e, q1, q2⟩ => by subst e; cases k; exact q2 rfl; exact .ok (q1 rfl)
theorem w_ite (q : Ends (evE g c s h) fun x h1 => ∃ k, x = .bl k ∧ (k = true → Ends (evE g a s h1) Q) ∧ (k = false → Ends (evE g b s h1) Q)) : Ends (evE g (.ite c a b) s h) Q := by
  simp only [evE]; exact .bind q fun x h1 ⟨k, e, q1, q2⟩ => by subst e; cases k; exact q2 rfl; exact q1 rfl
theorem w_cmp {op : CmpOp} (q : Ends (evE g a s h) fun x h1 => Ends (evE g b s h1) fun y h2 => ∃ k, cop op (rd h2 x) (rd h2 y) = some k ∧ Q (.bl k) h2) : Ends (evE g (.cmp op a b) s h) Q := by
  simp only [evE]; exact .bind q fun x h1 q => .bind q fun y h2 ⟨k, e, q⟩ => by rw [e]; exact .ok q
theorem w_tup (q : Ends (evEs g es s h) fun vs h1 => vs.length ≤ lim ∧ Q (.tup vs) h1) : Ends (evE g (.tup es) s h) Q := by
  simp only [evE]; exact .bind q fun x h1 ⟨e, q⟩ => by rw [if_pos e]; exact .ok q
theorem w_lst (q : Ends (evEs g es s h) fun vs h1 => vs.length ≤ lim ∧ Q (.lst vs) h1) : Ends (evE g (.lst false es) s h) Q := by
  simp only [evE]; exact .bind q fun x h1 ⟨e, q⟩ => by rw [if_pos e]; exact .ok q
theorem w_lstM (q : Ends (evEs g es s h) fun vs h1 => vs.length ≤ lim ∧ Q (.ref h1.length) (h1 ++ [.lst vs])) : Ends (evE g (.lst true es) s h) Q := by
  simp only [evE]; exact .bind q fun x h1 ⟨e, q⟩ => by rw [if_pos e]; exact .ok q
theorem w_callF {f : Nat} (q : Ends (evEs g es s h) fun vs h1 => Ends (g.call f vs h1) Q) : Ends (evE g (.callF f es) s h) Q := by
  simp only [evE]; exact .bind q fun x h1 q => q
theorem w_callK {f : Nat} {p : List Nat} (q : Ends (evEs g es s h) fun vs h1 => Ends (g.call f (permL p vs) h1) Q) : Ends (evE g (.callK f p es) s h) Q := by
  simp only [evE]; exact .bind q fun x h1 q => q
theorem w_callB {k : Bi} (q : Ends (evEs g es s h) fun vs h1 => Ends (opt (Co.bi k (asL vs h1)) h1) Q) : Ends (evE g (.callB k es) s h) Q := by
  simp only [evE]; exact .bind q fun x h1 q => q
theorem w_listM (q : Ends (evE g a s h) fun x h1 => ∃ vs, seqOf (rd h1 x) = some vs ∧ Q (.ref h1.length) (h1 ++ [.lst vs])) : Ends (evE g (.listM a) s h) Q := by
  simp only [evE]; exact .bind q fun x h1 ⟨vs, e, q⟩ => by simp only [e]; exact .ok q
theorem w_isI {t : IsT} (q : Ends (evE g a s h) fun x h1 => kindOk g.ncl h1 x = true ∧ Q (.bl (isIns h1 t x)) h1) : Ends (evE g (.isI t a) s h) Q := by
  simp only [evE]; exact .bind q fun x h1 ⟨e, q⟩ => by rw [if_pos e]; exact .ok q
theorem w_meth {m : Me} (q : Ends (evE g a s h) fun x h1 => tyOk m (rd h1 x) = true ∧ Ends (evEs g es s h1) fun vs h2 => Ends (meM g m x vs h2) Q) : Ends (evE g (.meth m a es) s h) Q := by
  simp only [evE]; exact .bind q fun x h1 ⟨e, q⟩ => by rw [if_pos e]; exact .bind q fun vs h2 q => q
theorem w_splitM (q : Ends (evE g a s h) fun x h1 => ∃ z, x = .str z ∧ Ends (evE g b s h1) fun y h2 => ∃ t, y = .str t ∧ (t.length == 0) = false ∧ z.length + 2 ≤ lim ∧ Q (.ref h2.length) (h2 ++ [.lst ((Txt.split z t).map .str)])) : Ends (evE g (.splitM a b) s h) Q := by
  simp only [evE]; exact .bind q fun x h1 ⟨z, e, q⟩ => by subst e; exact .bind q fun y h2 ⟨t, e, q1, q2, q⟩ => by subst e; dsimp only; rw [if_pos ⟨q1, q2⟩]; exact .ok q
theorem w_idx (q : Ends (evE g a s h) fun x h1 => Ends (evE g b s h1) fun y h2 => Ends (opt (idxV (rd h2 x) y) h2) Q) : Ends (evE g (.idx a b) s h) Q := by
  simp only [evE]; exact .bind q fun x h1 q => .bind q fun y h2 q => q
theorem w_slice {lo hi : Option CE} (q : Ends (evE g a s h) fun x h1 => Ends (evO g lo s h1) fun l h2 => Ends (evO g hi s h2) fun u h3 => Ends (opt (sliceV (rd h3 x) l u) h3) Q) : Ends (evE g (.slice a lo hi) s h) Q := by
  simp only [evE]; exact .bind q fun x h1 q => .bind q fun y h2 q => .bind q fun z h3 q => q
theorem w_none (q : QO none h) : Ends (evO g none s h) QO := by
  simp only [evO]; exact .ok q
theorem w_some (q : Ends (evE g e s h) fun x h1 => ∃ i, x = .int i ∧ QO (some i) h1) : Ends (evO g (some e) s h) QO := by
  simp only [evO]; exact .bind q fun x h1 ⟨i, e, q⟩ => by subst e; exact .ok q
theorem w_nil (q : QS [] h) : Ends (evEs g [] s h) QS := by
  simp only [evEs]; exact .ok q
theorem w_cons (hs : starC e = false) (q : Ends (evE g e s h) fun v h1 => Ends (evEs g es s h1) fun vs h2 => QS (v :: vs) h2) : Ends (evEs g (e :: es) s h) QS := by
  rw [evEs_cons hs]; exact .bind q fun x h1 q => .bind q fun y h2 q => .ok q
theorem w_asg {t : CT} (q : Ends (evE g e s h) fun v h1 => Ends (asgT g t v s h1) fun s1 h2 => QC (.next, s1) h2) : Ends (exS g (.asg t e) s h) QC := by
  simp only [exS]; exact .bind q fun x h1 q => .bind q fun y h2 q => .ok q
theorem w_name {s1 : Env} (e : s.set i (some v) = s1) (q : QE s1 h) : Ends (asgT g (.name i) v s h) QE := by
  subst e; simp only [asgT]; exact .ok q
theorem w_subA {o k : CE} (q : Ends (evE g o s h) fun x h1 => Ends (evE g k s h1) fun y h2 => ∃ n ws j m, x = .ref n ∧ y = .int j ∧ h2[n]? = some (.lst ws) ∧ ixN ws.length j = some m ∧ mayStore g.base n v = true ∧ QE s (h2.set n (.lst (ws.set m v)))) : Ends (asgT g (.sub o k) v s h) QE := by
  simp only [asgT]
  exact .bind q fun x h1 q1 => .bind q1 fun y h2 ⟨n, ws, j, m, e1, e2, e3, e4, e5, q2⟩ => by
    subst e1 e2
    simp only [e3, e4, e5, if_true]
    exact .ok q2
theorem w_tupA {ts : List CT} {vs : List Val} (q : Ends (asgTs g ts vs s h) QE) : Ends (asgT g (.tup ts) (.tup vs) s h) QE := by
  simp only [asgT, rd]; exact q
theorem w_tA0 (q : QE s h) : Ends (asgTs g [] [] s h) QE := by
  simp only [asgTs]; exact .ok q
theorem w_tA1 {t : CT} {ts : List CT} {vs : List Val} (q : Ends (asgT g t v s h) fun s1 h1 => Ends (asgTs g ts vs s1 h1) QE) : Ends (asgTs g (t :: ts) (v :: vs) s h) QE := by
  simp only [asgTs]; exact .bind q fun x h1 q => q
theorem w_ifs {x y : List CS} (q : Ends (evE g c s h) fun v h1 => ∃ k, v = .bl k ∧ (k = true → Ends (exSs g x s h1) QC) ∧ (k = false → Ends (exSs g y s h1) QC)) : Ends (exS g (.ifs c x y) s h) QC := by
  simp only [exS, truthR]
  obtain ⟨v, h1, e, k, rfl, q1, q2⟩ := q
  rw [e]
  cases k
  · exact q2 rfl
  · exact q1 rfl
theorem w_ret (q : Ends (evE g e s h) fun v h1 => QC (.ret v, s) h1) : Ends (exS g (.ret e) s h) QC := by
  simp only [exS]; exact .bind q fun x h1 q => .ok q
theorem w_expr (q : Ends (evE g e s h) fun v h1 => QC (.next, s) h1) : Ends (exS g (.expr e) s h) QC := by
  simp only [exS]; exact .bind q fun x h1 q => .ok q
theorem w_done (q : QC (.next, s) h) : Ends (exSs g [] s h) QC := by
  simp only [exSs]; exact .ok q
theorem w_seq {x : CS} {r : List CS} (q : Ends (exS g x s h) fun p h1 => (p.1 = .next → Ends (exSs g r p.2 h1) QC) ∧ (p.1 ≠ .next → QC p h1)) : Ends (exSs g (x :: r) s h) QC := by
  simp only [exSs]
  refine .bind q fun p h1 q => ?_
  obtain ⟨k, s1⟩ := p
  cases k with
  | next => exact q.1 rfl
  | _ => exact .ok (q.2 (by simp))
end
theorem run_w {P : Prog} {d f : Nat} {fn : Fn} {args : List Val} {h : Hh} {Q : Val → Hh → Prop} (e : P.fns[f]? = some fn) (hl : args.length = fn.np)
    (q : Ends (exSs (gOf P (runF P d) h.length) fn.body (args.map some ++ List.replicate (fn.n - args.length) none) h) fun p h1 => Ends (retR fn.keep h.length p.1 h1) Q) : Ends (runF P (d + 1) f args h) Q := by
  rw [run_def e hl]; exact .bind q fun p h1 q => q
section
variable {h : Hh} {b : Nat} {v w : Val} {Q : Val → Hh → Prop} {i j : Int} {k : Bool} {A B : Prop} {s : Env} {R : Ctl × Env → Hh → Prop} {x y : Str} {vs ws : List Val}
theorem w_back (e : frz b h v = some w) (q : Q w (h.take b)) : Ends (retR false b (.ret v) h) Q := by
  simp only [retR, e]; exact .ok q
theorem w_backK (q : Q v h) : Ends (retR true b (.ret v) h) Q := by
  simp only [retR]; exact .ok q
theorem frz_low (e : below b v = true) : frz b h v = some v := by
  unfold frz; rw [if_pos e]
theorem w_if (p : k = true → A) (q : k = false → B) : ∃ m, Val.bl k = .bl m ∧ (m = true → A) ∧ (m = false → B) := ⟨k, rfl, p, q⟩
theorem w_bl {C : Bool → Prop} (q : C k) : ∃ m, Val.bl k = .bl m ∧ C m := ⟨k, rfl, q⟩
theorem w_in {C : Int → Prop} (q : C i) : ∃ m, Val.int i = .int m ∧ C m := ⟨i, rfl, q⟩
theorem w_go {C D : Prop} (q : C) : ((Ctl.next, s).1 = .next → C) ∧ ((Ctl.next, s).1 ≠ .next → D) := ⟨fun _ => q, fun z => absurd rfl z⟩
theorem w_out {C D : Prop} (q : D) : ((Ctl.ret v, s).1 = .next → C) ∧ ((Ctl.ret v, s).1 ≠ .next → D) := ⟨(fun z => nomatch z), fun _ => q⟩
theorem w_cop {op : CmpOp} {C : Bool → Prop} (e : cop op v w = some k) (q : C k) : ∃ m, cop op v w = some m ∧ C m := ⟨k, e, q⟩
theorem idx_ref {n : Nat} (hn : h[n]? = some (.lst ws)) (e : atI ws i = some v) : idxV (rd h (.ref n)) (.int i) = some v := by
  rw [rd_r hn]; exact e
theorem w_put {n m : Nat} {g : G} {C : Hh → Prop} (hn : h[n]? = some (.lst ws)) (e : ixN ws.length i = some m) (e2 : mayStore g.base n v = true) (q : C (h.set n (.lst (ws.set m v)))) :
    ∃ n1 ws j m, Val.ref n = .ref n1 ∧ Val.int i = .int j ∧ h[n1]? = some (.lst ws) ∧ ixN ws.length j = some m ∧ mayStore g.base n1 v = true ∧ C (h.set n1 (.lst (ws.set m v))) := ⟨n, ws, i, m, rfl, rfl, hn, e, e2, q⟩
theorem w_backI (q : Q (.int i) (h.take b)) : Ends (retR false b (.ret (.int i)) h) Q := w_back (frz_low rfl) q
theorem w_backB (q : Q (.bl k) (h.take b)) : Ends (retR false b (.ret (.bl k)) h) Q := w_back (frz_low rfl) q
theorem w_backS (q : Q (.str x) (h.take b)) : Ends (retR false b (.ret (.str x)) h) Q := w_back (frz_low rfl) q
theorem w_backN (q : Q .non (h.take b)) : Ends (retR false b (.ret .non) h) Q := w_back (frz_low rfl) q
theorem ix0 {m : Nat} : ixN (m + 1) 0 = some 0 := ixN_at 0 (by omega) rfl
theorem ix1 {m : Nat} : ixN (m + 2) 1 = some 1 := ixN_at 1 (by omega) rfl
theorem ix2 {m : Nat} : ixN (m + 3) 2 = some 2 := ixN_at 2 (by omega) rfl
theorem at0 {α : Type} {a : α} {r : List α} : atI (a :: r) 0 = some a := atI_at 0 rfl rfl
theorem at1 {α : Type} {a c : α} {r : List α} : atI (a :: c :: r) 1 = some c := atI_at 1 rfl rfl
theorem at2 {α : Type} {a c e : α} {r : List α} : atI (a :: c :: e :: r) 2 = some e := atI_at 2 rfl rfl
/-- the three numbers from which a law draws -/
def Vat (h : Hh) (n : Nat) : Prop := ∃ a b c : Int, h[n]? = some (.lst [.int a, .int b, .int c])
def Drawn (n : Nat) (h h2 : Hh) : Prop := ∃ a b c : Int, h2 = h.set n (.lst [.int a, .int b, .int c])
theorem Vat.lt {n : Nat} (q : Vat h n) : n < h.length := let ⟨_, _, _, e⟩ := q; (List.getElem?_eq_some_iff.mp e).1
theorem Drawn.len {n : Nat} {h2 : Hh} (q : Drawn n h h2) : h2.length = h.length := by
  obtain ⟨a, b, c, rfl⟩ := q; simp
theorem Drawn.vat {n : Nat} {h2 : Hh} (q : Drawn n h h2) (p : Vat h n) : Vat h2 n := by
  have := p.lt
  obtain ⟨a, b, c, rfl⟩ := q
  exact ⟨a, b, c, by rw [List.getElem?_set_self this]⟩
theorem Drawn.trans {n : Nat} {h2 h3 : Hh} (q : Drawn n h h2) (p : Drawn n h2 h3) : Drawn n h h3 := by
  obtain ⟨a, b, c, rfl⟩ := q
  obtain ⟨a2, b2, c2, rfl⟩ := p
  exact ⟨a2, b2, c2, by rw [List.set_set]⟩
theorem Drawn.get {n m : Nat} {h2 : Hh} (q : Drawn n h h2) (ne : m ≠ n) : h2[m]? = h[m]? := by
  obtain ⟨a, b, c, rfl⟩ := q
  rw [List.getElem?_set_ne (Ne.symm ne)]
theorem Vat.refl {n : Nat} (q : Vat h n) : Drawn n h h := by
  obtain ⟨a, b, c, e⟩ := q
  refine ⟨a, b, c, ?_⟩
  apply List.ext_getElem?
  intro m
  by_cases z : m = n
  · subst z; rw [List.getElem?_set_self (List.getElem?_eq_some_iff.mp e).1, e]
  · rw [List.getElem?_set_ne (Ne.symm z)]
end
theorem run_s {P : Prog} {d f : Nat} {fn : Fn} {args : List Val} {h : Hh} {s : Env} {Q : Val → Hh → Prop} (e : P.fns[f]? = some fn) (hl : args.length = fn.np) (hs : args.map some ++ List.replicate (fn.n - args.length) none = s)
    (q : Ends (exSs (gOf P (runF P d) h.length) fn.body s h) fun p h1 => Ends (retR fn.keep h.length p.1 h1) Q) : Ends (runF P (d + 1) f args h) Q := by
  subst hs; exact run_w e hl q
theorem w_sel {h : Hh} {g : G} {i : Nat} {n : Nat} {j : Int} {s : Env} {ws : List Val} {v : Val} {Q : Val → Hh → Prop} (e1 : s[i]? = some (some (.ref n))) (hn : h[n]? = some (.lst ws)) (e : atI ws j = some v) (q : Q v h) : Ends (evE g (.idx (.var i) (.cst (.int j))) s h) Q := by
  refine w_idx (w_var e1 (w_cst ?_))
  exact w_opt (idx_ref hn e) q
section
variable {h h2 : Hh} {i j : Int} {vs ws : List Val} {b : Bool} {v a c e : Val}
theorem rop_lt : cop .Lt (rd h (.int i)) (rd h2 (.int j)) = some (decide (i < j)) := rfl
theorem rop_le : cop .LtE (rd h (.int i)) (rd h2 (.int j)) = some (decide (i ≤ j)) := rfl
theorem rop_gt : cop .Gt (rd h (.int i)) (rd h2 (.int j)) = some (decide (j < i)) := rfl
theorem rop_ge : cop .GtE (rd h (.int i)) (rd h2 (.int j)) = some (decide (j ≤ i)) := rfl
theorem rop_is : cop .Is (rd h v) (rd h2 .non) = some (isNon (rd h v)) := by cases rd h v <;> rfl
theorem rop_isnt : cop .IsNot (rd h v) (rd h2 .non) = some (!isNon (rd h v)) := by cases rd h v <;> rfl
theorem rop_ai : bop .Add (rd h (.int i)) (rd h2 (.int j)) = some (.int (i + j)) := rfl
theorem rop_si : bop .Sub (rd h (.int i)) (rd h2 (.int j)) = some (.int (i - j)) := rfl
theorem rop_mi (e : mulOk i j = true) : bop .Mult (rd h (.int i)) (rd h2 (.int j)) = some (.int (i * j)) := bop_mi e
theorem rop_fi (e : divOk i j = true) : bop .FloorDiv (rd h (.int i)) (rd h2 (.int j)) = some (.int (i.fdiv j)) := bop_fi e
theorem rop_di (e : j ≠ 0) : bop .Mod (rd h (.int i)) (rd h2 (.int j)) = some (.int (i.fmod j)) := bop_di e
theorem ri_ii : Co.bi .int (asL [.int i] h) = some (.int i) := rfl
theorem ri_ib : Co.bi .int (asL [.bl b] h) = some (.int (if b then 1 else 0)) := rfl
theorem ri_ll : Co.bi .len (asL [.lst vs] h) = some (.int vs.length) := rfl
theorem ri_lt : Co.bi .len (asL [.tup vs] h) = some (.int vs.length) := rfl
theorem ri_lo : Co.bi .len (asL [.ro vs] h) = some (.int vs.length) := rfl
theorem ri_Ll : Co.bi .list (asL [.lst vs] h) = some (.lst vs) := rfl
theorem ri_Lt : Co.bi .list (asL [.tup vs] h) = some (.lst vs) := rfl
theorem ri_Tl : Co.bi .tuple (asL [.lst vs] h) = some (.tup vs) := rfl
theorem ri_Tt : Co.bi .tuple (asL [.tup vs] h) = some (.tup vs) := rfl
theorem rat0 : idxV (rd h (.lst (a :: vs))) (.int 0) = some a := at0
theorem rat1 : idxV (rd h (.lst (a :: c :: vs))) (.int 1) = some c := at1
theorem rat2 : idxV (rd h (.lst (a :: c :: e :: vs))) (.int 2) = some e := at2
theorem tat0 : idxV (rd h (.tup (a :: vs))) (.int 0) = some a := at0
theorem tat1 : idxV (rd h (.tup (a :: c :: vs))) (.int 1) = some c := at1
theorem tat2 : idxV (rd h (.tup (a :: c :: e :: vs))) (.int 2) = some e := at2
end
end Co
end

local macro_rules | `(tactic| walk_at "co st1") => `(tactic| first
  | with_reducible refine Co.w_asg ?_ | ((with_reducible apply Co.w_name); · first | rfl | (simp only [List.set_cons_succ, List.set_cons_zero]; rfl))
  | with_reducible refine Co.w_ifs ?_ | with_reducible refine Co.w_ret ?_ | with_reducible refine Co.w_expr ?_ | with_reducible refine Co.w_done ?_ | with_reducible refine Co.w_seq ?_
  | ((with_reducible apply Co.w_var); · rfl) | with_reducible refine Co.w_cst ?_ | with_reducible refine Co.w_bin ?_ | with_reducible refine Co.w_negC ?_ | with_reducible refine Co.w_neg ?_ | with_reducible refine Co.w_not ?_ | with_reducible refine Co.w_and ?_ | with_reducible refine Co.w_or ?_ | with_reducible refine Co.w_ite ?_ | with_reducible refine Co.w_cmp ?_
  | with_reducible refine Co.w_tup ?_ | with_reducible refine Co.w_lst ?_ | with_reducible refine Co.w_lstM ?_ | with_reducible refine Co.w_callF ?_ | with_reducible refine Co.w_callK ?_ | with_reducible refine Co.w_callB ?_ | with_reducible refine Co.w_listM ?_ | with_reducible refine Co.w_isI ?_ | with_reducible refine Co.w_meth ?_ | with_reducible refine Co.w_splitM ?_ | with_reducible refine Co.w_idx ?_ | with_reducible refine Co.w_slice ?_
  | with_reducible refine Co.w_none ?_ | with_reducible refine Co.w_some ?_ | with_reducible refine Co.w_nil ?_ | ((with_reducible apply Co.w_cons); · rfl) | with_reducible refine Co.w_tupA ?_ | with_reducible refine Co.w_tA0 ?_ | with_reducible refine Co.w_tA1 ?_ | with_reducible refine Co.w_subA ?_
  | with_reducible refine Co.w_go ?_ | with_reducible refine Co.w_out ?_ | with_reducible refine Co.w_backI ?_ | with_reducible refine Co.w_backB ?_ | with_reducible refine Co.w_backS ?_ | with_reducible refine Co.w_backN ?_
  | with_reducible refine Co.w_cop Co.rop_lt ?_ | with_reducible refine Co.w_cop Co.rop_le ?_ | with_reducible refine Co.w_cop Co.rop_gt ?_ | with_reducible refine Co.w_cop Co.rop_ge ?_ | with_reducible refine Co.w_cop Co.rop_is ?_ | with_reducible refine Co.w_cop Co.rop_isnt ?_
  | with_reducible refine Co.w_opt Co.rop_ai ?_ | with_reducible refine Co.w_opt Co.rop_si ?_ | with_reducible refine Co.w_opt Co.ri_ii ?_ | with_reducible refine Co.w_opt Co.ri_ib ?_ | with_reducible refine Co.w_opt Co.ri_ll ?_ | with_reducible refine Co.w_opt Co.ri_lt ?_ | with_reducible refine Co.w_opt Co.ri_lo ?_
  | with_reducible refine Co.w_opt Co.ri_Ll ?_ | with_reducible refine Co.w_opt Co.ri_Lt ?_ | with_reducible refine Co.w_opt Co.ri_Tl ?_ | with_reducible refine Co.w_opt Co.ri_Tt ?_
  | with_reducible refine Co.w_opt (Co.rop_di (by decide)) ?_ | with_reducible refine Co.w_opt (Co.rop_fi (Co.divOk_s (by decide) (by decide))) ?_ | with_reducible refine Co.w_opt (Co.rop_mi (Co.mulOk_l (by decide))) ?_
  | with_reducible refine Co.w_opt Co.rat0 ?_ | with_reducible refine Co.w_opt Co.rat1 ?_ | with_reducible refine Co.w_opt Co.rat2 ?_ | with_reducible refine Co.w_opt Co.tat0 ?_ | with_reducible refine Co.w_opt Co.tat1 ?_ | with_reducible refine Co.w_opt Co.tat2 ?_)

local macro_rules | `(tactic| walk_at "co st") => `(tactic| repeat walk_at "co st1")

section
set_option linter.all false
set_option maxRecDepth 100000
set_option autoImplicit false
/-! Pu: code that leaves the heap as it is. -/
namespace Co
open PySem L2
mutual
def purE (pf : List Nat) : CE → Bool
  | .var _ => true
  | .cst _ => true
  | .bin _ a b => purE pf a && purE pf b
  | .neg a => purE pf a
  | .not a => purE pf a
  | .and a b => purE pf a && purE pf b
  | .or a b => purE pf a && purE pf b
  | .cmp _ a b => purE pf a && purE pf b
  | .chain _ _ a b c => purE pf a && (purE pf b && purE pf c)
  | .ite c a b => purE pf c && (purE pf a && purE pf b)
  | .tup es => purEs pf es
  | .lst m es => !m && purEs pf es
  | .star e => purE pf e
  | .dct _ es => purEs pf es
  | .callF f es => pf.contains f && purEs pf es
  | .callK f _ es => pf.contains f && purEs pf es
  | .callB _ es => purEs pf es
  | .isI _ e => purE pf e
  | .meth m o es => (match m with | .append => false | .extend => false | .pop => false | _ => true) && (purE pf o && purEs pf es)
  | .idx a i => purE pf a && purE pf i
  | .slice a lo hi => purE pf a && (purO pf lo && purO pf hi)
  | .rev a => purE pf a
  | .comp m _ _ _ it ifs elt => !m && (purE pf it && (purEs pf ifs && purE pf elt))
  | .range1 a => purE pf a
  | .range2 a b => purE pf a && purE pf b
  | .enum a => purE pf a
  | .zip a b => purE pf a && purE pf b
  | .of a => purE pf a
  | .zipS a => purE pf a
  | _ => false
def purEs (pf : List Nat) : List CE → Bool
  | [] => true
  | e :: r => purE pf e && purEs pf r
def purO (pf : List Nat) : Option CE → Bool
  | none => true
  | some e => purE pf e
end
theorem compL_pure {gd : Gd} {step : Val → Hh → Res (Option Val)} (hs : ∀ v h o h', step v h = .ok o h' → h' = h) : ∀ {vs : List Val} {h : Hh} {r : List Val} {h' : Hh}, compL gd step vs h = .ok r h' → h' = h
  | [], h, r, h', e => by
    simp only [compL] at e
    split at e <;> cases e
    rfl
  | v :: vs, h, r, h', e => by
    simp only [compL] at e
    split at e
    case isFalse => cases e
    obtain ⟨o, h1, e1, e⟩ := Res.bind_eq e
    obtain ⟨w, h2, e2, e⟩ := Res.bind_eq e
    cases e
    rw [compL_pure hs e2, hs _ _ _ _ e1]
section
variable {g : G} {pf : List Nat} (hg : ∀ f ∈ pf, ∀ vs h v h', g.call f vs h = .ok v h' → h' = h)
include hg
mutual
theorem purE_ok : ∀ (c : CE) (s : Env) (h : Hh) (v : Val) (h' : Hh), purE pf c = true → evE g c s h = .ok v h' → h' = h
  | .var i, s, h, v, h', p, e => by
    simp only [evE] at e
    split at e <;> cases e
    rfl
  | .cst w, s, h, v, h', p, e => by simp only [evE] at e; cases e; rfl
  | .bin op a b, s, h, v, h', p, e => by
    simp only [purE, Bool.and_eq_true] at p
    simp only [evE] at e
    obtain ⟨x, h1, e1, e⟩ := Res.bind_eq e
    obtain ⟨y, h2, e2, e⟩ := Res.bind_eq e
    obtain ⟨_, rfl⟩ := opt_eq e
    rw [purE_ok b _ _ _ _ p.2 e2, purE_ok a _ _ _ _ p.1 e1]
  | .neg a, s, h, v, h', p, e => by
    simp only [purE] at p
    simp only [evE] at e
    obtain ⟨x, h1, e1, e⟩ := Res.bind_eq e
    split at e <;> cases e
    exact purE_ok a _ _ _ _ p e1
  | .not a, s, h, v, h', p, e => by
    simp only [purE] at p
    simp only [evE] at e
    obtain ⟨x, h1, e1, e⟩ := Res.bind_eq e
    split at e <;> cases e
    exact purE_ok a _ _ _ _ p e1
  | .and a b, s, h, v, h', p, e => by
    simp only [purE, Bool.and_eq_true] at p
    simp only [evE] at e
    obtain ⟨x, h1, e1, e⟩ := Res.bind_eq e
    split at e
    · rw [purE_ok b _ _ _ _ p.2 e, purE_ok a _ _ _ _ p.1 e1]
    · cases e; exact purE_ok a _ _ _ _ p.1 e1
    · cases e
  | .or a b, s, h, v, h', p, e => by
    simp only [purE, Bool.and_eq_true] at p
    simp only [evE] at e
    obtain ⟨x, h1, e1, e⟩ := Res.bind_eq e
    split at e
    · cases e; exact purE_ok a _ _ _ _ p.1 e1
    · rw [purE_ok b _ _ _ _ p.2 e, purE_ok a _ _ _ _ p.1 e1]
    · cases e
  | .cmp op a b, s, h, v, h', p, e => by
    simp only [purE, Bool.and_eq_true] at p
    simp only [evE] at e
    obtain ⟨x, h1, e1, e⟩ := Res.bind_eq e
    obtain ⟨y, h2, e2, e⟩ := Res.bind_eq e
    obtain ⟨_, rfl⟩ := opt_eq e
    rw [purE_ok b _ _ _ _ p.2 e2, purE_ok a _ _ _ _ p.1 e1]
  | .chain o1 o2 a b c, s, h, v, h', p, e => by
    simp only [purE, Bool.and_eq_true] at p
    simp only [evE] at e
    obtain ⟨x, h1, e1, e⟩ := Res.bind_eq e
    obtain ⟨y, h2, e2, e⟩ := Res.bind_eq e
    split at e
    · obtain ⟨z, h3, e3, e⟩ := Res.bind_eq e
      obtain ⟨_, rfl⟩ := opt_eq e
      rw [purE_ok c _ _ _ _ p.2.2 e3, purE_ok b _ _ _ _ p.2.1 e2, purE_ok a _ _ _ _ p.1 e1]
    · cases e
      rw [purE_ok b _ _ _ _ p.2.1 e2, purE_ok a _ _ _ _ p.1 e1]
    · cases e
  | .ite c a b, s, h, v, h', p, e => by
    simp only [purE, Bool.and_eq_true] at p
    simp only [evE] at e
    obtain ⟨x, h1, e1, e⟩ := Res.bind_eq e
    split at e
    · rw [purE_ok a _ _ _ _ p.2.1 e, purE_ok c _ _ _ _ p.1 e1]
    · rw [purE_ok b _ _ _ _ p.2.2 e, purE_ok c _ _ _ _ p.1 e1]
    · cases e
  | .tup es, s, h, v, h', p, e => by
    simp only [purE] at p
    simp only [evE] at e
    obtain ⟨x, h1, e1, e⟩ := Res.bind_eq e
    split at e <;> cases e
    exact purEs_ok es _ _ _ _ p e1
  | .lst m es, s, h, v, h', p, e => by
    simp only [purE, Bool.and_eq_true, Bool.not_eq_true'] at p
    obtain ⟨rfl, p⟩ := p
    simp only [evE] at e
    obtain ⟨x, h1, e1, e⟩ := Res.bind_eq e
    split at e
    · simp only [allocL, Bool.false_eq_true, if_false] at e
      cases e
      exact purEs_ok es _ _ _ _ p e1
    · cases e
  | .star a, s, h, v, h', p, e => by simp only [evE] at e; cases e
  | .dct ks es, s, h, v, h', p, e => by
    simp only [purE] at p
    simp only [evE] at e
    obtain ⟨x, h1, e1, e⟩ := Res.bind_eq e
    split at e <;> cases e
    exact purEs_ok es _ _ _ _ p e1
  | .callF f es, s, h, v, h', p, e => by
    simp only [purE, Bool.and_eq_true, List.contains_iff_mem] at p
    simp only [evE] at e
    obtain ⟨x, h1, e1, e⟩ := Res.bind_eq e
    rw [hg f p.1 _ _ _ _ e, purEs_ok es _ _ _ _ p.2 e1]
  | .callK f q es, s, h, v, h', p, e => by
    simp only [purE, Bool.and_eq_true, List.contains_iff_mem] at p
    simp only [evE] at e
    obtain ⟨x, h1, e1, e⟩ := Res.bind_eq e
    rw [hg f p.1 _ _ _ _ e, purEs_ok es _ _ _ _ p.2 e1]
  | .callB b es, s, h, v, h', p, e => by
    simp only [purE] at p
    simp only [evE] at e
    obtain ⟨x, h1, e1, e⟩ := Res.bind_eq e
    obtain ⟨_, rfl⟩ := opt_eq e
    exact purEs_ok es _ _ _ _ p e1
  | .isI t a, s, h, v, h', p, e => by
    simp only [purE] at p
    simp only [evE] at e
    obtain ⟨x, h1, e1, e⟩ := Res.bind_eq e
    split at e <;> cases e
    exact purE_ok a _ _ _ _ p e1
  | .meth m o es, s, h, v, h', p, e => by
    simp only [purE, Bool.and_eq_true] at p
    simp only [evE] at e
    obtain ⟨x, h1, e1, e⟩ := Res.bind_eq e
    split at e
    case isFalse => cases e
    obtain ⟨y, h2, e2, e⟩ := Res.bind_eq e
    have hh : h' = h2 := by
      cases m <;> simp at p <;> (simp only [meM] at e; exact (opt_eq e).2)
    rw [hh, purEs_ok es _ _ _ _ p.2.2 e2, purE_ok o _ _ _ _ p.2.1 e1]
  | .idx a b, s, h, v, h', p, e => by
    simp only [purE, Bool.and_eq_true] at p
    simp only [evE] at e
    obtain ⟨x, h1, e1, e⟩ := Res.bind_eq e
    obtain ⟨y, h2, e2, e⟩ := Res.bind_eq e
    obtain ⟨_, rfl⟩ := opt_eq e
    rw [purE_ok b _ _ _ _ p.2 e2, purE_ok a _ _ _ _ p.1 e1]
  | .slice a lo hi, s, h, v, h', p, e => by
    simp only [purE, Bool.and_eq_true] at p
    simp only [evE] at e
    obtain ⟨x, h1, e1, e⟩ := Res.bind_eq e
    obtain ⟨y, h2, e2, e⟩ := Res.bind_eq e
    obtain ⟨z, h3, e3, e⟩ := Res.bind_eq e
    obtain ⟨_, rfl⟩ := opt_eq e
    rw [purO_ok hi _ _ _ _ p.2.2 e3, purO_ok lo _ _ _ _ p.2.1 e2, purE_ok a _ _ _ _ p.1 e1]
  | .rev a, s, h, v, h', p, e => by
    simp only [purE] at p
    simp only [evE] at e
    obtain ⟨x, h1, e1, e⟩ := Res.bind_eq e
    split at e <;> cases e
    all_goals exact purE_ok a _ _ _ _ p e1
  | .comp m own tg one it ifs elt, s, h, v, h', p, e => by
    simp only [purE, Bool.and_eq_true, Bool.not_eq_true'] at p
    obtain ⟨rfl, p1, p2, p3⟩ := p
    simp only [evE] at e
    obtain ⟨x, h1, e1, e⟩ := Res.bind_eq e
    split at e
    case isFalse => cases e
    obtain ⟨y, h2, e2, e⟩ := Res.bind_eq e
    simp only [allocL, Bool.false_eq_true, if_false] at e
    cases e
    rw [compL_pure (fun v h o h' q => ?_) e2, purI_ok it _ _ _ _ p1 e1]
    split at q
    · obtain ⟨b, h3, q1, q⟩ := Res.bind_eq q
      split at q
      · obtain ⟨z, h4, q2, q⟩ := Res.bind_eq q
        cases q
        rw [purE_ok elt _ _ _ _ p3 q2, purC_ok ifs _ _ _ _ p2 q1]
      · cases q
        exact purC_ok ifs _ _ _ _ p2 q1
    · cases q
  | .range1 a, s, h, v, h', p, e => by simp only [evE] at e; cases e
  | .range2 a b, s, h, v, h', p, e => by simp only [evE] at e; cases e
  | .enum a, s, h, v, h', p, e => by simp only [evE] at e; cases e
  | .zip a b, s, h, v, h', p, e => by simp only [evE] at e; cases e
  | .of a, s, h, v, h', p, e => by simp only [evE] at e; cases e
  | .listM a, s, h, v, h', p, e => by simp [purE] at p
  | .splitM a b, s, h, v, h', p, e => by simp [purE] at p
  | .repl a y z, s, h, v, h', p, e => by simp [purE] at p
  | .fld a f, s, h, v, h', p, e => by simp [purE] at p
  | .make c es, s, h, v, h', p, e => by simp [purE] at p
  | .mcall o m es, s, h, v, h', p, e => by simp [purE] at p
  | .zipS a, s, h, v, h', p, e => by simp only [evE] at e; cases e
  | .bad, s, h, v, h', p, e => by simp [purE] at p
theorem purEs_ok : ∀ (cs : List CE) (s : Env) (h : Hh) (v : List Val) (h' : Hh), purEs pf cs = true → evEs g cs s h = .ok v h' → h' = h
  | [], s, h, v, h', p, e => by simp only [evEs] at e; cases e; rfl
  | c :: r, s, h, v, h', p, e => by
    simp only [purEs, Bool.and_eq_true] at p
    by_cases hc : starC c = false
    · rw [evEs_cons hc] at e
      obtain ⟨x, h1, e1, e⟩ := Res.bind_eq e
      obtain ⟨y, h2, e2, e⟩ := Res.bind_eq e
      cases e
      rw [purEs_ok r _ _ _ _ p.2 e2, purE_ok c _ _ _ _ p.1 e1]
    · cases c <;> simp [starC] at hc
      rename_i a
      simp only [evEs] at e
      obtain ⟨x, h1, e1, e⟩ := Res.bind_eq e
      split at e
      · obtain ⟨y, h2, e2, e⟩ := Res.bind_eq e
        cases e
        have p1 := p.1
        simp only [purE] at p1
        rw [purEs_ok r _ _ _ _ p.2 e2, purE_ok a _ _ _ _ p1 e1]
      · cases e
theorem purO_ok : ∀ (o : Option CE) (s : Env) (h : Hh) (v : Option Int) (h' : Hh), purO pf o = true → evO g o s h = .ok v h' → h' = h
  | none, s, h, v, h', p, e => by simp only [evO] at e; cases e; rfl
  | some c, s, h, v, h', p, e => by
    simp only [purO] at p
    simp only [evO] at e
    obtain ⟨x, h1, e1, e⟩ := Res.bind_eq e
    split at e <;> cases e
    exact purE_ok c _ _ _ _ p e1
theorem purC_ok : ∀ (cs : List CE) (s : Env) (h : Hh) (v : Bool) (h' : Hh), purEs pf cs = true → evC g cs s h = .ok v h' → h' = h
  | [], s, h, v, h', p, e => by simp only [evC] at e; cases e; rfl
  | c :: r, s, h, v, h', p, e => by
    simp only [purEs, Bool.and_eq_true] at p
    simp only [evC] at e
    obtain ⟨x, h1, e1, e⟩ := Res.bind_eq e
    split at e
    · rw [purC_ok r _ _ _ _ p.2 e, purE_ok c _ _ _ _ p.1 e1]
    · cases e; exact purE_ok c _ _ _ _ p.1 e1
    · cases e
theorem purI_ok : ∀ (c : CE) (s : Env) (h : Hh) (v : List Val × Gd) (h' : Hh), purE pf c = true → evI g c s h = .ok v h' → h' = h
  | .range1 a, s, h, v, h', p, e => by
    simp only [purE] at p
    simp only [evI] at e
    obtain ⟨x, h1, e1, e⟩ := Res.bind_eq e
    split at e
    · split at e <;> cases e
      exact purE_ok a _ _ _ _ p e1
    · cases e
  | .range2 a b, s, h, v, h', p, e => by
    simp only [purE, Bool.and_eq_true] at p
    simp only [evI] at e
    obtain ⟨x, h1, e1, e⟩ := Res.bind_eq e
    obtain ⟨y, h2, e2, e⟩ := Res.bind_eq e
    split at e
    · split at e <;> cases e
      rw [purE_ok b _ _ _ _ p.2 e2, purE_ok a _ _ _ _ p.1 e1]
    · cases e
  | .enum a, s, h, v, h', p, e => by
    simp only [purE] at p
    simp only [evI] at e
    obtain ⟨x, h1, e1, e⟩ := Res.bind_eq e
    split at e <;> cases e
    exact purE_ok a _ _ _ _ p e1
  | .zip a b, s, h, v, h', p, e => by
    simp only [purE, Bool.and_eq_true] at p
    simp only [evI] at e
    obtain ⟨x, h1, e1, e⟩ := Res.bind_eq e
    obtain ⟨y, h2, e2, e⟩ := Res.bind_eq e
    split at e <;> cases e
    rw [purE_ok b _ _ _ _ p.2 e2, purE_ok a _ _ _ _ p.1 e1]
  | .of a, s, h, v, h', p, e => by
    simp only [purE] at p
    simp only [evI] at e
    obtain ⟨x, h1, e1, e⟩ := Res.bind_eq e
    obtain ⟨_, rfl⟩ := opt_eq e
    exact purE_ok a _ _ _ _ p e1
  | .var i, s, h, v, h', p, e => by simp only [evI] at e; cases e
  | .cst i, s, h, v, h', p, e => by simp only [evI] at e; cases e
  | .bin .., s, h, v, h', p, e => by simp only [evI] at e; cases e
  | .neg .., s, h, v, h', p, e => by simp only [evI] at e; cases e
  | .not .., s, h, v, h', p, e => by simp only [evI] at e; cases e
  | .and .., s, h, v, h', p, e => by simp only [evI] at e; cases e
  | .or .., s, h, v, h', p, e => by simp only [evI] at e; cases e
  | .cmp .., s, h, v, h', p, e => by simp only [evI] at e; cases e
  | .chain .., s, h, v, h', p, e => by simp only [evI] at e; cases e
  | .ite .., s, h, v, h', p, e => by simp only [evI] at e; cases e
  | .tup .., s, h, v, h', p, e => by simp only [evI] at e; cases e
  | .lst .., s, h, v, h', p, e => by simp only [evI] at e; cases e
  | .star .., s, h, v, h', p, e => by simp only [evI] at e; cases e
  | .dct .., s, h, v, h', p, e => by simp only [evI] at e; cases e
  | .callF .., s, h, v, h', p, e => by simp only [evI] at e; cases e
  | .callK .., s, h, v, h', p, e => by simp only [evI] at e; cases e
  | .callB .., s, h, v, h', p, e => by simp only [evI] at e; cases e
  | .isI .., s, h, v, h', p, e => by simp only [evI] at e; cases e
  | .meth .., s, h, v, h', p, e => by simp only [evI] at e; cases e
  | .idx .., s, h, v, h', p, e => by simp only [evI] at e; cases e
  | .slice .., s, h, v, h', p, e => by simp only [evI] at e; cases e
  | .rev .., s, h, v, h', p, e => by simp only [evI] at e; cases e
  | .comp .., s, h, v, h', p, e => by simp only [evI] at e; cases e
  | .listM a, s, h, v, h', p, e => by simp [purE] at p
  | .splitM a b, s, h, v, h', p, e => by simp [purE] at p
  | .repl a y z, s, h, v, h', p, e => by simp [purE] at p
  | .fld a f, s, h, v, h', p, e => by simp [purE] at p
  | .make c es, s, h, v, h', p, e => by simp [purE] at p
  | .mcall o m es, s, h, v, h', p, e => by simp [purE] at p
  | .zipS a, s, h, v, h', p, e => by
    simp only [purE] at p
    simp only [evI] at e
    obtain ⟨x, h1, e1, e⟩ := Res.bind_eq e
    split at e
    · split at e
      · split at e <;> cases e
        exact purE_ok a _ _ _ _ p e1
      · cases e
    · cases e
  | .bad, s, h, v, h', p, e => by simp [purE] at p
end
end
mutual
def purT : CT → Bool
  | .name _ => true
  | .sub _ _ => false
  | .tup ts => purTs ts
def purTs : List CT → Bool
  | [] => true
  | t :: r => purT t && purTs r
end
mutual
def purS (pf : List Nat) : CS → Bool
  | .asg t e => purT t && purE pf e
  | .for t it b => purT t && (purE pf it && purSs pf b)
  | .while c b => purE pf c && purSs pf b
  | .ifs c a b => purE pf c && (purSs pf a && purSs pf b)
  | .ret e => purE pf e
  | .retN => true
  | .expr e => purE pf e
  | .brk => true
  | .cont => true
  | .pass => true
  | _ => false
def purSs (pf : List Nat) : List CS → Bool
  | [] => true
  | c :: r => purS pf c && purSs pf r
end
section
variable {g : G}
mutual
theorem purT_ok : ∀ (t : CT) (v : Val) (s : Env) (h : Hh) (s' : Env) (h' : Hh), purT t = true → asgT g t v s h = .ok s' h' → h' = h
  | .name i, v, s, h, s', h', p, e => by simp only [asgT] at e; cases e; rfl
  | .sub _ _, v, s, h, s', h', p, e => by simp [purT] at p
  | .tup ts, v, s, h, s', h', p, e => by
    simp only [purT] at p
    simp only [asgT] at e
    split at e
    · exact purTs_ok ts _ _ _ _ _ p e
    · exact purTs_ok ts _ _ _ _ _ p e
    · cases e
theorem purTs_ok : ∀ (ts : List CT) (vs : List Val) (s : Env) (h : Hh) (s' : Env) (h' : Hh), purTs ts = true → asgTs g ts vs s h = .ok s' h' → h' = h
  | [], [], s, h, s', h', p, e => by simp only [asgTs] at e; cases e; rfl
  | t :: r, v :: vs, s, h, s', h', p, e => by
    simp only [purTs, Bool.and_eq_true] at p
    simp only [asgTs] at e
    obtain ⟨s1, h1, e1, e0⟩ := Res.bind_eq e
    clear e
    have e := e0
    clear e0
    rw [purTs_ok r _ _ _ _ _ p.2 e, purT_ok t _ _ _ _ _ p.1 e1]
  | [], _ :: _, s, h, s', h', p, e => by simp only [asgTs] at e; cases e
  | _ :: _, [], s, h, s', h', p, e => by simp only [asgTs] at e; cases e
end
end
theorem forL_pure {gd : Gd} {step : Val → Env → Hh → Res (Ctl × Env)} (hs : ∀ v s h p h', step v s h = .ok p h' → h' = h) : ∀ {vs : List Val} {s : Env} {h : Hh} {p : Ctl × Env} {h' : Hh}, forL gd step vs s h = .ok p h' → h' = h
  | [], s, h, p, h', e => by
    simp only [forL] at e
    split at e <;> cases e
    rfl
  | v :: vs, s, h, p, h', e => by
    simp only [forL] at e
    split at e
    case isFalse => cases e
    obtain ⟨q, h1, e1, e0⟩ := Res.bind_eq e
    clear e
    have e := e0
    clear e0
    have := hs _ _ _ _ _ e1
    subst this
    split at e
    · exact forL_pure hs e
    · exact forL_pure hs e
    · cases e; rfl
    · cases e; rfl
theorem whileL_pure {test : Env → Hh → Res Bool} {step : Env → Hh → Res (Ctl × Env)} (ht : ∀ s h b h', test s h = .ok b h' → h' = h) (hs : ∀ s h p h', step s h = .ok p h' → h' = h) : ∀ {n : Nat} {s : Env} {h : Hh} {p : Ctl × Env} {h' : Hh}, whileL test step n s h = .ok p h' → h' = h
  | 0, s, h, p, h', e => by simp only [whileL] at e; cases e
  | n + 1, s, h, p, h', e => by
    simp only [whileL] at e
    obtain ⟨b, h1, e1, e0⟩ := Res.bind_eq e
    clear e
    have e := e0
    clear e0
    have := ht _ _ _ _ e1
    subst this
    split at e
    · obtain ⟨q, h2, e2, e0⟩ := Res.bind_eq e
      clear e
      have e := e0
      clear e0
      have := hs _ _ _ _ e2
      subst this
      split at e
      · exact whileL_pure ht hs e
      · exact whileL_pure ht hs e
      · cases e; rfl
      · cases e; rfl
    · cases e; rfl
section
variable {g : G} {pf : List Nat} (hg : ∀ f ∈ pf, ∀ vs h v h', g.call f vs h = .ok v h' → h' = h)
include hg
theorem truth_pure {c : CE} {s : Env} {h : Hh} {b : Bool} {h' : Hh} (p : purE pf c = true) (e : truthR (evE g c s h) = .ok b h') : h' = h := by
  unfold truthR at e
  obtain ⟨v, h1, e1, e0⟩ := Res.bind_eq e
  clear e
  have e := e0
  clear e0
  split at e <;> cases e
  exact purE_ok hg c _ _ _ _ p e1
mutual
theorem purS_ok : ∀ (c : CS) (s : Env) (h : Hh) (q : Ctl × Env) (h' : Hh), purS pf c = true → exS g c s h = .ok q h' → h' = h
  | .asg t c, s, h, q, h', p, e => by
    simp only [purS, Bool.and_eq_true] at p
    simp only [exS] at e
    obtain ⟨v, h1, e1, e0⟩ := Res.bind_eq e
    clear e
    have e := e0
    clear e0
    obtain ⟨s1, h2, e2, e0⟩ := Res.bind_eq e
    clear e
    have e := e0
    clear e0
    cases e
    rw [purT_ok t _ _ _ _ _ p.1 e2, purE_ok hg c _ _ _ _ p.2 e1]
  | .fld .., s, h, q, h', p, e => by simp [purS] at p
  | .for t it b, s, h, q, h', p, e => by
    simp only [purS, Bool.and_eq_true] at p
    simp only [exS] at e
    obtain ⟨v, h1, e1, e0⟩ := Res.bind_eq e
    clear e
    have e := e0
    clear e0
    rw [forL_pure (fun v s h q h' z => ?_) e, purI_ok hg it _ _ _ _ p.2.1 e1]
    obtain ⟨s1, h2, z1, z⟩ := Res.bind_eq z
    rw [purSs_ok b _ _ _ _ p.2.2 z, purT_ok t _ _ _ _ _ p.1 z1]
  | .while c b, s, h, q, h', p, e => by
    simp only [purS, Bool.and_eq_true] at p
    simp only [exS] at e
    exact whileL_pure (fun s h b h' z => truth_pure hg p.1 z) (fun s h q h' z => purSs_ok b _ _ _ _ p.2 z) e
  | .ifs c a b, s, h, q, h', p, e => by
    simp only [purS, Bool.and_eq_true] at p
    simp only [exS] at e
    obtain ⟨k, h1, e1, e0⟩ := Res.bind_eq e
    clear e
    have e := e0
    clear e0
    have := truth_pure hg p.1 e1
    subst this
    split at e
    · exact purSs_ok a _ _ _ _ p.2.1 e
    · exact purSs_ok b _ _ _ _ p.2.2 e
  | .ret c, s, h, q, h', p, e => by
    simp only [purS] at p
    simp only [exS] at e
    obtain ⟨v, h1, e1, e0⟩ := Res.bind_eq e
    clear e
    have e := e0
    clear e0
    cases e
    exact purE_ok hg c _ _ _ _ p e1
  | .retN, s, h, q, h', p, e => by simp only [exS] at e; cases e; rfl
  | .expr c, s, h, q, h', p, e => by
    simp only [purS] at p
    simp only [exS] at e
    obtain ⟨v, h1, e1, e0⟩ := Res.bind_eq e
    clear e
    have e := e0
    clear e0
    cases e
    exact purE_ok hg c _ _ _ _ p e1
  | .brk, s, h, q, h', p, e => by simp only [exS] at e; cases e; rfl
  | .cont, s, h, q, h', p, e => by simp only [exS] at e; cases e; rfl
  | .pass, s, h, q, h', p, e => by simp only [exS] at e; cases e; rfl
  | .bad, s, h, q, h', p, e => by simp only [exS] at e; cases e
theorem purSs_ok : ∀ (cs : List CS) (s : Env) (h : Hh) (q : Ctl × Env) (h' : Hh), purSs pf cs = true → exSs g cs s h = .ok q h' → h' = h
  | [], s, h, q, h', p, e => by simp only [exSs] at e; cases e; rfl
  | c :: r, s, h, q, h', p, e => by
    simp only [purSs, Bool.and_eq_true] at p
    simp only [exSs] at e
    obtain ⟨k, h1, e1, e0⟩ := Res.bind_eq e
    clear e
    have e := e0
    clear e0
    have := purS_ok c _ _ _ _ p.1 e1
    subst this
    split at e
    · exact purSs_ok r _ _ _ _ p.2 e
    · cases e; rfl
end
end
/-- defs that leave the heap as it is -/
def purF (P : Prog) (pf : List Nat) : Bool := pf.all fun f => match P.fns[f]? with | some fn => purSs pf fn.body | none => false
theorem purF_ok {P : Prog} {pf : List Nat} (hp : purF P pf = true) : ∀ (d : Nat), ∀ f ∈ pf, ∀ vs h v h', runF P d f vs h = .ok v h' → h' = h
  | 0, f, hf, vs, h, v, h', e => by simp only [runF] at e; cases e
  | d + 1, f, hf, vs, h, v, h', e => by
    have hb := List.all_eq_true.mp hp f hf
    simp only [runF] at e
    split at e
    case h_2 => cases e
    rename_i fn hfn
    simp only [hfn] at hb
    split at e
    case isFalse => cases e
    obtain ⟨q, h1, e1, e0⟩ := Res.bind_eq e
    clear e
    have e := e0
    clear e0
    have := purSs_ok (g := gOf P (runF P d) h.length) (fun f m vs h v h' z => purF_ok hp d f m vs h v h' z) fn.body _ _ _ _ hb e1
    subst this
    cases hq : q.1 with
    | next =>
      rw [hq] at e
      simp only [retR] at e
      split at e <;> cases e
      · rfl
      · exact List.take_length
    | ret w =>
      rw [hq] at e
      simp only [retR] at e
      split at e
      · cases e; rfl
      · split at e <;> cases e
        exact List.take_length
    | brk => rw [hq] at e; simp only [retR] at e; cases e
    | cont => rw [hq] at e; simp only [retR] at e; cases e
def Res.val {α : Type} : Res α → Option α
  | .ok a _ => some a
  | .bad => none
/-- a run that is told by its value -/
theorem pure_run {P : Prog} {pf : List Nat} (hp : purF P pf = true) {d f : Nat} {vs : List Val} {h : Hh} {v : Val} (hf : f ∈ pf) (e : (runF P d f vs h).val = some v) : runF P d f vs h = .ok v h := by
  cases q : runF P d f vs h with
  | ok w h2 =>
    rw [q] at e
    cases e
    rw [purF_ok hp d f hf _ _ _ _ q]
  | bad => rw [q] at e; cases e
end Co
end

section
set_option linter.all false
set_option maxRecDepth 100000
set_option autoImplicit false
/-! Sz: loops and comprehensions, step by step. -/
namespace Co
open PySem L2
section
variable {g : G} {s : Env} {h : Hh} {Q : Val → Hh → Prop} {QC : Ctl × Env → Hh → Prop} {QI : List Val × Gd → Hh → Prop} {QB : Bool → Hh → Prop} {a b c e it elt : CE} {es ifs : List CE} {vs : List Val} {gd : Gd}
theorem i_range1 (q : Ends (evE g a s h) fun x h1 => ∃ j, x = .int j ∧ (-16777216 ≤ j ∧ j ≤ 16777216) ∧ QI (rangeL 0 j.toNat, []) h1) : Ends (evI g (.range1 a) s h) QI := by
  simp only [evI]; exact .bind q fun x h1 ⟨j, e, c, q⟩ => by subst e; dsimp only; rw [if_pos (show -((lim : Nat) : Int) ≤ j ∧ j ≤ ((lim : Nat) : Int) from c)]; exact .ok q
theorem i_range2 (q : Ends (evE g a s h) fun x h1 => Ends (evE g b s h1) fun y h2 => ∃ i j, x = .int i ∧ y = .int j ∧ (-16777216 ≤ i ∧ i ≤ 16777216 ∧ -16777216 ≤ j ∧ j - i ≤ 16777216 ∧ j ≤ 16777216) ∧ QI (rangeL i (j - i).toNat, []) h2) : Ends (evI g (.range2 a b) s h) QI := by
  simp only [evI]; exact .bind q fun x h1 q1 => .bind q1 fun y h2 ⟨i, j, e1, e2, c, q2⟩ => by subst e1 e2; dsimp only; rw [if_pos (show -((lim : Nat) : Int) ≤ i ∧ i ≤ ((lim : Nat) : Int) ∧ -((lim : Nat) : Int) ≤ j ∧ j - i ≤ ((lim : Nat) : Int) ∧ j ≤ ((lim : Nat) : Int) from c)]; exact .ok q2
theorem i_of (q : Ends (evE g a s h) fun x h1 => ∃ p, itOf h1 x = some p ∧ QI p h1) : Ends (evI g (.of a) s h) QI := by
  simp only [evI]; exact .bind q fun x h1 ⟨p, e, q⟩ => by rw [e]; exact .ok q
theorem i_zip (q : Ends (evE g a s h) fun x h1 => Ends (evE g b s h1) fun y h2 => ∃ p r, itOf2 h2 x = some p ∧ itOf2 h2 y = some r ∧ QI (pairs p.1 r.1, p.2 ++ r.2) h2) : Ends (evI g (.zip a b) s h) QI := by
  simp only [evI]; exact .bind q fun x h1 q1 => .bind q1 fun y h2 ⟨p, r, e1, e2, q2⟩ => by rw [e1, e2]; exact .ok q2
theorem i_zipS (q : Ends (evE g a s h) fun x h1 => ∃ p r, itOf2 h1 x = some p ∧ itsOf h1 p.1 = some r ∧ (0 < p.1.length ∧ p.1.length ≤ 8) ∧ QI (colsL r.1, r.2) h1) : Ends (evI g (.zipS a) s h) QI := by
  simp only [evI]; exact .bind q fun x h1 ⟨p, r, e1, e2, c, q2⟩ => by rw [e1]; dsimp only; rw [e2]; dsimp only; rw [if_pos c]; exact .ok q2
theorem i_enum (q : Ends (evE g a s h) fun x h1 => ∃ p, itOf2 h1 x = some p ∧ QI (enumFrom 0 p.1, p.2) h1) : Ends (evI g (.enum a) s h) QI := by
  simp only [evI]; exact .bind q fun x h1 ⟨p, e, q⟩ => by rw [e]; exact .ok q
theorem c_nil (q : QB true h) : Ends (evC g [] s h) QB := by
  simp only [evC]; exact .ok q
theorem c_cons (q : Ends (evE g c s h) fun x h1 => ∃ k, x = .bl k ∧ (k = true → Ends (evC g es s h1) QB) ∧ (k = false → QB false h1)) : Ends (evC g (c :: es) s h) QB := by
  simp only [evC]; exact .bind q fun x h1 ⟨k, e, q1, q2⟩ => by subst e; cases k; exact .ok (q2 rfl); exact q1 rfl
/-- what a clause does with an item -/
def cStep (g : G) (own tg : List Nat) (one : Bool) (ifs : List CE) (elt : CE) (s : Env) : Val → Hh → Res (Option Val) := fun v h => match setT one tg v h (wipeE s own) with
  | some s1 => (evC g ifs s1 h).bind fun b h2 => if b = true then (evE g elt s1 h2).bind fun x h3 => .ok (some x) h3 else .ok none h2
  | none => .bad
theorem cStep_of {own tg : List Nat} {one : Bool} {v : Val} {s1 : Env} {QO : Option Val → Hh → Prop} (e : setT one tg v h (wipeE s own) = some s1) (q : Ends (evC g ifs s1 h) fun b h2 => (b = true → Ends (evE g elt s1 h2) fun x h3 => QO (some x) h3) ∧ (b = false → QO none h2)) : Ends (cStep g own tg one ifs elt s v h) QO := by
  unfold cStep
  rw [e]
  exact .bind q fun b h2 ⟨q1, q2⟩ => by
    cases b
    · exact .ok (q2 rfl)
    · exact .bind (q1 rfl) fun x h3 q => .ok q
theorem compL_inv {step : Val → Hh → Res (Option Val)} (J : List Val → Hh → Prop) (hgd : ∀ acc h, J acc h → guardOk h gd = true) : ∀ {vs : List Val} {acc : List Val} {h : Hh}, J acc h →
    (∀ v ∈ vs, ∀ acc h, J acc h → Ends (step v h) fun o h2 => J (acc ++ o.toList) h2) → Ends (compL gd step vs h) fun r h2 => J (acc ++ r) h2
  | [], acc, h, j, _ => by
    simp only [compL, hgd _ _ j, if_true]
    exact .ok (by rw [List.append_nil]; exact j)
  | v :: vs, acc, h, j, k => by
    simp only [compL, hgd _ _ j, if_true]
    refine .bind (k v List.mem_cons_self acc h j) fun o h2 j2 => ?_
    refine .bind (compL_inv J hgd j2 fun u m => k u (List.mem_cons_of_mem _ m)) fun r h3 j3 => .ok ?_
    cases o
    · simpa using j3
    · simpa using j3
theorem w_compI {own tg : List Nat} {one : Bool} (q : Ends (evI g it s h) fun p h1 => p.1.length ≤ lim ∧ ∃ J : List Val → Hh → Prop, (∀ acc h, J acc h → guardOk h p.2 = true) ∧ J [] h1 ∧
    (∀ v ∈ p.1, ∀ acc h, J acc h → Ends (cStep g own tg one ifs elt s v h) fun o h2 => J (acc ++ o.toList) h2) ∧ ∀ r h2, J r h2 → Q (.lst r) h2) : Ends (evE g (.comp false own tg one it ifs elt) s h) Q := by
  simp only [evE]
  refine .bind q fun p h1 ⟨l, J, q1, q2, q3, q4⟩ => ?_
  rw [if_pos l]
  refine .bind (compL_inv J q1 (acc := []) q2 q3) fun r h2 j => ?_
  exact .ok (q4 r h2 (by simpa using j))
theorem w_compM {own tg : List Nat} {one : Bool} (q : Ends (evI g it s h) fun p h1 => p.1.length ≤ lim ∧ ∃ J : List Val → Hh → Prop, (∀ acc h, J acc h → guardOk h p.2 = true) ∧ J [] h1 ∧
    (∀ v ∈ p.1, ∀ acc h, J acc h → Ends (cStep g own tg one ifs elt s v h) fun o h2 => J (acc ++ o.toList) h2) ∧ ∀ r h2, J r h2 → Q (.ref h2.length) (h2 ++ [.lst r])) : Ends (evE g (.comp true own tg one it ifs elt) s h) Q := by
  simp only [evE]
  refine .bind q fun p h1 ⟨l, J, q1, q2, q3, q4⟩ => ?_
  rw [if_pos l]
  refine .bind (compL_inv J q1 (acc := []) q2 q3) fun r h2 j => ?_
  exact .ok (q4 r h2 (by simpa using j))
/-- a clause that leaves the heap: by the item's value -/
theorem w_compP {own tg : List Nat} {one : Bool} (f : Val → Option Val) (q : Ends (evI g it s h) fun p h1 => p.1.length ≤ lim ∧ guardOk h1 p.2 = true ∧ (∀ v ∈ p.1, Ends (cStep g own tg one ifs elt s v h1) fun o h2 => o = f v ∧ h2 = h1) ∧ Q (.lst (p.1.filterMap f)) h1) : Ends (evE g (.comp false own tg one it ifs elt) s h) Q := by
  simp only [evE]
  refine .bind q fun p h1 ⟨l, q1, q2, q3⟩ => ?_
  rw [if_pos l]
  have e := compL_fmap (step := cStep g own tg one ifs elt s) (f := f) q1 (vs := p.1) (fun v m => by obtain ⟨o, h2, e, e1, e2⟩ := q2 v m; rw [e, e1, e2])
  refine .bindE e ?_
  exact .ok q3
theorem compL_inv2 {step : Val → Hh → Res (Option Val)} (J : List Val → List Val → Hh → Prop) (hgd : ∀ dn acc h, J dn acc h → guardOk h gd = true) : ∀ {vs : List Val} {dn acc : List Val} {h : Hh}, J dn acc h →
    (∀ v ∈ vs, ∀ dn acc h, J dn acc h → Ends (step v h) fun o h2 => J (dn ++ [v]) (acc ++ o.toList) h2) → Ends (compL gd step vs h) fun r h2 => J (dn ++ vs) (acc ++ r) h2
  | [], dn, acc, h, j, _ => by
    simp only [compL, hgd _ _ _ j, if_true]
    exact .ok (by rw [List.append_nil, List.append_nil]; exact j)
  | v :: vs, dn, acc, h, j, k => by
    simp only [compL, hgd _ _ _ j, if_true]
    refine .bind (k v List.mem_cons_self dn acc h j) fun o h2 j2 => ?_
    refine .bind (compL_inv2 J hgd j2 fun u m => k u (List.mem_cons_of_mem _ m)) fun r h3 j3 => .ok ?_
    cases o
    · simpa using j3
    · simpa using j3
theorem w_compM2 {own tg : List Nat} {one : Bool} (q : Ends (evI g it s h) fun p h1 => p.1.length ≤ lim ∧ ∃ J : List Val → List Val → Hh → Prop, (∀ dn acc h, J dn acc h → guardOk h p.2 = true) ∧ J [] [] h1 ∧
    (∀ v ∈ p.1, ∀ dn acc h, J dn acc h → Ends (cStep g own tg one ifs elt s v h) fun o h2 => J (dn ++ [v]) (acc ++ o.toList) h2) ∧ ∀ r h2, J p.1 r h2 → Q (.ref h2.length) (h2 ++ [.lst r])) : Ends (evE g (.comp true own tg one it ifs elt) s h) Q := by
  simp only [evE]
  refine .bind q fun p h1 ⟨l, J, q1, q2, q3, q4⟩ => ?_
  rw [if_pos l]
  refine .bind (compL_inv2 J q1 (dn := []) (acc := []) q2 q3) fun r h2 j => ?_
  exact .ok (q4 r h2 (by simpa using j))
theorem w_compI2 {own tg : List Nat} {one : Bool} (q : Ends (evI g it s h) fun p h1 => p.1.length ≤ lim ∧ ∃ J : List Val → List Val → Hh → Prop, (∀ dn acc h, J dn acc h → guardOk h p.2 = true) ∧ J [] [] h1 ∧
    (∀ v ∈ p.1, ∀ dn acc h, J dn acc h → Ends (cStep g own tg one ifs elt s v h) fun o h2 => J (dn ++ [v]) (acc ++ o.toList) h2) ∧ ∀ r h2, J p.1 r h2 → Q (.lst r) h2) : Ends (evE g (.comp false own tg one it ifs elt) s h) Q := by
  simp only [evE]
  refine .bind q fun p h1 ⟨l, J, q1, q2, q3, q4⟩ => ?_
  rw [if_pos l]
  refine .bind (compL_inv2 J q1 (dn := []) (acc := []) q2 q3) fun r h2 j => ?_
  exact .ok (q4 r h2 (by simpa using j))
theorem compL_X {α : Type} {step : Val → Hh → Res (Option Val)} {A : α → Val} {B : α → Option Val} (hg : guardOk h gd = true) : ∀ {xs : List α}, (∀ x ∈ xs, Ends (step (A x) h) fun o h2 => o = B x ∧ h2 = h) → compL gd step (xs.map A) h = .ok (xs.filterMap B) h
  | [], _ => by simp only [compL, List.map_nil, hg, if_true, List.filterMap_nil]
  | x :: xs, k => by
    obtain ⟨o, h2, e, e1, e2⟩ := k x List.mem_cons_self
    simp only [compL, List.map_cons, hg, if_true]
    rw [e, e1, e2, Res.bind_ok, compL_X hg fun u m => k u (List.mem_cons_of_mem _ m), Res.bind_ok, List.filterMap_cons]
    cases B x <;> rfl
theorem w_compX {α : Type} {own tg : List Nat} {one : Bool} (xs : List α) (A B : α → Val) (q : Ends (evI g it s h) fun p h1 => p.1 = xs.map A ∧ p.1.length ≤ lim ∧ guardOk h1 p.2 = true ∧ (∀ x ∈ xs, Ends (cStep g own tg one ifs elt s (A x) h1) fun o h2 => o = some (B x) ∧ h2 = h1) ∧ Q (.lst (xs.map B)) h1) : Ends (evE g (.comp false own tg one it ifs elt) s h) Q := by
  simp only [evE]
  refine .bind q fun p h1 ⟨e, l, q1, q2, q3⟩ => ?_
  rw [if_pos l]
  refine .bindE (by rw [e]; exact compL_X (B := fun x => some (B x)) q1 q2) ?_
  have : xs.filterMap (fun x => some (B x)) = xs.map B := by simp
  rw [this]
  exact .ok q3
theorem fm_filter {α : Type} {B : α → Val} {c : α → Bool} : ∀ xs : List α, xs.filterMap (fun x => if c x = true then some (B x) else none) = (xs.filter c).map B
  | [] => rfl
  | x :: xs => by
    rw [List.filterMap_cons, List.filter_cons, fm_filter xs]
    cases hc : c x <;> simp
theorem w_compF {α : Type} {own tg : List Nat} {one : Bool} (xs : List α) (A B : α → Val) (c : α → Bool) (q : Ends (evI g it s h) fun p h1 => p.1 = xs.map A ∧ p.1.length ≤ lim ∧ guardOk h1 p.2 = true ∧ (∀ x ∈ xs, Ends (cStep g own tg one ifs elt s (A x) h1) fun o h2 => o = (if c x = true then some (B x) else none) ∧ h2 = h1) ∧ Q (.lst ((xs.filter c).map B)) h1) : Ends (evE g (.comp false own tg one it ifs elt) s h) Q := by
  simp only [evE]
  refine .bind q fun p h1 ⟨e, l, q1, q2, q3⟩ => ?_
  rw [if_pos l]
  refine .bindE (by rw [e]; exact compL_X (B := fun x => if c x = true then some (B x) else none) q1 q2) ?_
  rw [fm_filter]
  exact .ok q3
theorem forL_inv {step : Val → Env → Hh → Res (Ctl × Env)} (J : List Val → Env → Hh → Prop) (hgd : ∀ r s h, J r s h → guardOk h gd = true) (hend : ∀ s h, J [] s h → QC (.next, s) h)
    (hs : ∀ v r s h, J (v :: r) s h → Ends (step v s h) fun p h1 => (p.1 = .next → J r p.2 h1) ∧ (p.1 = .cont → J r p.2 h1) ∧ (p.1 = .brk → QC (.next, p.2) h1) ∧ ∀ w, p.1 = .ret w → QC (.ret w, p.2) h1) :
    ∀ {vs : List Val} {s : Env} {h : Hh}, J vs s h → Ends (forL gd step vs s h) QC
  | [], s, h, j => by
    simp only [forL, hgd _ _ _ j, if_true]
    exact .ok (hend s h j)
  | v :: vs, s, h, j => by
    simp only [forL, hgd _ _ _ j, if_true]
    refine .bind (hs v vs s h j) fun p h1 q => ?_
    obtain ⟨k, s1⟩ := p
    cases k with
    | next => exact forL_inv J hgd hend hs (q.1 rfl)
    | cont => exact forL_inv J hgd hend hs (q.2.1 rfl)
    | brk => exact .ok (q.2.2.1 rfl)
    | ret w => exact .ok (q.2.2.2 w rfl)
theorem w_for {t : CT} {bd : List CS} (q : Ends (evI g it s h) fun p h1 => ∃ J : List Val → Env → Hh → Prop, (∀ r s h, J r s h → guardOk h p.2 = true) ∧ (∀ s h, J [] s h → QC (.next, s) h) ∧
    (∀ v r s h, J (v :: r) s h → Ends (asgT g t v s h) fun s1 h1 => Ends (exSs g bd s1 h1) fun p h1 => (p.1 = .next → J r p.2 h1) ∧ (p.1 = .cont → J r p.2 h1) ∧ (p.1 = .brk → QC (.next, p.2) h1) ∧ ∀ w, p.1 = .ret w → QC (.ret w, p.2) h1) ∧ J p.1 s h1) :
    Ends (exS g (.for t it bd) s h) QC := by
  simp only [exS]
  refine .bind q fun p h1 ⟨J, q1, q2, q3, q4⟩ => ?_
  exact forL_inv J q1 q2 (fun v r s h j => .bind (q3 v r s h j) fun s1 h1 q => q) q4
theorem l_next {A B : Prop} {QR : Val → Prop} (q : A) : ((Ctl.next, s).1 = .next → A) ∧ ((Ctl.next, s).1 = .cont → A) ∧ ((Ctl.next, s).1 = .brk → B) ∧ ∀ w, (Ctl.next, s).1 = .ret w → QR w := ⟨fun _ => q, (fun z => nomatch z), (fun z => nomatch z), (fun _ z => nomatch z)⟩
theorem w_dct {ks : List Key} (q : Ends (evEs g es s h) fun vs h1 => (ks.length = vs.length ∧ ks.length ≤ 15 ∧ ks.Nodup) ∧ Q (.dct (ks.zip vs)) h1) : Ends (evE g (.dct ks es) s h) Q := by
  simp only [evE]; exact .bind q fun vs h1 ⟨c, q⟩ => by rw [if_pos c]; exact .ok q
end
theorem w_lim {vs : List Val} {A : Prop} (c : vs.length ≤ lim) (q : A) : vs.length ≤ lim ∧ A := ⟨c, q⟩
end Co
end

local macro_rules | `(tactic| walk_at "co st2") => `(tactic| first
  | walk_at "co st1"
  | with_reducible refine Co.i_range1 ?_ | with_reducible refine Co.i_range2 ?_ | with_reducible refine Co.i_of ?_ | with_reducible refine Co.i_zip ?_ | with_reducible refine Co.i_enum ?_ | with_reducible refine Co.i_zipS ?_ | with_reducible refine Co.c_nil ?_ | with_reducible refine Co.c_cons ?_ | with_reducible refine Co.w_dct ?_
  | ((with_reducible apply Co.w_lim); · (show _ ≤ 16777216; simp only [List.length_cons, List.length_nil, Nat.reduceAdd, Nat.reduceLeDiff]; done)))

local macro_rules | `(tactic| walk_at "co sz") => `(tactic| repeat walk_at "co st2")

section
set_option linter.all false
set_option maxRecDepth 100000
set_option autoImplicit false
/-! Tx: texts of integers and of tables, plainly. -/
namespace Co
open PySem L2 TL
def isDig (c : Nat) : Bool := decide (48 ≤ c) && decide (c ≤ 57)
def natW (l : List Nat) : Bool := !l.isEmpty && (l.all isDig && (decide (l = [48]) || decide (l.headD 0 ≠ 48)))
def intW (l : List Nat) : Bool := natW l || (decide (l.headD 0 = 45) && (natW l.tail && decide (l ≠ [45, 48])))
def valW (l : List Nat) : Int := if l.headD 0 = 45 then -((NumText.digitsVal l.tail : Nat) : Int) else ((NumText.digitsVal l : Nat) : Int)
theorem natW_digits {l : List Nat} (h : natW l = true) : NumText.AllDigits l ∧ l ≠ [] := by
  simp only [natW, Bool.and_eq_true, Bool.not_eq_true'] at h
  refine ⟨fun c m => ?_, fun e => by subst e; simp at h⟩
  have := List.all_eq_true.mp h.2.1 c m
  simp only [isDig, Bool.and_eq_true, decide_eq_true_eq] at this
  exact this
theorem intText_W {x : Str} (h : intW (tl x) = true) (l : x.length ≤ 4300) : intText? x = some (valW (tl x)) := by
  by_cases n : natW (tl x) = true
  · obtain ⟨a, b⟩ := natW_digits n
    rw [intText_digits a b l]
    have : (tl x).headD 0 ≠ 45 := by
      cases e : tl x with
      | nil => simp
      | cons c r =>
        have := a c (by rw [e]; exact List.mem_cons_self)
        simp
        omega
    unfold valW
    rw [if_neg this]
  · simp only [intW, Bool.or_eq_true, Bool.and_eq_true, decide_eq_true_eq] at h
    rcases h with h | ⟨h1, h2, h3⟩
    · exact absurd h n
    · obtain ⟨a, b⟩ := natW_digits h2
      have e : tl x = 45 :: (tl x).tail := by
        cases e : tl x with
        | nil => rw [e] at h1; cases h1
        | cons c r => rw [e] at h1; simp at h1; rw [h1]; rfl
      rw [intText_neg e a b l]
      unfold valW
      rw [if_pos h1]
/-! ### great words -/
theorem digitsVal_app (l : List Nat) (c : Nat) : NumText.digitsVal (l ++ [c]) = NumText.digitsVal l * 10 + (c - 48) := by
  simp [NumText.digitsVal, List.foldl_append]
theorem foldl_ge (l : List Nat) : ∀ a : Nat, a * 10 ^ l.length ≤ l.foldl (fun acc c => acc * 10 + (c - 48)) a := by
  induction l with
  | nil => intro a; simp
  | cons c r ih =>
    intro a
    refine Nat.le_trans ?_ (ih _)
    rw [List.length_cons, Nat.pow_succ, Nat.mul_comm (10 ^ r.length), ← Nat.mul_assoc]
    exact Nat.mul_le_mul_right _ (by show a * 10 ≤ a * 10 + (c - 48); omega)
theorem foldl_lt (l : List Nat) (h : NumText.AllDigits l) : ∀ a : Nat, l.foldl (fun acc c => acc * 10 + (c - 48)) a < (a + 1) * 10 ^ l.length := by
  induction l with
  | nil => intro a; simp
  | cons c r ih =>
    intro a
    have hc := h.head
    refine Nat.lt_of_lt_of_le (ih h.tail _) ?_
    rw [List.length_cons, Nat.pow_succ, Nat.mul_comm (10 ^ r.length), ← Nat.mul_assoc]
    exact Nat.mul_le_mul_right _ (by show a * 10 + (c - 48) + 1 ≤ (a + 1) * 10; omega)
theorem digitsVal_lt {l : List Nat} (h : NumText.AllDigits l) : NumText.digitsVal l < 10 ^ l.length := by
  have := foldl_lt l h 0
  simpa [NumText.digitsVal] using this
theorem digitsVal_ge {c : Nat} {l : List Nat} (h : NumText.AllDigits (c :: l)) (c0 : c ≠ 48) : 10 ^ l.length ≤ NumText.digitsVal (c :: l) := by
  have hc := h.head
  have := foldl_ge l (c - 48)
  simp only [NumText.digitsVal, List.foldl_cons, Nat.zero_mul, Nat.zero_add]
  refine Nat.le_trans ?_ this
  calc 10 ^ l.length = 1 * 10 ^ l.length := (Nat.one_mul _).symm
    _ ≤ (c - 48) * 10 ^ l.length := Nat.mul_le_mul_right _ (by omega)
/-- a word of more than ten digits is too great -/
theorem natW_great {l : List Nat} (h : natW l = true) (g : 11 ≤ l.length) : 10 ^ 10 ≤ NumText.digitsVal l := by
  obtain ⟨a, b⟩ := natW_digits h
  cases l with
  | nil => exact absurd rfl b
  | cons c r =>
    simp only [natW, Bool.and_eq_true, Bool.or_eq_true, decide_eq_true_eq] at h
    have c0 : c ≠ 48 := by
      rcases h.2.2 with e | e
      · rw [e] at g
        exact absurd g (by decide)
      · exact e
    refine Nat.le_trans ?_ (digitsVal_ge a c0)
    exact Nat.pow_le_pow_right (by decide) (by rw [List.length_cons] at g; omega)
/-- the number of a word, a great one for a long word -/
def numW (l : List Nat) : Int := if l.length < 30 then valW l else if l.headD 0 = 45 then -(10 ^ 30) else 10 ^ 30
def fitW (l : List Nat) : Bool := intW l && (decide (-1000000000 ≤ numW l) && decide (numW l ≤ 1000000000))
/-- .. as the law reads it -/
def lawW (l : List Nat) : Bool :=
  let g := if l.headD 0 = 45 then l.tail else l
  decide (0 < g.length) && (decide (g.length < 11) && (g.all isDig && (decide (NumText.digitsVal g ≤ 1000000000) && (decide (g.headD 0 ≠ 48) || decide (l = [48])))))
theorem fit_law (l : List Nat) : fitW l = lawW l := by
  rw [Bool.eq_iff_iff]
  constructor
  · intro h
    simp only [fitW, Bool.and_eq_true, decide_eq_true_eq] at h
    obtain ⟨hw, n1, n2⟩ := h
    by_cases n : natW l = true
    · obtain ⟨a, b⟩ := natW_digits n
      have h45 : l.headD 0 ≠ 45 := by
        cases l with
        | nil => simp
        | cons c r => have := a.head; simp; omega
      have len : l.length < 11 := by
        refine Nat.lt_of_not_le fun g => ?_
        have := natW_great n g
        simp only [numW, valW, if_neg h45] at n2
        split at n2 <;> omega
      have v : numW l = ((NumText.digitsVal l : Nat) : Int) := by simp only [numW, valW, if_neg h45]; rw [if_pos (by omega)]
      rw [v] at n2
      simp only [natW, Bool.and_eq_true, Bool.not_eq_true', Bool.or_eq_true, decide_eq_true_eq] at n
      simp only [lawW, if_neg h45, Bool.and_eq_true, Bool.or_eq_true, decide_eq_true_eq]
      refine ⟨List.length_pos_iff.mpr b, len, n.2.1, by omega, ?_⟩
      rcases n.2.2 with e | e
      · exact .inr e
      · exact .inl e
    · simp only [intW, Bool.or_eq_true, Bool.and_eq_true, decide_eq_true_eq] at hw
      rcases hw with hw | ⟨h45, h2, h3⟩
      · exact absurd hw n
      · obtain ⟨a, b⟩ := natW_digits h2
        have len : l.tail.length < 11 := by
          refine Nat.lt_of_not_le fun g => ?_
          have := natW_great h2 g
          simp only [numW, valW, if_pos h45] at n1
          split at n1 <;> omega
        have ll : l.length ≤ l.tail.length + 1 := by rw [List.length_tail]; omega
        have v : numW l = -((NumText.digitsVal l.tail : Nat) : Int) := by simp only [numW, valW, if_pos h45]; rw [if_pos (by omega)]
        rw [v] at n1
        simp only [natW, Bool.and_eq_true, Bool.not_eq_true', Bool.or_eq_true, decide_eq_true_eq] at h2
        simp only [lawW, if_pos h45, Bool.and_eq_true, Bool.or_eq_true, decide_eq_true_eq]
        refine ⟨List.length_pos_iff.mpr b, len, h2.2.1, by omega, .inl ?_⟩
        rcases h2.2.2 with e | e
        · exfalso
          apply h3
          cases l with
          | nil => simp at h45
          | cons c r => simp at h45 e; rw [h45, e]
        · exact e
  · intro h
    by_cases h45 : l.headD 0 = 45
    · simp only [lawW, if_pos h45, Bool.and_eq_true, Bool.or_eq_true, decide_eq_true_eq] at h
      obtain ⟨g0, g1, g2, g3, g4⟩ := h
      have g5 : l.tail.headD 0 ≠ 48 := by
        rcases g4 with e | e
        · exact e
        · rw [e] at h45; simp at h45
      have n : natW l.tail = true := by
        simp only [natW, Bool.and_eq_true, Bool.not_eq_true', Bool.or_eq_true, decide_eq_true_eq]
        refine ⟨?_, g2, .inr g5⟩
        cases e : l.tail with
        | nil => rw [e] at g0; simp at g0
        | cons => rfl
      have ll : l.length ≤ l.tail.length + 1 := by rw [List.length_tail]; omega
      have v : numW l = -((NumText.digitsVal l.tail : Nat) : Int) := by simp only [numW, valW, if_pos h45]; rw [if_pos (by omega)]
      simp only [fitW, intW, Bool.and_eq_true, Bool.or_eq_true, decide_eq_true_eq]
      refine ⟨.inr ⟨h45, n, fun e => ?_⟩, by rw [v]; omega, by rw [v]; omega⟩
      rw [e] at g5
      simp at g5
    · simp only [lawW, if_neg h45, Bool.and_eq_true, Bool.or_eq_true, decide_eq_true_eq] at h
      obtain ⟨g0, g1, g2, g3, g4⟩ := h
      have n : natW l = true := by
        simp only [natW, Bool.and_eq_true, Bool.not_eq_true', Bool.or_eq_true, decide_eq_true_eq]
        refine ⟨?_, g2, ?_⟩
        · cases l with
          | nil => simp at g0
          | cons => rfl
        · rcases g4 with e | e
          · exact .inr e
          · exact .inl e
      have v : numW l = ((NumText.digitsVal l : Nat) : Int) := by simp only [numW, valW, if_neg h45]; rw [if_pos (by omega)]
      simp only [fitW, intW, Bool.and_eq_true, Bool.or_eq_true, decide_eq_true_eq]
      exact ⟨.inl n, by rw [v]; omega, by rw [v]; omega⟩
/-! ### tables -/
def slash : Str := ⟨#[32, 47, 32]⟩
def blankS : Str := ⟨#[32]⟩
def wordsT (t : Str) : List (List Str) := (Txt.split t slash).map fun l => Txt.split l blankS
/-- the rows of a text -/
def readT (t : Str) : Option (List (List Int)) :=
  let ws := wordsT t
  if ws.length ≤ 6 ∧ (∀ l ∈ ws, l.length = ws.length) ∧ (∀ l ∈ ws, ∀ w ∈ l, fitW (tl w) = true) then some (ws.map fun l => l.map fun w => numW (tl w)) else none
end Co
end

section
set_option linter.all false
set_option maxRecDepth 100000
set_option autoImplicit false
/-! Sx: more steps. -/
namespace Co
open PySem L2 TL
/-- ends in a value, and leaves the heap -/
abbrev Gives {α : Type} (r : Res α) (a : α) (h : Hh) : Prop := r = .ok a h
section
variable {g : G} {s : Env} {h : Hh} {Q : Val → Hh → Prop} {a b c e it elt : CE} {es : List CE} {x y : Bool}
theorem gives_ends {α : Type} {r : Res α} {a : α} {h : Hh} (e : Ends r fun v h1 => v = a ∧ h1 = h) : r = .ok a h := by
  obtain ⟨v, h1, e, rfl, rfl⟩ := e
  exact e
theorem ends_of {α : Type} {r : Res α} {a : α} {h : Hh} {P : α → Hh → Prop} (e : r = .ok a h) (q : P a h) : Ends r P := ⟨a, h, e, q⟩
theorem w_andP (x y : Bool) (ha : Ends (evE g a s h) fun v h1 => v = .bl x ∧ h1 = h) (hb : x = true → Ends (evE g b s h) fun v h1 => v = .bl y ∧ h1 = h) (q : Q (.bl (x && y)) h) : Ends (evE g (.and a b) s h) Q := by
  refine w_and (ha.mono ?_)
  rintro v h1 ⟨rfl, rfl⟩
  refine ⟨x, rfl, fun z => ?_, fun z => ?_⟩
  · refine (hb z).mono ?_
    rintro v h2 ⟨rfl, rfl⟩
    subst z
    exact q
  · subst z
    exact q
theorem w_orP (x y : Bool) (ha : Ends (evE g a s h) fun v h1 => v = .bl x ∧ h1 = h) (hb : x = false → Ends (evE g b s h) fun v h1 => v = .bl y ∧ h1 = h) (q : Q (.bl (x || y)) h) : Ends (evE g (.or a b) s h) Q := by
  refine w_or (ha.mono ?_)
  rintro v h1 ⟨rfl, rfl⟩
  refine ⟨x, rfl, fun z => ?_, fun z => ?_⟩
  · subst z
    exact q
  · refine (hb z).mono ?_
    rintro v h2 ⟨rfl, rfl⟩
    subst z
    exact q
theorem all_bl {h : Hh} (bs : List Bool) : Co.bi .all (asL [.lst (bs.map .bl)] h) = some (.bl (bs.all id)) := by
  have : ∀ bs : List Bool, blsV (bs.map .bl) = some bs := fun bs => by
    induction bs with
    | nil => rfl
    | cons b r ih => simp [blsV, ih]
  show (blsV (bs.map .bl)).map (fun bs => Val.bl (bs.all id)) = _
  rw [this]
  rfl
theorem any_bl {h : Hh} (bs : List Bool) : Co.bi .any (asL [.lst (bs.map .bl)] h) = some (.bl (bs.any id)) := by
  have : ∀ bs : List Bool, blsV (bs.map .bl) = some bs := fun bs => by
    induction bs with
    | nil => rfl
    | cons b r ih => simp [blsV, ih]
  show (blsV (bs.map .bl)).map (fun bs => Val.bl (bs.any id)) = _
  rw [this]
  rfl
theorem all_map {α : Type} {h : Hh} (xs : List α) (f : α → Bool) : Co.bi .all (asL [.lst (xs.map fun x => .bl (f x))] h) = some (.bl (xs.all f)) := by
  have := all_bl (h := h) (xs.map f)
  rw [List.map_map] at this
  rw [show (xs.map fun x => Val.bl (f x)) = xs.map (Val.bl ∘ f) from rfl, this]
  simp [List.all_map]
theorem any_map {α : Type} {h : Hh} (xs : List α) (f : α → Bool) : Co.bi .any (asL [.lst (xs.map fun x => .bl (f x))] h) = some (.bl (xs.any f)) := by
  have := any_bl (h := h) (xs.map f)
  rw [List.map_map] at this
  rw [show (xs.map fun x => Val.bl (f x)) = xs.map (Val.bl ∘ f) from rfl, this]
  simp [List.any_map]
theorem sum_map {α : Type} {h : Hh} (xs : List α) (f : α → Int) : Co.bi .sum (asL [.lst (xs.map fun x => .int (f x))] h) = some (.int (xs.map f).sum) := by
  have : ∀ bs : List Int, intsV (bs.map .int) = some bs := fun bs => by
    induction bs with
    | nil => rfl
    | cons b r ih => simp [intsV, ih]
  show (intsV (xs.map fun x => .int (f x))).map (fun l => Val.int l.sum) = _
  rw [show (xs.map fun x => Val.int (f x)) = (xs.map f).map .int from by rw [List.map_map]; rfl, this]
  rfl
/-- a clause without a test over known items -/
theorem w_compP1 {α : Type} {own tg : List Nat} {one : Bool} (xs : List α) (A B : α → Val) (hit : Ends (evI g it s h) fun p h1 => p.1 = xs.map A ∧ p.2 = [] ∧ h1 = h) (hl : xs.length ≤ 16777216)
    (each : ∀ x ∈ xs, ∃ s1, setT one tg (A x) h (wipeE s own) = some s1 ∧ Ends (evE g elt s1 h) fun v h1 => v = B x ∧ h1 = h) (q : Q (.lst (xs.map B)) h) : Ends (evE g (.comp false own tg one it [] elt) s h) Q := by
  refine w_compX xs A B (hit.mono ?_)
  rintro ⟨p1, p2⟩ h1 ⟨e1, e2, rfl⟩
  dsimp only at e1 e2
  subst e1 e2
  refine ⟨rfl, by dsimp only; rw [List.length_map]; exact hl, rfl, fun x hx => ?_, q⟩
  obtain ⟨s1, e, w⟩ := each x hx
  refine cStep_of e (c_nil ⟨fun _ => w.mono ?_, fun z => nomatch z⟩)
  rintro v h2 ⟨rfl, rfl⟩
  exact ⟨rfl, rfl⟩
/-- .. with a test -/
theorem w_compF1 {α : Type} {own tg : List Nat} {one : Bool} (xs : List α) (A B : α → Val) (f : α → Bool) (hit : Ends (evI g it s h) fun p h1 => p.1 = xs.map A ∧ p.2 = [] ∧ h1 = h) (hl : xs.length ≤ 16777216)
    (each : ∀ x ∈ xs, ∃ s1, setT one tg (A x) h (wipeE s own) = some s1 ∧ (Ends (evE g c s1 h) fun v h1 => v = .bl (f x) ∧ h1 = h) ∧ (f x = true → Ends (evE g elt s1 h) fun v h1 => v = B x ∧ h1 = h)) (q : Q (.lst ((xs.filter f).map B)) h) : Ends (evE g (.comp false own tg one it [c] elt) s h) Q := by
  refine w_compF xs A B f (hit.mono ?_)
  rintro ⟨p1, p2⟩ h1 ⟨e1, e2, rfl⟩
  dsimp only at e1 e2
  subst e1 e2
  refine ⟨rfl, by dsimp only; rw [List.length_map]; exact hl, rfl, fun x hx => ?_, q⟩
  obtain ⟨s1, e, wc, w⟩ := each x hx
  refine cStep_of e (c_cons (wc.mono ?_))
  rintro v h2 ⟨rfl, rfl⟩
  refine ⟨f x, rfl, fun z => c_nil ⟨fun _ => (w z).mono ?_, (fun z => nomatch z)⟩, fun z => ⟨(fun z => nomatch z), fun _ => ⟨by rw [if_neg (by rw [z]; exact Bool.false_ne_true)], rfl⟩⟩⟩
  rintro v h3 ⟨rfl, rfl⟩
  exact ⟨by rw [if_pos z], rfl⟩
theorem w_allP {α : Type} {own tg : List Nat} {one : Bool} (xs : List α) (A : α → Val) (f : α → Bool) (hit : Ends (evI g it s h) fun p h1 => p.1 = xs.map A ∧ p.2 = [] ∧ h1 = h) (hl : xs.length ≤ 16777216)
    (each : ∀ x ∈ xs, ∃ s1, setT one tg (A x) h (wipeE s own) = some s1 ∧ Ends (evE g elt s1 h) fun v h1 => v = .bl (f x) ∧ h1 = h) (q : Q (.bl (xs.all f)) h) : Ends (evE g (.callB .all [.comp false own tg one it [] elt]) s h) Q :=
  w_callB (w_cons rfl (w_compP1 xs A (fun x => .bl (f x)) hit hl each (w_nil (w_opt (all_map xs f) q))))
theorem w_anyP {α : Type} {own tg : List Nat} {one : Bool} (xs : List α) (A : α → Val) (f : α → Bool) (hit : Ends (evI g it s h) fun p h1 => p.1 = xs.map A ∧ p.2 = [] ∧ h1 = h) (hl : xs.length ≤ 16777216)
    (each : ∀ x ∈ xs, ∃ s1, setT one tg (A x) h (wipeE s own) = some s1 ∧ Ends (evE g elt s1 h) fun v h1 => v = .bl (f x) ∧ h1 = h) (q : Q (.bl (xs.any f)) h) : Ends (evE g (.callB .any [.comp false own tg one it [] elt]) s h) Q :=
  w_callB (w_cons rfl (w_compP1 xs A (fun x => .bl (f x)) hit hl each (w_nil (w_opt (any_map xs f) q))))
theorem w_sumP {α : Type} {own tg : List Nat} {one : Bool} (xs : List α) (A : α → Val) (f : α → Int) (hit : Ends (evI g it s h) fun p h1 => p.1 = xs.map A ∧ p.2 = [] ∧ h1 = h) (hl : xs.length ≤ 16777216)
    (each : ∀ x ∈ xs, ∃ s1, setT one tg (A x) h (wipeE s own) = some s1 ∧ Ends (evE g elt s1 h) fun v h1 => v = .int (f x) ∧ h1 = h) (q : Q (.int (xs.map f).sum) h) : Ends (evE g (.callB .sum [.comp false own tg one it [] elt]) s h) Q :=
  w_callB (w_cons rfl (w_compP1 xs A (fun x => .int (f x)) hit hl each (w_nil (w_opt (sum_map xs f) q))))
theorem w_tupP {α : Type} {own tg : List Nat} {one : Bool} (xs : List α) (A B : α → Val) (hit : Ends (evI g it s h) fun p h1 => p.1 = xs.map A ∧ p.2 = [] ∧ h1 = h) (hl : xs.length ≤ 16777216)
    (each : ∀ x ∈ xs, ∃ s1, setT one tg (A x) h (wipeE s own) = some s1 ∧ Ends (evE g elt s1 h) fun v h1 => v = B x ∧ h1 = h) (q : Q (.tup (xs.map B)) h) : Ends (evE g (.callB .tuple [.comp false own tg one it [] elt]) s h) Q :=
  w_callB (w_cons rfl (w_compP1 xs A B hit hl each (w_nil (w_opt ri_Tl q))))
end
theorem len_strT {h : Hh} {t : Str} (l : t.length ≤ lim) : Co.bi .len (asL [.str t] h) = some (.int t.length) := by
  show (if t.length ≤ lim then some (Val.int t.length) else none) = _
  rw [if_pos l]
theorem slice_strT {h : Hh} {t : Str} {lo hi : Option Int} (l : t.length ≤ lim) : sliceV (rd h (.str t)) lo hi = some (.str (cutS t lo hi)) := by
  show (if t.length ≤ lim then some (Val.str (cutS t lo hi)) else none) = _
  rw [if_pos l]
theorem eq_str {h h2 : Hh} {x y : Str} : cop .Eq (rd h (.str x)) (rd h2 (.str y)) = some (decide (x = y)) := rfl
theorem ne_str {h h2 : Hh} {x y : Str} : cop .NotEq (rd h (.str x)) (rd h2 (.str y)) = some (!decide (x = y)) := rfl
theorem eq_intZ {h h2 : Hh} {i j : Int} : cop .Eq (rd h (.int i)) (rd h2 (.int j)) = some (decide (i = j)) := by
  show eqD (.int i) (.int j) = _
  simp only [eqD, toD, PyData.eqv, Option.bind_some, Option.map_some]
  rw [show (i == j) = decide (i = j) from by by_cases q : i = j <;> simp [q]]
theorem ne_intZ {h h2 : Hh} {i j : Int} : cop .NotEq (rd h (.int i)) (rd h2 (.int j)) = some (!decide (i = j)) := by
  show (eqD (.int i) (.int j)).map not = _
  rw [show eqD (.int i) (.int j) = some (decide (i = j)) from eq_intZ (h := []) (h2 := [])]
  rfl
theorem tl_ext {x y : Str} : x = y ↔ tl x = tl y := by
  constructor
  · intro e; rw [e]
  · intro e
    cases x; cases y
    simp only [tl] at e
    congr 1
    exact Array.toList_inj.mp e
theorem tl_len (x : Str) : (tl x).length = x.length := Array.length_toList
theorem one_sign {c : Nat} {h h2 : Hh} {l : List Nat} : cop .In (rd h (.str ⟨#[c]⟩)) (rd h2 (.str ⟨⟨l⟩⟩)) = some (decide (c ∈ l)) := rfl
theorem no_sign {c : Nat} {h h2 : Hh} {l : List Nat} : cop .NotIn (rd h (.str ⟨#[c]⟩)) (rd h2 (.str ⟨⟨l⟩⟩)) = some (!decide (c ∈ l)) := rfl
theorem idx_str0 {h : Hh} {t : Str} (l : t.length ≤ lim) {c : Nat} {r : List Nat} (e : tl t = c :: r) : idxV (rd h (.str t)) (.int 0) = some (.str ⟨#[c]⟩) := by
  show (if t.length ≤ lim then (atI t.cps.toList 0).map fun c => Val.str ⟨#[c]⟩ else none) = _
  rw [if_pos l, show t.cps.toList = c :: r from e, at0]
  rfl
theorem dig_mem (c : Nat) : decide (c ∈ [48, 49, 50, 51, 52, 53, 54, 55, 56, 57]) = isDig c := by
  unfold isDig
  rw [Bool.eq_iff_iff]
  simp only [List.mem_cons, List.not_mem_nil, or_false, decide_eq_true_eq, Bool.and_eq_true]
  omega
theorem signs_of {h : Hh} {t : Str} : itOf h (.str t) = some ((tl t).map fun c => .str ⟨#[c]⟩, []) := rfl
/-- cuts at the first sign -/
theorem cut_first (t : Str) : tl (cutS t none (some 1)) = (tl t).take 1 := by
  show ((tl t).drop 0).take (HT.sIx t.length t.length (some ((1 : Nat) : Int)) - 0) = _
  rw [HT.sIx_nat, List.drop_zero, Nat.sub_zero, ← tl_len, ← List.take_take, List.take_length]
theorem cut_rest (t : Str) : tl (cutS t (some 1) none) = (tl t).tail := by
  show ((tl t).drop (HT.sIx t.length 0 (some ((1 : Nat) : Int)))).take (t.length - HT.sIx t.length 0 (some ((1 : Nat) : Int))) = _
  rw [HT.sIx_nat, ← tl_len]
  rw [List.take_of_length_le (by rw [List.length_drop]; exact Nat.le_refl _)]
  cases tl t with
  | nil => rfl
  | cons c r => simp

/-! ### values without objects -/
mutual
def fz : Val → Bool
  | .tup vs => fzL vs
  | .lst vs => fzL vs
  | .ro vs => fzL vs
  | .dct kvs => fzK kvs
  | .ins _ _ => false
  | .ref _ => false
  | _ => true
def fzL : List Val → Bool
  | [] => true
  | v :: r => fz v && fzL r
def fzK : List (Key × Val) → Bool
  | [] => true
  | (_, v) :: r => fz v && fzK r
end
theorem fzL_all {vs : List Val} : fzL vs = true ↔ ∀ v ∈ vs, fz v = true := by
  induction vs with
  | nil => simp [fzL]
  | cons v r ih => simp [fzL, ih]
mutual
theorem fz_below (n : Nat) : ∀ v : Val, fz v = true → below n v = true
  | .non, _ => rfl
  | .bl _, _ => rfl
  | .int _, _ => rfl
  | .str _, _ => rfl
  | .tup vs, h => by simp only [fz] at h; simp only [below]; exact fz_belowL n vs h
  | .lst vs, h => by simp only [fz] at h; simp only [below]; exact fz_belowL n vs h
  | .ro vs, h => by simp only [fz] at h; simp only [below]; exact fz_belowL n vs h
  | .dct kvs, h => by simp only [fz] at h; simp only [below]; exact fz_belowK n kvs h
  | .ins _ _, h => by simp [fz] at h
  | .ref _, h => by simp [fz] at h
theorem fz_belowL (n : Nat) : ∀ vs : List Val, fzL vs = true → belowL n vs = true
  | [], _ => rfl
  | v :: r, h => by
    simp only [fzL, Bool.and_eq_true] at h
    simp only [belowL, fz_below n v h.1, fz_belowL n r h.2, Bool.and_self]
theorem fz_belowK (n : Nat) : ∀ vs : List (Key × Val), fzK vs = true → belowK n vs = true
  | [], _ => rfl
  | (_, v) :: r, h => by
    simp only [fzK, Bool.and_eq_true] at h
    simp only [belowK, fz_below n v h.1, fz_belowK n r h.2, Bool.and_self]
end
theorem rd_fz {h : Hh} {v : Val} (f : fz v = true) : rd h v = v := by cases v <;> first | rfl | (simp [fz] at f)
theorem kind_fz {n : Nat} {h : Hh} {v : Val} (f : fz v = true) : kindOk n h v = true := by cases v <;> first | rfl | (simp [fz] at f)
theorem w_backF {b : Nat} {v : Val} {h : Hh} {Q : Val → Hh → Prop} (f : fz v = true) (q : Q v (h.take b)) : Ends (retR false b (.ret v) h) Q := w_back (frz_low (fz_below b v f)) q
def isZ : Val → Bool
  | .int _ => true
  | _ => false
def btw (v : Val) (lo hi : Int) : Bool := match v with
  | .int i => decide (lo ≤ i) && decide (i ≤ hi)
  | _ => false
def numsV : Val → Bool
  | .tup vs => vs.all fun v => btw v (-1000000000) 1000000000
  | _ => false
theorem isI_int {h : Hh} {v : Val} (f : fz v = true) : (isIns h .int v && !isIns h .bool v) = isZ v := by cases v <;> first | rfl | (simp [fz] at f)
theorem fz_ints : ∀ r : List Int, fzL (r.map .int) = true
  | [] => rfl
  | x :: r => by simp [fzL, fz, fz_ints r]
def tupI (r : List Int) : Val := .tup (r.map .int)
def tupV (m : List (List Int)) : Val := .tup (m.map tupI)
theorem fz_tupI (r : List Int) : fz (tupI r) = true := fz_ints r
theorem fz_tupV (m : List (List Int)) : fz (tupV m) = true := fzL_all.mpr fun v hv => by
  obtain ⟨r, _, rfl⟩ := List.mem_map.mp hv
  exact fz_tupI r
theorem split_go {g : G} {t y : Str} {h : Hh} (l : (y.length == 0) = false) (e : t.length + 2 ≤ lim) : meM g .split (.str t) [.str y] h = .ok (.lst ((Txt.split t y).map .str)) h := by
  show opt (if (y.length == 0) = false ∧ t.length + 2 ≤ lim then some (Val.lst ((Txt.split t y).map .str)) else none) h = _
  rw [if_pos ⟨l, e⟩]
  rfl
theorem rangeL_map (n : Nat) : rangeL 0 n = (List.range n).map fun i => .int (i : Nat) := by
  have : ∀ (n lo : Nat), rangeL lo n = (List.range' lo n).map fun i => .int (i : Nat) := fun n => by
    induction n with
    | zero => intro lo; rfl
    | succ n ih =>
      intro lo
      have := ih (lo + 1)
      simp only [rangeL, List.range'_succ, List.map_cons]
      rw [show ((lo : Int) + 1) = ((lo + 1 : Nat) : Int) from rfl, this]
  rw [List.range_eq_range']
  exact this n 0

theorem w_chain {g : G} {s : Env} {h : Hh} {Q : Val → Hh → Prop} {a b c : CE} {o1 o2 : CmpOp} (q : Ends (evE g a s h) fun x h1 => Ends (evE g b s h1) fun y h2 => ∃ k, cop o1 (rd h2 x) (rd h2 y) = some k ∧ (k = true → Ends (evE g c s h2) fun z h3 => Ends (opt ((cop o2 (rd h3 y) (rd h3 z)).map .bl) h3) Q) ∧ (k = false → Q (.bl false) h2)) : Ends (evE g (.chain o1 o2 a b c) s h) Q := by
  simp only [evE]
  refine .bind q fun x h1 q => .bind q fun y h2 ⟨k, e, q1, q2⟩ => ?_
  rw [e]
  cases k
  · exact .ok (q2 rfl)
  · exact .bind (q1 rfl) fun z h3 q => q
theorem w_chainI {g : G} {s : Env} {h : Hh} {Q : Val → Hh → Prop} {a b c : CE} {o1 o2 : CmpOp} {x y z : Val} (k1 k2 : Bool) (ha : Ends (evE g a s h) fun v h1 => v = x ∧ h1 = h) (hb : Ends (evE g b s h) fun v h1 => v = y ∧ h1 = h) (hc : Ends (evE g c s h) fun v h1 => v = z ∧ h1 = h)
    (e1 : cop o1 (rd h x) (rd h y) = some k1) (e2 : cop o2 (rd h y) (rd h z) = some k2) (q : Q (.bl (k1 && k2)) h) : Ends (evE g (.chain o1 o2 a b c) s h) Q := by
  refine w_chain (ha.mono ?_)
  rintro v h1 ⟨rfl, rfl⟩
  refine hb.mono ?_
  rintro v h1 ⟨rfl, rfl⟩
  refine ⟨k1, e1, fun z => hc.mono ?_, fun z => by rw [z] at q; exact q⟩
  rintro v h1 ⟨rfl, rfl⟩
  rw [e2]
  rw [z] at q
  exact .ok q
theorem tl_lit {l : List Nat} : tl ⟨⟨l⟩⟩ = l := rfl
theorem tl_one {c : Nat} : tl ⟨#[c]⟩ = [c] := rfl
theorem isZ_int {v : Val} (z : isZ v = true) : ∃ i, v = .int i := by cases v <;> first | exact ⟨_, rfl⟩ | cases z
theorem isI_tup {h : Hh} {v : Val} (f : fz v = true) (z : isIns h .tuple v = true) : ∃ vs, v = .tup vs := by cases v <;> first | exact ⟨_, rfl⟩ | cases z | cases f
theorem first_is (t : Str) (c : Nat) (c0 : c ≠ 0) : decide (cutS t none (some 1) = ⟨⟨[c]⟩⟩) = decide ((tl t).headD 0 = c) := by
  have e : (cutS t none (some 1) = ⟨⟨[c]⟩⟩) ↔ ((tl t).headD 0 = c) := by
    rw [tl_ext, cut_first]
    show (tl t).take 1 = [c] ↔ _
    generalize tl t = u
    cases u with
    | nil => simp; omega
    | cons x r => simp
  exact decide_eq_decide.mpr e
/-! ### equal tuples -/
theorem toDL_ints (k : Nat) : ∀ a : List Int, toDL (k + 1) (a.map .int) = some (a.map .int)
  | [] => rfl
  | x :: a => by simp [toDL, toD, toDL_ints k a]
theorem toD_tupI (k : Nat) (a : List Int) : toD (k + 2) (tupI a) = some (.tuple (a.map .int)) := by
  simp only [tupI, toD, toDL_ints, Option.map_some]
theorem eqv_ints : ∀ a b : List Int, PyData.eqvAll (a.map .int) (b.map .int) = decide (a = b)
  | [], [] => rfl
  | [], _ :: _ => rfl
  | _ :: _, [] => rfl
  | x :: a, y :: b => by
    have : (x == y) = decide (x = y) := by by_cases q : x = y <;> simp [q]
    simp only [List.map_cons, PyData.eqvAll, PyData.eqv, eqv_ints a b, List.cons.injEq, Bool.decide_and, this]
theorem eqD_tupI (a b : List Int) : eqD (tupI a) (tupI b) = some (decide (a = b)) := by
  simp only [eqD, toD_tupI 58, Option.bind_some, Option.map_some, PyData.eqv, eqv_ints]
theorem rd_tupI {h : Hh} {a : List Int} : rd h (tupI a) = tupI a := rfl
theorem eq_tupI {h h2 : Hh} {a b : List Int} : cop .Eq (rd h (tupI a)) (rd h2 (tupI b)) = some (decide (a = b)) := eqD_tupI a b
theorem ne_tupI {h h2 : Hh} {a b : List Int} : cop .NotEq (rd h (tupI a)) (rd h2 (tupI b)) = some (!decide (a = b)) := by
  show (eqD (tupI a) (tupI b)).map not = _
  rw [eqD_tupI]
  rfl
theorem len_tupI {h : Hh} {a : List Int} : Co.bi .len (asL [tupI a] h) = some (.int (a.length : Nat)) := by
  show some (Val.int ((a.map Val.int).length : Nat)) = _
  rw [List.length_map]
theorem len_tupV {h : Hh} {m : List (List Int)} : Co.bi .len (asL [tupV m] h) = some (.int (m.length : Nat)) := by
  show some (Val.int ((m.map tupI).length : Nat)) = _
  rw [List.length_map]
theorem idx_tupI {h : Hh} {a : List Int} {i : Int} (k : Nat) (l : k < a.length) (q : i = k) : idxV (rd h (tupI a)) (.int i) = some (.int (a.getD k 0)) := by
  refine atI_at k ?_ q
  rw [List.getElem?_map, List.getElem?_eq_getElem l]
  simp [List.getElem?_eq_getElem l]
theorem idx_tupV {h : Hh} {m : List (List Int)} {i : Int} (k : Nat) (l : k < m.length) (q : i = k) : idxV (rd h (tupV m)) (.int i) = some (tupI (m.getD k [])) := by
  refine atI_at k ?_ q
  rw [List.getElem?_map, List.getElem?_eq_getElem l]
  simp [List.getElem?_eq_getElem l]
/-! ### rows and standings -/
def dot (r v : List Int) : Int := (List.zipWith (· * ·) r v).sum
def ledM (m : List (List Int)) (v : List Int) : List Int := m.map fun r => dot r v
def itM (m : List (List Int)) : Nat → List Int → List Int
  | 0, v => v
  | k + 1, v => itM m k (ledM m v)
theorem itM_succ (m : List (List Int)) : ∀ (k : Nat) (v : List Int), itM m (k + 1) v = ledM m (itM m k v)
  | 0, _ => rfl
  | k + 1, v => by
    show itM m (k + 1) (ledM m v) = ledM m (itM m k (ledM m v))
    exact itM_succ m k (ledM m v)
theorem itM_add (m : List (List Int)) (j : Nat) : ∀ (k : Nat) (v : List Int), itM m (k + j) v = itM m j (itM m k v)
  | 0, v => by rw [Nat.zero_add]; rfl
  | k + 1, v => by rw [Nat.succ_add]; exact itM_add m j k (ledM m v)
/-- a square table -/
def Sqr (m : List (List Int)) : Prop := ∀ r ∈ m, r.length = m.length
/-- .. with no number beyond the bound -/
def Bdd (B : Int) (m : List (List Int)) : Prop := ∀ r ∈ m, ∀ x ∈ r, -B ≤ x ∧ x ≤ B
theorem ledM_len {m : List (List Int)} {v : List Int} : (ledM m v).length = m.length := by unfold ledM; rw [List.length_map]
theorem itM_len {m : List (List Int)} : ∀ (k : Nat) {v : List Int}, v.length = m.length → (itM m k v).length = m.length
  | 0, _, h => h
  | k + 1, _, _ => itM_len k ledM_len
theorem dot_range : ∀ (r v : List Int) (n : Nat), r.length = n → v.length = n → ((List.range n).map fun i => r.getD i 0 * v.getD i 0).sum = dot r v
  | [], [], n, h, _ => by subst h; rfl
  | [], _ :: _, n, h, h2 => by subst h; cases h2
  | _ :: _, [], n, h, h2 => by subst h2; cases h
  | x :: r, y :: v, n, h, h2 => by
    obtain ⟨n, rfl⟩ : ∃ k, n = k + 1 := ⟨r.length, by rw [← h]; rfl⟩
    have := dot_range r v n (by simpa using h) (by simpa using h2)
    rw [List.range_succ_eq_map, List.map_cons, List.map_map, List.sum_cons]
    unfold dot at this ⊢
    rw [List.zipWith_cons_cons, List.sum_cons, ← this]
    rfl
/-- the first time at which a standing is back -/
def retM (m : List (List Int)) (v : List Int) : Nat → Nat → List Int → Option Nat
  | 0, _, _ => none
  | n + 1, t, w => let w2 := ledM m w; if w2 = v then some (t + 1) else retM m v n (t + 1) w2
def perM (N : Nat) (m : List (List Int)) (v : List Int) : Option Nat := retM m v N 0 v
theorem retM_some {m : List (List Int)} {v : List Int} : ∀ (n t : Nat) (w : List Int) (k : Nat), retM m v n t w = some k → t < k ∧ k ≤ t + n ∧ itM m (k - t) w = v ∧ ∀ j, 0 < j → j < k - t → itM m j w ≠ v
  | 0, _, _, _, h => by cases h
  | n + 1, t, w, k, h => by
    simp only [retM] at h
    split at h
    · rename_i e
      cases h
      refine ⟨by omega, by omega, ?_, fun j a b => by omega⟩
      rw [show t + 1 - t = 1 from by omega]
      exact e
    · rename_i ne
      obtain ⟨a, b, c, d⟩ := retM_some n (t + 1) _ k h
      refine ⟨by omega, by omega, ?_, fun j j0 jl => ?_⟩
      · rw [show k - t = (k - (t + 1)) + 1 from by omega]
        exact c
      · obtain ⟨i, rfl⟩ : ∃ i, j = i + 1 := ⟨j - 1, by omega⟩
        by_cases z : i = 0
        · subst z; exact ne
        · exact d i (by omega) (by omega)
theorem retM_none {m : List (List Int)} {v : List Int} : ∀ (n t : Nat) (w : List Int), retM m v n t w = none → ∀ j, 0 < j → j ≤ n → itM m j w ≠ v
  | 0, _, _, _ => fun j a b => by omega
  | n + 1, t, w, h => fun j a b => by
    simp only [retM] at h
    split at h
    · cases h
    · rename_i ne
      obtain ⟨i, rfl⟩ : ∃ i, j = i + 1 := ⟨j - 1, by omega⟩
      by_cases z : i = 0
      · subst z; exact ne
      · exact retM_none n (t + 1) _ h i (by omega) (by omega)
/-- .. it is the one at which it is back, and not before -/
theorem perM_some {N : Nat} {m : List (List Int)} {v : List Int} {k : Nat} : perM N m v = some k ↔ 0 < k ∧ k ≤ N ∧ itM m k v = v ∧ ∀ j, 0 < j → j < k → itM m j v ≠ v := by
  constructor
  · intro h
    obtain ⟨a, b, c, d⟩ := retM_some N 0 v k h
    exact ⟨a, by omega, c, d⟩
  · rintro ⟨a, b, c, d⟩
    cases e : perM N m v with
    | none => exact absurd c (retM_none N 0 v e k a b)
    | some j =>
      obtain ⟨a2, b2, c2, d2⟩ := retM_some N 0 v j e
      simp only [Nat.sub_zero] at c2 d2
      by_cases l : j < k
      · exact absurd c2 (d j a2 l)
      · by_cases l2 : k < j
        · exact absurd c (d2 k a l2)
        · rw [show j = k from by omega]
theorem perM_none {N : Nat} {m : List (List Int)} {v : List Int} : perM N m v = none ↔ ∀ j, 0 < j → j ≤ N → itM m j v ≠ v := by
  constructor
  · exact retM_none N 0 v
  · intro h
    cases e : perM N m v with
    | none => rfl
    | some k =>
      obtain ⟨a, b, c, _⟩ := perM_some.mp e
      exact absurd c (h k a b)
/-- the standing that a value is, of so many counters -/
def intsOf : List Val → List Int
  | .int i :: r => i :: intsOf r
  | _ :: r => intsOf r
  | [] => []
def tupLen (v : Val) (n : Nat) : Bool := match v with
  | .tup vs => decide (vs.length = n)
  | _ => false
def stOf (v : Val) (n : Nat) : Option (List Int) := match v with
  | .tup vs => if numsV (.tup vs) = true ∧ vs.length = n then some (intsOf vs) else none
  | _ => none
theorem ints_back : ∀ vs : List Val, (vs.all fun v => btw v (-1000000000) 1000000000) = true → vs = (intsOf vs).map .int
  | [], _ => rfl
  | v :: r, h => by
    simp only [List.all_cons,
                            Bool.and_eq_true] at h
    cases v <;> first | (simp [btw] at h; done) | skip
    simp only [intsOf, List.map_cons]
    rw [← ints_back r h.2]
theorem stOf_some {v : Val} {n : Nat} {u : List Int} (h : stOf v n = some u) : v = tupI u ∧ u.length = n ∧ ∀ x ∈ u, -1000000000 ≤ x ∧ x ≤ 1000000000 := by
  cases v <;> first | (simp [stOf] at h; done) | skip
  rename_i vs
  simp only [stOf] at h
  split at h
  · rename_i c
    cases h
    have e := ints_back vs c.1
    have l : (intsOf vs).length = n := by rw [← c.2]; conv => rhs; rw [e]; rw [List.length_map]
    refine ⟨by unfold tupI; rw [← e], l, fun x hx => ?_⟩
    have c1 : (vs.all fun v => btw v (-1000000000) 1000000000) = true := c.1
    rw [e] at c1
    have := List.all_eq_true.mp c1 (.int x) (List.mem_map.mpr ⟨x, hx, rfl⟩)
    simpa [btw] using this
  · cases h
theorem stOf_ok (v : Val) (n : Nat) : (numsV v && tupLen v n) = (stOf v n).isSome := by
  cases v <;>
                          first | rfl | skip
  rename_i vs
  simp only [stOf, tupLen]
  by_cases c : numsV (.tup vs) = true ∧ vs.length = n
  · rw [if_pos c, c.1, c.2]
    simp
  · rw [if_neg c]
    by_cases c1 : numsV (.tup vs) = true
    · have c2 : ¬ vs.length = n := fun e => c ⟨c1, e⟩
      simp [c1, c2]
    · simp [c1]
theorem stOf_tupI {u : List Int} {n : Nat} (l : u.length = n) (b : ∀ x ∈ u, -1000000000 ≤ x ∧ x ≤ 1000000000) : stOf (tupI u) n = some u := by
  have e : intsOf (u.map .int) = u := by
    clear l b
    induction u with
    | nil => rfl
    | cons x u ih => simp [intsOf, ih]
  simp only [tupI, stOf]
  rw [if_pos, e]
  refine ⟨?_, by rw [List.length_map]; exact l⟩
  simp only [numsV, List.all_map, List.all_eq_true, Function.comp_apply, btw]
  intro x hx
  have := b x hx
  simpa using this
theorem readT_good {t : Str} {m : List (List Int)} (h : readT t = some m) : Sqr m ∧ Bdd 1000000000 m ∧ m.length ≤ 6 := by
  simp only [readT] at h
  split at h
  · rename_i c
    cases h
    refine ⟨fun r hr => ?_, fun r hr x hx => ?_, by rw [List.length_map]; exact c.1⟩
    · obtain ⟨ws, m, rfl⟩ := List.mem_map.mp hr
      rw [List.length_map, List.length_map]
      exact c.2.1 ws m
    · obtain ⟨ws, m, rfl⟩ := List.mem_map.mp hr
      obtain ⟨w, mw, rfl⟩ := List.mem_map.mp hx
      have := c.2.2 ws m w mw
      simp only [fitW, Bool.and_eq_true, decide_eq_true_eq] at this
      exact this.2
  · cases h
def retV : Option Nat → Val
  | some k => .int (k : Nat)
  | none => .non
def retIs (o : Option Nat) (v : Val) : Bool := match o, v with
  | some k, .int i => decide ((k : Int) = i)
  | _, _ => false
theorem eq_ret {h h2 : Hh} {o : Option Nat} {i : Int} : cop .Eq (rd h (retV o)) (rd h2 (.int i)) = some (retIs o (.int i)) := by
  cases o with
  | none => rfl
  | some k => exact eq_intZ
theorem isnon_ret {h : Hh} {o : Option Nat} : isNon (rd h (retV o)) = o.isNone := by cases o <;> rfl
/-- what the checker says of claims about a standing -/
def perRows (m : List (List Int)) (sv av cv : Val) : Bool := Co.isNon cv && (match stOf sv m.length with | some u => isZ av && retIs (perM 30 m u) av | none => false)
def endRows (m : List (List Int)) (sv cv : Val) : Bool := Co.isNon cv && (match stOf sv m.length with | some u => (perM 30 m (itM m m.length u)).isNone | none => false)
def perClaim (t : Str) (sv av cv : Val) : Bool := match readT t with | some m => perRows m sv av cv | none => false
def endClaim (t : Str) (sv cv : Val) : Bool := match readT t with | some m => endRows m sv cv | none => false
theorem ne_nilL {h h2 : Hh} {a : List Val} : cop .NotEq (rd h (.lst a)) (rd h2 (.lst [])) = some (!a.isEmpty) := by cases a <;> rfl
theorem eq_nilL {h h2 : Hh} {a : List Val} : cop .Eq (rd h (.lst a)) (rd h2 (.lst [])) = some a.isEmpty := by cases a <;> rfl
theorem w_rev {g : G} {s : Env} {h : Hh} {Q : Val → Hh → Prop} {a : CE} (q : Ends (evE g a s h) fun x h1 => (∃ xs, rd h1 x = .lst xs ∧ Q (.lst xs.reverse) h1) ∨ (∃ xs, rd h1 x = .tup xs ∧ Q (.tup xs.reverse) h1)) : Ends (evE g (.rev a) s h) Q := by
  simp only [evE]
  refine .bind q fun x h1 q => ?_
  rcases q with ⟨xs, e, q⟩ | ⟨xs, e, q⟩
  · rw [e]; exact .ok q
  · rw [e]; exact .ok q
def noComp : List CE → Bool
  | [.comp _ _ _ _ _ _ _] => false
  | _ => true
theorem w_callBn {g : G} {s : Env} {h : Hh} {Q : Val → Hh → Prop} {b : Bi} {es : List CE} (_n : noComp es = true) (q : Ends (evEs g es s h) fun vs h1 => Ends (opt (bi b (asL vs h1)) h1) Q) : Ends (evE g (.callB b es) s h) Q := w_callB q
end Co
end

local macro_rules | `(tactic| walk_at "co st3") => `(tactic| first
  | with_reducible refine Co.w_asg ?_ | ((with_reducible apply Co.w_name); · first | rfl | (simp only [List.set_cons_succ, List.set_cons_zero]; rfl))
  | with_reducible refine Co.w_ifs ?_ | with_reducible refine Co.w_ret ?_ | with_reducible refine Co.w_expr ?_ | with_reducible refine Co.w_done ?_ | with_reducible refine Co.w_seq ?_
  | ((with_reducible apply Co.w_var); · rfl) | with_reducible refine Co.w_cst ?_ | with_reducible refine Co.w_bin ?_ | with_reducible refine Co.w_negC ?_ | with_reducible refine Co.w_neg ?_ | with_reducible refine Co.w_not ?_ | with_reducible refine Co.w_ite ?_ | with_reducible refine Co.w_cmp ?_
  | with_reducible refine Co.w_tup ?_ | with_reducible refine Co.w_lst ?_ | with_reducible refine Co.w_lstM ?_ | with_reducible refine Co.w_callF ?_ | with_reducible refine Co.w_callK ?_ | ((with_reducible apply Co.w_callBn); · rfl) | with_reducible refine Co.w_listM ?_ | with_reducible refine Co.w_isI ?_ | with_reducible refine Co.w_meth ?_ | with_reducible refine Co.w_splitM ?_ | with_reducible refine Co.w_idx ?_ | with_reducible refine Co.w_slice ?_
  | with_reducible refine Co.w_none ?_ | with_reducible refine Co.w_some ?_ | with_reducible refine Co.w_nil ?_ | ((with_reducible apply Co.w_cons); · rfl) | with_reducible refine Co.w_tupA ?_ | with_reducible refine Co.w_tA0 ?_ | with_reducible refine Co.w_tA1 ?_ | with_reducible refine Co.w_subA ?_
  | with_reducible refine Co.w_go ?_ | with_reducible refine Co.w_out ?_ | with_reducible refine Co.w_backI ?_ | with_reducible refine Co.w_backB ?_ | with_reducible refine Co.w_backS ?_ | with_reducible refine Co.w_backN ?_
  | with_reducible refine Co.w_cop Co.rop_lt ?_ | with_reducible refine Co.w_cop Co.rop_le ?_ | with_reducible refine Co.w_cop Co.rop_gt ?_ | with_reducible refine Co.w_cop Co.rop_ge ?_ | with_reducible refine Co.w_cop Co.rop_is ?_ | with_reducible refine Co.w_cop Co.rop_isnt ?_
  | with_reducible refine Co.w_opt Co.rop_ai ?_ | with_reducible refine Co.w_opt Co.rop_si ?_ | with_reducible refine Co.w_opt Co.ri_ii ?_ | with_reducible refine Co.w_opt Co.ri_ib ?_ | with_reducible refine Co.w_opt Co.ri_ll ?_ | with_reducible refine Co.w_opt Co.ri_lt ?_ | with_reducible refine Co.w_opt Co.ri_lo ?_
  | with_reducible refine Co.w_opt Co.ri_Ll ?_ | with_reducible refine Co.w_opt Co.ri_Lt ?_ | with_reducible refine Co.w_opt Co.ri_Tl ?_ | with_reducible refine Co.w_opt Co.ri_Tt ?_
  | with_reducible refine Co.w_opt (Co.rop_di (by decide)) ?_ | with_reducible refine Co.w_opt (Co.rop_fi (Co.divOk_s (by decide) (by decide))) ?_ | with_reducible refine Co.w_opt (Co.rop_mi (Co.mulOk_l (by decide))) ?_
  | with_reducible refine Co.w_opt Co.rat0 ?_ | with_reducible refine Co.w_opt Co.rat1 ?_ | with_reducible refine Co.w_opt Co.rat2 ?_ | with_reducible refine Co.w_opt Co.tat0 ?_ | with_reducible refine Co.w_opt Co.tat1 ?_ | with_reducible refine Co.w_opt Co.tat2 ?_
  | with_reducible refine Co.i_range1 ?_ | with_reducible refine Co.i_range2 ?_ | with_reducible refine Co.i_of ?_ | with_reducible refine Co.i_zip ?_ | with_reducible refine Co.i_enum ?_ | with_reducible refine Co.i_zipS ?_ | with_reducible refine Co.c_nil ?_ | with_reducible refine Co.c_cons ?_ | with_reducible refine Co.w_dct ?_
  | ((with_reducible apply Co.w_lim); · (show _ ≤ 16777216; simp only [List.length_cons, List.length_nil, Nat.reduceAdd, Nat.reduceLeDiff]; done))
  | with_reducible refine Co.w_cop Co.eq_tupI ?_ | with_reducible refine Co.w_cop Co.ne_tupI ?_ | with_reducible refine Co.w_opt Co.len_tupI ?_ | with_reducible refine Co.w_opt Co.len_tupV ?_ | with_reducible refine Co.w_cop Co.ne_nilL ?_ | with_reducible refine Co.w_cop Co.eq_nilL ?_ | with_reducible refine Co.w_cop Co.eq_intZ ?_ | with_reducible refine Co.w_cop Co.ne_intZ ?_ | with_reducible refine Co.w_cop Co.eq_str ?_ | with_reducible refine Co.w_cop Co.ne_str ?_)

local macro_rules | `(tactic| walk_at "co sp") => `(tactic| repeat walk_at "co st3")

section
set_option linter.all false
set_option maxRecDepth 100000
set_option autoImplicit false
/-! Ty: the text of a table, read again. -/
namespace Co
open PySem L2 TL
def numS (i : Int) : Str := ((toString i : String) : Str)
theorem tl_int (i : Int) : tl (numS i) = if i < 0 then 45 :: numL i.natAbs else numL i.natAbs := by
  unfold numS
  cases i with
  | ofNat n =>
    rw [if_neg (by simp)]
    exact tl_num n
  | negSucc n =>
    rw [if_pos (Int.negSucc_lt_zero n)]
    have e : (toString (Int.negSucc n) : String) = "-" ++ (toString (n + 1) : String) := rfl
    rw [e, tl_ofString, String.toList_append, List.map_append]
    have e2 : ((toString (n + 1) : String)).toList.map Char.toNat = numL (n + 1) := by
      rw [← tl_num (n + 1), tl_ofString]
      rfl
    rw [e2]
    rfl
theorem numL_head {n : Nat} (h : n ≠ 0) : (numL n).headD 0 ≠ 48 := by
  induction n using
                          Nat.strongRecOn with
  | _ n ih =>
    by_cases l : n < 10
    · rw [numL_lt l]
      simp
      omega
    · rw [numL_step (by omega)]
      have := ih (n / 10) (by omega) (by omega)
      cases e : numL (n / 10) with
      | nil => exact absurd e (numL_ne _)
      | cons c r => rw [e] at this; simpa using this
theorem natW_numL (n : Nat) : natW (numL n) = true := by
  simp only [natW, Bool.and_eq_true, Bool.not_eq_true', Bool.or_eq_true, decide_eq_true_eq]
  refine ⟨?_, List.all_eq_true.mpr fun c m => ?_, ?_⟩
  · cases e : numL n with
    | nil => exact absurd e (numL_ne n)
    | cons => rfl
  · have := numL_digits n c m
    simpa [isDig] using this
  · by_cases z : n = 0
    · subst z; exact .inl (numL_lt (by decide))
    · exact .inr (numL_head z)
theorem numL_h45 (n : Nat) : (numL n).headD 0 ≠ 45 := by
  cases e : numL n with
  | nil => simp
  | cons c r =>
    have := numL_digits n c (by rw [e]; exact List.mem_cons_self)
    simp
    omega
theorem intW_int (i : Int) : intW (tl (numS i)) = true := by
  rw [tl_int]
  split
  · simp only [intW, Bool.or_eq_true, Bool.and_eq_true, decide_eq_true_eq]
    refine .inr ⟨rfl, natW_numL _, fun e => ?_⟩
    have e2 : numL i.natAbs = [48] := by injection e
    have := congrArg NumText.digitsVal e2
    rw [numL_val] at this
    have : i.natAbs = 0 := this
    omega
  · simp only [intW, natW_numL, Bool.true_or]
theorem valW_int (i : Int) : valW (tl (numS i)) = i := by
  rw [tl_int]
  split
  · simp only [valW, List.headD_cons, if_true, List.tail_cons, numL_val]
    omega
  · simp only [valW, if_neg (numL_h45 _), numL_val]
    omega
theorem int_short {i : Int} (a : -1000000000 ≤ i) (b : i ≤ 1000000000) : (tl (numS i)).length ≤ 11 := by
  have := numL_len (n := i.natAbs) (k := 10) (by decide) (by omega)
  rw [tl_int]
  split
  · rw [List.length_cons]; omega
  · omega
theorem numW_int {i : Int} (a : -1000000000 ≤ i) (b : i ≤ 1000000000) : numW (tl (numS i)) = i := by
  have := int_short a b
  unfold numW
  rw [if_pos (by omega), valW_int]
theorem fitW_int {i : Int} (a : -1000000000 ≤ i) (b : i ≤ 1000000000) : fitW (tl (numS i)) = true := by
  simp only [fitW, intW_int, numW_int a b, Bool.true_and, Bool.and_eq_true, decide_eq_true_eq]
  exact ⟨a, b⟩
theorem int_signs (i : Int) : ∀ c ∈ tl (numS i), c = 45 ∨ (48 ≤ c ∧ c ≤ 57) := by
  intro c m
  rw [tl_int] at m
  split at m
  · rcases List.mem_cons.mp m with e | m
    · exact .inl e
    · exact .inr (numL_digits _ c m)
  · exact .inr (numL_digits _ c m)
/-! ### lines -/
def lineT (r : List Int) : Str := Txt.join blankS (r.map numS)
def textT (m : List (List Int)) : Str := Txt.join slash (m.map lineT)
theorem join_mem {y : Str} {c : Nat} : ∀ {parts : List Str}, c ∈ tl (Txt.join y parts) → c ∈ tl y ∨ ∃ p ∈ parts, c ∈ tl p := by
  intro parts
  rw [join_eq]
  induction parts with
  | nil => intro m; exact absurd m (by simp [Str.join, Str.empty])
  | cons p r ih =>
    intro m
    cases r with
    | nil => exact .inr ⟨p, List.mem_cons_self, m⟩
    | cons q r =>
      have e : tl (Str.join y (p :: q :: r)) = tl p ++ tl y ++ tl (Str.join y (q :: r)) := by
        show tl (p ++ y ++ Str.join y (q :: r)) = _
        rw [tl_append, tl_append]
      rw [e] at m
      rcases List.mem_append.mp m with m | m
      · rcases List.mem_append.mp m with m | m
        · exact .inr ⟨p, List.mem_cons_self, m⟩
        · exact .inl m
      · rcases ih m with h | ⟨x, mx, h⟩
        · exact .inl h
        · exact .inr ⟨x, List.mem_cons_of_mem _ mx, h⟩
theorem line_signs (r : List Int) : ∀ c ∈ tl (lineT r), c = 32 ∨ c = 45 ∨ (48 ≤ c ∧ c ≤ 57) := by
  intro c m
  rcases join_mem m with h | ⟨p, mp, h⟩
  · exact .inl (List.mem_singleton.mp h)
  · obtain ⟨i, _, rfl⟩ := List.mem_map.mp mp
    exact .inr (int_signs i c h)
theorem text_signs (m : List (List Int)) : ∀ c ∈ tl (textT m), c < 128 := by
  intro c mc
  rcases join_mem mc with h | ⟨p, mp, h⟩
  · have : c ∈ [32, 47, 32] := h
    simp at this
    omega
  · obtain ⟨r, _, rfl⟩ := List.mem_map.mp mp
    have := line_signs r c h
    omega
theorem split_line {r : List Int} (hr : r ≠ []) : Txt.split (lineT r) blankS = r.map numS := by
  refine split_join (s := 32) (S := []) rfl (by decide +kernel) (fun e => hr (List.map_eq_nil_iff.mp e)) fun p mp m => ?_
  obtain ⟨i, _, rfl⟩ := List.mem_map.mp mp
  have := int_signs i 32 m
  omega
/-- the separator of rows does not begin in a part without its middle sign -/
theorem free3 {p q : List Nat} (h : 47 ∉ p) (hq : q.headD 0 ≠ 47) : ∀ i, i < p.length → pre [32, 47, 32] ((p ++ q).drop i) = false := fun i hi => by
  have e : (p ++ q).drop i = p.drop i ++ q := by rw [List.drop_append_of_le_length (by omega)]
  rw [e]
  have hm : ∀ c ∈ p.drop i, c ≠ 47 := fun c m e => h (by rw [← e]; exact List.mem_of_mem_drop m)
  cases hp : p.drop i with
  | nil =>
    have := congrArg List.length hp
    rw [List.length_drop] at this
    simp at this
    omega
  | cons c u =>
    cases u with
    | nil =>
      cases q with
      | nil => simp [pre]
      | cons d q =>
        have : d ≠ 47 := by simpa using hq
        simp [pre, this]
    | cons d u =>
      have : d ≠ 47 := hm d (by rw [hp]; exact List.mem_cons_of_mem _ List.mem_cons_self)
      simp [pre, this]
theorem spl_join3 : ∀ {parts : List (List Nat)}, parts ≠ [] → (∀ p ∈ parts, 47 ∉ p) → spl [32, 47, 32] 0 [] (joinL [32, 47, 32] parts) = parts
  | [], h, _ => absurd rfl h
  | [p], _, hp => by
    show spl [32, 47, 32] 0 [] p = [p]
    have := spl_last (S := [32, 47, 32]) (p := p) (acc := []) fun i hi => by
      have := free3 (q := []) (hp p (List.mem_singleton.mpr rfl)) (by simp) i hi
      rw [List.append_nil] at this
      exact this
    rw [this, List.nil_append]
  | p :: q :: r, _, hp => by
    show spl [32, 47, 32] 0 [] (p ++ ([32, 47, 32] ++ joinL [32, 47, 32] (q :: r))) = p :: q :: r
    rw [spl_part (by simp) (free3 (hp p List.mem_cons_self) (by simp)), List.nil_append, spl_join3 (by simp) fun z hz => hp z (List.mem_cons_of_mem _ hz)]
theorem split_text {m : List (List Int)} (hm : m ≠ []) : Txt.split (textT m) slash = m.map lineT := by
  refine map_tl_inj ?_
  unfold textT
  rw [split_spl _ slash (by simp [slash]) (kind_ok (by decide +kernel)), join_eq, tl_join]
  show spl [32, 47, 32] 0 [] (joinL [32, 47, 32] _) = _
  rw [spl_join3 (by simpa using hm)]
  intro p mp h
  obtain ⟨x, mx, rfl⟩ := List.mem_map.mp mp
  obtain ⟨r, _, rfl⟩ := List.mem_map.mp mx
  have := line_signs r 47 h
  omega
theorem words_text {m : List (List Int)} (hm : m ≠ []) (hr : ∀ r ∈ m, r ≠ []) : wordsT (textT m) = m.map fun r => r.map numS := by
  unfold wordsT
  rw [split_text hm, List.map_map]
  exact List.map_congr_left fun r mr => split_line (hr r mr)
/-- the text of a table is read as the table -/
theorem readT_text {m : List (List Int)} (hm : m ≠ []) (q : Sqr m) (l : m.length ≤ 6) (b : Bdd 1000000000 m) : readT (textT m) = some m := by
  have hl : 0 < m.length := List.length_pos_iff.mpr hm
  have hr : ∀ r ∈ m, r ≠ [] := fun r mr e => by have := q r mr; rw [e] at this; simp at this; omega
  unfold readT
  rw [words_text hm hr]
  dsimp only
  rw [if_pos]
  · rw [List.map_map]
    congr 1
    refine (List.map_congr_left fun r mr => ?_).trans (List.map_id m)
    show (r.map numS).map (fun w => numW (tl w)) = r
    rw [List.map_map]
    refine (List.map_congr_left fun i mi => ?_).trans (List.map_id r)
    exact numW_int (b r mr i mi).1 (b r mr i mi).2
  · refine ⟨by rw [List.length_map]; exact l, fun u mu => ?_, fun u mu w mw => ?_⟩
    · obtain ⟨r, mr, rfl⟩ := List.mem_map.mp mu
      rw [List.length_map, List.length_map]
      exact q r mr
    · obtain ⟨r, mr, rfl⟩ := List.mem_map.mp mu
      obtain ⟨i, mi, rfl⟩ := List.mem_map.mp mw
      exact fitW_int (b r mr i mi).1 (b r mr i mi).2
/-! ### texts without odd signs -/
def Asc (t : Str) : Prop := ∀ c ∈ tl t, c < 128
theorem Asc.app {a b : Str} (ha : Asc a) (hb : Asc b) : Asc (a ++ b) := fun c m => by
  rw [tl_append] at m
  rcases List.mem_append.mp m with m | m
  · exact ha c m
  · exact hb c m
theorem Asc.cut {a : Str} (ha : Asc a) (lo hi : Option Int) : Asc (cutS a lo hi) := fun c m => by
  have m : c ∈ ((tl a).drop (HT.sIx a.length 0 lo)).take (HT.sIx a.length a.length hi - HT.sIx a.length 0 lo) := m
  exact ha c (List.mem_of_mem_drop (List.mem_of_mem_take m))
theorem Asc.join {y : Str} {ps : List Str} (hy : Asc y) (hp : ∀ p ∈ ps, Asc p) : Asc (Txt.join y ps) := fun c m => by
  rcases join_mem m with h | ⟨p, mp, h⟩
  · exact hy c h
  · exact hp p mp c h
theorem joinL_has {S : List Nat} {c : Nat} : ∀ {ps : List (List Nat)} {p : List Nat}, p ∈ ps → c ∈ p → c ∈ joinL S ps
  | [x], p, mp, mc => by rw [List.mem_singleton.mp mp] at mc; exact mc
  | x :: y :: r, p, mp, mc => by
    show c ∈ x ++ (S ++ joinL S (y :: r))
    rcases List.mem_cons.mp mp with e | mp
    · rw [← e]; exact List.mem_append.mpr (.inl mc)
    · exact List.mem_append.mpr (.inr (List.mem_append.mpr (.inr (joinL_has mp mc))))
theorem Asc.split {t y : Str} (ht : Asc t) : ∀ p ∈ Txt.split t y, Asc p := fun p mp c mc => by
  refine ht c ?_
  have e : tl t = joinL (tl y) ((Txt.split t y).map tl) := by
    rw [← tl_join, PySem.StrLaws.join_split]
  rw [e]
  exact joinL_has (List.mem_map.mpr ⟨p, mp, rfl⟩) mc
theorem asc_text (m : List (List Int)) : Asc (textT m) := text_signs m
theorem Asc.ok {t : Str} (h : Asc t) : t.cps.all (· < 0x110000) = true := by
  rw [← Array.all_toList,
                          List.all_eq_true]
  intro c m
  have := h c m
  exact decide_eq_true
                          (by omega)
end Co
end

section
set_option linter.all false
set_option maxRecDepth 100000
set_option autoImplicit false
/-! Rm: the machines that the laws draw: blocks, rows that are changed, turns. -/
namespace Co
open PySem L2 TL
abbrev Mat := List (List Int)
/-- rows of numbers, as a value -/
def rowsV (m : Mat) : Val := .lst (m.map fun r => .lst (r.map .int))
/-- n rows of n numbers, none beyond B -/
def Sq (n : Nat) (B : Int) (m : Mat) : Prop := m.length = n ∧ ∀ r ∈ m, r.length = n ∧ ∀ x ∈ r, -B ≤ x ∧ x ≤ B
theorem Sq.mono {n : Nat} {B C : Int} {m : Mat} (h : Sq n B m) (l : B ≤ C) : Sq n C m := ⟨h.1, fun r hr => ⟨(h.2 r hr).1, fun x hx => by have := (h.2 r hr).2 x hx; omega⟩⟩
theorem Sq.sqr {n : Nat} {B : Int} {m : Mat} (h : Sq n B m) : Sqr m := fun r hr => by rw [(h.2 r hr).1, h.1]
theorem Sq.bdd {n : Nat} {B : Int} {m : Mat} (h : Sq n B m) : Bdd B m := fun r hr => (h.2 r hr).2
theorem mapLen {m : Mat} : (m.map fun r => Val.lst (r.map .int)).length = m.length := List.length_map ..
theorem ints_low (b : Nat) : ∀ r : List Int, belowL b (r.map .int) = true
  | [] => rfl
  | x :: r => by simp only [List.map_cons, belowL, below, Bool.true_and, ints_low b r]
theorem rowsL_low (b : Nat) : ∀ m : Mat, belowL b (m.map fun r => Val.lst (r.map .int)) = true
  | [] => rfl
  | x :: r => by simp only [List.map_cons, belowL, below, ints_low b x, Bool.true_and, rowsL_low b r]
theorem rows_low (b : Nat) (m : Mat) : below b (rowsV m) = true := by
  unfold rowsV
  simp only [below]
  exact rowsL_low b m
theorem lenRows {h : Hh} {n : Nat} {m : Mat} (e : m.length = n) : Co.bi .len (asL [rowsV m] h) = some (.int n) := by
  show some (Val.int ((m.map fun r => Val.lst (r.map .int)).length : Nat)) = _
  rw [mapLen, e]
theorem rep_z {n : Nat} : (List.replicate ((n : Int)).toNat [Val.int 0]).flatten = (List.replicate n (0 : Int)).map .int := by
  rw [Int.toNat_natCast]
  induction n with
  | zero => rfl
  | succ n ih => rw [List.replicate_succ, List.flatten_cons, ih, List.replicate_succ]; rfl
theorem repOk_z {n : Nat} (h : n ≤ 1000) : repOk [Val.int 0].length (n : Int) = true := by
  have e : lim = 16777216 := rfl
  simp only [repOk, List.length_cons, List.length_nil, Bool.and_eq_true, decide_eq_true_eq, Int.toNat_natCast]
  omega
/-! ### kinds and blocks -/
def sizes : List (Int × Nat) := [(1, 1), (2, 1), (3, 2), (4, 2), (6, 2), (5, 4), (8, 4), (10, 4), (12, 4), (7, 6), (9, 6), (14, 6), (18, 6)]
def szOf (p : Int) : Int := ((sizes.find? fun q => decide (q.1 = p)).map fun q => (q.2 : Int)).getD 0
def keys : List Int := [1, 2, 3, 4, 6, 5, 8, 10, 12, 7, 9, 14, 18]
def dctS : Val := .dct (sizes.map fun p => (.inl p.1, .int p.2))
theorem sz_pos : ∀ p ∈ keys, 1 ≤ szOf p ∧ szOf p ≤ 6 ∧ (p, (szOf p).toNat) ∈ sizes := by decide
theorem dct_at {h : Hh} : ∀ p ∈ keys, idxV (rd h dctS) (.int p) = some (.int (szOf p)) := by
  intro p hp
  simp only [keys, List.mem_cons, List.not_mem_nil, or_false] at hp
  rcases hp with rfl | rfl | rfl | rfl | rfl | rfl | rfl | rfl | rfl | rfl | rfl | rfl | rfl <;> rfl
def lastRow (p : Int) : List Int := (([(1, [1]), (2, [-1]), (3, [-1, -1]), (4, [-1, 0]), (6, [-1, 1]), (5, [-1, -1, -1, -1]), (8, [-1, 0, 0, 0]), (10, [-1, 1, -1, 1]), (12, [-1, 0, 1, 0]), (7, [-1, -1, -1, -1, -1, -1]), (9, [-1, 0, 0, -1, 0, 0]), (14, [-1, 1, -1, 1, -1, 1]), (18, [-1, 0, 0, 1, 0, 0])] : List (Int × List Int)).find? fun q => decide (q.1 = p)).elim [] (·.2)
/-- the rows by which each counter becomes the next one, and the last one a sum -/
def blk (p : Int) : Mat := let l := lastRow p
  ((List.range (l.length - 1)).map fun i => (List.range l.length).map fun j => if j = i + 1 then 1 else 0) ++ [l]
theorem blk_sq : ∀ p ∈ keys, decide ((blk p).length = (szOf p).toNat ∧ ∀ r ∈ blk p, r.length = (szOf p).toNat ∧ ∀ x ∈ r, -1 ≤ x ∧ x ≤ 1) = true := by decide
def besideM (a b : Mat) : Mat := a.map (fun r => r ++ List.replicate b.length 0) ++ b.map (fun r => List.replicate a.length 0 ++ r)
theorem beside_sq {n1 n2 : Nat} {B : Int} {a b : Mat} (ha : Sq n1 B a) (hb : Sq n2 B b) (hB : 0 ≤ B) : Sq (n1 + n2) B (besideM a b) := by
  refine ⟨?_, fun r hr => ?_⟩
  · unfold besideM; rw [List.length_append, List.length_map, List.length_map, ha.1, hb.1]
  · rcases List.mem_append.mp hr with q | q
    · obtain ⟨x, hx, rfl⟩ := List.mem_map.mp q
      obtain ⟨q1, q2⟩ := ha.2 x hx
      refine ⟨by rw [List.length_append, List.length_replicate, q1, hb.1], fun y hy => ?_⟩
      rcases List.mem_append.mp hy with q | q
      · exact q2 y q
      · rw [(List.mem_replicate.mp q).2]; omega
    · obtain ⟨x, hx, rfl⟩ := List.mem_map.mp q
      obtain ⟨q1, q2⟩ := hb.2 x hx
      refine ⟨by rw [List.length_append, List.length_replicate, q1, ha.1], fun y hy => ?_⟩
      rcases List.mem_append.mp hy with q | q
      · rw [(List.mem_replicate.mp q).2]; omega
      · exact q2 y q
/-- the blocks of a kind beside one another -/
def joinK (F : List Int) : Mat := F.foldl (fun m p => besideM m (blk p)) []
theorem joinK_snoc (F : List Int) (p : Int) : joinK (F ++ [p]) = besideM (joinK F) (blk p) := by unfold joinK; rw [List.foldl_append]; rfl
theorem sum0 : ∀ G : List Int, (∀ p ∈ G, p ∈ keys) → 0 ≤ (G.map szOf).sum
  | [], _ => Int.le_refl _
  | p :: G, hg => by
    have := sum0 G fun q mq => hg q (List.mem_cons_of_mem _ mq)
    have := (sz_pos p (hg p List.mem_cons_self)).1
    simp
    omega
theorem joinK_sq : ∀ (G F : List Int), (∀ p ∈ F, p ∈ keys) → (∀ p ∈ G, p ∈ keys) → Sq ((F.map szOf).sum.toNat) 1 (joinK F) → Sq (((F ++ G).map szOf).sum.toNat) 1 (joinK (F ++ G))
  | [], F, _, _, h => by rw [List.append_nil]; exact h
  | p :: G, F, hF, hG, h => by
    have hp := hG p List.mem_cons_self
    have b := of_decide_eq_true (blk_sq p hp)
    have e : F ++ p :: G = (F ++ [p]) ++ G := by simp
    rw [e]
    refine joinK_sq G (F ++ [p]) (fun q mq => ?_) (fun q mq => hG q (List.mem_cons_of_mem _ mq)) ?_
    · rcases List.mem_append.mp mq with m | m
      · exact hF q m
      · rw [List.mem_singleton.mp m]; exact hp
    · rw [joinK_snoc]
      have := beside_sq h (b : Sq (szOf p).toNat 1 (blk p)) (by decide)
      have s0 := sum0 F hF
      have s1 := (sz_pos p hp).1
      rw [List.map_append, List.sum_append]
      simp only [List.map_cons, List.map_nil, List.sum_cons, List.sum_nil, Int.add_zero]
      rw [show ((F.map szOf).sum + szOf p).toNat = (F.map szOf).sum.toNat + (szOf p).toNat from by omega]
      exact this
theorem joinK_ok {F : List Int} (hF : ∀ p ∈ F, p ∈ keys) : Sq ((F.map szOf).sum.toNat) 1 (joinK F) := by
  have := joinK_sq F [] (by simp) hF ⟨rfl, by simp [joinK]⟩
  rwa [List.nil_append] at this
/-! ### turns -/
def addRow (w : Int) (r s : List Int) : List Int := List.zipWith (fun a b => a + w * b) r s
def subCol (i j : Nat) (w : Int) (r : List Int) : List Int := r.set j (r.getD j 0 - w * r.getD i 0)
def turnStep (i j : Nat) (w : Int) (m : Mat) : Mat := (m.set i (addRow w (m.getD i []) (m.getD j []))).map (subCol i j w)
inductive Turned (k : Nat) : Nat → Mat → Mat → Prop
  | refl (m : Mat) : Turned k 0 m m
  | step {t : Nat} {m m1 : Mat} (i j : Nat) (w : Int) (T : Turned k t m m1) (hi : i < k) (hj : j < k) (ne : i ≠ j) (w0 : -2 ≤ w) (w1 : w ≤ 2) : Turned k (t + 1) m (turnStep i j w m1)
theorem lin {w a b B : Int} (w0 : -2 ≤ w) (w1 : w ≤ 2) (a0 : -B ≤ a) (a1 : a ≤ B) (b0 : -B ≤ b) (b1 : b ≤ B) : -(3 * B) ≤ a + w * b ∧ a + w * b ≤ 3 * B := by
  have : w = -2 ∨ w = -1 ∨ w = 0 ∨ w = 1 ∨ w = 2 := by omega
  rcases this with rfl | rfl | rfl | rfl | rfl <;> omega
theorem getD_mem {α : Type} {l : List α} {i : Nat} {d : α} (h : i < l.length) : l.getD i d ∈ l := by
  rw [List.getD_eq_getElem?_getD, List.getElem?_eq_getElem h]
  exact List.getElem_mem h
theorem addRow_len {w : Int} {r s : List Int} (h : r.length = s.length) : (addRow w r s).length = r.length := by unfold addRow; rw [List.length_zipWith]; omega
theorem addRow_bd {w B : Int} (w0 : -2 ≤ w) (w1 : w ≤ 2) : ∀ {r s : List Int}, (∀ x ∈ r, -B ≤ x ∧ x ≤ B) → (∀ x ∈ s, -B ≤ x ∧ x ≤ B) → ∀ x ∈ addRow w r s, -(3 * B) ≤ x ∧ x ≤ 3 * B
  | [], _, _, _, x, m => by simp [addRow] at m
  | _ :: _, [], _, _, x, m => by simp [addRow] at m
  | a :: r, b :: s, hr, hs, x, m => by
    rcases List.mem_cons.mp m with e | m
    · rw [e]
      have h1 := hr a List.mem_cons_self
      have h2 := hs b List.mem_cons_self
      exact lin w0 w1 h1.1 h1.2 h2.1 h2.2
    · exact addRow_bd w0 w1 (fun y my => hr y (List.mem_cons_of_mem _ my)) (fun y my => hs y (List.mem_cons_of_mem _ my)) x m
theorem subCol_len {i j : Nat} {w : Int} {r : List Int} : (subCol i j w r).length = r.length := List.length_set ..
theorem subCol_bd {i j k : Nat} {w B : Int} {r : List Int} (w0 : -2 ≤ w) (w1 : w ≤ 2) (hi : i < k) (hj : j < k) (l : r.length = k) (hB : 0 ≤ B) (hr : ∀ x ∈ r, -B ≤ x ∧ x ≤ B) : ∀ x ∈ subCol i j w r, -(3 * B) ≤ x ∧ x ≤ 3 * B := by
  intro x m
  rcases List.mem_or_eq_of_mem_set m with m | e
  · have := hr x m; omega
  · rw [e]
    have h1 := hr _ (getD_mem (d := 0) (show j < r.length by omega))
    have h2 := hr _ (getD_mem (d := 0) (show i < r.length by omega))
    have := lin (w := -w) (by omega) (by omega) h1.1 h1.2 h2.1 h2.2
    rw [show r.getD j 0 - w * r.getD i 0 = r.getD j 0 + -w * r.getD i 0 from by rw [Int.neg_mul]; rfl]
    exact this
theorem turnStep_sq {i j k : Nat} {w B : Int} {m : Mat} (h : Sq k B m) (hi : i < k) (hj : j < k) (w0 : -2 ≤ w) (w1 : w ≤ 2) (hB : 0 ≤ B) : Sq k (9 * B) (turnStep i j w m) := by
  have ri := h.2 _ (getD_mem (d := []) (show i < m.length by rw [h.1]; exact hi))
  have rj := h.2 _ (getD_mem (d := []) (show j < m.length by rw [h.1]; exact hj))
  have one : ∀ r ∈ m.set i (addRow w (m.getD i []) (m.getD j [])), r.length = k ∧ ∀ x ∈ r, -(3 * B) ≤ x ∧ x ≤ 3 * B := fun r hr => by
    rcases List.mem_or_eq_of_mem_set hr with q | q
    · exact ⟨(h.2 r q).1, fun x hx => by have := (h.2 r q).2 x hx; omega⟩
    · rw [q]
      exact ⟨by rw [addRow_len (by rw [ri.1, rj.1]), ri.1], addRow_bd w0 w1 ri.2 rj.2⟩
  refine ⟨by unfold turnStep; rw [List.length_map, List.length_set, h.1], fun r hr => ?_⟩
  obtain ⟨s, ms, rfl⟩ := List.mem_map.mp hr
  obtain ⟨q1, q2⟩ := one s ms
  refine ⟨by rw [subCol_len, q1], fun x hx => ?_⟩
  have := subCol_bd w0 w1 hi hj q1 (by omega) q2 x hx
  omega
theorem Turned.sq {k t : Nat} {m m2 : Mat} (T : Turned k t m m2) {B : Int} (h : Sq k B m) (hB : 0 ≤ B) : Sq k (9 ^ t * B) m2 := by
  induction T with
  | refl m => rw [Int.pow_zero, Int.one_mul]; exact h
  | step i j w T hi hj ne w0 w1 ih =>
    have := turnStep_sq (ih h) hi hj w0 w1 (Int.mul_nonneg (Int.le_of_lt (Int.pow_pos (by decide))) hB)
    rw [Int.pow_succ, Int.mul_comm _ 9, Int.mul_assoc]
    exact this
/-! ### rows that are changed: a list of lists of ours, made after h0 -/
structure TI (h0 : Hh) (n R : Nat) (as : List Nat) (m : Mat) (h : Hh) : Prop where
  vat : Vat h n
  lt : n < h0.length
  old : ∀ i, i < h0.length → i ≠ n → h[i]? = h0[i]?
  new : ∀ a ∈ as, h0.length ≤ a
  ge : h0.length ≤ R
  rows : h[R]? = some (.lst (as.map .ref))
  out : R ∉ as
  nd : as.Nodup
  len : as.length = m.length
  row : ∀ (i a : Nat), as[i]? = some a → h[a]? = some (.lst ((m.getD i []).map .int))
section
variable {h0 h h1 h2 : Hh} {n R : Nat} {as : List Nat} {m : Mat}
theorem TI.from (T : TI h1 n R as m h) (D : Drawn n h0 h1) : TI h0 n R as m h :=
  { T with lt := by rw [← D.len]; exact T.lt, old := fun i l ne => by rw [T.old i (by rw [D.len]; exact l) ne, D.get ne], new := fun a m => by rw [← D.len]; exact T.new a m, ge := by rw [← D.len]; exact T.ge }
theorem TI.drawn (T : TI h0 n R as m h) (D : Drawn n h h2) : TI h0 n R as m h2 :=
  { T with
    vat := D.vat T.vat
    old := fun i l ne => by rw [D.get ne]; exact T.old i l ne
    rows := by rw [D.get (by have := T.ge; have := T.lt; omega)]; exact T.rows
    row := fun i a e => by rw [D.get (by have := T.new a (List.mem_of_getElem? e); have := T.lt; omega)]; exact T.row i a e }
theorem TI.at (T : TI h0 n R as m h) {i : Nat} (l : i < m.length) : ∃ a, as[i]? = some a ∧ a ∈ as ∧ h[a]? = some (.lst ((m.getD i []).map .int)) ∧ a < h.length := by
  have l2 : i < as.length := by rw [T.len]; exact l
  have e := T.row i as[i] (List.getElem?_eq_getElem l2)
  exact ⟨as[i], List.getElem?_eq_getElem l2, List.getElem_mem l2, e, (List.getElem?_eq_some_iff.mp e).1⟩
theorem nodup_get {as : List Nat} (nd : as.Nodup) {i j a : Nat} (hi : as[i]? = some a) (hj : as[j]? = some a) : i = j := by
  have li := (List.getElem?_eq_some_iff.mp hi).1
  have lj := (List.getElem?_eq_some_iff.mp hj).1
  have gi : as[i] = a := by have := (List.getElem?_eq_some_iff.mp hi).2; exact this
  have gj : as[j] = a := by have := (List.getElem?_eq_some_iff.mp hj).2; exact this
  have k := List.pairwise_iff_getElem.mp nd
  by_cases q : i < j
  · exact absurd (gi.trans gj.symm) (k i j li lj q)
  · by_cases q2 : j < i
    · exact absurd (gj.trans gi.symm) (k j i lj li q2)
    · omega
theorem getD_set {α : Type} {l : List α} {i j : Nat} {x d : α} (h : i < l.length) : (l.set i x).getD j d = if i = j then x else l.getD j d := by
  simp only [List.getD_eq_getElem?_getD]
  by_cases e : i = j
  · subst e; rw [if_pos rfl, List.getElem?_set_self h]; rfl
  · rw [if_neg e, List.getElem?_set_ne e]
theorem TI.setRow (T : TI h0 n R as m h) {i a : Nat} (ea : as[i]? = some a) (r : List Int) : TI h0 n R as (m.set i r) (h.set a (.lst (r.map .int))) := by
  have ma : a ∈ as := List.mem_of_getElem? ea
  have hlt : a < h.length := (List.getElem?_eq_some_iff.mp (T.row i a ea)).1
  have il : i < m.length := by rw [← T.len]; exact (List.getElem?_eq_some_iff.mp ea).1
  refine { T with vat := ?_, old := fun j li ne => ?_, rows := ?_, len := by rw [List.length_set]; exact T.len, row := fun j b e => ?_ }
  · obtain ⟨x, y, z, e⟩ := T.vat
    exact ⟨x, y, z, by rw [List.getElem?_set_ne (by have := T.new a ma; have := T.lt; omega)]; exact e⟩
  · rw [List.getElem?_set_ne (by have := T.new a ma; omega)]; exact T.old j li ne
  · rw [List.getElem?_set_ne (fun z : a = R => T.out (by rw [← z]; exact ma))]; exact T.rows
  · rw [getD_set il]
    by_cases z : i = j
    · subst z
      rw [ea] at e
      cases e
      rw [if_pos rfl, List.getElem?_set_self hlt]
    · rw [if_neg z, List.getElem?_set_ne (fun q : a = b => z (nodup_get T.nd ea (by rw [q]; exact e)))]
      exact T.row j b e
theorem TI.newRow (T : TI h0 n R as m h) {i : Nat} (il : i < m.length) (r : List Int) : TI h0 n R (as.set i h.length) (m.set i r) ((h ++ [Ob.lst (r.map .int)]).set R (Ob.lst ((as.map Val.ref).set i (.ref h.length)))) := by
  have hR : R < h.length := (List.getElem?_eq_some_iff.mp T.rows).1
  have h0l : h0.length ≤ h.length := Nat.le_trans T.ge (Nat.le_of_lt hR)
  have app : ∀ j, j < h.length → (h ++ [Ob.lst (r.map .int)])[j]? = h[j]? := fun j lj => List.getElem?_append_left lj
  have ma : ∀ b ∈ as.set i h.length, b = h.length ∨ b ∈ as := fun b m => (List.mem_or_eq_of_mem_set m).symm.imp id id
  have below : ∀ b ∈ as, b < h.length := fun b mb => by
    obtain ⟨j, lj, rfl⟩ := List.mem_iff_getElem.mp mb
    exact (List.getElem?_eq_some_iff.mp (T.row j _ (List.getElem?_eq_getElem lj))).1
  have lat : h.length ∉ as := fun z => Nat.lt_irrefl _ (below _ z)
  refine ⟨?_, T.lt, fun j lj ne => ?_, fun a m => ?_, T.ge, ?_, fun m => ?_, ?_, by rw [List.length_set, List.length_set]; exact T.len, fun j b e => ?_⟩
  · obtain ⟨x, y, z, e⟩ := T.vat
    exact ⟨x, y, z, by rw [List.getElem?_set_ne (by have := T.ge; have := T.lt; omega), app _ (by have := T.lt; omega)]; exact e⟩
  · rw [List.getElem?_set_ne (by have := T.ge; omega), app _ (by omega)]; exact T.old j lj ne
  · rcases ma a m with e | m
    · omega
    · exact T.new a m
  · rw [List.getElem?_set_self (by rw [List.length_append]; simp; omega), List.map_set]
  · rcases ma R m with e | m
    · omega
    · exact T.out m
  · refine List.pairwise_iff_getElem.mpr fun x y lx ly xy e0 => ?_
    have e : (as.set i h.length)[x]? = (as.set i h.length)[y]? := by rw [List.getElem?_eq_getElem lx, List.getElem?_eq_getElem ly, e0]
    rw [List.length_set] at lx ly
    by_cases q : i = x
    · subst q
      rw [List.getElem?_set_self lx, List.getElem?_set_ne (by omega)] at e
      exact lat (List.mem_of_getElem? e.symm)
    · by_cases q2 : i = y
      · subst q2
        rw [List.getElem?_set_ne q, List.getElem?_set_self ly] at e
        exact lat (List.mem_of_getElem? e)
      · rw [List.getElem?_set_ne q, List.getElem?_set_ne q2] at e
        have e2 : as[x]? = some as[x] := List.getElem?_eq_getElem lx
        have := nodup_get T.nd e2 (e.symm.trans e2)
        omega
  · rw [getD_set il]
    by_cases z : i = j
    · subst z
      rw [List.getElem?_set_self (by rw [T.len]; exact il)] at e
      cases e
      rw [if_pos rfl, List.getElem?_set_ne (by omega), List.getElem?_append_right (Nat.le_refl _), Nat.sub_self]
      rfl
    · rw [List.getElem?_set_ne z] at e
      rw [if_neg z, List.getElem?_set_ne (fun q : R = b => T.out (by rw [q]; exact List.mem_of_getElem? e)), app _ (below b (List.mem_of_getElem? e))]
      exact T.row j b e
theorem frz_rows {b : Nat} {h : Hh} : ∀ (l : List Nat) (ml : Mat), l.length = ml.length → (∀ a ∈ l, b ≤ a) → (∀ (i a : Nat), l[i]? = some a → h[a]? = some (.lst ((ml.getD i []).map .int))) → frz1L b h (l.map .ref) = some (ml.map fun r => Val.lst (r.map .int))
  | [], [], _, _, _ => rfl
  | [], _ :: _, e, _, _ => by cases e
  | _ :: _, [], e, _, _ => by cases e
  | a :: l, r :: ml, e, hb, hr => by
    have ih := frz_rows (b := b) (h := h) l ml (by simpa using e) (fun x mx => hb x (List.mem_cons_of_mem _ mx)) fun i x ex => hr (i + 1) x ex
    have q1 : h[a]? = some (.lst (r.map .int)) := hr 0 a rfl
    have hb2 : below b (.ref a) = false := by
      have := hb a List.mem_cons_self
      simp only [below, decide_eq_false_iff_not]
      omega
    simp only [List.map_cons, frz1L, frz1, hb2, Bool.false_eq_true, if_false, q1, ints_low, if_true, Option.bind_some, ih, Option.map_some]
/-- what is handed back of them -/
theorem TI.frz (T : TI h0 n R as m h) : frz h0.length h (.ref R) = some (rowsV m) := by
  have hb : below h0.length (.ref R) = false := by
    have := T.ge
    simp only [below, decide_eq_false_iff_not]
    omega
  unfold Co.frz
  simp only [hb, Bool.false_eq_true, if_false, T.rows, frz_rows as m T.len T.new T.row, Option.map_some]
  rfl
theorem TI.back (T : TI h0 n R as m h) : Drawn n h0 (h.take h0.length) := by
  obtain ⟨a, b, c, e⟩ := T.vat
  have hl : h0.length ≤ h.length := Nat.le_trans T.ge (Nat.le_of_lt (List.getElem?_eq_some_iff.mp T.rows).1)
  refine ⟨a, b, c, List.ext_getElem? fun i => ?_⟩
  by_cases q : i < h0.length
  · rw [List.getElem?_take_of_lt q]
    by_cases z : i = n
    · subst z; rw [e, List.getElem?_set_self q]
    · rw [T.old i q z, List.getElem?_set_ne (Ne.symm z)]
  · rw [List.getElem?_eq_none (by rw [List.length_take]; omega), List.getElem?_eq_none (by simp; omega)]
theorem TI.lenR (T : TI h0 n R as m h) : Co.bi .len (asL [.ref R] h) = some (.int (m.length : Nat)) := by
  simp only [asL_c, asL_n, rd_r T.rows]
  show some (Val.int ((as.map Val.ref).length : Nat)) = _
  rw [List.length_map, T.len]
/-- the row at a place -/
theorem TI.rowAt (T : TI h0 n R as m h) {i : Int} (a : 0 ≤ i) (b : i < m.length) : ∃ x, as[i.toNat]? = some x ∧ x ∈ as ∧ idxV (rd h (.ref R)) (.int i) = some (.ref x) ∧ ixN (as.map Val.ref).length i = some i.toNat ∧ h[x]? = some (.lst ((m.getD i.toNat []).map .int)) := by
  obtain ⟨x, e, mx, er, _⟩ := T.at (i := i.toNat) (by omega)
  refine ⟨x, e, mx, idx_ref T.rows (atI_at i.toNat (by rw [List.getElem?_map, e]; rfl) (by omega)), ixN_at i.toNat (by rw [List.length_map, T.len]; omega) (by omega), er⟩
end
theorem range_len : ∀ (n : Nat) (lo : Int), (rangeL lo n).length = n
  | 0, _ => rfl
  | n + 1, lo => by simp [rangeL, range_len n]
theorem pairs_map : ∀ (xs ys : List Int), pairs (xs.map .int) (ys.map .int) = (List.zip xs ys).map fun p => .tup [.int p.1, .int p.2]
  | [], _ => by simp [pairs]
  | _ :: _, [] => by simp [pairs]
  | x :: xs, y :: ys => by simp [pairs, pairs_map xs ys]
theorem len_ref {h : Hh} {R : Nat} {ws : List Val} (hn : h[R]? = some (.lst ws)) : Co.bi .len (asL [.ref R] h) = some (.int ws.length) := by
  simp only [asL_c, asL_n, rd_r hn]
  rfl
end Co
end

section
set_option linter.all false
set_option maxRecDepth 100000
set_option autoImplicit false
/-! Mx: powers of a table, plainly. -/
namespace Co
open PySem L2 TL
def sumN (n : Nat) (f : Nat → Int) : Int := ((List.range n).map f).sum
theorem sumN_zero (f : Nat → Int) : sumN 0 f = 0 := rfl
theorem sumN_succ (n : Nat) (f : Nat → Int) : sumN (n + 1) f = sumN n f + f n := by
  unfold sumN
  rw [List.range_succ, List.map_append, List.sum_append]
  simp
theorem sumN_congr {n : Nat} {f g : Nat → Int} (h : ∀ i, i < n → f i = g i) : sumN n f = sumN n g := by
  unfold sumN
  congr 1
  exact List.map_congr_left fun i m => h i (List.mem_range.mp m)
theorem sumN_add (f g : Nat → Int) : ∀ n, sumN n (fun i => f i + g i) = sumN n f + sumN n g
  | 0 => rfl
  | n + 1 => by rw [sumN_succ, sumN_succ, sumN_succ, sumN_add f g n]; omega
theorem sumN_mulL (c : Int) (f : Nat → Int) : ∀ n, sumN n (fun i => c * f i) = c * sumN n f
  | 0 => by simp [sumN_zero]
  | n + 1 => by rw [sumN_succ, sumN_succ, sumN_mulL c f n, Int.mul_add]
theorem sumN_mulR (c : Int) (f : Nat → Int) : ∀ n, sumN n (fun i => f i * c) = sumN n f * c
  | 0 => by simp [sumN_zero]
  | n + 1 => by rw [sumN_succ, sumN_succ, sumN_mulR c f n, Int.add_mul]
theorem sumN_0 : ∀ n, sumN n (fun _ => 0) = 0
  | 0 => rfl
  | n + 1 => by rw [sumN_succ, sumN_0 n]; rfl
theorem sumN_swap (f : Nat → Nat → Int) (m : Nat) : ∀ n, sumN n (fun i => sumN m fun j => f i j) = sumN m fun j => sumN n fun i => f i j
  | 0 => by simp only [sumN_zero, sumN_0]
  | n + 1 => by
    rw [sumN_succ, sumN_swap f m n, ← sumN_add]
    exact sumN_congr fun j _ => (sumN_succ n fun i => f i j).symm
theorem sumN_one {k : Nat} (c : Nat → Int) : ∀ n, k < n → sumN n (fun i => c i * (if i = k then 1 else 0)) = c k
  | 0, h => by omega
  | n + 1, h => by
    rw [sumN_succ]
    by_cases q : n = k
    · subst q
      rw [if_pos rfl, sumN_congr (g := fun _ => 0) fun i hi => by rw [if_neg (by omega), Int.mul_zero], sumN_0]
      omega
    · rw [if_neg q, sumN_one c n (by omega), Int.mul_zero]
      omega
theorem dot_sum {r v : List Int} {n : Nat} (h : r.length = n) (h2 : v.length = n) : dot r v = sumN n fun i => r.getD i 0 * v.getD i 0 := (dot_range r v n h h2).symm
/-! ### tables -/
def genM (n : Nat) (f : Nat → Nat → Int) : Mat := (List.range n).map fun i => (List.range n).map fun j => f i j
theorem getD_map_range {α : Type} {n i : Nat} {f : Nat → α} {d : α} (h : i < n) : ((List.range n).map f).getD i d = f i := by
  rw [List.getD_eq_getElem?_getD,
                          List.getElem?_map, List.getElem?_range h]
  rfl
theorem genM_len {n : Nat} {f : Nat → Nat → Int} : (genM n f).length = n := by unfold genM; rw [List.length_map, List.length_range]
theorem genM_row {n i : Nat} {f : Nat → Nat → Int} (h : i < n) : (genM n f).getD i [] = (List.range n).map fun j => f i j := getD_map_range h
theorem genM_at {n i j : Nat} {f : Nat → Nat → Int} (h : i < n) (h2 : j < n) : ((genM n f).getD i []).getD j 0 = f i j := by rw [genM_row h, getD_map_range h2]
theorem genM_rows {n : Nat} {f : Nat → Nat → Int} : ∀ r ∈ genM n f, r.length = n := fun r m => by
  obtain ⟨i, _, rfl⟩ := List.mem_map.mp m
  rw [List.length_map,
                          List.length_range]
theorem genM_congr {n : Nat} {f g : Nat → Nat → Int} (h : ∀ i j, i < n → j < n → f i j = g i j) : genM n f = genM n g :=
  List.map_congr_left fun i mi => List.map_congr_left fun j mj => h i j (List.mem_range.mp mi) (List.mem_range.mp mj)
theorem list_gen {n : Nat} {α : Type} {l : List α} {d : α} (h : l.length = n) : l = (List.range n).map fun i => l.getD i d := by
  refine List.ext_getElem (by rw [List.length_map, List.length_range, h]) fun i h1 h2 => ?_
  rw [List.getElem_map, List.getElem_range, List.getD_eq_getElem?_getD, List.getElem?_eq_getElem h1]
  rfl
theorem mat_gen {n : Nat} {m : Mat} (h : m.length = n) (hr : ∀ r ∈ m, r.length = n) : m = genM n fun i j => (m.getD i []).getD j 0 := by
  refine (list_gen (d := []) h).trans (List.map_congr_left fun i mi => ?_)
  exact list_gen (hr _ (getD_mem (by rw [h]; exact List.mem_range.mp mi)))
def unitM (n : Nat) : Mat := genM n fun i j => if i = j then 1 else 0
/-- the lone standing of a place -/
def oneI (n k : Nat) : List Int := (List.range n).map fun j => if k = j then 1 else 0
theorem oneI_len {n k : Nat} : (oneI n k).length = n := by unfold oneI; rw [List.length_map, List.length_range]
theorem unit_one (n : Nat) : unitM n = (List.range n).map (oneI n) := rfl
def colsM (n : Nat) (m : Mat) : Mat := (List.range n).map fun j => m.map fun r => r.getD j 0
def timesM (n : Nat) (a b : Mat) : Mat := a.map fun r => (colsM n b).map fun c => dot r c
def powM (n : Nat) (m : Mat) : Nat → Mat
  | 0 => unitM n
  | k + 1 => timesM n (powM n m k) m
def SqN (n : Nat) (m : Mat) : Prop := m.length = n ∧ ∀ r ∈ m, r.length = n
theorem Sq.n {n : Nat} {B : Int} {m : Mat} (h : Sq n B m) : SqN n m := ⟨h.1, fun r hr => (h.2 r hr).1⟩
theorem unitM_sq (n : Nat) : SqN n (unitM n) := ⟨genM_len, genM_rows⟩
theorem timesM_sq {n : Nat} {a b : Mat} (ha : SqN n a) : SqN n (timesM n a b) := by
  refine ⟨by unfold timesM; rw [List.length_map, ha.1], fun r hr => ?_⟩
  obtain ⟨u, mu, rfl⟩ := List.mem_map.mp hr
  unfold colsM
  rw [List.length_map, List.length_map, List.length_range]
theorem powM_sq {n : Nat} {m : Mat} : ∀ k, SqN n (powM n m k)
  | 0 => unitM_sq n
  | k + 1 => timesM_sq (powM_sq k)
theorem led_unit {n : Nat} {v : List Int} (h : v.length = n) : ledM (unitM n) v = v := by
  refine Eq.trans ?_ (list_gen (d := 0) h).symm
  unfold ledM unitM genM
  rw [List.map_map]
  refine List.map_congr_left fun i mi => ?_
  show dot ((List.range n).map fun j => if i = j then 1 else 0) v = v.getD i 0
  rw [dot_sum (n := n) (by rw [List.length_map, List.length_range]) h, ← sumN_one (k := i) (fun j => v.getD j 0) n (List.mem_range.mp mi)]
  refine sumN_congr fun j hj => ?_
  rw [getD_map_range hj, Int.mul_comm]
  by_cases q : i = j
  · rw [if_pos q, if_pos q.symm]
  · rw [if_neg q, if_neg (Ne.symm q)]
theorem getD_map' {α β : Type} {l : List α} {f : α → β} {i : Nat} {d : α} {e : β} (h : i < l.length) : (l.map f).getD i e = f (l.getD i d) := by
  rw [List.getD_eq_getElem?_getD, List.getElem?_map, List.getD_eq_getElem?_getD, List.getElem?_eq_getElem h]
  rfl
theorem led_times {n : Nat} {a b : Mat} {v : List Int} (ha : SqN n a) (hb : SqN n b) (hv : v.length = n) : ledM (timesM n a b) v = ledM a (ledM b v) := by
  unfold timesM
  unfold ledM
  rw [List.map_map]
  refine List.map_congr_left fun r hr => ?_
  have lr := ha.2 r hr
  show dot ((colsM n b).map fun c => dot r c) v = dot r (b.map fun q => dot q v)
  have lc : ((colsM n b).map fun c => dot r c).length = n := by unfold colsM; rw [List.length_map, List.length_map, List.length_range]
  rw [dot_sum lc hv, dot_sum lr (by rw [List.length_map, hb.1])]
  have e1 : ∀ j, j < n → ((colsM n b).map fun c => dot r c).getD j 0 * v.getD j 0 = sumN n fun l => r.getD l 0 * ((b.getD l []).getD j 0 * v.getD j 0) := fun j hj => by
    have : ((colsM n b).map fun c => dot r c).getD j 0 = sumN n fun l => r.getD l 0 * (b.getD l []).getD j 0 := by
      unfold colsM
      rw [List.map_map, getD_map_range hj]
      show dot r (b.map fun q => q.getD j 0) = _
      rw [dot_sum lr (by rw [List.length_map, hb.1])]
      refine sumN_congr fun l hl => ?_
      rw [getD_map' (d := []) (by rw [hb.1]; exact hl)]
    rw [this, ← sumN_mulR]
    exact sumN_congr fun l _ => Int.mul_assoc ..
  have e2 : ∀ l, l < n → r.getD l 0 * (b.map fun q => dot q v).getD l 0 = sumN n fun j => r.getD l 0 * ((b.getD l []).getD j 0 * v.getD j 0) := fun l hl => by
    rw [getD_map' (d := []) (by rw [hb.1]; exact hl), dot_sum (hb.2 _ (getD_mem (by rw [hb.1]; exact hl))) hv, sumN_mulL]
  rw [sumN_congr e1, sumN_congr e2]
  exact sumN_swap _ _ _
theorem led_pow {n : Nat} {m : Mat} (hm : SqN n m) : ∀ (k : Nat) {v : List Int}, v.length = n → ledM (powM n m k) v = itM m k v
  | 0, v, hv => led_unit hv
  | k + 1, v, hv => by
    show ledM (timesM n (powM n m k) m) v = itM m k (ledM m v)
    rw [led_times (powM_sq k) hm hv, led_pow hm k (by rw [ledM_len, hm.1])]
theorem dot_one {n j : Nat} {r : List Int} (hr : r.length = n) (hj : j < n) : dot r (oneI n j) = r.getD j 0 := by
  rw [dot_sum hr oneI_len, ← sumN_one (k := j) (fun i => r.getD i 0) n hj]
  refine sumN_congr fun i hi => ?_
  unfold oneI
  rw [getD_map_range hi]
  by_cases q : j = i
  · rw [if_pos q, if_pos q.symm]
  · rw [if_neg q, if_neg (Ne.symm q)]
/-- the power's numbers, by lone standings led on -/
theorem pow_sides {n : Nat} {m : Mat} (hm : SqN n m) (k : Nat) : powM n m k = genM n fun i j => (itM m k (oneI n j)).getD i 0 := by
  have sq := powM_sq (n := n) (m := m) k
  refine (mat_gen sq.1 sq.2).trans (genM_congr fun i j hi hj => ?_)
  have lr := sq.2 _ (getD_mem (d := []) (show i < (powM n m k).length by rw [sq.1]; exact hi))
  rw [← led_pow hm k oneI_len]
  unfold ledM
  rw [getD_map' (d := []) (by rw [sq.1]; exact hi), dot_one lr hj]
def traceM (n : Nat) (m : Mat) : Int := sumN n fun k => (m.getD k []).getD k 0
theorem trace_unit (n : Nat) : traceM n (unitM n) = n := by
  unfold traceM unitM
  rw [sumN_congr (g := fun _ => 1) fun i hi => by rw [genM_at hi hi, if_pos rfl]]
  have : ∀ n, sumN n (fun _ => (1 : Int)) = n := fun n => by
    induction n with
    | zero => rfl
    | succ n ih => rw [sumN_succ, ih]; omega
  exact this n
theorem enum_map {α : Type} {A : α → Val} {d : α} : ∀ (xs : List α), enumFrom 0 (xs.map A) = (List.range xs.length).map fun i : Nat => .tup [.int i, A (xs.getD i d)] := by
  have : ∀ (xs : List α) (k : Nat), enumFrom k (xs.map A) = (List.range xs.length).map fun i : Nat => .tup [.int ((k + i : Nat) : Int), A (xs.getD i d)] := fun xs => by
    induction xs with
    | nil => intro k; rfl
    | cons x xs ih =>
      intro k
      rw [List.map_cons, enumFrom, ih (k + 1), List.length_cons, List.range_succ_eq_map, List.map_cons, List.map_map]
      congr 1
      refine List.map_congr_left
                              fun i _ => ?_
      show Val.tup [.int ((k + 1 + i : Nat) : Int), A (xs.getD i d)] = Val.tup [.int ((k + (i + 1) : Nat) : Int), A (((x :: xs)).getD (i + 1) d)]
      rw [show k + 1 + i = k + (i + 1) from by omega]
      rfl
  intro xs
  rw [this xs 0]
  refine List.map_congr_left
                          fun i _ => ?_
  rw [Nat.zero_add]
/-! ### columns by zip -/
theorem minLen_all {n : Nat} : ∀ {xss : List (List Val)}, xss ≠ [] → (∀ r ∈ xss, r.length = n) → minLen xss = n
  | [], h, _ => absurd rfl h
  | [x], _, hr => hr x List.mem_cons_self
  | x :: y :: r, _, hr => by
    show min x.length (minLen (y :: r)) = n
    rw [minLen_all (by simp) fun z mz => hr z (List.mem_cons_of_mem _ mz), hr x List.mem_cons_self, Nat.min_self]
theorem its_tup {h : Hh} : ∀ m : Mat, itsOf h (m.map tupI) = some (m.map fun r => r.map .int, [])
  | [] => rfl
  | r :: m => by
    rw [List.map_cons, itsOf, show itOf2 h (tupI r) = some (r.map .int, []) from rfl, Option.bind_some, its_tup m]
    rfl
theorem its_lst {h : Hh} : ∀ m : Mat, itsOf h (m.map fun r => Val.lst (r.map .int)) = some (m.map fun r => r.map .int, [])
  | [] => rfl
  | r :: m => by
    rw [List.map_cons, itsOf, show itOf2 h (Val.lst (r.map .int)) = some (r.map .int, []) from rfl, Option.bind_some, its_lst m]
    rfl
theorem cols_eq {n : Nat} {m : Mat} (h0 : m ≠ []) (hr : ∀ r ∈ m, r.length = n) : colsL (m.map fun r => r.map .int) = (colsM n m).map tupI := by
  unfold colsL colsM
  rw [minLen_all (n := n) (by simpa using h0) (fun r mr => by obtain ⟨u, mu, rfl⟩ := List.mem_map.mp mr; rw [List.length_map]; exact hr u mu), List.map_map]
  refine List.map_congr_left fun j mj => ?_
  have hj := List.mem_range.mp mj
  show Val.tup _ = Val.tup _
  congr 1
  rw [List.filterMap_map, List.map_map]
  clear h0
  induction m with
  | nil => rfl
  | cons r m ih =>
    have lr := hr r List.mem_cons_self
    rw [List.filterMap_cons, List.map_cons, ← ih fun u mu => hr u (List.mem_cons_of_mem _ mu)]
    have : ((fun x : List Val => x[j]?) ∘ fun r : List Int => r.map Val.int) r = some (.int (r.getD j 0)) := by
      show (r.map Val.int)[j]? = _
      rw [List.getElem?_map, List.getD_eq_getElem?_getD, List.getElem?_eq_getElem (by omega)]
      rfl
    rw [this]
    rfl
end Co
end

section
set_option linter.all false
set_option maxRecDepth 100000
set_option autoImplicit false
/-! Kl: steps with objects of own classes. -/
namespace Co
open PySem L2 TL
section
variable {g : G} {s : Env} {h : Hh} {Q : Val → Hh → Prop} {QC : Ctl × Env → Hh → Prop} {o e : CE} {es : List CE} {f m : Str} {c : Nat}
theorem w_fld (q : Ends (evE g o s h) fun x h1 => ∃ c fs v, fldV h1 x = some (c, fs) ∧ c < g.ncl ∧ g.prop c f = none ∧ (g.meth c f).isSome = false ∧ keyGet (.inr f) fs = some v ∧ Q v h1) : Ends (evE g (.fld o f) s h) Q := by
  simp only [evE]
  refine .bind q fun x h1 ⟨c, fs, v, e1, e2, e3, e4, e5, q⟩ => ?_
  simp only [e1, if_pos e2, e3, e4, Bool.false_eq_true, if_false, e5]
  exact .ok q
theorem w_prop (q : Ends (evE g o s h) fun x h1 => ∃ c fs p, fldV h1 x = some (c, fs) ∧ c < g.ncl ∧ g.prop c f = some p ∧ Ends (g.call p [x] h1) Q) : Ends (evE g (.fld o f) s h) Q := by
  simp only [evE]
  refine .bind q fun x h1 ⟨c, fs, p, e1, e2, e3, q⟩ => ?_
  simp only [e1, if_pos e2, e3]
  exact q
theorem w_make (q : Ends (evEs g es s h) fun vs h1 => Ends (g.make c vs h1) Q) : Ends (evE g (.make c es) s h) Q := by
  simp only [evE]; exact .bind q fun x h1 q => q
theorem x_fld (q : Ends (evE g e s h) fun v h1 => Ends (evE g o s h1) fun x h2 => ∃ n c fs, x = .ref n ∧ h2[n]? = some (.ins c fs) ∧ (c < g.ncl ∧ (g.prop c f).isSome = false ∧ (g.meth c f).isSome = false ∧ fs.length < 900 ∧ mayStore g.base n v = true) ∧ QC (.next, s) (h2.set n (.ins c (putW (.inr f) v fs)))) :
    Ends (exS g (.fld o f e) s h) QC := by
  simp only [exS]
  refine .bind q fun v h1 q1 => .bind q1 fun x h2 ⟨n, c, fs, e1, e2, e3, q2⟩ => ?_
  subst e1
  simp only [setFld, e2]
  rw [if_pos e3]
  exact .ok q2
end
/-- a table of the package: its text and its rows -/
def tableV (t : Str) (m : Mat) : Val := .ins 0 [(.inr "written", .str t), (.inr "lines", tupV m)]
theorem table_low (b : Nat) (t : Str) (m : Mat) : below b (tableV t m) = true := by
  show (true && (below b (tupV m) && true)) = true
  rw [fz_below b _ (fz_tupV m)]
  rfl
/-- equal data: the same -/
theorem toDL_refl {k : Nat} (h : ∀ (v : Val) (d : PyData), toD k v = some d → PyData.eqv d d = true) : ∀ (vs : List Val) (ds : List PyData), toDL k vs = some ds → PyData.eqvAll ds ds = true
  | [], ds, e => by cases e; rfl
  | v :: r, ds, e => by
    simp only [toDL, Option.bind_eq_some_iff, Option.map_eq_some_iff] at e
    obtain ⟨d, e1, es, e2, rfl⟩ := e
    simp only [PyData.eqvAll, h v d e1, toDL_refl h r es e2, Bool.and_self]
theorem toD_refl : ∀ (k : Nat) (v : Val) (d : PyData), toD k v = some d → PyData.eqv d d = true
  | k, .non, d, e => by cases k <;> (cases e; rfl)
  | k, .bl b, d, e => by cases k <;> (cases e; cases b <;> rfl)
  | k, .int i, d, e => by cases k <;> (cases e; simp [PyData.eqv])
  | k, .str i, d, e => by
    cases k <;> (simp only [toD] at e; split at e <;> cases e; simp [PyData.eqv])
  | 0, .tup vs, d, e => by simp [toD] at e
  | 0, .lst vs, d, e => by simp [toD] at e
  | k + 1, .tup vs, d, e => by
    simp only [toD, Option.map_eq_some_iff] at e
    obtain ⟨ds, e1, rfl⟩ := e
    simp only [PyData.eqv]
    exact toDL_refl (toD_refl k) vs ds e1
  | k + 1, .lst vs, d, e => by
    simp only [toD, Option.map_eq_some_iff] at e
    obtain ⟨ds, e1, rfl⟩ := e
    simp only [PyData.eqv]
    exact toDL_refl (toD_refl k) vs ds e1
  | k, .ro vs, d, e => by cases k <;> simp [toD] at e
  | k, .dct vs, d, e => by cases k <;> simp [toD] at e
  | k, .ins c vs, d, e => by cases k <;> simp [toD] at e
  | k, .ref n, d, e => by cases k <;> simp [toD] at e
theorem eqD_same {v : Val} (h : (toD 60 v).isSome = true) : eqD v v = some true := by
  obtain ⟨d, e⟩ := Option.isSome_iff_exists.mp h
  unfold eqD
  rw [e]
  simp only [Option.bind_some, Option.map_some, toD_refl 60 v d e]
theorem toDL_all {k : Nat} : ∀ {vs : List Val}, (∀ v ∈ vs, (toD k v).isSome = true) → (toDL k vs).isSome = true
  | [], _ => rfl
  | v :: r, h => by
    obtain ⟨d, e⟩ := Option.isSome_iff_exists.mp (h v List.mem_cons_self)
    obtain ⟨ds, es⟩ := Option.isSome_iff_exists.mp (toDL_all (vs := r) fun u m => h u (List.mem_cons_of_mem _ m))
    simp only [toDL, e, es, Option.bind_some, Option.map_some, Option.isSome_some]
theorem toD_tup {k : Nat} {vs : List Val} (h : ∀ v ∈ vs, (toD k v).isSome = true) : (toD (k + 1) (.tup vs)).isSome = true := by
  simp only [toD, Option.isSome_map, toDL_all h]
theorem toD_lst {k : Nat} {vs : List Val} (h : ∀ v ∈ vs, (toD k v).isSome = true) : (toD (k + 1) (.lst vs)).isSome = true := by
  simp only [toD, Option.isSome_map, toDL_all h]
theorem toD_I {k : Nat} {r : List Int} : (toD (k + 1) (tupI r)).isSome = true := toD_tup fun v m => by
  obtain ⟨i, _, rfl⟩ := List.mem_map.mp m
  cases k <;> rfl
theorem toD_V {k : Nat} {m : Mat} : (toD (k + 2) (tupV m)).isSome = true := toD_tup fun v mv => by
  obtain ⟨r, _, rfl⟩ := List.mem_map.mp mv
  exact toD_I
theorem toD_i {k : Nat} {i : Int} : (toD k (.int i)).isSome = true := by cases k <;> rfl
theorem toD_2 {k : Nat} {v : Val} (h : (toD k v).isSome = true) : (toD (k + 1) (.lst [v, v])).isSome = true := toD_lst fun u m => by
  simp only [List.mem_cons, List.not_mem_nil, or_false, or_self] at m
  rw [m]; exact h
theorem ne_same2 {h h2 : Hh} {v : Val} (e : (toD 59 v).isSome = true) : cop .NotEq (rd h (.lst [v, v])) (rd h2 (.lst [v, v])) = some false := by
  show (eqD (.lst [v, v]) (.lst [v, v])).map not = _
  rw [eqD_same (toD_2 e)]
  rfl
theorem ne_sameV {h h2 : Hh} {m : Mat} : cop .NotEq (rd h (tupV m)) (rd h2 (tupV m)) = some false := by
  show (eqD (tupV m) (tupV m)).map not = _
  rw [eqD_same (toD_V (k := 58))]
  rfl
end Co
end

section
set_option linter.all false
set_option maxRecDepth 100000
set_option autoImplicit false
/-! Wh: while, by a measure. -/
namespace Co
open PySem L2 TL
theorem whileL_inv {test : Env → Hh → Res Bool} {step : Env → Hh → Res (Ctl × Env)} {QC : Ctl × Env → Hh → Prop} (J : Nat → Env → Hh → Prop)
    (hs : ∀ k s h, J k s h → Ends (test s h) fun b h1 => (b = false → QC (.next, s) h1) ∧ (b = true → Ends (step s h1) fun p h2 => p.1 = .next ∧ ∃ j, j < k ∧ J j p.2 h2)) :
    ∀ (n k : Nat) (s : Env) (h : Hh), k < n → J k s h → Ends (whileL test step n s h) QC
  | 0, k, s, h, l, _ => by omega
  | n + 1, k, s, h, l, j => by
    simp only [whileL]
    refine .bind (hs k s h j) fun b h1 ⟨q1, q2⟩ => ?_
    cases b with
    | false => exact .ok (q1 rfl)
    | true =>
      refine .bind (q2 rfl) fun p h2 ⟨e, i, il, ji⟩ => ?_
      obtain ⟨c, s2⟩ := p
      have e : c = .next := e
      subst e
      exact whileL_inv J hs n i s2 h2 (by omega) ji
theorem w_while {g : G} {s : Env} {h : Hh} {c : CE} {bd : List CS} {QC : Ctl × Env → Hh → Prop} (J : Nat → Env → Hh → Prop) (k : Nat) (hk : k < 1000000000) (j : J k s h)
    (hs : ∀ k s h, J k s h → Ends (evE g c s h) fun v h1 => ∃ b, v = .bl b ∧ (b = false → QC (.next, s) h1) ∧ (b = true → Ends (exSs g bd s h1) fun p h2 => p.1 = .next ∧ ∃ j, j < k ∧ J j p.2 h2)) : Ends (exS g (.while c bd) s h) QC := by
  simp only [exS]
  refine whileL_inv J (fun k s h jk => ?_) turns k s h hk j
  refine .bind (hs k s h jk) fun v h1 ⟨b, e, q1, q2⟩ => ?_
  subst e
  exact .ok ⟨q1, q2⟩
end Co
end

section
set_option linter.all false
set_option maxRecDepth 100000
namespace Lk02
open PySem L2 Co
def top (i : Nat) : Stmt := PySem.Challenge.pw_countertables_k02_tables_made.main.body.getD i (.Pass ⟨0, 0, 0, 0⟩)
def mtop (i j : Nat) : Stmt := (clsBody (top i)).getD j (.Pass ⟨0, 0, 0, 0⟩)
def tab : TabC := ⟨[Str.ofString "is_natural_word", Str.ofString "is_integer_word", Str.ofString "integer_in", Str.ofString "rows_in", Str.ofString "_law_purse", Str.ofString "_law_draw", Str.ofString "_law_pick", Str.ofString "_law_said", Str.ofString "_law_right", Str.ofString "law"],
  [(Str.ofString "Table", 0)], [0], [Str.ofString "__bool__", Str.ofString "__len__", Str.ofString "lines", Str.ofString "rows", Str.ofString "size", Str.ofString "text", Str.ofString "written"],
  [(Str.ofString "__name__", .str (Str.ofString "law_countertables_k02_tables_made")), (Str.ofString "MOST_SIZE", .int (6)), (Str.ofString "MOST_NUMBER", .int (1000000000)), (Str.ofString "DIGITS", .str (Str.ofString "0123456789"))],
  [Str.ofString "abs", Str.ofString "all", Str.ofString "any", Str.ofString "bool", Str.ofString "divmod", Str.ofString "int", Str.ofString "isinstance", Str.ofString "len", Str.ofString "list", Str.ofString "max", Str.ofString "min", Str.ofString "range", Str.ofString "repr", Str.ofString "str", Str.ofString "tuple", Str.ofString "zip"],
  [(66, 11), (78, 16), (92, 12), (94, 12), (97, 15), (97, 44), (88, 69), (88, 85), (88, 102)],
  [(0, [Str.ofString "text"], [])]⟩
def o0 : OneC := tab.one (Str.ofString "is_natural_word") (Str.ofString "is_natural_word") .glob (top 7) [Str.ofString "word", Str.ofString "sign"] [Str.ofString "word"] false []
def o1 : OneC := tab.one (Str.ofString "is_integer_word") (Str.ofString "is_integer_word") .glob (top 8) [Str.ofString "word"] [Str.ofString "word"] false []
def o2 : OneC := tab.one (Str.ofString "integer_in") (Str.ofString "integer_in") .glob (top 9) [Str.ofString "word"] [Str.ofString "word"] false []
def o3 : OneC := tab.one (Str.ofString "rows_in") (Str.ofString "rows_in") .glob (top 11) [Str.ofString "text", Str.ofString "parts", Str.ofString "rows", Str.ofString "part", Str.ofString "words", Str.ofString "row", Str.ofString "word", Str.ofString "number"] [Str.ofString "text"] false []
def o4 : OneC := tab.one (Str.ofString "_law_purse") (Str.ofString "_law_purse") .glob (top 14) [Str.ofString "_law_script", Str.ofString "_law_spot", Str.ofString "_law_cell", Str.ofString "_law_seed", Str.ofString "_law_one"] [Str.ofString "_law_script", Str.ofString "_law_spot"] true []
def o5 : OneC := tab.one (Str.ofString "_law_draw") (Str.ofString "_law_draw") .glob (top 15) [Str.ofString "_law_purse_here", Str.ofString "_law_many", Str.ofString "_law_digit"] [Str.ofString "_law_purse_here", Str.ofString "_law_many"] false []
def o6 : OneC := tab.one (Str.ofString "_law_pick") (Str.ofString "_law_pick") .glob (top 16) [Str.ofString "_law_purse_here", Str.ofString "_law_some"] [Str.ofString "_law_purse_here", Str.ofString "_law_some"] false []
def o7 : OneC := tab.one (Str.ofString "_law_said") (Str.ofString "_law_said") .glob (top 17) [Str.ofString "_law_rows_here", Str.ofString "_law_row_here", Str.ofString "_law_x"] [Str.ofString "_law_rows_here"] false []
def o8 : OneC := tab.one (Str.ofString "_law_right") (Str.ofString "_law_right") .glob (top 18) [Str.ofString "_law_purse_here", Str.ofString "_law_some", Str.ofString "_law_turn", Str.ofString "_law_lines", Str.ofString "_law_grids", Str.ofString "_law_size", Str.ofString "_law_top", Str.ofString "_law_grid", Str.ofString "_law_rows_here", Str.ofString "_law_said_here", Str.ofString "_law_seen", Str.ofString "_law_due", Str.ofString "_law_odd", Str.ofString "_law_row_here", Str.ofString "_law_k", Str.ofString "_law_each", Str.ofString "_law_j"] [Str.ofString "_law_purse_here"] false []
def o9 : OneC := tab.one (Str.ofString "law") (Str.ofString "law") .glob (top 19) [Str.ofString "_law_script", Str.ofString "_law_spot"] [Str.ofString "_law_script"] false []
def o10 : OneC := tab.one (Str.ofString "__init__") (Str.ofString "Table.__init__") (.init 0) (mtop 12 0) [Str.ofString "self", Str.ofString "text", Str.ofString "found"] [Str.ofString "self", Str.ofString "text"] false []
def o11 : OneC := tab.one (Str.ofString "text") (Str.ofString "Table.text") (.prop 0 (Str.ofString "text")) (mtop 12 1) [Str.ofString "self"] [Str.ofString "self"] false []
def o12 : OneC := tab.one (Str.ofString "size") (Str.ofString "Table.size") (.prop 0 (Str.ofString "size")) (mtop 12 2) [Str.ofString "self"] [Str.ofString "self"] false []
def o13 : OneC := tab.one (Str.ofString "rows") (Str.ofString "Table.rows") (.prop 0 (Str.ofString "rows")) (mtop 12 3) [Str.ofString "self"] [Str.ofString "self"] false []
def o14 : OneC := tab.one (Str.ofString "__str__") (Str.ofString "Table.__str__") (.meth 0 (Str.ofString "__str__")) (mtop 12 4) [Str.ofString "self"] [Str.ofString "self"] false []
def o15 : OneC := tab.one (Str.ofString "__repr__") (Str.ofString "Table.__repr__") (.meth 0 (Str.ofString "__repr__")) (mtop 12 5) [Str.ofString "self"] [Str.ofString "self"] false []
def o16 : OneC := tab.one (Str.ofString "__eq__") (Str.ofString "Table.__eq__") (.meth 0 (Str.ofString "__eq__")) (mtop 12 6) [Str.ofString "self", Str.ofString "other"] [Str.ofString "self", Str.ofString "other"] false []
def os : List OneC := [o0, o1, o2, o3, o4, o5, o6, o7, o8, o9, o10, o11, o12, o13, o14, o15, o16]
def rs : List Role := [.glob, .glob, .glob, .glob, .glob, .glob, .glob, .glob, .glob, .glob, .init 0, .prop 0 (Str.ofString "text"), .prop 0 (Str.ofString "size"), .prop 0 (Str.ofString "rows"), .meth 0 (Str.ofString "__str__"), .meth 0 (Str.ofString "__repr__"), .meth 0 (Str.ofString "__eq__")]
def cl0 : Cl := ⟨some 10, true, [(Str.ofString "__str__", 14), (Str.ofString "__repr__", 15), (Str.ofString "__eq__", 16)], [(Str.ofString "text", 11), (Str.ofString "size", 12), (Str.ofString "rows", 13)]⟩
def cls : List Cl := [cl0]
theorem ok0 : o0.Ok := ⟨⟨rfl, rfl, rfl, by decide +kernel, rfl, by decide +kernel, by decide +kernel⟩, rfl, fun _ _ _ _ _ _ us hl => match us, hl with | [_], _ => rfl⟩
theorem ok1 : o1.Ok := ⟨⟨rfl, rfl, rfl, by decide +kernel, rfl, by decide +kernel, by decide +kernel⟩, rfl, fun _ _ _ _ _ _ us hl => match us, hl with | [_], _ => rfl⟩
theorem ok2 : o2.Ok := ⟨⟨rfl, rfl, rfl, by decide +kernel, rfl, by decide +kernel, by decide +kernel⟩, rfl, fun _ _ _ _ _ _ us hl => match us, hl with | [_], _ => rfl⟩
theorem ok3 : o3.Ok := ⟨⟨rfl, rfl, rfl, by decide +kernel, rfl, by decide +kernel, by decide +kernel⟩, rfl, fun _ _ _ _ _ _ us hl => match us, hl with | [_], _ => rfl⟩
theorem ok4 : o4.Ok := ⟨⟨rfl, rfl, rfl, by decide +kernel, rfl, by decide +kernel, by decide +kernel⟩, rfl, fun _ _ _ _ _ _ us hl => match us, hl with | [_, _], _ => rfl⟩
theorem ok5 : o5.Ok := ⟨⟨rfl, rfl, rfl, by decide +kernel, rfl, by decide +kernel, by decide +kernel⟩, rfl, fun _ _ _ _ _ _ us hl => match us, hl with | [_, _], _ => rfl⟩
theorem ok6 : o6.Ok := ⟨⟨rfl, rfl, rfl, by decide +kernel, rfl, by decide +kernel, by decide +kernel⟩, rfl, fun _ _ _ _ _ _ us hl => match us, hl with | [_, _], _ => rfl⟩
theorem ok7 : o7.Ok := ⟨⟨rfl, rfl, rfl, by decide +kernel, rfl, by decide +kernel, by decide +kernel⟩, rfl, fun _ _ _ _ _ _ us hl => match us, hl with | [_], _ => rfl⟩
theorem ok8 : o8.Ok := ⟨⟨rfl, rfl, rfl, by decide +kernel, rfl, by decide +kernel, by decide +kernel⟩, rfl, fun _ _ _ _ _ _ us hl => match us, hl with | [_], _ => rfl⟩
theorem ok9 : o9.Ok := ⟨⟨rfl, rfl, rfl, by decide +kernel, rfl, by decide +kernel, by decide +kernel⟩, rfl, fun _ _ _ _ _ _ us hl => match us, hl with | [_], _ => rfl⟩
theorem ok10 : o10.Ok := ⟨⟨rfl, rfl, rfl, by decide +kernel, rfl, by decide +kernel, by decide +kernel⟩, rfl, fun _ _ _ _ _ _ us hl => match us, hl with | [_, _], _ => rfl⟩
theorem ok11 : o11.Ok := ⟨⟨rfl, rfl, rfl, by decide +kernel, rfl, by decide +kernel, by decide +kernel⟩, rfl, fun _ _ _ _ _ _ us hl => match us, hl with | [_], _ => rfl⟩
theorem ok12 : o12.Ok := ⟨⟨rfl, rfl, rfl, by decide +kernel, rfl, by decide +kernel, by decide +kernel⟩, rfl, fun _ _ _ _ _ _ us hl => match us, hl with | [_], _ => rfl⟩
theorem ok13 : o13.Ok := ⟨⟨rfl, rfl, rfl, by decide +kernel, rfl, by decide +kernel, by decide +kernel⟩, rfl, fun _ _ _ _ _ _ us hl => match us, hl with | [_], _ => rfl⟩
theorem ok14 : o14.Ok := ⟨⟨rfl, rfl, rfl, by decide +kernel, rfl, by decide +kernel, by decide +kernel⟩, rfl, fun _ _ _ _ _ _ us hl => match us, hl with | [_], _ => rfl⟩
theorem ok15 : o15.Ok := ⟨⟨rfl, rfl, rfl, by decide +kernel, rfl, by decide +kernel, by decide +kernel⟩, rfl, fun _ _ _ _ _ _ us hl => match us, hl with | [_], _ => rfl⟩
theorem ok16 : o16.Ok := ⟨⟨rfl, rfl, rfl, by decide +kernel, rfl, by decide +kernel, by decide +kernel⟩, rfl, fun _ _ _ _ _ _ us hl => match us, hl with | [_, _], _ => rfl⟩
theorem oks : AllOkC tab os := ⟨⟨ok0, [], rfl, by decide⟩, ⟨ok1, [], rfl, by decide⟩, ⟨ok2, [], rfl, by decide⟩, ⟨ok3, [], rfl, by decide⟩, ⟨ok4, [], rfl, by decide⟩, ⟨ok5, [], rfl, by decide⟩, ⟨ok6, [], rfl, by decide⟩, ⟨ok7, [], rfl, by decide⟩, ⟨ok8, [], rfl, by decide⟩, ⟨ok9, [], rfl, by decide⟩, ⟨ok10, [], rfl, by decide⟩, ⟨ok11, [], rfl, by decide⟩, ⟨ok12, [], rfl, by decide⟩, ⟨ok13, [], rfl, by decide⟩, ⟨ok14, [], rfl, by decide⟩, ⟨ok15, [], rfl, by decide⟩, ⟨ok16, [], rfl, by decide⟩, trivial⟩
theorem kwoks : AllKwC os cls tab.kws := ⟨⟨cl0, 10, o10, rfl, rfl, rfl, fun _ _ _ _ _ _ _ ws hl => match ws, hl with | [_], _ => rfl⟩, trivial⟩

def f0 : Fn := ⟨1, 2, [(.ret (.and (.cmp .NotEq (.var 0) (.cst (.str ⟨⟨[]⟩⟩))) (.and (.callB .all [(.comp false [1] [1] true (.of (.var 0)) [] (.cmp .In (.var 1) (.cst (.str ⟨⟨[48, 49, 50, 51, 52, 53, 54, 55, 56, 57]⟩⟩))))]) (.or (.cmp .Eq (.var 0) (.cst (.str ⟨⟨[48]⟩⟩))) (.cmp .NotEq (.idx (.var 0) (.cst (.int (0)))) (.cst (.str ⟨⟨[48]⟩⟩)))))))], false⟩
theorem cf0 : o0.fn = f0 := by kernel_rfl
def f1 : Fn := ⟨1, 1, [(.ret (.or (.callF 0 [(.var 0)]) (.and (.cmp .Eq (.slice (.var 0) none (some (.cst (.int (1))))) (.cst (.str ⟨⟨[45]⟩⟩))) (.and (.callF 0 [(.slice (.var 0) (some (.cst (.int (1)))) none)]) (.cmp .NotEq (.var 0) (.cst (.str ⟨⟨[45, 48]⟩⟩)))))))], false⟩
theorem cf1 : o1.fn = f1 := by kernel_rfl
def f2 : Fn := ⟨1, 1, [(.ifs (.cmp .Lt (.callB .len [(.var 0)]) (.cst (.int (30)))) [(.ret (.callB .int [(.var 0)]))] []), (.ret (.ite (.cmp .Eq (.idx (.var 0) (.cst (.int (0)))) (.cst (.str ⟨⟨[45]⟩⟩))) (.neg (.bin .Pow (.cst (.int (10))) (.cst (.int (30))))) (.bin .Pow (.cst (.int (10))) (.cst (.int (30))))))], false⟩
theorem cf2 : o2.fn = f2 := by kernel_rfl
def f3 : Fn := ⟨1, 8, [(.ifs (.not (.isI .str (.var 0))) [(.ret (.cst .non))] []), (.asg (.name 1) (.comp false [3] [3] true (.of (.meth .split (.var 0) [(.cst (.str ⟨⟨[32, 47, 32]⟩⟩))])) [] (.meth .split (.var 3) [(.cst (.str ⟨⟨[32]⟩⟩))]))), (.ifs (.or (.cmp .Gt (.callB .len [(.var 1)]) (.cst (.int (6)))) (.callB .any [(.comp false [4] [4] true (.of (.var 1)) [] (.cmp .NotEq (.callB .len [(.var 4)]) (.callB .len [(.var 1)])))])) [(.ret (.cst .non))] []), (.ifs (.not (.callB .all [(.comp false [4] [4] true (.of (.var 1)) [] (.callB .all [(.comp false [6] [6] true (.of (.var 4)) [] (.callF 1 [(.var 6)]))]))])) [(.ret (.cst .non))] []), (.asg (.name 2) (.callB .tuple [(.comp false [4] [4] true (.of (.var 1)) [] (.callB .tuple [(.comp false [6] [6] true (.of (.var 4)) [] (.callF 2 [(.var 6)]))]))])), (.ret (.ite (.callB .all [(.comp false [5] [5] true (.of (.var 2)) [] (.callB .all [(.comp false [7] [7] true (.of (.var 5)) [] (.cmp .LtE (.callB .abs [(.var 7)]) (.cst (.int (1000000000)))))]))]) (.var 2) (.cst .non)))], false⟩
theorem cf3 : o3.fn = f3 := by kernel_rfl
def f4 : Fn := ⟨2, 5, [(.asg (.name 2) (.ite (.cmp .Lt (.var 1) (.callB .len [(.var 0)])) (.idx (.var 0) (.var 1)) (.bin .Mult (.cst (.int (6521))) (.bin .Add (.var 1) (.cst (.int (5))))))), (.asg (.name 3) (.bin .Add (.cst (.int (953))) (.var 1))), (.for (.name 4) (.of (.bin .Add (.slice (.var 0) none (some (.cst (.int (5))))) (.lst false [(.var 2)]))) [(.asg (.name 3) (.bin .Mod (.callB .int [(.bin .Add (.bin .Add (.bin .Mult (.var 3) (.cst (.int (39373)))) (.bin .Mod (.callB .int [(.var 4)]) (.cst (.int (2147483647))))) (.cst (.int (101))))]) (.cst (.int (2147483647)))))]), (.ret (.lst true [(.ite (.cmp .GtE (.callB .abs [(.var 2)]) (.bin .Pow (.cst (.int (10))) (.cst (.int (18))))) (.callB .abs [(.var 2)]) (.cst (.int (0)))), (.var 3)]))], true⟩
theorem cf4 : o4.fn = f4 := by kernel_rfl
def f5 : Fn := ⟨2, 3, [(.ifs (.cmp .Gt (.idx (.var 0) (.cst (.int (0)))) (.cst (.int (0)))) [(.asg (.tup [(.sub (.var 0) (.cst (.int (0)))), (.name 2)]) (.callB .divmod [(.idx (.var 0) (.cst (.int (0)))), (.var 1)])), (.ret (.var 2))] []), (.asg (.sub (.var 0) (.cst (.int (1)))) (.bin .Mod (.callB .int [(.bin .Add (.bin .Mult (.idx (.var 0) (.cst (.int (1)))) (.cst (.int (41358)))) (.cst (.int (40503))))]) (.cst (.int (2147483647))))), (.ret (.bin .Mod (.callB .int [(.bin .FloorDiv (.idx (.var 0) (.cst (.int (1)))) (.cst (.int (1024))))]) (.var 1)))], false⟩
theorem cf5 : o5.fn = f5 := by kernel_rfl
def f6 : Fn := ⟨2, 2, [(.ret (.idx (.var 1) (.callF 5 [(.var 0), (.callB .len [(.var 1)])])))], false⟩
theorem cf6 : o6.fn = f6 := by kernel_rfl
def f7 : Fn := ⟨1, 3, [(.ret (.meth .join (.cst (.str ⟨⟨[32, 47, 32]⟩⟩)) [(.comp false [1] [1] true (.of (.var 0)) [] (.meth .join (.cst (.str ⟨⟨[32]⟩⟩)) [(.comp false [2] [2] true (.of (.var 1)) [] (.callB .str [(.var 2)]))]))]))], false⟩
theorem cf7 : o7.fn = f7 := by kernel_rfl
def f8 : Fn := ⟨1, 17, [(.asg (.name 1) (.lst true [])), (.for (.name 2) (.range1 (.cst (.int (4)))) [(.asg (.name 5) (.bin .Add (.cst (.int (1))) (.callF 5 [(.var 0), (.cst (.int (6)))]))), (.asg (.name 6) (.callF 6 [(.var 0), (.lst false [(.cst (.int (1))), (.cst (.int (3))), (.cst (.int (50))), (.bin .Pow (.cst (.int (10))) (.cst (.int (9))))])])), (.expr (.meth .append (.var 1) [(.comp false [14] [14] true (.range1 (.var 5)) [] (.comp false [16] [16] true (.range1 (.var 5)) [] (.bin .Sub (.callF 5 [(.var 0), (.bin .Add (.bin .Mult (.cst (.int (2))) (.var 6)) (.cst (.int (1))))]) (.var 6))))]))]), (.expr (.meth .append (.var 1) [(.comp false [13] [13] true (.of (.idx (.var 1) (.cst (.int (1))))) [] (.callB .list [(.var 13)]))])), (.expr (.meth .append (.var 1) [(.lst false [(.lst false [(.bin .Pow (.cst (.int (10))) (.cst (.int (9)))), (.neg (.bin .Pow (.cst (.int (10))) (.cst (.int (9)))))]), (.lst false [(.cst (.int (0))), (.cst (.int (1)))])])])), (.asg (.name 3) (.comp false [8] [8] true (.of (.var 1)) [] (.callF 7 [(.var 8)]))), (.asg (.name 4) (.comp false [9] [9] true (.of (.var 3)) [] (.ite (.cmp .Eq (.callF 5 [(.var 0), (.cst (.int (2)))]) (.cst (.int (0)))) (.make 0 [(.var 9)]) (.make 0 [(.var 9)])))), (.for (.tup [(.name 7), (.name 8), (.name 9)]) (.zipS (.tup [(.var 4), (.var 1), (.var 3)])) [(.asg (.name 10) (.lst false [(.fld (.var 7) ⟨⟨[116, 101, 120, 116]⟩⟩), (.fld (.var 7) ⟨⟨[115, 105, 122, 101]⟩⟩), (.fld (.var 7) ⟨⟨[114, 111, 119, 115]⟩⟩), (.bin .Add (.mcall (.var 7) ⟨⟨[95, 95, 115, 116, 114, 95, 95]⟩⟩ []) (.cst (.str ⟨⟨[]⟩⟩))), (.bin .Add (.mcall (.var 7) ⟨⟨[95, 95, 114, 101, 112, 114, 95, 95]⟩⟩ []) (.cst (.str ⟨⟨[]⟩⟩))), (.or (.isI (.cls 0) (.var 7)) .bad)])), (.asg (.name 11) (.lst false [(.var 9), (.callB .len [(.var 8)]), (.callB .tuple [(.comp false [13] [13] true (.of (.var 8)) [] (.callB .tuple [(.var 13)]))]), (.var 9)])), (.ifs (.cmp .NotEq (.callB .repr [(.var 10)]) (.callB .repr [(.bin .Add (.var 11) (.lst false [(.bin .Add (.bin .Add (.cst (.str ⟨⟨[84, 97, 98, 108, 101, 32, 111, 102, 32]⟩⟩)) (.callB .str [(.callB .len [(.var 8)])])) (.cst (.str ⟨⟨[32, 99, 111, 117, 110, 116, 101, 114, 115]⟩⟩))), (.cst (.bl true))]))])) [(.ret (.cst (.bl false)))] []), (.ifs (.cmp .NotEq (.comp false [15] [15] true (.of (.var 4)) [] (.ite (.isI (.cls 0) (.var 15)) (.mcall (.var 7) ⟨⟨[95, 95, 101, 113, 95, 95]⟩⟩ [(.var 15)]) (.mcall (.var 7) ⟨⟨[95, 95, 101, 113, 95, 95]⟩⟩ [(.var 15)]))) (.comp false [15] [15] true (.of (.var 3)) [] (.cmp .Eq (.var 9) (.var 15)))) [(.ret (.cst (.bl false)))] []), (.ifs (.cmp .NotEq (.comp false [15] [15] true (.of (.var 4)) [] (.not (.ite (.isI (.cls 0) (.var 15)) (.mcall (.var 7) ⟨⟨[95, 95, 101, 113, 95, 95]⟩⟩ [(.var 15)]) (.mcall (.var 7) ⟨⟨[95, 95, 101, 113, 95, 95]⟩⟩ [(.var 15)])))) (.comp false [15] [15] true (.of (.var 3)) [] (.cmp .NotEq (.var 9) (.var 15)))) [(.ret (.cst (.bl false)))] []), (.for (.name 12) (.of (.lst false [(.cst .non), (.cst (.int (0))), (.var 9), (.tup [(.var 9)]), (.lst false [(.var 7)]), (.dct [] []), (.cst (.bl true)), (.fld (.var 7) ⟨⟨[114, 111, 119, 115]⟩⟩)])) [(.ifs (.or (.ite (.isI (.cls 0) (.var 12)) (.mcall (.var 7) ⟨⟨[95, 95, 101, 113, 95, 95]⟩⟩ [(.var 12)]) (.mcall (.var 7) ⟨⟨[95, 95, 101, 113, 95, 95]⟩⟩ [(.var 12)])) (.not (.not (.ite (.isI (.cls 0) (.var 12)) (.mcall (.var 7) ⟨⟨[95, 95, 101, 113, 95, 95]⟩⟩ [(.var 12)]) (.mcall (.var 7) ⟨⟨[95, 95, 101, 113, 95, 95]⟩⟩ [(.var 12)]))))) [(.ret (.cst (.bl false)))] [])])]), (.ret (.cst (.bl true)))], false⟩
theorem cf8 : o8.fn = f8 := by kernel_rfl
def f9 : Fn := ⟨1, 2, [(.ret (.callB .all [(.comp false [1] [1] true (.range1 (.callB .max [(.cst (.int (2))), (.callB .min [(.callB .len [(.var 0)]), (.cst (.int (4)))])])) [] (.callF 8 [(.callF 4 [(.var 0), (.var 1)])]))]))], false⟩
theorem cf9 : o9.fn = f9 := by kernel_rfl
def f10 : Fn := ⟨2, 3, [(.asg (.name 2) (.callF 3 [(.var 1)])), (.ifs (.cmp .Is (.var 2) (.cst .non)) [.bad] []), (.fld (.var 0) ⟨⟨[119, 114, 105, 116, 116, 101, 110]⟩⟩ (.var 1)), (.fld (.var 0) ⟨⟨[108, 105, 110, 101, 115]⟩⟩ (.var 2))], false⟩
theorem cf10 : o10.fn = f10 := by kernel_rfl
def f11 : Fn := ⟨1, 1, [(.ret (.fld (.var 0) ⟨⟨[119, 114, 105, 116, 116, 101, 110]⟩⟩))], false⟩
theorem cf11 : o11.fn = f11 := by kernel_rfl
def f12 : Fn := ⟨1, 1, [(.ret (.callB .len [(.fld (.var 0) ⟨⟨[108, 105, 110, 101, 115]⟩⟩)]))], false⟩
theorem cf12 : o12.fn = f12 := by kernel_rfl
def f13 : Fn := ⟨1, 1, [(.ret (.fld (.var 0) ⟨⟨[108, 105, 110, 101, 115]⟩⟩))], false⟩
theorem cf13 : o13.fn = f13 := by kernel_rfl
def f14 : Fn := ⟨1, 1, [(.ret (.callB .str [(.fld (.var 0) ⟨⟨[119, 114, 105, 116, 116, 101, 110]⟩⟩)]))], false⟩
theorem cf14 : o14.fn = f14 := by kernel_rfl
def f15 : Fn := ⟨1, 1, [(.ret (.bin .Add (.bin .Add (.cst (.str ⟨⟨[84, 97, 98, 108, 101, 32, 111, 102, 32]⟩⟩)) (.callB .str [(.callB .len [(.fld (.var 0) ⟨⟨[108, 105, 110, 101, 115]⟩⟩)])])) (.cst (.str ⟨⟨[32, 99, 111, 117, 110, 116, 101, 114, 115]⟩⟩))))], false⟩
theorem cf15 : o15.fn = f15 := by kernel_rfl
def f16 : Fn := ⟨2, 2, [(.ret (.and (.isI (.cls 0) (.var 1)) (.cmp .Eq (.fld (.var 0) ⟨⟨[119, 114, 105, 116, 116, 101, 110]⟩⟩) (.fld (.var 1) ⟨⟨[116, 101, 120, 116]⟩⟩))))], false⟩
theorem cf16 : o16.fn = f16 := by kernel_rfl
def pg : Prog := ⟨[f0, f1, f2, f3, f4, f5, f6, f7, f8, f9, f10, f11, f12, f13, f14, f15, f16], cls⟩
theorem pg_eq : progC os cls = pg := by
  show (⟨[o0.fn, o1.fn, o2.fn, o3.fn, o4.fn, o5.fn, o6.fn, o7.fn, o8.fn, o9.fn, o10.fn, o11.fn, o12.fn, o13.fn, o14.fn, o15.fn, o16.fn], cls⟩ : Prog) = pg
  rw [cf0, cf1, cf2, cf3, cf4, cf5, cf6, cf7, cf8, cf9, cf10, cf11, cf12, cf13, cf14, cf15, cf16]
  rfl
end Lk02
end

section
set_option linter.all false
set_option maxRecDepth 100000
set_option autoImplicit false
namespace Lk02
open PySem L2 Co TL
/-- the purse from which a law draws: two numbers -/
def Purse (h : Hh) (n : Nat) : Prop := ∃ a b : Int, h[n]? = some (.lst [.int a, .int b])
def Spent (n : Nat) (h h2 : Hh) : Prop := ∃ a b : Int, h2 = h.set n (.lst [.int a, .int b])
theorem Purse.lt {h : Hh} {n : Nat} (q : Purse h n) : n < h.length := let ⟨_, _, e⟩ := q; (List.getElem?_eq_some_iff.mp e).1
theorem Spent.len {h h2 : Hh} {n : Nat} (q : Spent n h h2) : h2.length = h.length := by
  obtain ⟨a, b, rfl⟩ := q; simp
theorem Spent.purse {h h2 : Hh} {n : Nat} (q : Spent n h h2) (p : Purse h n) : Purse h2 n := by
  have := p.lt
  obtain ⟨a, b, rfl⟩ := q
  exact ⟨a, b, by rw [List.getElem?_set_self this]⟩
theorem Spent.trans {h h2 h3 : Hh} {n : Nat} (q : Spent n h h2) (p : Spent n h2 h3) : Spent n h h3 := by
  obtain ⟨a, b, rfl⟩ := q
  obtain ⟨a2, b2, rfl⟩ := p
  exact ⟨a2, b2, by rw [List.set_set]⟩
theorem Spent.get {h h2 : Hh} {n m : Nat} (q : Spent n h h2) (ne : m ≠ n) : h2[m]? = h[m]? := by
  obtain ⟨a, b, rfl⟩ := q
  rw [List.getElem?_set_ne (Ne.symm ne)]
theorem Purse.refl {h : Hh} {n : Nat} (q : Purse h n) : Spent n h h := by
  obtain ⟨a, b, e⟩ := q
  refine ⟨a, b, ?_⟩
  apply List.ext_getElem?
  intro m
  by_cases z : m = n
  · subst z; rw [List.getElem?_set_self (List.getElem?_eq_some_iff.mp e).1, e]
  · rw [List.getElem?_set_ne (Ne.symm z)]
theorem Spent.take {h h2 : Hh} {n : Nat} (q : Spent n h h2) : h2.take h.length = h2 := List.take_of_length_le (by rw [q.len]; exact Nat.le_refl _)
theorem draw {d : Nat} {h : Hh} {n : Nat} {top : Int} {Q : Val → Hh → Prop} (V : Purse h n) (ht : 0 < top) (ht2 : top < 2 ^ 64) (k : ∀ (x : Int) (h2 : Hh), 0 ≤ x → x < top → Spent n h h2 → Q (.int x) h2) : Co.Ends (runF pg (d + 1) 5 [.ref n, .int top] h) Q := by
  have ht0 : top ≠ 0 := by omega
  have hlt := V.lt
  obtain ⟨a, b, hn⟩ := V
  refine run_s (fn := f5) (s := [some (.ref n), some (.int top), none]) rfl rfl rfl ?_
  unfold f5
  dsimp only
  have nx1 : ∀ (o : Ob) , (h.set n o)[n]? = some o := fun o => by rw [List.getElem?_set_self hlt]
  walk_at "co sp"
  refine w_opt (idx_ref hn at0) ?_
  walk_at "co sp"
  refine w_if (fun z => ?_) (fun z => ?_)
  · walk_at "co sp"
    refine w_opt (idx_ref hn at0) ?_
    walk_at "co sp"
    refine w_opt (x := .tup [.int (a / top), .int (a % top)]) ?_ ?_
    · show (if 0 < top ∧ Builtin.divisionGoesByPylong a top = false then some (Val.tup [.int (a / top), .int (a % top)]) else none) = _
      rw [if_pos ⟨ht, noPy (by omega)⟩]
    walk_at "co sp"
    refine ⟨_, _, _, _, rfl, rfl, hn, ix0, store_i, ?_⟩
    walk_at "co sp"
    rw [List.take_of_length_le
                            (by simp)]
    exact k _ _ (Int.emod_nonneg _ ht0) (Int.emod_lt_of_pos _ ht) ⟨_, _, rfl⟩
  · walk_at "co sp"
    refine w_opt (idx_ref hn at1) ?_
    walk_at "co sp"
    refine w_opt (rop_mi (mulOk_r (by decide))) ?_
    walk_at "co sp"
    refine ⟨_, _, _, _, rfl, rfl, hn, ix1, store_i, ?_⟩
    walk_at "co sp"
    refine w_opt (idx_ref (nx1 _) at1) ?_
    walk_at "co sp"
    refine w_opt (bop_di ht0) ?_
    walk_at "co sp"
    rw [List.take_of_length_le
                            (by simp)]
    exact k _ _ (Int.fmod_nonneg_of_pos _ ht) (Int.fmod_lt_of_pos _ ht) ⟨_, _, rfl⟩
theorem purse_ok (d : Nat) {h : Hh} {ns : List Int} {k : Nat} {Q : Val → Hh → Prop} (q : ∀ a b : Int, Q (.ref h.length) (h ++ [.lst [.int a, .int b]])) : Co.Ends (runF pg (d + 1) 4 [.ro (ns.map .int), .int (k : Nat)] h) Q := by
  refine run_s (fn := f4) (s := [some (.ro (ns.map .int)), some (.int (k : Nat)), none, none, none]) rfl rfl rfl ?_
  unfold f4
  dsimp only
  refine w_seq (w_asg (Ends.mono (P := fun v h1 => ∃ c : Int, v = .int c ∧ h1 = h) ?_ ?_))
  · walk_at "co sp"
    refine w_if (fun z => ?_) (fun z => ?_)
    · have zl : k < ns.length := by
        have := of_decide_eq_true z
        rw [List.length_map] at this
        omega
      walk_at "co sp"
      refine w_opt (x := .int ns[k]) (atI_at k (by rw [List.getElem?_map, List.getElem?_eq_getElem zl]; rfl) rfl) ?_
      exact ⟨_, rfl, rfl⟩
    · walk_at "co sp"
      exact ⟨_, rfl, rfl⟩
  rintro v h1 ⟨c, rfl, rfl⟩
  walk_at "co sp"
  refine w_for ?_
  walk_at "co sp"
  refine ⟨5, rfl, ?_⟩
  refine w_opt (x := .lst (cut (ns.map Val.int) none (some 5))) rfl ?_
  walk_at "co sp"
  refine w_opt (bop_al ?_) ?_
  · have : (cut (ns.map Val.int) none (some ((5 : Nat) : Int))).length ≤ 5 := by
      unfold cut
      rw [HT.sIx_nat, List.length_take, List.length_drop]
      simp [HT.sIx]
      omega
    have h5 : (cut (ns.map Val.int) none (some (5 : Int))).length ≤ 5 := this
    show _ + 1 ≤ 16777216
    omega
  refine ⟨_, rfl, fun rs s h2 => ∃ (a : Option Val) (x : Int), s = [some (.ro (ns.map .int)), some (.int (k : Nat)), some (.int c), some (.int x), a] ∧ h2 = h1 ∧ ∀ v ∈ rs, ∃ i : Int, v = .int i, fun _ _ _ _ => rfl, ?_, ?_, ⟨none, _, rfl, rfl, fun v mv => ?_⟩⟩
  · rintro s h2 ⟨a, x, rfl, rfl, _⟩
    walk_at "co sp"
    refine w_opt (x := .int (if c < 0 then -c else c)) rfl ?_
    walk_at "co sp"
    refine w_opt (x := .int 1000000000000000000) (by kernel_rfl) ?_
    walk_at "co sp"
    refine w_if (fun z => ?_) (fun z => ?_)
    · walk_at "co sp"
      refine w_opt (x := .int (if c < 0 then -c else c)) rfl ?_
      walk_at "co sp"
      exact w_backK (q _ _)
    · walk_at "co sp"
      exact w_backK (q _ _)
  · rintro v rs s h2 ⟨a, x, rfl, rfl, hr⟩
    obtain ⟨i, rfl⟩ := hr v List.mem_cons_self
    walk_at "co sp"
    refine w_opt (rop_mi (mulOk_r (by decide))) ?_
    walk_at "co sp"
    exact l_next ⟨_, _, rfl, rfl, fun u mu => hr u (List.mem_cons_of_mem _ mu)⟩
  · rcases List.mem_append.mp mv with m | m
    · obtain ⟨i, _, rfl⟩ := List.mem_map.mp (List.mem_of_mem_drop (List.mem_of_mem_take m))
      exact ⟨i, rfl⟩
    · exact ⟨c, List.mem_singleton.mp m⟩
end Lk02
end

section
set_option linter.all false
set_option maxRecDepth 100000
set_option autoImplicit false
namespace Lk02
open PySem L2 Co TL
theorem natural_ok (d : Nat) {h : Hh} {t : Str} (l : t.length ≤ lim) : runF pg (d + 1) 0 [.str t] h = .ok (.bl (natW (tl t))) h := by
  refine gives_ends ?_
  refine run_s (fn := f0) (s := [some (.str t), none]) rfl rfl rfl ?_
  unfold f0
  dsimp only
  refine w_seq (w_ret ?_)
  have ll : (tl t).length ≤ 16777216 := by rw [tl_len]; exact l
  refine w_andP (!(tl t).isEmpty) ((tl t).all isDig && (decide (tl t = [48]) || decide ((tl t).headD 0 ≠ 48))) ?_ (fun z => ?_) ?_
  · walk_at "co sz"
    refine w_cop ne_str ⟨?_, rfl⟩
    congr 1
    simp only [tl_ext]
    cases tl t <;> rfl
  · refine w_andP ((tl t).all isDig) (decide (tl t = [48]) || decide ((tl t).headD 0 ≠ 48)) ?_ (fun z2 => ?_) ⟨rfl, rfl⟩
    · refine w_allP (tl t) (fun c => .str ⟨#[c]⟩) isDig ?_ ll (fun c _ => ⟨_, rfl, ?_⟩) ⟨rfl, rfl⟩
      · walk_at "co sz"
        exact ⟨_, signs_of, rfl, rfl, rfl⟩
      · walk_at "co sz"
        exact w_cop one_sign ⟨by rw [dig_mem], rfl⟩
    · refine w_orP (decide (tl t = [48])) (decide ((tl t).headD 0 ≠ 48)) ?_ (fun z3 => ?_) ⟨rfl, rfl⟩
      · walk_at "co sz"
        exact w_cop eq_str ⟨by simp only [tl_ext], rfl⟩
      · cases e : tl t with
        | nil => rw [e] at z; cases z
        | cons c r =>
          walk_at "co sz"
          refine w_opt (idx_str0 l e) ?_
          walk_at "co sz"
          refine w_cop ne_str ⟨?_, rfl⟩
          congr 1
          simp [tl_ext]
  · walk_at "co sz"
    rw [List.take_length]
    exact ⟨rfl, rfl⟩
theorem intword_ok (d : Nat) {h : Hh} {t : Str} (l : t.length ≤ lim) : runF pg (d + 2) 1 [.str t] h = .ok (.bl (intW (tl t))) h := by
  refine gives_ends ?_
  refine run_s (fn := f1) (s := [some (.str t)]) rfl rfl rfl ?_
  unfold f1
  dsimp only
  refine w_seq (w_ret ?_)
  refine w_orP (natW (tl t)) (decide ((tl t).headD 0 = 45) && (natW (tl t).tail && decide (tl t ≠ [45, 48]))) ?_ (fun z => ?_) ?_
  · walk_at "co sz"
    exact ends_of (natural_ok d l) ⟨rfl, rfl⟩
  · refine w_andP (decide ((tl t).headD 0 = 45)) (natW (tl t).tail && decide (tl t ≠ [45, 48])) ?_ (fun z2 => ?_) ⟨rfl, rfl⟩
    · walk_at "co sz"
      refine ⟨1, rfl, ?_⟩
      walk_at "co sz"
      refine w_opt (slice_strT l) ?_
      walk_at "co sz"
      refine w_cop eq_str ⟨?_, rfl⟩
      rw [first_is t 45 (by decide)]
    · refine w_andP (natW (tl t).tail) (decide (tl t ≠ [45, 48])) ?_ (fun z3 => ?_) ⟨rfl, rfl⟩
      · walk_at "co sz"
        refine ⟨1, rfl, ?_⟩
        walk_at "co sz"
        refine w_opt (slice_strT l) ?_
        walk_at "co sz"
        refine ends_of (natural_ok d (Nat.le_trans (cutS_length ..) l)) ⟨?_, rfl⟩
        rw [cut_rest]
      · walk_at "co sz"
        refine w_cop ne_str ⟨?_, rfl⟩
        congr 1
        simp only [ne_eq, decide_not]
        congr 1
        rw [decide_eq_decide, tl_ext, tl_lit]
  · walk_at "co sz"
    rw [List.take_length]
    exact ⟨rfl, rfl⟩
theorem integer_in_ok (d : Nat) {h : Hh} {t : Str} (l : t.length ≤ lim) (w : intW (tl t) = true) : runF pg (d + 1) 2 [.str t] h = .ok (.int (numW (tl t))) h := by
  refine gives_ends ?_
  refine run_s (fn := f2) (s := [some (.str t)]) rfl rfl rfl ?_
  unfold f2
  dsimp only
  walk_at "co sz"
  refine w_opt (len_strT l) ?_
  walk_at "co sz"
  have ne : ∃ c r, tl t = c :: r := by
    cases e : tl t with
    | nil => rw [e] at w; simp [intW, natW] at w
    | cons c r => exact ⟨c, r, rfl⟩
  obtain ⟨c, r, e⟩ := ne
  refine w_if (fun z => ?_) (fun z => ?_)
  · walk_at "co sz"
    have lt : t.length < 30 := by have := of_decide_eq_true z; omega
    have hi : Co.bi .int (asL [.str t] h) = some (.int (numW (tl t))) := by
      show (if t.length ≤ 640 then (PySem.intText? t).map Val.int else none) = _
      rw [if_pos (by omega), intText_W w (by omega), numW, tl_len, if_pos lt]
      rfl
    refine w_opt hi ?_
    walk_at "co sz"
    rw [List.take_length]
    exact ⟨rfl, rfl⟩
  · have lt : ¬ t.length < 30 := by have := of_decide_eq_false z; omega
    walk_at "co sz"
    refine w_opt (idx_str0 l e) ?_
    walk_at "co sz"
    refine w_cop eq_str ?_
    have nw : numW (tl t) = if (tl t).headD 0 = 45 then -(10 ^ 30) else 10 ^ 30 := by rw [numW, tl_len, if_neg lt]
    rw [e] at nw
    refine w_if (fun z => ?_) (fun z => ?_)
    · walk_at "co sz"
      refine w_opt rfl ?_
      refine ⟨_, rfl, ?_⟩
      walk_at "co sz"
      rw [List.take_length]
      refine ⟨?_, rfl⟩
      have : c = 45 := by simpa [tl_ext] using z
      rw [e, nw, if_pos (by simpa using this)]
      rfl
    · walk_at "co sz"
      refine w_opt rfl ?_
      walk_at "co sz"
      rw [List.take_length]
      refine ⟨?_, rfl⟩
      have : c ≠ 45 := by simpa [tl_ext] using z
      rw [e, nw, if_neg (by simpa using this)]
      rfl
end Lk02
end

section
set_option linter.all false
set_option maxRecDepth 100000
set_option autoImplicit false
namespace Lk02
open PySem L2 Co TL
def readV (t : Str) : Val := match readT t with
  | some m => tupV m
  | none => .non
theorem split_w (x y : Str) (l : 1 ≤ y.length) : (Txt.split x y).length ≤ x.length + 1 := by
  have := PyProof.Rows.split_weight x y l
  omega
theorem rows_in_ok (d : Nat) {h : Hh} {t : Str} (l : t.length ≤ 16000000) : runF pg (d + 4) 3 [.str t] h = .ok (readV t) h := by
  have hlim : lim = 16777216 := rfl
  refine gives_ends ?_
  refine run_s (fn := f3) (s := [some (.str t), none, none, none, none, none, none, none]) rfl rfl rfl ?_
  unfold f3
  dsimp only
  have l1 := split_w t slash (by decide)
  have p1 : ∀ x ∈ Txt.split t slash, x.length ≤ t.length := fun x hx => PyProof.Rows.part_short hx
  have l2 : ∀ ws ∈ wordsT t, ws.length ≤ 16777216 ∧ ∀ w ∈ ws, w.length ≤ lim := fun ws hws => by
    obtain ⟨x, hx, rfl⟩ := List.mem_map.mp hws
    have := p1 x hx
    have := split_w x blankS (by decide)
    exact ⟨by omega, fun w hw => by have := PyProof.Rows.part_short hw; omega⟩
  have wl : (wordsT t).length ≤ 16777216 := by unfold wordsT; rw [List.length_map]; omega
  refine w_seq (w_ifs ?_)
  walk_at "co sp"
  refine ⟨rfl, _, rfl, ?_⟩
  refine w_if (fun z => absurd z (by simp [isIns])) (fun _ => ?_)
  walk_at "co sp"
  refine w_compP1 (Txt.split t slash) .str (fun x => .lst ((Txt.split x blankS).map .str)) ?_ (by omega) (fun x hx => ⟨_, rfl, ?_⟩) ?_
  · walk_at "co sp"
    refine ⟨rfl, ?_⟩
    walk_at "co sp"
    exact Ends.eq (split_go rfl (by omega)) ⟨_, rfl, rfl, rfl, rfl⟩
  · have := p1 x hx
    walk_at "co sp"
    refine ⟨rfl, ?_⟩
    walk_at "co sp"
    exact Ends.eq (split_go rfl (by omega)) ⟨rfl, rfl⟩
  have e1 : ((Txt.split t slash).map fun x => Val.lst ((Txt.split x blankS).map .str)) = (wordsT t).map fun ws => Val.lst (ws.map .str) := by
    unfold wordsT; rw [List.map_map]; rfl
  rw [e1]
  unfold readV readT
  generalize wordsT t = W at wl l2
  walk_at "co sp"
  refine w_orP (decide (6 < W.length)) (W.any fun ws => !decide (ws.length = W.length)) ?_ (fun z => ?_) ?_
  · walk_at "co sp"
    refine ⟨?_, rfl⟩
    congr 1
    rw [decide_eq_decide, List.length_map]
    omega
  · refine w_anyP W (fun ws => .lst (ws.map .str)) _ ?_ wl (fun ws hws => ⟨_, rfl, ?_⟩) ⟨rfl, rfl⟩
    · walk_at "co sp"
      exact ⟨_, rfl, rfl, rfl, rfl⟩
    · walk_at "co sp"
      refine ⟨?_, rfl⟩
      congr 2
      rw [decide_eq_decide, List.length_map, List.length_map]
      omega
  refine w_if (fun z => ?_) (fun z => ?_)
  · walk_at "co sp"
    rw [List.take_length, if_neg]
    · exact ⟨rfl, rfl⟩
    · rintro ⟨c1, c2, c3⟩
      simp only [Bool.or_eq_true, decide_eq_true_eq, List.any_eq_true, Bool.not_eq_true', decide_eq_false_iff_not] at z
      rcases z with z | ⟨ws, m, z⟩
      · omega
      · exact z (c2 ws m)
  simp only [Bool.or_eq_false_iff, decide_eq_false_iff_not, List.any_eq_false, Bool.not_eq_true', decide_eq_false_iff_not, Decidable.not_not] at z
  obtain ⟨z1, z2⟩ := z
  walk_at "co sp"
  refine w_allP W (fun ws => .lst (ws.map .str)) (fun ws => ws.all fun w => intW (tl w)) ?_ wl (fun ws hws => ⟨_, rfl, ?_⟩) ?_
  · walk_at "co sp"
    exact ⟨_, rfl, rfl, rfl, rfl⟩
  · refine w_allP ws .str (fun w => intW (tl w)) ?_ (l2 ws hws).1 (fun w hw => ⟨_, rfl, ?_⟩) ⟨rfl, rfl⟩
    · walk_at "co sp"
      exact ⟨_, rfl, rfl, rfl, rfl⟩
    · walk_at "co sp"
      exact ends_of (intword_ok (d + 1) ((l2 ws hws).2 w hw)) ⟨rfl, rfl⟩
  refine ⟨_, rfl, ?_⟩
  refine w_if (fun z => ?_) (fun z => ?_)
  · walk_at "co sp"
    rw [List.take_length, if_neg]
    · exact ⟨rfl, rfl⟩
    · rintro ⟨c1, c2, c3⟩
      rw [Bool.not_eq_true'] at z
      have : (W.all fun ws => ws.all fun w => intW (tl w)) = true := List.all_eq_true.mpr fun ws m => List.all_eq_true.mpr fun w mw => by
        have := c3 ws m w mw
        simp only [fitW, Bool.and_eq_true] at this
        exact this.1
      rw [this] at z
      cases z
  rw [Bool.not_eq_false'] at z
  have iw : ∀ ws ∈ W, ∀ w ∈ ws, intW (tl w) = true := fun ws m w mw => List.all_eq_true.mp (List.all_eq_true.mp z ws m) w mw
  walk_at "co sp"
  refine w_tupP W (fun ws => .lst (ws.map .str)) (fun ws => tupI (ws.map fun w => numW (tl w))) ?_ wl (fun ws hws => ⟨_, rfl, ?_⟩) ?_
  · walk_at "co sp"
    exact ⟨_, rfl, rfl, rfl, rfl⟩
  · refine w_tupP ws .str (fun w => .int (numW (tl w))) ?_ (l2 ws hws).1 (fun w hw => ⟨_, rfl, ?_⟩) ⟨?_, rfl⟩
    · walk_at "co sp"
      exact ⟨_, rfl, rfl, rfl, rfl⟩
    · walk_at "co sp"
      exact ends_of (integer_in_ok (d + 2) ((l2 ws hws).2 w hw) (iw ws hws w hw)) ⟨rfl, rfl⟩
    · unfold tupI
      rw [List.map_map]
      rfl
  have fit : (W.all fun ws => (ws.map fun w => numW (tl w)).all fun x => decide ((if x < 0 then -x else x) ≤ 1000000000)) = true ↔ ∀ ws ∈ W, ∀ w ∈ ws, fitW (tl w) = true := by
    rw [List.all_eq_true]
    constructor
    · intro k ws m w mw
      have := k ws m
      simp only [List.all_map, List.all_eq_true, Function.comp_apply, decide_eq_true_eq] at this
      simp only [fitW, Bool.and_eq_true, iw ws m w mw, true_and, decide_eq_true_eq]
      have := this w mw
      split at this <;> omega
    · intro k ws m
      simp only [List.all_map, List.all_eq_true, Function.comp_apply, decide_eq_true_eq]
      intro w mw
      have := k ws m w mw
      simp only [fitW, Bool.and_eq_true, decide_eq_true_eq] at this
      split <;> omega
  have fin : (if W.length ≤ 6 ∧ (∀ l ∈ W, l.length = W.length) ∧ ∀ l ∈ W, ∀ w ∈ l, fitW (tl w) = true then some (W.map fun l => l.map fun w => numW (tl w)) else none) = if (W.all fun ws => (ws.map fun w => numW (tl w)).all fun x => decide ((if x < 0 then -x else x) ≤ 1000000000)) = true then some (W.map fun l => l.map fun w => numW (tl w)) else none := by
    by_cases c : (W.all fun ws => (ws.map fun w => numW (tl w)).all fun x => decide ((if x < 0 then -x else x) ≤ 1000000000)) = true
    · rw [if_pos c, if_pos ⟨by omega, z2, fit.mp c⟩]
    · rw [if_neg c, if_neg fun q => c (fit.mpr q.2.2)]
  rw [fin]
  generalize hb : (W.all fun ws => (ws.map fun w => numW (tl w)).all fun x => decide ((if x < 0 then -x else x) ≤ 1000000000)) = bb
  walk_at "co sp"
  refine w_allP W (fun ws => tupI (ws.map fun w => numW (tl w))) (fun ws => (ws.map fun w => numW (tl w)).all fun x => decide ((if x < 0 then -x else x) ≤ 1000000000)) ?_ wl (fun ws hws => ⟨_, rfl, ?_⟩) ?_
  · walk_at "co sp"
    exact ⟨_, rfl, rfl, rfl, rfl⟩
  · refine w_allP (ws.map fun w => numW (tl w)) .int (fun x => decide ((if x < 0 then -x else x) ≤ 1000000000)) ?_ (by rw [List.length_map]; exact (l2 ws hws).1) (fun x hx => ⟨_, rfl, ?_⟩) ⟨rfl, rfl⟩
    · walk_at "co sp"
      exact ⟨_, rfl, rfl, rfl, rfl⟩
    · walk_at "co sp"
      refine w_opt (x := .int (if x < 0 then -x else x)) rfl ?_
      walk_at "co sp"
      exact ⟨rfl, rfl⟩
  rw [hb]
  have e : Val.tup (W.map fun ws => tupI (ws.map fun w => numW (tl w))) = tupV (W.map fun ws => ws.map fun w => numW (tl w)) := by unfold tupV; rw [List.map_map]; rfl
  refine w_if (fun z => ?_) (fun z => ?_)
  · walk_at "co sp"
    rw [e]
    refine w_backF (fz_tupV _) ?_
    rw [List.take_length, if_pos z]
    exact ⟨rfl, rfl⟩
  · walk_at "co sp"
    rw [List.take_length, if_neg (by rw [z]; exact Bool.false_ne_true)]
    exact ⟨rfl, rfl⟩
end Lk02
end

section
set_option linter.all false
set_option maxRecDepth 100000
set_option autoImplicit false
namespace Lk02
open PySem L2 Co TL
theorem w_fin {b : Nat} {h : Hh} {Q : Val → Hh → Prop} (q : Q .non (h.take b)) : Co.Ends (retR false b .next h) Q := ⟨_, _, rfl, q⟩
theorem init_ok (d : Nat) {h : Hh} {t : Str} {m : Mat} (e : readT t = some m) (l : t.length ≤ 16000000) {n : Nat} (hn : h[n]? = some (.ins 0 [])) : runF pg (d + 5) 10 [.ref n, .str t] h = .ok .non (h.set n (.ins 0 [(.inr "written", .str t), (.inr "lines", tupV m)])) := by
  have hl : n < h.length := (List.getElem?_eq_some_iff.mp hn).1
  have ev : readV t = tupV m := by unfold readV; rw [e]
  refine gives_ends ?_
  refine run_s (fn := f10) (s := [some (.ref n), some (.str t), none]) rfl rfl rfl ?_
  unfold f10
  dsimp only
  walk_at "co sp"
  refine ends_of (rows_in_ok d l) ?_
  rw [ev]
  walk_at "co sp"
  refine w_if (fun z => nomatch z) (fun _ => ?_)
  walk_at "co sp"
  refine x_fld ?_
  walk_at "co sp"
  refine ⟨n, 0, [], rfl, hn, ⟨Nat.zero_lt_one, rfl, rfl, by simp [putW], ?_⟩, ?_⟩
  · show (_ || true) = true
    rw [Bool.or_true]
  walk_at "co sp"
  refine x_fld ?_
  walk_at "co sp"
  refine ⟨n, 0, _, rfl, List.getElem?_set_self hl, ⟨Nat.zero_lt_one, rfl, rfl, by simp [putW], ?_⟩, ?_⟩
  · show (_ || below n (tupV m)) = true
    rw [fz_below n _ (fz_tupV m), Bool.or_true]
  walk_at "co sp"
  refine w_fin ?_
  rw [List.take_of_length_le (by simp), List.set_set]
  exact ⟨rfl, rfl⟩
/-- a table made -/
theorem make_ok (d : Nat) {h : Hh} {b : Nat} {t : Str} {m : Mat} (e : readT t = some m) (l : t.length ≤ 16000000) : (gOf pg (runF pg (d + 5)) b).make 0 [.str t] h = .ok (tableV t m) h := by
  show makeR pg (runF pg (d + 5)) 0 [.str t] h = _
  have hn : (h ++ [Ob.ins 0 []])[h.length]? = some (.ins 0 []) := by rw [List.getElem?_append_right (Nat.le_refl _), Nat.sub_self]; rfl
  have r := init_ok d e l hn
  unfold makeR
  simp only [show pg.cls[0]? = some cl0 from rfl, show cl0.init = some 10 from rfl, r, Res.bind_ok, Co.isNon, if_true, show cl0.frozen = true from rfl]
  rw [show (h ++ [Ob.ins 0 []]).set h.length (Ob.ins 0 [(.inr "written", .str t), (.inr "lines", tupV m)]) = h ++ [Ob.ins 0 [(.inr "written", .str t), (.inr "lines", tupV m)]] from by rw [List.set_append_right _ _ (Nat.le_refl _), Nat.sub_self]; rfl]
  rw [List.getElem?_append_right (Nat.le_refl _), Nat.sub_self]
  dsimp only [List.getElem?_cons_zero]
  rw [if_pos (⟨table_low h.length t m, by simp⟩ : belowK h.length _ = true ∧ _), List.take_left]
  rfl
/-- its rows, read -/
theorem w_lines {R : Nat → List Val → Hh → Res Val} {b : Nat} {s : Co.Env} {h : Hh} {Q : Val → Hh → Prop} {o : CE} (q : Co.Ends (evE (gOf pg R b) o s h) fun x h1 => ∃ t m, x = tableV t m ∧ Q (tupV m) h1) : Co.Ends (evE (gOf pg R b) (.fld o "lines") s h) Q := by
  refine w_fld (q.mono ?_)
  rintro x h1 ⟨t, m, rfl, q⟩
  exact ⟨0, _, _, rfl, Nat.zero_lt_one, rfl, rfl, rfl, q⟩
theorem numsV_I {u : List Int} (b : ∀ x ∈ u, -1000000000 ≤ x ∧ x ≤ 1000000000) : numsV (tupI u) = true := by
  simp only [numsV, tupI, List.all_map, List.all_eq_true, Function.comp_apply, btw]
  intro x hx
  have := b x hx
  simpa using this
theorem range_it {n : Nat} {h : Hh} {A : Hh → Prop} (q : A h) : (-16777216 ≤ ((n : Nat) : Int) ∧ ((n : Nat) : Int) ≤ 16777216 → A h) := fun _ => q
theorem bl_one {a b : Nat} : (Val.int (if (decide (((a : Nat) : Int) = ((b : Nat) : Int))) = true then 1 else 0)) = .int (if a = b then 1 else 0) := by
  congr 1
  by_cases q : a = b
  · rw [if_pos q, if_pos (decide_eq_true (by omega))]
  · rw [if_neg q, if_neg (by rw [decide_eq_false (by omega)]; exact Bool.false_ne_true)]
theorem zip_dot (r v : List Int) : ((List.zip r v).map fun p => p.1 * p.2).sum = dot r v := by
  unfold dot
  rw [← List.map_uncurry_zip_eq_zipWith]
  rfl
theorem zip_mem {r v : List Int} {p : Int × Int} (m : p ∈ List.zip r v) : p.1 ∈ r ∧ p.2 ∈ v := ⟨(List.of_mem_zip m).1, (List.of_mem_zip m).2⟩
theorem small_ok {x : Int} (a : -1000000000 ≤ x ∧ x ≤ 1000000000) : x.natAbs < 2 ^ 64 := by omega
theorem cols_mem {n : Nat} {m : Mat} {B : Int} (h : Sq n B m) {c : List Int} (hc : c ∈ colsM n m) : ∀ x ∈ c, -B ≤ x ∧ x ≤ B := fun x hx => by
  obtain ⟨j, mj, rfl⟩ := List.mem_map.mp hc
  obtain ⟨r, mr, rfl⟩ := List.mem_map.mp hx
  have := h.2 r mr
  exact this.2 _ (Co.getD_mem (by rw [this.1]; exact List.mem_range.mp mj))
section
variable {h : Hh} {t : Str} {n k : Nat} {m : Mat} {u : List Int}
end
end Lk02
end

section
set_option linter.all false
set_option maxRecDepth 100000
set_option autoImplicit false
namespace Lk02
open PySem L2 Co TL
theorem one_of {d : Nat} {h : Hh} {n : Nat} {some_ : List Val} {Q : Val → Hh → Prop} (V : Purse h n) (h0 : some_ ≠ []) (hl : some_.length < 2 ^ 62) (hb : ∀ v ∈ some_, below 0 v = true) (k : ∀ (v : Val) (h2 : Hh), v ∈ some_ → Spent n h h2 → Q v h2) : Co.Ends (runF pg (d + 2) 6 [.ref n, .lst some_] h) Q := by
  have hp : 0 < some_.length := List.length_pos_iff.mpr h0
  refine run_s (fn := f6) (s := [some (.ref n), some (.lst some_)]) rfl rfl rfl ?_
  unfold f6
  dsimp only
  walk_at "co sp"
  refine draw V (by omega) (by omega) fun x h2 a b D => ?_
  have hx : x.toNat < some_.length := by omega
  refine w_opt (idx_l.trans (atI_at x.toNat (List.getElem?_eq_getElem hx) (by omega))) ?_
  have hm : some_[x.toNat] ∈ some_ := List.getElem_mem hx
  walk_at "co sp"
  refine w_back (frz_low (below_le (Nat.zero_le _) _ (hb _ hm))) ?_
  rw [D.take]
  exact k _ h2 hm D
theorem join_at {g : G} {s : Str} {ys : List Str} {h : Hh} (e : (ys.map (·.length)).sum + ys.length * s.length ≤ lim) : meM g .join (.str s) [.lst (ys.map .str)] h = .ok (.str (Txt.join s ys)) h := by
  have sv : ∀ ys : List Str, strsV (ys.map .str) = some ys := fun ys => by
    induction ys with
    | nil => rfl
    | cons y r ih => simp [strsV, ih]
  show opt (meV .join (.str s) [.lst (ys.map .str)]) h = _
  have : meV .join (.str s) [.lst (ys.map .str)] = some (.str (Txt.join s ys)) := by
    show ((some (ys.map Val.str)).bind fun xs => (strsV xs).bind fun ys => if (ys.map (·.length)).sum + ys.length * s.length ≤ lim then some (Val.str (Txt.join s ys)) else none) = _
    rw [Option.bind_some, sv, Option.bind_some, if_pos e]
  rw [this]
  rfl
theorem join_len {s : Str} {ys : List Str} {b c : Nat} (hy : ∀ y ∈ ys, y.length ≤ b) (hn : ys.length ≤ c) : (Txt.join s ys).length ≤ c * (b + s.length) ∧ (ys.map (·.length)).sum + ys.length * s.length ≤ c * (b + s.length) := by
  have hs : (ys.map (·.length)).sum ≤ ys.length * b := by
    clear hn
    induction ys with
    | nil => simp
    | cons y r ih =>
      have := hy y List.mem_cons_self
      have := ih fun z m => hy z (List.mem_cons_of_mem _ m)
      rw [List.map_cons, List.sum_cons, List.length_cons, Nat.add_mul]
      omega
  have h1 : ys.length * b ≤ c * b := Nat.mul_le_mul_right _ hn
  have h2 : ys.length * s.length ≤ c * s.length := Nat.mul_le_mul_right _ hn
  have h3 : (ys.length - 1) * s.length ≤ ys.length * s.length := Nat.mul_le_mul_right _ (Nat.sub_le _ _)
  have e : (Txt.join s ys).length = (ys.map (·.length)).sum + (ys.length - 1) * s.length := by
    show (Builtin.Str.glued s ys).length = _
    exact size_glued s ys
  rw [Nat.mul_add]
  omega
theorem num_ok {h : Hh} {i : Int} (a : -(2 ^ 60 : Int) ≤ i) (b : i ≤ 2 ^ 60) : Co.bi .str (asL [.int i] h) = some (.str (numS i)) ∧ (numS i).length ≤ 100 := by
  have hn : i.natAbs < 2 ^ 61 := by omega
  have hl : i.natAbs.log2 < 61 := by
    by_cases z : i.natAbs = 0
    · rw [z]; decide
    · exact (Nat.log2_lt z).mpr hn
  refine ⟨?_, ?_⟩
  · show (if i.natAbs.log2 < 1920 then some (Val.str ((toString i : String) : Str)) else none) = _
    rw [if_pos (by omega)]
    rfl
  · have := int_text_length_le (a := i) (k := 61) (by decide) hl
    rw [show (numS i).length = (toString i).length from ofString_length _]
    omega
theorem text_ok (d : Nat) {h : Hh} {m : Mat} {k : Nat} (hm : Sq k (2 ^ 60) m) (k6 : k ≤ 100) : runF pg (d + 1) 7 [rowsV m] h = .ok (.str (textT m)) h ∧ (textT m).length ≤ 1100000 := by
  have hlim : lim = 16777216 := rfl
  have hnum : ∀ r ∈ m, ∀ i ∈ r, Co.bi .str (asL [.int i] h) = some (.str (numS i)) ∧ (numS i).length ≤ 100 := fun r hr i hi => by
    obtain ⟨b1, b2⟩ := (hm.2 r hr).2 i hi
    exact num_ok b1 b2
  have hline : ∀ r ∈ m, (lineT r).length ≤ 100 * (100 + 1) ∧ ((r.map numS).map (·.length)).sum + (r.map numS).length * (⟨#[32]⟩ : Str).length ≤ 100 * (100 + 1) := fun r hr =>
    join_len (s := ⟨#[32]⟩) (b := 100) (c := 100) (fun y hy => by obtain ⟨i, mi, rfl⟩ := List.mem_map.mp hy; exact (hnum r hr i mi).2) (by rw [List.length_map, (hm.2 r hr).1]; exact k6)
  have hall := join_len (s := ⟨#[32, 47, 32]⟩) (ys := m.map lineT) (b := 100 * (100 + 1)) (c := 100) (fun y hy => by obtain ⟨r, mr, rfl⟩ := List.mem_map.mp hy; exact (hline r mr).1) (by rw [List.length_map, hm.1]; exact k6)
  refine ⟨?_, Nat.le_trans hall.1 (by decide)⟩
  refine gives_ends ?_
  refine run_s (fn := f7) (s := [some (rowsV m), none, none]) rfl rfl rfl ?_
  unfold f7
  dsimp only
  walk_at "co sp"
  refine ⟨rfl, ?_⟩
  walk_at "co sp"
  refine w_compP1 m (fun r => .lst (r.map .int)) (fun r => .str (lineT r)) ?_ (by rw [hm.1]; omega) (fun r hr => ⟨_, rfl, ?_⟩) ?_
  · walk_at "co sp"
    exact ⟨_, rfl, rfl, rfl, rfl⟩
  · walk_at "co sp"
    refine ⟨rfl, ?_⟩
    walk_at "co sp"
    refine w_compP1 r .int (fun i => .str (numS i)) ?_ (by rw [(hm.2 r hr).1]; omega) (fun i hi => ⟨_, rfl, ?_⟩) ?_
    · walk_at "co sp"
      exact ⟨_, rfl, rfl, rfl, rfl⟩
    · walk_at "co sp"
      exact w_opt (hnum r hr i hi).1 ⟨rfl, rfl⟩
    · walk_at "co sp"
      have e : (r.map fun i => Val.str (numS i)) = (r.map numS).map .str := by rw [List.map_map]; rfl
      rw [e]
      exact Ends.eq (join_at (Nat.le_trans (hline r hr).2 (by decide))) ⟨rfl, rfl⟩
  · walk_at "co sp"
    have e : (m.map fun r => Val.str (lineT r)) = (m.map lineT).map .str := by rw [List.map_map]; rfl
    rw [e]
    refine Ends.eq (join_at (Nat.le_trans hall.2 (by decide))) ?_
    walk_at "co sp"
    rw [List.take_length]
    exact ⟨rfl, rfl⟩
theorem text_short {m : Mat} {k : Nat} (hm : Sq k 1000000000 m) (k6 : k ≤ 6) : (textT m).length ≤ 450 := by
  have hnum : ∀ r ∈ m, ∀ i ∈ r, (numS i).length ≤ 11 := fun r hr i hi => by
    obtain ⟨b1, b2⟩ := (hm.2 r hr).2 i hi
    rw [← tl_len]
    exact int_short b1 b2
  have hline : ∀ r ∈ m, (lineT r).length ≤ 6 * (11 + 1) := fun r hr =>
    (join_len (s := ⟨#[32]⟩) (b := 11) (c := 6) (fun y hy => by obtain ⟨i, mi, rfl⟩ := List.mem_map.mp hy; exact hnum r hr i mi) (by rw [List.length_map, (hm.2 r hr).1]; exact k6)).1
  have hall := (join_len (s := ⟨#[32, 47, 32]⟩) (ys := m.map lineT) (b := 6 * (11 + 1)) (c := 6) (fun y hy => by obtain ⟨r, mr, rfl⟩ := List.mem_map.mp hy; exact hline r mr) (by rw [List.length_map, hm.1]; exact k6)).1
  exact Nat.le_trans hall (by decide)
end Lk02
end

section
set_option linter.all false
set_option maxRecDepth 100000
set_option autoImplicit false
namespace Lk02
open PySem L2 Co TL
/-! what is shown of a table -/
theorem toDL_ints (k : Nat) : ∀ r : List Int, toDL k (r.map .int) = some (r.map PyData.int)
  | [] => rfl
  | i :: r => by
    simp only [List.map_cons, toDL, toDL_ints k r]
    cases k <;> rfl
theorem toD_rowD (k : Nat) (r : List Int) : toD (k + 1) (tupI r) = some (.tuple (r.map .int)) := by
  show (toDL k (r.map .int)).map _ = _
  rw [toDL_ints]
  rfl
theorem toDL_rows (k : Nat) : ∀ m : Mat, toDL (k + 1) (m.map tupI) = some (m.map fun r => .tuple (r.map .int))
  | [] => rfl
  | r :: m => by simp only [List.map_cons, toDL, toD_rowD, toDL_rows k m, Option.bind_some, Option.map_some]
def matD (m : Mat) : PyData := .tuple (m.map fun r => .tuple (r.map .int))
theorem toD_matD (k : Nat) (m : Mat) : toD (k + 2) (tupV m) = some (matD m) := by
  show (toDL (k + 1) (m.map tupI)).map _ = _
  rw [toDL_rows]
  rfl
def seenD (t rp : Str) (n : Nat) (m : Mat) : PyData := .list [.str t, .int (n : Nat), matD m, .str t, .str rp, .bool true]
def seenV (t rp : Str) (n : Nat) (m : Mat) : Val := .lst [.str t, .int (n : Nat), tupV m, .str t, .str rp, .bl true]
theorem str_all {t : Str} (h : ∀ c ∈ tl t, c < 128) : t.cps.all (· < 0x110000) = true := by
  rw [Array.all_eq_true_iff_forall_mem]
  intro c mc
  have := h c (by simpa [tl] using mc)
  exact decide_eq_true
                          (by omega)
theorem toD_seen {t rp : Str} {n : Nat} {m : Mat} (ht : t.cps.all (· < 0x110000) = true) (hr : rp.cps.all (· < 0x110000) = true) : toD 60 (seenV t rp n m) = some (seenD t rp n m) := by
  have e1 : toD 59 (.str t) = some (.str t) := by simp only [toD, ht, if_true]
  have e2 : toD 59 (.str rp) = some (.str rp) := by simp only [toD, hr, if_true]
  show (toDL 59 [.str t, .int (n : Nat), tupV m, .str t, .str rp, .bl true]).map _ = _
  simp only [toDL, e1, e2, toD_matD 57 m, show toD 59 (.int (n : Nat)) = some (.int (n : Nat)) from rfl, show toD 59 (.bl true) = some (.bool true) from rfl, Option.bind_some, Option.map_some]
  rfl
theorem log_small {i : Int} (a : -1000000000 ≤ i) (b : i ≤ 1000000000) : i.natAbs.log2 < 31 := by
  by_cases z : i.natAbs = 0
  · rw [z]; decide
  · exact (Nat.log2_lt z).mpr (by omega)
section
variable {r : List Int}
theorem ints_show (h : ∀ x ∈ r, -1000000000 ≤ x ∧ x ≤ 1000000000) : PyData.showableAll (r.map PyData.int) = true ∧ PyData.canLayAll0 (r.map PyData.int) = true ∧ PyData.depthAll (r.map PyData.int) = 0 ∧ PyData.weightAll (r.map PyData.int) ≤ 32 * r.length ∧ PyData.intsShortAll 13 (r.map PyData.int) = true := by
  induction r with
  | nil => exact ⟨rfl, rfl, rfl, Nat.le_refl _, rfl⟩
  | cons x r ih =>
    obtain ⟨a, b⟩ := h x List.mem_cons_self
    obtain ⟨i1, i2, i3, i4, i5⟩ := ih fun y my => h y (List.mem_cons_of_mem _ my)
    have l := log_small a b
    have s := PyData.shown_int_le (i := x) (by omega)
    refine ⟨?_, ?_, ?_, ?_, ?_⟩
    · simp only [List.map_cons, PyData.showableAll, PyData.showable, i1, Bool.and_true, decide_eq_true_eq]
      omega
    · simp only [List.map_cons, PyData.canLayAll0, PyData.canLay0, i2, Bool.and_true]
    · simp only [List.map_cons, PyData.depthAll, PyData.depth, i3]
      rfl
    · simp only [List.map_cons, PyData.weightAll, PyData.weight, List.length_cons]
      split <;> omega
    · simp only [List.map_cons, PyData.intsShortAll, PyData.intsShort, i5, Bool.and_true, decide_eq_true_eq]
      exact s
end
theorem rows_show {m : Mat} (h : ∀ r ∈ m, r.length ≤ 6 ∧ ∀ x ∈ r, -1000000000 ≤ x ∧ x ≤ 1000000000) : PyData.showableAll (m.map fun r => .tuple (r.map .int)) = true ∧ PyData.canLayAll0 (m.map fun r => .tuple (r.map .int)) = true ∧ PyData.depthAll (m.map fun r => .tuple (r.map .int)) ≤ 1 ∧ PyData.weightAll (m.map fun r => .tuple (r.map .int)) ≤ 200 * m.length ∧ PyData.intsShortAll 13 (m.map fun r => .tuple (r.map .int)) = true := by
  induction m with
  | nil => exact ⟨rfl, rfl, Nat.zero_le _, Nat.le_refl _, rfl⟩
  | cons r m ih =>
    obtain ⟨l, b⟩ := h r List.mem_cons_self
    obtain ⟨i1, i2, i3, i4, i5⟩ := ih fun y my => h y (List.mem_cons_of_mem _ my)
    obtain ⟨j1, j2, j3, j4, j5⟩ := ints_show b
    refine ⟨?_, ?_, ?_, ?_, ?_⟩
    · simp only [List.map_cons, PyData.showableAll, PyData.showable, i1, j1, Bool.and_true]
    · simp only [List.map_cons, PyData.canLayAll0, PyData.canLay0, i2, j2, Bool.and_true]
    · simp only [List.map_cons, PyData.depthAll, PyData.depth, j3]
      omega
    · simp only [List.map_cons, PyData.weightAll, PyData.weight, List.length_cons]
      omega
    · simp only [List.map_cons, PyData.intsShortAll, PyData.intsShort, i5, j5, Bool.and_true]
theorem seen_repr {t rp : Str} {n : Nat} {m : Mat} (ht : ∀ c ∈ tl t, c < 128) (hr : ∀ c ∈ tl rp, c < 128) (lt : t.length ≤ 450) (lr : rp.length ≤ 450) (n6 : n ≤ 6) (l6 : m.length ≤ 6) (hm : ∀ r ∈ m, r.length ≤ 6 ∧ ∀ x ∈ r, -1000000000 ≤ x ∧ x ≤ 1000000000) :
    ∃ x : Str, ∀ h : Hh, Co.bi .repr (asL [seenV t rp n m] h) = some (.str x) := by
  have a1 := str_all ht
  have a2 := str_all hr
  obtain ⟨j1, j2, j3, j4, j5⟩ := rows_show hm
  obtain ⟨k1, k2, k3, k4, k5⟩ := ints_show (r := [(n : Int)]) (by simp; omega)
  simp only [List.map_cons, List.map_nil, PyData.showableAll, PyData.canLayAll0, PyData.depthAll, PyData.weightAll, PyData.intsShortAll, Bool.and_true] at k1 k2 k3 k4 k5
  have s1 : (seenD t rp n m).showable = true := by
    simp only [seenD, matD, PyData.showable, PyData.showableAll, j1, Bool.and_true, Bool.true_and]
    exact k1
  have s2 : PyData.layable0 (seenD t rp n m) = true := by
    have w1 : t.cps.size ≤ 450 := lt
    have w2 : rp.cps.size ≤ 450 := lr
    unfold PyData.layable0
    simp only [Bool.and_eq_true,
                            decide_eq_true_eq]
    refine ⟨⟨?_, ?_⟩, ?_⟩
    · simp only [seenD, matD, PyData.canLay0, PyData.canLayAll0, j2, Bool.and_true, Bool.true_and, Bool.and_eq_true]
      exact ⟨a1, a1, a2⟩
    · simp only [seenD, matD, PyData.depth, PyData.depthAll]
      omega
    · simp only [seenD, matD, PyData.weight, PyData.weightAll]
      simp only [PyData.weight, List.length_cons, List.length_nil] at k4
      omega
  have s3 : (seenD t rp n m).intsShort 13 = true := by
    simp only [seenD, matD, PyData.intsShort, PyData.intsShortAll, j5, Bool.and_true, Bool.true_and]
    exact k5
  have s4 := PyData.shown_fits_of_layable0 (B := 13) (by decide) (by decide) s2 s3
  have z : (sizeLine : Nat) = lim := sizeLine_eq
  refine ⟨(seenD t rp n m).shown, fun h => ?_⟩
  show (toD 60 (seenV t rp n m)).bind _ = _
  rw [toD_seen a1 a2, Option.bind_some, if_pos ⟨s1, by rw [← z]; exact s4⟩]
/-! methods of the class -/
theorem w_mcall {g : G} {s : Co.Env} {h : Hh} {Q : Val → Hh → Prop} {o : CE} {nm : Str} {es : List CE} (q : Co.Ends (evE g o s h) fun x h1 => Co.Ends (evEs g es s h1) fun vs h2 => ∃ c fs p, fldV h1 x = some (c, fs) ∧ g.meth c nm = some p ∧ Co.Ends (g.call p (x :: vs) h2) Q) : Co.Ends (evE g (.mcall o nm es) s h) Q := by
  simp only [evE]
  refine .bind q fun x h1 q1 => .bind q1 fun vs h2 ⟨c, fs, p, e1, e2, q2⟩ => ?_
  simp only [e1, e2]
  exact q2
theorem tstr_ok (d : Nat) {h : Hh} {t : Str} {m : Mat} : runF pg (d + 1) 14 [tableV t m] h = .ok (.str t) h := by
  refine gives_ends ?_
  refine run_s (fn := f14) (s := [some (tableV t m)]) rfl rfl rfl ?_
  unfold f14
  dsimp only
  refine w_seq (w_ret (w_callB (w_cons rfl (w_fld (w_var rfl ⟨0, _, _, rfl, Nat.zero_lt_one, rfl, rfl, rfl, w_nil (w_opt (x := .str t) rfl ?_)⟩)))))
  walk_at "co sp"
  rw [List.take_length]
  exact ⟨rfl, rfl⟩
theorem ttext_ok (d : Nat) {h : Hh} {t : Str} {m : Mat} : runF pg (d + 1) 11 [tableV t m] h = .ok (.str t) h := by
  refine gives_ends ?_
  refine run_s (fn := f11) (s := [some (tableV t m)]) rfl rfl rfl ?_
  unfold f11
  dsimp only
  refine w_seq (w_ret (w_fld (w_var rfl ⟨0, _, _, rfl, Nat.zero_lt_one, rfl, rfl, rfl, ?_⟩)))
  walk_at "co sp"
  rw [List.take_length]
  exact ⟨rfl, rfl⟩
theorem tsize_ok (d : Nat) {h : Hh} {t : Str} {m : Mat} : runF pg (d + 1) 12 [tableV t m] h = .ok (.int (m.length : Nat)) h := by
  refine gives_ends ?_
  refine run_s (fn := f12) (s := [some (tableV t m)]) rfl rfl rfl ?_
  unfold f12
  dsimp only
  refine w_seq (w_ret (w_callB (w_cons rfl (w_lines (w_var rfl ⟨t, m, rfl, w_nil (w_opt (x := .int (m.length : Nat)) (by show some (Val.int ((m.map tupI).length : Nat)) = _; rw [List.length_map]) ?_)⟩)))))
  walk_at "co sp"
  rw [List.take_length]
  exact ⟨rfl, rfl⟩
theorem trows_ok (d : Nat) {h : Hh} {t : Str} {m : Mat} : runF pg (d + 1) 13 [tableV t m] h = .ok (tupV m) h := by
  refine gives_ends ?_
  refine run_s (fn := f13) (s := [some (tableV t m)]) rfl rfl rfl ?_
  unfold f13
  dsimp only
  refine w_seq (w_ret (w_lines (w_var rfl ⟨t, m, rfl, ?_⟩)))
  refine w_out ?_
  refine w_backF (fz_tupV _) ?_
  rw [List.take_length]
  exact ⟨rfl, rfl⟩
def reprS (n : Nat) : Str := (⟨⟨[84, 97, 98, 108, 101, 32, 111, 102, 32]⟩⟩ ++ numS (n : Nat)) ++ ⟨⟨[32, 99, 111, 117, 110, 116, 101, 114, 115]⟩⟩
theorem repr_mid {h h2 : Hh} {n : Nat} (n6 : n ≤ 6) : Co.bi .str (asL [.int (n : Nat)] h) = some (.str (numS (n : Nat))) ∧ bop .Add (rd h (.str ⟨⟨[84, 97, 98, 108, 101, 32, 111, 102, 32]⟩⟩)) (rd h2 (.str (numS (n : Nat)))) = some (.str (⟨⟨[84, 97, 98, 108, 101, 32, 111, 102, 32]⟩⟩ ++ numS (n : Nat))) ∧
    bop .Add (rd h (.str (⟨⟨[84, 97, 98, 108, 101, 32, 111, 102, 32]⟩⟩ ++ numS (n : Nat)))) (rd h2 (.str ⟨⟨[32, 99, 111, 117, 110, 116, 101, 114, 115]⟩⟩)) = some (.str (reprS n)) := by
  have : n = 0 ∨ n = 1 ∨ n = 2 ∨ n = 3 ∨ n = 4 ∨ n = 5 ∨ n = 6 := by omega
  rcases this with rfl | rfl | rfl | rfl | rfl | rfl | rfl <;> exact ⟨by kernel_rfl, by kernel_rfl, by kernel_rfl⟩
theorem repr_good {n : Nat} (n6 : n ≤ 6) : (∀ c ∈ tl (reprS n), c < 128) ∧ (reprS n).length ≤ 450 := by
  have : n = 0 ∨ n = 1 ∨ n = 2 ∨ n = 3 ∨ n = 4 ∨ n = 5 ∨ n = 6 := by omega
  rcases this with rfl | rfl | rfl | rfl | rfl | rfl | rfl <;> exact ⟨by decide +kernel, by decide +kernel⟩
theorem trepr_ok (d : Nat) {h : Hh} {t : Str} {m : Mat} (l6 : m.length ≤ 6) : runF pg (d + 1) 15 [tableV t m] h = .ok (.str (reprS m.length)) h := by
  refine gives_ends ?_
  refine run_s (fn := f15) (s := [some (tableV t m)]) rfl rfl rfl ?_
  unfold f15
  dsimp only
  refine w_seq (w_ret (w_bin (w_bin (w_cst (w_callB (w_cons rfl (w_callB (w_cons rfl ?_))))))))
  refine w_lines (w_var rfl ⟨t, m, rfl, w_nil ?_⟩)
  refine w_opt (x := .int (m.length : Nat)) (by show some (Val.int ((m.map tupI).length : Nat)) = _; rw [List.length_map]) ?_
  refine w_nil (w_opt (repr_mid (h := h) (h2 := h) l6).1 ?_)
  refine w_opt (repr_mid l6).2.1 ?_
  refine w_cst (w_opt (repr_mid l6).2.2 ?_)
  walk_at "co sp"
  rw [List.take_length]
  exact ⟨rfl, rfl⟩
theorem teq_ok (d : Nat) {h : Hh} {t t2 : Str} {m m2 : Mat} : runF pg (d + 2) 16 [tableV t m, tableV t2 m2] h = .ok (.bl (decide (t = t2))) h := by
  refine gives_ends ?_
  refine run_s (fn := f16) (s := [some (tableV t m), some (tableV t2 m2)]) rfl rfl rfl ?_
  unfold f16
  dsimp only
  refine w_seq (w_ret ?_)
  refine w_andP true (decide (t = t2)) ?_ (fun _ => ?_) ?_
  · walk_at "co sp"
    exact ⟨rfl, rfl, rfl⟩
  · refine w_cmp (w_fld (w_var rfl ⟨0, _, _, rfl, Nat.zero_lt_one, rfl, rfl, rfl, ?_⟩))
    refine w_prop (w_var rfl ⟨0, _, 11, rfl, Nat.zero_lt_one, rfl, Ends.eq (ttext_ok d (m := m2)) ?_⟩)
    exact w_cop eq_str ⟨rfl, rfl⟩
  · walk_at "co sp"
    rw [List.take_length]
    exact ⟨rfl, rfl⟩
theorem teq_odd (d : Nat) {h : Hh} {t : Str} {m : Mat} {v : Val} (k : kindOk 1 h v = true) (i : isIns h (.cls 0) v = false) : runF pg (d + 2) 16 [tableV t m, v] h = .ok (.bl false) h := by
  refine gives_ends ?_
  refine run_s (fn := f16) (s := [some (tableV t m), some v]) rfl rfl rfl ?_
  unfold f16
  dsimp only
  refine w_seq (w_ret ?_)
  refine w_andP false false ?_ (fun z => nomatch z) ?_
  · walk_at "co sp"
    exact ⟨k, by rw [i], rfl⟩
  · walk_at "co sp"
    rw [List.take_length]
    exact ⟨rfl, rfl⟩
/-- == of a name and a name, by the class -/
theorem w_eqC {d b : Nat} {s : Co.Env} {h : Hh} {Q : Val → Hh → Prop} {i j : Nat} {t : Str} {m : Mat} {v : Val} {k : Bool} (e1 : s[i]? = some (some (tableV t m))) (e2 : s[j]? = some (some v)) (hk : kindOk 1 h v = true) (r : runF pg (d + 2) 16 [tableV t m, v] h = .ok (.bl k) h) (q : Q (.bl k) h) : Co.Ends (evE (gOf pg (runF pg (d + 2)) b) (eqC 0 i j) s h) Q := by
  have main : Co.Ends (evE (gOf pg (runF pg (d + 2)) b) (.mcall (.var i) "__eq__" [.var j]) s h) Q :=
    w_mcall (w_var e1 (w_cons rfl (w_var e2 (w_nil ⟨0, _, 16, rfl, rfl, Ends.eq r q⟩))))
  unfold eqC
  refine w_ite (w_isI (w_var e2 ⟨hk, _, rfl, fun _ => main, fun _ => main⟩))
end Lk02
end

section
set_option linter.all false
set_option maxRecDepth 100000
set_option autoImplicit false
namespace Lk02
open PySem L2 Co TL
section
variable {hh : Hh} {A A2 : Ob} {R n : Nat}
theorem own1 (e : hh.length = R) : (hh ++ [A])[R]? = some A := by
  rw [List.getElem?_append_right (by omega), e, Nat.sub_self]; rfl
theorem own_set1 (e : hh.length = R) : (hh ++ [A]).set R A2 = hh ++ [A2] := by
  rw [List.set_append, if_neg (by omega), e, Nat.sub_self]; rfl
theorem tail_purse {L : List Ob} (V : Purse hh n) : Purse (hh ++ L) n := by
  have l := V.lt
  obtain ⟨a, b, e⟩ := V
  exact ⟨a, b, by rw [List.getElem?_append_left l]; exact e⟩
theorem tail_spent {L : List Ob} {h3 : Hh} (l : n < hh.length) (D : Spent n (hh ++ L) h3) : ∃ hh3, h3 = hh3 ++ L ∧ Spent n hh hh3 := by
  obtain ⟨a, b, rfl⟩ := D
  exact ⟨hh.set n (.lst [.int a, .int b]), by rw [List.set_append_left _ _ l], a, b, rfl⟩
end
theorem app_any {g : G} {h : Hh} {R : Nat} {ws : List Val} {v : Val} (e : h[R]? = some (.lst ws)) (l : ws.length < 16777216) (b : mayStore g.base R v = true) : meM g .append (.ref R) [v] h = .ok .non (h.set R (.lst (ws ++ [v]))) := by
  simp only [meM, e]
  rw [if_pos ⟨l, b⟩]
theorem vals_same (l : List Val) : Val.beqL l l = true := Val.beqL_refl l
/-- a clause over what stands meanwhile -/
theorem w_compG {α : Type} {g : G} {s : Co.Env} {h : Hh} {Q : Val → Hh → Prop} {it elt : CE} {own tg : List Nat} {one : Bool} (xs : List α) (A B : α → Val) (hit : Co.Ends (evI g it s h) fun p h1 => p.1 = xs.map A ∧ guardOk h1 p.2 = true ∧ h1 = h) (hl : xs.length ≤ 16777216)
    (each : ∀ x ∈ xs, ∃ s1, setT one tg (A x) h (wipeE s own) = some s1 ∧ Co.Ends (evE g elt s1 h) fun v h1 => v = B x ∧ h1 = h) (q : Q (.lst (xs.map B)) h) : Co.Ends (evE g (.comp false own tg one it [] elt) s h) Q := by
  refine w_compX xs A B (hit.mono ?_)
  rintro ⟨p1, p2⟩ h1 ⟨e1, e2, rfl⟩
  dsimp only at e1 e2
  subst e1
  refine ⟨rfl, by dsimp only; rw [List.length_map]; exact hl, e2, fun x hx => ?_, q⟩
  obtain ⟨s1, e, w⟩ := each x hx
  refine cStep_of e (c_nil ⟨fun _ => w.mono ?_, fun z => nomatch z⟩)
  rintro v h2 ⟨rfl, rfl⟩
  exact ⟨rfl, rfl⟩
/-- the rows that may be drawn -/
structure Good (m : Mat) : Prop where
  ex : ∃ k, 1 ≤ k ∧ k ≤ 6 ∧ Sq k 1000000000 m
theorem Good.rd {m : Mat} (g : Good m) : readT (textT m) = some m := by
  obtain ⟨k, k1, k6, hm⟩ := g.ex
  exact readT_text (fun e => by have := hm.1; rw [e] at this; simp at this; omega) hm.sqr (by rw [hm.1]; exact k6) hm.bdd
theorem Good.short {m : Mat} (g : Good m) : (textT m).length ≤ 450 := by
  obtain ⟨k, k1, k6, hm⟩ := g.ex
  exact text_short hm k6
theorem Good.l6 {m : Mat} (g : Good m) : m.length ≤ 6 := by
  obtain ⟨k, k1, k6, hm⟩ := g.ex
  rw [hm.1]; exact k6
theorem Good.rows {m : Mat} (g : Good m) : ∀ r ∈ m, r.length ≤ 6 ∧ ∀ x ∈ r, -1000000000 ≤ x ∧ x ≤ 1000000000 := by
  obtain ⟨k, k1, k6, hm⟩ := g.ex
  exact fun r hr => ⟨by rw [(hm.2 r hr).1]; exact k6, (hm.2 r hr).2⟩
theorem Good.text {m : Mat} (g : Good m) (d : Nat) (h : Hh) : runF pg (d + 1) 7 [rowsV m] h = .ok (.str (textT m)) h := by
  obtain ⟨k, k1, k6, hm⟩ := g.ex
  exact (text_ok d (hm.mono (by decide)) (by omega)).1
def toTab : Val → Val
  | .str t => tableV t ((readT t).getD [])
  | _ => .non
theorem toTab_of {m : Mat} (g : Good m) : toTab (.str (textT m)) = tableV (textT m) m := by
  show tableV (textT m) ((readT (textT m)).getD []) = _
  rw [g.rd]
  rfl
theorem bl_ne {h h2 : Hh} {α : Type} {xs : List α} {f : α → Bool} : cop .NotEq (rd h (.lst (xs.map fun x => .bl (f x)))) (rd h2 (.lst (xs.map fun x => .bl (f x)))) = some false := by
  cases xs with
  | nil => rfl
  | cons x xs =>
    show (eqD (.lst ((x :: xs).map fun x => Val.bl (f x))) (.lst ((x :: xs).map fun x => Val.bl (f x)))).map not = _
    rw [eqD_same (v := .lst ((x :: xs).map fun x => Val.bl (f x))) (toD_lst (k := 59) fun v mv => by obtain ⟨y, _, rfl⟩ := List.mem_map.mp mv; rfl)]
    rfl
theorem ins_repr {h h2 : Hh} {x : Str} : cop .NotEq (rd h (.str x)) (rd h2 (.str x)) = some false := by rw [ne_str]; simp
set_option maxHeartbeats
                        2000000 in
theorem right_ok (d : Nat) {h : Hh} {n : Nat} (V : Purse h n) : Co.Ends (runF pg (d + 7) 8 [.ref n] h) fun v h2 => v = .bl true ∧ Spent n h h2 := by
  have hlt := V.lt
  have hlim : lim = 16777216 := rfl
  refine run_s (fn := f8) (s := [some (.ref n), none, none, none, none, none, none, none, none, none, none, none, none, none, none, none, none]) rfl rfl rfl ?_
  unfold f8
  dsimp only
  generalize hR : h.length = R
  walk_at "co sp"
  refine w_for ?_
  walk_at "co sp"
  refine ⟨_, rfl, by decide, fun rs s h2 => ∃ (ms : List Mat) (hh : Hh) (a b c : Option Val), s = [some (.ref n), some (.ref R), a, none, none, b, c, none, none, none, none, none, none, none, none, none, none] ∧ h2 = hh ++ [.lst (ms.map rowsV)] ∧ Spent n h hh ∧ (∀ m ∈ ms, Good m) ∧ ms.length + rs.length = 4, fun _ _ _ _ => rfl, ?_, ?_, ⟨[], h, none, none, none, by rw [hR]; rfl, rfl, V.refl, by simp, by simp [rangeL]⟩⟩
  · rintro s h2 ⟨ms, hh, a, b, c, rfl, rfl, D, G, lm⟩
    have eR : hh.length = R := by rw [← hR]; exact D.len
    have l4 : ms.length = 4 := by simpa using lm
    obtain ⟨m1, em1⟩ : ∃ m1, ms[1]? = some m1 := ⟨_, List.getElem?_eq_getElem (by omega)⟩
    have g1 := G m1 (List.mem_of_getElem? em1)
    have lr1 := g1.l6
    walk_at "co sp"
    refine ⟨by rw [rd_r (own1 eR)]; rfl, w_cons rfl ?_⟩
    refine w_compP1 m1 (fun r => .lst (r.map .int)) (fun r => .lst (r.map .int)) ?_ (by omega) (fun r hr => ⟨_, rfl, ?_⟩) ?_
    · walk_at "co sp"
      refine w_opt (idx_ref (own1 eR) (show atI (ms.map rowsV) 1 = some (rowsV m1) from atI_at 1 (by rw [List.getElem?_map, em1]; rfl) rfl)) ?_
      exact ⟨_, rfl, rfl, rfl, rfl⟩
    · exact w_callB (w_cons rfl (w_var rfl (w_nil (w_opt (x := Val.lst (r.map .int)) rfl ⟨rfl, rfl⟩))))
    refine w_nil ?_
    refine Ends.eq (app_any (own1 eR) (by rw [List.length_map]; omega) (by show (_ || _) = true; rw [show below R (.lst (m1.map fun r => Val.lst (r.map .int))) = true from below_le (Nat.zero_le _) _ (rows_low 0 m1), Bool.or_true])) ?_
    rw [own_set1 eR]
    walk_at "co sp"
    refine ⟨by rw [rd_r (own1 eR)]; rfl, ?_⟩
    walk_at "co sp"
    refine w_opt (x := .int 1000000000) (by kernel_rfl) ?_
    walk_at "co sp"
    refine w_opt (x := .int 1000000000) (by kernel_rfl) ?_
    refine ⟨_, rfl, ?_⟩
    walk_at "co sp"
    refine Ends.eq (app_any (ws := ms.map rowsV ++ [Val.lst (m1.map fun r => Val.lst (r.map .int))]) (own1 eR) (by rw [List.length_append, List.length_map]; show ms.length + 1 < 16777216; omega) (by show (_ || _) = true; rw [show below R (.lst [.lst [.int 1000000000, .int (-1000000000)], .lst [.int 0, .int 1]]) = true from rfl, Bool.or_true])) ?_
    rw [own_set1 eR]
    have em : ms.map rowsV ++ [Val.lst (m1.map fun r => Val.lst (r.map .int))] ++ [Val.lst [Val.lst [Val.int 1000000000, Val.int (-1000000000)], Val.lst [Val.int 0, Val.int 1]]] = (ms ++ [m1, [[1000000000, -1000000000], [0, 1]]]).map rowsV := by
      rw [List.map_append, List.append_assoc]
      rfl
    rw [em]
    have G2 : ∀ m ∈ ms ++ [m1, [[1000000000, -1000000000], [0, 1]]], Good m := fun m mm => by
      rcases List.mem_append.mp mm with q | q
      · exact G m q
      · simp only [List.mem_cons, List.not_mem_nil, or_false] at q
        rcases q with rfl | rfl
        · exact g1
        · exact ⟨2, by decide, by decide, by unfold Sq; decide⟩
    have l6 : (ms ++ [m1, [[1000000000, -1000000000], [0, 1]]]).length = 6 := by simp [l4]
    clear G em lm l4 em1 g1 lr1
    generalize ms ++ [m1, [[1000000000, -1000000000], [0, 1]]] = qs at G2 l6
    -- the texts
    walk_at "co sp"
    refine w_compG qs rowsV (fun m => .str (textT m)) ?_ (by omega) (fun m mm => ⟨_, rfl, ?_⟩) ?_
    · walk_at "co sp"
      refine ⟨(qs.map rowsV, [(R, qs.map rowsV)]), by show (match (hh ++ [Ob.lst (qs.map rowsV)])[R]? with | some (.lst ws) => some (ws, [(R, ws)]) | _ => none) = _; rw [own1 eR], rfl, ?_, rfl⟩
      simp [guardOk, own1 eR, vals_same]
    · walk_at "co sp"
      exact ends_of ((G2 m mm).text (d + 5) _) ⟨rfl, rfl⟩
    -- the tables
    walk_at "co sp"
    refine w_compI2 ?_
    walk_at "co sp"
    refine ⟨_, rfl, by rw [List.length_map]; omega, fun dn acc h3 => acc = dn.map toTab ∧ ∃ hh3, h3 = hh3 ++ [.lst (qs.map rowsV)] ∧ Spent n h hh3, fun _ _ _ _ => rfl, ⟨rfl, hh, rfl, D⟩, ?_, ?_⟩
    · rintro v mv dn acc h3 ⟨rfl, hh3, rfl, D3⟩
      obtain ⟨m, mm, rfl⟩ := List.mem_map.mp mv
      have gm := G2 m mm
      refine cStep_of rfl ?_
      walk_at "co sp"
      refine ⟨fun _ => ?_, fun z => nomatch z⟩
      walk_at "co sp"
      refine draw (tail_purse (D3.purse V)) (by decide) (by decide) fun y h4 y0 y1 D4 => ?_
      obtain ⟨hh4, rfl, D5⟩ := tail_spent (by rw [D3.len]; exact hlt) D4
      walk_at "co sp"
      have MK : (gOf pg (runF pg (d + 6)) R).make 0 [.str (textT m)] (hh4 ++ [.lst (qs.map rowsV)]) = .ok (tableV (textT m) m) (hh4 ++ [.lst (qs.map rowsV)]) := make_ok (d + 1) gm.rd (by have := gm.short; omega)
      refine w_if (fun _ => ?_) (fun _ => ?_)
      · refine w_make (w_cons rfl (w_var rfl (w_nil ?_)))
        refine ends_of MK ?_
        exact ⟨by rw [List.map_append, ← toTab_of gm]; rfl, hh4, rfl, D3.trans D5⟩
      · refine w_make (w_cons rfl (w_var rfl (w_nil ?_)))
        refine ends_of MK ?_
        exact ⟨by rw [List.map_append, ← toTab_of gm]; rfl, hh4, rfl, D3.trans D5⟩
    · rintro r h3 ⟨rfl, hh3, rfl, D3⟩
      have eR3 : hh3.length = R := by rw [← hR]; exact D3.len
      have et : (qs.map fun m => Val.str (textT m)).map toTab = qs.map fun m => tableV (textT m) m := by
        rw [List.map_map]
        exact List.map_congr_left fun m mm => toTab_of (G2 m mm)
      rw [et]
      clear et D
      have g3 : (hh3 ++ [Ob.lst (qs.map rowsV)])[R]? = some (.lst (qs.map rowsV)) := own1 eR3
      obtain ⟨H, hH⟩ : ∃ H, H = hh3 ++ [Ob.lst (qs.map rowsV)] := ⟨_, rfl⟩
      rw [← hH] at g3 ⊢
      have eqs : itsOf H [.lst (qs.map fun m => tableV (textT m) m), .ref R, .lst (qs.map fun m => .str (textT m))] = some ([qs.map fun m => tableV (textT m) m, qs.map rowsV, qs.map fun m => .str (textT m)], [(R, qs.map rowsV)]) := by
        simp [itsOf, itOf2, itOf, g3]
      walk_at "co sp"
      refine w_for ?_
      refine i_zipS ?_
      walk_at "co sp"
      refine ⟨_, _, rfl, eqs, ⟨(by show 0 < 3; decide), (by show 3 ≤ 8; decide)⟩, fun rs s h4 => ∃ (z2 z5 z6 z7 z8 z9 z10 z11 z12 : Option Val), s = [some (.ref n), some (.ref R), z2, some (.lst (qs.map fun m => .str (textT m))), some (.lst (qs.map fun m => tableV (textT m) m)), z5, z6, z7, z8, z9, z10, z11, z12, none, none, none, none] ∧ h4 = H ∧ ∀ v ∈ rs, ∃ m ∈ qs, v = .tup [tableV (textT m) m, rowsV m, .str (textT m)], ?_, ?_, ?_, ⟨_, _, _, _, _, _, _, _, _, rfl, rfl, ?_⟩⟩
      · rintro r s h4 ⟨_, _, _, _, _, _, _, _, _, _, rfl, _⟩
        simp [guardOk, g3, vals_same]
      · rintro s h4 ⟨z2, z5, z6, z7, z8, z9, z10, z11, z12, rfl, rfl, _⟩
        walk_at "co sp"
        rw [hH, List.take_append, ← hR, D3.len.symm, List.take_length, Nat.sub_self, List.take_zero, List.append_nil]
        exact ⟨rfl, D3⟩
      · rintro v rs s h4 ⟨z2, z5, z6, z7, z8, z9, z10, z11, z12, rfl, rfl, hv⟩
        obtain ⟨m, mm, rfl⟩ := hv v List.mem_cons_self
        have gm := G2 m mm
        have rg := repr_good gm.l6
        obtain ⟨rx, hrx⟩ := seen_repr (text_signs m) rg.1 gm.short rg.2 gm.l6 gm.l6 gm.rows
        have hl6 := gm.l6
        walk_at "co sp"
        refine w_prop (w_var rfl ⟨0, _, 11, rfl, Nat.zero_lt_one, rfl, Ends.eq (ttext_ok (d + 5) (t := textT m) (m := m)) ?_⟩)
        refine w_cons rfl (w_prop (w_var rfl ⟨0, _, 12, rfl, Nat.zero_lt_one, rfl, Ends.eq (tsize_ok (d + 5) (t := textT m) (m := m)) ?_⟩))
        refine w_cons rfl (w_prop (w_var rfl ⟨0, _, 13, rfl, Nat.zero_lt_one, rfl, Ends.eq (trows_ok (d + 5) (t := textT m) (m := m)) ?_⟩))
        refine w_cons rfl (w_bin (w_mcall (w_var rfl (w_nil ⟨0, _, 14, rfl, rfl, Ends.eq (tstr_ok (d + 5) (t := textT m) (m := m)) (w_cst ?_)⟩))))
        refine w_opt (x := .str (textT m)) (by show (if (textT m).length + 0 ≤ lim then some (Val.str (textT m ++ (⟨#[]⟩ : Str))) else none) = _; rw [if_pos (by have := gm.short; omega), app_nil]) ?_
        refine w_cons rfl (w_bin (w_mcall (w_var rfl (w_nil ⟨0, _, 15, rfl, rfl, Ends.eq (trepr_ok (d + 5) (t := textT m) gm.l6) (w_cst ?_)⟩))))
        refine w_opt (x := .str (reprS m.length)) (by show (if (reprS m.length).length + 0 ≤ lim then some (Val.str (reprS m.length ++ (⟨#[]⟩ : Str))) else none) = _; rw [if_pos (by have := rg.2; omega), app_nil]) ?_
        refine w_cons rfl (w_orP true false ?_ (fun z => nomatch z) ?_)
        · walk_at "co sp"
          exact ⟨rfl, rfl, rfl⟩
        refine w_nil ⟨by show 6 ≤ 16777216; decide, ?_⟩
        walk_at "co sp"
        refine w_opt (lenRows rfl) ?_
        walk_at "co sp"
        refine w_tupP m (fun r => .lst (r.map .int)) tupI ?_ (by omega) (fun r hr => ⟨_, rfl, ?_⟩) ?_
        · walk_at "co sp"
          exact ⟨_, rfl, rfl, rfl, rfl⟩
        · walk_at "co sp"
          exact ⟨rfl, rfl⟩
        walk_at "co sp"
        refine w_opt (hrx h4) ?_
        walk_at "co sp"
        refine w_opt (lenRows rfl) ?_
        refine w_nil (w_opt (repr_mid (h := h4) (h2 := h4) gm.l6).1 ?_)
        refine w_opt (repr_mid gm.l6).2.1 ?_
        refine w_cst (w_opt (repr_mid gm.l6).2.2 ?_)
        walk_at "co sp"
        refine w_opt (x := seenV (textT m) (reprS m.length) m.length m) rfl ?_
        walk_at "co sp"
        refine w_opt (hrx h4) ?_
        refine w_cop ins_repr ?_
        refine w_if (fun z => nomatch z) (fun _ => ?_)
        refine w_done (w_go ?_)
        -- ==
        refine w_seq (w_ifs (w_cmp ?_))
        refine w_compP1 qs (fun q => tableV (textT q) q) (fun q => .bl (decide (textT m = textT q))) ?_ (by omega) (fun q mq => ⟨_, rfl, ?_⟩) ?_
        · walk_at "co sp"
          exact ⟨_, rfl, rfl, rfl, rfl⟩
        · exact w_eqC (t := textT m) (m := m) rfl rfl rfl (teq_ok (d + 4)) (by exact ⟨rfl, rfl⟩)
        refine w_compP1 qs (fun q => .str (textT q)) (fun q => .bl (decide (textT m = textT q))) ?_ (by omega) (fun q mq => ⟨_, rfl, ?_⟩) ?_
        · walk_at "co sp"
          exact ⟨_, rfl, rfl, rfl, rfl⟩
        · walk_at "co sp"
          exact ⟨rfl, rfl⟩
        refine w_cop bl_ne ?_
        refine w_if (fun z => nomatch z) (fun _ => ?_)
        refine w_done (w_go ?_)
        -- !=
        refine w_seq (w_ifs (w_cmp ?_))
        refine w_compP1 qs (fun q => tableV (textT q) q) (fun q => .bl (!decide (textT m = textT q))) ?_ (by omega) (fun q mq => ⟨_, rfl, ?_⟩) ?_
        · walk_at "co sp"
          exact ⟨_, rfl, rfl, rfl, rfl⟩
        · exact w_not (w_eqC (t := textT m) (m := m) rfl rfl rfl (teq_ok (d + 4)) (by exact ⟨_, rfl, rfl, rfl⟩))
        refine w_compP1 qs (fun q => .str (textT q)) (fun q => .bl (!decide (textT m = textT q))) ?_ (by omega) (fun q mq => ⟨_, rfl, ?_⟩) ?_
        · walk_at "co sp"
          exact ⟨_, rfl, rfl, rfl, rfl⟩
        · walk_at "co sp"
          exact ⟨rfl, rfl⟩
        refine w_cop bl_ne ?_
        refine w_if (fun z => nomatch z) (fun _ => ?_)
        refine w_done (w_go ?_)
        -- other values
        walk_at "co sp"
        refine w_for ?_
        walk_at "co sp"
        refine ⟨⟨rfl, by decide, List.nodup_nil⟩, ?_⟩
        walk_at "co sp"
        refine w_prop (w_var rfl ⟨0, _, 13, rfl, Nat.zero_lt_one, rfl, ?_⟩)
        refine Ends.eq (trows_ok (d + 5) (t := textT m) (m := m)) ?_
        walk_at "co sp"
        refine ⟨_, rfl, fun rs2 s h5 => ∃ (z12 : Option Val), s = [some (.ref n), some (.ref R), z2, some (.lst (qs.map fun m => .str (textT m))), some (.lst (qs.map fun m => tableV (textT m) m)), z5, z6, some (tableV (textT m) m), some (rowsV m), some (.str (textT m)), some (seenV (textT m) (reprS m.length) m.length m), some (.lst [.str (textT m), .int (m.length : Nat), tupV m, .str (textT m)]), z12, none, none, none, none] ∧ h5 = h4 ∧ ∀ v ∈ rs2, kindOk 1 h4 v = true ∧ isIns h4 (.cls 0) v = false, fun _ _ _ _ => rfl, ?_, ?_, ⟨_, rfl, rfl, ?_⟩⟩
        · rintro s h5 ⟨z12, rfl, e5, _⟩
          subst e5
          walk_at "co sp"
          exact l_next ⟨_, _, _, _, _, _, _, _, _, rfl, rfl, fun u mu => hv u (List.mem_cons_of_mem _ mu)⟩
        · rintro v rs2 s h5 ⟨z12, rfl, e5, ho⟩
          subst e5
          obtain ⟨k1, k2⟩ := ho v List.mem_cons_self
          have EQ := teq_odd (d + 4) (h := h5) (t := textT m) (m := m) k1 k2
          walk_at "co sp"
          refine w_orP false false ?_ (fun _ => ?_) ?_
          · exact w_eqC (t := textT m) (m := m) rfl rfl k1 EQ (by exact ⟨rfl, rfl⟩)
          · exact w_not (w_not (w_eqC (t := textT m) (m := m) rfl rfl k1 EQ (by exact ⟨_, rfl, _, rfl, rfl, rfl⟩)))
          refine w_if (fun z => nomatch z) (fun _ => ?_)
          refine w_done (w_go (w_done ?_))
          exact l_next ⟨_, rfl, rfl, fun u mu => ho u (List.mem_cons_of_mem _ mu)⟩
        · intro v mv
          simp only [List.mem_cons, List.not_mem_nil, or_false] at mv
          rcases mv with rfl | rfl | rfl | rfl | rfl | rfl | rfl | rfl <;> exact ⟨rfl, rfl⟩
      · intro v mv
        unfold colsL at mv
        obtain ⟨i, mi, rfl⟩ := List.mem_map.mp mv
        have il : i < 6 := by
          have := List.mem_range.mp mi
          simp [minLen] at this
          omega
        have iq : i < qs.length := by omega
        refine ⟨qs[i], List.getElem_mem iq, ?_⟩
        simp [iq]
  · rintro v rs s h2 ⟨ms, hh, a, b, c, rfl, rfl, D, G, lm⟩
    have eR : hh.length = R := by rw [← hR]; exact D.len
    have lrs : ms.length < 4 := by simp at lm; omega
    walk_at "co sp"
    refine draw (tail_purse (D.purse V)) (by decide) (by decide) fun x h3 x0 x1 D3 => ?_
    obtain ⟨hh3, rfl, D4⟩ := tail_spent (by rw [D.len]; exact hlt) D3
    have D4 := D.trans D4
    walk_at "co sp"
    refine w_opt (x := .int 1000000000) (by kernel_rfl) ?_
    walk_at "co sp"
    refine one_of (some_ := [.int 1, .int 3, .int 50, .int 1000000000]) (tail_purse (D4.purse V)) (by simp) (by simp) (by simp [below]) fun bv h4 hbv D5 => ?_
    obtain ⟨hh4, rfl, D6⟩ := tail_spent (by rw [D4.len]; exact hlt) D5
    have D6 := D4.trans D6
    obtain ⟨top, rfl, t0, t1⟩ : ∃ i : Int, bv = .int i ∧ 1 ≤ i ∧ i ≤ 1000000000 := by
      simp only [List.mem_cons, List.not_mem_nil, or_false] at hbv
      rcases hbv with rfl | rfl | rfl | rfl <;> exact ⟨_, rfl, by decide, by decide⟩
    have eR4 : hh4.length = R := by rw [← hR]; exact D6.len
    obtain ⟨k, ek, k1, k6⟩ : ∃ k : Nat, 1 + x = ((k : Nat) : Int) ∧ 1 ≤ k ∧ k ≤ 6 := ⟨(1 + x).toNat, by omega, by omega, by omega⟩
    walk_at "co sp"
    refine ⟨by rw [rd_r (own1 eR4)]; rfl, w_cons rfl ?_⟩
    rw [ek]
    refine w_compI2 ?_
    walk_at "co sp"
    refine ⟨_, rfl, by omega, by show (rangeL 0 ((k : Nat) : Int).toNat).length ≤ 16777216; rw [range_len]; omega, fun dn acc h5 => (∃ hh5, h5 = hh5 ++ [.lst (ms.map rowsV)] ∧ Spent n h hh5) ∧ ∃ m : Mat, acc = (m.map fun r => Val.lst (r.map .int)) ∧ m.length = dn.length ∧ ∀ r ∈ m, r.length = k ∧ ∀ x ∈ r, -1000000000 ≤ x ∧ x ≤ 1000000000, fun _ _ _ _ => rfl, ⟨⟨hh4, rfl, D6⟩, [], rfl, rfl, by simp⟩, ?_, ?_⟩
    · rintro v _ dn acc h5 ⟨⟨hh5, rfl, E1⟩, m, rfl, e2, e3⟩
      refine cStep_of rfl ?_
      walk_at "co sp"
      refine ⟨fun _ => ?_, fun z => nomatch z⟩
      refine w_compI2 ?_
      walk_at "co sp"
      refine ⟨_, rfl, by omega, by show (rangeL 0 ((k : Nat) : Int).toNat).length ≤ 16777216; rw [range_len]; omega, fun dn2 acc2 h6 => (∃ hh6, h6 = hh6 ++ [.lst (ms.map rowsV)] ∧ Spent n h hh6) ∧ ∃ r : List Int, acc2 = r.map .int ∧ r.length = dn2.length ∧ ∀ x ∈ r, -1000000000 ≤ x ∧ x ≤ 1000000000, fun _ _ _ _ => rfl, ⟨⟨hh5, rfl, E1⟩, [], rfl, rfl, by simp⟩, ?_, ?_⟩
      · rintro v2 _ dn2 acc2 h6 ⟨⟨hh6, rfl, E2⟩, r, rfl, f2, f3⟩
        refine cStep_of rfl ?_
        walk_at "co sp"
        refine ⟨fun _ => ?_, fun z => nomatch z⟩
        walk_at "co sp"
        refine draw (tail_purse (E2.purse V)) (by omega) (by omega) fun y h8 y0 y1 D8 => ?_
        obtain ⟨hh8, rfl, D9⟩ := tail_spent (by rw [E2.len]; exact hlt) D8
        walk_at "co sp"
        refine ⟨⟨hh8, rfl, E2.trans D9⟩, r ++ [y - top], by rw [List.map_append]; rfl, by simp [f2], fun z hz => ?_⟩
        rcases List.mem_append.mp hz with q1 | q1
        · exact f3 z q1
        · rw [List.mem_singleton.mp q1]
          omega
      · rintro r2 h6 ⟨⟨hh6, rfl, E2⟩, r, rfl, f2, f3⟩
        rw [range_len, Int.toNat_natCast] at f2
        refine ⟨⟨hh6, rfl, E2⟩, m ++ [r], by rw [List.map_append]; rfl, by simp [e2], fun z hz => ?_⟩
        rcases List.mem_append.mp hz with q1 | q1
        · exact e3 z q1
        · rw [List.mem_singleton.mp q1]
          exact ⟨f2, f3⟩
    · rintro r2 h5 ⟨⟨hh5, rfl, E1⟩, m, rfl, e2, e3⟩
      rw [range_len, Int.toNat_natCast] at e2
      have eR5 : hh5.length = R := by rw [← hR]; exact E1.len
      refine w_nil ?_
      refine Ends.eq (app_any (own1 eR5) (by rw [List.length_map]; omega) (by show (_ || _) = true; rw [show below R (.lst (m.map fun r => Val.lst (r.map .int))) = true from below_le (Nat.zero_le _) _ (rows_low 0 m), Bool.or_true])) ?_
      rw [own_set1 eR5]
      walk_at "co sp"
      refine l_next ⟨ms ++ [m], hh5, _, _, _, rfl, by rw [List.map_append]; rfl, E1, fun q mq => ?_, by simp at lm ⊢; omega⟩
      rcases List.mem_append.mp mq with q1 | q1
      · exact G q q1
      · rw [List.mem_singleton.mp q1]
        exact ⟨k, k1, k6, e2, e3⟩
end Lk02
end

section
set_option linter.all false
set_option maxRecDepth 100000
set_option autoImplicit false
namespace Lk02
open PySem L2 Co TL
theorem law_key (d : Nat) {ns : List Int} : Co.Ends (runF pg (d + 8) 9 [.ro (ns.map .int)] []) fun v _ => v = .bl true := by
  refine run_s (fn := f9) (s := [some (.ro (ns.map .int)), none]) rfl rfl rfl ?_
  unfold f9
  dsimp only
  refine w_seq (w_ret (w_callB (w_cons rfl ?_)))
  refine w_compI2 ?_
  walk_at "co sp"
  rw [List.length_map]
  refine w_opt rfl ?_
  walk_at "co sp"
  refine w_opt rfl ?_
  refine ⟨_, rfl, by split <;> (try split) <;> omega, ?_, fun dn acc h => acc = (List.replicate dn.length true).map .bl, fun _ _ _ _ => rfl, rfl, ?_, ?_⟩
  · show (rangeL 0 _).length ≤ lim
    rw [rangeL_map, List.length_map, List.length_range]
    unfold lim
    split <;> (try split) <;> omega
  · rintro v mv dn acc h rfl
    dsimp only at mv
    rw [rangeL_map] at mv
    obtain ⟨k, _, rfl⟩ := List.mem_map.mp mv
    refine cStep_of rfl (c_nil ⟨fun _ => ?_, nofun⟩)
    walk_at "co sp"
    refine purse_ok (d + 6) fun a b => ?_
    walk_at "co sp"
    dsimp only [gOf]
    refine (right_ok d ⟨a, b, own1 rfl⟩).mono ?_
    rintro v h3 ⟨rfl, D⟩
    simp [List.replicate_succ']
  · rintro r h2 rfl
    walk_at "co sp"
    refine w_opt (x := .bl true) (by rw [all_bl]; simp) ?_
    walk_at "co sp"
    rfl
theorem law_ok (_d : Nat) {ns : List Int} (_hl : ns.length ≤ 63) : ∃ h, runF pg 40 9 [.ro (ns.map .int)] [] = .ok (.bl true) h := by
  obtain ⟨v, h, e, rfl⟩ := law_key 32 (ns := ns)
  exact ⟨h, e⟩
end Lk02
end

section
set_option linter.all false
set_option maxRecDepth 100000
namespace Lk02
open PySem L2 Co
theorem run (ns : List Int) (hl : ns.length ≤ 63) (hb : ∀ z ∈ ns, Builtin.Int.intBits z ≤ 1048576) : ∃ h, runF (progC os cls) 40 9 [.ro (ns.map .int)] [] = .ok (.bl true) h := by
  rw [pg_eq]
  exact law_ok 31 hl
theorem walk {l : PySem.W.OpenLaw} {q : Program} {loose : List Str} {XP : (Str → Option Value) → Heap → Prop} {YP : World → Heap → Prop} {d : DefRec} {K : Params → PySem.W.Frag} (hn : l.most = some 63) (hdf : d.params.defaults = []) (hY : ∀ (w : World) (h : Heap), YP w h → (K w.params).In h) (hnm : d.name = Str.ofString "law")
    (F : ∀ w : World, (∃ C : Nat → Addr, AllNm (K w.params) C [cl0].length tab.cls ∧ AllCls (K w.params) C [cl0].length tab.flds 0 [cl0] ∧ AllDefsC (K w.params) C os rs) ∧ AllNone (K w.params) tab.blt ∧ AllCst (K w.params) tab.cst) :
    PySem.W.WalkO q loose XP YP l.row.toRowW d []
                            (fun f vs => PySem.call f vs) :=
  walkC (n := 63) (d := 40) (f := 9) (x := Str.ofString "_law_script") (Pg := progC os cls) hn (by decide) hdf ⟨rfl, by decide, by decide⟩ hY
    (fun w mg fa h KX G hmg => law_tabC (lo := o9) (t := tab) (os := os) (rs := rs) (cls := cls) KX G (by rw [hnm] at hmg; exact hmg) rfl rfl rfl rfl rfl oks kwoks (placed_one (by decide +kernel)) rfl (F w).1 (F w).2.1 (F w).2.2 40) run
end Lk02
end

open PySem PySem.W PyProof.Rows Co in
set_option
                        maxRecDepth 100000 in
set_option maxHeartbeats 0 in
theorem PySem.Challenge.cw_countertables_k02_tables_made_holds : PySem.Challenge.rw_countertables_k02_tables_made.Holds := by
  w_on; o_law; k_head;
                          (case hw => w_witness2)
  k_fill
  refine Lk02.walk (l := PySem.Challenge.rw_countertables_k02_tables_made) rfl rfl (fun w h Y => PySem.W.kIn_of Y) rfl ?F
  case F =>
    intro w
    refine ⟨?zD, ?zN, ?zC⟩
    case zD =>
      refine' cls_one (cl := Lk02.cl0) ?z_zA ?z_t1 ?z_t2 ?z_t3 ?z_t4 ?z_t5 ?z_t6 ?z_t7 ?z_ow ?z_pg ?z_hd ?z_po ?z_sa ?z_ha ?z_hn ?z_hk ?z_hm ?z_b1 ?z_b2 ?z_b3 ?z_b4 ?z_b5 ?z_b6 ?z_b7 ?zM ?zO
      (case z_zA => k_is)
      (case z_t1 => kit_is)
      (case z_t2 => kit_is)
      (case z_t3 => kit_is)
      (case z_t4 => kit_is)
      (case z_t5 => kit_is)
      (case z_t6 => kit_is)
      (case z_t7 => kit_is)
      (case z_ow => kit_is)
      (case z_pg => k_is)
      (case z_hd => k_is)
      (case z_po => k_is)
      (case z_sa => k_is)
      (case z_ha => k_is)
      (case z_hn => k_is)
      (case z_hk => k_is)
      (case z_hm => k_is)
      (case z_b1 => kit_is)
      (case z_b2 => kit_is)
      (case z_b3 => kit_is)
      (case z_b4 => kit_is)
      (case z_b5 => kit_is)
      (case z_b6 => kit_is)
      (case z_b7 => kit_is)
      case zM =>
        refine' ⟨no_attr ?n0, no_attr ?n1, no_attr ?n2, no_prop rfl, no_prop rfl, no_prop rfl, no_attr ?n6, trivial⟩
        (case n0 => k_is)
        (case n1 => k_is)
        (case n2 => k_is)
        (case n6 => k_is)
      case zO =>
        refine' ⟨⟨rfl, def_glob ?za0 ?zl0 ?zc0 ?zk0⟩, ?_⟩
        (case za0 => k_is)
        (case zl0 => k_is)
        (case zc0 => k_is)
        (case zk0 => k_is)
        refine' ⟨⟨rfl, def_glob ?za1 ?zl1 ?zc1 ?zk1⟩, ?_⟩
        (case za1 => k_is)
        (case zl1 => k_is)
        (case zc1 => k_is)
        (case zk1 => k_is)
        refine' ⟨⟨rfl, def_glob ?za2 ?zl2 ?zc2 ?zk2⟩, ?_⟩
        (case za2 => k_is)
        (case zl2 => k_is)
        (case zc2 => k_is)
        (case zk2 => k_is)
        refine' ⟨⟨rfl, def_glob ?za3 ?zl3 ?zc3 ?zk3⟩, ?_⟩
        (case za3 => k_is)
        (case zl3 => k_is)
        (case zc3 => k_is)
        (case zk3 => k_is)
        refine' ⟨⟨rfl, def_glob ?za4 ?zl4 ?zc4 ?zk4⟩, ?_⟩
        (case za4 => k_is)
        (case zl4 => k_is)
        (case zc4 => k_is)
        (case zk4 => k_is)
        refine' ⟨⟨rfl, def_glob ?za5 ?zl5 ?zc5 ?zk5⟩, ?_⟩
        (case za5 => k_is)
        (case zl5 => k_is)
        (case zc5 => k_is)
        (case zk5 => k_is)
        refine' ⟨⟨rfl, def_glob ?za6 ?zl6 ?zc6 ?zk6⟩, ?_⟩
        (case za6 => k_is)
        (case zl6 => k_is)
        (case zc6 => k_is)
        (case zk6 => k_is)
        refine' ⟨⟨rfl, def_glob ?za7 ?zl7 ?zc7 ?zk7⟩, ?_⟩
        (case za7 => k_is)
        (case zl7 => k_is)
        (case zc7 => k_is)
        (case zk7 => k_is)
        refine' ⟨⟨rfl, def_glob ?za8 ?zl8 ?zc8 ?zk8⟩, ?_⟩
        (case za8 => k_is)
        (case zl8 => k_is)
        (case zc8 => k_is)
        (case zk8 => k_is)
        refine' ⟨⟨rfl, def_glob ?za9 ?zl9 ?zc9 ?zk9⟩, ?_⟩
        (case za9 => k_is)
        (case zl9 => k_is)
        (case zc9 => k_is)
        (case zk9 => k_is)
        refine' ⟨⟨rfl, def_init ?za10 ?zl10 ?zc10 ?zk10 ?zi10 ?zm10 ?zv10⟩, ?_⟩
        (case za10 => k_is)
        (case zl10 => k_is)
        (case zc10 => k_is)
        (case zk10 => k_is)
        (case zi10 => k_is)
        (case zm10 => k_is)
        (case zv10 => k_is)
        refine' ⟨⟨rfl, def_prop ?za11 ?zr11 ?zl11 ?zc11 ?zk11 ?zg11 ?zt11⟩, ?_⟩
        (case za11 => k_is)
        (case zr11 => k_is)
        (case zl11 => k_is)
        (case zc11 => k_is)
        (case zk11 => k_is)
        (case zg11 => k_is)
        (case zt11 => k_is)
        refine' ⟨⟨rfl, def_prop ?za12 ?zr12 ?zl12 ?zc12 ?zk12 ?zg12 ?zt12⟩, ?_⟩
        (case za12 => k_is)
        (case zr12 => k_is)
        (case zl12 => k_is)
        (case zc12 => k_is)
        (case zk12 => k_is)
        (case zg12 => k_is)
        (case zt12 => k_is)
        refine' ⟨⟨rfl, def_prop ?za13 ?zr13 ?zl13 ?zc13 ?zk13 ?zg13 ?zt13⟩, ?_⟩
        (case za13 => k_is)
        (case zr13 => k_is)
        (case zl13 => k_is)
        (case zc13 => k_is)
        (case zk13 => k_is)
        (case zg13 => k_is)
        (case zt13 => k_is)
        refine' ⟨⟨rfl, def_meth (n := 0) (f := Str.ofString "__str__") ?za14 ?zl14 ?zc14 ?zk14 ?zi14 ?zd14⟩, ?_⟩
        (case za14 => k_is)
        (case zl14 => k_is)
        (case zc14 => k_is)
        (case zk14 => k_is)
        (case zi14 => k_is)
        (case zd14 => decide +kernel)
        refine' ⟨⟨rfl, def_meth (n := 0) (f := Str.ofString "__repr__") ?za15 ?zl15 ?zc15 ?zk15 ?zi15 ?zd15⟩, ?_⟩
        (case za15 => k_is)
        (case zl15 => k_is)
        (case zc15 => k_is)
        (case zk15 => k_is)
        (case zi15 => k_is)
        (case zd15 => decide +kernel)
        refine' ⟨⟨rfl, def_eq (n := 0) (f := Str.ofString "__eq__") ?za16 ?zl16 ?zc16 ?zk16 ?zi16 ?zn16⟩, ?_⟩
        (case za16 => k_is)
        (case zl16 => k_is)
        (case zc16 => k_is)
        (case zk16 => k_is)
        (case zi16 => k_is)
        (case zn16 => k_is)
        exact trivial
    case zN =>
      refine ⟨?_, ?_, ?_, ?_, ?_, ?_, ?_, ?_, ?_, ?_, ?_, ?_, ?_, ?_, ?_, ?_, trivial⟩
      all_goals k_is
    case zC =>
      refine' ⟨cst_str ?zx0, cst_int ?zx1, cst_int ?zx2, cst_str ?zx3, trivial⟩
      (case zx0 => k_is)
      (case zx1 => k_is)
      (case zx2 => k_is)
      (case zx3 => k_is)

import PyProof.Rows.All
import Wide.All
import OpenK.AllK
import Wide.FinOn
import KE.KStateDown
import Lean
import HandS.Deep
import HandS.Defaults
import HandS.ForMost
import HandS.Head0
import HandS.Head1
import HandS.Head2
import HandS.HeadEnd
import HandS.HeadHook1
import HandS.HeadHook2
import HandS.IsInst
import HandS.RaiseMore
import HandS.SetFor
import HandS.Style
import HandS.TupAny
import HandS.TupMul
import HandS.Wide
import HandS.WideBits
import HandS.Zip
import PyProof.CallFns
import PyProof.EqLayable
import PyProof.ReprReads
import PyProof.Rows.StrBin
import PySem.Builtin.IntDigits
import PySem.Challenge.RW_bentpieces_k46_any_value_as_knot_row
set_option Elab.async false
set_option linter.all false
set_option maxRecDepth 100000
set_option maxHeartbeats 0
set_option exponentiation.threshold 300
/-! The pure layer: Python values as trees (PyData), what an operator, a built-in, a statement computes over slots. No program, no heap. -/
namespace BP
abbrev D := PySem.PyData
/-- a result: a value; an own error with its value; nothing known -/
inductive R (α : Type) where
  | ok (a : α)
  | er (c : PySem.Str) (d : D)
  | st
namespace R
def bind {α β : Type} : R α → (α → R β) → R β
  | .ok a, f => f a
  | .er c d, _ => .er c d
  | .st, _ => .st
@[simp] theorem ok_bind {α β : Type} {a : α} {f : α → R β} : (R.ok a).bind f = f a := rfl
@[simp] theorem st_bind {α β : Type} {f : α → R β} : (R.st : R α).bind f = .st := rfl
@[simp] theorem er_bind {α β : Type} {f : α → R β} {c : PySem.Str} {d : D} : (R.er c d : R α).bind f = .er c d := rfl
/-- what is behind, kept from view until its time has come -/
class Cont (α β : Type) where
  run : α → R β
def bindI {α β : Type} (x : R α) [c : Cont α β] : R β := x.bind c.run
@[simp ↓] theorem bind_I {α β : Type} {x : R α} {f : α → R β} : x.bind f = @bindI α β x ⟨f⟩ := rfl
@[simp] theorem bindI_ok {α β : Type} {a : α} {f : α → R β} : @bindI α β (.ok a) ⟨f⟩ = f a := rfl
@[simp] theorem bindI_st {α β : Type} {f : α → R β} : @bindI α β .st ⟨f⟩ = .st := rfl
@[simp] theorem bindI_er {α β : Type} {f : α → R β} {c : PySem.Str} {d : D} : @bindI α β (.er c d) ⟨f⟩ = .er c d := rfl
def sat {α : Type} (r : R α) (P : α → Prop) : Prop := ∃ a, r = .ok a ∧ P a
theorem bind_ok {α β : Type} {r : R α} {f : α → R β} {b : β} (h : r.bind f = .ok b) : ∃ a, r = .ok a ∧ f a = .ok b := by
  cases r with
  | ok a => exact ⟨a, rfl, h⟩
  | er c d => cases h
  | st => cases h
theorem sat_bind {α β : Type} {r : R α} {f : α → R β} {P : β → Prop} (h : r.sat fun a => (f a).sat P) : (r.bind f).sat P := by
  obtain ⟨a, rfl, h⟩ := h
  exact h
theorem sat_ok {α : Type} {a : α} {P : α → Prop} (h : P a) : (R.ok a).sat P := ⟨a, rfl, h⟩
theorem sat_of {α : Type} {r : R α} {a : α} {P : α → Prop} (e : r = .ok a) (h : P a) : r.sat P := ⟨a, e, h⟩
theorem sat.imp {α : Type} {r : R α} {P Q : α → Prop} (h : r.sat P) (k : ∀ a, P a → Q a) : r.sat Q := by
  obtain ⟨a, e, p⟩ := h
  exact ⟨a, e, k a p⟩
end R
/-- what a slot holds: nothing; the pot; a value; an own list that may be changed; (of an expression) an own list that is looked at; the script -/
inductive EV where
  | no
  | pt
  | im (d : D)
  | ow (ds : List D)
  | bo (ds : List D)
  | fz (ns : List Int)
abbrev Env := List EV
/-- what stands in the pot -/
abbrev Pt := List Int
abbrev ME := Env → Pt → R (EV × Pt)
/-- the value, looked at for a moment -/
def EV.view : EV → R D
  | .im d => .ok d
  | .ow ds => .ok (.list ds)
  | .bo ds => .ok (.list ds)
  | _ => .st
/-- the value, to be kept -/
def EV.val : EV → R D
  | .im d => .ok d
  | .ow ds => .ok (.list ds)
  | _ => .st
@[simp] def EV.frz : EV → EV
  | .ow ds => .im (.list ds)
  | e => e
@[simp] def getE : Env → Nat → EV
  | [], _ => .no
  | e :: _, 0 => e
  | _ :: r, n + 1 => getE r n
@[simp] def setE : Env → Nat → EV → Env
  | [], _, _ => []
  | _ :: r, 0, x => x :: r
  | e :: r, n + 1, x => e :: setE r n x
def isPt : EV → Bool
  | .pt => true
  | _ => false
/-- a slot that a comprehension's own name may take -/
def isLk : EV → Bool
  | .pt => true
  | .ow _ => true
  | _ => false
/-- a slot is stored; the pot's never -/
@[simp] def putE (env : Env) (i : Nat) (x : EV) : R Env := if isPt (getE env i) then .st else .ok (setE env i x)
/-! ### values -/
@[simp] def LIM : Nat := 1000000
def mulOk (a b : Int) : Bool := decide (a.natAbs.log2 + b.natAbs.log2 < 100000000)
def ixD (n : Nat) (i : Int) : Option Nat := if 0 ≤ i then (if i < n then some i.toNat else none) else if -(n : Int) ≤ i then some (i + n).toNat else none
def atD {α : Type} (xs : List α) (i : Int) : Option α := (ixD xs.length i).bind fun j => xs[j]?
def sIxD (n d : Nat) : Option Int → Nat
  | none => d
  | some v => if v < 0 then (v + (n : Int)).toNat else min v.toNat n
def cutD {α : Type} (xs : List α) (lo hi : Option Int) : List α := (xs.drop (sIxD xs.length 0 lo)).take (sIxD xs.length xs.length hi - sIxD xs.length 0 lo)
abbrev O2 := D → D → R EV
def oAdd : O2
  | .int a, .int b => .ok (.im (.int (a + b)))
  | .list a, .list b => if a.length + b.length ≤ LIM then .ok (.ow (a ++ b)) else .st
  | .tuple a, .tuple b => if a.length + b.length ≤ LIM then .ok (.im (.tuple (a ++ b))) else .st
  | .str a, .str b => if a.length + b.length ≤ LIM then .ok (.im (.str (a ++ b))) else .st
  | _, _ => .st
def oSub : O2
  | .int a, .int b => .ok (.im (.int (a - b)))
  | _, _ => .st
def oMul : O2
  | .int a, .int b => if mulOk a b then .ok (.im (.int (a * b))) else .st
  | .list a, .int k => if a.length * k.toNat ≤ LIM ∧ k ≤ LIM ∧ -(LIM : Int) ≤ k then .ok (.ow (List.replicate k.toNat a).flatten) else .st
  | .tuple a, .int k => if a ≠ [] ∧ 2 ≤ k ∧ k ≤ 1000 ∧ a.length ≤ 1000 then .ok (.im (.tuple (List.replicate k.toNat a).flatten)) else .st
  | _, _ => .st
def oDiv : O2
  | .int a, .int b => if b = 0 ∨ PySem.Builtin.divisionGoesByPylong a b = true then .st else .ok (.im (.int (a.fdiv b)))
  | _, _ => .st
def oMod : O2
  | .int a, .int b => if b = 0 then .st else .ok (.im (.int (a.fmod b)))
  | _, _ => .st
def oPow : O2
  | .int a, .int b => if 0 ≤ b ∧ b ≤ 1000000 ∧ a.natAbs < 2 ^ 64 then .ok (.im (.int (a ^ b.toNat))) else .st
  | _, _ => .st
@[simp] def bl (b : Bool) : R EV := .ok (.im (.bool b))
def oLt : O2
  | .int a, .int b => bl (decide (a < b))
  | _, _ => .st
def oLe : O2
  | .int a, .int b => bl (decide (a ≤ b))
  | _, _ => .st
def oGt : O2
  | .int a, .int b => bl (decide (b < a))
  | _, _ => .st
def oGe : O2
  | .int a, .int b => bl (decide (b ≤ a))
  | _, _ => .st
/-- strings of any signs -/
def oEqS : O2
  | .str x, .str y => bl (x == y)
  | _, _ => .st
def oNeS : O2
  | .str x, .str y => bl (!(x == y))
  | _, _ => .st
@[simp] def oEq : O2 := fun a b => if PySem.SeqAt.shaped a && PySem.SeqAt.shaped b then bl (PySem.PyData.eqv a b) else oEqS a b
@[simp] def oNe : O2 := fun a b => if PySem.SeqAt.shaped a && PySem.SeqAt.shaped b then bl (!PySem.PyData.eqv a b) else oNeS a b
/-- is: None on the right, or two bools -/
def oIs : O2
  | .none, .none => bl true
  | .bool a, .bool b => bl (a == b)
  | _, .none => bl false
  | _, _ => .st
def oIsN : O2
  | .none, .none => bl false
  | .bool a, .bool b => bl (!(a == b))
  | _, .none => bl true
  | _, _ => .st
def oIn : O2
  | d, .list ds => if PySem.SeqAt.shaped d && PySem.SeqAt.shaped (.list ds) then bl (ds.any fun z => PySem.PyData.eqv z d) else .st
  | d, .tuple ds => if PySem.SeqAt.shaped d && PySem.SeqAt.shaped (.tuple ds) then bl (ds.any fun z => PySem.PyData.eqv z d) else .st
  | _, _ => .st
def oNotIn : O2
  | d, .list ds => if PySem.SeqAt.shaped d && PySem.SeqAt.shaped (.list ds) then bl (!ds.any fun z => PySem.PyData.eqv z d) else .st
  | d, .tuple ds => if PySem.SeqAt.shaped d && PySem.SeqAt.shaped (.tuple ds) then bl (!ds.any fun z => PySem.PyData.eqv z d) else .st
  | _, _ => .st
def oIx : O2
  | .list xs, .int i => match atD xs i with
    | some d => .ok (.im d)
    | none => .st
  | .tuple xs, .int i => match atD xs i with
    | some d => .ok (.im d)
    | none => .st
  | _, _ => .st
abbrev O1 := D → R EV
def oNeg : O1
  | .int a => .ok (.im (.int (-a)))
  | _ => .st
def oNot : O1
  | .bool b => bl (!b)
  | _ => .st
/-! ### built-ins: of a list of arguments -/
abbrev OB := List D → R EV
def bLen : OB
  | [.list xs] => .ok (.im (.int xs.length))
  | [.tuple xs] => .ok (.im (.int xs.length))
  | [.dict xs] => .ok (.im (.int xs.length))
  | [.str x] => if x.length ≤ LIM then .ok (.im (.int x.length)) else .st
  | _ => .st
def bAbs : OB
  | [.int a] => .ok (.im (.int (if a < 0 then -a else a)))
  | _ => .st
def bInt : OB
  | [.int a] => .ok (.im (.int a))
  | [.bool b] => .ok (.im (.int (if b then 1 else 0)))
  | _ => .st
def intsOf : List D → Option (List Int)
  | [] => some []
  | .int i :: r => (intsOf r).map (i :: ·)
  | _ => none
def boolsOf : List D → Option (List Bool)
  | [] => some []
  | .bool i :: r => (boolsOf r).map (i :: ·)
  | _ => none
def bMax : OB
  | [.int a, .int b] => .ok (.im (.int (if b > a then b else a)))
  | [.list xs] => match intsOf xs with
    | some (x :: r) => .ok (.im (.int (r.foldl max x)))
    | _ => .st
  | _ => .st
def bMin : OB
  | [.int a, .int b] => .ok (.im (.int (if b < a then b else a)))
  | [.list xs] => match intsOf xs with
    | some (x :: r) => .ok (.im (.int (r.foldl min x)))
    | _ => .st
  | _ => .st
def bSum : OB
  | [.list xs] => match intsOf xs with
    | some ns => .ok (.im (.int ns.sum))
    | _ => .st
  | _ => .st
def bAll : OB
  | [.list xs] => match boolsOf xs with
    | some bs => bl (bs.all id)
    | _ => .st
  | _ => .st
def bAny : OB
  | [.list xs] => match boolsOf xs with
    | some bs => bl (bs.any id)
    | _ => .st
  | _ => .st
def bList : OB
  | [.list xs] => .ok (.ow xs)
  | [.tuple xs] => .ok (.ow xs)
  | _ => .st
/-- xs[::-1] of a list -/
def revLO : O1
  | .list xs => .ok (.ow xs.reverse)
  | _ => .st
def bTuple : OB
  | [.list xs] => .ok (.im (.tuple xs))
  | [.tuple xs] => .ok (.im (.tuple xs))
  | _ => .st
mutual
/-- every dict in it is empty -/
def noKeys : D → Bool
  | .list xs => noKeysAll xs
  | .tuple xs => noKeysAll xs
  | .dict [] => true
  | .dict (_ :: _) => false
  | _ => true
def noKeysAll : List D → Bool
  | [] => true
  | x :: xs => noKeys x && noKeysAll xs
end
def reprOk (d : D) : Bool := d.showable && (decide (d.shown.length ≤ LIM) && (decide (d.depth ≤ 64) && noKeys d))
@[simp] def bRepr : OB
  | [d] => if reprOk d then .ok (.im (.str d.shown)) else .st
  | _ => .st
inductive Ty where
  | int | bool | str | list | tuple | dict | listtuple
@[simp] def isI : Ty → D → Bool
  | .int, .int _ => true
  | .int, .bool _ => true
  | .bool, .bool _ => true
  | .str, .str _ => true
  | .list, .list _ => true
  | .tuple, .tuple _ => true
  | .dict, .dict _ => true
  | .listtuple, .list _ => true
  | .listtuple, .tuple _ => true
  | _, _ => false
@[simp] def oIsI (t : Ty) : O1 := fun d => bl (isI t d)
/-! ### expressions -/
@[simp] def mVar (i : Nat) : ME := fun env st => match getE env i with
  | .im d => .ok (.im d, st)
  | .ow ds => .ok (.bo ds, st)
  | _ => .st
@[simp] def mC (d : D) : ME := fun _ st => .ok (.im d, st)
@[simp] def mBin (f : O2) (a b : ME) : ME := fun env st => (a env st).bind fun x => x.1.view.bind fun u => (b env x.2).bind fun y => y.1.view.bind fun v => (f u v).bind fun z => .ok (z, y.2)
@[simp] def mUn (f : O1) (a : ME) : ME := fun env st => (a env st).bind fun x => x.1.view.bind fun u => (f u).bind fun z => .ok (z, x.2)
/-- a < b < c -/
@[simp] def mChain (f g : O2) (a b c : ME) : ME := fun env st => (a env st).bind fun x => x.1.view.bind fun u => (b env x.2).bind fun y => y.1.view.bind fun v => (f u v).bind fun z =>
  match z with
  | .im (.bool true) => (c env y.2).bind fun w => w.1.view.bind fun t => (g v t).bind fun q => .ok (q, w.2)
  | .im (.bool false) => .ok (.im (.bool false), y.2)
  | _ => .st
@[simp] def mAnd (a b : ME) : ME := fun env st => (a env st).bind fun x => match x.1 with
  | .im (.bool true) => b env x.2
  | .im (.bool false) => .ok (.im (.bool false), x.2)
  | _ => .st
@[simp] def mOr (a b : ME) : ME := fun env st => (a env st).bind fun x => match x.1 with
  | .im (.bool false) => b env x.2
  | .im (.bool true) => .ok (.im (.bool true), x.2)
  | _ => .st
@[simp] def mIf (c a b : ME) : ME := fun env st => (c env st).bind fun x => match x.1 with
  | .im (.bool true) => a env x.2
  | .im (.bool false) => b env x.2
  | _ => .st
/-- arguments, kept -/
abbrev MA := Env → Pt → R (List D × Pt)
@[simp] def aNil : MA := fun _ st => .ok ([], st)
@[simp] def aCons (a : ME) (r : MA) : MA := fun env st => (a env st).bind fun x => x.1.val.bind fun u => (r env x.2).bind fun y => .ok (u :: y.1, y.2)
/-- arguments, looked at -/
@[simp] def vNil : MA := fun _ st => .ok ([], st)
@[simp] def vCons (a : ME) (r : MA) : MA := fun env st => (a env st).bind fun x => x.1.view.bind fun u => (r env x.2).bind fun y => .ok (u :: y.1, y.2)
@[simp] def mTup (as : MA) : ME := fun env st => (as env st).bind fun x => if x.1.length ≤ LIM then .ok (.im (.tuple x.1), x.2) else .st
@[simp] def mLst (as : MA) : ME := fun env st => (as env st).bind fun x => if x.1.length ≤ LIM then .ok (.ow x.1, x.2) else .st
/-- a built-in -/
@[simp] def mB (f : OB) (as : MA) : ME := fun env st => (as env st).bind fun x => (f x.1).bind fun z => .ok (z, x.2)
/-- a def of the text -/
abbrev PF := List D → R D
@[simp] def mCall (f : PF) (as : MA) : ME := fun env st => (as env st).bind fun x => (f x.1).bind fun z => .ok (.im z, x.2)
/-- a def that draws from the pot (its first argument, in slot i) -/
abbrev PD := List D → Pt → R (D × Pt)
@[simp] def mDraw (f : PD) (as : MA) : ME := fun env st => if isPt (getE env 0) then (as env st).bind fun x => (f x.1 x.2).bind fun z => .ok (.im z.1, z.2) else .st
abbrev MO := Env → Pt → R (Option Int × Pt)
@[simp] def oNone : MO := fun _ st => .ok (none, st)
@[simp] def oSome (a : ME) : MO := fun env st => (a env st).bind fun x => match x.1 with
  | .im (.int i) => .ok (some i, x.2)
  | _ => .st
def cutO (d : D) (lo hi : Option Int) : R EV := match d with
  | .list xs => .ok (.ow (cutD xs lo hi))
  | .tuple xs => .ok (.im (.tuple (cutD xs lo hi)))
  | _ => .st
@[simp] def mCut (a : ME) (lo hi : MO) : ME := fun env st => (a env st).bind fun x => x.1.view.bind fun u => (lo env x.2).bind fun y => (hi env y.2).bind fun z => (cutO u y.1 z.1).bind fun q => .ok (q, z.2)
def revO : D → R EV
  | .list xs => .ok (.ow xs.reverse)
  | .tuple xs => .ok (.im (.tuple xs.reverse))
  | _ => .st
/-! ### targets -/
inductive Pat where
  | nm (i : Nat)
  | tp (ps : List Pat)
mutual
@[simp] def Pat.set : Pat → D → Env → R Env
  | .nm i, d, env => putE env i (.im d)
  | .tp ps, .tuple ds, env => patSets ps ds env
  | .tp _, _, _ => .st
@[simp] def patSets : List Pat → List D → Env → R Env
  | [], [], env => .ok env
  | p :: ps, d :: ds, env => (p.set d env).bind fun env1 => patSets ps ds env1
  | _, _, _ => .st
end
/-! ### what a for, a comprehension walks -/
abbrev MI := Env → Pt → R (List D × Pt)
def itemsO : D → R (List D)
  | .list xs => .ok xs
  | .tuple xs => .ok xs
  | _ => .st
@[simp] def iSeq (a : ME) : MI := fun env st => (a env st).bind fun x => x.1.val.bind fun u => (itemsO u).bind fun z => .ok (z, x.2)
def rangeL (lo hi : Int) : List D := (List.range (hi - lo).toNat).map fun k => .int (lo + (k : Nat))
@[simp] def iRange1 (a : ME) : MI := fun env st => (a env st).bind fun x => match x.1 with
  | .im (.int n) => if n ≤ 1000000 ∧ -1000000 ≤ n then .ok (rangeL 0 n, x.2) else .st
  | _ => .st
@[simp] def iRange2 (a b : ME) : MI := fun env st => (a env st).bind fun x => (b env x.2).bind fun y => match x.1, y.1 with
  | .im (.int m), .im (.int n) => if (m ≤ 1000000 ∧ -1000000 ≤ m) ∧ (n ≤ 1000000 ∧ -1000000 ≤ n) then .ok (rangeL m n, y.2) else .st
  | _, _ => .st
def enumL (xs : List D) : List D := xs.mapIdx fun i d => .tuple [.int i, d]
/-- enumerate of a list -/
@[simp] def iEnumL (a : ME) : MI := fun env st => (a env st).bind fun x => x.1.val.bind fun u => match u with
  | .list xs => .ok (enumL xs, x.2)
  | _ => .st
@[simp] def zipL : List D → List D → List D
  | x :: xs, y :: ys => .tuple [x, y] :: zipL xs ys
  | _, _ => []
/-- zip of two lists, of two tuples -/
@[simp] def iZipS (a b : ME) : MI := fun env st => (a env st).bind fun x => x.1.val.bind fun u => (b env x.2).bind fun y => y.1.val.bind fun v => match u, v with
  | .list xs, .list ys => .ok (zipL xs ys, y.2)
  | .tuple xs, .tuple ys => .ok (zipL xs ys, y.2)
  | _, _ => .st
/-- the slots of a comprehension's own names forgotten -/
@[simp] def wipeE (env : Env) : List Nat → Env
  | [] => env
  | v :: vs => setE (wipeE env vs) v .no
def lcL (p : Pat) (c e : ME) (env : Env) : List D → Pt → R (List D × Pt)
  | [], st => .ok ([], st)
  | d :: r, st => (p.set d env).bind fun env1 => (c env1 st).bind fun b => match b.1 with
    | .im (.bool true) => (e env1 b.2).bind fun x => x.1.val.bind fun u => (lcL p c e env r x.2).bind fun y => .ok (u :: y.1, y.2)
    | .im (.bool false) => lcL p c e env r b.2
    | _ => .st
def mLc (it : MI) (p : Pat) (vs : List Nat) (c e : ME) : ME := fun env st => (it env st).bind fun x => if x.1.length ≤ LIM ∧ (vs.any fun v => isLk (getE env v)) = false then (lcL p c e (wipeE env vs) x.1 x.2).bind fun y => .ok (.ow y.1, y.2) else .st
/-! ### statements -/
inductive Out where
  | nx (env : Env) (st : Pt)
  | rt (d : D) (st : Pt)
abbrev MS := Env → Pt → R Out
@[simp] def sNil : MS := fun env st => .ok (.nx env st)
@[simp] def sSeq (a b : MS) : MS := fun env st => (a env st).bind fun o => match o with
  | .nx env1 st1 => b env1 st1
  | .rt d st1 => .ok (.rt d st1)
@[simp] def sExpr (a : ME) : MS := fun env st => (a env st).bind fun x => .ok (.nx env x.2)
@[simp] def sSet (i : Nat) (a : ME) : MS := fun env st => (a env st).bind fun x => x.1.val.bind fun u => (putE env i (.im u)).bind fun env1 => .ok (.nx env1 x.2)
/-- the new value is a new list that is to be changed later -/
@[simp] def sOwn (i : Nat) (a : ME) : MS := fun env st => (a env st).bind fun x => match x.1 with
  | .ow ds => (putE env i (.ow ds)).bind fun env1 => .ok (.nx env1 x.2)
  | _ => .st
@[simp] def sPat (p : Pat) (a : ME) : MS := fun env st => (a env st).bind fun x => x.1.val.bind fun u => (p.set u env).bind fun env1 => .ok (.nx env1 x.2)
/-- a, b = .., .. ; which of them are to be changed later -/
@[simp] def keepE (own : Bool) (x : EV) : R EV := if own then (match x with
  | .ow ds => .ok (.ow ds)
  | _ => .st) else x.val.bind fun u => .ok (.im u)
@[simp] def sPar2 (i j : Nat) (oi oj : Bool) (a b : ME) : MS := fun env st => (a env st).bind fun x => (keepE oi x.1).bind fun u => (b env x.2).bind fun y => (keepE oj y.1).bind fun v => (putE env i u).bind fun env1 => (putE env1 j v).bind fun env2 => .ok (.nx env2 y.2)
@[simp] def sPar3 (i j k : Nat) (oi oj ok : Bool) (a b c : ME) : MS := fun env st => (a env st).bind fun x => (keepE oi x.1).bind fun u => (b env x.2).bind fun y => (keepE oj y.1).bind fun v =>
  (c env y.2).bind fun z => (keepE ok z.1).bind fun w => (putE env i u).bind fun env1 => (putE env1 j v).bind fun env2 => (putE env2 k w).bind fun env3 => .ok (.nx env3 z.2)
/-- x[e] = v, x an own list -/
@[simp] def sSetI (i : Nat) (e v : ME) : MS := fun env st => (v env st).bind fun y => y.1.val.bind fun u => (e env y.2).bind fun x => match getE env i, x.1 with
  | .ow ds, .im (.int k) => (match ixD ds.length k with
    | some j => .ok (.nx (setE env i (.ow (ds.set j u))) x.2)
    | none => .st)
  | _, _ => .st
@[simp] def sAppend (i : Nat) (v : ME) : MS := fun env st => (v env st).bind fun y => y.1.val.bind fun u => match getE env i with
  | .ow ds => if ds.length < LIM then .ok (.nx (setE env i (.ow (ds ++ [u]))) y.2) else .st
  | _ => .st
@[simp] def sExtend (i : Nat) (v : ME) : MS := fun env st => (v env st).bind fun y => y.1.val.bind fun u => match getE env i, u with
  | .ow ds, .list es => if ds.length + es.length ≤ LIM then .ok (.nx (setE env i (.ow (ds ++ es))) y.2) else .st
  | _, _ => .st
@[simp] def sPop (i : Nat) : MS := fun env st => match getE env i with
  | .ow ds => if ds ≠ [] then .ok (.nx (setE env i (.ow ds.dropLast)) st) else .st
  | _ => .st
@[simp] def sRet (a : ME) : MS := fun env st => (a env st).bind fun x => x.1.val.bind fun u => .ok (.rt u x.2)
@[simp] def sRetN : MS := fun _ st => .ok (.rt .none st)
/-- return x, x an own list -/
def sRetO (i : Nat) : MS := fun env st => match getE env i with
  | .ow ds => .ok (.rt (.list ds) st)
  | _ => .st
@[simp] def sIf (c : ME) (a b : MS) : MS := fun env st => (c env st).bind fun x => match x.1 with
  | .im (.bool true) => a env x.2
  | .im (.bool false) => b env x.2
  | _ => .st
/-- an own list in slot i is no more changed -/
@[simp] def sFrz (i : Nat) (s : MS) : MS := fun env st => match getE env i with
  | .ow ds => s (setE env i (.im (.list ds))) st
  | _ => s env st
@[simp] def sNever : MS := fun _ _ => .st
def forL (p : Pat) (b : MS) : List D → Env → Pt → R Out
  | [], env, st => .ok (.nx env st)
  | d :: r, env, st => (p.set d env).bind fun env1 => (b env1 st).bind fun o => match o with
    | .nx env2 st2 => forL p b r env2 st2
    | .rt x st2 => .ok (.rt x st2)
def sFor (it : MI) (p : Pat) (b : MS) : MS := fun env st => (it env st).bind fun x => forL p b x.1 env x.2
def whileL (c : ME) (b : MS) : Nat → Env → Pt → R Out
  | 0, _, _ => .st
  | n + 1, env, st => (c env st).bind fun x => match x.1 with
    | .im (.bool true) => (b env x.2).bind fun o => (match o with
      | .nx env2 st2 => whileL c b n env2 st2
      | .rt y st2 => .ok (.rt y st2))
    | .im (.bool false) => .ok (.nx env x.2)
    | _ => .st
/-- the number tells how many turns at most: of the slots at the loop's start -/
def sWhile (fuel : Env → Nat) (c : ME) (b : MS) : MS := fun env st => whileL c b (fuel env) env st
/-- as many turns as the number in a slot, and two -/
@[simp] def fuelV (i : Nat) : Env → Nat := fun env => match getE env i with
  | .im (.int n) => n.toNat + 2
  | _ => 1000
/-! ### a def -/
@[simp] def startE (n : Nat) (ds : List D) : Env := ds.map EV.im ++ List.replicate (n - ds.length) .no
/-- a parameters, n slots -/
@[simp] def runP (a n : Nat) (s : MS) : PF := fun ds => if ds.length = a then (s (startE n ds) []).bind fun o => match o with
  | .nx _ _ => .ok .none
  | .rt x _ => .ok x
  else .st
/-- the pot in slot 0 (no value of its own), the other arguments behind it -/
@[simp] def runD (a n : Nat) (s : MS) : PD := fun ds st => if ds.length + 1 = a then (s (.pt :: startE (n - 1) ds) st).bind fun o => match o with
  | .nx _ st1 => .ok (.none, st1)
  | .rt x st1 => .ok (x, st1)
  else .st
section
variable {d : D} {ds xs ys : List D} {ns : List Int} {a b i k : Int} {p q : Bool} {x y : PySem.Str} {kvs : List (D × D)} {r : List D} {lo hi : Option Int}
@[simp] theorem view_im : EV.view (.im d) = .ok d := rfl
@[simp] theorem view_ow : EV.view (.ow ds) = .ok (.list ds) := rfl
@[simp] theorem view_bo : EV.view (.bo ds) = .ok (.list ds) := rfl
@[simp] theorem val_im : EV.val (.im d) = .ok d := rfl
@[simp] theorem val_ow : EV.val (.ow ds) = .ok (.list ds) := rfl
@[simp] theorem isPt_no : isPt .no = false := rfl
@[simp] theorem isPt_pt : isPt .pt = true := rfl
@[simp] theorem isPt_im : isPt (.im d) = false := rfl
@[simp] theorem isPt_ow : isPt (.ow ds) = false := rfl
@[simp] theorem isPt_bo : isPt (.bo ds) = false := rfl
@[simp] theorem isPt_fz : isPt (.fz ns) = false := rfl
@[simp] theorem isLk_no : isLk .no = false := rfl
@[simp] theorem isLk_pt : isLk .pt = true := rfl
@[simp] theorem isLk_im : isLk (.im d) = false := rfl
@[simp] theorem isLk_ow : isLk (.ow ds) = true := rfl
@[simp] theorem isLk_bo : isLk (.bo ds) = false := rfl
@[simp] theorem isLk_fz : isLk (.fz ns) = false := rfl
@[simp] theorem oAdd_i : oAdd (.int a) (.int b) = .ok (.im (.int (a + b))) := rfl
@[simp] theorem oAdd_l : oAdd (.list xs) (.list ys) = if xs.length + ys.length ≤ LIM then .ok (.ow (xs ++ ys)) else .st := rfl
@[simp] theorem oAdd_t : oAdd (.tuple xs) (.tuple ys) = if xs.length + ys.length ≤ LIM then .ok (.im (.tuple (xs ++ ys))) else .st := rfl
@[simp] theorem oAdd_s : oAdd (.str x) (.str y) = if x.length + y.length ≤ LIM then .ok (.im (.str (x ++ y))) else .st := rfl
@[simp] theorem oSub_i : oSub (.int a) (.int b) = .ok (.im (.int (a - b))) := rfl
@[simp] theorem oMul_i : oMul (.int a) (.int b) = if mulOk a b then .ok (.im (.int (a * b))) else .st := rfl
@[simp] theorem oMul_l : oMul (.list xs) (.int k) = if xs.length * k.toNat ≤ LIM ∧ k ≤ LIM ∧ -(LIM : Int) ≤ k then .ok (.ow (List.replicate k.toNat xs).flatten) else .st := rfl
@[simp] theorem oMul_t : oMul (.tuple xs) (.int k) = if xs ≠ [] ∧ 2 ≤ k ∧ k ≤ 1000 ∧ xs.length ≤ 1000 then .ok (.im (.tuple (List.replicate k.toNat xs).flatten)) else .st := rfl
@[simp] theorem oDiv_i : oDiv (.int a) (.int b) = if b = 0 ∨ PySem.Builtin.divisionGoesByPylong a b = true then .st else .ok (.im (.int (a.fdiv b))) := rfl
@[simp] theorem oMod_i : oMod (.int a) (.int b) = if b = 0 then .st else .ok (.im (.int (a.fmod b))) := rfl
@[simp] theorem oPow_i : oPow (.int a) (.int b) = if 0 ≤ b ∧ b ≤ 1000000 ∧ a.natAbs < 2 ^ 64 then .ok (.im (.int (a ^ b.toNat))) else .st := rfl
@[simp] theorem oLt_i : oLt (.int a) (.int b) = bl (decide (a < b)) := rfl
@[simp] theorem oLe_i : oLe (.int a) (.int b) = bl (decide (a ≤ b)) := rfl
@[simp] theorem oGt_i : oGt (.int a) (.int b) = bl (decide (b < a)) := rfl
@[simp] theorem oGe_i : oGe (.int a) (.int b) = bl (decide (b ≤ a)) := rfl
@[simp] theorem oIx_l : oIx (.list xs) (.int i) = match atD xs i with
  | some d => .ok (.im d)
  | none => .st := rfl
@[simp] theorem oIx_t : oIx (.tuple xs) (.int i) = match atD xs i with
  | some d => .ok (.im d)
  | none => .st := rfl
@[simp] theorem oNeg_i : oNeg (.int a) = .ok (.im (.int (-a))) := rfl
@[simp] theorem oNot_b : oNot (.bool p) = bl (!p) := rfl
@[simp] theorem oIs_n : oIs .none .none = bl true := rfl
@[simp] theorem oIs_b : oIs (.bool p) (.bool q) = bl (p == q) := rfl
@[simp] theorem oIs_bn : oIs (.bool p) .none = bl false := rfl
@[simp] theorem oIs_in : oIs (.int a) .none = bl false := rfl
@[simp] theorem oIs_tn : oIs (.tuple xs) .none = bl false := rfl
@[simp] theorem oIs_ln : oIs (.list xs) .none = bl false := rfl
@[simp] theorem oIsN_n : oIsN .none .none = bl false := rfl
@[simp] theorem oIsN_b : oIsN (.bool p) (.bool q) = bl (!(p == q)) := rfl
@[simp] theorem oIsN_bn : oIsN (.bool p) .none = bl true := rfl
@[simp] theorem oIsN_in : oIsN (.int a) .none = bl true := rfl
@[simp] theorem oIsN_tn : oIsN (.tuple xs) .none = bl true := rfl
@[simp] theorem oIsN_ln : oIsN (.list xs) .none = bl true := rfl
@[simp] theorem bLen_l : bLen [.list xs] = .ok (.im (.int xs.length)) := rfl
@[simp] theorem bLen_t : bLen [.tuple xs] = .ok (.im (.int xs.length)) := rfl
@[simp] theorem bLen_d : bLen [.dict kvs] = .ok (.im (.int kvs.length)) := rfl
@[simp] theorem bLen_s : bLen [.str x] = if x.length ≤ LIM then .ok (.im (.int x.length)) else .st := rfl
@[simp] theorem bAbs_i : bAbs [.int a] = .ok (.im (.int (if a < 0 then -a else a))) := rfl
@[simp] theorem bInt_i : bInt [.int a] = .ok (.im (.int a)) := rfl
@[simp] theorem bInt_b : bInt [.bool p] = .ok (.im (.int (if p then 1 else 0))) := rfl
@[simp] theorem intsOf_0 : intsOf [] = some [] := rfl
@[simp] theorem intsOf_1 : intsOf (.int i :: r) = (intsOf r).map (i :: ·) := rfl
@[simp] theorem boolsOf_0 : boolsOf [] = some [] := rfl
@[simp] theorem boolsOf_1 : boolsOf (.bool p :: r) = (boolsOf r).map (p :: ·) := rfl
@[simp] theorem bMax_2 : bMax [.int a, .int b] = .ok (.im (.int (if b > a then b else a))) := rfl
@[simp] theorem bMin_2 : bMin [.int a, .int b] = .ok (.im (.int (if b < a then b else a))) := rfl
theorem bMax_l : bMax [.list xs] = match intsOf xs with
    | some (x :: r) => .ok (.im (.int (r.foldl max x)))
    | _ => .st := rfl
theorem bMin_l : bMin [.list xs] = match intsOf xs with
    | some (x :: r) => .ok (.im (.int (r.foldl min x)))
    | _ => .st := rfl
theorem bSum_l : bSum [.list xs] = match intsOf xs with
    | some ns => .ok (.im (.int ns.sum))
    | _ => .st := rfl
theorem bAll_l : bAll [.list xs] = match boolsOf xs with
    | some bs => bl (bs.all id)
    | _ => .st := rfl
theorem bAny_l : bAny [.list xs] = match boolsOf xs with
    | some bs => bl (bs.any id)
    | _ => .st := rfl
@[simp] theorem bList_l : bList [.list xs] = .ok (.ow xs) := rfl
@[simp] theorem bList_t : bList [.tuple xs] = .ok (.ow xs) := rfl
@[simp] theorem revLO_l : revLO (.list xs) = .ok (.ow xs.reverse) := rfl
@[simp] theorem bTuple_l : bTuple [.list xs] = .ok (.im (.tuple xs)) := rfl
@[simp] theorem bTuple_t : bTuple [.tuple xs] = .ok (.im (.tuple xs)) := rfl
@[simp] theorem cutO_l : cutO (.list xs) lo hi = .ok (.ow (cutD xs lo hi)) := rfl
@[simp] theorem cutO_t : cutO (.tuple xs) lo hi = .ok (.im (.tuple (cutD xs lo hi))) := rfl
@[simp] theorem itemsO_l : itemsO (.list xs) = .ok xs := rfl
@[simp] theorem itemsO_t : itemsO (.tuple xs) = .ok xs := rfl
@[simp] theorem getE_0 {e : EV} {r : Env} : getE (e :: r) 0 = e := rfl
end
theorem oEq_str (x y : PySem.Str) : oEq (.str x) (.str y) = bl (x == y) := by
  unfold oEq
  split
  · simp [PySem.PyData.eqv]
  · rfl
theorem oNe_str (x y : PySem.Str) : oNe (.str x) (.str y) = bl (!(x == y)) := by
  unfold oNe
  split
  · simp [PySem.PyData.eqv]
  · rfl
end BP

namespace BP
open L2 (V Hp HO St TE TT TA TS TG TI It Ends Cx PE PT PW PA PS PSs PG PI Inv upd upd_same upd_ne)
abbrev Addr := PySem.Addr
/-- a written tuple -/
def KTup (K : PySem.W.Frag) (a : Addr) (xs : List V) : Prop :=
  ∃ (o : PySem.Obj) (its : Array PySem.Value) (n : Nat), K.lookup a = some o ∧ o.cls = .type "tuple" ∧ o.data = .seq its n ∧ its.size ≤ PySem.sizeLine ∧ L2.Vals xs its.toList
def keyD : L2.Key → D
  | .inl i => .int i
  | .inr x => .str x
mutual
/-- at the value v stands d, off the addresses A -/
inductive Dr (K : PySem.W.Frag) (H : Hp) (A : Addr → Prop) : V → D → Prop
  | non : Dr K H A .non .none
  | bl (b : Bool) : Dr K H A (.bl b) (.bool b)
  | int (i : Int) : Dr K H A (.int i) (.int i)
  | str (x : PySem.Str) : Dr K H A (.str x) (.str x)
  | lst {a : Addr} {xs : List V} {ds : List D} : ¬ A a → H a = some (.lst xs) → DrAll K H A xs ds → Dr K H A (.ref a) (.list ds)
  | tup {a : Addr} {xs : List V} {ds : List D} : (¬ A a ∧ H a = some (.tup xs)) ∨ KTup K a xs → DrAll K H A xs ds → Dr K H A (.ref a) (.tuple ds)
  | dic {a : Addr} {kvs : List (L2.Key × V)} {ds : List D} : ¬ A a → H a = some (.dK kvs) → DrAll K H A (kvs.map (·.2)) ds → Dr K H A (.ref a) (.dict ((kvs.map fun p => keyD p.1).zip ds))
inductive DrAll (K : PySem.W.Frag) (H : Hp) (A : Addr → Prop) : List V → List D → Prop
  | nil : DrAll K H A [] []
  | cons {v : V} {vs : List V} {d : D} {ds : List D} : Dr K H A v d → DrAll K H A vs ds → DrAll K H A (v :: vs) (d :: ds)
end
section
variable {K : PySem.W.Frag} {H H' : Hp} {A A' : Addr → Prop}
mutual
theorem Dr.to (k : ∀ b o, H b = some o → ¬ A b → H' b = some o ∧ ¬ A' b) : ∀ {v : V} {d : D}, Dr K H A v d → Dr K H' A' v d
  | _, _, .non => .non
  | _, _, .bl b => .bl b
  | _, _, .int i => .int i
  | _, _, .str x => .str x
  | _, _, .lst h1 h2 h3 => .lst (k _ _ h2 h1).2 (k _ _ h2 h1).1 (DrAll.to k h3)
  | _, _, .tup (.inl h) h3 => .tup (.inl ⟨(k _ _ h.2 h.1).2, (k _ _ h.2 h.1).1⟩) (DrAll.to k h3)
  | _, _, .tup (.inr h) h3 => .tup (.inr h) (DrAll.to k h3)
  | _, _, .dic h1 h2 h3 => .dic (k _ _ h2 h1).2 (k _ _ h2 h1).1 (DrAll.to k h3)
theorem DrAll.to (k : ∀ b o, H b = some o → ¬ A b → H' b = some o ∧ ¬ A' b) : ∀ {vs : List V} {ds : List D}, DrAll K H A vs ds → DrAll K H' A' vs ds
  | _, _, .nil => .nil
  | _, _, .cons h t => .cons (Dr.to k h) (DrAll.to k t)
end
theorem DrAll.length : ∀ {vs : List V} {ds : List D}, DrAll K H A vs ds → vs.length = ds.length
  | _, _, .nil => rfl
  | _, _, .cons _ t => congrArg Nat.succ (DrAll.length t)
theorem DrAll.get : ∀ {vs : List V} {ds : List D}, DrAll K H A vs ds → ∀ (i : Nat), (∀ x, vs[i]? = some x → ∃ d, ds[i]? = some d ∧ Dr K H A x d) ∧ (∀ d, ds[i]? = some d → ∃ x, vs[i]? = some x ∧ Dr K H A x d)
  | _, _, .nil, i => ⟨fun x h => by simp at h, fun x h => by simp at h⟩
  | _, _, .cons h t, 0 => ⟨fun x e => ⟨_, rfl, by cases e; exact h⟩, fun d e => ⟨_, rfl, by cases e; exact h⟩⟩
  | _, _, .cons h t, i + 1 => DrAll.get t i
theorem DrAll.append : ∀ {vs us : List V} {ds es : List D}, DrAll K H A vs ds → DrAll K H A us es → DrAll K H A (vs ++ us) (ds ++ es)
  | _, _, _, _, .nil, s => s
  | _, _, _, _, .cons h t, s => .cons h (DrAll.append t s)
theorem DrAll.take : ∀ {vs : List V} {ds : List D} (n : Nat), DrAll K H A vs ds → DrAll K H A (vs.take n) (ds.take n)
  | _, _, 0, _ => .nil
  | _, _, _ + 1, .nil => .nil
  | _, _, n + 1, .cons h t => .cons h (DrAll.take n t)
theorem DrAll.drop : ∀ {vs : List V} {ds : List D} (n : Nat), DrAll K H A vs ds → DrAll K H A (vs.drop n) (ds.drop n)
  | _, _, 0, h => h
  | _, _, _ + 1, .nil => .nil
  | _, _, n + 1, .cons _ t => DrAll.drop n t
theorem DrAll.reverse : ∀ {vs : List V} {ds : List D}, DrAll K H A vs ds → DrAll K H A vs.reverse ds.reverse
  | _, _, .nil => .nil
  | _, _, .cons h t => by
    rw [List.reverse_cons, List.reverse_cons]
    exact DrAll.append (DrAll.reverse t) (.cons h .nil)
theorem DrAll.set {v : V} {d : D} (h : Dr K H A v d) : ∀ {vs : List V} {ds : List D} (i : Nat), DrAll K H A vs ds → DrAll K H A (vs.set i v) (ds.set i d)
  | _, _, _, .nil => .nil
  | _, _, 0, .cons _ t => .cons h t
  | _, _, i + 1, .cons h' t => .cons h' (DrAll.set h i t)
theorem DrAll.dropLast : ∀ {vs : List V} {ds : List D}, DrAll K H A vs ds → DrAll K H A vs.dropLast ds.dropLast
  | _, _, .nil => .nil
  | _, _, .cons _ .nil => .nil
  | _, _, .cons h (.cons h2 t) => .cons h (DrAll.dropLast (.cons h2 t))
theorem DrAll.rep {vs : List V} {ds : List D} (h : DrAll K H A vs ds) : ∀ n : Nat, DrAll K H A (List.replicate n vs).flatten (List.replicate n ds).flatten
  | 0 => .nil
  | n + 1 => by
    rw [List.replicate_succ, List.replicate_succ, List.flatten_cons, List.flatten_cons]
    exact h.append (DrAll.rep h n)
theorem Dr.sqt {a : Addr} {ds : List D} (h : Dr K H A (.ref a) (.tuple ds)) : ∃ xs, L2.SqT K H a xs ∧ DrAll K H A xs ds := by
  cases h with
  | tup h1 h2 =>
    rcases h1 with h1 | h1
    · exact ⟨_, .inl (.inl h1.2), h2⟩
    · exact ⟨_, .inr h1, h2⟩
end
/-- the pot's object alone may change -/
def Keep (pot : Option Addr) (H H' : Hp) : Prop := ∀ b o, H b = some o → pot ≠ some b → H' b = some o
theorem Keep.refl {pot : Option Addr} {H : Hp} : Keep pot H H := fun _ _ h _ => h
theorem Keep.trans {pot : Option Addr} {H H1 H2 : Hp} (a : Keep pot H H1) (b : Keep pot H1 H2) : Keep pot H H2 := fun c o h n => b c o (a c o h n) n
theorem Keep.new {pot : Option Addr} {H H1 : Hp} {p : Addr} {o : HO} (a : Keep pot H H1) (n : H p = none) : Keep pot H (upd H1 p o) := fun c u h z => by
  rw [upd_ne (L2.ne_of_none h n)]
  exact a c u h z
/-- the addresses that no value touches: the callers' own lists, the frame's own lists -/
def av (B : Addr → Prop) (os : List (Option Addr)) : Addr → Prop := fun a => B a ∨ some a ∈ os
def plus (B : Addr → Prop) (p : Addr) : Addr → Prop := fun a => B a ∨ a = p
/-- a list that nobody changes -/
def FzL (K : PySem.W.Frag) (H : Hp) (a : Addr) (xs : List V) : Prop := (∃ o, H a = some (.frz o (.lst xs))) ∨
  ∃ (o : PySem.Obj) (its : Array PySem.Value) (n : Nat), K.lookup a = some o ∧ o.cls = .type "list" ∧ o.dict = none ∧ o.data = .seq its n ∧ its.size ≤ PySem.sizeLine ∧ L2.Vals xs its.toList
theorem FzL.to {K : PySem.W.Frag} {H H' : Hp} {a : Addr} {xs : List V} (h : FzL K H a xs) (k : ∀ o, H a = some (.frz o (.lst xs)) → H' a = some (.frz o (.lst xs))) : FzL K H' a xs := by
  rcases h with ⟨o, h⟩ | h
  · exact .inl ⟨o, k o h⟩
  · exact .inr h
theorem FzL.sq {K : PySem.W.Frag} {H : Hp} {a : Addr} {xs : List V} (h : FzL K H a xs) : L2.SqL K H a xs := by
  rcases h with h | h
  · exact .inl (.inr h)
  · exact .inr h
structure ERep (K : PySem.W.Frag) (B : Addr → Prop) (pot : Option Addr) (os : List (Option Addr)) (H : Hp) (σ : St) (env : Env) (st : Pt) : Prop where
  bt : ∀ b, B b → ∃ o, H b = some o
  l1 : σ.length = env.length
  l2 : os.length = env.length
  slot : ∀ (i : Nat) (d : D), getE env i = .im d → ∃ x, σ[i]? = some (some x) ∧ Dr K H (av B os) x d
  own : ∀ (i : Nat) (ds : List D), getE env i = .ow ds → ∃ a vs, os[i]? = some (some a) ∧ σ[i]? = some (some (.ref a)) ∧ H a = some (.lst vs) ∧ DrAll K H (av B os) vs ds
  nb : ∀ (i : Nat) (ds : List D), getE env i ≠ .bo ds
  fz : ∀ (i : Nat) (ns : List Int), getE env i = .fz ns → ∃ a, σ[i]? = some (some (.ref a)) ∧ FzL K H a (ns.map V.int)
  ad : ∀ (i : Nat) (a : Addr), os[i]? = some (some a) → ¬ B a ∧ ∃ ds, getE env i = .ow ds
  inj : ∀ (i j : Nat) (a : Addr), os[i]? = some (some a) → os[j]? = some (some a) → i = j
  pt : ∀ i, getE env i = .pt → ∃ p, pot = some p
  pot : ∀ p, pot = some p → σ[0]? = some (some (.ref p)) ∧ getE env 0 = .pt ∧ B p ∧ H p = some (.lst (st.map V.int))
section
variable {K : PySem.W.Frag} {B : Addr → Prop} {pot : Option Addr} {os : List (Option Addr)} {H H1 H2 : Hp} {σ : St} {env : Env} {st st' : Pt}
theorem ERep.own_at (E : ERep K B pot os H σ env st) {a : Addr} (h : some a ∈ os) : ∃ vs, H a = some (.lst vs) := by
  obtain ⟨i, hi, e⟩ := List.getElem_of_mem h
  have e1 : os[i]? = some (some a) := by rw [List.getElem?_eq_getElem hi, e]
  obtain ⟨_, ds, e2⟩ := E.ad i a e1
  obtain ⟨b, vs, e3, _, e4, _⟩ := E.own i ds e2
  rw [e1] at e3
  cases e3
  exact ⟨vs, e4⟩
theorem ERep.off (E : ERep K B pot os H σ env st) {p : Addr} (n : H p = none) : ¬ av B os p := fun h => by
  rcases h with h | h
  · obtain ⟨o, e⟩ := E.bt p h
    rw [n] at e
    cases e
  · obtain ⟨vs, e⟩ := E.own_at h
    rw [n] at e
    cases e
theorem ERep.own_pot (E : ERep K B pot os H σ env st) {a : Addr} (h : some a ∈ os) : pot ≠ some a := fun z => by
  obtain ⟨i, hi, e⟩ := List.getElem_of_mem h
  have e1 : os[i]? = some (some a) := by rw [List.getElem?_eq_getElem hi, e]
  exact (E.ad i a e1).1 (E.pot a z).2.2.1
/-- what is kept -/
theorem ERep.keep (E : ERep K B pot os H σ env st) (k : ∀ b o, H b = some o → pot ≠ some b → H1 b = some o) (kp : ∀ p, pot = some p → H1 p = some (.lst (st'.map V.int))) : ERep K B pot os H1 σ env st' := by
  have kk : ∀ b o, H b = some o → ¬ av B os b → H1 b = some o ∧ ¬ av B os b := fun b o h n => ⟨k b o h fun z => n (.inl (E.pot b z).2.2.1), n⟩
  refine ⟨fun b hb => ?_, E.l1, E.l2, fun i d e => ?_, fun i ds e => ?_, E.nb, fun i ns e => ?_, E.ad, E.inj, E.pt, fun p e => ?_⟩
  case refine_4 =>
    obtain ⟨a, e1, e2⟩ := E.fz i ns e
    refine ⟨a, e1, e2.to fun o q => k a _ q fun z => ?_⟩
    have := (E.pot a z).2.2.2
    rw [q] at this
    cases this
  · by_cases z : pot = some b
    · exact ⟨_, kp b z⟩
    · obtain ⟨o, e⟩ := E.bt b hb
      exact ⟨o, k b o e z⟩
  · obtain ⟨x, e1, e2⟩ := E.slot i d e
    exact ⟨x, e1, e2.to kk⟩
  · obtain ⟨a, vs, e1, e2, e3, e4⟩ := E.own i ds e
    exact ⟨a, vs, e1, e2, k a _ e3 (E.own_pot (List.mem_of_getElem? e1)), e4.to kk⟩
  · obtain ⟨e1, e2, e3, _⟩ := E.pot p e
    exact ⟨e1, e2, e3, kp p e⟩
theorem ERep.ext (E : ERep K B pot os H σ env st) (k : ∀ b o, H b = some o → H1 b = some o) : ERep K B pot os H1 σ env st :=
  E.keep (fun b o h _ => k b o h) fun p e => k _ _ (E.pot p e).2.2.2
/-- a new address is avoided -/
theorem ERep.more (E : ERep K B pot os H σ env st) {p : Addr} {o : HO} (k : ∀ b u, H b = some u → H1 b = some u) (n : H p = none) (np : H1 p = some o) : ERep K (plus B p) pot os H1 σ env st := by
  have kk : ∀ b u, H b = some u → ¬ av B os b → H1 b = some u ∧ ¬ av (plus B p) os b := fun b u h z => ⟨k b u h, fun y => by
    rcases y with (y | y) | y
    · exact z (.inl y)
    · exact L2.ne_of_none h n y
    · exact z (.inr y)⟩
  refine ⟨fun b hb => ?_, E.l1, E.l2, fun i d e => ?_, fun i ds e => ?_, E.nb, fun i ns e => ?_, fun i a e => ?_, E.inj, E.pt, fun q e => ?_⟩
  case refine_4 =>
    obtain ⟨a, e1, e2⟩ := E.fz i ns e
    exact ⟨a, e1, e2.to fun o q => k _ _ q⟩
  · rcases hb with hb | rfl
    · obtain ⟨u, e⟩ := E.bt b hb
      exact ⟨u, k b u e⟩
    · exact ⟨_, np⟩
  · obtain ⟨x, e1, e2⟩ := E.slot i d e
    exact ⟨x, e1, e2.to kk⟩
  · obtain ⟨a, vs, e1, e2, e3, e4⟩ := E.own i ds e
    exact ⟨a, vs, e1, e2, k _ _ e3, e4.to kk⟩
  · obtain ⟨e1, ds, e2⟩ := E.ad i a e
    refine ⟨fun z => ?_, ds, e2⟩
    rcases z with z | z
    · exact e1 z
    · obtain ⟨vs, e3⟩ := E.own_at (List.mem_of_getElem? e)
      exact L2.ne_of_none e3 n z
  · obtain ⟨e1, e2, e3, e4⟩ := E.pot q e
    exact ⟨e1, e2, .inl e3, k _ _ e4⟩
/-- fewer addresses are avoided -/
theorem ERep.less {B' : Addr → Prop} (E : ERep K B' pot os H σ env st) (h : ∀ b, B b → B' b) (hp : ∀ p, pot = some p → B p) : ERep K B pot os H σ env st := by
  have kk : ∀ b o, H b = some o → ¬ av B' os b → H b = some o ∧ ¬ av B os b := fun b o e z => ⟨e, fun y => z (by
    rcases y with y | y
    · exact .inl (h b y)
    · exact .inr y)⟩
  refine ⟨fun b hb => E.bt b (h b hb), E.l1, E.l2, fun i d e => ?_, fun i ds e => ?_, E.nb, E.fz, fun i a e => ?_, E.inj, E.pt, fun q e => ?_⟩
  · obtain ⟨x, e1, e2⟩ := E.slot i d e
    exact ⟨x, e1, e2.to kk⟩
  · obtain ⟨a, vs, e1, e2, e3, e4⟩ := E.own i ds e
    exact ⟨a, vs, e1, e2, e3, e4.to kk⟩
  · obtain ⟨e1, ds, e2⟩ := E.ad i a e
    exact ⟨fun z => e1 (h a z), ds, e2⟩
  · obtain ⟨e1, e2, _, e4⟩ := E.pot q e
    exact ⟨e1, e2, hp q e, e4⟩
end
/-- what holds of an expression's value: H ahead, H' behind -/
def EPost (K : PySem.W.Frag) (B : Addr → Prop) (pot : Option Addr) (os : List (Option Addr)) (H H' : Hp) (σ : St) (env : Env) (st : Pt) (v : V) : EV → Prop
  | .im d => ERep K B pot os H' σ env st ∧ Dr K H' (av B os) v d
  | .ow ds => ∃ p vs, v = .ref p ∧ H p = none ∧ ERep K (plus B p) pot os H' σ env st ∧ H' p = some (.lst vs) ∧ DrAll K H' (av (plus B p) os) vs ds
  | .bo ds => ERep K B pot os H' σ env st ∧ ∃ a vs, v = .ref a ∧ pot ≠ some a ∧ H' a = some (.lst vs) ∧ DrAll K H' (av B os) vs ds
  | _ => False
def tM (K : PySem.W.Frag) (m : ME) : TE := fun σ H Q => ∃ B pot os env st, ERep K B pot os H σ env st ∧ ∃ e st', m env st = .ok (e, st') ∧ ∀ v H', Keep pot H H' → EPost K B pot os H H' σ env st' v e → Q v H'
/-- a value that is looked at -/
def Vw (K : PySem.W.Frag) (H : Hp) (A : Addr → Prop) (pot : Option Addr) (v : V) (d : D) : Prop := Dr K H A v d ∨ ∃ a vs ds, v = .ref a ∧ d = .list ds ∧ pot ≠ some a ∧ H a = some (.lst vs) ∧ DrAll K H A vs ds
section
variable {K : PySem.W.Frag} {B : Addr → Prop} {pot : Option Addr} {os : List (Option Addr)} {H H1 H2 : Hp} {σ : St} {env : Env} {st st' : Pt} {v : V} {e : EV} {d : D}
theorem ERep.offp (E : ERep K B pot os H σ env st) {p : Addr} (n : H p = none) : ¬ B p ∧ ¬ some p ∈ os := ⟨fun z => E.off n (.inl z), fun z => E.off n (.inr z)⟩
/-- kept: the context with the new list's address, or without -/
theorem EPost.val (E : ERep K B pot os H σ env st) (h : EPost K B pot os H H1 σ env st' v e) (hv : e.val = .ok d) : ERep K B pot os H1 σ env st' ∧ Dr K H1 (av B os) v d := by
  cases e with
  | no => cases hv
  | pt => cases hv
  | fz _ => cases hv
  | bo _ => cases hv
  | im x =>
    cases hv
    exact h
  | ow ds =>
    cases hv
    obtain ⟨p, vs, rfl, n, E1, e1, e2⟩ := h
    have E2 : ERep K B pot os H1 σ env st' := E1.less (fun b z => .inl z) fun q z => (E.pot q z).2.2.1
    refine ⟨E2, .lst (E.off n) e1 (e2.to fun b o h z => ⟨h, fun y => z ?_⟩)⟩
    rcases y with y | y
    · exact .inl (.inl y)
    · exact .inr y
theorem EPost.view (E : ERep K B pot os H σ env st) (h : EPost K B pot os H H1 σ env st' v e) (hv : e.view = .ok d) : ERep K B pot os H1 σ env st' ∧ Vw K H1 (av B os) pot v d := by
  cases e with
  | no => cases hv
  | pt => cases hv
  | fz _ => cases hv
  | bo _ =>
    cases hv
    obtain ⟨E1, a, vs, e1, e2, e3, e4⟩ := h
    exact ⟨E1, .inr ⟨a, vs, _, e1, rfl, e2, e3, e4⟩⟩
  | im x =>
    obtain ⟨E1, q⟩ := EPost.val E h hv
    exact ⟨E1, .inl q⟩
  | ow ds =>
    obtain ⟨E1, q⟩ := EPost.val E h hv
    exact ⟨E1, .inl q⟩
theorem Dr.keep (E : ERep K B pot os H σ env st) (k : Keep pot H H1) (h : Dr K H (av B os) v d) : Dr K H1 (av B os) v d :=
  h.to fun b o e n => ⟨k b o e fun z => n (.inl (E.pot b z).2.2.1), n⟩
theorem DrAll.keep {vs : List V} {ds : List D} (E : ERep K B pot os H σ env st) (k : Keep pot H H1) (h : DrAll K H (av B os) vs ds) : DrAll K H1 (av B os) vs ds :=
  h.to fun b o e n => ⟨k b o e fun z => n (.inl (E.pot b z).2.2.1), n⟩
theorem Vw.keep (E : ERep K B pot os H σ env st) (k : Keep pot H H1) (h : Vw K H (av B os) pot v d) : Vw K H1 (av B os) pot v d := by
  rcases h with h | ⟨a, vs, ds, e1, e2, e3, e4, e5⟩
  · exact .inl (h.keep E k)
  · exact .inr ⟨a, vs, ds, e1, e2, e3, k _ _ e4 e3, e5.keep E k⟩
end
/-- a stronger reading is as good -/
theorem PE_imp {X : Cx} {e : PySem.Expr} {t t' : TE} (h : PE X e t) (k : ∀ σ H Q, t' σ H Q → t σ H Q) : PE X e t' := ⟨fun pins s σ H Q I q => h.run pins s σ H Q I (k σ H Q q)⟩
theorem PT_imp {X : Cx} {e : PySem.Expr} {t t' : TT} (h : PT X e t) (k : ∀ σ H Q, t' σ H Q → t σ H Q) : PT X e t' := ⟨fun pins s σ H Q I q => h.run pins s σ H Q I (k σ H Q q)⟩
theorem PW_imp {X : Cx} {e : PySem.Expr} {t t' : TT} (h : PW X e t) (k : ∀ σ H Q, t' σ H Q → t σ H Q) : PW X e t' := ⟨fun w pins s σ H Q I q => h.run w pins s σ H Q I (k σ H Q q)⟩
theorem PA_imp {X : Cx} {e : List PySem.Expr} {t t' : TA} (h : PA X e t) (k : ∀ σ H Q, t' σ H Q → t σ H Q) : PA X e t' := ⟨fun pos pins s σ H Q I q => h.run pos pins s σ H Q I (k σ H Q q)⟩
theorem PS_imp {X : Cx} {e : PySem.Stmt} {t t' : TS} (h : PS X e t) (k : ∀ D σ H, t' D σ H → t D σ H) : PS X e t' := ⟨fun pins s σ H D I q => h.run pins s σ H D I (k D σ H q)⟩
theorem PSs_imp {X : Cx} {e : List PySem.Stmt} {t t' : TS} (h : PSs X e t) (k : ∀ D σ H, t' D σ H → t D σ H) : PSs X e t' := ⟨fun pins s σ H D I q => h.run pins s σ H D I (k D σ H q)⟩
theorem PI_imp {X : Cx} {tg iter : PySem.Expr} {t t' : TI} (h : PI X tg iter t) (k : ∀ σ H R, t' σ H R → t σ H R) : PI X tg iter t' := ⟨fun pins s σ H R I q => h.run pins s σ H R I (k σ H R q)⟩
end BP

namespace BP
open L2 (V Hp HO St TE TT TA TS TG TI It Ends Cx PE PT PW PA PS PSs PG PI Inv upd upd_same upd_ne OpR UnR CallR Same)
section
variable {K : PySem.W.Frag} {H H' : Hp} {A : Addr → Prop} {pot : Option Addr} {x : V}
theorem Vw.int {i : Int} (h : Vw K H A pot x (.int i)) : x = .int i := by
  rcases h with h | ⟨_, _, _, _, e, _⟩
  · cases h; rfl
  · cases e
theorem Vw.bool {b : Bool} (h : Vw K H A pot x (.bool b)) : x = .bl b := by
  rcases h with h | ⟨_, _, _, _, e, _⟩
  · cases h; rfl
  · cases e
theorem Vw.none (h : Vw K H A pot x .none) : x = .non := by
  rcases h with h | ⟨_, _, _, _, e, _⟩
  · cases h; rfl
  · cases e
theorem Vw.str {z : PySem.Str} (h : Vw K H A pot x (.str z)) : x = .str z := by
  rcases h with h | ⟨_, _, _, _, e, _⟩
  · cases h; rfl
  · cases e
theorem Vw.list {ds : List D} (h : Vw K H A pot x (.list ds)) : ∃ a vs, x = .ref a ∧ H a = some (.lst vs) ∧ DrAll K H A vs ds := by
  rcases h with h | ⟨a, vs, es, e1, e, _, e2, e3⟩
  · cases h with
    | lst h1 h2 h3 => exact ⟨_, _, rfl, h2, h3⟩
  · cases e
    exact ⟨a, vs, e1, e2, e3⟩
theorem Vw.tup {ds : List D} (h : Vw K H A pot x (.tuple ds)) : Dr K H A x (.tuple ds) ∧ ∃ a vs, x = .ref a ∧ L2.SqT K H a vs ∧ DrAll K H A vs ds := by
  rcases h with h | ⟨_, _, _, _, e, _⟩
  · refine ⟨h, ?_⟩
    cases h with
    | tup h1 h2 =>
      rcases h1 with h1 | h1
      · exact ⟨_, _, rfl, .inl (.inl h1.2), h2⟩
      · exact ⟨_, _, rfl, .inr h1, h2⟩
  · cases e
theorem Same.new {p : Addr} {o : HO} (n : H p = none) : Same H (upd H p o) := fun b u e => by
  rw [upd_ne (L2.ne_of_none e n)]
  exact e
theorem DrAll.new {vs : List V} {ds : List D} {p : Addr} {o : HO} (n : H p = none) (h : DrAll K H A vs ds) : DrAll K (upd H p o) (plus A p) vs ds :=
  h.to fun b u e z => ⟨Same.new n b u e, fun y => by
    rcases y with y | y
    · exact z y
    · exact L2.ne_of_none e n y⟩
end
def ZPost (K : PySem.W.Frag) (A : Addr → Prop) (H H' : Hp) (v : V) : EV → Prop
  | .im d => Dr K H' A v d
  | .ow ds => ∃ p vs, v = .ref p ∧ H p = none ∧ H' p = some (.lst vs) ∧ DrAll K H' (plus A p) vs ds
  | _ => False
section
variable {K : PySem.W.Frag} {H : Hp} {A : Addr → Prop} {pot : Option Addr} {x : V}
theorem z_int {i : Int} : ZPost K A H H (.int i) (.im (.int i)) := .int i
theorem z_bl {b : Bool} : ZPost K A H H (.bl b) (.im (.bool b)) := .bl b
theorem z_lst {p : Addr} {vs : List V} {ds : List D} (n : H p = none) (h : DrAll K H A vs ds) : ZPost K A H (upd H p (.lst vs)) (.ref p) (.ow ds) := ⟨p, vs, rfl, n, upd_same, h.new n⟩
theorem z_tup {p : Addr} {vs : List V} {ds : List D} (t : ∀ a, A a → ∃ o, H a = some o) (n : H p = none) (h : DrAll K H A vs ds) : ZPost K A H (upd H p (.tup vs)) (.ref p) (.im (.tuple ds)) :=
  .tup (.inl ⟨(fun z => by
    obtain ⟨o, e⟩ := t p z
    rw [n] at e
    cases e), upd_same⟩) (h.to fun b u e z => ⟨Same.new n b u e, z⟩)
end
/-- g does on values what f does on trees -/
def OpM (X : Cx) (g : PySem.Value → PySem.Value → PySem.Sem PySem.Value) (f : O2) : Prop := ∃ r, OpR X g r ∧
  ∀ (A : Addr → Prop) (pot : Option Addr) (H : Hp) (x y : V) (dx dy : D) (z : EV), (∀ a, A a → ∃ o, H a = some o) → Vw X.K H A pot x dx → Vw X.K H A pot y dy → f dx dy = .ok z →
    ∀ Q : L2.VK, (∀ v H', Same H H' → ZPost X.K A H H' v z → Q v H') → r x y H Q
def UnM (X : Cx) (g : PySem.Value → PySem.Sem PySem.Value) (f : O1) : Prop := ∃ r, UnR X g r ∧
  ∀ (A : Addr → Prop) (pot : Option Addr) (H : Hp) (x : V) (dx : D) (z : EV), (∀ a, A a → ∃ o, H a = some o) → Vw X.K H A pot x dx → f dx = .ok z →
    ∀ Q : L2.VK, (∀ v H', Same H H' → ZPost X.K A H H' v z → Q v H') → r x H Q
section
variable {X : Cx}
theorem om_add : OpM X (PySem.binaryOp .Add) oAdd := by
  refine ⟨_, L2.OpR.or L2.op_add (L2.OpR.or L2.op_cat (L2.OpR.or L2.op_catA L2.op_add_str)), fun A pot H x y dx dy z t hx hy e Q q => ?_⟩
  unfold oAdd at e
  split at e
  · cases e
    cases hx.int; cases hy.int
    exact .inl ⟨_, _, rfl, rfl, q _ _ (L2.Same.refl H) z_int⟩
  · split at e
    · rename_i hl
      cases e
      obtain ⟨a, vs, rfl, h1, h2⟩ := hx.list
      obtain ⟨b, us, rfl, h3, h4⟩ := hy.list
      refine .inr (.inl ⟨a, b, vs, us, rfl, rfl, h1, h3, ?_, fun p n => q _ _ (Same.new n) (z_lst n (h2.append h4))⟩)
      rw [h2.length, h4.length]
      exact Nat.le_trans hl (by decide)
    · cases e
  · split at e
    · rename_i hl
      cases e
      obtain ⟨d1, a, vs, rfl, h1, h2⟩ := hx.tup
      obtain ⟨d2, b, us, rfl, h3, h4⟩ := hy.tup
      refine .inr (.inr (.inl ⟨a, b, vs, us, rfl, rfl, h1, h3, ?_, fun e => ?_, fun _ e => ?_, fun _ _ p n => q _ _ (Same.new n) (z_tup t n (h2.append h4))⟩))
      · rw [h2.length, h4.length]
        exact Nat.le_trans hl (by decide)
      · subst e
        cases h2
        exact q _ _ (L2.Same.refl H) d2
      · subst e
        cases h4
        refine q _ _ (L2.Same.refl H) ?_
        show Dr _ _ _ _ _
        rw [List.append_nil]
        exact d1
    · cases e
  · split at e
    · rename_i hl
      cases e
      cases hx.str; cases hy.str
      exact .inr (.inr (.inr ⟨_, _, rfl, rfl, Nat.le_trans hl (by decide), q _ _ (L2.Same.refl H) (.str _)⟩))
    · cases e
  · cases e
theorem om_sub : OpM X (PySem.binaryOp .Sub) oSub := by
  refine ⟨_, L2.op_sub, fun A pot H x y dx dy z t hx hy e Q q => ?_⟩
  unfold oSub at e
  split at e
  · cases e
    cases hx.int; cases hy.int
    exact ⟨_, _, rfl, rfl, q _ _ (L2.Same.refl H) z_int⟩
  · cases e
theorem mulOk_ok {i j : Int} (h : mulOk i j = true) : PySem.IntMulOk i j := by
  have h3 : i.natAbs.log2 + j.natAbs.log2 < 100000000 := of_decide_eq_true h
  have b : ∀ x : Int, PySem.Builtin.Int.intBits x ≤ x.natAbs.log2 + 1 := fun x => by
    unfold PySem.Builtin.Int.intBits
    split <;> omega
  have h1 := b i
  have h2 := b j
  have e : PySem.bitsLine = 134217728 := by decide
  unfold PySem.IntMulOk
  intro z
  rw [Bool.and_eq_true] at z
  have z2 := z.2
  unfold PySem.Builtin.Int.intTooBig at z2
  have z3 := of_decide_eq_true z2
  rw [e] at z3
  omega
theorem op_mulX : OpR X (PySem.binaryOp .Mult) (L2.rI (fun i j => mulOk i j = true) fun i j => .int (i * j)) := L2.opI fun _ _ _ _ _ _ _ hc q => PyProof.Rows.mul_int q (mulOk_ok hc)
theorem om_mul : OpM X (PySem.binaryOp .Mult) oMul := by
  refine ⟨_, L2.OpR.or op_mulX (L2.OpR.or L2.op_rep L2.op_repT), fun A pot H x y dx dy z t hx hy e Q q => ?_⟩
  unfold oMul at e
  split at e
  · split at e
    · rename_i hl
      cases e
      cases hx.int; cases hy.int
      exact .inl ⟨_, _, rfl, rfl, hl, q _ _ (L2.Same.refl H) z_int⟩
    · cases e
  · split at e
    · rename_i hl
      cases e
      obtain ⟨h5, h6, h7⟩ := hl
      obtain ⟨a, vs, rfl, h1, h2⟩ := hx.list
      cases hy.int
      have l : LIM = 1000000 := rfl
      refine .inr (.inl ⟨a, _, vs, rfl, rfl, h1, ?_, ?_, ?_, fun p n => q _ _ (Same.new n) (z_lst n (h2.rep _))⟩)
      · rw [l] at h7; omega
      · rw [l] at h6; omega
      · rw [h2.length]
        exact Nat.le_trans h5 (by decide)
    · cases e
  · split at e
    · rename_i hl
      cases e
      obtain ⟨h5, h6, h7, h8⟩ := hl
      obtain ⟨d1, a, vs, rfl, h1, h2⟩ := hx.tup
      cases hy.int
      refine .inr (.inr ⟨a, _, vs, rfl, rfl, h1, ?_, h6, h7, ?_, fun p n => q _ _ (Same.new n) (z_tup t n (h2.rep _))⟩)
      · intro z
        subst z
        cases h2
        exact h5 rfl
      · rw [h2.length]
        exact h8
    · cases e
  · cases e
theorem op_fdivX : OpR X (PySem.binaryOp .FloorDiv) (L2.rI (fun i j => j ≠ 0 ∧ PySem.Builtin.divisionGoesByPylong i j = false) fun i j => .int (i.fdiv j)) :=
  L2.opI fun _ _ _ _ _ _ _ hc q => PyProof.Rows.floordiv_int hc.1 q (.inl hc.2)
theorem om_div : OpM X (PySem.binaryOp .FloorDiv) oDiv := by
  refine ⟨_, op_fdivX, fun A pot H x y dx dy z t hx hy e Q q => ?_⟩
  unfold oDiv at e
  split at e
  · split at e
    · cases e
    · rename_i hl
      cases e
      cases hx.int; cases hy.int
      exact ⟨_, _, rfl, rfl, ⟨fun z => hl (.inl z), by simpa using fun z => hl (.inr z)⟩, q _ _ (L2.Same.refl H) z_int⟩
  · cases e
theorem om_mod : OpM X (PySem.binaryOp .Mod) oMod := by
  refine ⟨_, L2.op_modN, fun A pot H x y dx dy z t hx hy e Q q => ?_⟩
  unfold oMod at e
  split at e
  · split at e
    · cases e
    · rename_i hl
      cases e
      cases hx.int; cases hy.int
      exact ⟨_, _, rfl, rfl, hl, q _ _ (L2.Same.refl H) z_int⟩
  · cases e
theorem om_pow : OpM X (PySem.binaryOp .Pow) oPow := by
  refine ⟨_, L2.op_pow, fun A pot H x y dx dy z t hx hy e Q q => ?_⟩
  unfold oPow at e
  split at e
  · split at e
    · rename_i hl
      cases e
      cases hx.int; cases hy.int
      exact ⟨_, _, rfl, rfl, hl, q _ _ (L2.Same.refl H) z_int⟩
    · cases e
  · cases e
theorem om_lt : OpM X (PySem.compareOp .Lt) oLt := by
  refine ⟨_, L2.op_lt, fun A pot H x y dx dy z t hx hy e Q q => ?_⟩
  unfold oLt at e
  split at e
  · cases e
    cases hx.int; cases hy.int
    exact ⟨_, _, rfl, rfl, q _ _ (L2.Same.refl H) z_bl⟩
  · cases e
theorem om_le : OpM X (PySem.compareOp .LtE) oLe := by
  refine ⟨_, L2.op_le, fun A pot H x y dx dy z t hx hy e Q q => ?_⟩
  unfold oLe at e
  split at e
  · cases e
    cases hx.int; cases hy.int
    exact ⟨_, _, rfl, rfl, q _ _ (L2.Same.refl H) z_bl⟩
  · cases e
theorem om_gt : OpM X (PySem.compareOp .Gt) oGt := by
  refine ⟨_, L2.op_gt, fun A pot H x y dx dy z t hx hy e Q q => ?_⟩
  unfold oGt at e
  split at e
  · cases e
    cases hx.int; cases hy.int
    exact ⟨_, _, rfl, rfl, q _ _ (L2.Same.refl H) z_bl⟩
  · cases e
theorem om_ge : OpM X (PySem.compareOp .GtE) oGe := by
  refine ⟨_, L2.op_ge, fun A pot H x y dx dy z t hx hy e Q q => ?_⟩
  unfold oGe at e
  split at e
  · cases e
    cases hx.int; cases hy.int
    exact ⟨_, _, rfl, rfl, q _ _ (L2.Same.refl H) z_bl⟩
  · cases e
mutual
theorem Dr.dp {K : PySem.W.Frag} {H : Hp} {A : Addr → Prop} : ∀ {d : D} {v : V}, d.canLay0 = true → Dr K H A v d → L2.Dp K H v d
  | .none, _, _, .non => .non
  | .bool _, _, _, .bl b => .bl b
  | .int _, _, _, .int b => .int b
  | .str _, _, _, .str b => .str b
  | .list ds, _, c, .lst _ h2 h3 => .lst (.inl (.inl h2)) (DrAll.dp (show PySem.PyData.canLayAll0 ds = true from by simpa [PySem.PyData.canLay0] using c) h3)
  | .tuple ds, _, c, .tup (.inl h) h3 => .tup (.inl (.inl h.2)) (DrAll.dp (show PySem.PyData.canLayAll0 ds = true from by simpa [PySem.PyData.canLay0] using c) h3)
  | .tuple ds, _, c, .tup (.inr h) h3 => .tup (.inr h) (DrAll.dp (show PySem.PyData.canLayAll0 ds = true from by simpa [PySem.PyData.canLay0] using c) h3)
  | .dict _, _, c, _ => by simp [PySem.PyData.canLay0] at c
theorem DrAll.dp {K : PySem.W.Frag} {H : Hp} {A : Addr → Prop} : ∀ {ds : List D} {vs : List V}, PySem.PyData.canLayAll0 ds = true → DrAll K H A vs ds → L2.DpAll K H vs ds
  | [], _, _, .nil => .nil
  | d :: ds, _, c, .cons h t => by
    have c2 : d.canLay0 = true ∧ PySem.PyData.canLayAll0 ds = true := by simpa [PySem.PyData.canLayAll0] using c
    exact .cons (Dr.dp c2.1 h) (DrAll.dp c2.2 t)
end
theorem Vw.dp {K : PySem.W.Frag} {H : Hp} {A : Addr → Prop} {pot : Option Addr} {d : D} {v : V} (c : PySem.SeqAt.shaped d = true) (h : Vw K H A pot v d) : L2.Dp K H v d := by
  have c1 := PySem.SeqAt.canLay_of_shaped c
  rcases h with h | ⟨a, vs, ds, rfl, rfl, _, h1, h2⟩
  · exact h.dp c1
  · exact .lst (.inl (.inl h1)) (DrAll.dp (show PySem.PyData.canLayAll0 ds = true from by simpa [PySem.PyData.canLay0] using c1) h2)
theorem om_eq (hu : X.A.units + 64 < PySem.cLine) : OpM X (PySem.compareOp .Eq) oEq := by
  refine ⟨_, L2.OpR.or (L2.op_eqD hu) L2.op_eq, fun A pot H x y dx dy z t hx hy e Q q => ?_⟩
  unfold oEq at e
  split at e
  · rename_i hl
    rw [Bool.and_eq_true] at hl
    cases e
    exact .inl ⟨dx, dy, hx.dp hl.1, hy.dp hl.2, hl.1, hl.2, q _ _ (L2.Same.refl H) z_bl⟩
  · unfold oEqS at e
    split at e
    · cases e
      cases hx.str
      cases hy.str
      refine .inr ⟨rfl, ?_⟩
      rw [L2.dec_str]
      exact q _ _ (L2.Same.refl H) z_bl
    · cases e
theorem om_ne (hu : X.A.units + 64 < PySem.cLine) : OpM X (PySem.compareOp .NotEq) oNe := by
  refine ⟨_, L2.OpR.or (L2.op_neD hu) L2.op_ne, fun A pot H x y dx dy z t hx hy e Q q => ?_⟩
  unfold oNe at e
  split at e
  · rename_i hl
    rw [Bool.and_eq_true] at hl
    cases e
    exact .inl ⟨dx, dy, hx.dp hl.1, hy.dp hl.2, hl.1, hl.2, q _ _ (L2.Same.refl H) z_bl⟩
  · unfold oNeS at e
    split at e
    · cases e
      cases hx.str
      cases hy.str
      refine .inr ⟨rfl, ?_⟩
      rw [L2.dec_str]
      exact q _ _ (L2.Same.refl H) z_bl
    · cases e
theorem om_is : OpM X (PySem.compareOp .Is) oIs := by
  refine ⟨_, L2.OpR.or L2.op_isN L2.op_isBl, fun A pot H x y dx dy z t hx hy e Q q => ?_⟩
  unfold oIs at e
  split at e
  · cases e
    cases hx.none; cases hy.none
    exact .inl ⟨rfl, q _ _ (L2.Same.refl H) z_bl⟩
  · cases e
    cases hx.bool; cases hy.bool
    exact .inr ⟨_, _, rfl, rfl, q _ _ (L2.Same.refl H) (by rw [Bool.beq_eq_decide_eq]; exact z_bl)⟩
  · rename_i h1
    cases e
    cases hy.none
    refine .inl ⟨rfl, q _ _ (L2.Same.refl H) ?_⟩
    have : ¬ x = .non := fun z => by
      subst z
      rcases hx with h | ⟨_, _, _, z, _⟩
      · cases h
        exact h1 rfl
      · cases z
    rw [decide_eq_false this]
    exact z_bl
  · cases e
theorem om_isN : OpM X (PySem.compareOp .IsNot) oIsN := by
  refine ⟨_, L2.OpR.or L2.op_notN L2.op_notBl, fun A pot H x y dx dy z t hx hy e Q q => ?_⟩
  unfold oIsN at e
  split at e
  · cases e
    cases hx.none; cases hy.none
    exact .inl ⟨rfl, q _ _ (L2.Same.refl H) z_bl⟩
  · cases e
    cases hx.bool; cases hy.bool
    exact .inr ⟨_, _, rfl, rfl, q _ _ (L2.Same.refl H) (by rw [Bool.beq_eq_decide_eq]; exact z_bl)⟩
  · rename_i h1
    cases e
    cases hy.none
    refine .inl ⟨rfl, q _ _ (L2.Same.refl H) ?_⟩
    have : ¬ x = .non := fun z => by
      subst z
      rcases hx with h | ⟨_, _, _, z, _⟩
      · cases h
        exact h1 rfl
      · cases z
    rw [decide_eq_false this]
    exact z_bl
  · cases e
theorem um_neg : UnM X (PySem.unaryOp .USub) oNeg := by
  refine ⟨_, L2.un_neg, fun A pot H x dx z t hx e Q q => ?_⟩
  unfold oNeg at e
  split at e
  · cases e
    cases hx.int
    exact ⟨_, rfl, q _ _ (L2.Same.refl H) z_int⟩
  · cases e
end
end BP

namespace BP
open L2 (V Hp HO St TE TT TA TS TG TI It Ends Cx PE PT PW PA PS PSs PG PI Inv upd upd_same upd_ne OpR UnR CallR Same)
section
variable {K : PySem.W.Frag} {B : Addr → Prop} {pot : Option Addr} {os : List (Option Addr)} {H H1 H2 H' : Hp} {σ : St} {env : Env} {st st' : Pt} {v : V} {e : EV} {d : D}
theorem ERep.tr (E : ERep K B pot os H σ env st) : ∀ a, av B os a → ∃ o, H a = some o := fun a h => by
  rcases h with h | h
  · exact E.bt a h
  · obtain ⟨vs, e⟩ := E.own_at h
    exact ⟨_, e⟩
theorem ERep.back (E2 : ERep K B pot os H1 σ env st') (k : Keep pot H H1) {p : Addr} (n : H1 p = none) : H p = none := by
  cases q : H p with
  | none => rfl
  | some o =>
    by_cases z : pot = some p
    · have e := (E2.pot p z).2.2.2
      rw [n] at e
      cases e
    · have e := k p o q z
      rw [n] at e
      cases e
theorem EPost.of (E2 : ERep K B pot os H1 σ env st') (k : Keep pot H H1) (s : Same H1 H') (z : ZPost K (av B os) H1 H' v e) : Keep pot H H' ∧ EPost K B pot os H H' σ env st' v e := by
  refine ⟨fun b o h n => s b o (k b o h n), ?_⟩
  cases e with
  | no => exact z.elim
  | pt => exact z.elim
  | fz _ => exact z.elim
  | bo _ => exact z.elim
  | im d => exact ⟨E2.ext s, z⟩
  | ow ds =>
    obtain ⟨p, vs, rfl, n, e1, e2⟩ := z
    refine ⟨p, vs, rfl, E2.back k n, E2.more s n e1, e1, e2.to fun b o h y => ⟨h, fun u => y ?_⟩⟩
    rcases u with (u | u) | u
    · exact .inl (.inl u)
    · exact .inr u
    · exact .inl (.inr u)
end
section
variable {X : Cx} {a b c : PySem.Expr} {ma mb mc : ME} {pos : PySem.Pos}
theorem q_var (i : Nat) {x : PySem.Str} {pos : PySem.Pos} (h : PE X (.Name x pos) (L2.tVar i) := by exact L2.pv _) : PE X (.Name x pos) (tM X.K (mVar i)) := by
  refine PE_imp h fun σ H Q ⟨B, pot, os, env, st, E, e, st', hm, hQ⟩ => ?_
  unfold mVar at hm
  split at hm
  · rename_i d hd
    cases hm
    obtain ⟨x, e1, e2⟩ := E.slot _ _ hd
    exact ⟨x, e1, hQ x H Keep.refl ⟨E, e2⟩⟩
  · rename_i ds hd
    cases hm
    obtain ⟨q, vs, e1, e2, e3, e4⟩ := E.own _ _ hd
    exact ⟨.ref q, e2, hQ _ H Keep.refl ⟨E, q, vs, rfl, E.own_pot (List.mem_of_getElem? e1), e3, e4⟩⟩
  · cases hm
theorem q_c {v : V} {d : D} {e : PySem.Expr} (h : PE X e (L2.tC v)) (hd : ∀ H A, Dr X.K H A v d) : PE X e (tM X.K (mC d)) :=
  PE_imp h fun σ H Q ⟨B, pot, os, env, st, E, e, st', hm, hQ⟩ => by
    cases hm
    exact hQ v H Keep.refl ⟨E, hd _ _⟩
theorem q_int {i j pos} : PE X (.Constant (.int i) j pos) (tM X.K (mC (.int i))) := q_c L2.pe_int fun _ _ => .int i
theorem q_bl {i j pos} : PE X (.Constant (.bool i) j pos) (tM X.K (mC (.bool i))) := q_c L2.pe_bl fun _ _ => .bl i
theorem q_non {j pos} : PE X (.Constant .none j pos) (tM X.K (mC .none)) := q_c L2.pe_non fun _ _ => .non
theorem q_str {x j pos} : PE X (.Constant (.str x) j pos) (tM X.K (mC (.str x))) := q_c L2.pe_str fun _ _ => .str x
/-- a module's constant -/
def Kst (K : PySem.W.Frag) (mg : PySem.Str → Option PySem.Value) (x : PySem.Str) (d : D) : Prop := ∃ u v, mg x = some u ∧ L2.RelV v u ∧ ∀ H A, Dr K H A v d
theorem q_kst {x : PySem.Str} {d : D} (hk : Kst X.K X.mg x d) (hg : L2.Gl X x) (hd : (x == ("__debug__" : PySem.Str)) = false := by decide) : PE X (.Name x pos) (tM X.K (mC d)) := by
  obtain ⟨u, v, h1, h2, h3⟩ := hk
  exact q_c (L2.pe_glob hg h1 h2 hd) h3
theorem q_bin {op : PySem.Operator} {f : O2} (ho : OpM X (PySem.binaryOp op) f) (ha : PE X a (tM X.K ma)) (hb : PE X b (tM X.K mb)) : PE X (.BinOp a op b pos) (tM X.K (mBin f ma mb)) := by
  obtain ⟨r, hr, hf⟩ := ho
  refine PE_imp (L2.pe_op hr ha hb) fun σ H Q ⟨B, pot, os, env, st, E, e, st', hm, hQ⟩ => ?_
  obtain ⟨x, ex, hm⟩ := R.bind_ok hm
  obtain ⟨u, eu, hm⟩ := R.bind_ok hm
  obtain ⟨y, ey, hm⟩ := R.bind_ok hm
  obtain ⟨w, ew, hm⟩ := R.bind_ok hm
  obtain ⟨z, ez, hm⟩ := R.bind_ok hm
  cases hm
  refine ⟨B, pot, os, env, st, E, _, _, ex, fun v1 H1 k1 p1 => ?_⟩
  obtain ⟨E1, w1⟩ := p1.view E eu
  refine ⟨B, pot, os, env, _, E1, _, _, ey, fun v2 H2 k2 p2 => ?_⟩
  obtain ⟨E2, w2⟩ := p2.view E1 ew
  refine hf (av B os) pot H2 v1 v2 u w _ E2.tr (w1.keep E1 k2) w2 ez Q fun v H' s zz => ?_
  obtain ⟨k3, q⟩ := EPost.of E2 (k1.trans k2) s zz
  exact hQ v H' k3 q
theorem cmp_imp {f : O2} {r : L2.R2} (hf : ∀ (A : Addr → Prop) (pot : Option Addr) (H : Hp) (x y : V) (dx dy : D) (z : EV), (∀ a, A a → ∃ o, H a = some o) → Vw X.K H A pot x dx → Vw X.K H A pot y dy → f dx dy = .ok z →
    ∀ Q : L2.VK, (∀ v H', Same H H' → ZPost X.K A H H' v z → Q v H') → r x y H Q) : ∀ σ H Q, tM X.K (mBin f ma mb) σ H Q → L2.tOp r (tM X.K ma) (tM X.K mb) σ H Q := fun σ H Q ⟨B, pot, os, env, st, E, e, st', hm, hQ⟩ => by
  obtain ⟨x, ex, hm⟩ := R.bind_ok hm
  obtain ⟨u, eu, hm⟩ := R.bind_ok hm
  obtain ⟨y, ey, hm⟩ := R.bind_ok hm
  obtain ⟨w, ew, hm⟩ := R.bind_ok hm
  obtain ⟨z, ez, hm⟩ := R.bind_ok hm
  cases hm
  refine ⟨B, pot, os, env, st, E, _, _, ex, fun v1 H1 k1 p1 => ?_⟩
  obtain ⟨E1, w1⟩ := p1.view E eu
  refine ⟨B, pot, os, env, _, E1, _, _, ey, fun v2 H2 k2 p2 => ?_⟩
  obtain ⟨E2, w2⟩ := p2.view E1 ew
  refine hf (av B os) pot H2 v1 v2 u w _ E2.tr (w1.keep E1 k2) w2 ez Q fun v H' s zz => ?_
  obtain ⟨k3, q⟩ := EPost.of E2 (k1.trans k2) s zz
  exact hQ v H' k3 q
/-- a test's reading -/
def tMT (K : PySem.W.Frag) (m : ME) : TT := fun σ H Q => ∃ B pot os env st, ERep K B pot os H σ env st ∧ ∃ b st', m env st = .ok (.im (.bool b), st') ∧ ∀ H', Keep pot H H' → ERep K B pot os H' σ env st' → Q b H'
theorem tMT_tM {K : PySem.W.Frag} {m : ME} {σ : St} {H : Hp} {Q : Bool → Hp → Prop} (h : tMT K m σ H Q) : tM K m σ H fun x H1 => ∃ c, x = .bl c ∧ Q c H1 := by
  obtain ⟨B, pot, os, env, st, E, b, st', hm, hQ⟩ := h
  refine ⟨B, pot, os, env, st, E, _, _, hm, fun v H' k p => ?_⟩
  obtain ⟨E1, q⟩ := p
  cases q
  exact ⟨b, rfl, hQ H' k E1⟩
theorem q_cmp {op : PySem.CmpOp} {f : O2} (ho : OpM X (PySem.compareOp op) f) (ha : PE X a (tM X.K ma)) (hb : PE X b (tM X.K mb)) (hm : PySem.behindInMarks op b = false) : PE X (.Compare a [op] [b] pos) (tM X.K (mBin f ma mb)) := by
  obtain ⟨r, hr, hf⟩ := ho
  exact PE_imp (L2.pe_cmpR hr ha hb hm) (cmp_imp hf)
theorem t_cmp {op : PySem.CmpOp} {f : O2} (ho : OpM X (PySem.compareOp op) f) (ha : PE X a (tM X.K ma)) (hb : PE X b (tM X.K mb)) (hm : PySem.behindInMarks op b = false) : PT X (.Compare a [op] [b] pos) (tMT X.K (mBin f ma mb)) := by
  obtain ⟨r, hr, hf⟩ := ho
  exact PT_imp (L2.pt_cmpR hr ha hb hm) fun σ H Q h => cmp_imp hf _ _ _ (tMT_tM h)
theorem chain_imp {f g : O2} {r r' : L2.R2} (hf : ∀ (A : Addr → Prop) (pot : Option Addr) (H : Hp) (x y : V) (dx dy : D) (z : EV), (∀ a, A a → ∃ o, H a = some o) → Vw X.K H A pot x dx → Vw X.K H A pot y dy → f dx dy = .ok z →
    ∀ Q : L2.VK, (∀ v H', Same H H' → ZPost X.K A H H' v z → Q v H') → r x y H Q) (hg : ∀ (A : Addr → Prop) (pot : Option Addr) (H : Hp) (x y : V) (dx dy : D) (z : EV), (∀ a, A a → ∃ o, H a = some o) → Vw X.K H A pot x dx → Vw X.K H A pot y dy → g dx dy = .ok z →
    ∀ Q : L2.VK, (∀ v H', Same H H' → ZPost X.K A H H' v z → Q v H') → r' x y H Q) : ∀ σ H Q, tM X.K (mChain f g ma mb mc) σ H Q → L2.tChain r r' (tM X.K ma) (tM X.K mb) (tM X.K mc) σ H Q := fun σ H Q ⟨B, pot, os, env, st, E, e, st', hm, hQ⟩ => by
  obtain ⟨x, ex, hm⟩ := R.bind_ok hm
  obtain ⟨u, eu, hm⟩ := R.bind_ok hm
  obtain ⟨y, ey, hm⟩ := R.bind_ok hm
  obtain ⟨w, ew, hm⟩ := R.bind_ok hm
  obtain ⟨z, ez, hm⟩ := R.bind_ok hm
  refine ⟨B, pot, os, env, st, E, _, _, ex, fun v1 H1 k1 p1 => ?_⟩
  obtain ⟨E1, w1⟩ := p1.view E eu
  refine ⟨B, pot, os, env, _, E1, _, _, ey, fun v2 H2 k2 p2 => ?_⟩
  obtain ⟨E2, w2⟩ := p2.view E1 ew
  refine hf (av B os) pot H2 v1 v2 u w _ E2.tr (w1.keep E1 k2) w2 ez _ fun v H3 s zz => ?_
  have E3 := E2.ext s
  have k3 : Keep pot H H3 := fun b o h n => s b o ((k1.trans k2) b o h n)
  split at hm
  · cases (show Dr _ _ _ v (.bool true) from zz)
    refine ⟨true, rfl, ?_⟩
    refine L2.iteT ?_
    obtain ⟨x3, ex3, hm⟩ := R.bind_ok hm
    obtain ⟨u3, eu3, hm⟩ := R.bind_ok hm
    obtain ⟨q3, eq3, hm⟩ := R.bind_ok hm
    cases hm
    refine ⟨B, pot, os, env, _, E3, _, _, ex3, fun v4 H4 k4 p4 => ?_⟩
    obtain ⟨E4, w4⟩ := p4.view E3 eu3
    have w2' : Vw X.K H4 (av B os) pot v2 w := (w2.keep E2 (fun b o h _ => s b o h)).keep E3 k4
    refine hg (av B os) pot H4 v2 v4 w u3 _ E4.tr w2' w4 eq3 Q fun v H' s zz => ?_
    obtain ⟨k5, q⟩ := EPost.of E4 (k3.trans k4) s zz
    exact hQ v H' k5 q
  · cases hm
    cases (show Dr _ _ _ v (.bool false) from zz)
    refine ⟨false, rfl, ?_⟩
    refine L2.iteF ?_
    exact hQ _ _ k3 ⟨E3, .bl false⟩
  · cases hm
theorem q_chain {op op' : PySem.CmpOp} {f g : O2} (ho : OpM X (PySem.compareOp op) f) (ho' : OpM X (PySem.compareOp op') g) (ha : PE X a (tM X.K ma)) (hb : PE X b (tM X.K mb)) (hc : PE X c (tM X.K mc)) (hm : PySem.lastMarks [op, op'] [b, c] = false := by with_unfolding_all rfl) : PE X (.Compare a [op, op'] [b, c] pos) (tM X.K (mChain f g ma mb mc)) := by
  obtain ⟨r, hr, hf⟩ := ho
  obtain ⟨r', hr', hg⟩ := ho'
  exact PE_imp (L2.pe_chain hr hr' ha hb hc hm) (chain_imp hf hg)
theorem t_chain {op op' : PySem.CmpOp} {f g : O2} (ho : OpM X (PySem.compareOp op) f) (ho' : OpM X (PySem.compareOp op') g) (ha : PE X a (tM X.K ma)) (hb : PE X b (tM X.K mb)) (hc : PE X c (tM X.K mc)) (hm : PySem.lastMarks [op, op'] [b, c] = false := by with_unfolding_all rfl) : PT X (.Compare a [op, op'] [b, c] pos) (tMT X.K (mChain f g ma mb mc)) := by
  obtain ⟨r, hr, hf⟩ := ho
  obtain ⟨r', hr', hg⟩ := ho'
  exact PT_imp (L2.pt_chain hr hr' ha hb hc hm) fun σ H Q h => chain_imp hf hg _ _ _ (tMT_tM h)
theorem q_un {op : PySem.UnaryOp} {f : O1} (ho : UnM X (PySem.unaryOp op) f) (ha : PE X a (tM X.K ma)) : PE X (.UnaryOp op a pos) (tM X.K (mUn f ma)) := by
  obtain ⟨r, hr, hf⟩ := ho
  refine PE_imp (L2.pe_un hr ha) fun σ H Q ⟨B, pot, os, env, st, E, e, st', hm, hQ⟩ => ?_
  obtain ⟨x, ex, hm⟩ := R.bind_ok hm
  obtain ⟨u, eu, hm⟩ := R.bind_ok hm
  obtain ⟨z, ez, hm⟩ := R.bind_ok hm
  cases hm
  refine ⟨B, pot, os, env, st, E, _, _, ex, fun v1 H1 k1 p1 => ?_⟩
  obtain ⟨E1, w1⟩ := p1.view E eu
  refine hf (av B os) pot H1 v1 u _ E1.tr w1 ez Q fun v H' s zz => ?_
  obtain ⟨k3, q⟩ := EPost.of E1 k1 s zz
  exact hQ v H' k3 q
/-- a truth value behind a reading -/
theorem tM_bool {K : PySem.W.Frag} {m : ME} {σ : St} {H : Hp} {Q : L2.VK} {B : Addr → Prop} {pot : Option Addr} {os : List (Option Addr)} {env : Env} {st : Pt} (E : ERep K B pot os H σ env st) {b : Bool} {st' : Pt} (hm : m env st = .ok (.im (.bool b), st'))
    (h : ∀ H', Keep pot H H' → ERep K B pot os H' σ env st' → Q (.bl b) H') : tM K m σ H Q := ⟨B, pot, os, env, st, E, _, _, hm, fun v H' k p => by
  obtain ⟨E1, q⟩ := p
  cases q
  exact h H' k E1⟩
theorem q_not (ha : PE X a (tM X.K ma)) : PE X (.UnaryOp .Not a pos) (tM X.K (mUn oNot ma)) := by
  refine PE_imp (L2.pe_not ha) fun σ H Q ⟨B, pot, os, env, st, E, e, st', hm, hQ⟩ => ?_
  obtain ⟨x, ex, hm⟩ := R.bind_ok hm
  obtain ⟨u, eu, hm⟩ := R.bind_ok hm
  obtain ⟨z, ez, hm⟩ := R.bind_ok hm
  cases hm
  unfold oNot at ez
  split at ez
  · cases ez
    refine ⟨B, pot, os, env, st, E, _, _, ex, fun v H' k p => ?_⟩
    obtain ⟨E1, w⟩ := p.view E eu
    cases w.bool
    exact ⟨_, rfl, hQ _ H' k ⟨E1, .bl _⟩⟩
  · cases ez
theorem q_and1 (h : PE X a (tM X.K ma)) : PE X (.BoolOp .And [a] pos) (tM X.K ma) := L2.pe_one h
theorem q_or1 (h : PE X a (tM X.K ma)) : PE X (.BoolOp .Or [a] pos) (tM X.K ma) := L2.pe_one h
theorem q_and {rest : List PySem.Expr} (ha : PE X a (tM X.K ma)) (hb : PE X (.BoolOp .And (b :: rest) pos) (tM X.K mb)) : PE X (.BoolOp .And (a :: b :: rest) pos) (tM X.K (mAnd ma mb)) := by
  refine PE_imp (L2.pe_and ha hb) fun σ H Q ⟨B, pot, os, env, st, E, e, st', hm, hQ⟩ => ?_
  obtain ⟨x, ex, hm⟩ := R.bind_ok hm
  obtain ⟨x1, x2⟩ := x
  dsimp only at hm
  split at hm
  · refine tM_bool E ex fun H1 k1 E1 => ⟨true, rfl, ?_⟩
    refine L2.iteT ?_
    refine ⟨B, pot, os, env, _, E1, _, _, hm, fun v H' k p => hQ v H' (k1.trans k) ?_⟩
    cases e with
    | no => exact p
    | pt => exact p
    | fz _ => exact p
    | im d => exact p
    | bo ds => exact p
    | ow ds =>
      obtain ⟨p, vs, h1, h2, h3⟩ := p
      exact ⟨p, vs, h1, E1.back k1 h2, h3⟩
  · cases hm
    refine tM_bool E ex fun H1 k1 E1 => ⟨false, rfl, ?_⟩
    refine L2.iteF ?_
    exact hQ _ _ k1 ⟨E1, .bl false⟩
  · cases hm
theorem EPost.back {K : PySem.W.Frag} {B : Addr → Prop} {pot : Option Addr} {os : List (Option Addr)} {H H1 H' : Hp} {σ : St} {env : Env} {st st' : Pt} {v : V} {e : EV} (E1 : ERep K B pot os H1 σ env st) (k : Keep pot H H1) (p : EPost K B pot os H1 H' σ env st' v e) : EPost K B pot os H H' σ env st' v e := by
  cases e with
  | no => exact p
  | pt => exact p
  | fz _ => exact p
  | im d => exact p
  | bo ds => exact p
  | ow ds =>
    obtain ⟨p, vs, h1, h2, h3⟩ := p
    exact ⟨p, vs, h1, E1.back k h2, h3⟩
theorem q_or {rest : List PySem.Expr} (ha : PE X a (tM X.K ma)) (hb : PE X (.BoolOp .Or (b :: rest) pos) (tM X.K mb)) : PE X (.BoolOp .Or (a :: b :: rest) pos) (tM X.K (mOr ma mb)) := by
  refine PE_imp (L2.pe_or ha hb) fun σ H Q ⟨B, pot, os, env, st, E, e, st', hm, hQ⟩ => ?_
  obtain ⟨x, ex, hm⟩ := R.bind_ok hm
  obtain ⟨x1, x2⟩ := x
  dsimp only at hm
  split at hm
  · refine tM_bool E ex fun H1 k1 E1 => ⟨false, rfl, ?_⟩
    refine L2.iteF ?_
    exact ⟨B, pot, os, env, _, E1, _, _, hm, fun v H' k p => hQ v H' (k1.trans k) (p.back E1 k1)⟩
  · cases hm
    refine tM_bool E ex fun H1 k1 E1 => ⟨true, rfl, ?_⟩
    refine L2.iteT ?_
    exact hQ _ _ k1 ⟨E1, .bl true⟩
  · cases hm
theorem q_if {c : PySem.Expr} {mc : ME} (hc : PT X c (tMT X.K mc)) (ha : PE X a (tM X.K ma)) (hb : PE X b (tM X.K mb)) : PE X (.IfExp c a b pos) (tM X.K (mIf mc ma mb)) := by
  refine PE_imp (L2.pe_ifExp hc ha hb) fun σ H Q ⟨B, pot, os, env, st, E, e, st', hm, hQ⟩ => ?_
  obtain ⟨x, ex, hm⟩ := R.bind_ok hm
  obtain ⟨x1, x2⟩ := x
  dsimp only at hm
  split at hm
  · refine ⟨B, pot, os, env, st, E, _, _, ex, fun H1 k1 E1 => ?_⟩
    refine L2.iteT ?_
    exact ⟨B, pot, os, env, _, E1, _, _, hm, fun v H' k p => hQ v H' (k1.trans k) (p.back E1 k1)⟩
  · refine ⟨B, pot, os, env, st, E, _, _, ex, fun H1 k1 E1 => ?_⟩
    refine L2.iteF ?_
    exact ⟨B, pot, os, env, _, E1, _, _, hm, fun v H' k p => hQ v H' (k1.trans k) (p.back E1 k1)⟩
  · cases hm
/-! ### tests -/
theorem t_val (h : PE X a (tM X.K ma)) (he : ∀ whole, PySem.isTrue a X.env whole = (do let v ← whole; PySem.standAt a.pos; PySem.holding [v] (PySem.truthy v)) := by intro _; rfl) : PT X a (tMT X.K ma) :=
  PT_imp (L2.pt_val h he) fun σ H Q h => tMT_tM h
theorem t_not (h : PT X a (tMT X.K ma)) : PT X (.UnaryOp .Not a pos) (tMT X.K (mUn oNot ma)) := by
  refine PT_imp (L2.pt_not h) fun σ H Q ⟨B, pot, os, env, st, E, b, st', hm, hQ⟩ => ?_
  obtain ⟨x, ex, hm⟩ := R.bind_ok hm
  obtain ⟨u, eu, hm⟩ := R.bind_ok hm
  obtain ⟨z, ez, hm⟩ := R.bind_ok hm
  unfold oNot at ez
  split at ez
  · rename_i b'
    cases ez
    cases hm
    obtain ⟨x1, x2⟩ := x
    cases x1 with
    | im d =>
      cases eu
      exact ⟨B, pot, os, env, st, E, _, _, ex, fun H' k E1 => hQ H' k E1⟩
    | no => cases eu
    | pt => cases eu
    | fz _ => cases eu
    | ow _ => cases eu
    | bo _ => cases eu
  · cases ez
theorem w_and1 (h : PT X a (tMT X.K ma)) : PW X (.BoolOp .And [a] pos) (tMT X.K ma) := L2.pw_and1 h
theorem w_or1 (h : PT X a (tMT X.K ma)) : PW X (.BoolOp .Or [a] pos) (tMT X.K ma) := L2.pw_or1 h
theorem w_and {rest : List PySem.Expr} (ha : PT X a (tMT X.K ma)) (hb : PW X (.BoolOp .And (b :: rest) pos) (tMT X.K mb)) : PW X (.BoolOp .And (a :: b :: rest) pos) (tMT X.K (mAnd ma mb)) := by
  refine PW_imp (L2.pw_and ha hb) fun σ H Q ⟨B, pot, os, env, st, E, e, st', hm, hQ⟩ => ?_
  obtain ⟨x, ex, hm⟩ := R.bind_ok hm
  obtain ⟨x1, x2⟩ := x
  dsimp only at hm
  split at hm
  · refine ⟨B, pot, os, env, st, E, _, _, ex, fun H1 k1 E1 => ?_⟩
    refine L2.iteT ?_
    exact ⟨B, pot, os, env, _, E1, _, _, hm, fun H' k p => hQ H' (k1.trans k) p⟩
  · cases hm
    refine ⟨B, pot, os, env, st, E, _, _, ex, fun H1 k1 E1 => ?_⟩
    refine L2.iteF ?_
    exact hQ _ k1 E1
  · cases hm
theorem w_or {rest : List PySem.Expr} (ha : PT X a (tMT X.K ma)) (hb : PW X (.BoolOp .Or (b :: rest) pos) (tMT X.K mb)) : PW X (.BoolOp .Or (a :: b :: rest) pos) (tMT X.K (mOr ma mb)) := by
  refine PW_imp (L2.pw_or ha hb) fun σ H Q ⟨B, pot, os, env, st, E, e, st', hm, hQ⟩ => ?_
  obtain ⟨x, ex, hm⟩ := R.bind_ok hm
  obtain ⟨x1, x2⟩ := x
  dsimp only at hm
  split at hm
  · refine ⟨B, pot, os, env, st, E, _, _, ex, fun H1 k1 E1 => ?_⟩
    refine L2.iteF ?_
    exact ⟨B, pot, os, env, _, E1, _, _, hm, fun H' k p => hQ H' (k1.trans k) p⟩
  · cases hm
    refine ⟨B, pot, os, env, st, E, _, _, ex, fun H1 k1 E1 => ?_⟩
    refine L2.iteT ?_
    exact hQ _ k1 E1
  · cases hm
/-! ### arguments -/
def tAA (K : PySem.W.Frag) (m : MA) : TA := fun σ H Q => ∃ B pot os env st, ERep K B pot os H σ env st ∧ ∃ ds st', m env st = .ok (ds, st') ∧ ∀ vs H', Keep pot H H' → ERep K B pot os H' σ env st' → DrAll K H' (av B os) vs ds → Q vs H'
inductive VwAll (K : PySem.W.Frag) (H : Hp) (A : Addr → Prop) (pot : Option Addr) : List V → List D → Prop
  | nil : VwAll K H A pot [] []
  | cons {v vs d ds} : Vw K H A pot v d → VwAll K H A pot vs ds → VwAll K H A pot (v :: vs) (d :: ds)
def tVA (K : PySem.W.Frag) (m : MA) : TA := fun σ H Q => ∃ B pot os env st, ERep K B pot os H σ env st ∧ ∃ ds st', m env st = .ok (ds, st') ∧ ∀ vs H', Keep pot H H' → ERep K B pot os H' σ env st' → VwAll K H' (av B os) pot vs ds → Q vs H'
theorem a_nil : PA X [] (tAA X.K aNil) := PA_imp L2.pa_nil fun σ H Q ⟨B, pot, os, env, st, E, ds, st', hm, hQ⟩ => by
  cases hm
  exact hQ [] H Keep.refl E .nil
theorem a_cons {es : List PySem.Expr} {ms : MA} (ha : PE X a (tM X.K ma)) (hs : PA X es (tAA X.K ms)) (h0 : PySem.starEach (a :: es) X.env = (false, PySem.eval a X.env) :: PySem.starEach es X.env := by rfl) : PA X (a :: es) (tAA X.K (aCons ma ms)) := by
  refine PA_imp (L2.pa_cons ha hs h0) fun σ H Q ⟨B, pot, os, env, st, E, ds, st', hm, hQ⟩ => ?_
  obtain ⟨x, ex, hm⟩ := R.bind_ok hm
  obtain ⟨u, eu, hm⟩ := R.bind_ok hm
  obtain ⟨y, ey, hm⟩ := R.bind_ok hm
  cases hm
  refine ⟨B, pot, os, env, st, E, _, _, ex, fun v1 H1 k1 p1 => ?_⟩
  obtain ⟨E1, w1⟩ := p1.val E eu
  exact ⟨B, pot, os, env, _, E1, _, _, ey, fun vs H2 k2 E2 w2 => hQ _ H2 (k1.trans k2) E2 (.cons (w1.keep E1 k2) w2)⟩
theorem v_nil : PA X [] (tVA X.K vNil) := PA_imp L2.pa_nil fun σ H Q ⟨B, pot, os, env, st, E, ds, st', hm, hQ⟩ => by
  cases hm
  exact hQ [] H Keep.refl E .nil
theorem v_cons {es : List PySem.Expr} {ms : MA} (ha : PE X a (tM X.K ma)) (hs : PA X es (tVA X.K ms)) (h0 : PySem.starEach (a :: es) X.env = (false, PySem.eval a X.env) :: PySem.starEach es X.env := by rfl) : PA X (a :: es) (tVA X.K (vCons ma ms)) := by
  refine PA_imp (L2.pa_cons ha hs h0) fun σ H Q ⟨B, pot, os, env, st, E, ds, st', hm, hQ⟩ => ?_
  obtain ⟨x, ex, hm⟩ := R.bind_ok hm
  obtain ⟨u, eu, hm⟩ := R.bind_ok hm
  obtain ⟨y, ey, hm⟩ := R.bind_ok hm
  cases hm
  refine ⟨B, pot, os, env, st, E, _, _, ex, fun v1 H1 k1 p1 => ?_⟩
  obtain ⟨E1, w1⟩ := p1.view E eu
  exact ⟨B, pot, os, env, _, E1, _, _, ey, fun vs H2 k2 E2 w2 => hQ _ H2 (k1.trans k2) E2 (.cons (w1.keep E1 k2) w2)⟩
theorem q_tup {es : List PySem.Expr} {ms : MA} {x1 : Nat} (h : PA X es (tAA X.K ms)) : PE X (.Tuple es x1 pos) (tM X.K (mTup ms)) := by
  refine PE_imp (L2.pe_tup h) fun σ H Q ⟨B, pot, os, env, st, E, e, st', hm, hQ⟩ => ?_
  obtain ⟨x, ex, hm⟩ := R.bind_ok hm
  split at hm
  · rename_i hl
    cases hm
    refine ⟨B, pot, os, env, st, E, _, _, ex, fun vs H1 k1 E1 w1 => ⟨?_, fun p n => ?_⟩⟩
    · rw [w1.length]
      exact Nat.le_trans hl (by decide)
    · obtain ⟨k3, q⟩ := EPost.of E1 k1 (Same.new n) (z_tup E1.tr n w1)
      exact hQ _ _ k3 q
  · cases hm
theorem q_lst {es : List PySem.Expr} {ms : MA} (h : PA X es (tAA X.K ms)) : PE X (.List es pos) (tM X.K (mLst ms)) := by
  refine PE_imp (L2.pe_lst h) fun σ H Q ⟨B, pot, os, env, st, E, e, st', hm, hQ⟩ => ?_
  obtain ⟨x, ex, hm⟩ := R.bind_ok hm
  split at hm
  · rename_i hl
    cases hm
    refine ⟨B, pot, os, env, st, E, _, _, ex, fun vs H1 k1 E1 w1 => ⟨?_, fun p n => ?_⟩⟩
    · rw [w1.length]
      exact Nat.le_trans hl (by decide)
    · obtain ⟨k3, q⟩ := EPost.of E1 k1 (Same.new n) (z_lst n w1)
      exact hQ _ _ k3 q
  · cases hm
/-! ### built-ins -/
def CallM (X : Cx) (g : PySem.Value) (f : OB) : Prop := ∃ r, CallR X g r ∧
  ∀ (A : Addr → Prop) (pot : Option Addr) (H : Hp) (xs : List V) (ds : List D) (z : EV), (∀ a, A a → ∃ o, H a = some o) → VwAll X.K H A pot xs ds → f ds = .ok z →
    ∀ Q : L2.VK, (∀ v H', Same H H' → ZPost X.K A H H' v z → Q v H') → r xs H Q
theorem B_imp {f : OB} {r : List V → Hp → L2.VK → Prop} {ms : MA} (hf : ∀ (A : Addr → Prop) (pot : Option Addr) (H : Hp) (xs : List V) (ds : List D) (z : EV), (∀ a, A a → ∃ o, H a = some o) → VwAll X.K H A pot xs ds → f ds = .ok z →
    ∀ Q : L2.VK, (∀ v H', Same H H' → ZPost X.K A H H' v z → Q v H') → r xs H Q) : ∀ σ H Q, tM X.K (mB f ms) σ H Q → L2.tCB r (tVA X.K ms) σ H Q := fun σ H Q ⟨B, pot, os, env, st, E, e, st', hm, hQ⟩ => by
  obtain ⟨x, ex, hm⟩ := R.bind_ok hm
  obtain ⟨z, ez, hm⟩ := R.bind_ok hm
  cases hm
  refine ⟨B, pot, os, env, st, E, _, _, ex, fun vs H1 k1 E1 w1 => ?_⟩
  refine hf (av B os) pot H1 vs _ _ E1.tr w1 ez Q fun v H' s zz => ?_
  obtain ⟨k3, q⟩ := EPost.of E1 k1 s zz
  exact hQ v H' k3 q
theorem q_B {id : String} {x : PySem.Str} {p : PySem.Pos} {f : OB} {ms : MA} {es : List PySem.Expr} (hc : CallM X (.builtin id) f) (hg : L2.Gl X x) (hm : X.mg x = none) (hv : PySem.bootBuiltins x = some (.builtin id)) (ha : PA X (a :: es) (tVA X.K ms))
    (hn : x ≠ "__name__" := by decide) (hd : (x == ("__debug__" : PySem.Str)) = false := by decide) (hs : PySem.starEach (a :: es) X.env = (false, PySem.eval a X.env) :: PySem.starEach es X.env := by rfl)
    (hp : (PySem.backTo pos (PySem.starEach es X.env)).any (·.1) = false := by rfl) : PE X (.Call (.Name x p) (a :: es) [] pos) (tM X.K (mB f ms)) := by
  obtain ⟨r, hr, hf⟩ := hc
  exact PE_imp (L2.pe_callB hr hg hm hv ha hn hd hs hp) (B_imp hf)
theorem q_T {T : String} {x : PySem.Str} {p : PySem.Pos} {f : OB} {ms : MA} {es : List PySem.Expr} (hc : CallM X (.type T) f) (hg : L2.Gl X x) (hm : X.mg x = none) (hv : PySem.bootBuiltins x = some (.type T)) (ha : PA X (a :: es) (tVA X.K ms))
    (hn : x ≠ "__name__" := by decide) (hd : (x == ("__debug__" : PySem.Str)) = false := by decide) (hs : PySem.starEach (a :: es) X.env = (false, PySem.eval a X.env) :: PySem.starEach es X.env := by rfl)
    (hp : (PySem.backTo pos (PySem.starEach es X.env)).any (·.1) = false := by rfl) : PE X (.Call (.Name x p) (a :: es) [] pos) (tM X.K (mB f ms)) := by
  obtain ⟨r, hr, hf⟩ := hc
  exact PE_imp (L2.pe_callTy hr hg hm hv ha hn hd hs hp) (B_imp hf)
end
end BP

namespace BP
open PySem PySem.Spec
open PyProof.Rows
open L2 (V Hp HO TE TT TA TS TG TI It Ends Cx PE PT PW PA PS PSs PG PI Inv upd upd_same upd_ne OpR UnR CallR Same VK XK Sp Room Vals RelV FnScope PK)
/-! ### a def's promise where no repr is under way -/
abbrev Cxe := List PySem.Env → Hp → Shared → XK → Value → Shared → Prop
structure FnG (P : Program) (w : World) (K : W.Frag) (mg : Str → Option Value) (base : Heap) (CX : Cxe) (k : Nat) (f : Addr) (fd : FuncData) (ps : List Str) (sp : Sp) : Prop where
  many : ∀ vs H Q E, sp vs H Q E → vs.length = ps.length
  go : ∀ (A : Around) (outer : List PySem.Env) (s : Shared) (H : Hp) (args : Args) (us : List Value) (vs : List V) (Q : VK) (E : XK), Room k A → A.guards = some [] →
    L2.Env0 P w K mg base A outer s H → BindsTo s fd args (ps.zip us) → Vals vs us → sp vs H Q E → codeAny (model P w) A (.call (.ref f) args) (L2.CR CX outer P w H s Q E) s
section
variable {P : Program} {w : World} {K : W.Frag} {mg : Str → Option Value} {base : Heap} {CX : Cxe}
theorem FnG.up {j k : Nat} {f : Addr} {fd : FuncData} {ps : List Str} {sp : Sp} (F : FnG P w K mg base CX j f fd ps sp) (h : j ≤ k) : FnG P w K mg base CX k f fd ps sp :=
  ⟨F.many, fun A outer s H args us vs Q E hr => F.go A outer s H args us vs Q E (hr.mono h)⟩
/-- by its body -/
theorem fnG_of {k : Nat} {f : Addr} {x : Str} {params : Arguments} {body : List Stmt} {scope : Scope} {fd : FuncData} {N ps : List Str} {sp : Sp} (F : L2.FunD K x x params body scope [] [] f fd) (S : FnScope N ps scope)
    (many : ∀ vs H Q E, sp vs H Q E → vs.length = ps.length)
    (hbody : ∀ (cdv : Value) (A : Around) (outer : List PySem.Env) (s : Shared) (H : Hp) (vs : List V) (Q : VK) (E : XK), Room k (A.deeper (envOfC x scope s.heap.objs.size f cdv)) → A.guards = some [] → sp vs H Q E →
      ∃ t, PSs (L2.cxOf CX P w K mg base N x scope f cdv A outer s H E) body t ∧ t { nx := fun _ H' => Q .non H', rt := Q } (L2.start N vs) H) : FnG P w K mg base CX (k + 1) f fd ps sp := by
  obtain ⟨oc, od, dV, kV, doc, pm, an, cdv, ct, osl, rfl, lk, hcd, _, _⟩ := F.ex
  refine ⟨many, fun A outer s H args us vs Q E hr hgd e0 hb r hsp => ?_⟩
  have hl := many _ _ _ _ hsp
  have old : ∀ b o, base.get? b = some o → s.heap.get? b = some o := fun b o e => (e0.bs b o e).1
  have inK : K.In s.heap := e0.mod.kin.keeps old
  refine codeAny_call_function hr.depth (inK _ _ lk) rfl S.co S.gen rfl (W.codeRec_of inK hcd) (hb _ _ _ _ ?_)
  refine wpAny_newFunctionEnv_cells S.kind (fun y hy => ?_) fun env he s1 xc => ?_
  · rcases S.par y.1 (List.of_mem_zip (show (y.1, y.2) ∈ _ from hy)).1 with q | q
    · exact Or.inl q
    · exact Or.inr ⟨q, W.cellsFrom_some _ _ _ (Or.inl q)⟩
  subst he
  refine ⟨(e0.mod.nolimit.keeps old).keeps xc.toInCall.keep, codeAny_func ?_⟩
  obtain ⟨t, ht, hq⟩ := hbody cdv A outer s H vs Q E (hr.deeper _) hgd hsp
  have I := L2.inv_start (CX := CX) (E := E) (qual := x) (cd := cdv) S hr.hd e0 hl r xc
  refine wpAny_mono (ht.run [] s1 _ H _ I hq) (fun fl s' hs => ?_) fun _ _ hs => hs
  have out : ∀ {σ' : L2.St} {H' : Hp} {v : V} {u : Value}, Inv (L2.cxOf CX P w K mg base N x scope f cdv A outer s H E) [] σ' H' s' → RelV v u → Q v H' → L2.CE outer P w H s Q u s' :=
    fun {_ H' v _} J rv q => ⟨v, H', J.os, J.bare, J.base, J.hok, rv, q⟩
  cases fl with
  | next =>
    obtain ⟨_, H', J, q⟩ := hs
    exact out (v := .non) J rfl q
  | ret u =>
    obtain ⟨v, _, H', J, rv, q⟩ := hs
    exact out J rv q
  | cont => exact hs.choose_spec.choose_spec.2.elim
  | brk => exact hs.choose_spec.choose_spec.2.elim
end
section
variable {X : Cx} {CX : Cxe} {k : Nat} {f : Addr} {fd : FuncData} {ps : List Str} {sp : Sp} {E : XK} {x : Str} {p pos : Pos} {e : Expr} {es : List Expr} {t tk : TA}
/-- what an exception that leaves a callee does here -/
def Lets (CX : Cxe) (X : Cx) (E : XK) : Prop := ∀ (pins : List (PySem.Addr × Obj)) (σ : L2.St) (H : Hp) (s : Shared) (e : Value) (s' : Shared), Inv X pins σ H s → CX X.stack H s E e s' → X.xe e s'
theorem runG {pins : List (PySem.Addr × Obj)} {σ : L2.St} {H : Hp} {s : Shared} {Q : VK} {args : Args} {us : List Value} {vs : List V} (F : FnG X.prog X.w X.K X.mg X.base CX k f fd ps sp) (hr : Room k X.A) (hgd : X.A.guards = some []) (hx : Lets CX X E)
    (I : Inv X pins σ H s) (hb : BindsTo s fd args (ps.zip us)) (r : Vals vs us) (h : sp vs H Q E) : codeAny (model X.prog X.w) X.A (.call (.ref f) args) (fun r s' => match r with
      | .ok (.ret u) => L2.EP X pins σ Q u s'
      | .ok _ => False
      | .error e => X.xe e s') s := by
  refine codeAny_mono (F.go X.A X.stack s H args us vs Q E hr hgd I.env0 hb r h) fun r s' hq => ?_
  cases r with
  | error e => exact hx pins σ H s e s' I hq
  | ok fl =>
    cases fl with
    | ret u => exact I.after hq
    | next => exact False.elim hq
    | brk => exact False.elim hq
    | cont => exact False.elim hq
theorem callG (F : FnG X.prog X.w X.K X.mg X.base CX k f fd ps sp) (hr : Room k X.A) (hgd : X.A.guards = some []) (hg : L2.Gl X x) (hm : X.mg x = some (.ref f)) (hk : W.keepIn X.K (.ref f) = true) (hb : L2.Binds X.K fd ps []) (hx : Lets CX X E)
    (ha : PA X (e :: es) t) (hd : (x == ("__debug__" : Str)) = false) (he : starEach (e :: es) X.env = (false, eval e X.env) :: starEach es X.env) (hp : (backTo pos (starEach es X.env)).any (·.1) = false) :
    PE X (.Call (.Name x p) (e :: es) [] pos) fun σ H Q => t σ H fun vs H1 => sp vs H1 Q E := by
  refine ⟨fun pins s σ H Q I h => wpAny_Call_Name_kw (L2.ld_glob I hg hm ?_ hd)⟩
  refine W.callWith_K (h₀ := X.base) I.ok.mod.kin hk (L2.thn (ha.run pos pins s σ H _ I h) fun us s1 ⟨vs, H1, I1, r, q⟩ => ⟨I1.kIn, ?_⟩) he hp
  have hl : us.length = ps.length := by
    rw [← r.length]
    exact F.many _ _ _ _ q
  have hb1 := hb s1 us I1.kIn (by rw [List.append_nil]; exact hl)
  rw [List.append_nil] at hb1
  refine wpAny_call (codeAny_mono (runG F hr hgd hx I1 hb1 r q) fun r s' hq => ?_)
  cases r with
  | error e => exact hq
  | ok fl =>
    cases fl with
    | ret u => exact hq
    | next => exact hq.elim
    | brk => exact hq.elim
    | cont => exact hq.elim
/-- with keywords: ord tells where in the parameters' order the written values go -/
theorem callGK {n : Nat} {ks : List Str} {g : {α : Type} → List α → List α → List α} {kws : List Keyword} (F : FnG X.prog X.w X.K X.mg X.base CX k f fd ps sp) (hr : Room k X.A) (hgd : X.A.guards = some []) (hg : L2.Gl X x) (hm : X.mg x = some (.ref f)) (hk : W.keepIn X.K (.ref f) = true)
    (hb : ∀ (s : Shared) (us ws : List Value), us.length = n → ws.length = ks.length → BindsTo s fd ⟨us, ks.zip ws⟩ (ps.zip (g us ws))) (hrel : ∀ {vs zs : List V} {us ws : List Value}, Vals vs us → Vals zs ws → Vals (g vs zs) (g us ws)) (hx : Lets CX X E)
    (ha : PA X (e :: es) t) (hkw : PK X kws tk) (hall : (backToKw pos (keywordEach kws X.env)).all (·.1.isSome) = true) (hks : (backToKw pos (keywordEach kws X.env)).filterMap (·.1) = ks)
    (hd : (x == ("__debug__" : Str)) = false) (he : starEach (e :: es) X.env = (false, eval e X.env) :: starEach es X.env)
    (hp : ((backTo pos (starEach (e :: es) X.env)).any (·.1) || (backToKw pos (keywordEach kws X.env)).any (·.1.isNone)) = false) :
    PE X (.Call (.Name x p) (e :: es) kws pos) fun σ H Q => t σ H fun vs H1 => tk σ H1 fun zs H2 => vs.length = n ∧ zs.length = ks.length ∧ sp (g vs zs) H2 Q E := by
  refine ⟨fun pins s σ H Q I h => wpAny_Call_Name_kw (L2.ld_glob I hg hm ?_ hd)⟩
  refine W.callWith_KW (h₀ := X.base) I.ok.mod.kin hk hall (L2.thn (ha.run pos pins s σ H _ I h) fun us s1 ⟨vs, H1, I1, r, q⟩ => ?_) hp he
  refine L2.thn (hkw.run pos pins s1 σ H1 _ I1 q) fun ws s2 ⟨zs, H2, I2, rz, l1, l2, q2⟩ => ⟨I2.kIn, ?_⟩
  rw [hks]
  refine wpAny_call (codeAny_mono (runG F hr hgd hx I2 (hb s2 us ws (r.length.symm.trans l1) (rz.length.symm.trans l2)) (hrel r rz) q2) fun r s' hq => ?_)
  cases r with
  | error e => exact hq
  | ok fl =>
    cases fl with
    | ret u => exact hq
    | next => exact hq.elim
    | brk => exact hq.elim
    | cont => exact hq.elim
end
/-! ### the law's head -/
/-- from an abstract heap that tracks the script at most -/
theorem headG1 {P : Program} {w : World} {K : W.Frag} {mg mb : Str → Option Value} {k : Nat} {fa a : PySem.Addr} {fd : FuncData} {x : Str} {sp : Sp} {s₁ : Shared} {vs : List Value} {H : Hp} (inK : K.In s₁.heap) (hG : s₁.heap.Ns mainGlobals mg)
    (hB : s₁.heap.Ns builtinsNs mb) (hBB : ∀ x : Str, x ≠ "__name__" → mb x = bootBuiltins x) (hL : s₁.heap.NoLimit) (hg : s₁.gens = #[]) (hS : ∃ o es ep, s₁.heap.get? sysModules = some o ∧ o.data = .dict es ep)
    (ha : s₁.heap.get? a = some { cls := .type "list", data := .seq vs.toArray }) (hr : Room k callerA)
    (F : ∀ base : Heap, K.In base → base.Ns mainGlobals mg → (∃ o, base.get? sysModules = some o) → FnG P w K mg base L2.CX0 k fa fd [x] sp) (hbind : ∀ (s : Shared) (u : Value), BindsTo s fd ⟨[u], []⟩ [(x, u)])
    (hsp : sp [.ref a] H (fun v _ => v = .bl true) fun _ _ _ => False) (hok : L2.HOk P w H s₁.heap) (one : ∀ b, H b ≠ none → b = a) (off : H a ≠ none → K.lookup a = none) (frz : ∀ b u, H b = some u → ∃ o xs, u = .frz o (.lst xs)) :
    codeAny (model P w) callerA (.call (.ref fa) ⟨[.ref a], []⟩) (fun r s' => r = .ok (.ret (.bool true)) ∧ OldK s₁.heap s'.heap ∧ s'.os = s₁.os ∧ AllBare s'.gens) s₁ := by
  have dictFree : ∀ {b : PySem.Addr} {o : Obj} {es : Array DictEntry} {ep : Nat}, s₁.heap.get? b = some o → o.data = .dict es ep → H b = none := fun {b o es ep} e d => by
    cases q : H b with
    | none => rfl
    | some u =>
      have z := one b (by rw [q]; exact Option.some_ne_none u)
      rw [z, ha] at e
      cases e
      cases d
  have nsFree : ∀ {b : PySem.Addr} {m : Str → Option Value}, s₁.heap.Ns b m → (L2.hidT s₁.heap H).Ns b m := fun ⟨o, es, ep, e, d, r⟩ => ⟨o, es, ep, L2.hidT_get e (dictFree e d), d, r⟩
  have inKb : K.In (L2.hidT s₁.heap H) := fun b o e => L2.hidT_get (inK b o e) (by
    cases q : H b with
    | none => rfl
    | some u =>
      have z := one b (by rw [q]; exact Option.some_ne_none u)
      rw [z] at e q
      rw [off (by rw [q]; exact Option.some_ne_none u)] at e
      cases e)
  obtain ⟨mc, l1, l2⟩ := hL
  obtain ⟨oS, eS, pS, s1, s2⟩ := hS
  have e0 : L2.Env0 P w K mg (L2.hidT s₁.heap H) callerA [] s₁ H :=
    ⟨rfl, ⟨inKb, nsFree hG, ⟨mb, nsFree hB, hBB⟩, ⟨mc, nsFree l1, l2⟩⟩, fun b o e => L2.of_hidT e, Nat.le_of_eq (L2.hidT_size _ _), trivial, fun b hb => (List.not_mem_nil hb).elim, hok, .of_eq hg⟩
  refine codeAny_mono ((F _ inKb (nsFree hG) ⟨oS, L2.hidT_get s1 (dictFree s1 s2)⟩).go callerA [] s₁ H ⟨[.ref a], []⟩ [.ref a] [.ref a] _ _ hr rfl e0 (hbind s₁ (.ref a)) (.cons rfl .nil) hsp) fun r s' h => ?_
  cases r with
  | error e => exact False.elim h
  | ok fl =>
    cases fl with
    | next => exact False.elim h
    | brk => exact False.elim h
    | cont => exact False.elim h
    | ret u =>
      obtain ⟨v, H', os, bare, un, hok', rv, ev⟩ := h
      have ev2 : v = .bl true := ev
      rw [ev2] at rv
      cases (show u = Value.bool true from rv)
      refine ⟨rfl, OldK.of_keep fun b o e => ?_, os, bare⟩
      cases q : H b with
      | none => exact un.keep b o e q (fun z => List.not_mem_nil z) fun z => List.not_mem_nil z
      | some u =>
        obtain ⟨ob, xs, z⟩ := frz b u q
        rw [z] at q
        have e1 := (hok b _ q).1
        rw [e] at e1
        cases e1
        exact (hok' b _ (un.frzs b _ _ q)).1
theorem headG {P : Program} {w : World} {K : W.Frag} {mg mb : Str → Option Value} {k : Nat} {fa a : PySem.Addr} {fd : FuncData} {x : Str} {sp : Sp} {s₁ : Shared} {vs : List Value} {ns : List Int} (inK : K.In s₁.heap) (hG : s₁.heap.Ns mainGlobals mg)
    (hB : s₁.heap.Ns builtinsNs mb) (hBB : ∀ x : Str, x ≠ "__name__" → mb x = bootBuiltins x) (hL : s₁.heap.NoLimit) (hg : s₁.gens = #[]) (hS : ∃ o es ep, s₁.heap.get? sysModules = some o ∧ o.data = .dict es ep)
    (ha : s₁.heap.get? a = some { cls := .type "list", data := .seq vs.toArray }) (hi : IntsAre vs ns) (hl : ns.length ≤ sizeLine) (hr : Room k callerA)
    (F : ∀ base : Heap, K.In base → base.Ns mainGlobals mg → (∃ o, base.get? sysModules = some o) → FnG P w K mg base L2.CX0 k fa fd [x] sp) (hbind : ∀ (s : Shared) (u : Value), BindsTo s fd ⟨[u], []⟩ [(x, u)])
    (hsp : ∀ H : Hp, (∀ b u, H b = some u → ∃ o xs, u = .frz o (.lst xs)) → L2.SqL K H a (ns.map V.int) → sp [.ref a] H (fun v _ => v = .bl true) fun _ _ _ => False) :
    codeAny (model P w) callerA (.call (.ref fa) ⟨[.ref a], []⟩) (fun r s' => r = .ok (.ret (.bool true)) ∧ OldK s₁.heap s'.heap ∧ s'.os = s₁.os ∧ AllBare s'.gens) s₁ := by
  have rv : Vals (ns.map V.int) vs := L2.vals_ints hi
  have many := hi.length
  cases hk : K.lookup a with
  | some o =>
    have e := inK a o hk
    rw [ha] at e
    cases e
    refine headG1 (H := fun _ => none) inK hG hB hBB hL hg hS ha hr F hbind (hsp _ (fun _ _ z => (Option.some_ne_none _ z.symm).elim) (.inr ⟨_, vs.toArray, _, hk, rfl, rfl, rfl, ?_, by simpa using rv⟩)) (fun _ _ z => (Option.some_ne_none _ z.symm).elim) (fun b z => absurd rfl z) (fun z => absurd rfl z) fun _ _ z => (Option.some_ne_none _ z.symm).elim
    rw [List.size_toArray, many]
    exact hl
  | none =>
    let H : Hp := fun b => if b = a then some (.frz { cls := .type "list", data := .seq vs.toArray } (.lst (ns.map V.int))) else none
    have at_a : H a = some (.frz { cls := .type "list", data := .seq vs.toArray } (.lst (ns.map V.int))) := if_pos rfl
    have els : ∀ b, b ≠ a → H b = none := fun b hb => if_neg hb
    have some_ : ∀ b u, H b = some u → b = a ∧ u = .frz { cls := .type "list", data := .seq vs.toArray } (.lst (ns.map V.int)) := fun b u z => by
      by_cases hb : b = a
      · rw [hb, at_a] at z
        exact ⟨hb, (Option.some.inj z).symm⟩
      · rw [els b hb] at z
        cases z
    refine headG1 (H := H) inK hG hB hBB hL hg hS ha hr F hbind (hsp H (fun b u z => ⟨_, _, (some_ b u z).2⟩) (.inl (.inr ⟨_, at_a⟩))) (fun b u z => ?_) (fun b z => ?_) (fun _ => hk) fun b u z => ⟨_, _, (some_ b u z).2⟩
    · obtain ⟨rfl, rfl⟩ := some_ b u z
      refine ⟨ha, ?_, vs, _, rv, ha⟩
      rw [List.length_map]
      exact hl
    · by_cases hb : b = a
      · exact hb
      · exact absurd (els b hb) z
/-- what the head's Hook has to tell: the written part holds, and sys.modules is a dict -/
theorem walkG {l : W.OpenLaw} {n k : Nat} {q : Program} {loose : List Str} {XP : (Str → Option Value) → Heap → Prop} {YP : World → Heap → Prop} {d : DefRec} {x : Str} (hn : l.most = some n) (hn2 : n ≤ sizeLine) (hdf : d.params.defaults = []) (hr : Room k callerA)
    (F : ∀ (w : World) (mg : Str → Option Value) (fa : PySem.Addr) (h : Heap), YP w h → h.Ns mainGlobals mg → mg d.name = some (.ref fa) → (∃ o es ep, h.get? sysModules = some o ∧ o.data = .dict es ep) ∧
      ∃ (K : W.Frag) (fd : FuncData) (sp : Sp), K.In h ∧ (∀ (s : Shared) (u : Value), BindsTo s fd ⟨[u], []⟩ [(x, u)]) ∧
        (∀ (H : Hp) (a : PySem.Addr) (ns : List Int), ns.length ≤ n → (∀ b u, H b = some u → ∃ o xs, u = .frz o (.lst xs)) → L2.SqL K H a (ns.map V.int) → sp [.ref a] H (fun v _ => v = .bl true) fun _ _ _ => False) ∧
        ∀ base : Heap, K.In base → base.Ns mainGlobals mg → (∃ o, base.get? sysModules = some o) → FnG l.prog w K mg base L2.CX0 k fa fd [x] sp) :
    W.WalkO q loose XP YP l.row.toRowW d [] (fun f vs => PySem.call f vs) := by
  refine Att.attach_call hn hdf fun w s₀ s₁ mg mb fa o pm cd doc a vs ns G Y ho hd hcd hmg hobj hints hlen hg => ?_
  obtain ⟨hS, K, fd, sp, inK, hb, hsp, hF⟩ := F w mg fa _ Y G.T.g hmg
  exact headG inK G.T.g G.T.b G.T.builtins G.T.nolimit hg hS hobj hints (Nat.le_trans hlen hn2) hr hF hb fun H hO hS => hsp H a ns hlen hO hS
end BP

namespace BP
open L2 (V Hp HO St TE TT TA TS TG TI It Ends Cx PE PT PW PA PS PSs PG PI Inv upd upd_same upd_ne OpR UnR CallR Same VK XK Sp Room Vals RelV FnScope PK CX0 E0)
/-! ### slots -/
theorem setE_len : ∀ (env : Env) (i : Nat) (x : EV), (setE env i x).length = env.length
  | [], _, _ => rfl
  | _ :: _, 0, _ => rfl
  | _ :: r, i + 1, x => congrArg Nat.succ (setE_len r i x)
theorem getE_ne : ∀ (env : Env) (i j : Nat) (x : EV), j ≠ i → getE (setE env i x) j = getE env j
  | [], _, _, _, _ => rfl
  | _ :: _, 0, 0, _, h => absurd rfl h
  | _ :: _, 0, _ + 1, _, _ => rfl
  | _ :: _, _ + 1, 0, _, _ => rfl
  | _ :: r, i + 1, j + 1, x, h => getE_ne r i j x fun z => h (congrArg Nat.succ z)
theorem getE_same : ∀ (env : Env) (i : Nat) (x : EV), i < env.length → getE (setE env i x) i = x
  | [], _, _, h => absurd h (Nat.not_lt_zero _)
  | _ :: _, 0, _, _ => rfl
  | _ :: r, i + 1, x, h => getE_same r i x (Nat.lt_of_succ_lt_succ h)
theorem getE_out : ∀ (env : Env) (i : Nat), env.length ≤ i → getE env i = .no
  | [], _, _ => rfl
  | _ :: _, 0, h => absurd h (Nat.not_succ_le_zero _)
  | _ :: r, i + 1, h => getE_out r i (Nat.le_of_succ_le_succ h)
theorem setE_out : ∀ (env : Env) (i : Nat) (x : EV), env.length ≤ i → setE env i x = env
  | [], _, _, _ => rfl
  | _ :: _, 0, _, h => absurd h (Nat.not_succ_le_zero _)
  | e :: r, i + 1, x, h => congrArg (e :: ·) (setE_out r i x (Nat.le_of_succ_le_succ h))
section
variable {K : PySem.W.Frag} {B : Addr → Prop} {pot : Option Addr} {os : List (Option Addr)} {H H1 H2 H' : Hp} {σ : St} {env : Env} {st st' : Pt} {v : V} {e : EV} {d : D} {i : Nat}
theorem set_none_at {os : List (Option Addr)} {i j : Nat} {a : Addr} (h : (os.set i none)[j]? = some (some a)) : os[j]? = some (some a) ∧ j ≠ i := by
  by_cases z : i = j
  · subst z
    by_cases l : i < os.length
    · rw [List.getElem?_set_self l] at h
      cases h
    · rw [List.getElem?_eq_none (by rw [List.length_set]; exact Nat.le_of_not_lt l)] at h
      cases h
  · rw [List.getElem?_set_ne z] at h
    exact ⟨h, fun y => z y.symm⟩
theorem av_set {i : Nat} (a : Addr) (h : av B (os.set i none) a) : av B os a := by
  rcases h with h | h
  · exact .inl h
  · obtain ⟨j, hj, e⟩ := List.getElem_of_mem h
    exact .inr (List.mem_of_getElem? (set_none_at (i := i) (by rw [List.getElem?_eq_getElem hj, e])).1)
/-- a slot is stored, or forgotten -/
theorem ERep.set0 {x : Option V} (E : ERep K B pot os H σ env st) (hp : isPt (getE env i) = false) (h1 : ∀ ds, e ≠ .ow ds) (h2 : ∀ ds, e ≠ .bo ds) (h3 : e ≠ .pt) (h6 : ∀ ns, e ≠ .fz ns) (hd : ∀ d, e = .im d → ∃ v, x = some v ∧ Dr K H (av B os) v d) :
    ERep K B pot (os.set i none) H (σ.set i x) (setE env i e) st := by
  have kk : ∀ b o, H b = some o → ¬ av B os b → H b = some o ∧ ¬ av B (os.set i none) b := fun b o h z => ⟨h, fun y => z (av_set b y)⟩
  have l1 := E.l1
  have l2 := E.l2
  have np : ∀ {j : Nat}, getE env j = .pt → j ≠ i := fun {j} h z => by
    rw [← z, h] at hp
    cases hp
  refine ⟨E.bt, by rw [List.length_set, setE_len]; exact l1, by rw [List.length_set, setE_len]; exact l2, fun j d h => ?_, fun j ds h => ?_, fun j ds h => ?_, fun j ns h => ?_, fun j a h => ?_, fun j k a h h' => E.inj j k a (set_none_at h).1 (set_none_at h').1, fun j h => ?_, fun p h => ?_⟩
  · by_cases z : j = i
    · subst z
      by_cases l : j < env.length
      · rw [getE_same env j e l] at h
        obtain ⟨v, rfl, q⟩ := hd d h
        exact ⟨v, by rw [List.getElem?_set_self (by omega)], q.to kk⟩
      · rw [getE_out _ _ (by rw [setE_len]; omega)] at h
        cases h
    · rw [getE_ne _ _ _ _ z] at h
      obtain ⟨x, e1, e2⟩ := E.slot j d h
      exact ⟨x, by rw [List.getElem?_set_ne (fun y => z y.symm)]; exact e1, e2.to kk⟩
  · by_cases z : j = i
    · subst z
      by_cases l : j < env.length
      · rw [getE_same env j e l] at h
        exact absurd h (h1 ds)
      · rw [getE_out _ _ (by rw [setE_len]; omega)] at h
        cases h
    · rw [getE_ne _ _ _ _ z] at h
      obtain ⟨a, vs, e1, e2, e3, e4⟩ := E.own j ds h
      exact ⟨a, vs, by rw [List.getElem?_set_ne (fun y => z y.symm)]; exact e1, by rw [List.getElem?_set_ne (fun y => z y.symm)]; exact e2, e3, e4.to kk⟩
  · by_cases z : j = i
    · subst z
      by_cases l : j < env.length
      · rw [getE_same env j e l] at h
        exact h2 ds h
      · rw [getE_out _ _ (by rw [setE_len]; omega)] at h
        cases h
    · rw [getE_ne _ _ _ _ z] at h
      exact E.nb j ds h
  · by_cases z : j = i
    · subst z
      by_cases l : j < env.length
      · rw [getE_same env j e l] at h
        exact absurd h (h6 ns)
      · rw [getE_out _ _ (by rw [setE_len]; omega)] at h
        cases h
    · rw [getE_ne _ _ _ _ z] at h
      obtain ⟨a, e1, e2⟩ := E.fz j ns h
      exact ⟨a, by rw [List.getElem?_set_ne (fun y => z y.symm)]; exact e1, e2⟩
  · obtain ⟨h4, h5⟩ := set_none_at h
    obtain ⟨e1, ds, e2⟩ := E.ad j a h4
    exact ⟨e1, ds, by rw [getE_ne _ _ _ _ h5]; exact e2⟩
  · by_cases z : j = i
    · subst z
      by_cases l : j < env.length
      · rw [getE_same env j e l] at h
        exact absurd h h3
      · rw [getE_out _ _ (by rw [setE_len]; omega)] at h
        cases h
    · rw [getE_ne _ _ _ _ z] at h
      exact E.pt j h
  · obtain ⟨e1, e2, e3, e4⟩ := E.pot p h
    have z := np e2
    exact ⟨by rw [List.getElem?_set_ne (fun y => z y.symm)]; exact e1, by rw [getE_ne _ _ _ _ z]; exact e2, e3, e4⟩
theorem ERep.setI (E : ERep K B pot os H σ env st) (hp : isPt (getE env i) = false) (h : Dr K H (av B os) v d) : ERep K B pot (os.set i none) H (σ.set i (some v)) (setE env i (.im d)) st :=
  E.set0 hp (fun _ z => nomatch z) (fun _ z => nomatch z) (fun z => nomatch z) (fun _ z => nomatch z) fun _ z => by
    cases z
    exact ⟨v, rfl, h⟩
theorem ERep.frz {ds : List D} (E : ERep K B pot os H σ env st) (h : getE env i = .ow ds) : ERep K B pot (os.set i none) H σ (setE env i (.im (.list ds))) st := by
  obtain ⟨a, vs, e1, e2, e3, e4⟩ := E.own i ds h
  have hp : isPt (getE env i) = false := by rw [h]; rfl
  have off : ¬ av B (os.set i none) a := fun z => by
    rcases z with z | z
    · exact (E.ad i a e1).1 z
    · obtain ⟨j, hj, q⟩ := List.getElem_of_mem z
      obtain ⟨q1, q2⟩ := set_none_at (i := i) (by rw [List.getElem?_eq_getElem hj, q])
      exact q2 (E.inj j i a q1 e1)
  have E1 := E.set0 (x := some (.ref a)) (e := .no) hp (fun _ z => nomatch z) (fun _ z => nomatch z) (fun z => nomatch z) (fun _ z => nomatch z) fun _ z => nomatch z
  have e5 : σ.set i (some (.ref a)) = σ := by
    obtain ⟨hl, q⟩ := List.getElem?_eq_some_iff.mp e2
    rw [← q]
    exact List.set_getElem_self hl
  have kk : ∀ b o, H b = some o → ¬ av B os b → H b = some o ∧ ¬ av B (os.set i none) b := fun b o h z => ⟨h, fun y => z (av_set b y)⟩
  have E2 := E1.set0 (i := i) (x := some (.ref a)) (e := .im (.list ds)) (by
    by_cases l : i < env.length
    · rw [getE_same _ _ _ l]; rfl
    · rw [getE_out _ _ (by rw [setE_len]; omega)]; rfl) (fun _ z => nomatch z) (fun _ z => nomatch z) (fun z => nomatch z) (fun _ z => nomatch z) fun d z => by
      cases z
      refine ⟨_, rfl, .lst ?_ e3 ((e4.to kk))⟩
      exact off
  rw [e5, e5] at E2
  have e6 : setE (setE env i .no) i (.im (.list ds)) = setE env i (.im (.list ds)) := by
    clear E2 E1 e5 hp off
    induction env generalizing i with
    | nil => rfl
    | cons x r ih =>
      cases i with
      | zero => rfl
      | succ i =>
        show x :: setE (setE r i .no) i _ = x :: setE r i _
        congr 1
        have : ∀ (r : Env) (i : Nat) (a b : EV), setE (setE r i a) i b = setE r i b := fun r => by
          induction r with
          | nil => intro i a b; rfl
          | cons y r ih =>
            intro i a b
            cases i with
            | zero => rfl
            | succ i => exact congrArg (y :: ·) (ih i a b)
        exact this r i _ _
  rw [e6] at E2
  have e7 : (os.set i none).set i none = os.set i none := by rw [List.set_set]
  rw [e7] at E2
  exact E2
/-- an own list is changed -/
theorem ERep.chg {ds ds' : List D} {vs' : List V} {a : Addr} (E : ERep K B pot os H σ env st) (h : getE env i = .ow ds) (e1 : os[i]? = some (some a)) (hd : DrAll K H (av B os) vs' ds') : ERep K B pot os (upd H a (.lst vs')) σ (setE env i (.ow ds')) st := by
  have ha : av B os a := .inr (List.mem_of_getElem? e1)
  have keep : ∀ b o, H b = some o → ¬ av B os b → upd H a (.lst vs') b = some o ∧ ¬ av B os b := fun b o q z => ⟨by
    rw [upd_ne (fun y => z (by rw [y]; exact ha))]
    exact q, z⟩
  have il : i < env.length := by
    by_cases l : i < env.length
    · exact l
    · rw [getE_out _ _ (by omega)] at h
      cases h
  refine ⟨fun b hb => ?_, by rw [setE_len]; exact E.l1, by rw [setE_len]; exact E.l2, fun j d q => ?_, fun j es q => ?_, fun j es q => ?_, fun j ns q => ?_, fun j b q => ?_, E.inj, fun j q => ?_, fun p q => ?_⟩
  case refine_5 =>
    by_cases z : j = i
    · rw [z, getE_same _ _ _ il] at q
      cases q
    · rw [getE_ne _ _ _ _ z] at q
      obtain ⟨b, q1, q2⟩ := E.fz j ns q
      refine ⟨b, q1, q2.to fun o y => ?_⟩
      rw [upd_ne fun u => ?_]
      · exact y
      · obtain ⟨us, y2⟩ := E.own_at (List.mem_of_getElem? e1)
        rw [u, y2] at y
        cases y
  · by_cases z : b = a
    · rw [z]
      exact ⟨_, upd_same⟩
    · obtain ⟨o, q⟩ := E.bt b hb
      exact ⟨o, by rw [upd_ne z]; exact q⟩
  · by_cases z : j = i
    · rw [z, getE_same _ _ _ il] at q
      cases q
    · rw [getE_ne _ _ _ _ z] at q
      obtain ⟨x, q1, q2⟩ := E.slot j d q
      exact ⟨x, q1, q2.to keep⟩
  · by_cases z : j = i
    · rw [z, getE_same _ _ _ il] at q
      cases q
      obtain ⟨a', vs0, q1, q2, _, _⟩ := E.own i ds h
      rw [e1] at q1
      cases q1
      rw [z]
      exact ⟨a, vs', e1, q2, upd_same, hd.to keep⟩
    · rw [getE_ne _ _ _ _ z] at q
      obtain ⟨b, us, q1, q2, q3, q4⟩ := E.own j es q
      have ne : b ≠ a := fun y => z (E.inj j i a (by rw [← y]; exact q1) e1)
      exact ⟨b, us, q1, q2, by rw [upd_ne ne]; exact q3, q4.to keep⟩
  · by_cases z : j = i
    · rw [z, getE_same _ _ _ il] at q
      cases q
    · rw [getE_ne _ _ _ _ z] at q
      exact E.nb j es q
  · obtain ⟨q1, es, q2⟩ := E.ad j b q
    by_cases z : j = i
    · exact ⟨q1, ds', by rw [z, getE_same _ _ _ il]⟩
    · exact ⟨q1, es, by rw [getE_ne _ _ _ _ z]; exact q2⟩
  · by_cases z : j = i
    · rw [z, getE_same _ _ _ il] at q
      cases q
    · rw [getE_ne _ _ _ _ z] at q
      exact E.pt j q
  · obtain ⟨q1, q2, q3, q4⟩ := E.pot p q
    have z : (0 : Nat) ≠ i := fun y => by
      rw [← y, q2] at h
      cases h
    have ne : p ≠ a := fun y => (E.ad i a e1).1 (by rw [← y]; exact q3)
    exact ⟨q1, by rw [getE_ne _ _ _ _ z]; exact q2, q3, by rw [upd_ne ne]; exact q4⟩
/-- a slot takes a new list of its own -/
theorem ERep.setO {ds : List D} {vs : List V} {p : Addr} (E0 : ERep K B pot os H σ env st') (n : H p = none) (E : ERep K (plus B p) pot os H1 σ env st) (hp : isPt (getE env i) = false) (il : i < env.length) (h1 : H1 p = some (.lst vs)) (h2 : DrAll K H1 (av (plus B p) os) vs ds) :
    ERep K B pot (os.set i (some p)) H1 (σ.set i (some (.ref p))) (setE env i (.ow ds)) st := by
  have l1 := E.l1
  have l2 := E.l2
  have np : ∀ j, os[j]? ≠ some (some p) := fun j q => E0.off n (.inr (List.mem_of_getElem? q))
  have sub : ∀ a, av B (os.set i (some p)) a → av (plus B p) os a := fun a h => by
    rcases h with h | h
    · exact .inl (.inl h)
    · rcases List.mem_or_eq_of_mem_set h with h | h
      · exact .inr h
      · exact .inl (.inr (Option.some.inj h))
  have kk : ∀ b o, H1 b = some o → ¬ av (plus B p) os b → H1 b = some o ∧ ¬ av B (os.set i (some p)) b := fun b o h z => ⟨h, fun y => z (sub b y)⟩
  have at_ : ∀ {j : Nat} {a : Addr}, (os.set i (some p))[j]? = some (some a) → (j = i ∧ a = p) ∨ (j ≠ i ∧ os[j]? = some (some a)) := fun {j a} h => by
    by_cases z : j = i
    · subst z
      rw [List.getElem?_set_self (by omega)] at h
      exact .inl ⟨rfl, (Option.some.inj (Option.some.inj h)).symm⟩
    · rw [List.getElem?_set_ne (fun y => z y.symm)] at h
      exact .inr ⟨z, h⟩
  refine ⟨fun b hb => E.bt b (.inl hb), by rw [List.length_set, setE_len]; exact l1, by rw [List.length_set, setE_len]; exact l2, fun j d h => ?_, fun j es h => ?_, fun j es h => ?_, fun j ns h => ?_, fun j a h => ?_, fun j k a h h' => ?_, fun j h => ?_, fun q h => ?_⟩
  case refine_4 =>
    by_cases z : j = i
    · rw [z, getE_same _ _ _ il] at h
      cases h
    · rw [getE_ne _ _ _ _ z] at h
      obtain ⟨a, e1, e2⟩ := E.fz j ns h
      exact ⟨a, by rw [List.getElem?_set_ne (fun y => z y.symm)]; exact e1, e2⟩
  · by_cases z : j = i
    · rw [z, getE_same _ _ _ il] at h
      cases h
    · rw [getE_ne _ _ _ _ z] at h
      obtain ⟨x, e1, e2⟩ := E.slot j d h
      exact ⟨x, by rw [List.getElem?_set_ne (fun y => z y.symm)]; exact e1, e2.to kk⟩
  · by_cases z : j = i
    · rw [z, getE_same _ _ _ il] at h
      cases h
      rw [z]
      exact ⟨p, vs, by rw [List.getElem?_set_self (by omega)], by rw [List.getElem?_set_self (by omega)], h1, h2.to kk⟩
    · rw [getE_ne _ _ _ _ z] at h
      obtain ⟨a, us, e1, e2, e3, e4⟩ := E.own j es h
      exact ⟨a, us, by rw [List.getElem?_set_ne (fun y => z y.symm)]; exact e1, by rw [List.getElem?_set_ne (fun y => z y.symm)]; exact e2, e3, e4.to kk⟩
  · by_cases z : j = i
    · rw [z, getE_same _ _ _ il] at h
      cases h
    · rw [getE_ne _ _ _ _ z] at h
      exact E.nb j es h
  · rcases at_ h with ⟨rfl, rfl⟩ | ⟨z, h⟩
    · exact ⟨fun y => E0.off n (.inl y), ds, getE_same _ _ _ il⟩
    · obtain ⟨e1, es, e2⟩ := E.ad j a h
      exact ⟨fun y => e1 (.inl y), es, by rw [getE_ne _ _ _ _ z]; exact e2⟩
  · rcases at_ h with ⟨rfl, rfl⟩ | ⟨z, h⟩
    · rcases at_ h' with ⟨rfl, _⟩ | ⟨z', h'⟩
      · rfl
      · exact absurd h' (np k)
    · rcases at_ h' with ⟨_, z2⟩ | ⟨z', h'⟩
      · rw [z2] at h
        exact absurd h (np j)
      · exact E.inj j k a h h'
  · by_cases z : j = i
    · rw [z, getE_same _ _ _ il] at h
      cases h
    · rw [getE_ne _ _ _ _ z] at h
      exact E.pt j h
  · obtain ⟨e1, e2, e3, e4⟩ := E.pot q h
    have z : (0 : Nat) ≠ i := fun y => by
      rw [← y, e2] at hp
      cases hp
    have e6 : B q := by
      rcases e3 with e3 | e3
      · exact e3
      · obtain ⟨_, _, z, _⟩ := E0.pot q h
        exact z
    exact ⟨by rw [List.getElem?_set_ne (fun y => z y.symm)]; exact e1, by rw [getE_ne _ _ _ _ z]; exact e2, e6, e4⟩
end
/-! ### calls of defs -/
def spP (K : PySem.W.Frag) (m : PF) : Sp := fun vs H Q _ => ∃ B ds d, (∀ b, B b → ∃ o, H b = some o) ∧ DrAll K H B vs ds ∧ m ds = .ok d ∧ ∀ v H', Same H H' → Dr K H' B v d → Q v H'
/-- the pot is the first argument -/
def spD (K : PySem.W.Frag) (m : PD) : Sp := fun vs H Q _ => ∃ B p st us ds d st', vs = .ref p :: us ∧ (∀ b, B b → ∃ o, H b = some o) ∧ B p ∧ H p = some (.lst (st.map V.int)) ∧ DrAll K H B us ds ∧ m ds st = .ok (d, st') ∧
  ∀ v H', (∀ b o, H b = some o → b ≠ p → H' b = some o) → H' p = some (.lst (st'.map V.int)) → Dr K H' B v d → Q v H'
section
variable (P : PySem.Program) (w : PySem.World) (K : PySem.W.Frag) (mg : PySem.Str → Option PySem.Value) (base : PySem.Heap)
structure PFn (k : Nat) (x : PySem.Str) (ps : List PySem.Str) (st : PySem.Stmt) (m : PF) : Prop where
  ex : ∃ f fd q, mg x = some (.ref f) ∧ L2.FunD K q q (L2.defArgs st) (L2.defBody st) (L2.defScope st) [] [] f fd ∧ L2.Binds K fd ps [] ∧ FnG P w K mg base CX0 k f fd ps (spP K m)
structure PDn (k : Nat) (x : PySem.Str) (ps : List PySem.Str) (st : PySem.Stmt) (m : PD) : Prop where
  ex : ∃ f fd q, mg x = some (.ref f) ∧ L2.FunD K q q (L2.defArgs st) (L2.defBody st) (L2.defScope st) [] [] f fd ∧ L2.Binds K fd ps [] ∧ FnG P w K mg base CX0 k f fd ps (spD K m)
end
theorem lets0 {X : Cx} : Lets CX0 X E0 := fun _ _ _ _ _ _ _ h => h.elim
section
variable {X : Cx} {a b c : PySem.Expr} {ma mb mc : ME} {pos : PySem.Pos}
theorem q_call {k j : Nat} {x : PySem.Str} {ps : List PySem.Str} {sd : PySem.Stmt} {m : PF} {ms : MA} {es : List PySem.Expr} {p : PySem.Pos} (F : PFn X.prog X.w X.K X.mg X.base k x ps sd m) (hr : Room j X.A) (hgd : X.A.guards = some []) (hg : L2.Gl X x) (ha : PA X (a :: es) (tAA X.K ms))
    (hk : k ≤ j := by decide) (hd : (x == ("__debug__" : PySem.Str)) = false := by decide) (he : PySem.starEach (a :: es) X.env = (false, PySem.eval a X.env) :: PySem.starEach es X.env := by rfl) (hp : (PySem.backTo pos (PySem.starEach es X.env)).any (·.1) = false := by rfl) :
    PE X (.Call (.Name x p) (a :: es) [] pos) (tM X.K (mCall m ms)) := by
  obtain ⟨f, fd, qn, e1, e2, e3, G⟩ := F.ex
  refine PE_imp (callG G (hr.mono hk) hgd hg e1 e2.kp e3 lets0 ha hd he hp) fun σ H Q ⟨B, pot, os, env, st, E, e, st', hm, hQ⟩ => ?_
  obtain ⟨y, ey, hm⟩ := R.bind_ok hm
  obtain ⟨z, ez, hm⟩ := R.bind_ok hm
  cases hm
  refine ⟨B, pot, os, env, st, E, _, _, ey, fun vs H1 k1 E1 w1 => ⟨av B os, _, z, E1.tr, w1, ez, fun v H' s q => ?_⟩⟩
  obtain ⟨k3, q3⟩ := EPost.of E1 k1 s (e := .im z) q
  exact hQ v H' k3 q3
/-- f(e, .., k = v, ..) -/
def tKK (K : PySem.W.Frag) (m : MA) : TA := tAA K m
theorem k_nil : PK X [] (tAA X.K aNil) := ⟨fun pos pins s σ H Q I ⟨B, pot, os, env, st, E, ds, st', hm, hQ⟩ => by
  cases hm
  exact L2.pk_nil.run pos pins s σ H Q I (hQ [] H Keep.refl E .nil)⟩
theorem k_cons {nm : Option PySem.Str} {kpos : PySem.Pos} {kws : List PySem.Keyword} {ms : MA} (ha : PE X a (tM X.K ma)) (hs : PK X kws (tAA X.K ms)) : PK X (⟨nm, a, kpos⟩ :: kws) (tAA X.K (aCons ma ms)) := by
  refine ⟨fun pos pins s σ H Q I ⟨B, pot, os, env, st, E, ds, st', hm, hQ⟩ => (L2.pk_cons ha hs).run pos pins s σ H Q I ?_⟩
  obtain ⟨x, ex, hm⟩ := R.bind_ok hm
  obtain ⟨u, eu, hm⟩ := R.bind_ok hm
  obtain ⟨y, ey, hm⟩ := R.bind_ok hm
  cases hm
  refine ⟨B, pot, os, env, st, E, _, _, ex, fun v1 H1 k1 p1 => ?_⟩
  obtain ⟨E1, w1⟩ := p1.val E eu
  exact ⟨B, pot, os, env, _, E1, _, _, ey, fun vs H2 k2 E2 w2 => hQ _ H2 (k1.trans k2) E2 (.cons (w1.keep E1 k2) w2)⟩
/-- f(pot, e, ..) -/
theorem q_draw {k j : Nat} {x y : PySem.Str} {ps : List PySem.Str} {sd : PySem.Stmt} {m : PD} {ms : MA} {es : List PySem.Expr} {p py : PySem.Pos} (F : PDn X.prog X.w X.K X.mg X.base k x ps sd m) (hr : Room j X.A) (hgd : X.A.guards = some []) (hg : L2.Gl X x) (h0 : PE X (.Name y py) (L2.tVar 0)) (ha : PA X es (tAA X.K ms))
    (hk : k ≤ j := by decide) (hd : (x == ("__debug__" : PySem.Str)) = false := by decide) (he : PySem.starEach (.Name y py :: es) X.env = (false, PySem.eval (.Name y py) X.env) :: PySem.starEach es X.env := by rfl) (hp : (PySem.backTo pos (PySem.starEach es X.env)).any (·.1) = false := by rfl) :
    PE X (.Call (.Name x p) (.Name y py :: es) [] pos) (tM X.K (mDraw m ms)) := by
  obtain ⟨f, fd, qn, e1, e2, e3, G⟩ := F.ex
  refine PE_imp (callG G (hr.mono hk) hgd hg e1 e2.kp e3 lets0 (L2.pa_cons h0 ha he) hd he hp) fun σ H Q ⟨B, pot, os, env, st, E, e, st', hm, hQ⟩ => ?_
  unfold mDraw at hm
  split at hm
  · rename_i h0
    obtain ⟨y, ey, hm⟩ := R.bind_ok hm
    obtain ⟨z, ez, hm⟩ := R.bind_ok hm
    cases hm
    have hpt : getE env 0 = .pt := by
      cases q : getE env 0 with
      | pt => rfl
      | fz _ => rw [q] at h0; cases h0
      | no => rw [q] at h0; cases h0
      | im _ => rw [q] at h0; cases h0
      | ow _ => rw [q] at h0; cases h0
      | bo _ => rw [q] at h0; cases h0
    obtain ⟨p0, hp0⟩ := E.pt 0 hpt
    obtain ⟨s0, _, _, _⟩ := E.pot p0 hp0
    refine ⟨_, s0, B, pot, os, env, st, E, _, _, ey, fun vs H1 k1 E1 w1 => ?_⟩
    obtain ⟨_, _, b1, p1⟩ := E1.pot p0 hp0
    refine ⟨av B os, p0, _, vs, _, z.1, z.2, rfl, E1.tr, .inl b1, p1, w1, ez, fun v H' s q1 q3 => ?_⟩
    have k2 : Keep pot H1 H' := fun b o h n => s b o h fun z => n (by rw [hp0, z])
    refine hQ v H' (k1.trans k2) ⟨E1.keep k2 fun p q => ?_, q3⟩
    rw [hp0] at q
    cases q
    exact q1
  · cases hm
/-! ### items, slices -/
theorem atD_get {K : PySem.W.Frag} {H : Hp} {A : Addr → Prop} {vs : List V} {ds : List D} {i : Int} {d : D} (h : DrAll K H A vs ds) (e : atD ds i = some d) : ∃ v, L2.atI vs i = some v ∧ Dr K H A v d := by
  have hl := h.length
  unfold atD at e
  obtain ⟨j, h1, h2⟩ := Option.bind_eq_some_iff.mp e
  obtain ⟨v, h3, h4⟩ := (h.get j).2 d h2
  refine ⟨v, ?_, h4⟩
  unfold L2.atI
  rw [hl]
  show (ixD ds.length i).bind _ = _
  rw [h1]
  exact h3
theorem q_ix (ha : PE X a (tM X.K ma)) (hb : PE X b (tM X.K mb)) (hs : L2.PlainIx b := by exact fun _ _ => rfl) : PE X (.Subscript a b pos) (tM X.K (mBin oIx ma mb)) := by
  refine PE_imp (L2.pe_ix (L2.IxR.or L2.ix_list L2.ix_tup) ha hb hs) (cmp_imp fun A pot H x y dx dy z t hx hy e Q q => ?_)
  unfold oIx at e
  split at e
  · split at e
    · rename_i ha
      cases e
      obtain ⟨a, vs, rfl, h1, h2⟩ := hx.list
      cases hy.int
      obtain ⟨v, h3, h4⟩ := atD_get h2 ha
      exact .inl ⟨a, vs, _, v, rfl, rfl, .inl (.inl h1), h3, q _ _ (L2.Same.refl H) h4⟩
    · cases e
  · split at e
    · rename_i ha
      cases e
      obtain ⟨_, a, vs, rfl, h1, h2⟩ := hx.tup
      cases hy.int
      obtain ⟨v, h3, h4⟩ := atD_get h2 ha
      exact .inr ⟨a, vs, _, v, rfl, rfl, h1, h3, q _ _ (L2.Same.refl H) h4⟩
    · cases e
  · cases e
def tMO (K : PySem.W.Frag) (m : MO) : L2.TO := fun σ H Q => ∃ B pot os env st, ERep K B pot os H σ env st ∧ ∃ o st', m env st = .ok (o, st') ∧ ∀ H', Keep pot H H' → ERep K B pot os H' σ env st' → Q o H'
theorem o_none : L2.PO X none (tMO X.K oNone) := ⟨fun pins s σ H Q I ⟨B, pot, os, env, st, E, o, st', hm, hQ⟩ => by
  cases hm
  exact L2.po_none.run pins s σ H Q I (hQ H Keep.refl E)⟩
theorem o_some (ha : PE X a (tM X.K ma)) : L2.PO X (some a) (tMO X.K (oSome ma)) := ⟨fun pins s σ H Q I ⟨B, pot, os, env, st, E, o, st', hm, hQ⟩ => by
  obtain ⟨x, ex, hm⟩ := R.bind_ok hm
  obtain ⟨x1, x2⟩ := x
  dsimp only at hm
  split at hm
  · cases hm
    refine (L2.po_some ha).run pins s σ H Q I ⟨B, pot, os, env, st, E, _, _, ex, fun v H' k p => ?_⟩
    obtain ⟨E1, q⟩ := p
    cases q
    exact ⟨_, rfl, hQ H' k E1⟩
  · cases hm⟩
theorem cutV_D {K : PySem.W.Frag} {H : Hp} {A : Addr → Prop} {vs : List V} {ds : List D} {lo hi : Option Int} (h : DrAll K H A vs ds) : DrAll K H A (L2.cutV vs lo hi) (cutD ds lo hi) := by
  have hl := h.length
  unfold L2.cutV
  rw [hl]
  exact (h.drop _).take _
theorem q_cut {lo hi : Option PySem.Expr} {ml mh : MO} {p2 : PySem.Pos} (ha : PE X a (tM X.K ma)) (hlo : L2.PO X lo (tMO X.K ml)) (hhi : L2.PO X hi (tMO X.K mh)) : PE X (.Subscript a (.Slice lo hi none p2) pos) (tM X.K (mCut ma ml mh)) := by
  refine PE_imp (L2.pe_slice (L2.SlR.or L2.sl_list L2.sl_tupA) ha hlo hhi) fun σ H Q ⟨B, pot, os, env, st, E, e, st', hm, hQ⟩ => ?_
  obtain ⟨x, ex, hm⟩ := R.bind_ok hm
  obtain ⟨u, eu, hm⟩ := R.bind_ok hm
  obtain ⟨y, ey, hm⟩ := R.bind_ok hm
  obtain ⟨z, ez, hm⟩ := R.bind_ok hm
  obtain ⟨q, eq, hm⟩ := R.bind_ok hm
  cases hm
  refine ⟨B, pot, os, env, st, E, _, _, ex, fun v1 H1 k1 p1 => ?_⟩
  obtain ⟨E1, w1⟩ := p1.view E eu
  refine ⟨B, pot, os, env, _, E1, _, _, ey, fun H2 k2 E2 => ?_⟩
  refine ⟨B, pot, os, env, _, E2, _, _, ez, fun H3 k3 E3 => ?_⟩
  have w3 := (w1.keep E1 k2).keep E2 k3
  have kk := (k1.trans k2).trans k3
  unfold cutO at eq
  split at eq
  · cases eq
    obtain ⟨a, vs, rfl, h1, h2⟩ := w3.list
    refine .inl ⟨a, vs, rfl, .inl (.inl h1), fun p n => ?_⟩
    obtain ⟨k4, q4⟩ := EPost.of E3 kk (Same.new n) (z_lst n (cutV_D (lo := y.1) (hi := z.1) h2))
    exact hQ _ _ k4 q4
  · cases eq
    obtain ⟨d1, a, vs, rfl, h1, h2⟩ := w3.tup
    refine .inr ⟨a, vs, rfl, h1, fun hw => ?_, fun _ p n => ?_⟩
    · have e4 : ∀ ds : List D, vs.length = ds.length → cutD ds y.1 z.1 = ds := fun ds hl => by
        unfold cutD
        rw [hl] at hw
        have h5 : sIxD ds.length 0 y.1 = 0 := hw.1
        have h6 : sIxD ds.length ds.length z.1 = ds.length := hw.2
        rw [h5, h6, List.drop_zero, Nat.sub_zero, List.take_length]
      refine hQ _ _ kk ⟨E3, ?_⟩
      rw [e4 _ h2.length]
      exact d1
    · obtain ⟨k4, q4⟩ := EPost.of E3 kk (Same.new n) (z_tup E3.tr n (cutV_D (lo := y.1) (hi := z.1) h2))
      exact hQ _ _ k4 q4
  · cases eq
theorem q_revL {k : Nat} {p1 p2 p3 : PySem.Pos} (ha : PE X a (tM X.K ma)) : PE X (.Subscript a (.Slice none none (some (.UnaryOp .USub (.Constant (.int 1) k p1) p2)) p3) pos) (tM X.K (mUn revLO ma)) := by
  refine PE_imp (L2.pe_revL ha) fun σ H Q ⟨B, pot, os, env, st, E, e, st', hm, hQ⟩ => ?_
  obtain ⟨x, ex, hm⟩ := R.bind_ok hm
  obtain ⟨u, eu, hm⟩ := R.bind_ok hm
  obtain ⟨z, ez, hm⟩ := R.bind_ok hm
  cases hm
  refine ⟨B, pot, os, env, st, E, _, _, ex, fun v1 H1 k1 p1 => ?_⟩
  obtain ⟨E1, w1⟩ := p1.view E eu
  unfold revLO at ez
  split at ez
  · cases ez
    obtain ⟨a, vs, rfl, h1, h2⟩ := w1.list
    refine ⟨a, vs, rfl, .inl (.inl h1), fun p n => ?_⟩
    obtain ⟨k4, q4⟩ := EPost.of E1 k1 (Same.new n) (z_lst n h2.reverse)
    exact hQ _ _ k4 q4
  · cases ez
end
end BP

namespace BP
open L2 (V Hp HO St TE TT TA TS TG TI It Ends Cx PE PT PW PA PS PSs PG PI Inv upd upd_same upd_ne OpR UnR CallR Same VK XK Sp Room Vals RelV FnScope PK CX0 E0)
section
variable {X : Cx} {K : PySem.W.Frag} {H : Hp} {A : Addr → Prop} {pot : Option Addr} {xs : List V}
theorem vw1 {d : D} (h : VwAll K H A pot xs [d]) : ∃ x, xs = [x] ∧ Vw K H A pot x d := by
  cases h with
  | cons h t =>
    cases t
    exact ⟨_, rfl, h⟩
theorem vw2 {d e : D} (h : VwAll K H A pot xs [d, e]) : ∃ x y, xs = [x, y] ∧ Vw K H A pot x d ∧ Vw K H A pot y e := by
  cases h with
  | cons h t =>
    cases t with
    | cons h2 t2 =>
      cases t2
      exact ⟨_, _, rfl, h, h2⟩
theorem ints_of {vs : List V} : ∀ {ds : List D} {ns : List Int}, intsOf ds = some ns → ∀ {vs : List V}, DrAll K H A vs ds → vs = ns.map V.int
  | [], ns, e, _, h => by
    cases e
    cases h
    rfl
  | d :: ds, ns, e, _, h => by
    cases h with
    | cons h1 h2 =>
      cases d with
      | int i =>
        unfold intsOf at e
        cases q : intsOf ds with
        | none => rw [q] at e; cases e
        | some ms =>
          rw [q] at e
          cases e
          cases h1
          rw [ints_of (vs := vs) q h2]
          rfl
      | _ => cases e
theorem bools_of {vs : List V} : ∀ {ds : List D} {ns : List Bool}, boolsOf ds = some ns → ∀ {vs : List V}, DrAll K H A vs ds → vs = ns.map V.bl
  | [], ns, e, _, h => by
    cases e
    cases h
    rfl
  | d :: ds, ns, e, _, h => by
    cases h with
    | cons h1 h2 =>
      cases d with
      | bool i =>
        unfold boolsOf at e
        cases q : boolsOf ds with
        | none => rw [q] at e; cases e
        | some ms =>
          rw [q] at e
          cases e
          cases h1
          rw [bools_of (vs := vs) q h2]
          rfl
      | _ => cases e
theorem cm_len : CallM X (.builtin "len") bLen := by
  refine ⟨_, L2.CallR.or L2.call_len_seq (L2.CallR.or L2.call_lenD L2.call_len_str), fun A pot H xs ds z t h e Q q => ?_⟩
  unfold bLen at e
  split at e
  · cases e
    obtain ⟨x, rfl, w⟩ := vw1 h
    obtain ⟨a, vs, rfl, h1, h2⟩ := w.list
    rw [← h2.length] at q
    exact .inl ⟨a, vs, rfl, .inl (.inl (.inl h1)), q _ _ (L2.Same.refl H) z_int⟩
  · cases e
    obtain ⟨x, rfl, w⟩ := vw1 h
    obtain ⟨_, a, vs, rfl, h1, h2⟩ := w.tup
    rw [← h2.length] at q
    exact .inl ⟨a, vs, rfl, .inr h1, q _ _ (L2.Same.refl H) z_int⟩
  · cases e
    obtain ⟨x, rfl, w⟩ := vw1 h
    rcases w with w | ⟨_, _, _, _, z, _⟩
    · cases w with
      | dic h1 h2 h3 =>
        rename_i a kvs ds
        have hl := h3.length
        refine .inr (.inl ⟨_, _, rfl, h2, q _ _ (L2.Same.refl H) ?_⟩)
        have e1 : ((kvs.map fun p => keyD p.1).zip ds).length = kvs.length := by
          rw [List.length_zip, List.length_map, ← hl, List.length_map]
          omega
        rw [e1]
        exact z_int
    · cases z
  · split at e
    · rename_i hl
      cases e
      obtain ⟨x, rfl, w⟩ := vw1 h
      cases w.str
      exact .inr (.inr ⟨_, rfl, Nat.le_trans hl (by decide), q _ _ (L2.Same.refl H) z_int⟩)
    · cases e
  · cases e
theorem cm_abs : CallM X (.builtin "abs") bAbs := by
  refine ⟨_, L2.call_abs, fun A pot H xs ds z t h e Q q => ?_⟩
  unfold bAbs at e
  split at e
  · cases e
    obtain ⟨x, rfl, w⟩ := vw1 h
    cases w.int
    exact ⟨_, rfl, q _ _ (L2.Same.refl H) z_int⟩
  · cases e
theorem cm_int : CallM X (.type "int") bInt := by
  refine ⟨_, L2.call_int1, fun A pot H xs ds z t h e Q q => ?_⟩
  unfold bInt at e
  split at e
  · cases e
    obtain ⟨x, rfl, w⟩ := vw1 h
    cases w.int
    exact .inl ⟨_, rfl, q _ _ (L2.Same.refl H) z_int⟩
  · cases e
    obtain ⟨x, rfl, w⟩ := vw1 h
    cases w.bool
    exact .inr ⟨_, rfl, q _ _ (L2.Same.refl H) z_int⟩
  · cases e
theorem foldl_max : ∀ (r : List Int) (x : Int), r.foldl max x ∈ x :: r ∧ ∀ y ∈ x :: r, y ≤ r.foldl max x
  | [], x => ⟨List.mem_singleton.mpr rfl, fun y h => by
    rw [List.mem_singleton.mp h]
    exact Int.le_refl _⟩
  | b :: r, x => by
    obtain ⟨h1, h2⟩ := foldl_max r (max x b)
    refine ⟨?_, fun y h => ?_⟩
    · show r.foldl max (max x b) ∈ x :: b :: r
      rcases List.mem_cons.mp h1 with h | h
      · rw [h]
        rcases Int.le_total x b with z | z
        · rw [Int.max_eq_right z]
          exact List.mem_cons_of_mem _ List.mem_cons_self
        · rw [Int.max_eq_left z]
          exact List.mem_cons_self
      · exact List.mem_cons_of_mem _ (List.mem_cons_of_mem _ h)
    · show y ≤ r.foldl max (max x b)
      have h3 := h2 (max x b) List.mem_cons_self
      rcases List.mem_cons.mp h with rfl | h
      · omega
      · rcases List.mem_cons.mp h with rfl | h
        · omega
        · exact h2 y (List.mem_cons_of_mem _ h)
theorem foldl_min : ∀ (r : List Int) (x : Int), r.foldl min x ∈ x :: r ∧ ∀ y ∈ x :: r, r.foldl min x ≤ y
  | [], x => ⟨List.mem_singleton.mpr rfl, fun y h => by
    rw [List.mem_singleton.mp h]
    exact Int.le_refl _⟩
  | b :: r, x => by
    obtain ⟨h1, h2⟩ := foldl_min r (min x b)
    refine ⟨?_, fun y h => ?_⟩
    · show r.foldl min (min x b) ∈ x :: b :: r
      rcases List.mem_cons.mp h1 with h | h
      · rw [h]
        rcases Int.le_total x b with z | z
        · rw [Int.min_eq_left z]
          exact List.mem_cons_self
        · rw [Int.min_eq_right z]
          exact List.mem_cons_of_mem _ List.mem_cons_self
      · exact List.mem_cons_of_mem _ (List.mem_cons_of_mem _ h)
    · show r.foldl min (min x b) ≤ y
      have h3 := h2 (min x b) List.mem_cons_self
      rcases List.mem_cons.mp h with rfl | h
      · omega
      · rcases List.mem_cons.mp h with rfl | h
        · omega
        · exact h2 y (List.mem_cons_of_mem _ h)
theorem cm_max (hc : X.calm = true) : CallM X (.builtin "max") bMax := by
  refine ⟨_, L2.CallR.or (L2.call_max2 hc) (L2.cr_max hc), fun A pot H xs ds z t h e Q q => ?_⟩
  unfold bMax at e
  split at e
  · cases e
    obtain ⟨x, y, rfl, w, w2⟩ := vw2 h
    cases w.int; cases w2.int
    exact .inl ⟨_, _, rfl, q _ _ (L2.Same.refl H) z_int⟩
  · split at e
    · rename_i x r hx
      cases e
      obtain ⟨x, rfl, w⟩ := vw1 h
      obtain ⟨a, vs, rfl, h1, h2⟩ := w.list
      obtain ⟨g1, g2⟩ := foldl_max r x
      have ev := ints_of (vs := []) hx h2
      rw [ev] at h1
      refine .inr ⟨a, x :: r, rfl, .inl (.inl h1), Nat.succ_pos _, fun m hm hle => ?_⟩
      have em : m = r.foldl max x := Int.le_antisymm (g2 m hm) (hle _ g1)
      rw [em]
      exact q _ _ (L2.Same.refl H) z_int
    · cases e
  · cases e
theorem cm_min (hc : X.calm = true) : CallM X (.builtin "min") bMin := by
  refine ⟨_, L2.CallR.or (L2.call_min2 hc) (L2.cr_min hc), fun A pot H xs ds z t h e Q q => ?_⟩
  unfold bMin at e
  split at e
  · cases e
    obtain ⟨x, y, rfl, w, w2⟩ := vw2 h
    cases w.int; cases w2.int
    exact .inl ⟨_, _, rfl, q _ _ (L2.Same.refl H) z_int⟩
  · split at e
    · rename_i x r hx
      cases e
      obtain ⟨x, rfl, w⟩ := vw1 h
      obtain ⟨a, vs, rfl, h1, h2⟩ := w.list
      obtain ⟨g1, g2⟩ := foldl_min r x
      have ev := ints_of (vs := []) hx h2
      rw [ev] at h1
      refine .inr ⟨a, x :: r, rfl, .inl (.inl h1), Nat.succ_pos _, fun m hm hle => ?_⟩
      have em : m = r.foldl min x := Int.le_antisymm (hle _ g1) (g2 m hm)
      rw [em]
      exact q _ _ (L2.Same.refl H) z_int
    · cases e
  · cases e
theorem cm_sum (hc : X.calm = true) : CallM X (.builtin "sum") bSum := by
  refine ⟨_, L2.cr_sum hc, fun A pot H xs ds z t h e Q q => ?_⟩
  unfold bSum at e
  split at e
  · split at e
    · rename_i hx
      cases e
      obtain ⟨x, rfl, w⟩ := vw1 h
      obtain ⟨a, vs, rfl, h1, h2⟩ := w.list
      rw [ints_of (vs := []) hx h2] at h1
      exact ⟨a, _, rfl, .inl (.inl h1), q _ _ (L2.Same.refl H) z_int⟩
    · cases e
  · cases e
theorem cm_all (hc : X.calm = true) : CallM X (.builtin "all") bAll := by
  refine ⟨_, L2.cr_all hc, fun A pot H xs ds z t h e Q q => ?_⟩
  unfold bAll at e
  split at e
  · split at e
    · rename_i hx
      cases e
      obtain ⟨x, rfl, w⟩ := vw1 h
      obtain ⟨a, vs, rfl, h1, h2⟩ := w.list
      rw [bools_of (vs := []) hx h2] at h1
      exact ⟨a, _, rfl, .inl (.inl h1), q _ _ (L2.Same.refl H) z_bl⟩
    · cases e
  · cases e
theorem cm_any (hc : X.calm = true) : CallM X (.builtin "any") bAny := by
  refine ⟨_, L2.cr_any hc, fun A pot H xs ds z t h e Q q => ?_⟩
  unfold bAny at e
  split at e
  · split at e
    · rename_i hx
      cases e
      obtain ⟨x, rfl, w⟩ := vw1 h
      obtain ⟨a, vs, rfl, h1, h2⟩ := w.list
      rw [bools_of (vs := []) hx h2] at h1
      exact ⟨a, _, rfl, .inl (.inl h1), q _ _ (L2.Same.refl H) z_bl⟩
    · cases e
  · cases e
theorem cm_list : CallM X (.type "list") bList := by
  refine ⟨_, L2.call_list_of, fun A pot H xs ds z t h e Q q => ?_⟩
  unfold bList at e
  split at e
  · cases e
    obtain ⟨x, rfl, w⟩ := vw1 h
    obtain ⟨a, vs, rfl, h1, h2⟩ := w.list
    exact ⟨a, vs, rfl, .inl (.inl (.inl h1)), fun p n => q _ _ (Same.new n) (z_lst n h2)⟩
  · cases e
    obtain ⟨x, rfl, w⟩ := vw1 h
    obtain ⟨_, a, vs, rfl, h1, h2⟩ := w.tup
    exact ⟨a, vs, rfl, .inr h1, fun p n => q _ _ (Same.new n) (z_lst n h2)⟩
  · cases e
theorem cm_tuple : CallM X (.type "tuple") bTuple := by
  refine ⟨_, L2.call_tuple_of, fun A pot H xs ds z t h e Q q => ?_⟩
  unfold bTuple at e
  split at e
  · cases e
    obtain ⟨x, rfl, w⟩ := vw1 h
    obtain ⟨a, vs, rfl, h1, h2⟩ := w.list
    exact ⟨a, vs, rfl, .inl ⟨.inl (.inl h1), fun p n => q _ _ (Same.new n) (z_tup t n h2)⟩⟩
  · cases e
    obtain ⟨x, rfl, w⟩ := vw1 h
    obtain ⟨d1, a, vs, rfl, h1, h2⟩ := w.tup
    exact ⟨a, vs, rfl, .inr ⟨h1, q _ _ (L2.Same.refl H) d1⟩⟩
  · cases e
end
/-! ### repr -/
def SysB (base : PySem.Heap) : Prop := ∃ o, base.get? PySem.sysModules = some o
section
variable {X : Cx} {pins : List (Addr × PySem.Obj)} {σ : St} {H : Hp} {s : PySem.Shared} {A : Addr → Prop}
theorem Inv.sys (I : Inv X pins σ H s) (hs : SysB X.base) {a : Addr} {o : HO} (h : H a = some o) : PySem.sysModules ≠ a := fun z => by
  obtain ⟨ob, e⟩ := hs
  have := (I.bs _ _ e).2
  rw [z, h] at this
  cases this
mutual
theorem Dr.reads (I : Inv X pins σ H s) (hs : SysB X.base) : ∀ (d : D) (v : V) (u : PySem.Value), noKeys d = true → Dr X.K H A v d → RelV v u → ∃ as, PySem.Reads s.heap u d as ∧ PySem.sysModules ∉ as
  | .none, _, _, _, .non, r => by
    cases r
    exact ⟨_, .none, fun z => List.not_mem_nil z⟩
  | .bool _, _, _, _, .bl b, r => by
    cases r
    exact ⟨_, .bool b, fun z => List.not_mem_nil z⟩
  | .int _, _, _, _, .int i, r => by
    obtain ⟨t, rfl⟩ := r
    exact ⟨_, .int i t, fun z => List.not_mem_nil z⟩
  | .str _, _, _, _, .str x, r => by
    obtain ⟨t, rfl⟩ := r
    exact ⟨_, .str x t, fun z => List.not_mem_nil z⟩
  | .list ds, _, _, c, .lst h1 h2 h3, r => by
    cases r
    obtain ⟨its, rv, ⟨o, n, ho, hc, _, hd⟩, _⟩ := I.list (.inl (.inl h2))
    obtain ⟨as, hr, hn⟩ := DrAll.reads I hs ds _ its (by simpa [noKeys] using c) h3 rv
    refine ⟨_, .list ho hc hd hr, fun z => ?_⟩
    rcases List.mem_cons.mp z with z | z
    · exact Inv.sys I hs h2 z
    · exact hn z
  | .tuple ds, _, _, c, h@(.tup _ _), r => by
    obtain ⟨xs, h1, h3⟩ : ∃ xs, L2.SqT X.K H _ xs ∧ DrAll X.K H A xs ds := Dr.sqt h
    cases r
    obtain ⟨its, rv, ⟨o, ho, hc, n, hd⟩, _⟩ := I.tuple h1
    obtain ⟨as, hr, hn⟩ := DrAll.reads I hs ds _ its (by simpa [noKeys] using c) h3 rv
    exact ⟨_, .tuple ho hc hd hr, hn⟩
  | .dict kvs, _, _, c, h, r => by
    cases kvs with
    | cons _ _ => simp [noKeys] at c
    | nil =>
      generalize e : PySem.PyData.dict [] = d at h
      cases h with
      | dic h1 h2 h3 =>
        rename_i a kvs ds
        have e1 := PySem.PyData.dict.inj e
        have hl := h3.length
        have e2 : kvs = [] := by
          cases kvs with
          | nil => rfl
          | cons p r =>
            cases ds with
            | nil => cases hl
            | cons _ _ => cases e1
        subst e2
        cases r
        obtain ⟨_, hy, vs, kv, o, es, ep, ho, hx, hd, _, pr, _⟩ := (show L2.ObjOk X.prog X.w H s.heap a (.dK []) from I.hok a _ h2)
        cases kv
        have e3 : es = #[] := by
          have := pr
          cases q : es.toList with
          | nil => exact Array.toList_eq_nil_iff.mp q
          | cons x r =>
            rw [q] at this
            cases this
        subst e3
        refine ⟨_, .dict (kvs := []) ho hx.1 hd .nil .nil, fun z => ?_⟩
        rcases List.mem_append.mp z with z | z
        · rcases List.mem_cons.mp z with z | z
          · rw [z] at hy
            simp at hy
          · exact List.not_mem_nil z
        · exact List.not_mem_nil z
      | _ => cases e
theorem DrAll.reads (I : Inv X pins σ H s) (hs : SysB X.base) : ∀ (ds : List D) (vs : List V) (us : List PySem.Value), noKeysAll ds = true → DrAll X.K H A vs ds → Vals vs us → ∃ as, PySem.ReadsAll s.heap us ds as ∧ PySem.sysModules ∉ as
  | [], _, _, _, .nil, r => by
    cases r
    exact ⟨_, .nil, fun z => List.not_mem_nil z⟩
  | d :: ds, _, _, c, .cons h1 h2, r => by
    cases r with
    | cons r1 r2 =>
      have c2 : noKeys d = true ∧ noKeysAll ds = true := by simpa [noKeysAll] using c
      obtain ⟨as, q1, n1⟩ := Dr.reads I hs d _ _ c2.1 h1 r1
      obtain ⟨bs, q2, n2⟩ := DrAll.reads I hs ds _ _ c2.2 h2 r2
      refine ⟨_, .cons q1 q2, fun z => ?_⟩
      rcases List.mem_append.mp z with z | z
      · exact n1 z
      · exact n2 z
end
theorem Vw.reads {pot : Option Addr} {d : D} {v : V} {u : PySem.Value} (I : Inv X pins σ H s) (hs : SysB X.base) (c : noKeys d = true) (h : Vw X.K H A pot v d) (r : RelV v u) : ∃ as, PySem.Reads s.heap u d as ∧ PySem.sysModules ∉ as := by
  rcases h with h | ⟨a, vs, ds, rfl, rfl, _, h1, h2⟩
  · exact h.reads I hs d v u c r
  · cases r
    obtain ⟨its, rv, ⟨o, n, ho, hc, _, hd⟩, _⟩ := I.list (.inl (.inl h1))
    obtain ⟨as, hr, hn⟩ := DrAll.reads I hs ds _ its (by simpa [noKeys] using c) h2 rv
    refine ⟨_, .list ho hc hd hr, fun z => ?_⟩
    rcases List.mem_cons.mp z with z | z
    · exact Inv.sys I hs h1 z
    · exact hn z
end
section
variable {X : Cx}
def rRepr (K : PySem.W.Frag) : List V → Hp → VK → Prop := fun xs H Q => ∃ v d A pot, xs = [v] ∧ Vw K H A pot v d ∧ reprOk d = true ∧ Q (.str d.shown) H
theorem call_repr (hs : SysB X.base) (hgd : X.A.guards = some []) (hu : X.A.units + 100 < PySem.cLine) : CallR X (.builtin "repr") (rRepr X.K) := by
  intro pins s σ H xs us Q I r h
  obtain ⟨v, d, A, pot, rfl, h, c, q⟩ := h
  obtain ⟨u, rfl, ru⟩ := L2.vals1 r
  obtain ⟨c1, c2⟩ := Bool.and_eq_true_iff.mp c
  obtain ⟨c3, c4⟩ := Bool.and_eq_true_iff.mp c2
  obtain ⟨c5, c6⟩ := Bool.and_eq_true_iff.mp c4
  have hz : d.shown.length ≤ PySem.sizeLine := Nat.le_trans (of_decide_eq_true c3) (by decide)
  have hd : d.depth ≤ 64 := of_decide_eq_true c5
  have fin : ∀ (tk : Nat) (t : PySem.Tok), L2.EP X pins σ Q (.str d.shown t) { s with toks := tk } := fun tk t => ⟨.str d.shown, H, I.tok _, ⟨_, rfl⟩, q⟩
  have ref_ : ∀ a, u = .ref a → PySem.wpAny (PySem.model X.prog X.w) X.A (PySem.call (.builtin "repr") [u]) (L2.EP X pins σ Q) X.xe s := fun a ea => by
    subst ea
    obtain ⟨as, rd, nm⟩ := h.reads I hs c6 ru
    refine PySem.repr_of_reads' rd c1 (fun _ => nm) hgd (by omega) (fun _ _ e => e) (fun h' u tk k => ?_) hz
    exact ⟨.str d.shown, H, I.kept (t' := tk) k, ⟨_, rfl⟩, q⟩
  cases d with
  | none =>
    cases h.none
    cases ru
    exact PySem.P.repr_of_none (fin _ _)
  | bool b =>
    cases h.bool
    cases ru
    refine PySem.P.repr_of_bool ?_
    have := fin (s.toks + 1) s.toks
    cases b <;> exact this
  | int i =>
    cases h.int
    obtain ⟨t, rfl⟩ := ru
    exact PySem.P.repr_of_int (of_decide_eq_true (by simpa [PySem.PyData.showable] using c1)) (fin _ _)
  | str x =>
    cases h.str
    obtain ⟨t, rfl⟩ := ru
    exact PySem.P.repr_of_str (fin _ _) hz
  | list ds =>
    obtain ⟨a, vs, rfl, _⟩ := h.list
    exact ref_ a ru
  | tuple ds =>
    obtain ⟨_, a, vs, rfl, _⟩ := h.tup
    exact ref_ a ru
  | dict kvs =>
    have h2 := h
    rcases h2 with h2 | ⟨_, _, _, _, z, _⟩
    · cases h2 with
      | dic _ _ _ => exact ref_ _ ru
    · cases z
theorem cm_repr (hs : SysB X.base) (hgd : X.A.guards = some []) {k : Nat} (hr : Room k X.A) : CallM X (.builtin "repr") bRepr := by
  refine ⟨_, call_repr hs hgd (by have := hr.un; omega), fun A pot H xs ds z t h e Q q => ?_⟩
  unfold bRepr at e
  split at e
  · split at e
    · rename_i hl
      cases e
      obtain ⟨x, rfl, w⟩ := vw1 h
      exact ⟨x, _, A, pot, rfl, w, hl, q _ _ (L2.Same.refl H) (.str _)⟩
    · cases e
  · cases e
end
end BP

namespace BP
open L2 (V Hp HO St TE TT TA TS TG TI It Ends Cx PE PT PW PA PS PSs PG PI Inv upd upd_same upd_ne OpR UnR CallR Same VK XK Sp Room Vals RelV FnScope PK CX0 E0)
/-! ### isinstance -/
def tyN : D → String
  | .none => "NoneType"
  | .bool _ => "bool"
  | .int _ => "int"
  | .str _ => "str"
  | .list _ => "list"
  | .tuple _ => "tuple"
  | .dict _ => "dict"
section
variable {X : Cx} {a b c : PySem.Expr} {ma mb mc : ME} {pos : PySem.Pos}
theorem Vw.ty {K : PySem.W.Frag} {H : Hp} {A : Addr → Prop} {pot : Option Addr} {d : D} {v : V} (h : Vw K H A pot v d) : L2.TyX K H v (.type (tyN d)) := by
  cases d with
  | none => cases h.none; exact .base .non
  | bool b => cases h.bool; exact .base (.bl b)
  | int i => cases h.int; exact .base (.int i)
  | str x => cases h.str; exact .base (.str x)
  | list ds =>
    obtain ⟨a, vs, rfl, h1, _⟩ := h.list
    exact .base (.lst h1)
  | tuple ds =>
    have h2 := h.tup.1
    cases h2 with
    | tup h3 _ =>
      rcases h3 with ⟨_, h3⟩ | ⟨o, its, n, h3, h4, _⟩
      · exact .base (.tup h3)
      · exact .kTuple h3 h4
  | dict kvs =>
    rcases h with h | ⟨_, _, _, _, z, _⟩
    · cases h with
      | dic _ h3 _ => exact .base (.dK h3)
    · cases z
theorem q_isi1 {T : String} {y : PySem.Str} {t : Ty} {p q : PySem.Pos} (hT : ∀ d, L2.kitB (tyN d) T = some (isI t d)) (ha : PE X a (tM X.K ma)) (hg : L2.Gl X "isinstance") (hm : X.mg "isinstance" = none) (hgt : L2.Gl X y) (hmt : X.mg y = none) (hvt : PySem.bootBuiltins y = some (.type T))
    (hv : PySem.bootBuiltins "isinstance" = some (.builtin "isinstance")) (hn : y ≠ "__name__" := by decide) (hd : (y == ("__debug__" : PySem.Str)) = false := by decide)
    (he : PySem.starEach [a, .Name y q] X.env = (false, PySem.eval a X.env) :: PySem.starEach [.Name y q] X.env := by rfl) (he2 : PySem.starEach [.Name y q] X.env = (false, PySem.eval (.Name y q) X.env) :: PySem.starEach [] X.env := by rfl) (hp : (PySem.backTo pos (PySem.starEach [.Name y q] X.env)).any (·.1) = false := by rfl) :
    PE X (.Call (.Name "isinstance" p) [a, .Name y q] [] pos) (tM X.K (mUn (oIsI t) ma)) := by
  refine PE_imp (L2.pe_callB L2.call_isi hg hm hv (L2.pa_cons ha (L2.pa_cons (L2.pe_bltn hgt hmt hvt (v := .ty T) rfl hn hd) L2.pa_nil he2) he) (by decide) (by decide) he hp) fun σ H Q ⟨B, pot, os, env, st, E, e, st', hm, hQ⟩ => ?_
  obtain ⟨x, ex, hm⟩ := BP.R.bind_ok hm
  obtain ⟨u, eu, hm⟩ := BP.R.bind_ok hm
  obtain ⟨z, ez, hm⟩ := BP.R.bind_ok hm
  cases hm
  cases ez
  refine ⟨B, pot, os, env, st, E, _, _, ex, fun v1 H1 k1 p1 => ?_⟩
  obtain ⟨E1, w1⟩ := p1.view E eu
  exact ⟨v1, .ty T, .type (tyN u), .type T, isI t u, rfl, .ty T, w1.ty, L2.kit_ty (hT u), hQ _ H1 k1 ⟨E1, .bl _⟩⟩
theorem hT_int : ∀ d, L2.kitB (tyN d) "int" = some (isI .int d)
  | .none => (by decide +kernel : L2.kitB "NoneType" "int" = some false)
  | .bool _ => (by decide +kernel : L2.kitB "bool" "int" = some true)
  | .int _ => (by decide +kernel : L2.kitB "int" "int" = some true)
  | .str _ => (by decide +kernel : L2.kitB "str" "int" = some false)
  | .list _ => (by decide +kernel : L2.kitB "list" "int" = some false)
  | .tuple _ => (by decide +kernel : L2.kitB "tuple" "int" = some false)
  | .dict _ => (by decide +kernel : L2.kitB "dict" "int" = some false)
theorem hT_bool : ∀ d, L2.kitB (tyN d) "bool" = some (isI .bool d)
  | .none => (by decide +kernel : L2.kitB "NoneType" "bool" = some false)
  | .bool _ => (by decide +kernel : L2.kitB "bool" "bool" = some true)
  | .int _ => (by decide +kernel : L2.kitB "int" "bool" = some false)
  | .str _ => (by decide +kernel : L2.kitB "str" "bool" = some false)
  | .list _ => (by decide +kernel : L2.kitB "list" "bool" = some false)
  | .tuple _ => (by decide +kernel : L2.kitB "tuple" "bool" = some false)
  | .dict _ => (by decide +kernel : L2.kitB "dict" "bool" = some false)
theorem hT_str : ∀ d, L2.kitB (tyN d) "str" = some (isI .str d)
  | .none => (by decide +kernel : L2.kitB "NoneType" "str" = some false)
  | .bool _ => (by decide +kernel : L2.kitB "bool" "str" = some false)
  | .int _ => (by decide +kernel : L2.kitB "int" "str" = some false)
  | .str _ => (by decide +kernel : L2.kitB "str" "str" = some true)
  | .list _ => (by decide +kernel : L2.kitB "list" "str" = some false)
  | .tuple _ => (by decide +kernel : L2.kitB "tuple" "str" = some false)
  | .dict _ => (by decide +kernel : L2.kitB "dict" "str" = some false)
theorem hT_list : ∀ d, L2.kitB (tyN d) "list" = some (isI .list d)
  | .none => (by decide +kernel : L2.kitB "NoneType" "list" = some false)
  | .bool _ => (by decide +kernel : L2.kitB "bool" "list" = some false)
  | .int _ => (by decide +kernel : L2.kitB "int" "list" = some false)
  | .str _ => (by decide +kernel : L2.kitB "str" "list" = some false)
  | .list _ => (by decide +kernel : L2.kitB "list" "list" = some true)
  | .tuple _ => (by decide +kernel : L2.kitB "tuple" "list" = some false)
  | .dict _ => (by decide +kernel : L2.kitB "dict" "list" = some false)
theorem hT_tuple : ∀ d, L2.kitB (tyN d) "tuple" = some (isI .tuple d)
  | .none => (by decide +kernel : L2.kitB "NoneType" "tuple" = some false)
  | .bool _ => (by decide +kernel : L2.kitB "bool" "tuple" = some false)
  | .int _ => (by decide +kernel : L2.kitB "int" "tuple" = some false)
  | .str _ => (by decide +kernel : L2.kitB "str" "tuple" = some false)
  | .list _ => (by decide +kernel : L2.kitB "list" "tuple" = some false)
  | .tuple _ => (by decide +kernel : L2.kitB "tuple" "tuple" = some true)
  | .dict _ => (by decide +kernel : L2.kitB "dict" "tuple" = some false)
/-- isinstance(x, (T1, T2)) -/
theorem q_isi2 {T1 T2 : String} {y1 y2 : PySem.Str} {t t1 t2 : Ty} {p q1 q2 q3 : PySem.Pos} {k : Nat} (hT1 : ∀ d, L2.kitB (tyN d) T1 = some (isI t1 d)) (hT2 : ∀ d, L2.kitB (tyN d) T2 = some (isI t2 d)) (hT : ∀ d, isI t d = (isI t1 d || isI t2 d)) (ha : PE X a (tM X.K ma)) (hg : L2.Gl X "isinstance") (hm : X.mg "isinstance" = none)
    (h1 : PE X (.Name y1 q1) (L2.tC (.ty T1))) (h2 : PE X (.Name y2 q2) (L2.tC (.ty T2)))
    (hv : PySem.bootBuiltins "isinstance" = some (.builtin "isinstance"))
    (he : PySem.starEach [a, .Tuple [.Name y1 q1, .Name y2 q2] k q3] X.env = (false, PySem.eval a X.env) :: PySem.starEach [.Tuple [.Name y1 q1, .Name y2 q2] k q3] X.env := by rfl)
    (he2 : PySem.starEach [.Tuple [.Name y1 q1, .Name y2 q2] k q3] X.env = (false, PySem.eval (.Tuple [.Name y1 q1, .Name y2 q2] k q3) X.env) :: PySem.starEach [] X.env := by rfl)
    (he3 : PySem.starEach [.Name y1 q1, .Name y2 q2] X.env = (false, PySem.eval (.Name y1 q1) X.env) :: PySem.starEach [.Name y2 q2] X.env := by rfl) (he4 : PySem.starEach [.Name y2 q2] X.env = (false, PySem.eval (.Name y2 q2) X.env) :: PySem.starEach [] X.env := by rfl)
    (hp : (PySem.backTo pos (PySem.starEach [.Tuple [.Name y1 q1, .Name y2 q2] k q3] X.env)).any (·.1) = false := by rfl) :
    PE X (.Call (.Name "isinstance" p) [a, .Tuple [.Name y1 q1, .Name y2 q2] k q3] [] pos) (tM X.K (mUn (oIsI t) ma)) := by
  refine PE_imp (L2.pe_callB L2.call_isiT hg hm hv (L2.pa_cons ha (L2.pa_cons (L2.pe_tup (L2.pa_cons h1 (L2.pa_cons h2 L2.pa_nil he4) he3)) L2.pa_nil he2) he) (by decide) (by decide) he hp) fun σ H Q ⟨B, pot, os, env, st, E, e, st', hm, hQ⟩ => ?_
  obtain ⟨x, ex, hm⟩ := BP.R.bind_ok hm
  obtain ⟨u, eu, hm⟩ := BP.R.bind_ok hm
  obtain ⟨z, ez, hm⟩ := BP.R.bind_ok hm
  cases hm
  cases ez
  refine ⟨B, pot, os, env, st, E, _, _, ex, fun v1 H1 k1 p1 => ⟨by show 2 ≤ PySem.sizeLine; decide, fun tp n => ?_⟩⟩
  obtain ⟨E1, w1⟩ := p1.view E eu
  have s1 : Same H1 (upd H1 tp (.tup [.ty T1, .ty T2])) := Same.new n
  have E2 := E1.ext s1
  have w2 := w1.keep E1 (fun b o h _ => s1 b o h)
  refine ⟨v1, tp, _, .type (tyN u), [.type T1, .type T2], isI t u, rfl, upd_same, .cons (.ty T1) (.cons (.ty T2) .nil), w2.ty, ?_, hQ _ _ (fun b o h m => s1 b o (k1 b o h m)) ⟨E2, .bl _⟩⟩
  rw [hT u]
  refine L2.kitAny_cons (L2.kit_ty (hT1 u)) (fun z => L2.kitAny_cons (L2.kit_ty (hT2 u)) (fun z2 => ?_) fun z2 => ?_) fun z => ?_
  · rw [z, z2]; rfl
  · rw [z, z2]; rfl
  · rw [z]; rfl
end
/-! ### targets -/
mutual
def gP (K : PySem.W.Frag) : Pat → TG
  | .nm i => L2.gName i
  | .tp ps => L2.gTup K ps.length (gPs K ps)
def gPs (K : PySem.W.Frag) : List Pat → L2.TGs
  | [] => L2.gNil
  | p :: ps => L2.gCons (gP K p) (gPs K ps)
end
mutual
def Pat.slots : Pat → List Nat
  | .nm i => [i]
  | .tp ps => patSlots ps
def patSlots : List Pat → List Nat
  | [] => []
  | p :: ps => p.slots ++ patSlots ps
end
theorem wipe_set {σ : St} {i : Nat} {x : Option V} : ∀ {vs : List Nat}, i ∈ vs → L2.wipe (σ.set i x) vs = L2.wipe σ vs
  | [], h => (List.not_mem_nil h).elim
  | v :: vs, h => by
    show (L2.wipe (σ.set i x) vs).set v none = (L2.wipe σ vs).set v none
    by_cases z : i ∈ vs
    · rw [wipe_set z]
    · have e : i = v := by
        rcases List.mem_cons.mp h with h | h
        · exact h
        · exact absurd h z
      subst e
      have gen : ∀ (vs : List Nat) (σ : St), i ∉ vs → L2.wipe (σ.set i x) vs = (L2.wipe σ vs).set i x := fun vs => by
        induction vs with
        | nil => intro σ _; rfl
        | cons u us ih =>
          intro σ hu
          show (L2.wipe (σ.set i x) us).set u none = ((L2.wipe σ us).set u none).set i x
          rw [ih σ (fun y => hu (List.mem_cons_of_mem _ y)), List.set_comm]
          intro y
          exact hu (by rw [y]; exact List.mem_cons_self)
      rw [gen vs σ z, List.set_set]
section
variable {K : PySem.W.Frag} {B : Addr → Prop} {pot : Option Addr} {H : Hp}
mutual
theorem gP_ok : ∀ (p : Pat) {os : List (Option Addr)} {σ : St} {env env1 : Env} {st : Pt} {v : V} {d : D} {Q : St → Hp → Prop}, ERep K B pot os H σ env st → Dr K H (av B os) v d → p.set d env = .ok env1 →
    (∀ os' σ', ERep K B pot os' H σ' env1 st → (∀ a, some a ∈ os' → some a ∈ os) → (∀ vs : List Nat, (∀ i ∈ p.slots, i ∈ vs) → L2.wipe σ' vs = L2.wipe σ vs) → (∀ j, j ∉ p.slots → os'[j]? = os[j]?) → Q σ' H) → gP K p v σ H Q
  | .nm i, os, σ, env, env1, st, v, d, Q, E, h, hs, k => by
    have hs : putE env i (.im d) = .ok env1 := by simpa [Pat.set] using hs
    unfold putE at hs
    split at hs
    · cases hs
    · rename_i hp
      cases hs
      refine k _ _ (E.setI (by simpa using hp) h) (fun a ha => ?_) (fun vs hv => wipe_set (hv i (by simp [Pat.slots]))) fun j hj => List.getElem?_set_ne fun z => hj (by simp [Pat.slots, z])
      rcases List.mem_or_eq_of_mem_set ha with ha | ha
      · exact ha
      · cases ha
  | .tp ps, os, σ, env, env1, st, v, d, Q, E, h, hs, k => by
    cases d with
    | tuple ds =>
      have hs : patSets ps ds env = .ok env1 := by simpa [Pat.set] using hs
      cases h with
      | tup h1 h2 =>
        have hl : ∀ (ps : List Pat) (ds : List D) (env env1 : Env), patSets ps ds env = .ok env1 → ps.length = ds.length := fun ps => by
          induction ps with
          | nil =>
            intro ds env env1 h
            cases ds with
            | nil => rfl
            | cons _ _ => simp [patSets] at h
          | cons p ps ih =>
            intro ds env env1 h
            cases ds with
            | nil => simp [patSets] at h
            | cons d ds =>
              simp only [patSets] at h
              obtain ⟨e2, _, h3⟩ := BP.R.bind_ok h
              exact congrArg Nat.succ (ih ds e2 env1 h3)
        show L2.gTup K ps.length (gPs K ps) _ σ H Q
        refine ⟨_, _, rfl, ?_, ?_, gPs_ok ps E h2 hs fun os' σ' E' a b c => k os' σ' E' a (fun vs hv => b vs fun i hi => hv i (by simpa only [Pat.slots] using hi)) fun j hj => c j fun hi => hj (by simpa only [Pat.slots] using hi)⟩
        · rcases h1 with h1 | h1
          · exact .inl (.inl h1.2)
          · exact .inr h1
        · rw [h2.length, hl _ _ _ _ hs]
    | _ => simp [Pat.set] at hs
theorem gPs_ok : ∀ (ps : List Pat) {os : List (Option Addr)} {σ : St} {env env1 : Env} {st : Pt} {vs : List V} {ds : List D} {Q : St → Hp → Prop}, ERep K B pot os H σ env st → DrAll K H (av B os) vs ds → patSets ps ds env = .ok env1 →
    (∀ os' σ', ERep K B pot os' H σ' env1 st → (∀ a, some a ∈ os' → some a ∈ os) → (∀ vs : List Nat, (∀ i ∈ patSlots ps, i ∈ vs) → L2.wipe σ' vs = L2.wipe σ vs) → (∀ j, j ∉ patSlots ps → os'[j]? = os[j]?) → Q σ' H) → gPs K ps vs σ H Q
  | [], os, σ, env, env1, st, vs, ds, Q, E, h, hs, k => by
    cases h with
    | nil =>
      simp [patSets] at hs
      subst hs
      exact ⟨rfl, k os σ E (fun _ h => h) (fun _ _ => rfl) fun _ _ => rfl⟩
    | cons _ _ => simp [patSets] at hs
  | p :: ps, os, σ, env, env1, st, vs, ds, Q, E, h, hs, k => by
    cases h with
    | nil => simp [patSets] at hs
    | cons h1 h2 =>
      simp only [patSets] at hs
      obtain ⟨e2, h3, h4⟩ := BP.R.bind_ok hs
      refine ⟨_, _, rfl, gP_ok p E h1 h3 fun os' σ' E' sub w c1 => ?_⟩
      have h2' : DrAll K H (av B os') _ _ := h2.to fun b o q z => ⟨q, fun y => z (by
        rcases y with y | y
        · exact .inl y
        · exact .inr (sub b y))⟩
      refine gPs_ok ps E' h2' h4 fun os2 σ2 E2 sub2 w2 c2 => k os2 σ2 E2 (fun a ha => sub a (sub2 a ha)) (fun vs hv => ?_) fun j hj => by
        rw [c2 j fun y => hj (by simp only [patSlots]; exact List.mem_append_right _ y), c1 j fun y => hj (by simp only [patSlots]; exact List.mem_append_left _ y)]
      rw [w2 vs fun i hi => hv i (by simp only [patSlots]; exact List.mem_append_right _ hi)]
      exact w vs fun i hi => hv i (by simp only [patSlots]; exact List.mem_append_left _ hi)
end
end
/-! ### what is walked -/
def Walks (K : PySem.W.Frag) (A : Addr → Prop) (J : It) (ds : List D) (H1 : Hp) : Prop := ∀ (i : Nat) (H : Hp), (∀ b o, H1 b = some o → ¬ A b → H b = some o) →
  (i < ds.length → J.go i H) ∧ (ds.length ≤ i → J.stop i H) ∧ ∀ x H', J.yld i H x H' → i < ds.length → Same H H' ∧ ∃ d, ds[i]? = some d ∧ ∀ A' : Addr → Prop, (∀ a, A' a → A a ∨ H1 a = none) → (∀ a, A' a → ∃ o, H a = some o) → Dr K H' A' x d
def tMI (K : PySem.W.Frag) (m : MI) : TI := fun σ H R => ∃ B pot os env st, ERep K B pot os H σ env st ∧ ∃ ds st', m env st = .ok (ds, st') ∧ ∀ J H', Keep pot H H' → ERep K B pot os H' σ env st' → Walks K (av B os) J ds H' → R J H'
section
variable {K : PySem.W.Frag} {A : Addr → Prop} {H1 : Hp}
theorem Dr.later {H H' : Hp} {A' : Addr → Prop} {v : V} {d : D} (h : Dr K H1 A v d) (k : ∀ b o, H1 b = some o → ¬ A b → H b = some o) (s : Same H H') (h1 : ∀ a, A' a → A a ∨ H1 a = none) : Dr K H' A' v d :=
  h.to fun b o e z => ⟨s _ _ (k b o e z), fun y => by
    rcases h1 b y with y | y
    · exact z y
    · rw [e] at y
      cases y⟩
theorem walks_list {a : Addr} {vs : List V} {ds : List D} (na : ¬ A a) (h1 : H1 a = some (.lst vs)) (h2 : DrAll K H1 A vs ds) : Walks K A (L2.Itl K a) ds H1 := by
  intro i H k
  have hs : L2.SqL K H a vs := .inl (.inl (k _ _ h1 na))
  have hl := h2.length
  refine ⟨fun hi => ⟨vs, vs[i]'(by omega), hs, List.getElem?_eq_getElem _⟩, fun hi => ⟨vs, hs, by omega⟩, fun x H' y _ => ?_⟩
  obtain ⟨rfl, y⟩ := y
  obtain ⟨d, e1, e2⟩ := (h2.get i).1 x (y vs hs)
  exact ⟨L2.Same.refl _, d, e1, fun A' q _ => e2.later k (L2.Same.refl _) q⟩
theorem walks_tup {a : Addr} {vs : List V} {ds : List D} (h1 : (¬ A a ∧ H1 a = some (.tup vs)) ∨ KTup K a vs) (h2 : DrAll K H1 A vs ds) : Walks K A (L2.Itt K a) ds H1 := by
  intro i H k
  have hs : L2.SqT K H a vs := by
    rcases h1 with h1 | h1
    · exact .inl (.inl (k _ _ h1.2 h1.1))
    · exact .inr h1
  have hl := h2.length
  refine ⟨fun hi => ⟨vs, vs[i]'(by omega), hs, List.getElem?_eq_getElem _⟩, fun hi => ⟨vs, hs, by omega⟩, fun x H' y _ => ?_⟩
  obtain ⟨rfl, y⟩ := y
  obtain ⟨d, e1, e2⟩ := (h2.get i).1 x (y vs hs)
  exact ⟨L2.Same.refl _, d, e1, fun A' q _ => e2.later k (L2.Same.refl _) q⟩
theorem rangeL_len (lo hi : Int) : (rangeL lo hi).length = (hi - lo).toNat := by simp [rangeL]
theorem rangeL_get {lo hi : Int} {i : Nat} (h : i < (hi - lo).toNat) : (rangeL lo hi)[i]? = some (.int (lo + i)) := by
  unfold rangeL
  rw [List.getElem?_map, List.getElem?_range h]
  rfl
theorem walks_range {lo hi : Int} {n : Nat} (hn : n = (hi - lo).toNat) : Walks K A (L2.Itr lo n) (rangeL lo hi) H1 := by
  intro i H k
  rw [rangeL_len]
  refine ⟨fun h => by show i < n; omega, fun h => by show n ≤ i; omega, fun x H' y hi => ?_⟩
  obtain ⟨rfl, rfl⟩ := y
  exact ⟨L2.Same.refl _, _, rangeL_get hi, fun _ _ _ => .int _⟩
theorem enumL_len (xs : List D) : (enumL xs).length = xs.length := by simp [enumL]
theorem walks_enum {a : Addr} {vs : List V} {ds : List D} (na : ¬ A a) (h1 : H1 a = some (.lst vs)) (h2 : DrAll K H1 A vs ds) : Walks K A (L2.Ite K a) (enumL ds) H1 := by
  intro i H k
  have hs : L2.SqL K H a vs := .inl (.inl (k _ _ h1 na))
  have hl := h2.length
  rw [enumL_len]
  refine ⟨fun hi => ⟨vs, vs[i]'(by omega), hs, List.getElem?_eq_getElem _⟩, fun hi => ⟨vs, hs, by omega⟩, fun x H' y hi => ?_⟩
  obtain ⟨T, x, rfl, n, rfl, y⟩ := y
  obtain ⟨d, e1, e2⟩ := (h2.get i).1 x (y vs hs)
  have s : Same H (upd H T (.tup [.int (i : Nat), x])) := Same.new n
  refine ⟨s, .tuple [.int i, d], by unfold enumL; rw [List.getElem?_mapIdx, e1]; rfl, fun A' q t => .tup (.inl ⟨fun z => ?_, upd_same⟩) (.cons (.int _) (.cons (e2.later k s q) .nil))⟩
  obtain ⟨o, e⟩ := t T z
  rw [n] at e
  cases e
theorem zipL_get : ∀ (xs ys : List D) (i : Nat) (x y : D), xs[i]? = some x → ys[i]? = some y → (zipL xs ys)[i]? = some (.tuple [x, y])
  | [], _, _, _, _, h, _ => by simp at h
  | _ :: _, [], _, _, _, _, h => by simp at h
  | a :: xs, b :: ys, 0, x, y, h, h' => by
    cases h; cases h'
    rfl
  | a :: xs, b :: ys, i + 1, x, y, h, h' => zipL_get xs ys i x y h h'
theorem zipL_len : ∀ (xs ys : List D), (zipL xs ys).length = min xs.length ys.length
  | [], _ => by simp [zipL]
  | _ :: _, [] => by simp [zipL]
  | a :: xs, b :: ys => by
    show (zipL xs ys).length + 1 = min (xs.length + 1) (ys.length + 1)
    rw [zipL_len xs ys]
    omega
theorem walks_zip {a b : Addr} {vs us : List V} {ds es : List D} (na : ¬ A a) (h1 : H1 a = some (.lst vs)) (h2 : DrAll K H1 A vs ds) (nb : ¬ A b) (h3 : H1 b = some (.lst us)) (h4 : DrAll K H1 A us es) : Walks K A (L2.Itz K a b) (zipL ds es) H1 := by
  intro i H k
  have hs : L2.SqL K H a vs := .inl (.inl (k _ _ h1 na))
  have hs' : L2.SqL K H b us := .inl (.inl (k _ _ h3 nb))
  have hl := h2.length
  have hl' := h4.length
  rw [zipL_len]
  refine ⟨fun hi => ⟨vs, us, vs[i]'(by omega), us[i]'(by omega), hs, hs', List.getElem?_eq_getElem _, List.getElem?_eq_getElem _⟩, fun hi => ⟨vs, us, hs, hs', by omega⟩, fun x H' y hi => ?_⟩
  obtain ⟨T, x, z, rfl, n, rfl, y1, y2⟩ := y
  obtain ⟨d, e1, e2⟩ := (h2.get i).1 x (y1 vs hs)
  obtain ⟨d', e3, e4⟩ := (h4.get i).1 z (y2 us hs')
  have s : Same H (upd H T (.tup [x, z])) := Same.new n
  refine ⟨s, .tuple [d, d'], zipL_get _ _ _ _ _ e1 e3, fun A' q t => .tup (.inl ⟨fun z => ?_, upd_same⟩) (.cons (e2.later k s q) (.cons (e4.later k s q) .nil))⟩
  obtain ⟨o, e⟩ := t T z
  rw [n] at e
  cases e
theorem walks_zipT {a b : Addr} {vs us : List V} {ds es : List D} (h1 : (¬ A a ∧ H1 a = some (.tup vs)) ∨ KTup K a vs) (h2 : DrAll K H1 A vs ds) (h3 : (¬ A b ∧ H1 b = some (.tup us)) ∨ KTup K b us) (h4 : DrAll K H1 A us es) : Walks K A (RZ.ItzT K a b) (zipL ds es) H1 := by
  intro i H k
  have sq : ∀ {a : Addr} {vs : List V}, (¬ A a ∧ H1 a = some (.tup vs)) ∨ KTup K a vs → L2.SqT K H a vs := fun h => by
    rcases h with h | h
    · exact .inl (.inl (k _ _ h.2 h.1))
    · exact .inr h
  have hs := sq h1
  have hs' := sq h3
  have hl := h2.length
  have hl' := h4.length
  rw [zipL_len]
  refine ⟨fun hi => ⟨vs, us, vs[i]'(by omega), us[i]'(by omega), hs, hs', List.getElem?_eq_getElem _, List.getElem?_eq_getElem _⟩, fun hi => ⟨vs, us, hs, hs', by omega⟩, fun x H' y hi => ?_⟩
  obtain ⟨T, x, z, rfl, n, rfl, y1, y2⟩ := y
  obtain ⟨d, e1, e2⟩ := (h2.get i).1 x (y1 vs hs)
  obtain ⟨d', e3, e4⟩ := (h4.get i).1 z (y2 us hs')
  have s : Same H (upd H T (.tup [x, z])) := Same.new n
  refine ⟨s, .tuple [d, d'], zipL_get _ _ _ _ _ e1 e3, fun A' q t => .tup (.inl ⟨fun z => ?_, upd_same⟩) (.cons (e2.later k s q) (.cons (e4.later k s q) .nil))⟩
  obtain ⟨o, e⟩ := t T z
  rw [n] at e
  cases e
end
section
variable {X : Cx} {tg a b : PySem.Expr} {ma mb : ME} {pos : PySem.Pos}
theorem i_seq (ha : PE X a (tM X.K ma)) : PI X tg a (tMI X.K (iSeq ma)) := by
  refine ⟨fun pins s σ H R I ⟨B, pot, os, env, st, E, ds, st', hm, hR⟩ => ?_⟩
  obtain ⟨x, ex, hm⟩ := BP.R.bind_ok hm
  obtain ⟨u, eu, hm⟩ := BP.R.bind_ok hm
  obtain ⟨z, ez, hm⟩ := BP.R.bind_ok hm
  cases hm
  unfold itemsO at ez
  split at ez
  · cases ez
    refine (L2.pi_list ha).run pins s σ H R I ⟨B, pot, os, env, st, E, _, _, ex, fun v1 H1 k1 p1 => ?_⟩
    obtain ⟨E1, w1⟩ := p1.val E eu
    cases w1 with
    | lst h1 h2 h3 => exact ⟨_, rfl, ⟨_, .inl (.inl h2)⟩, hR _ H1 k1 E1 (walks_list h1 h2 h3)⟩
  · cases ez
    refine (L2.pi_tup ha).run pins s σ H R I ⟨B, pot, os, env, st, E, _, _, ex, fun v1 H1 k1 p1 => ?_⟩
    obtain ⟨E1, w1⟩ := p1.val E eu
    cases w1 with
    | tup h2 h3 =>
      rename_i xs
      refine ⟨_, rfl, ⟨xs, ?_⟩, hR _ H1 k1 E1 (walks_tup h2 h3)⟩
      rcases h2 with h2 | h2
      · exact .inl (.inl h2.2)
      · exact .inr h2
  · cases ez
theorem PA_one {t : TA} {te : TE} (h : PE X a te) (hs : PySem.starEach [a] X.env = (false, PySem.eval a X.env) :: PySem.starEach [] X.env) (k : ∀ σ H Q, t σ H Q → te σ H fun v H1 => Q [v] H1) : PA X [a] t :=
  PA_imp (L2.pa_cons h L2.pa_nil hs) fun σ H Q q => k σ H Q q
theorem i_range1 {p : PySem.Pos} (hg : L2.Gl X "range") (hm : X.mg "range" = none) (ha : PE X a (tM X.K ma)) (hs : PySem.starEach [a] X.env = (false, PySem.eval a X.env) :: PySem.starEach [] X.env := by rfl) (hs2 : PySem.starEach [a] X.env = [(false, PySem.eval a X.env)] := by rfl) : PI X tg (.Call (.Name "range" p) [a] [] pos) (tMI X.K (iRange1 ma)) := by
  refine ⟨fun pins s σ H R I ⟨B, pot, os, env, st, E, ds, st', hm', hR⟩ => ?_⟩
  obtain ⟨⟨x1, x2⟩, ex, hm'⟩ := BP.R.bind_ok hm'
  dsimp only at hm'
  split at hm'
  · rename_i n
    split at hm'
    · rename_i hn
      cases hm'
      refine (L2.pi_range1 hg hm (L2.pa_cons ha L2.pa_nil hs) hs2).run pins s σ H R I ⟨B, pot, os, env, st, E, _, _, ex, fun v1 H1 k1 p1 => ?_⟩
      obtain ⟨E1, w1⟩ := p1
      cases w1
      exact ⟨n, rfl, by omega, by omega, hR _ H1 k1 E1 (walks_range (by rw [Int.sub_zero]))⟩
    · cases hm'
  · cases hm'
theorem i_range2 {p : PySem.Pos} (hg : L2.Gl X "range") (hm : X.mg "range" = none) (ha : PE X a (tM X.K ma)) (hb : PE X b (tM X.K mb)) (h1 : PySem.starEach [a, b] X.env = (false, PySem.eval a X.env) :: PySem.starEach [b] X.env := by rfl) (h2 : PySem.starEach [b] X.env = (false, PySem.eval b X.env) :: PySem.starEach [] X.env := by rfl)
    (h3 : PI X tg (.Call (.Name "range" p) [a, b] [] pos) (L2.iRng2 (L2.tCons (tM X.K ma) (L2.tCons (tM X.K mb) L2.tNil)))) : PI X tg (.Call (.Name "range" p) [a, b] [] pos) (tMI X.K (iRange2 ma mb)) := by
  refine ⟨fun pins s σ H R I ⟨B, pot, os, env, st, E, ds, st', hm', hR⟩ => ?_⟩
  obtain ⟨⟨x1, x2⟩, ex, hm'⟩ := BP.R.bind_ok hm'
  obtain ⟨⟨y1, y2⟩, ey, hm'⟩ := BP.R.bind_ok hm'
  dsimp only at hm'
  split at hm'
  · split at hm'
    · rename_i hn
      cases hm'
      refine h3.run pins s σ H R I ⟨B, pot, os, env, st, E, _, _, ex, fun v1 H1 k1 p1 => ?_⟩
      obtain ⟨E1, w1⟩ := p1
      cases w1
      refine ⟨B, pot, os, env, _, E1, _, _, ey, fun v2 H2 k2 p2 => ?_⟩
      obtain ⟨E2, w2⟩ := p2
      cases w2
      exact ⟨_, _, rfl, ⟨by omega, by omega, by omega, by omega⟩, hR _ H2 (k1.trans k2) E2 (walks_range rfl)⟩
    · cases hm'
  · cases hm'
theorem i_enum {p tpos : PySem.Pos} {elts : List PySem.Expr} {kk : Nat} (hg : L2.Gl X "enumerate") (hm : X.mg "enumerate" = none) (ha : PE X a (tM X.K ma)) (hs : PySem.starEach [a] X.env = (false, PySem.eval a X.env) :: PySem.starEach [] X.env := by rfl) (hs2 : PySem.starEach [a] X.env = [(false, PySem.eval a X.env)] := by rfl) :
    PI X (.Tuple elts kk tpos) (.Call (.Name "enumerate" p) [a] [] pos) (tMI X.K (iEnumL ma)) := by
  refine ⟨fun pins s σ H R I ⟨B, pot, os, env, st, E, ds, st', hm', hR⟩ => ?_⟩
  obtain ⟨x, ex, hm'⟩ := BP.R.bind_ok hm'
  obtain ⟨u, eu, hm'⟩ := BP.R.bind_ok hm'
  split at hm'
  · cases hm'
    refine (L2.pi_enum hg hm (L2.pa_cons ha L2.pa_nil hs) hs2).run pins s σ H R I ⟨B, pot, os, env, st, E, _, _, ex, fun v1 H1 k1 p1 => ?_⟩
    obtain ⟨E1, w1⟩ := p1.val E eu
    cases w1 with
    | lst h1 h2 h3 => exact ⟨_, _, rfl, .inl (.inl h2), hR _ H1 k1 E1 (walks_enum h1 h2 h3)⟩
  · cases hm'
theorem i_zip {p tpos : PySem.Pos} {elts : List PySem.Expr} {kk : Nat} (hg : L2.Gl X "zip") (hm : X.mg "zip" = none) (ha : PE X a (tM X.K ma)) (hb : PE X b (tM X.K mb)) (h1 : PySem.starEach [a, b] X.env = (false, PySem.eval a X.env) :: PySem.starEach [b] X.env := by rfl) (h2 : PySem.starEach [b] X.env = (false, PySem.eval b X.env) :: PySem.starEach [] X.env := by rfl)
    (hp : (PySem.backTo pos (PySem.starEach [b] X.env)).any (·.1) = false := by rfl) :
    PI X (.Tuple elts kk tpos) (.Call (.Name "zip" p) [a, b] [] pos) (tMI X.K (iZipS ma mb)) := by
  refine ⟨fun pins s σ H R I ⟨B, pot, os, env, st, E, ds, st', hm', hR⟩ => ?_⟩
  obtain ⟨x, ex, hm'⟩ := BP.R.bind_ok hm'
  obtain ⟨u, eu, hm'⟩ := BP.R.bind_ok hm'
  obtain ⟨y, ey, hm'⟩ := BP.R.bind_ok hm'
  obtain ⟨w, ew, hm'⟩ := BP.R.bind_ok hm'
  refine (RZ.pi_zipA hg hm (L2.pa_cons ha (L2.pa_cons hb L2.pa_nil h2) h1) h1 hp).run pins s σ H R I ⟨B, pot, os, env, st, E, _, _, ex, fun v1 H1 k1 p1 => ?_⟩
  obtain ⟨E1, w1⟩ := p1.val E eu
  refine ⟨B, pot, os, env, _, E1, _, _, ey, fun v2 H2 k2 p2 => ?_⟩
  obtain ⟨E2, w2⟩ := p2.val E1 ew
  have w3 := w1.keep E1 k2
  split at hm'
  · cases hm'
    cases w3 with
    | lst a1 a2 a3 =>
      cases w2 with
      | lst b1 b2 b3 => exact ⟨_, _, _, _, rfl, .inl ⟨.inl (.inl a2), .inl (.inl b2), hR _ H2 (k1.trans k2) E2 (walks_zip a1 a2 a3 b1 b2 b3)⟩⟩
  · cases hm'
    have sq : ∀ {a : Addr} {vs : List V}, (¬ av B os a ∧ H2 a = some (.tup vs)) ∨ KTup X.K a vs → L2.SqT X.K H2 a vs := fun h => by
      rcases h with h | h
      · exact .inl (.inl h.2)
      · exact .inr h
    cases w3 with
    | tup a2 a3 =>
      cases w2 with
      | tup b2 b3 => exact ⟨_, _, _, _, rfl, .inr ⟨sq a2, sq b2, hR _ H2 (k1.trans k2) E2 (walks_zipT a2 a3 b2 b3)⟩⟩
  · cases hm'
end
end BP

namespace BP
open L2 (V Hp HO St TE TT TA TS TG TI It Ends Cx PE PT PW PA PS PSs PG PI Inv upd upd_same upd_ne OpR UnR CallR Same VK XK Sp Room Vals RelV FnScope PK CX0 E0)
/-! ### targets of the text -/
section
variable {X : Cx} {pos : PySem.Pos}
theorem g_nm (i : Nat) {x : PySem.Str} (hN : X.N.Nodup) (hi : X.N[i]? = some x) (hx : L2.Loc X.env.scope x) (hf : X.fn x = true ∨ X.env.scope.names.lookup x = some .local := by first | exact .inl rfl | exact .inr rfl) : PG X (.Name x pos) (gP X.K (.nm i)) := by
  have h := L2.pg_name (pos := pos) hN hi hx hf
  simpa only [gP] using h
theorem gs_nil : L2.PGs X [] (gPs X.K []) := by
  simpa only [gPs] using L2.pgs_nil (X := X)
theorem gs_cons {e : PySem.Expr} {es : List PySem.Expr} {p : Pat} {ps : List Pat} (h1 : PG X e (gP X.K p)) (h2 : L2.PGs X es (gPs X.K ps)) (hs : (PySem.assignEach (e :: es) X.env).map (·.2) = PySem.assign e X.env :: (PySem.assignEach es X.env).map (·.2) := by rfl) : L2.PGs X (e :: es) (gPs X.K (p :: ps)) := by
  simpa only [gPs] using L2.pgs_cons h1 h2 hs
theorem g_tp {es : List PySem.Expr} {k : Nat} {ps : List Pat} (hc : X.calm = true) (h : L2.PGs X es (gPs X.K ps)) (hn : (PySem.assignEach es X.env).length = ps.length := by rfl) (hst : (PySem.assignEach es X.env).findIdx? (·.1) = none := by rfl) : PG X (.Tuple es k pos) (gP X.K (.tp ps)) := by
  simpa only [gP] using L2.pg_tup (k := k) (pos := pos) hc h hn hst
end
/-! ### comprehensions -/
theorem wipeE_len (env : Env) : ∀ vs : List Nat, (wipeE env vs).length = env.length
  | [] => rfl
  | v :: vs => by
    show (setE (wipeE env vs) v .no).length = _
    rw [setE_len, wipeE_len env vs]
theorem isLk_of_pt {e : EV} (h : isPt e = true) : isLk e = true := by
  cases e with
  | pt => rfl
  | _ => cases h
theorem wipe_one {σ : St} {vs : List Nat} : ∀ {us : List Nat}, (∀ u ∈ us, u ∈ vs) → L2.wipe (L2.wipe σ us) vs = L2.wipe σ vs
  | [], _ => rfl
  | u :: us, h => by
    show L2.wipe ((L2.wipe σ us).set u none) vs = _
    rw [wipe_set (h u List.mem_cons_self)]
    exact wipe_one fun v hv => h v (List.mem_cons_of_mem _ hv)
section
variable {K : PySem.W.Frag} {B : Addr → Prop} {pot : Option Addr} {os : List (Option Addr)} {H : Hp} {σ : St} {env : Env} {st : Pt}
theorem ERep.wipe (E : ERep K B pot os H σ env st) : ∀ (vs : List Nat), (vs.any fun v => isLk (getE env v)) = false → ∃ os', ERep K B pot os' H (L2.wipe σ vs) (wipeE env vs) st ∧ (∀ a, some a ∈ os' → some a ∈ os) ∧ (∀ j, isPt (getE (wipeE env vs) j) = true → isPt (getE env j) = true) ∧ ∀ j, j ∉ vs → os'[j]? = os[j]?
  | [], _ => ⟨os, E, fun _ h => h, fun _ h => h, fun _ _ => rfl⟩
  | v :: vs, h => by
    rw [List.any_cons, Bool.or_eq_false_iff] at h
    obtain ⟨os', E', sub, pt, same⟩ := ERep.wipe E vs h.2
    have hv : isPt (getE (wipeE env vs) v) = false := by
      cases q : isPt (getE (wipeE env vs) v) with
      | false => rfl
      | true =>
        rw [isLk_of_pt (pt v q)] at h
        cases h.1
    refine ⟨_, E'.set0 (x := none) (e := .no) hv (fun _ z => nomatch z) (fun _ z => nomatch z) (fun z => nomatch z) (fun _ z => nomatch z) (fun _ z => nomatch z), fun a ha => ?_, fun j hj => ?_, fun j hj => ?_⟩
    · rcases List.mem_or_eq_of_mem_set ha with ha | ha
      · exact sub a ha
      · cases ha
    · by_cases z : j = v
      · rw [z] at hj
        by_cases l : v < (wipeE env vs).length
        · have hj : isPt (getE (setE (wipeE env vs) v .no) v) = true := hj
          rw [getE_same _ _ _ l] at hj
          cases hj
        · have hj : isPt (getE (setE (wipeE env vs) v .no) v) = true := hj
          rw [getE_out _ _ (by rw [setE_len]; omega)] at hj
          cases hj
      · have hj : isPt (getE (setE (wipeE env vs) v .no) j) = true := hj
        rw [getE_ne _ _ _ _ z] at hj
        exact pt j hj
    · rw [List.getElem?_set_ne fun z => hj (by rw [z]; exact List.mem_cons_self)]
      exact same j fun z => hj (List.mem_cons_of_mem _ z)
/-- the block's own slots are no own lists: all own lists are still known -/
theorem ERep.same (E : ERep K B pot os H σ env st) {vs : List Nat} (hv : (vs.any fun v => isLk (getE env v)) = false) {os' : List (Option Addr)} (h : ∀ j, j ∉ vs → os'[j]? = os[j]?) : ∀ a, some a ∈ os → some a ∈ os' := fun a ha => by
  obtain ⟨j, hj, e⟩ := List.getElem_of_mem ha
  have e1 : os[j]? = some (some a) := by rw [List.getElem?_eq_getElem hj, e]
  obtain ⟨_, ds, e2⟩ := E.ad j a e1
  have nj : j ∉ vs := fun z => by
    have := List.any_eq_false.mp hv j z
    rw [e2] at this
    exact this rfl
  rw [← h j nj] at e1
  exact List.mem_of_getElem? e1
end
theorem Dr.fewer {K : PySem.W.Frag} {H : Hp} {B : Addr → Prop} {os os' : List (Option Addr)} {v : V} {d : D} (h : Dr K H (av B os) v d) (sub : ∀ a, some a ∈ os' → some a ∈ os) : Dr K H (av B os') v d :=
  h.to fun b o q z => ⟨q, fun y => z (by
    rcases y with y | y
    · exact .inl y
    · exact .inr (sub b y))⟩
section
variable {X : Cx} {elt tg iter : PySem.Expr} {ifs : List PySem.Expr} {scope : PySem.Scope} {own : List (PySem.Str × Nat)} {pos : PySem.Pos} {p : Pat} {mi : MI} {mc me : ME}
theorem lc_imp (hsl : ∀ i ∈ p.slots, i ∈ own.map (·.2)) : ∀ σ H Q, tM X.K (mLc mi p (own.map (·.2)) mc me) σ H Q → L2.tLc (tMI X.K mi) (gP X.K p) (tMT X.K mc) (tM X.K me) (own.map (·.2)) σ H Q := fun σ H Q ⟨B, pot, os, env, st, E, e, st', hm, hQ⟩ => by
  obtain ⟨x, ex, hm⟩ := R.bind_ok hm
  obtain ⟨ds, st1⟩ := x
  split at hm
  · rename_i hl
    obtain ⟨hlen, hvs⟩ := hl
    have hlen : ds.length ≤ 1000000 := hlen
    obtain ⟨y, ey, hm⟩ := R.bind_ok hm
    cases hm
    obtain ⟨res, stz⟩ := y
    refine ⟨B, pot, os, env, st, E, _, _, ex, fun J H1 k1 E1 wk D hD => ?_⟩
    have nH : H D = none := E1.back k1 hD
    have dpot : pot ≠ some D := fun z => by
      obtain ⟨_, _, _, z2⟩ := E1.pot D z
      rw [hD] at z2
      cases z2
    refine ⟨fun i m H3 => m = ds.length - i ∧ i ≤ ds.length ∧ ∃ sti acc vacc rest, ERep X.K (plus B D) pot os H3 σ env sti ∧ H3 D = some (.lst vacc) ∧ DrAll X.K H3 (av (plus B D) os) vacc acc ∧ (∀ b o, H1 b = some o → pot ≠ some b → H3 b = some o) ∧
      lcL p mc me (wipeE env (own.map (·.2))) (ds.drop i) sti = .ok (rest, stz) ∧ acc ++ rest = res ∧ acc.length ≤ i, ⟨ds.length, rfl, Nat.zero_le _, st1, [], [], res, E1.more (Same.new hD) hD upd_same, upd_same, .nil, fun b o h _ => Same.new hD b o h, ey, rfl, Nat.le_refl _⟩, ?_⟩
    rintro i m H3 ⟨rfl, hi, sti, acc, vacc, rest, E3, h3, d3, kp, hr, ha, hai⟩
    have kA : ∀ b o, H1 b = some o → ¬ av B os b → H3 b = some o := fun b o h z => kp b o h fun y => z (.inl (E1.pot b y).2.2.1)
    obtain ⟨w1, w2, w3⟩ := wk i H3 kA
    by_cases hlt : i < ds.length
    · refine .inr ⟨w1 hlt, fun H4 => ∃ sti acc vacc rest, ERep X.K (plus B D) pot os H4 σ env sti ∧ H4 D = some (.lst vacc) ∧ DrAll X.K H4 (av (plus B D) os) vacc acc ∧ (∀ b o, H1 b = some o → pot ≠ some b → H4 b = some o) ∧
        lcL p mc me (wipeE env (own.map (·.2))) (ds.drop (i + 1)) sti = .ok (rest, stz) ∧ acc ++ rest = res ∧ acc.length ≤ i + 1, fun H4 h4 => ⟨ds.length - (i + 1), by omega, rfl, hlt, h4⟩, fun x H4 y => ?_⟩
      obtain ⟨s4, d, ed, dr⟩ := w3 x H4 y hlt
      have hdrop : ds.drop i = d :: ds.drop (i + 1) := by
        obtain ⟨q1, q2⟩ := List.getElem?_eq_some_iff.mp ed
        rw [← q2]
        exact (List.drop_eq_getElem_cons hlt)
      rw [hdrop] at hr
      obtain ⟨env1, e1, hr⟩ := R.bind_ok hr
      obtain ⟨⟨b1, b2⟩, e2, hr⟩ := R.bind_ok hr
      dsimp only at hr
      have E4 := E3.ext s4
      obtain ⟨os0, E0, sub0, _, same0⟩ := E4.wipe _ hvs
      have trk := E3.tr
      have dx : Dr X.K H4 (av (plus B D) os0) x d := (dr (av (plus B D) os) (fun a q => by
        rcases q with (q | q) | q
        · exact .inl (.inl q)
        · rw [q]
          exact .inr hD
        · exact .inl (.inr q)) trk).fewer sub0
      refine gP_ok p E0 dx e1 fun os1 σ1 E1' sub1 wp same1 => ⟨(wp _ hsl).trans (wipe_one fun _ h => h), ?_⟩
      have os_os1 : ∀ a, some a ∈ os → some a ∈ os1 := E4.same hvs fun j hj => by
        rw [same1 j fun z => hj (hsl j z), same0 j hj]
      have os1_os : ∀ a, some a ∈ os1 → some a ∈ os := fun a h => sub0 a (sub1 a h)
      -- the outer slots stand behind whatever the block does
      have back : ∀ {H5 : Hp} {os2 : List (Option Addr)} {σ2 : St} {env2 : Env} {st2 : Pt}, Keep pot H4 H5 → ERep X.K (plus B D) pot os2 H5 σ2 env2 st2 → ERep X.K (plus B D) pot os H5 σ env st2 := fun k5 E5 => E4.keep k5 fun q hq => (E5.pot q hq).2.2.2
      have kk : ∀ {H5 : Hp}, Keep pot H4 H5 → ∀ b o, H1 b = some o → pot ≠ some b → H5 b = some o := fun k5 b o h z => k5 b o (s4 b o (kp b o h z)) z
      have hal : vacc.length = acc.length := d3.length
      split at hr
      · obtain ⟨⟨v1, v2⟩, e3, hr⟩ := R.bind_ok hr
        obtain ⟨u, eu, hr⟩ := R.bind_ok hr
        obtain ⟨⟨r1, r2⟩, e4, hr⟩ := R.bind_ok hr
        cases hr
        refine ⟨plus B D, pot, os1, env1, sti, E1', true, _, e2, fun H5 k5 E5 => ?_⟩
        refine L2.iteT ?_
        refine ⟨plus B D, pot, os1, env1, _, E5, _, _, e3, fun w H6 k6 p6 => ?_⟩
        obtain ⟨E6, w6⟩ := p6.val E5 eu
        have k46 : Keep pot H4 H6 := k5.trans k6
        have h6 : H6 D = some (.lst vacc) := k46 D _ (s4 D _ h3) dpot
        have E7 := back k46 E6
        refine ⟨vacc, h6, by
          have l2 : PySem.sizeLine = 16777216 := rfl
          omega, ?_⟩
        have dacc : DrAll X.K H6 (av (plus B D) os) vacc acc := (d3.to fun b o q z => ⟨s4 b o q, z⟩).keep E4 k46
        have w7 : Dr X.K H6 (av (plus B D) os) w u := w6.fewer os_os1
        -- the list at D grows: no value goes through it
        have up : ∀ b o, H6 b = some o → ¬ av (plus B D) os b → upd H6 D (.lst (vacc ++ [w])) b = some o ∧ ¬ av (plus B D) os b := fun b o h z => ⟨by
          rw [upd_ne fun y => z (.inl (.inr y))]
          exact h, z⟩
        have E8 : ERep X.K (plus B D) pot os (upd H6 D (.lst (vacc ++ [w]))) σ env v2 := by
          refine ⟨fun b hb => ?_, E7.l1, E7.l2, fun j d h => ?_, fun j es h => ?_, E7.nb, fun j ns h => ?_, E7.ad, E7.inj, E7.pt, fun q h => ?_⟩
          case refine_4 =>
            obtain ⟨b, q1, q2⟩ := E7.fz j ns h
            refine ⟨b, q1, q2.to fun o y => ?_⟩
            rw [upd_ne fun u => ?_]
            · exact y
            · rw [u, h6] at y
              cases y
          · by_cases z : b = D
            · rw [z]
              exact ⟨_, upd_same⟩
            · rw [upd_ne z]
              exact E7.bt b hb
          · obtain ⟨x, q1, q2⟩ := E7.slot j d h
            exact ⟨x, q1, q2.to up⟩
          · obtain ⟨a, us, q1, q2, q3, q4⟩ := E7.own j es h
            refine ⟨a, us, q1, q2, ?_, q4.to up⟩
            rw [upd_ne fun y => (E7.ad j a q1).1 (.inr y)]
            exact q3
          · obtain ⟨q1, q2, q3, q4⟩ := E7.pot q h
            refine ⟨q1, q2, q3, ?_⟩
            rw [upd_ne fun y => dpot (by rw [h, y])]
            exact q4
        refine ⟨v2, acc ++ [u], vacc ++ [w], r1, E8, upd_same, (dacc.append (.cons w7 .nil)).to up, fun b o h z => ?_, e4, by rw [List.append_assoc]; exact ha, by rw [List.length_append]; show acc.length + 1 ≤ _; omega⟩
        rw [upd_ne (L2.ne_of_none h hD)]
        exact kk k46 b o h z
      · refine ⟨plus B D, pot, os1, env1, sti, E1', false, _, e2, fun H5 k5 E5 => ?_⟩
        refine L2.iteF ?_
        exact ⟨b2, acc, vacc, rest, back k5 E5, k5 D _ (s4 D _ h3) dpot, (d3.to fun b o q z => ⟨s4 b o q, z⟩).keep E4 k5, kk k5, hr, ha, by omega⟩
      · cases hr
    · have ei : i = ds.length := by omega
      subst ei
      rw [List.drop_length] at hr
      cases hr
      refine .inl ⟨w2 (Nat.le_refl _), hQ _ H3 (fun b o h z => kp b o (k1 b o h z) z) ⟨D, vacc, rfl, nH, E3, h3, ?_⟩⟩
      rw [← ha, List.append_nil]
      exact d3
  · cases hm
theorem q_lc (hc : X.calm = true) (hN : X.N.Nodup) (hsl : ∀ i ∈ p.slots, i ∈ own.map (·.2)) (hi : PI X tg iter (tMI X.K mi)) (ok : L2.BlkOk X.N X.env.scope scope own)
    (hg : ∀ (s : PySem.Shared) (H : Hp) (C : Addr) (cl : List (PySem.Str × Addr)) (fp : List Addr), PG (X.blk s H scope (PySem.compEnvC scope cl C X.env) fp) tg (gP X.K p)) (ht : ∀ (s : PySem.Shared) (H : Hp) (C : Addr) (cl : List (PySem.Str × Addr)) (fp : List Addr), L2.PTs (X.blk s H scope (PySem.compEnvC scope cl C X.env) fp) ifs (tMT X.K mc))
    (he : ∀ (s : PySem.Shared) (H : Hp) (C : Addr) (cl : List (PySem.Str × Addr)) (fp : List Addr), PE (X.blk s H scope (PySem.compEnvC scope cl C X.env) fp) elt (tM X.K me)) (hs : ∀ x, PySem.foldedSetIterable iter X.env x = pure x := by intro _; rfl) :
    PE X (.ListComp elt [⟨tg, iter, ifs, 0⟩] scope pos) (tM X.K (mLc mi p (own.map (·.2)) mc me)) :=
  PE_imp (L2.pe_lc hc hN hi ok hg ht he hs) (lc_imp hsl)
/-- no test -/
theorem ts_nil : L2.PTs X [] (tMT X.K (mC (.bool true))) := ⟨fun pins s σ H Q I ⟨B, pot, os, env, st, E, b, st', hm, hQ⟩ => by
  cases hm
  exact L2.pts_nil.run pins s σ H Q I (hQ H Keep.refl E)⟩
theorem ts_one {c : PySem.Expr} (h : PT X c (tMT X.K mc)) : L2.PTs X [c] (tMT X.K mc) := L2.pts_one h
end
end BP

namespace BP
open L2 (V Hp HO St TE TT TA TS TG TI It Ends Cx PE PT PW PA PS PSs PG PI Inv upd upd_same upd_ne OpR UnR CallR Same VK XK Sp Room Vals RelV FnScope PK CX0 E0)
/-! ### statements -/
/-- what stands of the heap at the frame's (a loop's) start -/
structure Base0 (W : Addr → Prop) (pot : Option Addr) (os : List (Option Addr)) (H0 H : Hp) : Prop where
  same : ∀ b o, H0 b = some o → ¬ W b → H b = some o
  wr : ∀ a, some a ∈ os → W a ∨ H0 a = none
  wp : ∀ p, pot = some p → W p
section
variable {W : Addr → Prop} {pot : Option Addr} {os os' : List (Option Addr)} {H0 H H1 : Hp}
theorem Base0.step (b : Base0 W pot os H0 H) (k : Keep pot H H1) : Base0 W pot os H0 H1 :=
  ⟨fun a o h n => k a o (b.same a o h n) fun z => n (b.wp a z), b.wr, b.wp⟩
theorem Base0.sub (b : Base0 W pot os H0 H) (s : ∀ a, some a ∈ os' → some a ∈ os) : Base0 W pot os' H0 H :=
  ⟨b.same, fun a h => b.wr a (s a h), b.wp⟩
theorem Base0.fresh (b : Base0 W pot os H0 H) {a : Addr} (n : H a = none) : W a ∨ H0 a = none := by
  by_cases z : W a
  · exact .inl z
  · right
    cases q : H0 a with
    | none => rfl
    | some o =>
      rw [b.same a o q z] at n
      cases n
theorem Base0.put (b : Base0 W pot os H0 H) {i : Nat} {a : Addr} (n : W a ∨ H0 a = none) : Base0 W pot (os.set i (some a)) H0 H :=
  ⟨b.same, fun c h => by
    rcases List.mem_or_eq_of_mem_set h with h | h
    · exact b.wr c h
    · cases h
      exact n, b.wp⟩
theorem Base0.chg (b : Base0 W pot os H0 H) {a : Addr} {o : HO} (h : some a ∈ os) : Base0 W pot os H0 (upd H a o) := by
  refine ⟨fun c u q n => ?_, b.wr, b.wp⟩
  have ne : c ≠ a := fun z => by
    rw [z] at q n
    rcases b.wr a h with y | y
    · exact n y
    · rw [q] at y
      cases y
  rw [upd_ne ne]
  exact b.same c u q n
end
theorem set_none_mem {os : List (Option Addr)} {i : Nat} {a : Addr} (h : some a ∈ os.set i none) : some a ∈ os := by
  rcases List.mem_or_eq_of_mem_set h with h | h
  · exact h
  · cases h
/-- what holds behind: the frame goes on; it is left -/
def After (K : PySem.W.Frag) (B W : Addr → Prop) (pot : Option Addr) (H0 : Hp) (E : Ends) : Out → Prop
  | .nx env st => ∀ σ H os, ERep K B pot os H σ env st → Base0 W pot os H0 H → E.nx σ H
  | .rt d st => ∀ v H, (∀ b o, H0 b = some o → ¬ W b → H b = some o) → Dr K H B v d → (∀ p, pot = some p → H p = some (.lst (st.map V.int))) → E.rt v H
def tMS (K : PySem.W.Frag) (s : MS) : TS := fun E σ H => ∃ B W pot H0 os env st, ERep K B pot os H σ env st ∧ Base0 W pot os H0 H ∧ ∃ o, s env st = .ok o ∧ After K B W pot H0 E o
section
variable {X : Cx} {a b c : PySem.Expr} {ma mb mc me : ME} {pos : PySem.Pos} {s s' : MS} {stm : PySem.Stmt} {rest : List PySem.Stmt}
theorem s_nil : PSs X [] (tMS X.K sNil) := PSs_imp L2.pss_nil fun D σ H ⟨B, W, pot, H0, os, env, st, E, b0, o, hm, h⟩ => by
  cases hm
  exact h σ H os E b0
theorem s_one (h : PS X stm (tMS X.K s)) : PSs X [stm] (tMS X.K s) := L2.pss_one h
theorem s_cons (h : PS X stm (tMS X.K s)) (h2 : PSs X rest (tMS X.K s')) : PSs X (stm :: rest) (tMS X.K (sSeq s s')) :=
  PSs_imp (L2.pss_cons h h2) fun D σ H ⟨B, W, pot, H0, os, env, st, E, b0, o, hm, h⟩ => by
    obtain ⟨x, ex, hm⟩ := R.bind_ok hm
    refine ⟨B, W, pot, H0, os, env, st, E, b0, x, ex, ?_⟩
    cases x with
    | nx env1 st1 => exact fun σ1 H1 os1 E1 b1 => ⟨B, W, pot, H0, os1, env1, st1, E1, b1, o, hm, h⟩
    | rt d st1 =>
      cases hm
      exact h
theorem s_never : PS X stm (tMS X.K sNever) := PS_imp L2.ps_never fun D σ H ⟨B, W, pot, H0, os, env, st, E, b0, o, hm, h⟩ => nomatch hm
/-- an own list is no more changed -/
theorem s_frz (i : Nat) {sts : List PySem.Stmt} (h : PSs X sts (tMS X.K s)) : PSs X sts (tMS X.K (sFrz i s)) :=
  PSs_imp h fun D σ H ⟨B, W, pot, H0, os, env, st, E, b0, o, hm, h⟩ => by
    unfold sFrz at hm
    split at hm
    · rename_i ds hd
      exact ⟨B, W, pot, H0, _, _, st, E.frz hd, b0.sub fun _ => set_none_mem, o, hm, h⟩
    · exact ⟨B, W, pot, H0, os, env, st, E, b0, o, hm, h⟩
theorem s_pass : PS X (.Pass pos) (tMS X.K sNil) := PS_imp L2.ps_pass fun D σ H ⟨B, W, pot, H0, os, env, st, E, b0, o, hm, h⟩ => by
  cases hm
  exact h σ H os E b0
theorem EPost.any {K : PySem.W.Frag} {B : Addr → Prop} {pot : Option Addr} {os : List (Option Addr)} {H H1 : Hp} {σ : St} {env : Env} {st st' : Pt} {v : V} {e : EV} (E : ERep K B pot os H σ env st) (h : EPost K B pot os H H1 σ env st' v e) : ERep K B pot os H1 σ env st' := by
  cases e with
  | no => exact h.elim
  | pt => exact h.elim
  | fz _ => exact h.elim
  | im d => exact h.1
  | bo ds => exact h.1
  | ow ds =>
    obtain ⟨p, vs, _, _, E1, _⟩ := h
    exact E1.less (fun b z => .inl z) fun q z => (E.pot q z).2.2.1
theorem s_expr (ha : PE X a (tM X.K ma)) (hs : PySem.swapsWith a none pos.line X.env = pure false := by rfl) : PS X (.Expr a pos) (tMS X.K (sExpr ma)) :=
  PS_imp (L2.ps_expr ha hs) fun D σ H ⟨B, W, pot, H0, os, env, st, E, b0, o, hm, h⟩ => by
    obtain ⟨x, ex, hm⟩ := R.bind_ok hm
    cases hm
    exact ⟨B, pot, os, env, st, E, _, _, ex, fun v H1 k1 p1 => h σ H1 os (p1.any E) (b0.step k1)⟩
theorem putE_at {env env1 : Env} {i : Nat} {x : EV} (h : putE env i x = .ok env1) : isPt (getE env i) = false ∧ env1 = setE env i x := by
  unfold putE at h
  split at h
  · cases h
  · rename_i q
    cases h
    exact ⟨by simpa using q, rfl⟩
theorem set_imp {i : Nat} : ∀ D σ H, tMS X.K (sSet i ma) D σ H → L2.tAsg (tM X.K ma) (L2.gName i) D σ H := fun D σ H ⟨B, W, pot, H0, os, env, st, E, b0, o, hm, h⟩ => by
  obtain ⟨x, ex, hm⟩ := R.bind_ok hm
  obtain ⟨u, eu, hm⟩ := R.bind_ok hm
  obtain ⟨env1, en, hm⟩ := R.bind_ok hm
  cases hm
  obtain ⟨n1, rfl⟩ := putE_at en
  refine ⟨B, pot, os, env, st, E, _, _, ex, fun v H1 k1 p1 => ?_⟩
  obtain ⟨E1, w1⟩ := p1.val E eu
  exact h _ H1 _ (E1.setI n1 w1) ((b0.step k1).sub fun _ => set_none_mem)
theorem s_set (i : Nat) {x : PySem.Str} {pos' : PySem.Pos} (hN : X.N.Nodup) (hi : X.N[i]? = some x) (hx : L2.Loc X.env.scope x) (ha : PE X a (tM X.K ma)) (hs : PySem.swapsWith a (some (.Name x pos')) pos.line X.env = pure false := by rfl) (hf : X.fn x = true ∨ X.env.scope.names.lookup x = some .local := by first | exact .inl rfl | exact .inr rfl) :
    PS X (.Assign [.Name x pos'] a pos) (tMS X.K (sSet i ma)) := PS_imp (L2.ps_set hN hi hx ha hs hf) set_imp
theorem own_imp2 {i : Nat} : ∀ D σ H, tMS X.K (sOwn i ma) D σ H → L2.tAsg (tM X.K ma) (L2.gName i) D σ H := fun D σ H ⟨B, W, pot, H0, os, env, st, E, b0, o, hm, h⟩ => by
  obtain ⟨x, ex, hm⟩ := R.bind_ok hm
  split at hm
  · rename_i ds hd
    obtain ⟨env1, en, hm⟩ := R.bind_ok hm
    cases hm
    obtain ⟨n1, rfl⟩ := putE_at en
    refine ⟨B, pot, os, env, st, E, _, _, ex, fun v H1 k1 p1 => ?_⟩
    rw [hd] at p1
    obtain ⟨p, vs, rfl, n, E1, e1, e2⟩ := p1
    by_cases il : i < env.length
    · exact h _ H1 _ (E.setO n E1 n1 il e1 e2) ((b0.step k1).put (b0.fresh n))
    · have z1 : setE env i (.ow ds) = env := setE_out _ _ _ (by omega)
      have z2 : σ.set i (some (.ref p)) = σ := by
        have := E.l1
        exact List.set_eq_of_length_le (by omega)
      show D.nx (σ.set i (some (.ref p))) H1
      rw [z2]
      rw [z1] at h
      exact h σ H1 os (EPost.any E (e := .ow ds) ⟨p, vs, rfl, n, E1, e1, e2⟩) (b0.step k1)
  · cases hm
theorem s_own (i : Nat) {x : PySem.Str} {pos' : PySem.Pos} (hN : X.N.Nodup) (hi : X.N[i]? = some x) (hx : L2.Loc X.env.scope x) (ha : PE X a (tM X.K ma)) (hs : PySem.swapsWith a (some (.Name x pos')) pos.line X.env = pure false := by rfl) (hf : X.fn x = true ∨ X.env.scope.names.lookup x = some .local := by first | exact .inl rfl | exact .inr rfl) :
    PS X (.Assign [.Name x pos'] a pos) (tMS X.K (sOwn i ma)) := PS_imp (L2.ps_set hN hi hx ha hs hf) own_imp2
/-- name = [.. for ..] on one line -/
theorem s_setLc (i : Nat) {y : PySem.Str} {py : PySem.Pos} {elt tg iter : PySem.Expr} {ifs : List PySem.Expr} {scope : PySem.Scope} {own : List (PySem.Str × Nat)} {p : Pat} {mi : MI} {lpos : PySem.Pos} (hc : X.calm = true) (hN : X.N.Nodup) (hy : X.N[i]? = some y) (hyl : X.env.scope.names.lookup y = some .local)
    (hsw : PySem.swapsWith (.ListComp elt [⟨tg, iter, ifs, 0⟩] scope lpos) (some (.Name y py)) pos.line X.env = pure true) (hsl : ∀ i ∈ p.slots, i ∈ own.map (·.2)) (hi : PI X tg iter (tMI X.K mi)) (ok : L2.BlkOk X.N X.env.scope scope own)
    (hg : ∀ (s : PySem.Shared) (H : Hp) (C : Addr) (cl : List (PySem.Str × Addr)) (fp : List Addr), PG (X.blk s H scope (PySem.compEnvC scope cl C X.env) fp) tg (gP X.K p)) (ht : ∀ (s : PySem.Shared) (H : Hp) (C : Addr) (cl : List (PySem.Str × Addr)) (fp : List Addr), L2.PTs (X.blk s H scope (PySem.compEnvC scope cl C X.env) fp) ifs (tMT X.K mc))
    (he : ∀ (s : PySem.Shared) (H : Hp) (C : Addr) (cl : List (PySem.Str × Addr)) (fp : List Addr), PE (X.blk s H scope (PySem.compEnvC scope cl C X.env) fp) elt (tM X.K me)) (hs : ∀ x, PySem.foldedSetIterable iter X.env x = pure x := by intro _; rfl) :
    PS X (.Assign [.Name y py] (.ListComp elt [⟨tg, iter, ifs, 0⟩] scope lpos) pos) (tMS X.K (sSet i (mLc mi p (own.map (·.2)) mc me))) :=
  PS_imp (L2.ps_setLc hc hN hy hyl hsw hi ok hg ht he hs) fun D σ H h => lc_imp hsl _ _ _ (set_imp D σ H h)
theorem s_ownLc (i : Nat) {y : PySem.Str} {py : PySem.Pos} {elt tg iter : PySem.Expr} {ifs : List PySem.Expr} {scope : PySem.Scope} {own : List (PySem.Str × Nat)} {p : Pat} {mi : MI} {lpos : PySem.Pos} (hc : X.calm = true) (hN : X.N.Nodup) (hy : X.N[i]? = some y) (hyl : X.env.scope.names.lookup y = some .local)
    (hsw : PySem.swapsWith (.ListComp elt [⟨tg, iter, ifs, 0⟩] scope lpos) (some (.Name y py)) pos.line X.env = pure true) (hsl : ∀ i ∈ p.slots, i ∈ own.map (·.2)) (hi : PI X tg iter (tMI X.K mi)) (ok : L2.BlkOk X.N X.env.scope scope own)
    (hg : ∀ (s : PySem.Shared) (H : Hp) (C : Addr) (cl : List (PySem.Str × Addr)) (fp : List Addr), PG (X.blk s H scope (PySem.compEnvC scope cl C X.env) fp) tg (gP X.K p)) (ht : ∀ (s : PySem.Shared) (H : Hp) (C : Addr) (cl : List (PySem.Str × Addr)) (fp : List Addr), L2.PTs (X.blk s H scope (PySem.compEnvC scope cl C X.env) fp) ifs (tMT X.K mc))
    (he : ∀ (s : PySem.Shared) (H : Hp) (C : Addr) (cl : List (PySem.Str × Addr)) (fp : List Addr), PE (X.blk s H scope (PySem.compEnvC scope cl C X.env) fp) elt (tM X.K me)) (hs : ∀ x, PySem.foldedSetIterable iter X.env x = pure x := by intro _; rfl) :
    PS X (.Assign [.Name y py] (.ListComp elt [⟨tg, iter, ifs, 0⟩] scope lpos) pos) (tMS X.K (sOwn i (mLc mi p (own.map (·.2)) mc me))) :=
  PS_imp (L2.ps_setLc hc hN hy hyl hsw hi ok hg ht he hs) fun D σ H h => lc_imp hsl _ _ _ (own_imp2 D σ H h)
theorem s_pat {tg : PySem.Expr} {p : Pat} (ha : PE X a (tM X.K ma)) (hg : PG X tg (gP X.K p)) (hs : PySem.swapsWithSole [tg] a pos.line X.env = pure false := by rfl) (hw : PySem.swappedStores [tg] a X.env = pure none := by rfl) (h1 : (PySem.assignEach [tg] X.env).map (·.2) = [PySem.assign tg X.env] := by rfl) :
    PS X (.Assign [tg] a pos) (tMS X.K (sPat p ma)) :=
  PS_imp (L2.ps_asg ha hg hs hw h1) fun D σ H ⟨B, W, pot, H0, os, env, st, E, b0, o, hm, h⟩ => by
    obtain ⟨x, ex, hm⟩ := R.bind_ok hm
    obtain ⟨u, eu, hm⟩ := R.bind_ok hm
    obtain ⟨env1, en, hm⟩ := R.bind_ok hm
    cases hm
    refine ⟨B, pot, os, env, st, E, _, _, ex, fun v H1 k1 p1 => ?_⟩
    obtain ⟨E1, w1⟩ := p1.val E eu
    exact gP_ok p E1 w1 en fun os' σ' E' sub _ _ => h σ' H1 os' E' ((b0.step k1).sub sub)
/-! ### a, b = .., .. -/
/-- a value that waits for its store -/
def KP (K : PySem.W.Frag) (B0 B : Addr → Prop) (pot : Option Addr) (os : List (Option Addr)) (H : Hp) (v : V) : EV → Prop
  | .im d => Dr K H (av B os) v d
  | .ow ds => ∃ p vs, v = .ref p ∧ B p ∧ ¬ B0 p ∧ ¬ some p ∈ os ∧ pot ≠ some p ∧ H p = some (.lst vs) ∧ DrAll K H (av B os) vs ds
  | _ => False
end
section
variable {K : PySem.W.Frag} {B B0 B1 B2 : Addr → Prop} {pot : Option Addr} {os os1 : List (Option Addr)} {H H1 : Hp} {σ : St} {env env1 : Env} {st st' : Pt} {v : V} {e u : EV} {i : Nat}
theorem keepE_KP {ob : Bool} (E : ERep K B pot os H σ env st) (p : EPost K B pot os H H1 σ env st' v e) (h : keepE ob e = .ok u) : ∃ B1, (∀ b, B b → B1 b) ∧ (∀ b, B1 b → B b ∨ H b = none) ∧ ERep K B1 pot os H1 σ env st' ∧ KP K B B1 pot os H1 v u := by
  unfold keepE at h
  split at h
  · split at h
    · cases h
      obtain ⟨p, vs, rfl, n, E1, e1, e2⟩ := p
      refine ⟨plus B p, fun b z => .inl z, fun b z => ?_, E1, p, vs, rfl, .inr rfl, fun z => E.off n (.inl z), fun z => E.off n (.inr z), fun z => ?_, e1, e2⟩
      · rcases z with z | z
        · exact .inl z
        · rw [z]
          exact .inr n
      · obtain ⟨_, _, _, y⟩ := E.pot p z
        rw [n] at y
        cases y
    · cases h
  · obtain ⟨d, ed, h⟩ := R.bind_ok h
    cases h
    obtain ⟨E1, w1⟩ := p.val E ed
    exact ⟨B, fun b z => z, fun b z => .inl z, E1, w1⟩
theorem KP.keep (E : ERep K B pot os H σ env st) (k : Keep pot H H1) (s : ∀ b, B b → B1 b) (n : ∀ b, B1 b → B b ∨ H b = none) (h : KP K B0 B pot os H v u) : KP K B0 B1 pot os H1 v u := by
  have kk : ∀ b o, H b = some o → ¬ av B os b → H1 b = some o ∧ ¬ av B1 os b := fun b o q z => ⟨k b o q fun y => z (.inl (E.pot b y).2.2.1), fun y => by
    rcases y with y | y
    · rcases n b y with y | y
      · exact z (.inl y)
      · rw [q] at y
        cases y
    · exact z (.inr y)⟩
  cases u with
  | no => exact h.elim
  | pt => exact h.elim
  | fz _ => exact h.elim
  | bo _ => exact h.elim
  | im d => exact Dr.to kk h
  | ow ds =>
    obtain ⟨p, vs, rfl, h1, h2, h3, h4, h5, h6⟩ := h
    exact ⟨p, vs, rfl, s p h1, h2, h3, h4, k p _ h5 h4, h6.to kk⟩
/-- what an own list's address may not be -/
def KP.adr (v : V) (u : EV) (a : Addr) : Prop := (∃ ds, u = .ow ds) ∧ v = .ref a
/-- the store: the address leaves B -/
theorem KP.put (E : ERep K B pot os H σ env st) (s : ∀ b, B0 b → B b) (bp : ∀ p, pot = some p → B0 p) (h : KP K B0 B pot os H v u) (hp : putE env i u = .ok env1) :
    ∃ B1 os1, (∀ b, B0 b → B1 b) ∧ (∀ b, B1 b → B b) ∧ ERep K B1 pot os1 H (σ.set i (some v)) env1 st ∧ (∀ a, some a ∈ os1 → some a ∈ os ∨ (B a ∧ ¬ B0 a)) ∧ (∀ a, av B1 os1 a → av B os a) ∧ (∀ a, KP.adr v u a ∨ (¬ KP.adr v u a ∧ (B a → B1 a) ∧ (¬ some a ∈ os → ¬ some a ∈ os1))) := by
  obtain ⟨n1, rfl⟩ := putE_at hp
  by_cases il : i < env.length
  case neg =>
    have z2 : σ.set i (some v) = σ := by
      have := E.l1
      exact List.set_eq_of_length_le (by omega)
    rw [z2, setE_out _ _ _ (by omega)]
    exact ⟨B, os, s, fun _ z => z, E, fun a z => .inl z, fun _ z => z, fun a => (Classical.em (KP.adr v u a)).imp (fun z => z) fun z => ⟨z, fun z => z, fun z => z⟩⟩
  cases u with
  | no => exact h.elim
  | pt => exact h.elim
  | fz _ => exact h.elim
  | bo _ => exact h.elim
  | im d =>
    refine ⟨B, _, s, fun _ z => z, E.setI n1 h, fun a z => .inl (set_none_mem z), fun a z => av_set a z, fun a => .inr ⟨fun z => ?_, fun z => z, fun z y => z (set_none_mem y)⟩⟩
    obtain ⟨⟨_, z⟩, _⟩ := z
    cases z
  | ow ds =>
    obtain ⟨p, vs, rfl, h1, h2, h3, h4, h5, h6⟩ := h
    refine ⟨fun b => B b ∧ b ≠ p, os.set i (some p), fun b z => ⟨s b z, fun y => h2 (by rw [← y]; exact z)⟩, fun b z => z.1, ?_, fun a z => ?_, fun a z => ?_, fun a => ?_⟩
    · have l1 := E.l1
      have l2 := E.l2
      have sub : ∀ a, av (fun b => B b ∧ b ≠ p) (os.set i (some p)) a → av B os a := fun a h => by
        rcases h with h | h
        · exact .inl h.1
        · rcases List.mem_or_eq_of_mem_set h with h | h
          · exact .inr h
          · cases h
            exact .inl h1
      have kk : ∀ b o, H b = some o → ¬ av B os b → H b = some o ∧ ¬ av (fun b => B b ∧ b ≠ p) (os.set i (some p)) b := fun b o h z => ⟨h, fun y => z (sub b y)⟩
      have np : ∀ j, os[j]? ≠ some (some p) := fun j q => h3 (List.mem_of_getElem? q)
      have at_ : ∀ {j : Nat} {a : Addr}, (os.set i (some p))[j]? = some (some a) → (j = i ∧ a = p) ∨ (j ≠ i ∧ os[j]? = some (some a)) := fun {j a} h => by
        by_cases z : j = i
        · subst z
          rw [List.getElem?_set_self (by omega)] at h
          exact .inl ⟨rfl, (Option.some.inj (Option.some.inj h)).symm⟩
        · rw [List.getElem?_set_ne (fun y => z y.symm)] at h
          exact .inr ⟨z, h⟩
      refine ⟨fun b hb => E.bt b hb.1, by rw [List.length_set, setE_len]; exact l1, by rw [List.length_set, setE_len]; exact l2, fun j d h => ?_, fun j es h => ?_, fun j es h => ?_, fun j ns h => ?_, fun j a h => ?_, fun j k a h h' => ?_, fun j h => ?_, fun q h => ?_⟩
      case refine_4 =>
        by_cases z : j = i
        · rw [z, getE_same _ _ _ il] at h
          cases h
        · rw [getE_ne _ _ _ _ z] at h
          obtain ⟨a, e1, e2⟩ := E.fz j ns h
          exact ⟨a, by rw [List.getElem?_set_ne (fun y => z y.symm)]; exact e1, e2⟩
      · by_cases z : j = i
        · rw [z, getE_same _ _ _ il] at h
          cases h
        · rw [getE_ne _ _ _ _ z] at h
          obtain ⟨x, e1, e2⟩ := E.slot j d h
          exact ⟨x, by rw [List.getElem?_set_ne (fun y => z y.symm)]; exact e1, e2.to kk⟩
      · by_cases z : j = i
        · rw [z, getE_same _ _ _ il] at h
          cases h
          rw [z]
          exact ⟨p, vs, by rw [List.getElem?_set_self (by omega)], by rw [List.getElem?_set_self (by omega)], h5, h6.to kk⟩
        · rw [getE_ne _ _ _ _ z] at h
          obtain ⟨a, us, e1, e2, e3, e4⟩ := E.own j es h
          exact ⟨a, us, by rw [List.getElem?_set_ne (fun y => z y.symm)]; exact e1, by rw [List.getElem?_set_ne (fun y => z y.symm)]; exact e2, e3, e4.to kk⟩
      · by_cases z : j = i
        · rw [z, getE_same _ _ _ il] at h
          cases h
        · rw [getE_ne _ _ _ _ z] at h
          exact E.nb j es h
      · rcases at_ h with ⟨rfl, rfl⟩ | ⟨z, h⟩
        · exact ⟨fun y => y.2 rfl, ds, getE_same _ _ _ il⟩
        · obtain ⟨e1, es, e2⟩ := E.ad j a h
          exact ⟨fun y => e1 y.1, es, by rw [getE_ne _ _ _ _ z]; exact e2⟩
      · rcases at_ h with ⟨rfl, rfl⟩ | ⟨z, h⟩
        · rcases at_ h' with ⟨rfl, _⟩ | ⟨z', h'⟩
          · rfl
          · exact absurd h' (np k)
        · rcases at_ h' with ⟨_, z2⟩ | ⟨z', h'⟩
          · rw [z2] at h
            exact absurd h (np j)
          · exact E.inj j k a h h'
      · by_cases z : j = i
        · rw [z, getE_same _ _ _ il] at h
          cases h
        · rw [getE_ne _ _ _ _ z] at h
          exact E.pt j h
      · obtain ⟨e1, e2, e3, e4⟩ := E.pot q h
        have z : (0 : Nat) ≠ i := fun y => by
          rw [← y, e2] at n1
          cases n1
        exact ⟨by rw [List.getElem?_set_ne (fun y => z y.symm)]; exact e1, by rw [getE_ne _ _ _ _ z]; exact e2, ⟨e3, fun y => h4 (by rw [h, y])⟩, e4⟩
    · rcases List.mem_or_eq_of_mem_set z with z | z
      · exact .inl z
      · cases z
        exact .inr ⟨h1, h2⟩
    · rcases z with z | z
      · exact .inl z.1
      · rcases List.mem_or_eq_of_mem_set z with z | z
        · exact .inr z
        · cases z
          exact .inl h1
    · by_cases z : a = p
      · exact .inl ⟨⟨_, rfl⟩, by rw [z]⟩
      · refine .inr ⟨fun y => z (V.ref.inj y.2).symm, fun y => ⟨y, z⟩, fun y q => ?_⟩
        rcases List.mem_or_eq_of_mem_set q with q | q
        · exact y q
        · cases q
          exact z rfl
/-- another one still waits -/
theorem KP.other {w : V} {t : EV} (h : KP K B0 B pot os H w t) (s1 : ∀ b, B1 b → B b) (av1 : ∀ a, av B1 os1 a → av B os a) (sep : ∀ a, KP.adr v u a ∨ (¬ KP.adr v u a ∧ (B a → B1 a) ∧ (¬ some a ∈ os → ¬ some a ∈ os1))) (ne : ∀ a, KP.adr w t a → ¬ KP.adr v u a) : KP K B0 B1 pot os1 H w t := by
  have kk : ∀ b o, H b = some o → ¬ av B os b → H b = some o ∧ ¬ av B1 os1 b := fun b o q z => ⟨q, fun y => z (av1 b y)⟩
  cases t with
  | no => exact h.elim
  | pt => exact h.elim
  | fz _ => exact h.elim
  | bo _ => exact h.elim
  | im d => exact Dr.to kk h
  | ow ds =>
    obtain ⟨p, vs, rfl, h1, h2, h3, h4, h5, h6⟩ := h
    rcases sep p with z | ⟨_, z1, z2⟩
    · exact absurd z (ne p ⟨⟨_, rfl⟩, rfl⟩)
    · exact ⟨p, vs, rfl, z1 h1, h2, z2 h3, h4, h5, h6.to kk⟩
end
section
variable {X : Cx} {a b c : PySem.Expr} {ma mb mc me : ME} {pos : PySem.Pos}
theorem KP.isB {K : PySem.W.Frag} {B0 B : Addr → Prop} {pot : Option Addr} {os : List (Option Addr)} {H : Hp} {v : V} {u : EV} (h : KP K B0 B pot os H v u) {a : Addr} (z : KP.adr v u a) : B a ∧ ¬ B0 a ∧ ¬ some a ∈ os ∧ ∃ o, H a = some o := by
  obtain ⟨⟨ds, rfl⟩, rfl⟩ := z
  obtain ⟨p, vs, h0, h1, h2, h3, h4, h5, h6⟩ := h
  cases h0
  exact ⟨h1, h2, h3, _, h5⟩
theorem av_mono {B B1 : Addr → Prop} {os : List (Option Addr)} (s : ∀ b, B b → B1 b) : ∀ a, av B os a → av B1 os a := fun a h => by
  rcases h with h | h
  · exact .inl (s a h)
  · exact .inr h
theorem s_par2 (i j : Nat) (oi oj : Bool) {x y : PySem.Str} {px py pt : PySem.Pos} {kt k2 pt2} (hc : X.calm = true) (hN : X.N.Nodup) (hi : X.N[i]? = some x) (hj : X.N[j]? = some y) (hij : i ≠ j)
    (hx : X.env.scope.names.lookup x = some .local) (hy : X.env.scope.names.lookup y = some .local) (ha : PE X a (tM X.K ma)) (hb : PE X b (tM X.K mb))
    (hw : PySem.swappedStores [.Tuple [.Name x px, .Name y py] kt pt] (.Tuple [a, b] k2 pt2) X.env = pure (some [x, y]))
    (h1 : PySem.starEach [a, b] X.env = (false, PySem.eval a X.env) :: PySem.starEach [b] X.env := by rfl) (h2 : PySem.starEach [b] X.env = (false, PySem.eval b X.env) :: PySem.starEach [] X.env := by rfl)
    (hs : PySem.swapsWithSole [.Tuple [.Name x px, .Name y py] kt pt] (.Tuple [a, b] k2 pt2) pos.line X.env = pure false := by rfl) :
    PS X (.Assign [.Tuple [.Name x px, .Name y py] kt pt] (.Tuple [a, b] k2 pt2) pos) (tMS X.K (sPar2 i j oi oj ma mb)) := by
  refine PS_imp (L2.ps_par hc hN hi hj hij hx hy (L2.pa_cons ha (L2.pa_cons hb L2.pa_nil h2) h1) hw hs) fun D σ H ⟨B, W, pot, H0, os, env, st, E, b0, o, hm, h⟩ => ?_
  obtain ⟨x1, ex, hm⟩ := R.bind_ok hm
  obtain ⟨u, eu, hm⟩ := R.bind_ok hm
  obtain ⟨y1, ey, hm⟩ := R.bind_ok hm
  obtain ⟨t, et, hm⟩ := R.bind_ok hm
  obtain ⟨env1, en1, hm⟩ := R.bind_ok hm
  obtain ⟨env2, en2, hm⟩ := R.bind_ok hm
  cases hm
  refine ⟨B, pot, os, env, st, E, _, _, ex, fun v H1 k1 p1 => ?_⟩
  obtain ⟨B1, s1, n1, E1, w1⟩ := keepE_KP E p1 eu
  refine ⟨B1, pot, os, env, _, E1, _, _, ey, fun w H2 k2 p2 => ?_⟩
  obtain ⟨B2, s2, n2, E2, w2⟩ := keepE_KP E1 p2 et
  have w1' := w1.keep E1 k2 s2 n2
  have w2' : KP X.K B B2 pot os H2 w t := by
    cases t with
    | no => exact w2.elim
    | pt => exact w2.elim
    | fz _ => exact w2.elim
    | bo _ => exact w2.elim
    | im d => exact w2
    | ow ds =>
      obtain ⟨p, vs, h0, h1, h2, h3⟩ := w2
      exact ⟨p, vs, h0, h1, fun z => h2 (s1 p z), h3⟩
  have ne : ∀ a, KP.adr w t a → ¬ KP.adr v u a := fun a z y => (w2.isB z).2.1 (w1.isB y).1
  have bp : ∀ p, pot = some p → B p := fun p z => (E.pot p z).2.2.1
  have fr : ∀ a, B2 a ∧ ¬ B a → H a = none := fun a z => by
    rcases n2 a z.1 with y | y
    · rcases n1 a y with y | y
      · exact absurd y z.2
      · exact y
    · exact E1.back k1 y
  refine ⟨v, w, rfl, ?_⟩
  obtain ⟨B3, o3, a1, a2, E3, a3, a4, a5⟩ := w1'.put E2 (fun b z => s2 b (s1 b z)) bp en1
  have w3 := w2'.other a2 a4 a5 ne
  obtain ⟨B4, o4, c1, c2, E4, c3, c4, c5⟩ := w3.put E3 a1 bp en2
  refine h _ H2 o4 (E4.less c1 bp) ⟨fun b o q z => (b0.step (k1.trans k2)).same b o q z, fun a z => ?_, b0.wp⟩
  rcases c3 a z with z | z
  · rcases a3 a z with z | z
    · exact b0.wr a z
    · exact b0.fresh (fr a z)
  · exact b0.fresh (fr a ⟨a2 a z.1, z.2⟩)
theorem KP.base {K : PySem.W.Frag} {B B0 B' : Addr → Prop} {pot : Option Addr} {os : List (Option Addr)} {H : Hp} {v : V} {u : EV} (h : KP K B0 B pot os H v u) (s : ∀ b, B' b → B0 b) : KP K B' B pot os H v u := by
  cases u with
  | no => exact h.elim
  | pt => exact h.elim
  | fz _ => exact h.elim
  | bo _ => exact h.elim
  | im d => exact h
  | ow ds =>
    obtain ⟨p, vs, h0, h1, h2, h3⟩ := h
    exact ⟨p, vs, h0, h1, fun z => h2 (s p z), h3⟩
theorem s_par3 (i j k : Nat) (oi oj ok : Bool) {x y z : PySem.Str} {px py pz pt : PySem.Pos} {kt k2 pt2} (hc : X.calm = true) (hN : X.N.Nodup) (hi : X.N[i]? = some x) (hj : X.N[j]? = some y) (hk : X.N[k]? = some z) (hij : i ≠ j) (hik : i ≠ k) (hjk : j ≠ k)
    (hx : X.env.scope.names.lookup x = some .local) (hy : X.env.scope.names.lookup y = some .local) (hz : X.env.scope.names.lookup z = some .local) (ha : PE X a (tM X.K ma)) (hb : PE X b (tM X.K mb)) (hcc : PE X c (tM X.K mc))
    (hw : PySem.swappedStores [.Tuple [.Name x px, .Name y py, .Name z pz] kt pt] (.Tuple [a, b, c] k2 pt2) X.env = pure (some [x, y, z]))
    (h1 : PySem.starEach [a, b, c] X.env = (false, PySem.eval a X.env) :: PySem.starEach [b, c] X.env := by rfl) (h2 : PySem.starEach [b, c] X.env = (false, PySem.eval b X.env) :: PySem.starEach [c] X.env := by rfl) (h3 : PySem.starEach [c] X.env = (false, PySem.eval c X.env) :: PySem.starEach [] X.env := by rfl)
    (hs : PySem.swapsWithSole [.Tuple [.Name x px, .Name y py, .Name z pz] kt pt] (.Tuple [a, b, c] k2 pt2) pos.line X.env = pure false := by rfl) :
    PS X (.Assign [.Tuple [.Name x px, .Name y py, .Name z pz] kt pt] (.Tuple [a, b, c] k2 pt2) pos) (tMS X.K (sPar3 i j k oi oj ok ma mb mc)) := by
  refine PS_imp (L2.ps_par3 hc hN hi hj hk hij hik hjk hx hy hz (L2.pa_cons ha (L2.pa_cons hb (L2.pa_cons hcc L2.pa_nil h3) h2) h1) hw hs) fun D σ H ⟨B, W, pot, H0, os, env, st, E, b0, o, hm, h⟩ => ?_
  obtain ⟨x1, ex, hm⟩ := R.bind_ok hm
  obtain ⟨u, eu, hm⟩ := R.bind_ok hm
  obtain ⟨y1, ey, hm⟩ := R.bind_ok hm
  obtain ⟨t, et, hm⟩ := R.bind_ok hm
  obtain ⟨z1, ez, hm⟩ := R.bind_ok hm
  obtain ⟨r, er, hm⟩ := R.bind_ok hm
  obtain ⟨env1, en1, hm⟩ := R.bind_ok hm
  obtain ⟨env2, en2, hm⟩ := R.bind_ok hm
  obtain ⟨env3, en3, hm⟩ := R.bind_ok hm
  cases hm
  refine ⟨B, pot, os, env, st, E, _, _, ex, fun v H1 k1 p1 => ?_⟩
  obtain ⟨B1, s1, n1, E1, w1⟩ := keepE_KP E p1 eu
  refine ⟨B1, pot, os, env, _, E1, _, _, ey, fun w H2 k2 p2 => ?_⟩
  obtain ⟨B2, s2, n2, E2, w2⟩ := keepE_KP E1 p2 et
  refine ⟨B2, pot, os, env, _, E2, _, _, ez, fun q H3 k3 p3 => ?_⟩
  obtain ⟨B3, s3, n3, E3, w3⟩ := keepE_KP E2 p3 er
  have u1 := (w1.keep E1 k2 s2 n2).keep E2 k3 s3 n3
  have u2 := w2.keep E2 k3 s3 n3
  have ne1 : ∀ a, KP.adr w t a → ¬ KP.adr v u a := fun a z y => (w2.isB z).2.1 (w1.isB y).1
  have ne2 : ∀ a, KP.adr q r a → ¬ KP.adr v u a := fun a z y => (w3.isB z).2.1 (s2 a (w1.isB y).1)
  have ne3 : ∀ a, KP.adr q r a → ¬ KP.adr w t a := fun a z y => (w3.isB z).2.1 (w2.isB y).1
  have u2' := u2.base s1
  have u3' := w3.base fun b z => s2 b (s1 b z)
  have bp : ∀ p, pot = some p → B p := fun p z => (E.pot p z).2.2.1
  have fr : ∀ a, B3 a ∧ ¬ B a → H a = none := fun a z => by
    rcases n3 a z.1 with y | y
    · rcases n2 a y with y | y
      · rcases n1 a y with y | y
        · exact absurd y z.2
        · exact y
      · exact E1.back k1 y
    · exact E1.back k1 (E2.back k2 y)
  refine ⟨v, w, q, rfl, ?_⟩
  obtain ⟨B4, o4, a1, a2, E4, a3, a4, a5⟩ := u1.put E3 (fun b z => s3 b (s2 b (s1 b z))) bp en1
  have g2 := u2'.other a2 a4 a5 ne1
  have g3 := u3'.other a2 a4 a5 ne2
  obtain ⟨B5, o5, c1, c2, E5, c3, c4, c5⟩ := g2.put E4 a1 bp en2
  have g4 := g3.other c2 c4 c5 ne3
  obtain ⟨B6, o6, d1, d2, E6, d3, d4, d5⟩ := g4.put E5 c1 bp en3
  refine h _ H3 o6 (E6.less d1 bp) ⟨fun b o q z => (b0.step ((k1.trans k2).trans k3)).same b o q z, fun a z => ?_, b0.wp⟩
  rcases d3 a z with z | z
  · rcases c3 a z with z | z
    · rcases a3 a z with z | z
      · exact b0.wr a z
      · exact b0.fresh (fr a z)
    · exact b0.fresh (fr a ⟨a2 a z.1, z.2⟩)
  · exact b0.fresh (fr a ⟨a2 a (c2 a z.1), z.2⟩)
end
end BP

namespace BP
open L2 (V Hp HO St TE TT TA TS TG TI It Ends Cx PE PT PW PA PS PSs PG PI Inv upd upd_same upd_ne OpR UnR CallR Same VK XK Sp Room Vals RelV FnScope PK CX0 E0)
section
variable {X : Cx} {a b c : PySem.Expr} {ma mb mc me : ME} {pos : PySem.Pos} {s s' : MS} {stm : PySem.Stmt} {rest : List PySem.Stmt}
theorem rt_ok {K : PySem.W.Frag} {B W : Addr → Prop} {pot : Option Addr} {os : List (Option Addr)} {H0 H : Hp} {σ : St} {env : Env} {st : Pt} {En : Ends} {v : V} {d : D} (E : ERep K B pot os H σ env st) (b0 : Base0 W pot os H0 H) (w : Dr K H (av B os) v d) (h : After K B W pot H0 En (.rt d st)) : En.rt v H :=
  h v H b0.same (w.to fun b o q z => ⟨q, fun y => z (.inl y)⟩) fun p z => (E.pot p z).2.2.2
theorem s_ret (ha : PE X a (tM X.K ma)) : PS X (.Return (some a) pos) (tMS X.K (sRet ma)) :=
  PS_imp (L2.ps_ret ha) fun D σ H ⟨B, W, pot, H0, os, env, st, E, b0, o, hm, h⟩ => by
    obtain ⟨x, ex, hm⟩ := R.bind_ok hm
    obtain ⟨u, eu, hm⟩ := R.bind_ok hm
    cases hm
    refine ⟨B, pot, os, env, st, E, _, _, ex, fun v H1 k1 p1 => ?_⟩
    obtain ⟨E1, w1⟩ := p1.val E eu
    exact rt_ok E1 (b0.step k1) w1 h
theorem s_retN : PS X (.Return none pos) (tMS X.K sRetN) :=
  PS_imp L2.ps_retN fun D σ H ⟨B, W, pot, H0, os, env, st, E, b0, o, hm, h⟩ => by
    cases hm
    exact rt_ok E b0 .non h
theorem s_if {c : PySem.Expr} {sa sb : List PySem.Stmt} (hc : PT X c (tMT X.K mc)) (h1 : PSs X sa (tMS X.K s)) (h2 : PSs X sb (tMS X.K s')) : PS X (.If c sa sb pos) (tMS X.K (sIf mc s s')) :=
  PS_imp (L2.ps_if hc h1 h2) fun D σ H ⟨B, W, pot, H0, os, env, st, E, b0, o, hm, h⟩ => by
    obtain ⟨⟨x1, x2⟩, ex, hm⟩ := R.bind_ok hm
    dsimp only at hm
    split at hm
    · refine ⟨B, pot, os, env, st, E, _, _, ex, fun H1 k1 E1 => ?_⟩
      refine L2.iteT ?_
      exact ⟨B, W, pot, H0, os, env, _, E1, b0.step k1, o, hm, h⟩
    · refine ⟨B, pot, os, env, st, E, _, _, ex, fun H1 k1 E1 => ?_⟩
      refine L2.iteF ?_
      exact ⟨B, W, pot, H0, os, env, _, E1, b0.step k1, o, hm, h⟩
    · cases hm
/-! ### an own list is changed -/
theorem s_setI (i : Nat) {xo e v : PySem.Expr} {me mv : ME} {p2 : PySem.Pos} (ho : PE X xo (L2.tVar i)) (he : PE X e (tM X.K me)) (hv : PE X v (tM X.K mv))
    (hs : PySem.swapsWithSole [.Subscript xo e p2] v pos.line X.env = pure false := by rfl) (hw : PySem.swappedStores [.Subscript xo e p2] v X.env = pure none := by rfl) (h1 : (PySem.assignEach [.Subscript xo e p2] X.env).map (·.2) = [PySem.assign (.Subscript xo e p2) X.env] := by rfl)
    (h2 : ∀ v, PySem.assign (.Subscript xo e p2) X.env v = (do
      let ov ← PySem.holding [v] (PySem.eval xo X.env)
      let iv ← PySem.holding [v, ov] (PySem.eval e X.env)
      PySem.standAt p2
      PySem.holding [v, ov, iv] (PySem.setItem ov iv v)
      PySem.release [v, ov, iv] []) := by intro _; rfl) :
    PS X (.Assign [.Subscript xo e p2] v pos) (tMS X.K (sSetI i me mv)) :=
  PS_imp (L2.ps_asg hv (L2.pg_sub ho he L2.set_list h2) hs hw h1) fun D σ H ⟨B, W, pot, H0, os, env, st, E, b0, o, hm, h⟩ => by
    obtain ⟨y, ey, hm⟩ := R.bind_ok hm
    obtain ⟨u, eu, hm⟩ := R.bind_ok hm
    obtain ⟨⟨x1, x2⟩, ex, hm⟩ := R.bind_ok hm
    dsimp only at hm
    split at hm
    · rename_i ds k hd
      split at hm
      · rename_i j hj
        cases hm
        refine ⟨B, pot, os, env, st, E, _, _, ey, fun w H1 k1 p1 => ?_⟩
        obtain ⟨E1, w1⟩ := p1.val E eu
        obtain ⟨a0, vs0, e1, e2, _, _⟩ := E1.own _ _ hd
        refine ⟨_, e2, B, pot, os, env, _, E1, _, _, ex, fun w2 H2 k2 p2 => ?_⟩
        obtain ⟨E2, q2⟩ := p2
        cases q2
        obtain ⟨a1, vs, e3, e4, e5, e6⟩ := E2.own _ _ hd
        rw [e1] at e3
        cases e3
        have hj' : L2.ixN vs.length k = some j := by rw [e6.length]; exact hj
        refine ⟨a0, vs, k, j, rfl, rfl, e5, hj', ?_⟩
        exact h σ _ os (E2.chg hd e1 (e6.set (w1.keep E1 k2) j)) ((b0.step (k1.trans k2)).chg (List.mem_of_getElem? e1))
      · cases hm
    · cases hm
theorem s_append (i : Nat) {xo v : PySem.Expr} {mv : ME} {apos cpos : PySem.Pos} (ho : PE X xo (L2.tVar i)) (hv : PE X v (tM X.K mv))
    (hbase : PySem.attributeBase xo "append" X.env (PySem.eval xo X.env) = PySem.eval xo X.env := by rfl)
    (hfew : ((PySem.backTo cpos (PySem.starEach [v] X.env)).all (fun x => !x.1) && (PySem.backToKw cpos (PySem.keywordEach [] X.env)).all (fun x => x.1.isSome)
      && decide ([v].length + ([] : List PySem.Keyword).length + (if ([] : List PySem.Keyword).isEmpty then 0 else 1) < 30)) = true := by rfl)
    (hline : (apos.endLine == cpos.line) = true := by rfl) (hs : PySem.starEach [v] X.env = (false, PySem.eval v X.env) :: PySem.starEach [] X.env := by rfl) (hplain : (PySem.backTo cpos (PySem.starEach [] X.env)).any (·.1) = false := by rfl)
    (hsw : PySem.swapsWith (.Call (.Attribute xo "append" apos) [v] [] cpos) none pos.line X.env = pure false := by rfl) :
    PS X (.Expr (.Call (.Attribute xo "append" apos) [v] [] cpos) pos) (tMS X.K (sAppend i mv)) :=
  PS_imp (L2.ps_expr (L2.pe_bm PySem.F.plainAttrs_list PySem.F.slot_list_append PySem.F.type_list_append L2.mt_append ho (L2.pa_cons hv L2.pa_nil hs) hbase hfew hline hs hplain) hsw) fun D σ H ⟨B, W, pot, H0, os, env, st, E, b0, o, hm, h⟩ => by
    obtain ⟨y, ey, hm⟩ := R.bind_ok hm
    obtain ⟨u, eu, hm⟩ := R.bind_ok hm
    split at hm
    · rename_i ds hd
      split at hm
      · rename_i hl
        cases hm
        obtain ⟨a0, vs0, e1, e2, e0, _⟩ := E.own _ _ hd
        refine ⟨_, e2, .inl ⟨rfl, vs0, .inl (.inl e0)⟩, B, pot, os, env, st, E, _, _, ey, fun w H1 k1 p1 => ?_⟩
        obtain ⟨E1, w1⟩ := p1.val E eu
        obtain ⟨a1, vs, e3, e4, e5, e6⟩ := E1.own _ _ hd
        rw [e1] at e3
        cases e3
        have hl2 := e6.length
        have l1 : LIM = 1000000 := rfl
        have l2 : PySem.sizeLine = 16777216 := rfl
        refine ⟨a0, vs, w, rfl, rfl, e5, by omega, ?_⟩
        exact h σ _ os (E1.chg hd e1 (e6.append (.cons w1 .nil))) ((b0.step k1).chg (List.mem_of_getElem? e1))
      · cases hm
    · cases hm
theorem s_extend (i : Nat) {xo v : PySem.Expr} {mv : ME} {apos cpos : PySem.Pos} (ho : PE X xo (L2.tVar i)) (hv : PE X v (tM X.K mv))
    (hbase : PySem.attributeBase xo "extend" X.env (PySem.eval xo X.env) = PySem.eval xo X.env := by rfl)
    (hfew : ((PySem.backTo cpos (PySem.starEach [v] X.env)).all (fun x => !x.1) && (PySem.backToKw cpos (PySem.keywordEach [] X.env)).all (fun x => x.1.isSome)
      && decide ([v].length + ([] : List PySem.Keyword).length + (if ([] : List PySem.Keyword).isEmpty then 0 else 1) < 30)) = true := by rfl)
    (hline : (apos.endLine == cpos.line) = true := by rfl) (hs : PySem.starEach [v] X.env = (false, PySem.eval v X.env) :: PySem.starEach [] X.env := by rfl) (hplain : (PySem.backTo cpos (PySem.starEach [] X.env)).any (·.1) = false := by rfl)
    (hsw : PySem.swapsWith (.Call (.Attribute xo "extend" apos) [v] [] cpos) none pos.line X.env = pure false := by rfl) :
    PS X (.Expr (.Call (.Attribute xo "extend" apos) [v] [] cpos) pos) (tMS X.K (sExtend i mv)) :=
  PS_imp (L2.ps_expr (L2.pe_bm PySem.F.plainAttrs_list PySem.F.slot_list_extend PySem.F.type_list_extend L2.mt_extend ho (L2.pa_cons hv L2.pa_nil hs) hbase hfew hline hs hplain) hsw) fun D σ H ⟨B, W, pot, H0, os, env, st, E, b0, o, hm, h⟩ => by
    obtain ⟨y, ey, hm⟩ := R.bind_ok hm
    obtain ⟨u, eu, hm⟩ := R.bind_ok hm
    split at hm
    · rename_i ds es hd
      split at hm
      · rename_i hl
        cases hm
        obtain ⟨a0, vs0, e1, e2, e0, _⟩ := E.own _ _ hd
        refine ⟨_, e2, .inl ⟨rfl, vs0, .inl (.inl e0)⟩, B, pot, os, env, st, E, _, _, ey, fun w H1 k1 p1 => ?_⟩
        obtain ⟨E1, w1⟩ := p1.val E eu
        obtain ⟨a1, vs, e3, e4, e5, e6⟩ := E1.own _ _ hd
        rw [e1] at e3
        cases e3
        cases w1 with
        | lst q1 q2 q3 =>
          have hl2 := e6.length
          have hl3 := q3.length
          have l1 : LIM = 1000000 := rfl
          have l2 : PySem.sizeLine = 16777216 := rfl
          refine ⟨a0, _, vs, _, rfl, rfl, e5, q2, by omega, ?_⟩
          exact h σ _ os (E1.chg hd e1 (e6.append q3)) ((b0.step k1).chg (List.mem_of_getElem? e1))
      · cases hm
    · cases hm
theorem s_pop (i : Nat) {xo : PySem.Expr} {apos cpos : PySem.Pos} (ho : PE X xo (L2.tVar i))
    (hbase : PySem.attributeBase xo "pop" X.env (PySem.eval xo X.env) = PySem.eval xo X.env := by rfl) (hline : (apos.endLine == cpos.line) = true := by rfl)
    (hsw : PySem.swapsWith (.Call (.Attribute xo "pop" apos) [] [] cpos) none pos.line X.env = pure false := by rfl) :
    PS X (.Expr (.Call (.Attribute xo "pop" apos) [] [] cpos) pos) (tMS X.K (sPop i)) :=
  PS_imp (L2.ps_expr (L2.pe_bm0 PySem.F.plainAttrs_list PySem.F.slot_list_pop PySem.F.type_list_pop L2.mt_pop ho hbase hline) hsw) fun D σ H ⟨B, W, pot, H0, os, env, st, E, b0, o, hm, h⟩ => by
    unfold sPop at hm
    split at hm
    · rename_i ds hd
      split at hm
      · rename_i hne
        cases hm
        obtain ⟨a0, vs0, e1, e2, e0, e3⟩ := E.own _ _ hd
        have hl := e3.length
        have hpos : 0 < ds.length := List.length_pos_iff.mpr hne
        refine ⟨_, e2, .inl ⟨rfl, vs0, .inl (.inl e0)⟩, a0, vs0, vs0[vs0.length - 1]'(by omega), rfl, rfl, e0, List.getElem?_eq_getElem _, ?_⟩
        exact h σ _ os (E.chg hd e1 e3.dropLast) (b0.chg (List.mem_of_getElem? e1))
      · cases hm
    · cases hm
/-! ### loops -/
theorem s_for {tg iter : PySem.Expr} {body : List PySem.Stmt} {p : Pat} {mi : MI} (hxe : X.xe = fun _ _ => False) (hc : X.calm = true) (hi : PI X tg iter (tMI X.K mi)) (hg : PG X tg (gP X.K p)) (hb : PSs X body (tMS X.K s))
    (hs : ∀ x, PySem.foldedSetIterable iter X.env x = pure x := by intro _; rfl) : PS X (.For tg iter body [] pos) (tMS X.K (sFor mi p s)) :=
  PS_imp (L2.ps_for (by rw [hxe]; exact PySem.PassesOwn.never) hc hi hg hb hs) fun D σ H ⟨B, W, pot, H0, os, env, st, E, b0, o, hm, h⟩ => by
    obtain ⟨⟨ds, st1⟩, ex, hm⟩ := R.bind_ok hm
    dsimp only at hm
    refine ⟨B, pot, os, env, st, E, _, _, ex, fun J H1 k1 E1 wk => ?_⟩
    have b1 := b0.step k1
    have thru : ∀ {H' : Hp}, (∀ b o, H1 b = some o → ¬ (pot = some b ∨ some b ∈ os) → H' b = some o) → ∀ b o, H0 b = some o → ¬ W b → H' b = some o := fun {H'} q b o e n => q b o (b1.same b o e n) fun z => by
      rcases z with z | z
      · exact n (b1.wp b z)
      · rcases b1.wr b z with z | z
        · exact n z
        · rw [e] at z
          cases z
    have thrw : ∀ {os' : List (Option Addr)}, (∀ a, some a ∈ os' → (pot = some a ∨ some a ∈ os) ∨ H1 a = none) → ∀ a, some a ∈ os' → W a ∨ H0 a = none := fun {os'} q a e => by
      rcases q a e with (z | z) | z
      · exact .inl (b1.wp a z)
      · exact b1.wr a z
      · exact b1.fresh z
    refine ⟨fun i m σ3 H3 => m = ds.length - i ∧ i ≤ ds.length ∧ ∃ os3 env3 st3, ERep X.K B pot os3 H3 σ3 env3 st3 ∧ Base0 (fun a => pot = some a ∨ some a ∈ os) pot os3 H1 H3 ∧ forL p s (ds.drop i) env3 st3 = .ok o, ⟨ds.length, rfl, Nat.zero_le _, os, env, st1, E1, ⟨fun _ _ q _ => q, fun _ q => .inl (.inr q), fun _ q => .inl q⟩, hm⟩, ?_⟩
    rintro i m σ3 H3 ⟨rfl, hi, os3, env3, st3, E3, b3, hr⟩
    have kA : ∀ b o, H1 b = some o → ¬ av B os b → H3 b = some o := fun b o h z => b3.same b o h fun y => z (by
      rcases y with y | y
      · exact .inl (E1.pot b y).2.2.1
      · exact .inr y)
    obtain ⟨w1, w2, w3⟩ := wk i H3 kA
    by_cases hlt : i < ds.length
    · refine .inr ⟨w1 hlt, fun σ4 H4 => ∃ os4 env4 st4, ERep X.K B pot os4 H4 σ4 env4 st4 ∧ Base0 (fun a => pot = some a ∨ some a ∈ os) pot os4 H1 H4 ∧ forL p s (ds.drop (i + 1)) env4 st4 = .ok o, fun σ4 H4 h4 => ⟨ds.length - (i + 1), by omega, rfl, hlt, h4⟩, fun x H4 y => ?_⟩
      obtain ⟨s4, d, ed, dr⟩ := w3 x H4 y hlt
      have hdrop : ds.drop i = d :: ds.drop (i + 1) := by
        obtain ⟨q1, q2⟩ := List.getElem?_eq_some_iff.mp ed
        rw [← q2]
        exact (List.drop_eq_getElem_cons hlt)
      rw [hdrop] at hr
      obtain ⟨env1, e1, hr⟩ := R.bind_ok hr
      obtain ⟨o1, e2, hr⟩ := R.bind_ok hr
      have E4 := E3.ext s4
      have dx : Dr X.K H4 (av B os3) x d := dr (av B os3) (fun a q => by
        rcases q with q | q
        · exact .inl (.inl q)
        · rcases b3.wr a q with (q | q) | q
          · exact .inl (.inl (E1.pot a q).2.2.1)
          · exact .inl (.inr q)
          · exact .inr q) E3.tr
      refine gP_ok p E4 dx e1 fun os' σ' E' sub _ _ => ?_
      have b4 : Base0 (fun a => pot = some a ∨ some a ∈ os) pot os' H1 H4 := ⟨fun b o q n => s4 b o (b3.same b o q n), fun a q => b3.wr a (sub a q), b3.wp⟩
      refine ⟨B, _, pot, H1, os', env1, st3, E', b4, o1, e2, ?_⟩
      cases o1 with
      | nx env2 st2 => exact fun σ5 H5 os5 E5 b5 => ⟨os5, env2, st2, E5, b5, hr⟩
      | rt d2 st2 =>
        cases hr
        exact fun v H5 q1 q2 q3 => h v H5 (thru q1) q2 q3
    · have ei : i = ds.length := by omega
      subst ei
      rw [List.drop_length] at hr
      cases hr
      exact .inl ⟨w2 (Nat.le_refl _), h σ3 H3 os3 E3 ⟨thru b3.same, thrw b3.wr, b0.wp⟩⟩
theorem s_while {body : List PySem.Stmt} (fuel : Env → Nat) (hxe : X.xe = fun _ _ => False) (hc : PT X c (tMT X.K mc)) (hb : PSs X body (tMS X.K s)) : PS X (.While c body [] pos) (tMS X.K (sWhile fuel mc s)) :=
  PS_imp (L2.ps_while (by rw [hxe]; exact PySem.PassesOwn.never) hc hb) fun D σ H ⟨B, W, pot, H0, os, env, st, E, b0, o, hm, h⟩ => by
    refine ⟨fun m σ3 H3 => ∃ os3 env3 st3, ERep X.K B pot os3 H3 σ3 env3 st3 ∧ Base0 W pot os3 H0 H3 ∧ whileL mc s m env3 st3 = .ok o, ⟨fuel env, os, env, st, E, b0, hm⟩, ?_⟩
    rintro m σ3 H3 ⟨os3, env3, st3, E3, b3, hr⟩
    cases m with
    | zero => cases hr
    | succ m =>
      obtain ⟨⟨x1, x2⟩, ex, hr⟩ := R.bind_ok hr
      dsimp only at hr
      split at hr
      · obtain ⟨o1, e2, hr⟩ := R.bind_ok hr
        refine ⟨B, pot, os3, env3, st3, E3, _, _, ex, fun H4 k4 E4 => ?_⟩
        refine L2.iteT ?_
        refine ⟨fun σ5 H5 => ∃ os3 env3 st3, ERep X.K B pot os3 H5 σ5 env3 st3 ∧ Base0 W pot os3 H0 H5 ∧ whileL mc s m env3 st3 = .ok o, fun σ5 H5 h5 => ⟨m, Nat.lt_succ_self m, h5⟩, B, W, pot, H0, os3, env3, _, E4, b3.step k4, o1, e2, ?_⟩
        cases o1 with
        | nx env2 st2 => exact fun σ5 H5 os5 E5 b5 => ⟨os5, env2, st2, E5, b5, hr⟩
        | rt d2 st2 =>
          cases hr
          exact h
      · cases hr
        refine ⟨B, pot, os3, env3, st3, E3, _, _, ex, fun H4 k4 E4 => ?_⟩
        refine L2.iteF ?_
        exact h σ3 H4 os3 E4 (b3.step k4)
      · cases hr
end
/-! ### a def -/
section
theorem getE_im : ∀ (ds : List D) (r : Env) (i : Nat), i < ds.length → ∃ d, ds[i]? = some d ∧ getE (ds.map EV.im ++ r) i = .im d
  | [], _, _, h => absurd h (Nat.not_lt_zero _)
  | d :: ds, r, 0, _ => ⟨d, rfl, rfl⟩
  | d :: ds, r, i + 1, h => getE_im ds r i (Nat.lt_of_succ_lt_succ h)
theorem getE_after : ∀ (ds : List D) (r : Env) (i : Nat), ds.length ≤ i → getE (ds.map EV.im ++ r) i = getE r (i - ds.length)
  | [], _, _, _ => rfl
  | d :: ds, r, 0, h => absurd h (Nat.not_succ_le_zero _)
  | d :: ds, r, i + 1, h => by
    show getE (ds.map EV.im ++ r) i = _
    rw [getE_after ds r i (Nat.le_of_succ_le_succ h), List.length_cons, Nat.succ_sub_succ]
theorem getE_no : ∀ (n i : Nat), getE (List.replicate n .no) i = .no
  | 0, _ => rfl
  | n + 1, 0 => rfl
  | n + 1, i + 1 => getE_no n i
theorem startE_at {n : Nat} {ds : List D} {i : Nat} : (∃ d, ds[i]? = some d ∧ getE (startE n ds) i = .im d) ∨ getE (startE n ds) i = .no := by
  unfold startE
  by_cases h : i < ds.length
  · exact .inl (getE_im ds _ i h)
  · right
    rw [getE_after _ _ _ (by omega)]
    exact getE_no _ _
theorem startE_len {n : Nat} {ds : List D} (h : ds.length ≤ n) : (startE n ds).length = n := by
  unfold startE
  rw [List.length_append, List.length_map, List.length_replicate]
  omega
theorem rep_no {n j : Nat} {a : Addr} : (List.replicate n (none : Option Addr))[j]? ≠ some (some a) := fun h => by
  have := List.mem_of_getElem? h
  rw [List.mem_replicate] at this
  cases this.2
theorem rep_no2 {n : Nat} {a : Addr} : ¬ some a ∈ List.replicate n (none : Option Addr) := fun h => by
  rw [List.mem_replicate] at h
  cases h.2
theorem av_rep {B : Addr → Prop} {n : Nat} : ∀ a, av B (List.replicate n none) a → B a := fun a h => by
  rcases h with h | h
  · exact h
  · exact absurd h rep_no2
theorem rep_start {K : PySem.W.Frag} {B : Addr → Prop} {H : Hp} {N : List PySem.Str} {vs : List V} {ds : List D} (bt : ∀ b, B b → ∃ o, H b = some o) (h : DrAll K H B vs ds) (hl : ds.length ≤ N.length) : ERep K B none (List.replicate N.length none) H (L2.start N vs) (startE N.length ds) [] := by
  have hv := h.length
  refine ⟨bt, ?_, ?_, fun i d e => ?_, fun i es e => ?_, fun i es e => ?_, fun i ns e => ?_, fun i a e => absurd e rep_no, fun i j a e _ => absurd e rep_no, fun i e => ?_, fun p e => nomatch e⟩
  · rw [startE_len hl]
    unfold L2.start
    rw [List.length_append, List.length_map, List.length_replicate]
    omega
  · rw [startE_len hl, List.length_replicate]
  · rcases startE_at (n := N.length) (ds := ds) (i := i) with ⟨d2, e1, e2⟩ | e2
    · rw [e2] at e
      cases e
      obtain ⟨x, e3, e4⟩ := (h.get i).2 d e1
      refine ⟨x, ?_, e4.to fun b o q z => ⟨q, fun y => z (av_rep b y)⟩⟩
      unfold L2.start
      obtain ⟨l, _⟩ := List.getElem?_eq_some_iff.mp e3
      rw [List.getElem?_append_left (by rw [List.length_map]; exact l), List.getElem?_map, e3]
      rfl
    · rw [e2] at e
      cases e
  · rcases startE_at (n := N.length) (ds := ds) (i := i) with ⟨d2, e1, e2⟩ | e2 <;> (rw [e2] at e; cases e)
  · rcases startE_at (n := N.length) (ds := ds) (i := i) with ⟨d2, e1, e2⟩ | e2 <;> (rw [e2] at e; cases e)
  · rcases startE_at (n := N.length) (ds := ds) (i := i) with ⟨d2, e1, e2⟩ | e2 <;> (rw [e2] at e; cases e)
  · rcases startE_at (n := N.length) (ds := ds) (i := i) with ⟨d2, e1, e2⟩ | e2 <;> (rw [e2] at e; cases e)
theorem rep_startD {K : PySem.W.Frag} {B : Addr → Prop} {H : Hp} {x : PySem.Str} {N : List PySem.Str} {vs : List V} {ds : List D} {p : Addr} {st : Pt} (bt : ∀ b, B b → ∃ o, H b = some o) (bp : B p) (hp : H p = some (.lst (st.map V.int))) (h : DrAll K H B vs ds) (hl : ds.length ≤ N.length) :
    ERep K B (some p) (List.replicate (N.length + 1) none) H (L2.start (x :: N) (.ref p :: vs)) (.pt :: startE N.length ds) st := by
  have hv := h.length
  have es : L2.start (x :: N) (.ref p :: vs) = some (.ref p) :: L2.start N vs := by
    unfold L2.start
    rw [List.length_cons, List.length_cons, Nat.succ_sub_succ]
    rfl
  have E := rep_start (N := N) bt h hl
  rw [es]
  refine ⟨bt, ?_, ?_, fun i d e => ?_, fun i es e => ?_, fun i es e => ?_, fun i ns e => ?_, fun i a e => absurd e rep_no, fun i j a e _ => absurd e rep_no, fun i e => ?_, fun q e => ?_⟩
  · rw [List.length_cons, List.length_cons, E.l1]
  · rw [List.length_cons, startE_len hl, List.length_replicate]
  · cases i with
    | zero => cases e
    | succ i =>
      obtain ⟨x, e1, e2⟩ := E.slot i d e
      exact ⟨x, e1, e2.to fun b o q z => ⟨q, fun y => z (.inl (av_rep b y))⟩⟩
  · cases i with
    | zero => cases e
    | succ i =>
      obtain ⟨a, _, e1, _⟩ := E.own i es e
      exact absurd e1 rep_no
  · cases i with
    | zero => cases e
    | succ i => exact E.nb i es e
  · cases i with
    | zero => cases e
    | succ i => exact E.fz i ns e
  · exact ⟨p, rfl⟩
  · cases e
    exact ⟨rfl, rfl, bp, hp⟩
end
section
variable {P : PySem.Program} {w : PySem.World} {K : PySem.W.Frag} {mg : PySem.Str → Option PySem.Value} {base : PySem.Heap}
/-- a def, by its body -/
theorem fnP {k a : Nat} {x : PySem.Str} {N ps : List PySem.Str} {sd : PySem.Stmt} {f : Addr} {fd : PySem.FuncData} {s : MS} {qn : PySem.Str} (hf : mg x = some (.ref f)) (F : L2.FunD K qn qn (L2.defArgs sd) (L2.defBody sd) (L2.defScope sd) [] [] f fd) (hb : L2.Binds K fd ps []) (S : FnScope N ps (L2.defScope sd)) (ha : ps.length = a) (hn : a ≤ N.length)
    (body : ∀ (cdv : PySem.Value) (A : PySem.Around) (outer : List PySem.Env) (s0 : PySem.Shared) (H : Hp) (E : XK), Room k (A.deeper (PyProof.Rows.envOfC qn (L2.defScope sd) s0.heap.objs.size f cdv)) → A.guards = some [] →
      PSs (L2.cxOf CX0 P w K mg base N qn (L2.defScope sd) f cdv A outer s0 H E).nox (L2.defBody sd) (tMS K s)) : PFn P w K mg base (k + 1) x ps sd (runP a N.length s) := by
  refine ⟨f, fd, qn, hf, F, hb, fnG_of F S (fun vs H Q E h => ?_) fun cdv A outer s0 H vs Q E hr hg h => ⟨_, (body cdv A outer s0 H E hr hg).nox, ?_⟩⟩
  · obtain ⟨B, ds, d, bt, h1, h2, _⟩ := h
    unfold runP at h2
    split at h2
    · rename_i q
      rw [h1.length, q, ha]
    · cases h2
  · obtain ⟨B, ds, d, bt, h1, h2, h3⟩ := h
    unfold runP at h2
    split at h2
    · rename_i q
      obtain ⟨o, e1, e2⟩ := R.bind_ok h2
      refine ⟨B, fun _ => False, none, H, _, _, _, rep_start bt h1 (by omega), ⟨fun _ _ q _ => q, fun a q => absurd q rep_no2, fun _ q => nomatch q⟩, o, e1, ?_⟩
      cases o with
      | nx env st =>
        cases e2
        exact fun σ1 H1 os1 E1 b1 => h3 .non H1 (fun b o q => b1.same b o q id) .non
      | rt d1 st =>
        cases e2
        exact fun v H1 q1 q2 _ => h3 v H1 (fun b o q => q1 b o q id) q2
    · cases h2
/-- a def that draws -/
theorem fnD {k a : Nat} {x y : PySem.Str} {N ps : List PySem.Str} {sd : PySem.Stmt} {f : Addr} {fd : PySem.FuncData} {s : MS} {qn : PySem.Str} (hf : mg x = some (.ref f)) (F : L2.FunD K qn qn (L2.defArgs sd) (L2.defBody sd) (L2.defScope sd) [] [] f fd) (hb : L2.Binds K fd ps []) (S : FnScope (y :: N) ps (L2.defScope sd)) (ha : ps.length = a) (hn : a ≤ N.length + 1)
    (body : ∀ (cdv : PySem.Value) (A : PySem.Around) (outer : List PySem.Env) (s0 : PySem.Shared) (H : Hp) (E : XK), Room k (A.deeper (PyProof.Rows.envOfC qn (L2.defScope sd) s0.heap.objs.size f cdv)) → A.guards = some [] →
      PSs (L2.cxOf CX0 P w K mg base (y :: N) qn (L2.defScope sd) f cdv A outer s0 H E).nox (L2.defBody sd) (tMS K s)) : PDn P w K mg base (k + 1) x ps sd (runD a (N.length + 1) s) := by
  refine ⟨f, fd, qn, hf, F, hb, fnG_of F S (fun vs H Q E h => ?_) fun cdv A outer s0 H vs Q E hr hg h => ⟨_, (body cdv A outer s0 H E hr hg).nox, ?_⟩⟩
  · obtain ⟨B, p, st, us, ds, d, st', rfl, bt, bp, hp, h1, h2, _⟩ := h
    unfold runD at h2
    split at h2
    · rename_i q
      rw [List.length_cons, h1.length, q, ha]
    · cases h2
  · obtain ⟨B, p, st, us, ds, d, st', rfl, bt, bp, hp, h1, h2, h3⟩ := h
    unfold runD at h2
    split at h2
    · rename_i q
      obtain ⟨o, e1, e2⟩ := R.bind_ok h2
      refine ⟨B, fun b => b = p, some p, H, _, _, _, rep_startD bt bp hp h1 (by omega), ⟨fun _ _ q _ => q, fun a q => absurd q rep_no2, fun _ q => (Option.some.inj q).symm⟩, o, e1, ?_⟩
      cases o with
      | nx env st =>
        cases e2
        exact fun σ1 H1 os1 E1 b1 => h3 .non H1 (fun b o q n => b1.same b o q n) (E1.pot p rfl).2.2.2 .non
      | rt d1 st =>
        cases e2
        exact fun v H1 q1 q2 q3 => h3 v H1 q1 (q3 p rfl) q2
    · cases h2
end
end BP

namespace BP
open L2 (V Hp HO St TE TT TA TS TG TI It Ends Cx PE PT PW PA PS PSs PG PI Inv upd upd_same upd_ne OpR UnR CallR Same VK XK Sp Room Vals RelV FnScope PK CX0 E0)
/-! ### the pot, in slot 0 -/
@[simp] def mPot (i : Nat) : ME := fun env st => match getE env 0, st[i]? with
  | .pt, some n => .ok (.im (.int n), st)
  | _, _ => .st
/-- pot[i] = e -/
@[simp] def sPot (i : Nat) (e : ME) : MS := fun env st => (e env st).bind fun x => match getE env 0, x.1 with
  | .pt, .im (.int n) => if i < x.2.length then .ok (.nx env (x.2.set i n)) else .st
  | _, _ => .st
/-- pot[0], name = e -/
@[simp] def sDm (j : Nat) (e : ME) : MS := fun env st => (e env st).bind fun x => match getE env 0, x.1 with
  | .pt, .im (.tuple [.int q, .int r]) => if 0 < x.2.length then (putE env j (.im (.int r))).bind fun env1 => .ok (.nx env1 (x.2.set 0 q)) else .st
  | _, _ => .st
@[simp] def bDm : OB
  | [.int a, .int b] => if 0 < b ∧ b < 1000000 then .ok (.im (.tuple [.int (a / b), .int (a % b)])) else .st
  | _ => .st
/-! ### the script -/
@[simp] def mLenF (i : Nat) : ME := fun env st => match getE env i with
  | .fz ns => .ok (.im (.int ns.length), st)
  | _ => .st
@[simp] def mIxF (i : Nat) (e : ME) : ME := fun env st => (e env st).bind fun x => match getE env i, x.1 with
  | .fz ns, .im (.int k) => (match atD ns k with
    | some n => .ok (.im (.int n), x.2)
    | none => .st)
  | _, _ => .st
section
variable {X : Cx} {a b c : PySem.Expr} {ma mb mc me : ME} {pos : PySem.Pos}
theorem cm_divmod : CallM X (.builtin "divmod") bDm := by
  refine ⟨_, L2.call_divmodW, fun A pot H xs ds z t h e Q q => ?_⟩
  unfold bDm at e
  split at e
  · split at e
    · rename_i hb
      cases e
      obtain ⟨x, y, rfl, w1, w2⟩ := vw2 h
      cases w1.int
      cases w2.int
      exact ⟨_, _, rfl, ⟨hb.1, PyProof.noPylong_small (by omega)⟩, fun p n => q _ _ (Same.new n) (z_tup t n (.cons (.int _) (.cons (.int _) .nil)))⟩
    · cases e
  · cases e
theorem q_pot (i : Nat) {k : Int} {y : PySem.Str} {j : Nat} {py p2 : PySem.Pos} (h0 : PE X (.Name y py) (L2.tVar 0)) (hk : k = (i : Int) := by rfl) : PE X (.Subscript (.Name y py) (.Constant (.int k) j p2) pos) (tM X.K (mPot i)) := by
  subst hk
  refine PE_imp (L2.pe_ix L2.ix_list h0 L2.pe_int fun _ _ => rfl) fun σ H Q ⟨B, pot, os, env, st, E, e, st', hm, hQ⟩ => ?_
  unfold mPot at hm
  split at hm
  · rename_i n hp hn
    cases hm
    obtain ⟨p, hp⟩ := E.pt 0 hp
    obtain ⟨e1, _, _, e4⟩ := E.pot p hp
    refine ⟨_, e1, p, st.map V.int, i, .int n, rfl, rfl, .inl (.inl e4), ?_, hQ _ H Keep.refl ⟨E, .int n⟩⟩
    obtain ⟨hl, _⟩ := List.getElem?_eq_some_iff.mp hn
    unfold L2.atI L2.ixN
    rw [if_pos (Int.natCast_nonneg i), if_pos (by rw [List.length_map]; omega)]
    show (st.map V.int)[Int.toNat (i : Int)]? = _
    rw [Int.toNat_natCast, List.getElem?_map, hn]
    rfl
  · cases hm
theorem ERep.potSet {K : PySem.W.Frag} {B : Addr → Prop} {p : Addr} {os : List (Option Addr)} {H : Hp} {σ : St} {env : Env} {st : Pt} {i : Nat} {n : Int} (E : ERep K B (some p) os H σ env st) : ERep K B (some p) os (upd H p (.lst ((st.map V.int).set i (.int n)))) σ env (st.set i n) ∧ Keep (some p) H (upd H p (.lst ((st.map V.int).set i (.int n)))) := by
  have k : Keep (some p) H (upd H p (.lst ((st.map V.int).set i (.int n)))) := fun b o h z => by
    rw [upd_ne fun y => z (by rw [y])]
    exact h
  refine ⟨E.keep k fun q hq => ?_, k⟩
  cases hq
  rw [upd_same, List.map_set]
theorem ixN_nat {n i : Nat} (h : i < n) : L2.ixN n (i : Int) = some i := by
  unfold L2.ixN
  rw [if_pos (Int.natCast_nonneg i), if_pos (by omega), Int.toNat_natCast]
theorem s_potset (i : Nat) {k : Int} {y : PySem.Str} {j : Nat} {py p2 p3 : PySem.Pos} (h0 : PE X (.Name y py) (L2.tVar 0)) (ha : PE X a (tM X.K ma))
    (hs : PySem.swapsWithSole [.Subscript (.Name y py) (.Constant (.int k) j p2) p3] a pos.line X.env = pure false := by rfl) (hw : PySem.swappedStores [.Subscript (.Name y py) (.Constant (.int k) j p2) p3] a X.env = pure none := by rfl)
    (h1 : (PySem.assignEach [.Subscript (.Name y py) (.Constant (.int k) j p2) p3] X.env).map (·.2) = [PySem.assign (.Subscript (.Name y py) (.Constant (.int k) j p2) p3) X.env] := by rfl) (hk : k = (i : Int) := by rfl) :
    PS X (.Assign [.Subscript (.Name y py) (.Constant (.int k) j p2) p3] a pos) (tMS X.K (sPot i ma)) := by
  subst hk
  exact PS_imp (L2.ps_asg ha (L2.pg_sub h0 L2.pe_int L2.set_list) hs hw h1) fun D σ H ⟨B, W, pot, H0, os, env, st, E, b0, o, hm, h⟩ => by
    obtain ⟨⟨x1, x2⟩, ex, hm⟩ := R.bind_ok hm
    dsimp only at hm
    split at hm
    · rename_i n hp
      split at hm
      · rename_i hl
        cases hm
        refine ⟨B, pot, os, env, st, E, _, _, ex, fun w H1 k1 p1 => ?_⟩
        obtain ⟨E1, w1⟩ := p1
        cases w1
        obtain ⟨p, rfl⟩ := E1.pt 0 hp
        obtain ⟨e1, _, _, e4⟩ := E1.pot p rfl
        refine ⟨_, e1, p, x2.map V.int, i, i, rfl, rfl, e4, ixN_nat (by rw [List.length_map]; exact hl), ?_⟩
        obtain ⟨E2, k2⟩ := E1.potSet (i := i) (n := n)
        exact h σ _ os E2 ((b0.step k1).step k2)
      · cases hm
    · cases hm
theorem s_potdm (j : Nat) {y x : PySem.Str} {jj kk : Nat} {py p2 p3 px pt : PySem.Pos} (hc : X.calm = true) (hN : X.N.Nodup) (hi : X.N[j]? = some x) (hx : L2.Loc X.env.scope x) (h0 : PE X (.Name y py) (L2.tVar 0)) (ha : PE X a (tM X.K ma)) (hf : X.fn x = true ∨ X.env.scope.names.lookup x = some .local := by first | exact .inl rfl | exact .inr rfl)
    (hs : PySem.swapsWithSole [.Tuple [.Subscript (.Name y py) (.Constant (.int 0) jj p2) p3, .Name x px] kk pt] a pos.line X.env = pure false := by rfl) (hw : PySem.swappedStores [.Tuple [.Subscript (.Name y py) (.Constant (.int 0) jj p2) p3, .Name x px] kk pt] a X.env = pure none := by rfl)
    (h1 : (PySem.assignEach [.Tuple [.Subscript (.Name y py) (.Constant (.int 0) jj p2) p3, .Name x px] kk pt] X.env).map (·.2) = [PySem.assign (.Tuple [.Subscript (.Name y py) (.Constant (.int 0) jj p2) p3, .Name x px] kk pt) X.env] := by rfl)
    (g1 : (PySem.assignEach [.Subscript (.Name y py) (.Constant (.int 0) jj p2) p3, .Name x px] X.env).map (·.2) = PySem.assign (.Subscript (.Name y py) (.Constant (.int 0) jj p2) p3) X.env :: (PySem.assignEach [.Name x px] X.env).map (·.2) := by rfl)
    (g2 : (PySem.assignEach [.Name x px] X.env).map (·.2) = PySem.assign (.Name x px) X.env :: (PySem.assignEach [] X.env).map (·.2) := by rfl)
    (hn : (PySem.assignEach [.Subscript (.Name y py) (.Constant (.int 0) jj p2) p3, .Name x px] X.env).length = 2 := by rfl) (hst : (PySem.assignEach [.Subscript (.Name y py) (.Constant (.int 0) jj p2) p3, .Name x px] X.env).findIdx? (·.1) = none := by rfl) :
    PS X (.Assign [.Tuple [.Subscript (.Name y py) (.Constant (.int 0) jj p2) p3, .Name x px] kk pt] a pos) (tMS X.K (sDm j ma)) :=
  PS_imp (L2.ps_asg ha (L2.pg_tup hc (L2.pgs_cons (L2.pg_sub h0 L2.pe_int L2.set_list) (L2.pgs_cons (L2.pg_name hN hi hx hf) L2.pgs_nil g2) g1) hn hst) hs hw h1) fun D σ H ⟨B, W, pot, H0, os, env, st, E, b0, o, hm, h⟩ => by
    obtain ⟨⟨x1, x2⟩, ex, hm⟩ := R.bind_ok hm
    dsimp only at hm
    split at hm
    · rename_i q r hp
      split at hm
      · rename_i hl
        obtain ⟨env1, en, hm⟩ := R.bind_ok hm
        cases hm
        obtain ⟨n1, rfl⟩ := putE_at en
        refine ⟨B, pot, os, env, st, E, _, _, ex, fun w H1 k1 p1 => ?_⟩
        obtain ⟨E1, w1⟩ := p1
        obtain ⟨p, rfl⟩ := E1.pt 0 hp
        obtain ⟨e1, _, _, e4⟩ := E1.pot p rfl
        cases w1 with
        | tup h2 h3 =>
          cases h3 with
          | cons h4 h5 =>
            cases h4
            cases h5 with
            | cons h6 h7 =>
              cases h6
              cases h7
              refine ⟨_, [V.int q, V.int r], rfl, ?_, rfl, V.int q, [V.int r], rfl, V.ref p, e1, p, x2.map V.int, (0 : Nat), 0, rfl, rfl, e4, ixN_nat (by rw [List.length_map]; exact hl), V.int r, [], rfl, rfl, ?_⟩
              · rcases h2 with h2 | h2
                · exact .inl (.inl h2.2)
                · exact .inr h2
              · obtain ⟨E2, k2⟩ := E1.potSet (i := 0) (n := q)
                exact h _ _ _ (E2.setI n1 (.int r)) (((b0.step k1).step k2).sub fun _ => set_none_mem)
      · cases hm
    · cases hm
theorem q_lenF (i : Nat) {y : PySem.Str} {p py : PySem.Pos} (h0 : PE X (.Name y py) (L2.tVar i)) (hg : L2.Gl X "len") (hm : X.mg "len" = none) (hv : PySem.bootBuiltins "len" = some (.builtin "len"))
    (hs : PySem.starEach [.Name y py] X.env = (false, PySem.eval (.Name y py) X.env) :: PySem.starEach [] X.env := by rfl) (hp : (PySem.backTo pos (PySem.starEach [] X.env)).any (·.1) = false := by rfl) :
    PE X (.Call (.Name "len" p) [.Name y py] [] pos) (tM X.K (mLenF i)) :=
  PE_imp (L2.pe_callB L2.call_len_seq hg hm hv (L2.pa_cons h0 L2.pa_nil hs) (by decide) (by decide) hs hp) fun σ H Q ⟨B, pot, os, env, st, E, e, st', hm, hQ⟩ => by
    unfold mLenF at hm
    split at hm
    · rename_i ns hn
      cases hm
      obtain ⟨a, e1, e2⟩ := E.fz i ns hn
      refine ⟨_, e1, a, ns.map V.int, rfl, .inl e2.sq, ?_⟩
      rw [List.length_map]
      exact hQ _ H Keep.refl ⟨E, .int _⟩
    · cases hm
theorem q_ixF (i : Nat) {y : PySem.Str} {py : PySem.Pos} (h0 : PE X (.Name y py) (L2.tVar i)) (ha : PE X a (tM X.K ma)) (hs : L2.PlainIx a := by exact fun _ _ => rfl) : PE X (.Subscript (.Name y py) a pos) (tM X.K (mIxF i ma)) :=
  PE_imp (L2.pe_ix L2.ix_list h0 ha hs) fun σ H Q ⟨B, pot, os, env, st, E, e, st', hm, hQ⟩ => by
    obtain ⟨⟨x1, x2⟩, ex, hm⟩ := R.bind_ok hm
    dsimp only at hm
    split at hm
    · rename_i ns k hn
      split at hm
      · rename_i n hk
        cases hm
        obtain ⟨a, e1, e2⟩ := E.fz i ns hn
        refine ⟨_, e1, B, pot, os, env, st, E, _, _, ex, fun v H1 k1 p1 => ?_⟩
        obtain ⟨E1, w1⟩ := p1
        cases w1
        obtain ⟨a1, e3, e4⟩ := E1.fz i ns hn
        rw [e1] at e3
        cases e3
        refine ⟨a, ns.map V.int, k, .int n, rfl, rfl, e4.sq, ?_, hQ _ H1 k1 ⟨E1, .int n⟩⟩
        unfold atD at hk
        obtain ⟨j, h1, h2⟩ := Option.bind_eq_some_iff.mp hk
        unfold L2.atI
        rw [List.length_map]
        show (ixD ns.length k).bind _ = _
        rw [h1]
        show (ns.map V.int)[j]? = _
        rw [List.getElem?_map, h2]
        rfl
      · cases hm
    · cases hm
end
/-! ### list.count, trees -/
def rCountD (K : PySem.W.Frag) : V → List V → Hp → VK → Prop := fun x xs H Q => ∃ (a : Addr) (y : V) (d : D) (ds : List D), x = V.ref a ∧ xs = [y] ∧ L2.Dp K H (V.ref a) (.list ds) ∧ L2.Dp K H y d ∧
  PySem.SeqAt.shaped (.list ds) = true ∧ PySem.SeqAt.shaped d = true ∧ Q (.int (ds.countP fun z => PySem.PyData.eqv z d : Nat)) H
section
open PySem PySem.Spec PyProof.Rows L2
theorem mt_countD {X : Cx} (hu : X.A.units + 65 < cLine) : MtR X "list.count" (rCountD X.K) := by
  intro pins s σ H x xs v us Q I rx rxs h
  obtain ⟨a, y, d, ds, rfl, rfl, hl, hy, sl, sd, q⟩ := h
  cases rx
  cases rxs with
  | cons ry rt =>
    rename_i uy ut
    cases rt
    obtain ⟨bs, r1⟩ := Dp.reads I d y uy hy ry
    have hxs : PyData.canLayAll0 ds = true := SeqAt.canLay_of_shaped sl
    have hroom : X.A.units + 1 + min (PyData.depthAll ds) d.depth < cLine := room_in_shaped sd hu
    cases hl with
    | lst hs ha =>
      obtain ⟨its, rv, ⟨⟨cls, dd, data, sls⟩, n, ho, hc, hdn, hdt⟩, hlen⟩ := I.list hs
      simp only at hc hdt
      subst hc hdt
      obtain ⟨as, h4⟩ := Dp.readsAll I ds _ its ha rv
      have hmap : its.map (SeqAt.readOf s.heap) = ds := SeqAt.readsAll_map ds its as hxs h4
      refine call_meets PySem.F.slot_list_count ⟨_, ho, rfl⟩ PySem.F.entry_list_count (PySem.F.args_list_count_2 _ _)
        (SeqAt.list_countAt a its.toArray n dd sls uy (fun u => PyData.eqv (SeqAt.readOf s.heap u) d)) ⟨ho, SeqAt.items_eqAt (vs := its.toArray) (show ReadsAll s.heap its.toArray.toList ds as from h4) r1 hxs (SeqAt.canLay_of_shaped sd) hroom, ?_⟩
      have ec : its.toArray.toList.countP (fun u => PyData.eqv (SeqAt.readOf s.heap u) d) = ds.countP fun z => PyData.eqv z d := by
        rw [← hmap, List.countP_map]
        rfl
      refine ⟨.int (ds.countP fun z => PyData.eqv z d : Nat), H, I.tok _, ⟨s.toks, ?_⟩, q⟩
      show Value.int ((its.toArray.toList.countP _ : Nat) : Int) s.toks = Value.int ((ds.countP fun z => PyData.eqv z d : Nat) : Int) s.toks
      rw [ec]
end
@[simp] def oCount : O2
  | .list ds, d => if PySem.SeqAt.shaped (.list ds) && PySem.SeqAt.shaped d then .ok (.im (.int (ds.countP fun z => PySem.PyData.eqv z d : Nat))) else .st
  | _, _ => .st
section
variable {X : Cx} {a b c : PySem.Expr} {ma mb mc me : ME} {pos : PySem.Pos}
theorem q_count {apos : PySem.Pos} (hu : X.A.units + 65 < PySem.cLine) (ha : PE X a (tM X.K ma)) (hb : PE X b (tM X.K mb))
    (hbase : PySem.attributeBase a "count" X.env (PySem.eval a X.env) = PySem.eval a X.env := by rfl)
    (hfew : ((PySem.backTo pos (PySem.starEach [b] X.env)).all (fun x => !x.1) && (PySem.backToKw pos (PySem.keywordEach [] X.env)).all (fun x => x.1.isSome)
      && decide ([b].length + ([] : List PySem.Keyword).length + (if ([] : List PySem.Keyword).isEmpty then 0 else 1) < 30)) = true := by rfl)
    (hline : (apos.endLine == pos.line) = true := by rfl) (hs : PySem.starEach [b] X.env = (false, PySem.eval b X.env) :: PySem.starEach [] X.env := by rfl) (hplain : (PySem.backTo pos (PySem.starEach [] X.env)).any (·.1) = false := by rfl) :
    PE X (.Call (.Attribute a "count" apos) [b] [] pos) (tM X.K (mBin oCount ma mb)) :=
  PE_imp (L2.pe_bm PySem.F.plainAttrs_list PySem.F.slot_list_count PySem.F.type_list_count (mt_countD hu) ha (L2.pa_cons hb L2.pa_nil hs) hbase hfew hline hs hplain) fun σ H Q ⟨B, pot, os, env, st, E, e, st', hm, hQ⟩ => by
    obtain ⟨x, ex, hm⟩ := R.bind_ok hm
    obtain ⟨u, eu, hm⟩ := R.bind_ok hm
    obtain ⟨y, ey, hm⟩ := R.bind_ok hm
    obtain ⟨w, ew, hm⟩ := R.bind_ok hm
    obtain ⟨z, ez, hm⟩ := R.bind_ok hm
    cases hm
    refine ⟨B, pot, os, env, st, E, _, _, ex, fun v1 H1 k1 p1 => ?_⟩
    obtain ⟨E1, w1⟩ := p1.view E eu
    unfold oCount at ez
    split at ez
    · split at ez
      · rename_i hsh
        cases ez
        rw [Bool.and_eq_true] at hsh
        obtain ⟨a1, vs1, rfl, q1, q2⟩ := w1.list
        refine ⟨.inl ⟨rfl, vs1, .inl (.inl q1)⟩, B, pot, os, env, _, E1, _, _, ey, fun v2 H2 k2 p2 => ?_⟩
        obtain ⟨E2, w2⟩ := p2.view E1 ew
        have w3 := w1.keep E1 k2
        exact ⟨a1, v2, _, _, rfl, rfl, w3.dp hsh.1, w2.dp hsh.2, hsh.1, hsh.2, hQ _ H2 (k1.trans k2) ⟨E2, .int _⟩⟩
      · cases ez
    · cases ez
end
end BP

namespace BP
open PySem PySem.Spec
open PyProof.Rows
open L2 (V Hp HO TE TT TA TS TG TI It Ends Cx PE PT PW PA PS PSs PG PI Inv upd upd_same upd_ne OpR UnR CallR Same VK XK Sp Room Vals RelV FnScope PK CX0 E0)
section
variable {X : Cx} {a b c : PySem.Expr} {ma mb mc me : ME} {pos : PySem.Pos}
theorem q_dict0 : PE X (.Dict [] [] pos) (tM X.K (mC (.dict []))) :=
  PE_imp L2.pe_dnewK fun σ H Q ⟨B, pot, os, env, st, E, e, st', hm, hQ⟩ => by
    cases hm
    intro p n
    have s : Same H (upd H p (.dK [])) := Same.new n
    refine hQ _ _ (fun b o h _ => s b o h) ⟨E.ext s, ?_⟩
    exact Dr.dic (kvs := []) (ds := []) (E.off n) upd_same .nil
/-! ### calls with keywords -/
@[simp] def permL {α : Type} (g : List Nat) (xs : List α) : List α := g.filterMap fun i => xs[i]?
theorem DrAll.perm {K : W.Frag} {H : Hp} {A : PySem.Addr → Prop} {vs : List V} {ds : List D} (h : DrAll K H A vs ds) : ∀ g : List Nat, DrAll K H A (permL g vs) (permL g ds)
  | [] => .nil
  | i :: g => by
    have ih := DrAll.perm h g
    unfold permL at ih ⊢
    rw [List.filterMap_cons, List.filterMap_cons]
    cases e : vs[i]? with
    | none =>
      have e2 : ds[i]? = none := by
        rw [List.getElem?_eq_none_iff, ← h.length, ← List.getElem?_eq_none_iff]
        exact e
      rw [e2]
      exact ih
    | some v =>
      obtain ⟨d, e2, e3⟩ := (h.get i).1 v e
      rw [e2]
      exact .cons e3 ih
theorem vals_get : ∀ {vs : List V} {us : List Value} (i : Nat), Vals vs us → (∀ v, vs[i]? = some v → ∃ u, us[i]? = some u ∧ RelV v u) ∧ (vs[i]? = none → us[i]? = none)
  | _, _, _, .nil => ⟨fun v h => by simp at h, fun _ => by simp⟩
  | _, _, 0, .cons r _ => ⟨fun v h => by
      cases h
      exact ⟨_, rfl, r⟩, fun h => by simp at h⟩
  | _, _, i + 1, .cons _ t => vals_get i t
theorem vals_perm {vs : List V} {us : List Value} (h : Vals vs us) : ∀ g : List Nat, Vals (permL g vs) (permL g us)
  | [] => .nil
  | i :: g => by
    have ih := vals_perm h g
    unfold permL at ih ⊢
    rw [List.filterMap_cons, List.filterMap_cons]
    cases e : vs[i]? with
    | none =>
      rw [(vals_get i h).2 e]
      exact ih
    | some v =>
      obtain ⟨u, e2, e3⟩ := (vals_get i h).1 v e
      rw [e2]
      exact .cons e3 ih
@[simp] def mCallK (f : PF) (as ks : MA) (g : List Nat) : ME := fun env st => (as env st).bind fun x => (ks env x.2).bind fun y => (f (permL g (x.1 ++ y.1))).bind fun z => .ok (.im z, y.2)
section
variable {CX : Cxe} {k : Nat} {f : PySem.Addr} {fd : FuncData} {ps : List Str} {sp : Sp} {E : XK} {x : Str} {p : Pos} {t tk : TA}
/-- keywords alone -/
theorem callGK0 {ks : List Str} {g : {α : Type} → List α → List α → List α} {kws : List Keyword} (F : FnG X.prog X.w X.K X.mg X.base CX k f fd ps sp) (hr : Room k X.A) (hgd : X.A.guards = some []) (hg : L2.Gl X x) (hm : X.mg x = some (.ref f)) (hk : W.keepIn X.K (.ref f) = true)
    (hb : ∀ (s : Shared) (us ws : List Value), us.length = 0 → ws.length = ks.length → BindsTo s fd ⟨us, ks.zip ws⟩ (ps.zip (g us ws))) (hrel : ∀ {vs zs : List V} {us ws : List Value}, Vals vs us → Vals zs ws → Vals (g vs zs) (g us ws)) (hx : Lets CX X E)
    (hkw : PK X kws tk) (hall : (backToKw pos (keywordEach kws X.env)).all (·.1.isSome) = true) (hks : (backToKw pos (keywordEach kws X.env)).filterMap (·.1) = ks)
    (hd : (x == ("__debug__" : Str)) = false) (hp : ((backTo pos (starEach [] X.env)).any (·.1) || (backToKw pos (keywordEach kws X.env)).any (·.1.isNone)) = false) :
    PE X (.Call (.Name x p) [] kws pos) fun σ H Q => tk σ H fun zs H2 => zs.length = ks.length ∧ sp (g [] zs) H2 Q E := by
  refine ⟨fun pins s σ H Q I h => wpAny_Call_Name_kw (L2.ld_glob I hg hm ?_ hd)⟩
  refine W.callWith_KW0 (h₀ := X.base) I.ok.mod.kin hk hall ?_ hp
  refine L2.thn (hkw.run pos pins s σ H _ I h) fun ws s2 ⟨zs, H2, I2, rz, l2, q2⟩ => ⟨I2.kIn, ?_⟩
  rw [hks]
  refine wpAny_call (codeAny_mono (runG F hr hgd hx I2 (hb s2 [] ws rfl (rz.length.symm.trans l2)) (hrel .nil rz) q2) fun r s' hq => ?_)
  cases r with
  | error e => exact hq
  | ok fl =>
    cases fl with
    | ret u => exact hq
    | next => exact hq.elim
    | brk => exact hq.elim
    | cont => exact hq.elim
end
theorem funD_kb {K : W.Frag} {x : Str} {params : Arguments} {body : List Stmt} {scope : Scope} {f : PySem.Addr} {fd : FuncData} {ps ks : List Str} {n : Nat} {g : List Nat} (F : L2.FunD K x x params body scope [] [] f fd)
    (h : ∀ (kV doc pm : Value) (an : Option PySem.Addr) (cdv ct : Value) (us ws : List Value), us.length = n → ws.length = ks.length → bindArgs (W.fnOf x x params body scope .none kV doc pm an cdv ct) ⟨us, ks.zip ws⟩ = pure (ps.zip (permL g (us ++ ws)))) (s : Shared) (us ws : List Value) (l1 : us.length = n) (l2 : ws.length = ks.length) :
    BindsTo s fd ⟨us, ks.zip ws⟩ (ps.zip (permL g (us ++ ws))) := by
  obtain ⟨oc, od, dV, kV, doc, pm, an, cdv, ct, osl, rfl, lk, hcd, hD, hK⟩ := F.ex
  rcases hD with ⟨_, rfl⟩ | ⟨e, _⟩
  · exact .of_eq (h kV doc pm an cdv ct us ws l1 l2)
  · exact absurd rfl e
theorem q_callK {k j : Nat} {x : PySem.Str} {ps : List PySem.Str} {sd : PySem.Stmt} {m : PF} {ms mk : MA} {es : List PySem.Expr} {kws : List Keyword} {p : PySem.Pos} (n : Nat) (ks : List Str) (g : List Nat) (F : PFn X.prog X.w X.K X.mg X.base k x ps sd m) (hr : Room j X.A) (hgd : X.A.guards = some []) (hg : L2.Gl X x) (ha : PA X (a :: es) (tAA X.K ms)) (hkw : PK X kws (tAA X.K mk))
    (hb : ∀ (qn : Str) (kV doc pm : Value) (an : Option PySem.Addr) (cdv ct : Value) (us ws : List Value), us.length = n → ws.length = ks.length → bindArgs (W.fnOf qn qn (L2.defArgs sd) (L2.defBody sd) (L2.defScope sd) .none kV doc pm an cdv ct) ⟨us, ks.zip ws⟩ = pure (ps.zip (permL g (us ++ ws))))
    (hn : ∀ env st r, ms env st = .ok r → r.1.length = n) (hn2 : ∀ env st r, mk env st = .ok r → r.1.length = ks.length)
    (hk : k ≤ j := by decide) (hall : (backToKw pos (keywordEach kws X.env)).all (·.1.isSome) = true := by rfl) (hks : (backToKw pos (keywordEach kws X.env)).filterMap (·.1) = ks := by rfl) (hd : (x == ("__debug__" : PySem.Str)) = false := by decide) (he : PySem.starEach (a :: es) X.env = (false, PySem.eval a X.env) :: PySem.starEach es X.env := by rfl)
    (hp : ((backTo pos (starEach (a :: es) X.env)).any (·.1) || (backToKw pos (keywordEach kws X.env)).any (·.1.isNone)) = false := by rfl) :
    PE X (.Call (.Name x p) (a :: es) kws pos) (tM X.K (mCallK m ms mk g)) := by
  obtain ⟨f, fd, qn, e1, e2, e3, G⟩ := F.ex
  refine PE_imp (callGK (n := n) (ks := ks) (g := fun us ws => permL g (us ++ ws)) G (hr.mono hk) hgd hg e1 e2.kp (funD_kb e2 (hb qn)) (fun r1 r2 => vals_perm (r1.append r2) g) lets0 ha hkw hall hks hd he hp) fun σ H Q ⟨B, pot, os, env, st, E, e, st', hm, hQ⟩ => ?_
  obtain ⟨y, ey, hm⟩ := R.bind_ok hm
  obtain ⟨y2, ey2, hm⟩ := R.bind_ok hm
  obtain ⟨z, ez, hm⟩ := R.bind_ok hm
  cases hm
  refine ⟨B, pot, os, env, st, E, _, _, ey, fun vs H1 k1 E1 w1 => ⟨B, pot, os, env, _, E1, _, _, ey2, fun zs H2 k2 E2 w2 => ⟨?_, ?_, av B os, _, z, E2.tr, ((w1.keep E1 k2).append w2).perm g, ez, fun v H' s q => ?_⟩⟩⟩
  · rw [w1.length]
    exact hn _ _ _ ey
  · rw [w2.length]
    exact hn2 _ _ _ ey2
  · obtain ⟨k3, q3⟩ := EPost.of E2 (k1.trans k2) s (e := .im z) q
    exact hQ v H' k3 q3
theorem q_callK0 {k j : Nat} {x : PySem.Str} {ps : List PySem.Str} {sd : PySem.Stmt} {m : PF} {mk : MA} {kws : List Keyword} {p : PySem.Pos} (ks : List Str) (g : List Nat) (F : PFn X.prog X.w X.K X.mg X.base k x ps sd m) (hr : Room j X.A) (hgd : X.A.guards = some []) (hg : L2.Gl X x) (hkw : PK X kws (tAA X.K mk))
    (hb : ∀ (qn : Str) (kV doc pm : Value) (an : Option PySem.Addr) (cdv ct : Value) (us ws : List Value), us.length = 0 → ws.length = ks.length → bindArgs (W.fnOf qn qn (L2.defArgs sd) (L2.defBody sd) (L2.defScope sd) .none kV doc pm an cdv ct) ⟨us, ks.zip ws⟩ = pure (ps.zip (permL g (us ++ ws))))
    (hn2 : ∀ env st r, mk env st = .ok r → r.1.length = ks.length)
    (hk : k ≤ j := by decide) (hall : (backToKw pos (keywordEach kws X.env)).all (·.1.isSome) = true := by rfl) (hks : (backToKw pos (keywordEach kws X.env)).filterMap (·.1) = ks := by rfl) (hd : (x == ("__debug__" : PySem.Str)) = false := by decide)
    (hp : ((backTo pos (starEach [] X.env)).any (·.1) || (backToKw pos (keywordEach kws X.env)).any (·.1.isNone)) = false := by rfl) :
    PE X (.Call (.Name x p) [] kws pos) (tM X.K (mCallK m aNil mk g)) := by
  obtain ⟨f, fd, qn, e1, e2, e3, G⟩ := F.ex
  refine PE_imp (callGK0 (ks := ks) (g := fun us ws => permL g (us ++ ws)) G (hr.mono hk) hgd hg e1 e2.kp (funD_kb e2 (hb qn)) (fun r1 r2 => vals_perm (r1.append r2) g) lets0 hkw hall hks hd hp) fun σ H Q ⟨B, pot, os, env, st, E, e, st', hm, hQ⟩ => ?_
  obtain ⟨y, ey, hm⟩ := R.bind_ok hm
  obtain ⟨y2, ey2, hm⟩ := R.bind_ok hm
  obtain ⟨z, ez, hm⟩ := R.bind_ok hm
  cases hm
  cases ey
  refine ⟨B, pot, os, env, _, E, _, _, ey2, fun zs H2 k2 E2 w2 => ⟨?_, av B os, _, z, E2.tr, w2.perm g, ez, fun v H' s q => ?_⟩⟩
  · rw [w2.length]
    exact hn2 _ _ _ ey2
  · obtain ⟨k3, q3⟩ := EPost.of E2 k2 s (e := .im z) q
    exact hQ v H' k3 q3
theorem aNil_len (env : Env) (st : Pt) (r : List D × Pt) (h : aNil env st = .ok r) : r.1.length = 0 := by
  cases h
  rfl
theorem aCons_len {m : ME} {ms : MA} {n : Nat} (hs : ∀ env st r, ms env st = .ok r → r.1.length = n) (env : Env) (st : Pt) (r : List D × Pt) (h : aCons m ms env st = .ok r) : r.1.length = n + 1 := by
  obtain ⟨x, ex, h⟩ := R.bind_ok h
  obtain ⟨u, eu, h⟩ := R.bind_ok h
  obtain ⟨y, ey, h⟩ := R.bind_ok h
  cases h
  exact congrArg (· + 1) (hs _ _ _ ey)
end
/-! ### a def that makes the pot of the script -/
def tMOw (K : W.Frag) (s : MS) (m : ME) : TS := fun En σ H => ∃ H0 os env st, ERep K (fun _ => False) none os H σ env st ∧ Base0 (fun _ => False) none os H0 H ∧ ∃ env1 st1 es st2, s env st = .ok (.nx env1 st1) ∧ m env1 st1 = .ok (.ow es, st2) ∧
  ∀ p vs H', Same H0 H' → H0 p = none → H' p = some (.lst vs) → DrAll K H' (fun _ => False) vs es → En.rt (.ref p) H'
section
variable {X : Cx} {a b c : PySem.Expr} {ma mb mc me : ME} {pos : PySem.Pos} {s s' : MS} {stm : Stmt} {rest : List Stmt}
theorem so_ret (ha : PE X a (tM X.K ma)) : PSs X [.Return (some a) pos] (tMOw X.K sNil ma) :=
  PSs_imp (L2.pss_one (L2.ps_ret ha)) fun D σ H ⟨H0, os, env, st, E, b0, env1, st1, es, st2, hs, hm, h⟩ => by
    cases hs
    refine ⟨_, none, os, _, _, E, _, _, hm, fun v H1 k1 p1 => ?_⟩
    obtain ⟨p, vs, rfl, n, E1, e1, e2⟩ := p1
    refine h p vs H1 (fun b o q => (b0.step k1).same b o q id) ?_ e1 (e2.to fun b o q z => ⟨q, id⟩)
    rcases b0.fresh n with z | z
    · exact z.elim
    · exact z
theorem so_cons (h1 : PS X stm (tMS X.K s)) (h2 : PSs X rest (tMOw X.K s' ma)) : PSs X (stm :: rest) (tMOw X.K (sSeq s s') ma) :=
  PSs_imp (L2.pss_cons h1 h2) fun D σ H ⟨H0, os, env, st, E, b0, env1, st1, es, st2, hs, hm, h⟩ => by
    obtain ⟨x, ex, hs⟩ := R.bind_ok hs
    refine ⟨_, _, none, H0, os, env, st, E, b0, x, ex, ?_⟩
    cases x with
    | nx env3 st3 => exact fun σ1 H1 os1 E1 b1 => ⟨H0, os1, env3, st3, E1, b1, env1, st1, es, st2, hs, hm, h⟩
    | rt d st3 => cases hs
end
@[simp] def runO (a n : Nat) (s : MS) (m : ME) : List Int → List D → R (List Int) := fun ns ds => if ds.length + 1 = a then (s (.fz ns :: startE (n - 1) ds) []).bind fun o => match o with
  | .nx env st => (m env st).bind fun x => match x.1 with
    | .ow es => (match intsOf es with
      | some out => .ok out
      | none => .st)
    | _ => .st
  | _ => .st
  else .st
@[simp] def runF (n : Nat) (s : MS) : List Int → R D := fun ns => (s (.fz ns :: startE (n - 1) []) []).bind fun o => match o with
  | .nx _ _ => .ok .none
  | .rt d _ => .ok d
def spO (K : W.Frag) (m : List Int → List D → R (List Int)) : Sp := fun vs H Q _ => ∃ a ns us ds out, vs = .ref a :: us ∧ FzL K H a (ns.map V.int) ∧ DrAll K H (fun _ => False) us ds ∧ m ns ds = .ok out ∧ ∀ p H', Same H H' → H p = none → H' p = some (.lst (out.map V.int)) → Q (.ref p) H'
def spF (K : W.Frag) (m : List Int → R D) : Sp := fun vs H Q _ => ∃ a ns d, vs = [.ref a] ∧ FzL K H a (ns.map V.int) ∧ m ns = .ok d ∧ ∀ v H', Dr K H' (fun _ => False) v d → Q v H'
theorem rep_startF {K : W.Frag} {H : Hp} {x : Str} {N : List Str} {vs : List V} {ds : List D} {p : PySem.Addr} {ns : List Int} (hp : FzL K H p (ns.map V.int)) (h : DrAll K H (fun _ => False) vs ds) (hl : ds.length ≤ N.length) :
    ERep K (fun _ => False) none (List.replicate (N.length + 1) none) H (L2.start (x :: N) (.ref p :: vs)) (.fz ns :: startE N.length ds) [] := by
  have hv := h.length
  have es : L2.start (x :: N) (.ref p :: vs) = some (.ref p) :: L2.start N vs := by
    unfold L2.start
    rw [List.length_cons, List.length_cons, Nat.succ_sub_succ]
    rfl
  have E := rep_start (N := N) (fun _ z => z.elim) h hl
  rw [es]
  refine ⟨fun _ z => z.elim, ?_, ?_, fun i d e => ?_, fun i es e => ?_, fun i es e => ?_, fun i ns e => ?_, fun i a e => absurd e rep_no, fun i j a e _ => absurd e rep_no, fun i e => ?_, fun q e => nomatch e⟩
  · rw [List.length_cons, List.length_cons, E.l1]
  · rw [List.length_cons, startE_len hl, List.length_replicate]
  · cases i with
    | zero => cases e
    | succ i =>
      obtain ⟨x, e1, e2⟩ := E.slot i d e
      exact ⟨x, e1, e2.to fun b o q z => ⟨q, fun y => z (.inl (av_rep b y))⟩⟩
  · cases i with
    | zero => cases e
    | succ i =>
      obtain ⟨a, _, e1, _⟩ := E.own i es e
      exact absurd e1 rep_no
  · cases i with
    | zero => cases e
    | succ i => exact E.nb i es e
  · cases i with
    | zero =>
      cases e
      exact ⟨p, rfl, hp⟩
    | succ i => exact E.fz i ns e
  · cases i with
    | zero => cases e
    | succ i => exact E.pt i e
section
variable {P : PySem.Program} {w : PySem.World} {K : PySem.W.Frag} {mg : PySem.Str → Option PySem.Value} {base : PySem.Heap}
structure POn (P : PySem.Program) (w : PySem.World) (K : PySem.W.Frag) (mg : PySem.Str → Option PySem.Value) (base : PySem.Heap) (k : Nat) (x : PySem.Str) (ps : List PySem.Str) (st : PySem.Stmt) (m : List Int → List D → R (List Int)) : Prop where
  ex : ∃ f fd, mg x = some (.ref f) ∧ L2.FunD K x x (L2.defArgs st) (L2.defBody st) (L2.defScope st) [] [] f fd ∧ L2.Binds K fd ps [] ∧ FnG P w K mg base CX0 k f fd ps (spO K m)
theorem fnO {k a : Nat} {x y : PySem.Str} {N ps : List PySem.Str} {sd : PySem.Stmt} {f : PySem.Addr} {fd : PySem.FuncData} {s : MS} {m : ME} (hf : mg x = some (.ref f)) (F : L2.FunD K x x (L2.defArgs sd) (L2.defBody sd) (L2.defScope sd) [] [] f fd) (hb : L2.Binds K fd ps []) (S : FnScope (y :: N) ps (L2.defScope sd)) (ha : ps.length = a) (hn : a ≤ N.length + 1)
    (body : ∀ (cdv : PySem.Value) (A : PySem.Around) (outer : List PySem.Env) (s0 : PySem.Shared) (H : Hp) (E : XK), Room k (A.deeper (PyProof.Rows.envOfC x (L2.defScope sd) s0.heap.objs.size f cdv)) → A.guards = some [] →
      PSs (L2.cxOf CX0 P w K mg base (y :: N) x (L2.defScope sd) f cdv A outer s0 H E).nox (L2.defBody sd) (tMOw K s m)) : POn P w K mg base (k + 1) x ps sd (runO a (N.length + 1) s m) := by
  refine ⟨f, fd, hf, F, hb, fnG_of F S (fun vs H Q E h => ?_) fun cdv A outer s0 H vs Q E hr hg h => ⟨_, (body cdv A outer s0 H E hr hg).nox, ?_⟩⟩
  · obtain ⟨p, ns, us, ds, out, rfl, hp, h1, h2, _⟩ := h
    unfold runO at h2
    split at h2
    · rename_i q
      rw [List.length_cons, h1.length, q, ha]
    · cases h2
  · obtain ⟨p, ns, us, ds, out, rfl, hp, h1, h2, h3⟩ := h
    unfold runO at h2
    split at h2
    · rename_i q
      obtain ⟨o, e1, e2⟩ := R.bind_ok h2
      cases o with
      | rt d st => cases e2
      | nx env st =>
        obtain ⟨⟨x1, x2⟩, e3, e4⟩ := R.bind_ok e2
        dsimp only at e4
        split at e4
        · rename_i es
          split at e4
          · rename_i out2 ho
            cases e4
            refine ⟨H, _, _, _, rep_startF hp h1 (by omega), ⟨fun _ _ q _ => q, fun a q => absurd q rep_no2, fun _ q => nomatch q⟩, env, st, es, x2, e1, e3, fun p vs H' q1 q2 q3 q4 => h3 p H' q1 q2 ?_⟩
            rw [q3, ints_of (vs := vs) ho q4]
          · cases e4
        · cases e4
    · cases h2
/-- the law's def -/
theorem fnF {k : Nat} {x y : PySem.Str} {N : List PySem.Str} {sd : PySem.Stmt} {f : PySem.Addr} {fd : PySem.FuncData} {s : MS} (F : L2.FunD K x x (L2.defArgs sd) (L2.defBody sd) (L2.defScope sd) [] [] f fd) (S : FnScope (y :: N) [y] (L2.defScope sd))
    (body : ∀ (cdv : PySem.Value) (A : PySem.Around) (outer : List PySem.Env) (s0 : PySem.Shared) (H : Hp) (E : XK), Room k (A.deeper (PyProof.Rows.envOfC x (L2.defScope sd) s0.heap.objs.size f cdv)) → A.guards = some [] →
      PSs (L2.cxOf CX0 P w K mg base (y :: N) x (L2.defScope sd) f cdv A outer s0 H E).nox (L2.defBody sd) (tMS K s)) : FnG P w K mg base CX0 (k + 1) f fd [y] (spF K (runF (N.length + 1) s)) := by
  refine fnG_of F S (fun vs H Q E h => ?_) fun cdv A outer s0 H vs Q E hr hg h => ⟨_, (body cdv A outer s0 H E hr hg).nox, ?_⟩
  · obtain ⟨p, ns, d, rfl, _⟩ := h
    rfl
  · obtain ⟨p, ns, d, rfl, hp, h2, h3⟩ := h
    unfold runF at h2
    obtain ⟨o, e1, e2⟩ := R.bind_ok h2
    refine ⟨fun _ => False, fun _ => False, none, H, _, _, _, rep_startF hp .nil (Nat.zero_le _), ⟨fun _ _ q _ => q, fun a q => absurd q rep_no2, fun _ q => nomatch q⟩, o, e1, ?_⟩
    cases o with
    | nx env st =>
      cases e2
      exact fun σ1 H1 os1 E1 b1 => h3 .non H1 .non
    | rt d1 st =>
      cases e2
      exact fun v H1 q1 q2 _ => h3 v H1 q2
end
/-! ### law_right(law_pot(script, k)) -/
@[simp] def mRP (fP : List Int → List D → R (List Int)) (i : Nat) (as : MA) (fR : PD) : ME := fun env st => match getE env i with
  | .fz ns => (as env st).bind fun x => (fP ns x.1).bind fun pot => (fR [] pot).bind fun z => .ok (.im z.1, x.2)
  | _ => .st
section
variable {X : Cx} {pos : PySem.Pos}
theorem q_right (i : Nat) {k k2 j : Nat} {x y z : Str} {ps ps2 : List Str} {sd sd2 : Stmt} {fP : List Int → List D → R (List Int)} {fR : PD} {ms : MA} {es : List PySem.Expr} {p1 p2 p3 pos2 : Pos} (F : PDn X.prog X.w X.K X.mg X.base k x ps sd fR) (G : POn X.prog X.w X.K X.mg X.base k2 y ps2 sd2 fP) (hr : Room j X.A) (hgd : X.A.guards = some [])
    (hg : L2.Gl X x) (hg2 : L2.Gl X y) (h0 : PE X (.Name z p3) (L2.tVar i)) (ha : PA X es (tAA X.K ms)) (hk : k ≤ j := by decide) (hk2 : k2 ≤ j := by decide) (hd : (x == ("__debug__" : PySem.Str)) = false := by decide) (hd2 : (y == ("__debug__" : PySem.Str)) = false := by decide)
    (he : starEach [.Call (.Name y p2) (.Name z p3 :: es) [] pos2] X.env = (false, eval (.Call (.Name y p2) (.Name z p3 :: es) [] pos2) X.env) :: starEach [] X.env := by rfl) (hp : (backTo pos (starEach [] X.env)).any (·.1) = false := by rfl)
    (he2 : starEach (.Name z p3 :: es) X.env = (false, eval (.Name z p3) X.env) :: starEach es X.env := by rfl) (hp2 : (backTo pos2 (starEach es X.env)).any (·.1) = false := by rfl) :
    PE X (.Call (.Name x p1) [.Call (.Name y p2) (.Name z p3 :: es) [] pos2] [] pos) (tM X.K (mRP fP i ms fR)) := by
  obtain ⟨f, fd, qn, e1, e2, e3, F⟩ := F.ex
  obtain ⟨f2, fd2, e4, e5, e6, G⟩ := G.ex
  refine PE_imp (callG F (hr.mono hk) hgd hg e1 e2.kp e3 lets0 (L2.pa_cons (callG G (hr.mono hk2) hgd hg2 e4 e5.kp e6 lets0 (L2.pa_cons h0 ha he2) hd2 he2 hp2) L2.pa_nil he) hd he hp) fun σ H Q ⟨B, pot, os, env, st, E, e, st', hm, hQ⟩ => ?_
  unfold mRP at hm
  split at hm
  · rename_i ns hn
    obtain ⟨y1, ey, hm⟩ := R.bind_ok hm
    obtain ⟨out, eo, hm⟩ := R.bind_ok hm
    obtain ⟨⟨d, st1⟩, er, hm⟩ := R.bind_ok hm
    cases hm
    obtain ⟨a, a1, _⟩ := E.fz i ns hn
    refine ⟨_, a1, B, pot, os, env, st, E, _, _, ey, fun vs H1 k1 E1 w1 => ?_⟩
    obtain ⟨a', a2, a3⟩ := E1.fz i ns hn
    rw [a1] at a2
    cases a2
    refine ⟨a, ns, vs, _, out, rfl, a3, w1.to fun b o q z => ⟨q, id⟩, eo, fun p H2 s n hp => ?_⟩
    have tr : ∀ b, plus (av B os) p b → ∃ o, H2 b = some o := fun b z => by
      rcases z with z | z
      · obtain ⟨o, e⟩ := E1.tr b z
        exact ⟨o, s b o e⟩
      · rw [z]
        exact ⟨_, hp⟩
    refine ⟨plus (av B os) p, p, out, [], [], d, st1, rfl, tr, .inr rfl, hp, .nil, er, fun v H3 q1 q2 q3 => ?_⟩
    have s13 : Same H1 H3 := fun b o q => q1 b o (s b o q) fun z => by
      rw [z, n] at q
      cases q
    refine hQ v H3 (fun b o q z => s13 b o (k1 b o q z)) ⟨E1.ext s13, q3.to fun b o q z => ⟨q, fun y => z (.inl y)⟩⟩
  · cases hm
end
end BP

namespace BP
open PySem PySem.Spec
open PyProof.Rows
open L2 (V Hp HO TE TT TA TS TG TI It Ends Cx PE PT PW PA PS PSs PG PI Inv upd upd_same upd_ne OpR UnR CallR Same VK XK Sp Room Vals RelV FnScope PK CX0 E0)
theorem u64 {k : Nat} {A : Around} (r : Room k A) : A.units + 64 < cLine := by have := r.un; omega
theorem u65 {k : Nat} {A : Around} (r : Room k A) : A.units + 65 < cLine := by have := r.un; omega
/-! ### the head's Hook: defs, globals, constants, sys.modules -/
mutual
def kd (K : W.Frag) : Value → D → Bool
  | .none, .none => true
  | .bool a, .bool b => a == b
  | .int i _, .int j => decide (i = j)
  | .str x _, .str y => decide (x = y)
  | .ref a, .tuple ds => (match K.lookup a with
    | some ⟨.type c, _, .seq its _, _⟩ => decide (c = "tuple") && (decide (its.size ≤ sizeLine) && kdAll K its.toList ds)
    | _ => false)
  | _, _ => false
def kdAll (K : W.Frag) : List Value → List D → Bool
  | [], [] => true
  | u :: us, d :: ds => kd K u d && kdAll K us ds
  | _, _ => false
end
mutual
theorem kd_ok {K : W.Frag} : ∀ (d : D) (u : Value), kd K u d = true → ∃ v, RelV v u ∧ ∀ H A, Dr K H A v d
  | .none, u, h => by
    cases u <;> simp [kd] at h
    exact ⟨.non, rfl, fun _ _ => .non⟩
  | .bool b, u, h => by
    cases u <;> simp [kd] at h
    subst h
    exact ⟨.bl _, rfl, fun _ _ => .bl _⟩
  | .int i, u, h => by
    cases u <;> simp [kd] at h
    subst h
    exact ⟨.int _, ⟨_, rfl⟩, fun _ _ => .int _⟩
  | .str i, u, h => by
    cases u <;> simp [kd] at h
    subst h
    exact ⟨.str _, ⟨_, rfl⟩, fun _ _ => .str _⟩
  | .tuple ds, u, h => by
    cases u with
    | ref a =>
      simp only [kd] at h
      split at h
      · rename_i c od its n sl hl
        simp only [Bool.and_eq_true, decide_eq_true_eq] at h
        obtain ⟨h1, h2, h3⟩ := h
        obtain ⟨vs, rv, hd⟩ := kdAll_ok ds its.toList h3
        exact ⟨.ref a, rfl, fun H A => .tup (.inr ⟨_, its, n, hl, by rw [h1], rfl, h2, rv⟩) (hd H A)⟩
      · cases h
    | _ => simp [kd] at h
  | .list ds, u, h => by cases u <;> simp [kd] at h
  | .dict ds, u, h => by cases u <;> simp [kd] at h
theorem kdAll_ok {K : W.Frag} : ∀ (ds : List D) (us : List Value), kdAll K us ds = true → ∃ vs, Vals vs us ∧ ∀ H A, DrAll K H A vs ds
  | [], us, h => by
    cases us with
    | nil => exact ⟨[], .nil, fun _ _ => .nil⟩
    | cons _ _ => simp [kdAll] at h
  | d :: ds, us, h => by
    cases us with
    | nil => simp [kdAll] at h
    | cons u us =>
      simp only [kdAll, Bool.and_eq_true] at h
      obtain ⟨v, r1, h1⟩ := kd_ok d u h.1
      obtain ⟨vs, r2, h2⟩ := kdAll_ok ds us h.2
      exact ⟨v :: vs, .cons r1 r2, fun H A => .cons (h1 H A) (h2 H A)⟩
end
def kst (K : W.Frag) (p : Str × D) : Bool := match W.nsIn K mainGlobals p.1 with
  | some (some u) => kd K u p.2
  | _ => false
theorem kst_ok {K : W.Frag} {h : Heap} {mg : Str → Option Value} (X : K.In h) (G : h.Ns mainGlobals mg) {x : Str} {d : D} (c : kst K (x, d) = true) : Kst K mg x d := by
  unfold kst at c
  split at c
  · rename_i u e
    obtain ⟨v, r, hd⟩ := kd_ok _ _ c
    exact ⟨u, v, W.mg_of X G e, r, hd⟩
  · cases c
def sysB (g : PySem.Addr → Option Obj) : Bool := match g sysModules with
  | some ⟨_, _, .dict _ _, _⟩ => true
  | _ => false
theorem sysB_ok {g : PySem.Addr → Option Obj} (h : sysB g = true) : ∃ o es ep, g sysModules = some o ∧ o.data = .dict es ep := by
  unfold sysB at h
  split at h
  · rename_i e
    exact ⟨_, _, _, e, rfl⟩
  · cases h
abbrev AlM : Type := He.AlD × Bool
def obsM (n : Nat) (fa : List He.Fa) (fn : List He.DefD) (tu : List (Str × D)) (g : PySem.Addr → Option Obj) : AlM := (He.obsDG n fa fn g, sysB g && tu.all fun p => kst (He.frG g (He.asD g n)) p)
def SaysM (fa : List He.Fa) (fn : List He.DefD) (tu : List (Str × D)) (K : W.Frag) : Prop := He.SaysD fa fn K ∧ ∀ p ∈ tu, kst K p = true
def hookM (n : Nat) (fa : List He.Fa) (fn : List He.DefD) (tu : List (Str × D)) : PySem.W.Hook where
  α := AlM
  obs := fun s => obsM n fa fn tu s.heap.get?
  val := fun _ => (He.valD fn, true)
  says := fun _ h => (∃ o es ep, h.get? sysModules = some o ∧ o.data = .dict es ep) ∧ ∃ K : PySem.W.Frag, K.In h ∧ SaysM fa fn tu K
  of := fun _ _ e => by
    have e1 := congrArg (fun z : AlM => z.1) e
    have e2 := congrArg (fun z : AlM => z.2) e
    have e2 := Bool.and_eq_true_iff.mp (show (sysB _ && _) = true from e2)
    exact ⟨sysB_ok e2.1, _, He.frG_in, e1, fun p hp => List.all_eq_true.mp e2.2 p hp⟩
  keeps := fun _ _ _ ⟨⟨o, es, ep, h1, h2⟩, K, hK, c⟩ k => ⟨⟨o, es, ep, k _ _ h1, h2⟩, K, PySem.W.Frag.In.keeps hK k, c⟩
theorem obsM_eq {n : Nat} {fa : List He.Fa} {fn : List He.DefD} {tu : List (Str × D)} {g : PySem.Addr → Option Obj} {s : Shared} (h : ∀ a, g a = s.heap.get? a) : obsM n fa fn tu g = (hookM n fa fn tu).obs s := by
  have e : g = s.heap.get? := funext h
  rw [e] <;> rfl
/-- what a law's defs take from the head -/
structure Facts (fa : List He.Fa) (fn : List He.DefD) (tu : List (Str × D)) (K : W.Frag) (mg : Str → Option Value) (base : Heap) : Prop where
  kin : K.In base
  ns : base.Ns mainGlobals mg
  sys : SysB base
  says : SaysM fa fn tu K
section
variable {fa : List He.Fa} {fn : List He.DefD} {tu : List (Str × D)} {K : W.Frag} {mg : Str → Option Value} {base : Heap}
theorem Facts.glo (c : Facts fa fn tu K mg base) (i : Nat) {x : Str} (h : fa[i]? = some (.glo x) := by rfl) : mg x = some (.ref (He.ga K x)) := He.glo_ok c.kin c.ns (c.says.1.fact i h)
theorem Facts.free (c : Facts fa fn tu K mg base) (i : Nat) {x : Str} (h : fa[i]? = some (.free x) := by rfl) : mg x = none := He.free_ok c.kin c.ns (c.says.1.fact i h)
theorem Facts.kst (c : Facts fa fn tu K mg base) (i : Nat) {x : Str} {d : D} (h : tu[i]? = some (x, d) := by rfl) : Kst K mg x d := kst_ok c.kin c.ns (c.says.2 _ (List.mem_of_getElem? h))
end
theorem Hv.sq {K : W.Frag} {H : Hp} {a : PySem.Addr} {xs : List V} (hO : ∀ b u, H b = some u → ∃ o xs, u = .frz o (.lst xs)) (h : L2.SqL K H a xs) : FzL K H a xs := by
  rcases h with (h | ⟨o, h⟩) | h
  · obtain ⟨o, ys, z⟩ := hO _ _ h
    cases z
  · exact .inl ⟨o, h⟩
  · exact .inr h
end BP

namespace BP
/-! ### numbers -/
theorem log2_le {a : Int} {m : Nat} (h : a.natAbs < 2 ^ m) : a.natAbs.log2 ≤ m := by
  by_cases h0 : a.natAbs = 0
  · rw [h0]
    exact Nat.zero_le _
  · exact Nat.le_of_lt ((Nat.log2_lt h0).mpr h)
theorem mulOk_of {a b : Int} (m n : Nat) (ha : a.natAbs < 2 ^ m) (hb : b.natAbs < 2 ^ n) (h : m + n < 100000000) : mulOk a b = true := by
  have h1 := log2_le ha
  have h2 := log2_le hb
  exact decide_eq_true (by omega)
theorem divOk_of {a b : Int} (h : b.natAbs < 2 ^ 9000) : PySem.Builtin.divisionGoesByPylong a b = false := by
  refine PyProof.noPylong_of_log2 ?_
  by_cases h0 : b.natAbs = 0
  · rw [h0]
    decide +kernel
  · exact (Nat.log2_lt h0).mpr h
def qD (q : Rat) : D := .tuple [.int q.num, .int q.den]
/-! ### the lowest terms -/
def C_made : MS := (sSeq (sPar2 2 3 false false (mB bAbs (vCons (mVar 0) vNil)) (mB bAbs (vCons (mVar 1) vNil)))
  (sSeq (sWhile (fuelV 3) (mBin oGt (mVar 3) (mC (.int 0))) (sPar2 2 3 false false (mVar 3) (mBin oMod (mB bInt (vCons (mVar 2) vNil)) (mVar 3))))
  (sSeq (sSet 2 (mIf (mBin oGt (mVar 1) (mC (.int 0))) (mVar 2) (mBin oSub (mC (.int 0)) (mVar 2))))
  (sRet (mTup (aCons (mBin oDiv (mVar 0) (mVar 2)) (aCons (mBin oDiv (mVar 1) (mVar 2)) aNil)))))))
/-- a loop of a greatest common divisor, over slots 2 and 3 -/
theorem gcd_loop (x y : EV) (st : Pt) : ∀ (n : Nat) (a b : Nat), b < n → whileL (mBin oGt (mVar 3) (mC (.int 0))) (sPar2 2 3 false false (mVar 3) (mBin oMod (mB bInt (vCons (mVar 2) vNil)) (mVar 3))) n [x, y, .im (.int a), .im (.int b)] st = .ok (.nx [x, y, .im (.int (a.gcd b : Nat)), .im (.int 0)] st)
  | 0, _, _, h => absurd h (Nat.not_lt_zero _)
  | n + 1, a, b, h => by
    by_cases hb : b = 0
    · subst hb
      simp [whileL]
    · have hb' : 0 < b := Nat.pos_of_ne_zero hb
      have e : ((a : Int).fmod (b : Int)) = (a : Int) % (b : Int) := Int.fmod_eq_emod_of_nonneg _ (Int.natCast_nonneg b)
      have ih := gcd_loop x y st n b (a % b) (by have := Nat.mod_lt a hb'; omega)
      have g : b.gcd (a % b) = a.gcd b := by rw [Nat.gcd_comm, ← Nat.gcd_rec, Nat.gcd_comm]
      rw [g] at ih
      simp only [Int.natCast_emod] at ih
      simp [whileL, hb, hb', e, ih]
theorem made_sgn (t b : Int) (h : 0 < b) : (Rat.divInt t b).num = t / (b.gcd t : Nat) ∧ ((Rat.divInt t b).den : Int) = b / (b.gcd t : Nat) := by
  constructor
  · rw [Rat.num_divInt, Int.sign_eq_one_of_pos h, Int.one_mul]
  · rw [Rat.den_divInt, if_neg (by omega)]
    rw [Int.natCast_ediv]
    congr 1
    omega
theorem C_made_ok (t b : Int) (st : Pt) (hb : 0 < b) (hs : b.natAbs < 2 ^ 9000) : C_made [.im (.int t), .im (.int b), .no, .no] st = .ok (.rt (qD (Rat.divInt t b)) st) := by
  have ga : (if t < 0 then -t else t) = (t.natAbs : Int) := by omega
  have gb : (if b < 0 then -b else b) = (b.natAbs : Int) := by omega
  have L := gcd_loop (.im (.int t)) (.im (.int b)) st (b.natAbs + 2) t.natAbs b.natAbs (by omega)
  have hg : 0 < t.natAbs.gcd b.natAbs := Nat.gcd_pos_of_pos_right _ (by omega)
  have hle : t.natAbs.gcd b.natAbs ≤ b.natAbs := Nat.gcd_le_right _ (by omega)
  have hg0 : ¬ ((t.natAbs.gcd b.natAbs : Nat) : Int) = 0 := by omega
  have d1 : ∀ x : Int, PySem.Builtin.divisionGoesByPylong x ((t.natAbs.gcd b.natAbs : Nat) : Int) = false := fun x => divOk_of (by
    show (t.natAbs.gcd b.natAbs) < 2 ^ 9000
    omega)
  have f1 : ∀ x : Int, x.fdiv ((t.natAbs.gcd b.natAbs : Nat) : Int) = x / ((t.natAbs.gcd b.natAbs : Nat) : Int) := fun x => Int.fdiv_eq_ediv_of_nonneg _ (by omega)
  obtain ⟨m1, m2⟩ := made_sgn t b hb
  have eg : b.gcd t = t.natAbs.gcd b.natAbs := by
    show b.natAbs.gcd t.natAbs = _
    exact Nat.gcd_comm _ _
  rw [eg] at m1 m2
  have tn : ((b.natAbs : Int)).toNat = b.natAbs := Int.toNat_natCast _
  unfold C_made
  simp only [sSeq, sPar2, mB, vCons, mVar, getE, vNil, R.bind, EV.view, bAbs, ga, gb, keepE, EV.val, putE, setE, isPt, sWhile, fuelV, Bool.false_eq_true, if_false, tn, L, sSet, mIf, mBin, mC, oGt, bl, hb, decide_true, sRet, mTup, aCons, aNil, oDiv, hg0, d1, or_self, f1, LIM, List.length_cons, List.length_nil, if_true]
  simp [qD, m1, m2]
end BP

namespace BP
/-! ### draws -/
def PotOk (st : Pt) : Prop := ∃ a b : Int, st = [a, b] ∧ 0 ≤ b ∧ b < 2 ^ 40
def DrawOk (f : PD) : Prop := ∀ (m : Int) (st : Pt), 0 < m → m < 1000000 → PotOk st → ∃ d st', f [.int m] st = .ok (.int d, st') ∧ 0 ≤ d ∧ d < m ∧ PotOk st'
def C_draw (A C M M2 E : Int) : MS := (sSeq (sIf (mBin oGt (mPot 0) (mC (.int 0))) (sSeq (sDm 2 (mB bDm (vCons (mPot 0) (vCons (mVar 1) vNil))))
  (sRet (mVar 2))) sNil)
  (sSeq (sPot 1 (mBin oMod (mB bInt (vCons (mBin oAdd (mBin oMul (mPot 1) (mC (.int A))) (mC (.int C))) vNil)) (mC (.int M))))
  (sRet (mBin oMod (mB bInt (vCons (mBin oDiv (mBin oMod (mB bInt (vCons (mBin oMul (mPot 1) (mPot 1)) vNil)) (mC (.int M2))) (mC (.int E))) vNil)) (mVar 1)))))
theorem natAbs_lt {a : Int} {n : Nat} (h0 : 0 ≤ a) (h : a < (n : Nat)) : a.natAbs < n := by omega
theorem C_draw_ok {A C M M2 E : Int} (hA : 0 ≤ A ∧ A < 2 ^ 40) (hM : 0 < M ∧ M < 2 ^ 40) (hM2 : 0 < M2) (hE : 0 < E ∧ E < 2 ^ 40) : DrawOk (runD 2 3 (C_draw A C M M2 E)) := by
  intro m st hm hm2 ⟨a, b, e, hb, hb2⟩
  subst e
  have hm0 : ¬ m = 0 := by omega
  have hM0 : ¬ M = 0 := by omega
  have hM20 : ¬ M2 = 0 := by omega
  have hE0 : ¬ E = 0 := by omega
  by_cases ha : 0 < a
  · refine ⟨a % m, [a / m, b], ?_, Int.emod_nonneg _ hm0, Int.emod_lt_of_pos _ hm, a / m, b, rfl, hb, hb2⟩
    simp [C_draw, ha, hm, hm2]
  · have k1 : mulOk b A = true := mulOk_of 40 40 (natAbs_lt hb (by omega)) (natAbs_lt hA.1 (by omega)) (by omega)
    have e1 : ∀ x : Int, x.fmod M = x % M := fun x => Int.fmod_eq_emod_of_nonneg _ (by omega)
    have e2 : ∀ x : Int, x.fmod M2 = x % M2 := fun x => Int.fmod_eq_emod_of_nonneg _ (by omega)
    have e3 : ∀ x : Int, x.fdiv E = x / E := fun x => Int.fdiv_eq_ediv_of_nonneg _ (by omega)
    have e4 : ∀ x : Int, x.fmod m = x % m := fun x => Int.fmod_eq_emod_of_nonneg _ (by omega)
    have n1 := Int.emod_nonneg (b * A + C) hM0
    have n2 := Int.emod_lt_of_pos (b * A + C) hM.1
    generalize hB : (b * A + C) % M = B at n1 n2
    have k2 : mulOk B B = true := mulOk_of 40 40 (natAbs_lt n1 (by omega)) (natAbs_lt n1 (by omega)) (by omega)
    have k3 : ∀ x : Int, PySem.Builtin.divisionGoesByPylong x E = false := fun x => divOk_of (Nat.lt_of_lt_of_le (natAbs_lt (n := 2 ^ 40) (Int.le_of_lt hE.1) (by omega)) (Nat.pow_le_pow_right (by decide) (by omega)))
    refine ⟨(B * B % M2 / E) % m, [a, B], ?_, Int.emod_nonneg _ hm0, Int.emod_lt_of_pos _ hm, a, B, rfl, n1, by omega⟩
    simp [C_draw, ha, k1, e1, hM0, hB, k2, hM20, e2, hE0, k3, e3, hm0, e4]
/-! ### fractions -/
/-- number and bottom below 2 ** k -/
def Qs (k : Nat) (q : Rat) : Prop := q.num.natAbs < 2 ^ k ∧ q.den < 2 ^ k
theorem Qs.mono {k l : Nat} {q : Rat} (h : Qs k q) (hl : k ≤ l) : Qs l q :=
  ⟨Nat.lt_of_lt_of_le h.1 (Nat.pow_le_pow_right (by decide) hl), Nat.lt_of_lt_of_le h.2 (Nat.pow_le_pow_right (by decide) hl)⟩
theorem Qs_div {n : Int} {d : Nat} {k : Nat} (hd : d ≠ 0) (h1 : n.natAbs < 2 ^ k) (h2 : d < 2 ^ k) : Qs k (Rat.divInt n d) := by
  rw [Rat.divInt_ofNat]
  constructor
  · rw [Rat.num_mkRat, if_neg hd]
    refine Nat.lt_of_le_of_lt ?_ h1
    have := Int.natAbs_ediv_le_natAbs n ((d.gcd n.natAbs : Nat) : Int)
    exact this
  · rw [Rat.den_mkRat, if_neg hd]
    exact Nat.lt_of_le_of_lt (Nat.div_le_self _ _) h2
theorem mul_lt_pow {a b k l : Nat} (ha : a < 2 ^ k) (hb : b < 2 ^ l) : a * b < 2 ^ (k + l) := by
  rw [Nat.pow_add]
  by_cases h : b = 0
  · rw [h, Nat.mul_zero]
    exact Nat.mul_pos (Nat.pow_pos (by decide)) (Nat.pow_pos (by decide))
  · exact Nat.lt_of_lt_of_le (Nat.mul_lt_mul_of_pos_right ha (Nat.pos_of_ne_zero h)) (Nat.mul_le_mul_left _ (Nat.le_of_lt hb))
theorem add_dv (p q : Rat) : Rat.divInt (p.num * q.den + q.num * p.den) ((p.den * q.den : Nat) : Int) = p + q := by rw [Rat.divInt_ofNat, ← Rat.add_def']
theorem sub_dv (p q : Rat) : Rat.divInt (p.num * q.den - q.num * p.den) ((p.den * q.den : Nat) : Int) = p - q := by rw [Rat.divInt_ofNat, ← Rat.sub_def']
theorem mul_dv (p q : Rat) : Rat.divInt (p.num * q.num) ((p.den * q.den : Nat) : Int) = p * q := by rw [Rat.divInt_ofNat, ← Rat.mul_def']
theorem Qs_mul {k l : Nat} {p q : Rat} (hp : Qs k p) (hq : Qs l q) : Qs (k + l) (p * q) := by
  rw [← mul_dv]
  refine Qs_div (Nat.mul_ne_zero p.den_nz q.den_nz) ?_ (mul_lt_pow hp.2 hq.2)
  rw [Int.natAbs_mul]
  exact mul_lt_pow hp.1 hq.1
theorem num_add_lt {k l : Nat} {p q : Rat} (hp : Qs k p) (hq : Qs l q) (s : Int) (hs : s.natAbs = 1) : (p.num * q.den + s * (q.num * p.den)).natAbs < 2 ^ (k + l + 1) := by
  have h1 : (p.num * (q.den : Int)).natAbs < 2 ^ (k + l) := by
    rw [Int.natAbs_mul]
    exact mul_lt_pow hp.1 (by simpa using hq.2)
  have h2 : (s * (q.num * (p.den : Int))).natAbs < 2 ^ (k + l) := by
    rw [Int.natAbs_mul, hs, Nat.one_mul, Int.natAbs_mul, Nat.add_comm k l]
    exact mul_lt_pow hq.1 (by simpa using hp.2)
  have h3 := Int.natAbs_add_le (p.num * (q.den : Int)) (s * (q.num * (p.den : Int)))
  rw [Nat.pow_succ]
  omega
theorem Qs_add {k l : Nat} {p q : Rat} (hp : Qs k p) (hq : Qs l q) : Qs (k + l + 1) (p + q) := by
  rw [← add_dv]
  refine Qs_div (Nat.mul_ne_zero p.den_nz q.den_nz) ?_ (Nat.lt_trans (mul_lt_pow hp.2 hq.2) (Nat.pow_lt_pow_right (by decide) (by omega)))
  have := num_add_lt hp hq 1 rfl
  rwa [Int.one_mul] at this
theorem Qs_sub {k l : Nat} {p q : Rat} (hp : Qs k p) (hq : Qs l q) : Qs (k + l + 1) (p - q) := by
  rw [← sub_dv]
  refine Qs_div (Nat.mul_ne_zero p.den_nz q.den_nz) ?_ (Nat.lt_trans (mul_lt_pow hp.2 hq.2) (Nat.pow_lt_pow_right (by decide) (by omega)))
  have := num_add_lt hp hq (-1) rfl
  rwa [Int.neg_one_mul, ← Int.sub_eq_add_neg] at this
def MadeOk (g : PF) : Prop := ∀ t b : Int, 0 < b → b.natAbs < 2 ^ 9000 → g [.int t, .int b] = .ok (qD (Rat.divInt t b))
theorem C_made_okF : MadeOk (runP 2 4 C_made) := fun t b hb hs => by
  have h := C_made_ok t b [] hb hs
  simp [runP, startE, h]
def C_plus (g : PF) : MS := (sRet (mCall g (aCons (mBin oAdd (mBin oMul (mBin oIx (mVar 0) (mC (.int 0))) (mBin oIx (mVar 1) (mC (.int 1)))) (mBin oMul (mBin oIx (mVar 1) (mC (.int 0))) (mBin oIx (mVar 0) (mC (.int 1))))) (aCons (mBin oMul (mBin oIx (mVar 0) (mC (.int 1))) (mBin oIx (mVar 1) (mC (.int 1)))) aNil))))
def C_less (g : PF) : MS := (sRet (mCall g (aCons (mBin oSub (mBin oMul (mBin oIx (mVar 0) (mC (.int 0))) (mBin oIx (mVar 1) (mC (.int 1)))) (mBin oMul (mBin oIx (mVar 1) (mC (.int 0))) (mBin oIx (mVar 0) (mC (.int 1))))) (aCons (mBin oMul (mBin oIx (mVar 0) (mC (.int 1))) (mBin oIx (mVar 1) (mC (.int 1)))) aNil))))
def C_times (g : PF) : MS := (sRet (mCall g (aCons (mBin oMul (mBin oIx (mVar 0) (mC (.int 0))) (mBin oIx (mVar 1) (mC (.int 0)))) (aCons (mBin oMul (mBin oIx (mVar 0) (mC (.int 1))) (mBin oIx (mVar 1) (mC (.int 1)))) aNil))))
def C_below : MS := (sRet (mBin oLt (mBin oMul (mBin oIx (mVar 0) (mC (.int 0))) (mBin oIx (mVar 1) (mC (.int 1)))) (mBin oMul (mBin oIx (mVar 1) (mC (.int 0))) (mBin oIx (mVar 0) (mC (.int 1))))))
@[simp] theorem at0 {α : Type} (x : α) (xs : List α) : atD (x :: xs) 0 = some x := by simp [atD, ixD]
@[simp] theorem at1 {α : Type} (x y : α) (xs : List α) : atD (x :: y :: xs) 1 = some y := by
  have h : (1 : Int) < (xs.length : Int) + 1 + 1 := by omega
  simp [atD, ixD, h]
theorem mulOk_q {k l : Nat} {p q : Rat} (hp : Qs k p) (hq : Qs l q) (h : k + l < 9000) : mulOk p.num q.den = true ∧ mulOk q.num p.den = true ∧ mulOk (p.den : Int) (q.den : Int) = true ∧ mulOk p.num q.num = true :=
  ⟨mulOk_of k l hp.1 (by simpa using hq.2) (by omega), mulOk_of l k hq.1 (by simpa using hp.2) (by omega), mulOk_of k l (by simpa using hp.2) (by simpa using hq.2) (by omega), mulOk_of k l hp.1 hq.1 (by omega)⟩
theorem den_ok {k l : Nat} {p q : Rat} (hp : Qs k p) (hq : Qs l q) (h : k + l < 9000) : 0 < (p.den : Int) * (q.den : Int) ∧ ((p.den : Int) * (q.den : Int)).natAbs < 2 ^ 9000 := by
  have h1 := p.den_pos
  have h2 := q.den_pos
  refine ⟨Int.mul_pos (by omega) (by omega), ?_⟩
  rw [Int.natAbs_mul]
  exact Nat.lt_of_lt_of_le (mul_lt_pow (k := k) (l := l) (by simpa using hp.2) (by simpa using hq.2)) (Nat.pow_le_pow_right (by decide) (by omega))
def PlusOk (f : PF) : Prop := ∀ (k l : Nat) (p q : Rat), Qs k p → Qs l q → k + l < 9000 → f [qD p, qD q] = .ok (qD (p + q))
def LessOk (f : PF) : Prop := ∀ (k l : Nat) (p q : Rat), Qs k p → Qs l q → k + l < 9000 → f [qD p, qD q] = .ok (qD (p - q))
def TimesOk (f : PF) : Prop := ∀ (k l : Nat) (p q : Rat), Qs k p → Qs l q → k + l < 9000 → f [qD p, qD q] = .ok (qD (p * q))
def BelowOk (f : PF) : Prop := ∀ (k l : Nat) (p q : Rat), Qs k p → Qs l q → k + l < 9000 → f [qD p, qD q] = .ok (.bool (decide (p < q)))
theorem C_plus_ok {g : PF} (hg : MadeOk g) : PlusOk (runP 2 2 (C_plus g)) := fun k l p q hp hq h => by
  obtain ⟨m1, m2, m3, m4⟩ := mulOk_q hp hq h
  obtain ⟨d1, d2⟩ := den_ok hp hq h
  have e := add_dv p q
  rw [Int.natCast_mul] at e
  simp [C_plus, qD, m1, m2, m3, hg _ _ d1 d2, e]
theorem C_less_ok {g : PF} (hg : MadeOk g) : LessOk (runP 2 2 (C_less g)) := fun k l p q hp hq h => by
  obtain ⟨m1, m2, m3, m4⟩ := mulOk_q hp hq h
  obtain ⟨d1, d2⟩ := den_ok hp hq h
  have e := sub_dv p q
  rw [Int.natCast_mul] at e
  simp [C_less, qD, m1, m2, m3, hg _ _ d1 d2, e]
theorem C_times_ok {g : PF} (hg : MadeOk g) : TimesOk (runP 2 2 (C_times g)) := fun k l p q hp hq h => by
  obtain ⟨m1, m2, m3, m4⟩ := mulOk_q hp hq h
  obtain ⟨d1, d2⟩ := den_ok hp hq h
  have e := mul_dv p q
  rw [Int.natCast_mul] at e
  simp [C_times, qD, m4, m3, hg _ _ d1 d2, e]
theorem C_below_ok : BelowOk (runP 2 2 C_below) := fun k l p q hp hq h => by
  obtain ⟨m1, m2, m3, m4⟩ := mulOk_q hp hq h
  simp [C_below, qD, m1, m2, Rat.lt_iff]
end BP

namespace BP
/-! ### lists -/
theorem lcL_map {p : Pat} {e : ME} {env : Env} {f : D → D} : ∀ {ds : List D} {st : Pt}, (∀ d ∈ ds, ∀ st, ∃ env1, p.set d env = .ok env1 ∧ e env1 st = .ok (.im (f d), st)) → lcL p (mC (.bool true)) e env ds st = .ok (ds.map f, st)
  | [], st, _ => by simp [lcL]
  | d :: ds, st, h => by
    obtain ⟨env1, e1, e2⟩ := h d List.mem_cons_self st
    have ih := lcL_map (st := st) (p := p) (e := e) (env := env) (f := f) fun x hx => h x (List.mem_cons_of_mem _ hx)
    simp [lcL, e1, e2, ih]
theorem boolsOf_map {α : Type} (g : α → Bool) : ∀ ds : List α, boolsOf (ds.map fun d => .bool (g d)) = some (ds.map g)
  | [] => by simp
  | d :: ds => by simp [boolsOf_map g ds]
theorem lc_bool {p : Pat} {vs : List Nat} {e : ME} {env : Env} {ds : List D} {st : Pt} (g : D → Bool) (hl : ds.length ≤ 1000000) (hv : (vs.any fun v => isLk (getE env v)) = false) (h : ∀ d ∈ ds, ∀ st, ∃ env1, p.set d (wipeE env vs) = .ok env1 ∧ e env1 st = .ok (.im (.bool (g d)), st)) {it : MI} (hit : it env st = .ok (ds, st)) :
    mLc it p vs (mC (.bool true)) e env st = .ok (.ow (ds.map fun d => .bool (g d)), st) := by
  have e1 := lcL_map (p := p) (e := e) (env := wipeE env vs) (f := fun d => .bool (g d)) (ds := ds) (st := st) h
  simp only [mLc, hit, R.bind, LIM, hl, hv, and_self, if_true, e1]
@[simp] theorem bAll_map (ds : List D) (g : D → Bool) : bAll [.list (ds.map fun d => .bool (g d))] = bl (ds.all g) := by
  rw [bAll_l, boolsOf_map]
  simp [List.all_map, Function.comp_def]
@[simp] theorem bAny_map (ds : List D) (g : D → Bool) : bAny [.list (ds.map fun d => .bool (g d))] = bl (ds.any g) := by
  rw [bAny_l, boolsOf_map]
  simp [List.any_map, Function.comp_def]
theorem cut1 {α : Type} (ds : List α) : cutD ds (some 1) none = ds.tail := by
  rw [← List.drop_one]
  unfold cutD
  cases ds with
  | nil => rfl
  | cons d r =>
    have e : sIxD (d :: r).length 0 (some 1) = 1 := by
      simp [sIxD]
    rw [e]
    show ((d :: r).drop 1).take ((d :: r).length - 1) = _
    exact List.take_of_length_le (by simp)
/-- the item, or None -/
def nth (ds : List D) (i : Nat) : D := ds.getD i .none
theorem zip_mem : ∀ {xs ys : List D} {d : D}, d ∈ zipL xs ys → ∃ x y, d = .tuple [x, y] ∧ x ∈ xs ∧ y ∈ ys
  | [], _, _, h => by simp at h
  | _ :: _, [], _, h => by simp at h
  | x :: xs, y :: ys, d, h => by
    rcases List.mem_cons.mp (by simpa using h) with h | h
    · exact ⟨x, y, h, List.mem_cons_self, List.mem_cons_self⟩
    · obtain ⟨a, b, e, h1, h2⟩ := zip_mem h
      exact ⟨a, b, e, List.mem_cons_of_mem _ h1, List.mem_cons_of_mem _ h2⟩
theorem zip_le : ∀ (xs ys : List D), (zipL xs ys).length ≤ xs.length
  | [], _ => by simp
  | _ :: _, [] => by simp
  | x :: xs, y :: ys => by
    have := zip_le xs ys
    simp
    omega
theorem at_ok (ds : List D) (i : Nat) (h : i < ds.length) : atD ds (i : Int) = some (nth ds i) := by
  unfold atD ixD nth
  rw [if_pos (Int.natCast_nonneg i), if_pos (by omega)]
  simp [h]
theorem cut_to {α : Type} (xs : List α) (k : Nat) : cutD xs none (some (k : Int)) = xs.take k := by
  have e : sIxD xs.length xs.length (some (k : Int)) = min k xs.length := by
    simp [sIxD]
    intro h
    omega
  have e0 : sIxD xs.length 0 none = 0 := rfl
  unfold cutD
  rw [e, e0, List.drop_zero, Nat.sub_zero]
  by_cases h : k ≤ xs.length
  · rw [Nat.min_eq_left h]
  · rw [Nat.min_eq_right (by omega), List.take_length, List.take_of_length_le (by omega)]
theorem cut_from {α : Type} (xs : List α) (k : Nat) : cutD xs (some (k : Int)) none = xs.drop k := by
  have e : sIxD xs.length 0 (some (k : Int)) = min k xs.length := by
    simp [sIxD]
    intro h
    omega
  have e0 : sIxD xs.length xs.length none = xs.length := rfl
  unfold cutD
  rw [e, e0]
  by_cases h : k ≤ xs.length
  · rw [Nat.min_eq_left h, List.take_of_length_le (by rw [List.length_drop]; omega)]
  · rw [Nat.min_eq_right (by omega), Nat.sub_self, List.take_zero, List.drop_of_length_le (by omega)]
end BP

namespace BP
open PySem
/-! ### how long a repr is -/
mutual
def wt : D → Nat
  | .none => 4
  | .bool _ => 5
  | .int i => i.natAbs.log2 + 2
  | .str x => (PySem.PyData.shown (.str x)).length
  | .list xs => wtAll xs + 2
  | .tuple xs => wtAll xs + 3
  | .dict _ => 2
def wtAll : List D → Nat
  | [] => 0
  | x :: xs => wt x + 2 + wtAll xs
end
theorem nat_len (n : Nat) : (toString n).length ≤ n.log2 + 1 := by
  have h : n < 10 ^ (n.log2 + 1) := by
    refine Nat.lt_of_lt_of_le (Nat.lt_log2_self (n := n)) ?_
    exact Nat.pow_le_pow_left (by decide) _
  have h2 := PySem.toDigits_len_pow (b := 10) (k := n.log2 + 1) (n := n) (by decide) (by omega) h
  have e : (toString n).length = (Nat.toDigits 10 n).length := by
    show (Nat.repr n).length = _
    unfold Nat.repr
    simp
  omega
theorem int_len (i : Int) : (toString i).length ≤ i.natAbs.log2 + 2 := by
  cases i with
  | ofNat n =>
    show (toString n).length ≤ n.log2 + 2
    have := nat_len n
    omega
  | negSucc n =>
    have e : toString (Int.negSucc n) = "-" ++ toString (n + 1) := rfl
    rw [e, String.length_append]
    have := nat_len (n + 1)
    show 1 + _ ≤ (n + 1).log2 + 2
    omega
theorem join_le : ∀ ts : List Str, (Str.join ", " ts).length ≤ piled ts := fun ts => by
  by_cases h : ts = []
  · subst h
    decide +kernel
  · have := join_length_add ts h
    omega
theorem tuple_len (ts : List Str) : (tupleText ts).length ≤ piled ts + 3 := by
  have := join_le ts
  unfold tupleText
  rw [Str.length_append, Str.length_append]
  have h1 : (("(" : Str)).length = 1 := by decide +kernel
  have h2 : ∀ b : Bool, ((if b then ",)" else ")" : String) : Str).length ≤ 2 := by decide +kernel
  have h3 := h2 (ts.length == 1)
  omega
theorem textFrom_le : ∀ (ts : List Str) (k : Nat) (acc : Str), (textFrom k acc ts).length ≤ acc.length + piled ts
  | [], k, acc => by
    show acc.length ≤ _
    omega
  | t :: r, k, acc => by
    have ih := textFrom_le r (k + 1) (acc ++ (if k > 0 then ", " else "" : String) ++ t)
    rw [piled_cons]
    show (textFrom (k + 1) (acc ++ (if k > 0 then ", " else "" : String) ++ t) r).length ≤ _
    rw [Str.length_append, Str.length_append] at ih
    have h2 : ((if k > 0 then ", " else "" : String) : Str).length ≤ 2 := by
      split <;> decide +kernel
    omega
theorem list_len (ts : List Str) : (listText ts).length ≤ piled ts + 2 := by
  have := textFrom_le ts 0 "["
  unfold listText
  rw [Str.length_append]
  have h1 : (("[" : Str)).length = 1 := by decide +kernel
  have h2 : (("]" : Str)).length = 1 := by decide +kernel
  omega
mutual
theorem shown_le : ∀ d : D, noKeys d = true → (PyData.shown d).length ≤ wt d
  | .none, _ => by
    simp only [PyData.shown, wt]
    decide +kernel
  | .bool b, _ => by
    simp only [PyData.shown, wt]
    cases b <;> decide +kernel
  | .int i, _ => by
    simp only [PyData.shown, wt]
    rw [ofString_length]
    exact int_len i
  | .str x, _ => by simp only [wt]; exact Nat.le_refl _
  | .list xs, h => by
    simp only [PyData.shown, wt]
    have := list_len (PyData.shownAll xs)
    have := shownAll_le xs (by simpa [noKeys] using h)
    omega
  | .tuple xs, h => by
    simp only [PyData.shown, wt]
    have := tuple_len (PyData.shownAll xs)
    have := shownAll_le xs (by simpa [noKeys] using h)
    omega
  | .dict [], _ => by
    simp only [PyData.shown, wt, PyData.shownKv]
    decide +kernel
  | .dict (_ :: _), h => by simp [noKeys] at h
theorem shownAll_le : ∀ ds : List D, noKeysAll ds = true → piled (PyData.shownAll ds) ≤ wtAll ds
  | [], _ => by simp [PyData.shownAll, wtAll, piled]
  | d :: ds, h => by
    simp only [noKeysAll, Bool.and_eq_true] at h
    have h1 := shown_le d h.1
    have h2 := shownAll_le ds h.2
    simp only [PyData.shownAll, wtAll]
    rw [piled_cons]
    omega
end
/-- what repr takes, by parts: n bounds its length, k its depth -/
def Tame (n k : Nat) (d : D) : Prop := d.showable = true ∧ noKeys d = true ∧ wt d ≤ n ∧ d.depth ≤ k
def TameAll (n k : Nat) (ds : List D) : Prop := PyData.showableAll ds = true ∧ noKeysAll ds = true ∧ wtAll ds ≤ n ∧ PyData.depthAll ds ≤ k
theorem Tame.repr {n k : Nat} {d : D} (h : Tame n k d) (hn : n ≤ 1000000) (hk : k ≤ 64) : reprOk d = true := by
  obtain ⟨h1, h2, h3, h4⟩ := h
  have := shown_le d h2
  unfold reprOk
  rw [h1, h2, decide_eq_true (show d.shown.length ≤ LIM by show _ ≤ 1000000; omega), decide_eq_true (show d.depth ≤ 64 by omega)]
  rfl
theorem Tame.mono {n m k l : Nat} {d : D} (h : Tame n k d) (h1 : n ≤ m) (h2 : k ≤ l) : Tame m l d := ⟨h.1, h.2.1, Nat.le_trans h.2.2.1 h1, Nat.le_trans h.2.2.2 h2⟩
theorem tameAll_nil : TameAll 0 0 [] := ⟨rfl, rfl, Nat.le_refl _, Nat.le_refl _⟩
theorem TameAll.cons {n m k : Nat} {d : D} {ds : List D} (h : Tame n k d) (t : TameAll m k ds) : TameAll (n + 2 + m) k (d :: ds) := by
  obtain ⟨h1, h2, h3, h4⟩ := h
  obtain ⟨t1, t2, t3, t4⟩ := t
  refine ⟨by simp [PyData.showableAll, h1, t1], by simp [noKeysAll, h2, t2], ?_, ?_⟩
  · simp only [wtAll]; omega
  · simp only [PyData.depthAll]; omega
theorem TameAll.of {n k : Nat} : ∀ {ds : List D}, (∀ d ∈ ds, Tame n k d) → TameAll ((n + 2) * ds.length) k ds
  | [], _ => ⟨rfl, rfl, Nat.zero_le _, Nat.zero_le _⟩
  | d :: ds, h => by
    have ih := TameAll.of fun x hx => h x (List.mem_cons_of_mem _ hx)
    have h2 := TameAll.cons (h d List.mem_cons_self) ih
    rw [List.length_cons, Nat.mul_succ, Nat.add_comm]
    exact h2
theorem TameAll.list {n k : Nat} {ds : List D} (h : TameAll n k ds) : Tame (n + 2) (k + 1) (.list ds) := by
  obtain ⟨t1, t2, t3, t4⟩ := h
  exact ⟨by simpa [PyData.showable] using t1, by simpa [noKeys] using t2, by simp only [wt]; omega, by simp only [PyData.depth]; omega⟩
theorem TameAll.tuple {n k : Nat} {ds : List D} (h : TameAll n k ds) : Tame (n + 3) (k + 1) (.tuple ds) := by
  obtain ⟨t1, t2, t3, t4⟩ := h
  exact ⟨by simpa [PyData.showable] using t1, by simpa [noKeys] using t2, by simp only [wt]; omega, by simp only [PyData.depth]; omega⟩
theorem TameAll.mono {n m k l : Nat} {ds : List D} (h : TameAll n k ds) (h1 : n ≤ m) (h2 : k ≤ l) : TameAll m l ds := ⟨h.1, h.2.1, Nat.le_trans h.2.2.1 h1, Nat.le_trans h.2.2.2 h2⟩
theorem tame_none : Tame 4 0 .none := ⟨rfl, rfl, Nat.le_refl _, Nat.le_refl _⟩
theorem tame_bool (b : Bool) : Tame 5 0 (.bool b) := ⟨rfl, rfl, Nat.le_refl _, Nat.le_refl _⟩
theorem tame_int {i : Int} {k : Nat} (h : i.natAbs < 2 ^ k) (hk : k ≤ 1900) : Tame (k + 2) 0 (.int i) := by
  have l := log2_le h
  refine ⟨?_, rfl, ?_, Nat.le_refl _⟩
  · simp only [PyData.showable]
    exact decide_eq_true (by omega)
  · simp only [wt]
    omega
theorem tame_q {k : Nat} {q : Rat} (h : Qs k q) (hk : k ≤ 1900) : Tame (2 * k + 11) 1 (qD q) := by
  have h1 := tame_int h.1 hk
  have h2 := tame_int (i := (q.den : Int)) (k := k) (by simpa using h.2) hk
  exact (TameAll.tuple (TameAll.cons h1 (TameAll.cons h2 tameAll_nil))).mono (by omega) (by omega)
end BP

namespace L_k46
open BP
open PySem (Str Stmt)

/-! ### mirrors -/
def m__law_pot : MS := (sSeq (sSet 2 (mBin oAdd (mBin oMul (mC (.int 3607)) (mVar 1)) (mC (.int 2903)))) (sSeq (sIf (mBin oLt (mVar 1) (mLenF 0)) (sSet 2 (mB bAbs (vCons (mIxF 0 (mVar 1)) vNil))) sNil) sNil))
def r__law_pot : ME := (mLst (aCons (mB bMax (vCons (mC (.int 0)) (vCons (mBin oSub (mVar 2) (mBin oPow (mC (.int 10)) (mC (.int 18)))) vNil))) (aCons (mBin oAdd (mBin oMod (mB bInt (vCons (mBin oAdd (mBin oAdd (mBin oMul (mBin oMod (mB bInt (vCons (mVar 2) vNil)) (mC (.int 2147483549))) (mC (.int 39373))) (mBin oMul (mC (.int 3607)) (mVar 1))) (mC (.int 2903))) vNil)) (mC (.int 2147483563))) (mC (.int 1))) aNil)))
def F__law_pot : List Int → List D → R (List Int) := runO 2 3 m__law_pot r__law_pot
def m_is_integer : MS := (sRet (mAnd (mUn (oIsI .int) (mVar 0)) (mUn oNot (mUn (oIsI .bool) (mVar 0)))))
def F_is_integer : PF := runP 1 1 m_is_integer
def m_is_within : MS := (sRet (mAnd (mCall F_is_integer (aCons (mVar 0) aNil)) (mChain oLe oLe (mVar 1) (mVar 0) (mVar 2))))
def F_is_within : PF := runP 3 3 m_is_within
def m_check_size : MS := (sIf (mUn oNot (mCall F_is_within (aCons (mVar 0) (aCons (mC (.int 0)) (aCons (mC (.int 3)) aNil))))) sNever sNil)
def F_check_size : PF := runP 1 1 m_check_size
def m_is_list : MS := (sRet (mUn (oIsI .listtuple) (mVar 0)))
def F_is_list : PF := runP 1 1 m_is_list
def fuel_divisor_1 : Env → Nat := fuelV 1
def b_divisor_1 : MS := (sPar2 0 1 false false (mVar 1) (mBin oMod (mB bInt (vCons (mVar 0) vNil)) (mVar 1)))
def m_divisor : MS := (sSeq (sWhile fuel_divisor_1 (mBin oGt (mVar 1) (mC (.int 0))) b_divisor_1)
  (sRet (mVar 0)))
def F_divisor : PF := runP 2 2 m_divisor
def m_is_fraction_of : MS := (sSeq (sIf (mOr (mUn oNot (mUn (oIsI .tuple) (mVar 0))) (mOr (mBin oNe (mB bLen (vCons (mVar 0) vNil)) (mC (.int 2))) (mOr (mUn oNot (mCall F_is_integer (aCons (mBin oIx (mVar 0) (mC (.int 0))) aNil))) (mUn oNot (mCall F_is_integer (aCons (mBin oIx (mVar 0) (mC (.int 1))) aNil)))))) (sRet (mC (.bool false))) sNil)
  (sRet (mAnd (mBin oGe (mBin oIx (mVar 0) (mC (.int 1))) (mC (.int 1))) (mBin oEq (mCall F_divisor (aCons (mB bAbs (vCons (mBin oIx (mVar 0) (mC (.int 0))) vNil)) (aCons (mBin oIx (mVar 0) (mC (.int 1))) aNil))) (mC (.int 1))))))
def F_is_fraction_of : PF := runP 1 1 m_is_fraction_of
def m_is_small : MS := (sRet (mAnd (mCall F_is_fraction_of (aCons (mVar 0) aNil)) (mAnd (mBin oLe (mB bAbs (vCons (mBin oIx (mVar 0) (mC (.int 0))) vNil)) (mC (.int 999))) (mBin oLe (mBin oIx (mVar 0) (mC (.int 1))) (mC (.int 99))))))
def F_is_small : PF := runP 1 1 m_is_small
def m_are_small : MS := (sRet (mAnd (mCall F_is_list (aCons (mVar 0) aNil)) (mB bAll (vCons (mLc (iSeq (mVar 0)) (.nm 1) [1] (mC (.bool true)) (mCall F_is_small (aCons (mVar 1) aNil))) vNil))))
def F_are_small : PF := runP 1 2 m_are_small
def m_is_below : MS := (sRet (mBin oLt (mBin oMul (mBin oIx (mVar 0) (mC (.int 0))) (mBin oIx (mVar 1) (mC (.int 1)))) (mBin oMul (mBin oIx (mVar 1) (mC (.int 0))) (mBin oIx (mVar 0) (mC (.int 1))))))
def F_is_below : PF := runP 2 2 m_is_below
def m_is_knot_row_of : MS := (sSeq (sIf (mOr (mUn oNot (mCall F_are_small (aCons (mVar 1) aNil))) (mUn oNot (mChain oLe oLe (mBin oAdd (mBin oMul (mC (.int 2)) (mVar 0)) (mC (.int 2))) (mB bLen (vCons (mVar 1) vNil)) (mC (.int 12))))) (sRet (mC (.bool false))) sNil)
  (sSeq (sIf (mB bAny (vCons (mLc (iZipS (mVar 1) (mCut (mVar 1) (oSome (mC (.int 1))) oNone)) (.tp [(.nm 2), (.nm 3)]) [2, 3] (mC (.bool true)) (mCall F_is_below (aCons (mVar 3) (aCons (mVar 2) aNil)))) vNil)) (sRet (mC (.bool false))) sNil)
  (sSeq (sIf (mB bAny (vCons (mLc (iSeq (mVar 1)) (.nm 2) [2] (mC (.bool true)) (mBin oGt (mBin oCount (mB bList (vCons (mVar 1) vNil)) (mVar 2)) (mBin oAdd (mVar 0) (mC (.int 1))))) vNil)) (sRet (mC (.bool false))) sNil)
  (sRet (mCall F_is_below (aCons (mBin oIx (mVar 1) (mVar 0)) (aCons (mBin oIx (mVar 1) (mBin oSub (mBin oSub (mB bLen (vCons (mVar 1) vNil)) (mC (.int 1))) (mVar 0))) aNil)))))))
def F_is_knot_row_of : PF := runP 2 4 m_is_knot_row_of
def m_is_knot_row : MS := (sSeq (sExpr (mCall F_check_size (aCons (mVar 0) aNil)))
  (sRet (mCall F_is_knot_row_of (aCons (mVar 0) (aCons (mVar 1) aNil)))))
def F_is_knot_row : PF := runP 2 2 m_is_knot_row
def m_check_row : MS := (sSeq (sExpr (mCall F_check_size (aCons (mVar 0) aNil)))
  (sIf (mUn oNot (mCall F_is_knot_row_of (aCons (mVar 0) (aCons (mVar 1) aNil)))) sNever sNil))
def F_check_row : PF := runP 2 2 m_check_row
def m_ends_of : MS := (sRet (mTup (aCons (mBin oIx (mVar 1) (mVar 0)) (aCons (mBin oIx (mVar 1) (mBin oSub (mBin oSub (mB bLen (vCons (mVar 1) vNil)) (mC (.int 1))) (mVar 0))) aNil))))
def F_ends_of : PF := runP 2 2 m_ends_of
def m_stretch_of : MS := (sSeq (sExpr (mCall F_check_row (aCons (mVar 0) (aCons (mVar 1) aNil))))
  (sRet (mCall F_ends_of (aCons (mVar 0) (aCons (mVar 1) aNil)))))
def F_stretch_of : PF := runP 2 2 m_stretch_of
def m__law_draw : MS := (sSeq (sIf (mBin oGt (mPot 0) (mC (.int 0))) (sSeq (sDm 2 (mB bDm (vCons (mPot 0) (vCons (mVar 1) vNil))))
  (sRet (mVar 2))) sNil)
  (sSeq (sPot 1 (mBin oMod (mB bInt (vCons (mBin oAdd (mBin oMul (mPot 1) (mC (.int 40014))) (mC (.int 4421))) vNil)) (mC (.int 2147483587))))
  (sRet (mBin oMod (mB bInt (vCons (mBin oDiv (mBin oMod (mB bInt (vCons (mBin oMul (mPot 1) (mPot 1)) vNil)) (mC (.int 2147483629))) (mC (.int 19))) vNil)) (mVar 1)))))
def F__law_draw : PD := runD 2 3 m__law_draw
def fuel__law_made_1 : Env → Nat := fuelV 3
def b__law_made_1 : MS := (sPar2 2 3 false false (mVar 3) (mBin oMod (mB bInt (vCons (mVar 2) vNil)) (mVar 3)))
def m__law_made : MS := (sSeq (sPar2 2 3 false false (mB bAbs (vCons (mVar 0) vNil)) (mB bAbs (vCons (mVar 1) vNil)))
  (sSeq (sWhile fuel__law_made_1 (mBin oGt (mVar 3) (mC (.int 0))) b__law_made_1)
  (sSeq (sSet 2 (mIf (mBin oGt (mVar 1) (mC (.int 0))) (mVar 2) (mBin oSub (mC (.int 0)) (mVar 2))))
  (sRet (mTup (aCons (mBin oDiv (mVar 0) (mVar 2)) (aCons (mBin oDiv (mVar 1) (mVar 2)) aNil)))))))
def F__law_made : PF := runP 2 4 m__law_made
def m__law_plus : MS := (sRet (mCall F__law_made (aCons (mBin oAdd (mBin oMul (mBin oIx (mVar 0) (mC (.int 0))) (mBin oIx (mVar 1) (mC (.int 1)))) (mBin oMul (mBin oIx (mVar 1) (mC (.int 0))) (mBin oIx (mVar 0) (mC (.int 1))))) (aCons (mBin oMul (mBin oIx (mVar 0) (mC (.int 1))) (mBin oIx (mVar 1) (mC (.int 1)))) aNil))))
def F__law_plus : PF := runP 2 2 m__law_plus
def b__law_knots_1 : MS := (sSeq (sSet 7 (mIf (mAnd (mBin oEq (mVar 6) (mC (.int 0))) (mBin oEq (mVar 5) (mC (.int 0)))) (mBin oAdd (mVar 1) (mC (.int 1))) (mBin oAdd (mC (.int 1)) (mDraw F__law_draw (aCons (mBin oAdd (mVar 1) (mC (.int 1))) aNil)))))
  (sSeq (sSet 4 (mBin oAdd (mVar 4) (mBin oMul (mLst (aCons (mVar 3) aNil)) (mVar 7))))
  (sSet 3 (mCall F__law_plus (aCons (mVar 3) (aCons (mCall F__law_made (aCons (mBin oAdd (mC (.int 1)) (mDraw F__law_draw (aCons (mC (.int 4)) aNil))) (aCons (mBin oAdd (mC (.int 1)) (mDraw F__law_draw (aCons (mC (.int 2)) aNil))) aNil))) aNil))))))
def b__law_knots_2 : MS := (sSeq (sSet 3 (mCall F__law_plus (aCons (mVar 3) (aCons (mTup (aCons (mC (.int 1)) (aCons (mC (.int 1)) aNil))) aNil))))
  (sSet 4 (mBin oAdd (mVar 4) (mIf (mBin oLt (mB bLen (vCons (mVar 4) vNil)) (mBin oAdd (mBin oMul (mC (.int 2)) (mVar 1)) (mC (.int 2)))) (mLst (aCons (mVar 3) aNil)) (mLst aNil)))))
def k__law_knots_3 : MS := (sRet (mVar 4))
def k__law_knots_4 : MS := (sSeq (sIf (mBin oEq (mBin oIx (mVar 4) (mVar 1)) (mBin oIx (mVar 4) (mBin oSub (mBin oSub (mB bLen (vCons (mVar 4) vNil)) (mC (.int 1))) (mVar 1)))) (sRet (mBin oAdd (mBin oMul (mLst (aCons (mBin oIx (mVar 4) (mC (.int 0))) aNil)) (mBin oAdd (mVar 1) (mC (.int 1)))) (mBin oMul (mLst (aCons (mVar 3) aNil)) (mBin oAdd (mVar 1) (mC (.int 1)))))) sNil)
  k__law_knots_3)
def k__law_knots_5 : MS := (sSeq (sFor (iRange1 (mBin oAdd (mBin oMul (mC (.int 2)) (mVar 1)) (mC (.int 2)))) (.nm 6) b__law_knots_2)
  k__law_knots_4)
def k__law_knots_6 : MS := (sSeq (sSet 4 (mBin oAdd (mCut (mVar 4) oNone (oSome (mBin oSub (mBin oSub (mVar 2) (mVar 1)) (mC (.int 1))))) (mBin oMul (mLst (aCons (mVar 3) aNil)) (mIf (mBin oEq (mVar 5) (mC (.int 0))) (mBin oAdd (mVar 1) (mC (.int 1))) (mC (.int 1))))))
  k__law_knots_5)
def k__law_knots_7 : MS := (sSeq (sFor (iRange1 (mBin oAdd (mC (.int 2)) (mDraw F__law_draw (aCons (mC (.int 5)) aNil)))) (.nm 6) b__law_knots_1)
  k__law_knots_6)
def m__law_knots : MS := (sSeq (sPar3 3 4 5 false false false (mCall F__law_made (aCons (mBin oSub (mDraw F__law_draw (aCons (mC (.int 9)) aNil)) (mC (.int 5))) (aCons (mBin oAdd (mC (.int 1)) (mDraw F__law_draw (aCons (mC (.int 2)) aNil))) aNil))) (mLst aNil) (mDraw F__law_draw (aCons (mC (.int 2)) aNil)))
  k__law_knots_7)
def F__law_knots : PD := runD 3 8 m__law_knots
def m__law_below : MS := (sRet (mBin oLt (mBin oMul (mBin oIx (mVar 0) (mC (.int 0))) (mBin oIx (mVar 1) (mC (.int 1)))) (mBin oMul (mBin oIx (mVar 1) (mC (.int 0))) (mBin oIx (mVar 0) (mC (.int 1))))))
def F__law_below : PF := runP 2 2 m__law_below
def m__law_is_small : MS := (sRet (mAnd (mBin oLt (mB bAbs (vCons (mBin oIx (mVar 0) (mC (.int 0))) vNil)) (mC (.int 1000))) (mBin oLt (mBin oIx (mVar 0) (mC (.int 1))) (mC (.int 100)))))
def F__law_is_small : PF := runP 1 1 m__law_is_small
def m__law_is_fraction : MS := (sSeq (sIf (mOr (mUn oNot (mUn (oIsI .tuple) (mVar 0))) (mOr (mBin oNe (mB bLen (vCons (mVar 0) vNil)) (mC (.int 2))) (mUn oNot (mB bAll (vCons (mLc (iSeq (mVar 0)) (.nm 1) [1] (mC (.bool true)) (mAnd (mUn (oIsI .int) (mVar 1)) (mUn oNot (mUn (oIsI .bool) (mVar 1))))) vNil))))) (sRet (mC (.bool false))) sNil)
  (sRet (mAnd (mBin oGt (mBin oIx (mVar 0) (mC (.int 1))) (mC (.int 0))) (mAnd (mBin oEq (mCall F__law_made (aCons (mBin oIx (mVar 0) (mC (.int 0))) (aCons (mBin oIx (mVar 0) (mC (.int 1))) aNil))) (mVar 0)) (mCall F__law_is_small (aCons (mVar 0) aNil))))))
def F__law_is_fraction : PF := runP 1 2 m__law_is_fraction
def m__law_is_row : MS := (sSeq (sIf (mOr (mUn oNot (mUn (oIsI .listtuple) (mVar 1))) (mOr (mUn oNot (mChain oLe oLe (mBin oAdd (mBin oMul (mC (.int 2)) (mVar 0)) (mC (.int 2))) (mB bLen (vCons (mVar 1) vNil)) (mC (.int 12)))) (mUn oNot (mB bAll (vCons (mLc (iSeq (mVar 1)) (.nm 2) [2] (mC (.bool true)) (mCall F__law_is_fraction (aCons (mVar 2) aNil))) vNil))))) (sRet (mC (.bool false))) sNil)
  (sSeq (sIf (mOr (mB bAny (vCons (mLc (iZipS (mVar 1) (mCut (mVar 1) (oSome (mC (.int 1))) oNone)) (.tp [(.nm 2), (.nm 3)]) [2, 3] (mC (.bool true)) (mCall F__law_below (aCons (mVar 3) (aCons (mVar 2) aNil)))) vNil)) (mB bAny (vCons (mLc (iSeq (mVar 1)) (.nm 2) [2] (mC (.bool true)) (mBin oGt (mBin oCount (mB bList (vCons (mVar 1) vNil)) (mVar 2)) (mBin oAdd (mVar 0) (mC (.int 1))))) vNil))) (sRet (mC (.bool false))) sNil)
  (sRet (mCall F__law_below (aCons (mBin oIx (mVar 1) (mVar 0)) (aCons (mBin oIx (mVar 1) (mBin oSub (mBin oSub (mB bLen (vCons (mVar 1) vNil)) (mC (.int 1))) (mVar 0))) aNil))))))
def F__law_is_row : PF := runP 2 4 m__law_is_row
def m__law_pick : MS := (sRet (mBin oIx (mVar 1) (mDraw F__law_draw (aCons (mB bLen (vCons (mVar 1) vNil)) aNil))))
def F__law_pick : PD := runD 2 2 m__law_pick
def m__law_less : MS := (sRet (mCall F__law_made (aCons (mBin oSub (mBin oMul (mBin oIx (mVar 0) (mC (.int 0))) (mBin oIx (mVar 1) (mC (.int 1)))) (mBin oMul (mBin oIx (mVar 1) (mC (.int 0))) (mBin oIx (mVar 0) (mC (.int 1))))) (aCons (mBin oMul (mBin oIx (mVar 0) (mC (.int 1))) (mBin oIx (mVar 1) (mC (.int 1)))) aNil))))
def F__law_less : PF := runP 2 2 m__law_less
def k__law_bent_1 : MS := (sRet (mBin oAdd (mBin oAdd (mCut (mVar 1) oNone (oSome (mVar 3))) (mLst (aCons (mDraw F__law_pick (aCons (mBin oAdd (mVar 5) (mLst (aCons (mCall F__law_plus (aCons (mVar 4) (aCons (mTup (aCons (mC (.int 1)) (aCons (mC (.int 3)) aNil))) aNil))) (aCons (mCall F__law_less (aCons (mVar 4) (aCons (mTup (aCons (mC (.int 1)) (aCons (mC (.int 3)) aNil))) aNil))) (aCons (mDraw F__law_pick (aCons (mVar 1) aNil)) aNil))))) aNil)) aNil))) (mCut (mVar 1) (oSome (mBin oAdd (mVar 3) (mC (.int 1)))) oNone)))
def k__law_bent_2 : MS := (sSeq (sSet 5 (mLst (aCons (mC .none) (aCons (mC (.int 0)) (aCons (mBin oIx (mVar 4) (mC (.int 0))) (aCons (mB bList (vCons (mVar 4) vNil)) (aCons (mCut (mVar 4) oNone (oSome (mC (.int 1)))) (aCons (mBin oAdd (mVar 4) (mTup (aCons (mC (.int 1)) aNil))) (aCons (mTup (aCons (mBin oMul (mC (.int 2)) (mBin oIx (mVar 4) (mC (.int 0)))) (aCons (mBin oMul (mC (.int 2)) (mBin oIx (mVar 4) (mC (.int 1)))) aNil))) (aCons (mTup (aCons (mBin oSub (mC (.int 0)) (mBin oIx (mVar 4) (mC (.int 0)))) (aCons (mBin oSub (mC (.int 0)) (mBin oIx (mVar 4) (mC (.int 1)))) aNil))) (aCons (mTup (aCons (mBin oIx (mVar 4) (mC (.int 0))) (aCons (mC (.int 0)) aNil))) (aCons (mTup (aCons (mBin oIx (mVar 4) (mC (.int 0))) (aCons (mC (.bool true)) aNil))) (aCons (mTup (aCons (mC (.int 1000)) (aCons (mC (.int 1)) aNil))) (aCons (mTup (aCons (mC (.int 1)) (aCons (mC (.int 100)) aNil))) (aCons (mTup (aCons (mUn oNeg (mC (.int 1000))) (aCons (mC (.int 1)) aNil))) (aCons (mC (.str "1")) (aCons (mTup aNil) aNil)))))))))))))))))
  k__law_bent_1)
def k__law_bent_3 : MS := (sSeq (sSet 4 (mBin oIx (mVar 1) (mVar 3)))
  k__law_bent_2)
def k__law_bent_4 : MS := (sSeq (sIf (mBin oEq (mVar 2) (mC (.int 4))) (sRet (mBin oAdd (mVar 1) (mLst (aCons (mCall F__law_plus (aCons (mBin oIx (mVar 1) (mUn oNeg (mC (.int 1)))) (aCons (mTup (aCons (mC (.int 1)) (aCons (mC (.int 2)) aNil))) aNil))) aNil)))) sNil)
  k__law_bent_3)
def k__law_bent_5 : MS := (sSeq (sIf (mBin oEq (mVar 2) (mC (.int 3))) (sRet (mB bTuple (vCons (mVar 1) vNil))) sNil)
  k__law_bent_4)
def k__law_bent_6 : MS := (sSeq (sIf (mBin oEq (mVar 2) (mC (.int 2))) (sRet (mUn revLO (mVar 1))) sNil)
  k__law_bent_5)
def k__law_bent_7 : MS := (sSeq (sIf (mBin oEq (mVar 2) (mC (.int 1))) (sRet (mBin oAdd (mCut (mVar 1) oNone (oSome (mBin oAdd (mVar 3) (mC (.int 1))))) (mCut (mVar 1) (oSome (mVar 3)) oNone))) sNil)
  k__law_bent_6)
def k__law_bent_8 : MS := (sSeq (sIf (mBin oEq (mVar 2) (mC (.int 0))) (sRet (mBin oAdd (mCut (mVar 1) oNone (oSome (mVar 3))) (mCut (mVar 1) (oSome (mBin oAdd (mVar 3) (mC (.int 1)))) oNone))) sNil)
  k__law_bent_7)
def m__law_bent : MS := (sSeq (sPar2 2 3 false false (mDraw F__law_draw (aCons (mC (.int 9)) aNil)) (mDraw F__law_draw (aCons (mB bLen (vCons (mVar 1) vNil)) aNil)))
  k__law_bent_8)
def F__law_bent : PD := runD 2 6 m__law_bent
def b__law_right_1 : MS := (sSeq (sPar2 5 6 false false (mCall F__law_is_row (aCons (mVar 1) (aCons (mVar 4) aNil))) (mB bRepr (vCons (mVar 4) vNil)))
  (sSeq (sIf (mOr (mBin oNe (mB bRepr (vCons (mLst (aCons (mCall F_is_knot_row (aCons (mVar 1) (aCons (mVar 4) aNil))) (aCons (mCallK F_is_knot_row aNil (aCons (mVar 4) (aCons (mVar 1) aNil)) [1, 0]) aNil))) vNil)) (mB bRepr (vCons (mLst (aCons (mVar 5) (aCons (mVar 5) aNil))) vNil))) (mBin oNe (mB bRepr (vCons (mVar 4) vNil)) (mVar 6))) (sRet (mC (.bool false))) sNil)
  (sIf (mAnd (mVar 5) (mBin oNe (mB bRepr (vCons (mLst (aCons (mCall F_stretch_of (aCons (mVar 1) (aCons (mVar 4) aNil))) (aCons (mCallK F_stretch_of aNil (aCons (mVar 4) (aCons (mVar 1) aNil)) [1, 0]) aNil))) vNil)) (mB bRepr (vCons (mBin oMul (mLst (aCons (mTup (aCons (mBin oIx (mVar 4) (mVar 1)) (aCons (mBin oIx (mVar 4) (mBin oSub (mBin oSub (mB bLen (vCons (mVar 4) vNil)) (mC (.int 1))) (mVar 1))) aNil))) aNil)) (mC (.int 2))) vNil)))) (sRet (mC (.bool false))) sNil)))
def k__law_right_2 : MS := (sRet (mBin oEq (mCall F_is_knot_row (aCons (mVar 7) (aCons (mVar 2) aNil))) (mCall F__law_is_row (aCons (mVar 7) (aCons (mVar 2) aNil)))))
def k__law_right_3 : MS := (sSeq (sSet 7 (mDraw F__law_draw (aCons (mC (.int 4)) aNil)))
  k__law_right_2)
def k__law_right_4 : MS := (sSeq (sFor (iSeq (mBin oAdd (mVar 3) (mLc (iRange1 (mC (.int 14))) (.nm 9) [9] (mC (.bool true)) (mDraw F__law_bent (aCons (mVar 2) aNil))))) (.nm 4) b__law_right_1)
  k__law_right_3)
def k__law_right_5 : MS := (sSeq (sSet 3 (mBin oAdd (mVar 3) (mLst (aCons (mBin oAdd (mBin oMul (mLst (aCons (mTup (aCons (mC (.int 0)) (aCons (mC (.int 1)) aNil))) aNil)) (mBin oAdd (mVar 1) (mC (.int 1)))) (mBin oMul (mLst (aCons (mTup (aCons (mC (.int 1)) (aCons (mC (.int 1)) aNil))) aNil)) (mBin oAdd (mVar 1) (mC (.int 1))))) (aCons (mBin oAdd (mBin oMul (mLst (aCons (mTup (aCons (mC (.int 0)) (aCons (mC (.int 1)) aNil))) aNil)) (mBin oAdd (mVar 1) (mC (.int 2)))) (mBin oMul (mLst (aCons (mTup (aCons (mC (.int 1)) (aCons (mC (.int 1)) aNil))) aNil)) (mBin oAdd (mVar 1) (mC (.int 1))))) (aCons (mLc (iRange1 (mBin oAdd (mBin oMul (mC (.int 2)) (mVar 1)) (mC (.int 1)))) (.nm 8) [8] (mC (.bool true)) (mTup (aCons (mVar 8) (aCons (mC (.int 1)) aNil)))) aNil))))))
  k__law_right_4)
def k__law_right_6 : MS := (sSeq (sSet 3 (mLst (aCons (mVar 2) (aCons (mB bTuple (vCons (mVar 2) vNil)) (aCons (mLst aNil) (aCons (mTup aNil) (aCons (mC .none) (aCons (mC (.int 0)) (aCons (mC (.dict [])) (aCons (mC (.str "row")) (aCons (mLst (aCons (mTup (aCons (mC (.int 0)) (aCons (mC (.int 1)) aNil))) aNil)) (aCons (mLst (aCons (mTup (aCons (mC (.int 0)) (aCons (mC (.int 1)) aNil))) (aCons (mTup (aCons (mC (.int 1)) (aCons (mC (.int 1)) aNil))) aNil))) (aCons (mBin oMul (mLst (aCons (mTup (aCons (mC (.int 0)) (aCons (mC (.int 1)) aNil))) aNil)) (mBin oAdd (mBin oMul (mC (.int 2)) (mVar 1)) (mC (.int 2)))) (aCons (mLc (iRange1 (mC (.int 12))) (.nm 8) [8] (mC (.bool true)) (mTup (aCons (mVar 8) (aCons (mC (.int 1)) aNil)))) (aCons (mLc (iRange1 (mC (.int 13))) (.nm 8) [8] (mC (.bool true)) (mTup (aCons (mVar 8) (aCons (mC (.int 1)) aNil)))) aNil)))))))))))))))
  k__law_right_5)
def k__law_right_7 : MS := (sSeq (sSet 2 (mDraw F__law_knots (aCons (mVar 1) (aCons (mC (.int 12)) aNil))))
  k__law_right_6)
def m__law_right : MS := (sSeq (sSet 1 (mDraw F__law_draw (aCons (mC (.int 4)) aNil)))
  k__law_right_7)
def F__law_right : PD := runD 1 10 m__law_right
def m_law : MS := (sRet (mB bAll (vCons (mLc (iRange1 (mB bMax (vCons (mC (.int 1)) (vCons (mB bMin (vCons (mC (.int 3)) (vCons (mLenF 0) vNil))) vNil)))) (.nm 1) [1] (mC (.bool true)) (mRP F__law_pot 0 (aCons (mVar 1) aNil) F__law_right)) vNil)))
def F_law : List Int → R D := runF 2 m_law
end L_k46

namespace L_k46
open BP
open PySem PySem.Spec
open PyProof.Rows
open L2 (V Hp HO TE TT TA TS TG TI It Ends Cx PE PT PW PA PS PSs PG PI Inv upd upd_same upd_ne OpR UnR CallR Same VK XK Sp Room Vals RelV FnScope PK CX0 E0)
/-! ### the text -/
def top (i : Nat) : Stmt := PySem.Challenge.pw_bentpieces_k46_any_value_as_knot_row.main.body.getD i (.Pass ⟨0, 0, 0, 0⟩)
abbrev s__law_pot : Stmt := top 26
theorem sc__law_pot : FnScope ["script", "k", "cell"] ["script", "k"] (L2.defScope s__law_pot) := ⟨rfl, rfl, rfl, by decide +kernel, rfl, by decide +kernel, by decide +kernel⟩
def d__law_pot : He.DefD := ⟨("_law_pot", none), "_law_pot", "_law_pot", L2.defArgs s__law_pot, L2.defBody s__law_pot, L2.defScope s__law_pot, [], []⟩
abbrev s_is_integer : Stmt := top 7
theorem sc_is_integer : FnScope ["value"] ["value"] (L2.defScope s_is_integer) := ⟨rfl, rfl, rfl, by decide +kernel, rfl, by decide +kernel, by decide +kernel⟩
def d_is_integer : He.DefD := ⟨("is_integer", none), "is_integer", "is_integer", L2.defArgs s_is_integer, L2.defBody s_is_integer, L2.defScope s_is_integer, [], []⟩
abbrev s_is_within : Stmt := top 8
theorem sc_is_within : FnScope ["value", "least", "most"] ["value", "least", "most"] (L2.defScope s_is_within) := ⟨rfl, rfl, rfl, by decide +kernel, rfl, by decide +kernel, by decide +kernel⟩
def d_is_within : He.DefD := ⟨("is_within", none), "is_within", "is_within", L2.defArgs s_is_within, L2.defBody s_is_within, L2.defScope s_is_within, [], []⟩
abbrev s_check_size : Stmt := top 19
theorem sc_check_size : FnScope ["value"] ["value"] (L2.defScope s_check_size) := ⟨rfl, rfl, rfl, by decide +kernel, rfl, by decide +kernel, by decide +kernel⟩
def d_check_size : He.DefD := ⟨("check_size", none), "check_size", "check_size", L2.defArgs s_check_size, L2.defBody s_check_size, L2.defScope s_check_size, [], []⟩
abbrev s_is_list : Stmt := top 9
theorem sc_is_list : FnScope ["value"] ["value"] (L2.defScope s_is_list) := ⟨rfl, rfl, rfl, by decide +kernel, rfl, by decide +kernel, by decide +kernel⟩
def d_is_list : He.DefD := ⟨("is_list", none), "is_list", "is_list", L2.defArgs s_is_list, L2.defBody s_is_list, L2.defScope s_is_list, [], []⟩
abbrev s_divisor : Stmt := top 10
theorem sc_divisor : FnScope ["one", "late"] ["one", "late"] (L2.defScope s_divisor) := ⟨rfl, rfl, rfl, by decide +kernel, rfl, by decide +kernel, by decide +kernel⟩
def d_divisor : He.DefD := ⟨("divisor", none), "divisor", "divisor", L2.defArgs s_divisor, L2.defBody s_divisor, L2.defScope s_divisor, [], []⟩
abbrev s_is_fraction_of : Stmt := top 11
theorem sc_is_fraction_of : FnScope ["value"] ["value"] (L2.defScope s_is_fraction_of) := ⟨rfl, rfl, rfl, by decide +kernel, rfl, by decide +kernel, by decide +kernel⟩
def d_is_fraction_of : He.DefD := ⟨("is_fraction_of", none), "is_fraction_of", "is_fraction_of", L2.defArgs s_is_fraction_of, L2.defBody s_is_fraction_of, L2.defScope s_is_fraction_of, [], []⟩
abbrev s_is_small : Stmt := top 12
theorem sc_is_small : FnScope ["value"] ["value"] (L2.defScope s_is_small) := ⟨rfl, rfl, rfl, by decide +kernel, rfl, by decide +kernel, by decide +kernel⟩
def d_is_small : He.DefD := ⟨("is_small", none), "is_small", "is_small", L2.defArgs s_is_small, L2.defBody s_is_small, L2.defScope s_is_small, [], []⟩
abbrev s_are_small : Stmt := top 13
theorem sc_are_small : FnScope ["value", "one"] ["value"] (L2.defScope s_are_small) := ⟨rfl, rfl, rfl, by decide +kernel, rfl, by decide +kernel, by decide +kernel⟩
def d_are_small : He.DefD := ⟨("are_small", none), "are_small", "are_small", L2.defArgs s_are_small, L2.defBody s_are_small, L2.defScope s_are_small, [], []⟩
abbrev s_is_below : Stmt := top 15
theorem sc_is_below : FnScope ["one", "late"] ["one", "late"] (L2.defScope s_is_below) := ⟨rfl, rfl, rfl, by decide +kernel, rfl, by decide +kernel, by decide +kernel⟩
def d_is_below : He.DefD := ⟨("is_below", none), "is_below", "is_below", L2.defArgs s_is_below, L2.defBody s_is_below, L2.defScope s_is_below, [], []⟩
abbrev s_is_knot_row_of : Stmt := top 20
theorem sc_is_knot_row_of : FnScope ["size", "value", "one", "late"] ["size", "value"] (L2.defScope s_is_knot_row_of) := ⟨rfl, rfl, rfl, by decide +kernel, rfl, by decide +kernel, by decide +kernel⟩
def d_is_knot_row_of : He.DefD := ⟨("is_knot_row_of", none), "is_knot_row_of", "is_knot_row_of", L2.defArgs s_is_knot_row_of, L2.defBody s_is_knot_row_of, L2.defScope s_is_knot_row_of, [], []⟩
abbrev s_is_knot_row : Stmt := top 23
theorem sc_is_knot_row : FnScope ["size", "value"] ["size", "value"] (L2.defScope s_is_knot_row) := ⟨rfl, rfl, rfl, by decide +kernel, rfl, by decide +kernel, by decide +kernel⟩
def d_is_knot_row : He.DefD := ⟨("is_knot_row", none), "is_knot_row", "is_knot_row", L2.defArgs s_is_knot_row, L2.defBody s_is_knot_row, L2.defScope s_is_knot_row, [], []⟩
abbrev s_check_row : Stmt := top 21
theorem sc_check_row : FnScope ["size", "knot_row"] ["size", "knot_row"] (L2.defScope s_check_row) := ⟨rfl, rfl, rfl, by decide +kernel, rfl, by decide +kernel, by decide +kernel⟩
def d_check_row : He.DefD := ⟨("check_row", none), "check_row", "check_row", L2.defArgs s_check_row, L2.defBody s_check_row, L2.defScope s_check_row, [], []⟩
abbrev s_ends_of : Stmt := top 22
theorem sc_ends_of : FnScope ["size", "knot_row"] ["size", "knot_row"] (L2.defScope s_ends_of) := ⟨rfl, rfl, rfl, by decide +kernel, rfl, by decide +kernel, by decide +kernel⟩
def d_ends_of : He.DefD := ⟨("ends_of", none), "ends_of", "ends_of", L2.defArgs s_ends_of, L2.defBody s_ends_of, L2.defScope s_ends_of, [], []⟩
abbrev s_stretch_of : Stmt := top 24
theorem sc_stretch_of : FnScope ["size", "knot_row"] ["size", "knot_row"] (L2.defScope s_stretch_of) := ⟨rfl, rfl, rfl, by decide +kernel, rfl, by decide +kernel, by decide +kernel⟩
def d_stretch_of : He.DefD := ⟨("stretch_of", none), "stretch_of", "stretch_of", L2.defArgs s_stretch_of, L2.defBody s_stretch_of, L2.defScope s_stretch_of, [], []⟩
abbrev s__law_draw : Stmt := top 27
theorem sc__law_draw : FnScope ["pot", "many", "digit"] ["pot", "many"] (L2.defScope s__law_draw) := ⟨rfl, rfl, rfl, by decide +kernel, rfl, by decide +kernel, by decide +kernel⟩
def d__law_draw : He.DefD := ⟨("_law_draw", none), "_law_draw", "_law_draw", L2.defArgs s__law_draw, L2.defBody s__law_draw, L2.defScope s__law_draw, [], []⟩
abbrev s__law_made : Stmt := top 29
theorem sc__law_made : FnScope ["top", "bottom", "one", "other"] ["top", "bottom"] (L2.defScope s__law_made) := ⟨rfl, rfl, rfl, by decide +kernel, rfl, by decide +kernel, by decide +kernel⟩
def d__law_made : He.DefD := ⟨("_law_made", none), "_law_made", "_law_made", L2.defArgs s__law_made, L2.defBody s__law_made, L2.defScope s__law_made, [], []⟩
abbrev s__law_plus : Stmt := top 30
theorem sc__law_plus : FnScope ["one", "other"] ["one", "other"] (L2.defScope s__law_plus) := ⟨rfl, rfl, rfl, by decide +kernel, rfl, by decide +kernel, by decide +kernel⟩
def d__law_plus : He.DefD := ⟨("_law_plus", none), "_law_plus", "_law_plus", L2.defArgs s__law_plus, L2.defBody s__law_plus, L2.defScope s__law_plus, [], []⟩
abbrev s__law_knots : Stmt := top 36
theorem sc__law_knots : FnScope ["pot", "size", "most", "here", "found", "ends", "turn", "many"] ["pot", "size", "most"] (L2.defScope s__law_knots) := ⟨rfl, rfl, rfl, by decide +kernel, rfl, by decide +kernel, by decide +kernel⟩
def d__law_knots : He.DefD := ⟨("_law_knots", none), "_law_knots", "_law_knots", L2.defArgs s__law_knots, L2.defBody s__law_knots, L2.defScope s__law_knots, [], []⟩
abbrev s__law_below : Stmt := top 34
theorem sc__law_below : FnScope ["one", "other"] ["one", "other"] (L2.defScope s__law_below) := ⟨rfl, rfl, rfl, by decide +kernel, rfl, by decide +kernel, by decide +kernel⟩
def d__law_below : He.DefD := ⟨("_law_below", none), "_law_below", "_law_below", L2.defArgs s__law_below, L2.defBody s__law_below, L2.defScope s__law_below, [], []⟩
abbrev s__law_is_small : Stmt := top 35
theorem sc__law_is_small : FnScope ["one"] ["one"] (L2.defScope s__law_is_small) := ⟨rfl, rfl, rfl, by decide +kernel, rfl, by decide +kernel, by decide +kernel⟩
def d__law_is_small : He.DefD := ⟨("_law_is_small", none), "_law_is_small", "_law_is_small", L2.defArgs s__law_is_small, L2.defBody s__law_is_small, L2.defScope s__law_is_small, [], []⟩
abbrev s__law_is_fraction : Stmt := top 43
theorem sc__law_is_fraction : FnScope ["value", "one"] ["value"] (L2.defScope s__law_is_fraction) := ⟨rfl, rfl, rfl, by decide +kernel, rfl, by decide +kernel, by decide +kernel⟩
def d__law_is_fraction : He.DefD := ⟨("_law_is_fraction", none), "_law_is_fraction", "_law_is_fraction", L2.defArgs s__law_is_fraction, L2.defBody s__law_is_fraction, L2.defScope s__law_is_fraction, [], []⟩
abbrev s__law_is_row : Stmt := top 44
theorem sc__law_is_row : FnScope ["size", "value", "one", "late"] ["size", "value"] (L2.defScope s__law_is_row) := ⟨rfl, rfl, rfl, by decide +kernel, rfl, by decide +kernel, by decide +kernel⟩
def d__law_is_row : He.DefD := ⟨("_law_is_row", none), "_law_is_row", "_law_is_row", L2.defArgs s__law_is_row, L2.defBody s__law_is_row, L2.defScope s__law_is_row, [], []⟩
abbrev s__law_pick : Stmt := top 28
theorem sc__law_pick : FnScope ["pot", "some"] ["pot", "some"] (L2.defScope s__law_pick) := ⟨rfl, rfl, rfl, by decide +kernel, rfl, by decide +kernel, by decide +kernel⟩
def d__law_pick : He.DefD := ⟨("_law_pick", none), "_law_pick", "_law_pick", L2.defArgs s__law_pick, L2.defBody s__law_pick, L2.defScope s__law_pick, [], []⟩
abbrev s__law_less : Stmt := top 31
theorem sc__law_less : FnScope ["one", "other"] ["one", "other"] (L2.defScope s__law_less) := ⟨rfl, rfl, rfl, by decide +kernel, rfl, by decide +kernel, by decide +kernel⟩
def d__law_less : He.DefD := ⟨("_law_less", none), "_law_less", "_law_less", L2.defArgs s__law_less, L2.defBody s__law_less, L2.defScope s__law_less, [], []⟩
abbrev s__law_bent : Stmt := top 45
theorem sc__law_bent : FnScope ["pot", "value", "way", "at", "one", "odds"] ["pot", "value"] (L2.defScope s__law_bent) := ⟨rfl, rfl, rfl, by decide +kernel, rfl, by decide +kernel, by decide +kernel⟩
def d__law_bent : He.DefD := ⟨("_law_bent", none), "_law_bent", "_law_bent", L2.defArgs s__law_bent, L2.defBody s__law_bent, L2.defScope s__law_bent, [], []⟩
abbrev s__law_right : Stmt := top 46
theorem sc__law_right : FnScope ["pot", "size", "row", "values", "value", "due", "shown", "other", "at", "turn"] ["pot"] (L2.defScope s__law_right) := ⟨rfl, rfl, rfl, by decide +kernel, rfl, by decide +kernel, by decide +kernel⟩
def d__law_right : He.DefD := ⟨("_law_right", none), "_law_right", "_law_right", L2.defArgs s__law_right, L2.defBody s__law_right, L2.defScope s__law_right, [], []⟩
abbrev s_law : Stmt := top 47
theorem sc_law : FnScope ["script", "k"] ["script"] (L2.defScope s_law) := ⟨rfl, rfl, rfl, by decide +kernel, rfl, by decide +kernel, by decide +kernel⟩
def d_law : He.DefD := ⟨("law", none), "law", "law", L2.defArgs s_law, L2.defBody s_law, L2.defScope s_law, [], []⟩
def fn : List He.DefD := [d__law_pot, d_is_integer, d_is_within, d_check_size, d_is_list, d_divisor, d_is_fraction_of, d_is_small, d_are_small, d_is_below, d_is_knot_row_of, d_is_knot_row, d_check_row, d_ends_of, d_stretch_of, d__law_draw, d__law_made, d__law_plus, d__law_knots, d__law_below, d__law_is_small, d__law_is_fraction, d__law_is_row, d__law_pick, d__law_less, d__law_bent, d__law_right, d_law]
def fa : List He.Fa := [.glo "_law_pot", .glo "is_integer", .glo "is_within", .glo "check_size", .glo "is_list", .glo "divisor", .glo "is_fraction_of", .glo "is_small", .glo "are_small", .glo "is_below", .glo "is_knot_row_of", .glo "is_knot_row", .glo "check_row", .glo "ends_of", .glo "stretch_of", .glo "_law_draw", .glo "_law_made", .glo "_law_plus", .glo "_law_knots", .glo "_law_below", .glo "_law_is_small", .glo "_law_is_fraction", .glo "_law_is_row", .glo "_law_pick", .glo "_law_less", .glo "_law_bent", .glo "_law_right", .glo "law", .free "abs", .free "all", .free "any", .free "bool", .free "divmod", .free "int", .free "isinstance", .free "len", .free "list", .free "max", .free "min", .free "range", .free "repr", .free "tuple", .free "zip"]
abbrev ifr_abs : Nat := 28
abbrev ifr_all : Nat := 29
abbrev ifr_any : Nat := 30
abbrev ifr_bool : Nat := 31
abbrev ifr_divmod : Nat := 32
abbrev ifr_int : Nat := 33
abbrev ifr_isinstance : Nat := 34
abbrev ifr_len : Nat := 35
abbrev ifr_list : Nat := 36
abbrev ifr_max : Nat := 37
abbrev ifr_min : Nat := 38
abbrev ifr_range : Nat := 39
abbrev ifr_repr : Nat := 40
abbrev ifr_tuple : Nat := 41
abbrev ifr_zip : Nat := 42
def tu : List (Str × D) := [("MOST_TOP", (.int 999)), ("MOST_BOTTOM", (.int 99)), ("MOST_SIZE", (.int 3)), ("MOST_ROW", (.int 12))]
section
variable {P : Program} {w : World} {K : W.Frag} {mg : Str → Option Value} {base : Heap}
theorem T__law_pot (c : Facts fa fn tu K mg base) : POn P w K mg base 1 "_law_pot" ["script", "k"] s__law_pot F__law_pot := by
  obtain ⟨fd, F⟩ := c.says.1.def_ 0 (d := d__law_pot) rfl
  exact fnO (y := "script") (N := ["k", "cell"]) (c.glo 0) F (F.bindsN fun _ _ _ _ _ _ us hl => match us, hl with | [_, _], _ => rfl) sc__law_pot rfl (by decide) fun cdv A outer s0 H E hr hg => (so_cons (s_set 2 sc__law_pot.nd rfl (by first | exact .inl rfl | exact .inr rfl) (q_bin om_add (q_bin om_mul q_int (q_var 1)) q_int)) (so_cons (s_if (t_cmp om_lt (q_var 1) (q_lenF 0 (L2.pv 0) rfl (c.free ifr_len) (by decide +kernel)) (L2.nomark _)) (s_one (s_set 2 sc__law_pot.nd rfl (by first | exact .inl rfl | exact .inr rfl) (q_B cm_abs rfl (c.free ifr_abs) (by decide +kernel) (v_cons (q_ixF 0 (L2.pv 0) (q_var 1)) v_nil)))) s_nil) (so_ret (q_lst (a_cons (q_B (cm_max rfl) rfl (c.free ifr_max) (by decide +kernel) (v_cons q_int (v_cons (q_bin om_sub (q_var 2) (q_bin om_pow q_int q_int)) v_nil))) (a_cons (q_bin om_add (q_bin om_mod (q_T cm_int rfl (c.free ifr_int) (by decide +kernel) (v_cons (q_bin om_add (q_bin om_add (q_bin om_mul (q_bin om_mod (q_T cm_int rfl (c.free ifr_int) (by decide +kernel) (v_cons (q_var 2) v_nil)) q_int) q_int) (q_bin om_mul q_int (q_var 1))) q_int) v_nil)) q_int) q_int) a_nil))))))
theorem T_is_integer (c : Facts fa fn tu K mg base) : PFn P w K mg base 1 "is_integer" ["value"] s_is_integer F_is_integer := by
  obtain ⟨fd, F⟩ := c.says.1.def_ 1 (d := d_is_integer) rfl
  exact fnP (N := ["value"]) (c.glo 1) F (F.bindsN fun _ _ _ _ _ _ us hl => match us, hl with | [_], _ => rfl) sc_is_integer rfl (by decide) fun cdv A outer s0 H E hr hg => (s_one (s_ret (q_and (q_isi1 hT_int (q_var 0) rfl (c.free ifr_isinstance) rfl (c.free ifr_int) (by decide +kernel) (by decide +kernel)) (q_and1 (q_not (q_isi1 hT_bool (q_var 0) rfl (c.free ifr_isinstance) rfl (c.free ifr_bool) (by decide +kernel) (by decide +kernel)))))))
theorem T_is_within (c : Facts fa fn tu K mg base) : PFn P w K mg base 2 "is_within" ["value", "least", "most"] s_is_within F_is_within := by
  obtain ⟨fd, F⟩ := c.says.1.def_ 2 (d := d_is_within) rfl
  exact fnP (N := ["value", "least", "most"]) (c.glo 2) F (F.bindsN fun _ _ _ _ _ _ us hl => match us, hl with | [_, _, _], _ => rfl) sc_is_within rfl (by decide) fun cdv A outer s0 H E hr hg => (s_one (s_ret (q_and (q_call (T_is_integer c) hr hg rfl (a_cons (q_var 0) a_nil)) (q_and1 (q_chain om_le om_le (q_var 1) (q_var 0) (q_var 2))))))
theorem T_check_size (c : Facts fa fn tu K mg base) : PFn P w K mg base 3 "check_size" ["value"] s_check_size F_check_size := by
  obtain ⟨fd, F⟩ := c.says.1.def_ 3 (d := d_check_size) rfl
  exact fnP (N := ["value"]) (c.glo 3) F (F.bindsN fun _ _ _ _ _ _ us hl => match us, hl with | [_], _ => rfl) sc_check_size rfl (by decide) fun cdv A outer s0 H E hr hg => (s_one (s_if (t_not (t_val (q_call (T_is_within c) hr hg rfl (a_cons (q_var 0) (a_cons q_int (a_cons (q_kst (c.kst 2) rfl) a_nil)))))) (s_one s_never) s_nil))
theorem T_is_list (c : Facts fa fn tu K mg base) : PFn P w K mg base 1 "is_list" ["value"] s_is_list F_is_list := by
  obtain ⟨fd, F⟩ := c.says.1.def_ 4 (d := d_is_list) rfl
  exact fnP (N := ["value"]) (c.glo 4) F (F.bindsN fun _ _ _ _ _ _ us hl => match us, hl with | [_], _ => rfl) sc_is_list rfl (by decide) fun cdv A outer s0 H E hr hg => (s_one (s_ret (q_isi2 hT_list hT_tuple (by intro d; cases d <;> rfl) (q_var 0) rfl (c.free ifr_isinstance) (L2.pe_bltn rfl (c.free ifr_list) (by decide +kernel) rfl (by decide) (by decide)) (L2.pe_bltn rfl (c.free ifr_tuple) (by decide +kernel) rfl (by decide) (by decide)) (by decide +kernel))))
theorem T_divisor (c : Facts fa fn tu K mg base) : PFn P w K mg base 1 "divisor" ["one", "late"] s_divisor F_divisor := by
  obtain ⟨fd, F⟩ := c.says.1.def_ 5 (d := d_divisor) rfl
  exact fnP (N := ["one", "late"]) (c.glo 5) F (F.bindsN fun _ _ _ _ _ _ us hl => match us, hl with | [_, _], _ => rfl) sc_divisor rfl (by decide) fun cdv A outer s0 H E hr hg => (s_cons (s_while fuel_divisor_1 rfl (t_cmp om_gt (q_var 1) q_int (L2.nomark _)) (s_one (s_par2 0 1 false false rfl sc_divisor.nd rfl rfl (by decide) rfl rfl (q_var 1) (q_bin om_mod (q_T cm_int rfl (c.free ifr_int) (by decide +kernel) (v_cons (q_var 0) v_nil)) (q_var 1)) rfl)))
  (s_one (s_ret (q_var 0))))
theorem T_is_fraction_of (c : Facts fa fn tu K mg base) : PFn P w K mg base 2 "is_fraction_of" ["value"] s_is_fraction_of F_is_fraction_of := by
  obtain ⟨fd, F⟩ := c.says.1.def_ 6 (d := d_is_fraction_of) rfl
  exact fnP (N := ["value"]) (c.glo 6) F (F.bindsN fun _ _ _ _ _ _ us hl => match us, hl with | [_], _ => rfl) sc_is_fraction_of rfl (by decide) fun cdv A outer s0 H E hr hg => (s_cons (s_if (L2.PW.pt (w_or (t_not (t_val (q_isi1 hT_tuple (q_var 0) rfl (c.free ifr_isinstance) rfl (c.free ifr_tuple) (by decide +kernel) (by decide +kernel)))) (w_or (t_cmp (om_ne (u64 hr)) (q_B cm_len rfl (c.free ifr_len) (by decide +kernel) (v_cons (q_var 0) v_nil)) q_int (L2.nomark _)) (w_or (t_not (t_val (q_call (T_is_integer c) hr hg rfl (a_cons (q_ix (q_var 0) q_int) a_nil)))) (w_or1 (t_not (t_val (q_call (T_is_integer c) hr hg rfl (a_cons (q_ix (q_var 0) q_int) a_nil))))))))) (s_one (s_ret q_bl)) s_nil)
  (s_one (s_ret (q_and (q_cmp om_ge (q_ix (q_var 0) q_int) q_int (L2.nomark _)) (q_and1 (q_cmp (om_eq (u64 hr)) (q_call (T_divisor c) hr hg rfl (a_cons (q_B cm_abs rfl (c.free ifr_abs) (by decide +kernel) (v_cons (q_ix (q_var 0) q_int) v_nil)) (a_cons (q_ix (q_var 0) q_int) a_nil))) q_int (L2.nomark _)))))))
theorem T_is_small (c : Facts fa fn tu K mg base) : PFn P w K mg base 3 "is_small" ["value"] s_is_small F_is_small := by
  obtain ⟨fd, F⟩ := c.says.1.def_ 7 (d := d_is_small) rfl
  exact fnP (N := ["value"]) (c.glo 7) F (F.bindsN fun _ _ _ _ _ _ us hl => match us, hl with | [_], _ => rfl) sc_is_small rfl (by decide) fun cdv A outer s0 H E hr hg => (s_one (s_ret (q_and (q_call (T_is_fraction_of c) hr hg rfl (a_cons (q_var 0) a_nil)) (q_and (q_cmp om_le (q_B cm_abs rfl (c.free ifr_abs) (by decide +kernel) (v_cons (q_ix (q_var 0) q_int) v_nil)) (q_kst (c.kst 0) rfl) (L2.nomark _)) (q_and1 (q_cmp om_le (q_ix (q_var 0) q_int) (q_kst (c.kst 1) rfl) (L2.nomark _)))))))
theorem T_are_small (c : Facts fa fn tu K mg base) : PFn P w K mg base 4 "are_small" ["value"] s_are_small F_are_small := by
  obtain ⟨fd, F⟩ := c.says.1.def_ 8 (d := d_are_small) rfl
  exact fnP (N := ["value", "one"]) (c.glo 8) F (F.bindsN fun _ _ _ _ _ _ us hl => match us, hl with | [_], _ => rfl) sc_are_small rfl (by decide) fun cdv A outer s0 H E hr hg => (s_one (s_ret (q_and (q_call (T_is_list c) hr hg rfl (a_cons (q_var 0) a_nil)) (q_and1 (q_B (cm_all rfl) rfl (c.free ifr_all) (by decide +kernel) (v_cons (q_lc (own := [("one", 1)]) rfl sc_are_small.nd (by decide +kernel) (i_seq (q_var 0)) (L2.blkOk_by (by kernel_rfl)) (fun _ _ _ _ _ => (g_nm 1 sc_are_small.nd rfl (by first | exact .inl rfl | exact .inr rfl))) (fun _ _ _ _ _ => ts_nil) (fun _ _ _ _ _ => (q_call (T_is_small c) hr hg rfl (a_cons (q_var 1) a_nil)))) v_nil))))))
theorem T_is_below (c : Facts fa fn tu K mg base) : PFn P w K mg base 1 "is_below" ["one", "late"] s_is_below F_is_below := by
  obtain ⟨fd, F⟩ := c.says.1.def_ 9 (d := d_is_below) rfl
  exact fnP (N := ["one", "late"]) (c.glo 9) F (F.bindsN fun _ _ _ _ _ _ us hl => match us, hl with | [_, _], _ => rfl) sc_is_below rfl (by decide) fun cdv A outer s0 H E hr hg => (s_one (s_ret (q_cmp om_lt (q_bin om_mul (q_ix (q_var 0) q_int) (q_ix (q_var 1) q_int)) (q_bin om_mul (q_ix (q_var 1) q_int) (q_ix (q_var 0) q_int)) (L2.nomark _))))
theorem T_is_knot_row_of (c : Facts fa fn tu K mg base) : PFn P w K mg base 5 "is_knot_row_of" ["size", "value"] s_is_knot_row_of F_is_knot_row_of := by
  obtain ⟨fd, F⟩ := c.says.1.def_ 10 (d := d_is_knot_row_of) rfl
  exact fnP (N := ["size", "value", "one", "late"]) (c.glo 10) F (F.bindsN fun _ _ _ _ _ _ us hl => match us, hl with | [_, _], _ => rfl) sc_is_knot_row_of rfl (by decide) fun cdv A outer s0 H E hr hg => (s_cons (s_if (L2.PW.pt (w_or (t_not (t_val (q_call (T_are_small c) hr hg rfl (a_cons (q_var 1) a_nil)))) (w_or1 (t_not (t_chain om_le om_le (q_bin om_add (q_bin om_mul q_int (q_var 0)) q_int) (q_B cm_len rfl (c.free ifr_len) (by decide +kernel) (v_cons (q_var 1) v_nil)) (q_kst (c.kst 3) rfl)))))) (s_one (s_ret q_bl)) s_nil)
  (s_cons (s_if (t_val (q_B (cm_any rfl) rfl (c.free ifr_any) (by decide +kernel) (v_cons (q_lc (own := [("one", 2), ("late", 3)]) rfl sc_is_knot_row_of.nd (by decide +kernel) (i_zip rfl (c.free ifr_zip) (q_var 1) (q_cut (q_var 1) (o_some q_int) o_none)) (L2.blkOk_by (by kernel_rfl)) (fun _ _ _ _ _ => (g_tp rfl (gs_cons (g_nm 2 sc_is_knot_row_of.nd rfl (by first | exact .inl rfl | exact .inr rfl)) (gs_cons (g_nm 3 sc_is_knot_row_of.nd rfl (by first | exact .inl rfl | exact .inr rfl)) gs_nil)))) (fun _ _ _ _ _ => ts_nil) (fun _ _ _ _ _ => (q_call (T_is_below c) hr hg rfl (a_cons (q_var 3) (a_cons (q_var 2) a_nil))))) v_nil))) (s_one (s_ret q_bl)) s_nil)
  (s_cons (s_if (t_val (q_B (cm_any rfl) rfl (c.free ifr_any) (by decide +kernel) (v_cons (q_lc (own := [("one", 2)]) rfl sc_is_knot_row_of.nd (by decide +kernel) (i_seq (q_var 1)) (L2.blkOk_by (by kernel_rfl)) (fun _ _ _ _ _ => (g_nm 2 sc_is_knot_row_of.nd rfl (by first | exact .inl rfl | exact .inr rfl))) (fun _ _ _ _ _ => ts_nil) (fun _ _ _ _ _ => (q_cmp om_gt (q_count (u65 hr) (q_T cm_list rfl (c.free ifr_list) (by decide +kernel) (v_cons (q_var 1) v_nil)) (q_var 2)) (q_bin om_add (q_var 0) q_int) (L2.nomark _)))) v_nil))) (s_one (s_ret q_bl)) s_nil)
  (s_one (s_ret (q_call (T_is_below c) hr hg rfl (a_cons (q_ix (q_var 1) (q_var 0)) (a_cons (q_ix (q_var 1) (q_bin om_sub (q_bin om_sub (q_B cm_len rfl (c.free ifr_len) (by decide +kernel) (v_cons (q_var 1) v_nil)) q_int) (q_var 0))) a_nil))))))))
theorem T_is_knot_row (c : Facts fa fn tu K mg base) : PFn P w K mg base 6 "is_knot_row" ["size", "value"] s_is_knot_row F_is_knot_row := by
  obtain ⟨fd, F⟩ := c.says.1.def_ 11 (d := d_is_knot_row) rfl
  exact fnP (N := ["size", "value"]) (c.glo 11) F (F.bindsN fun _ _ _ _ _ _ us hl => match us, hl with | [_, _], _ => rfl) sc_is_knot_row rfl (by decide) fun cdv A outer s0 H E hr hg => (s_cons (s_expr (q_call (T_check_size c) hr hg rfl (a_cons (q_var 0) a_nil)))
  (s_one (s_ret (q_call (T_is_knot_row_of c) hr hg rfl (a_cons (q_var 0) (a_cons (q_var 1) a_nil))))))
theorem T_check_row (c : Facts fa fn tu K mg base) : PFn P w K mg base 6 "check_row" ["size", "knot_row"] s_check_row F_check_row := by
  obtain ⟨fd, F⟩ := c.says.1.def_ 12 (d := d_check_row) rfl
  exact fnP (N := ["size", "knot_row"]) (c.glo 12) F (F.bindsN fun _ _ _ _ _ _ us hl => match us, hl with | [_, _], _ => rfl) sc_check_row rfl (by decide) fun cdv A outer s0 H E hr hg => (s_cons (s_expr (q_call (T_check_size c) hr hg rfl (a_cons (q_var 0) a_nil)))
  (s_one (s_if (t_not (t_val (q_call (T_is_knot_row_of c) hr hg rfl (a_cons (q_var 0) (a_cons (q_var 1) a_nil))))) (s_one s_never) s_nil)))
theorem T_ends_of (c : Facts fa fn tu K mg base) : PFn P w K mg base 1 "ends_of" ["size", "knot_row"] s_ends_of F_ends_of := by
  obtain ⟨fd, F⟩ := c.says.1.def_ 13 (d := d_ends_of) rfl
  exact fnP (N := ["size", "knot_row"]) (c.glo 13) F (F.bindsN fun _ _ _ _ _ _ us hl => match us, hl with | [_, _], _ => rfl) sc_ends_of rfl (by decide) fun cdv A outer s0 H E hr hg => (s_one (s_ret (q_tup (a_cons (q_ix (q_var 1) (q_var 0)) (a_cons (q_ix (q_var 1) (q_bin om_sub (q_bin om_sub (q_B cm_len rfl (c.free ifr_len) (by decide +kernel) (v_cons (q_var 1) v_nil)) q_int) (q_var 0))) a_nil)))))
theorem T_stretch_of (c : Facts fa fn tu K mg base) : PFn P w K mg base 7 "stretch_of" ["size", "knot_row"] s_stretch_of F_stretch_of := by
  obtain ⟨fd, F⟩ := c.says.1.def_ 14 (d := d_stretch_of) rfl
  exact fnP (N := ["size", "knot_row"]) (c.glo 14) F (F.bindsN fun _ _ _ _ _ _ us hl => match us, hl with | [_, _], _ => rfl) sc_stretch_of rfl (by decide) fun cdv A outer s0 H E hr hg => (s_cons (s_expr (q_call (T_check_row c) hr hg rfl (a_cons (q_var 0) (a_cons (q_var 1) a_nil))))
  (s_one (s_ret (q_call (T_ends_of c) hr hg rfl (a_cons (q_var 0) (a_cons (q_var 1) a_nil))))))
theorem T__law_draw (c : Facts fa fn tu K mg base) : PDn P w K mg base 1 "_law_draw" ["pot", "many"] s__law_draw F__law_draw := by
  obtain ⟨fd, F⟩ := c.says.1.def_ 15 (d := d__law_draw) rfl
  exact fnD (y := "pot") (N := ["many", "digit"]) (c.glo 15) F (F.bindsN fun _ _ _ _ _ _ us hl => match us, hl with | [_, _], _ => rfl) sc__law_draw rfl (by decide) fun cdv A outer s0 H E hr hg => (s_cons (s_if (t_cmp om_gt (q_pot 0 (L2.pv 0)) q_int (L2.nomark _)) (s_cons (s_potdm 2 rfl sc__law_draw.nd rfl (by first | exact .inl rfl | exact .inr rfl) (L2.pv 0) (q_B cm_divmod rfl (c.free ifr_divmod) (by decide +kernel) (v_cons (q_pot 0 (L2.pv 0)) (v_cons (q_var 1) v_nil))))
  (s_one (s_ret (q_var 2)))) s_nil)
  (s_cons (s_potset 1 (L2.pv 0) (q_bin om_mod (q_T cm_int rfl (c.free ifr_int) (by decide +kernel) (v_cons (q_bin om_add (q_bin om_mul (q_pot 1 (L2.pv 0)) q_int) q_int) v_nil)) q_int))
  (s_one (s_ret (q_bin om_mod (q_T cm_int rfl (c.free ifr_int) (by decide +kernel) (v_cons (q_bin om_div (q_bin om_mod (q_T cm_int rfl (c.free ifr_int) (by decide +kernel) (v_cons (q_bin om_mul (q_pot 1 (L2.pv 0)) (q_pot 1 (L2.pv 0))) v_nil)) q_int) q_int) v_nil)) (q_var 1))))))
theorem T__law_made (c : Facts fa fn tu K mg base) : PFn P w K mg base 1 "_law_made" ["top", "bottom"] s__law_made F__law_made := by
  obtain ⟨fd, F⟩ := c.says.1.def_ 16 (d := d__law_made) rfl
  exact fnP (N := ["top", "bottom", "one", "other"]) (c.glo 16) F (F.bindsN fun _ _ _ _ _ _ us hl => match us, hl with | [_, _], _ => rfl) sc__law_made rfl (by decide) fun cdv A outer s0 H E hr hg => (s_cons (s_par2 2 3 false false rfl sc__law_made.nd rfl rfl (by decide) rfl rfl (q_B cm_abs rfl (c.free ifr_abs) (by decide +kernel) (v_cons (q_var 0) v_nil)) (q_B cm_abs rfl (c.free ifr_abs) (by decide +kernel) (v_cons (q_var 1) v_nil)) rfl)
  (s_cons (s_while fuel__law_made_1 rfl (t_cmp om_gt (q_var 3) q_int (L2.nomark _)) (s_one (s_par2 2 3 false false rfl sc__law_made.nd rfl rfl (by decide) rfl rfl (q_var 3) (q_bin om_mod (q_T cm_int rfl (c.free ifr_int) (by decide +kernel) (v_cons (q_var 2) v_nil)) (q_var 3)) rfl)))
  (s_cons (s_set 2 sc__law_made.nd rfl (by first | exact .inl rfl | exact .inr rfl) (q_if (t_cmp om_gt (q_var 1) q_int (L2.nomark _)) (q_var 2) (q_bin om_sub q_int (q_var 2))))
  (s_one (s_ret (q_tup (a_cons (q_bin om_div (q_var 0) (q_var 2)) (a_cons (q_bin om_div (q_var 1) (q_var 2)) a_nil))))))))
theorem T__law_plus (c : Facts fa fn tu K mg base) : PFn P w K mg base 2 "_law_plus" ["one", "other"] s__law_plus F__law_plus := by
  obtain ⟨fd, F⟩ := c.says.1.def_ 17 (d := d__law_plus) rfl
  exact fnP (N := ["one", "other"]) (c.glo 17) F (F.bindsN fun _ _ _ _ _ _ us hl => match us, hl with | [_, _], _ => rfl) sc__law_plus rfl (by decide) fun cdv A outer s0 H E hr hg => (s_one (s_ret (q_call (T__law_made c) hr hg rfl (a_cons (q_bin om_add (q_bin om_mul (q_ix (q_var 0) q_int) (q_ix (q_var 1) q_int)) (q_bin om_mul (q_ix (q_var 1) q_int) (q_ix (q_var 0) q_int))) (a_cons (q_bin om_mul (q_ix (q_var 0) q_int) (q_ix (q_var 1) q_int)) a_nil)))))
theorem T__law_knots (c : Facts fa fn tu K mg base) : PDn P w K mg base 3 "_law_knots" ["pot", "size", "most"] s__law_knots F__law_knots := by
  obtain ⟨fd, F⟩ := c.says.1.def_ 18 (d := d__law_knots) rfl
  exact fnD (y := "pot") (N := ["size", "most", "here", "found", "ends", "turn", "many"]) (c.glo 18) F (F.bindsN fun _ _ _ _ _ _ us hl => match us, hl with | [_, _, _], _ => rfl) sc__law_knots rfl (by decide) fun cdv A outer s0 H E hr hg => (s_cons (s_par3 3 4 5 false false false rfl sc__law_knots.nd rfl rfl rfl (by decide) (by decide) (by decide) rfl rfl rfl (q_call (T__law_made c) hr hg rfl (a_cons (q_bin om_sub (q_draw (T__law_draw c) hr hg rfl (L2.pv 0) (a_cons q_int a_nil)) q_int) (a_cons (q_bin om_add q_int (q_draw (T__law_draw c) hr hg rfl (L2.pv 0) (a_cons q_int a_nil))) a_nil))) (q_lst a_nil) (q_draw (T__law_draw c) hr hg rfl (L2.pv 0) (a_cons q_int a_nil)) rfl)
  (s_cons (s_for rfl rfl (i_range1 rfl (c.free ifr_range) (q_bin om_add q_int (q_draw (T__law_draw c) hr hg rfl (L2.pv 0) (a_cons q_int a_nil)))) (g_nm 6 sc__law_knots.nd rfl (by first | exact .inl rfl | exact .inr rfl)) (s_cons (s_set 7 sc__law_knots.nd rfl (by first | exact .inl rfl | exact .inr rfl) (q_if (L2.PW.pt (w_and (t_cmp (om_eq (u64 hr)) (q_var 6) q_int (L2.nomark _)) (w_and1 (t_cmp (om_eq (u64 hr)) (q_var 5) q_int (L2.nomark _))))) (q_bin om_add (q_var 1) q_int) (q_bin om_add q_int (q_draw (T__law_draw c) hr hg rfl (L2.pv 0) (a_cons (q_bin om_add (q_var 1) q_int) a_nil)))))
  (s_cons (s_set 4 sc__law_knots.nd rfl (by first | exact .inl rfl | exact .inr rfl) (q_bin om_add (q_var 4) (q_bin om_mul (q_lst (a_cons (q_var 3) a_nil)) (q_var 7))))
  (s_one (s_set 3 sc__law_knots.nd rfl (by first | exact .inl rfl | exact .inr rfl) (q_call (T__law_plus c) hr hg rfl (a_cons (q_var 3) (a_cons (q_call (T__law_made c) hr hg rfl (a_cons (q_bin om_add q_int (q_draw (T__law_draw c) hr hg rfl (L2.pv 0) (a_cons q_int a_nil))) (a_cons (q_bin om_add q_int (q_draw (T__law_draw c) hr hg rfl (L2.pv 0) (a_cons q_int a_nil))) a_nil))) a_nil))))))))
  (s_cons (s_set 4 sc__law_knots.nd rfl (by first | exact .inl rfl | exact .inr rfl) (q_bin om_add (q_cut (q_var 4) o_none (o_some (q_bin om_sub (q_bin om_sub (q_var 2) (q_var 1)) q_int))) (q_bin om_mul (q_lst (a_cons (q_var 3) a_nil)) (q_if (t_cmp (om_eq (u64 hr)) (q_var 5) q_int (L2.nomark _)) (q_bin om_add (q_var 1) q_int) q_int))))
  (s_cons (s_for rfl rfl (i_range1 rfl (c.free ifr_range) (q_bin om_add (q_bin om_mul q_int (q_var 1)) q_int)) (g_nm 6 sc__law_knots.nd rfl (by first | exact .inl rfl | exact .inr rfl)) (s_cons (s_set 3 sc__law_knots.nd rfl (by first | exact .inl rfl | exact .inr rfl) (q_call (T__law_plus c) hr hg rfl (a_cons (q_var 3) (a_cons (q_tup (a_cons q_int (a_cons q_int a_nil))) a_nil))))
  (s_one (s_set 4 sc__law_knots.nd rfl (by first | exact .inl rfl | exact .inr rfl) (q_bin om_add (q_var 4) (q_if (t_cmp om_lt (q_B cm_len rfl (c.free ifr_len) (by decide +kernel) (v_cons (q_var 4) v_nil)) (q_bin om_add (q_bin om_mul q_int (q_var 1)) q_int) (L2.nomark _)) (q_lst (a_cons (q_var 3) a_nil)) (q_lst a_nil)))))))
  (s_cons (s_if (t_cmp (om_eq (u64 hr)) (q_ix (q_var 4) (q_var 1)) (q_ix (q_var 4) (q_bin om_sub (q_bin om_sub (q_B cm_len rfl (c.free ifr_len) (by decide +kernel) (v_cons (q_var 4) v_nil)) q_int) (q_var 1))) (L2.nomark _)) (s_one (s_ret (q_bin om_add (q_bin om_mul (q_lst (a_cons (q_ix (q_var 4) q_int) a_nil)) (q_bin om_add (q_var 1) q_int)) (q_bin om_mul (q_lst (a_cons (q_var 3) a_nil)) (q_bin om_add (q_var 1) q_int))))) s_nil)
  (s_one (s_ret (q_var 4))))))))
theorem T__law_below (c : Facts fa fn tu K mg base) : PFn P w K mg base 1 "_law_below" ["one", "other"] s__law_below F__law_below := by
  obtain ⟨fd, F⟩ := c.says.1.def_ 19 (d := d__law_below) rfl
  exact fnP (N := ["one", "other"]) (c.glo 19) F (F.bindsN fun _ _ _ _ _ _ us hl => match us, hl with | [_, _], _ => rfl) sc__law_below rfl (by decide) fun cdv A outer s0 H E hr hg => (s_one (s_ret (q_cmp om_lt (q_bin om_mul (q_ix (q_var 0) q_int) (q_ix (q_var 1) q_int)) (q_bin om_mul (q_ix (q_var 1) q_int) (q_ix (q_var 0) q_int)) (L2.nomark _))))
theorem T__law_is_small (c : Facts fa fn tu K mg base) : PFn P w K mg base 1 "_law_is_small" ["one"] s__law_is_small F__law_is_small := by
  obtain ⟨fd, F⟩ := c.says.1.def_ 20 (d := d__law_is_small) rfl
  exact fnP (N := ["one"]) (c.glo 20) F (F.bindsN fun _ _ _ _ _ _ us hl => match us, hl with | [_], _ => rfl) sc__law_is_small rfl (by decide) fun cdv A outer s0 H E hr hg => (s_one (s_ret (q_and (q_cmp om_lt (q_B cm_abs rfl (c.free ifr_abs) (by decide +kernel) (v_cons (q_ix (q_var 0) q_int) v_nil)) q_int (L2.nomark _)) (q_and1 (q_cmp om_lt (q_ix (q_var 0) q_int) q_int (L2.nomark _))))))
theorem T__law_is_fraction (c : Facts fa fn tu K mg base) : PFn P w K mg base 2 "_law_is_fraction" ["value"] s__law_is_fraction F__law_is_fraction := by
  obtain ⟨fd, F⟩ := c.says.1.def_ 21 (d := d__law_is_fraction) rfl
  exact fnP (N := ["value", "one"]) (c.glo 21) F (F.bindsN fun _ _ _ _ _ _ us hl => match us, hl with | [_], _ => rfl) sc__law_is_fraction rfl (by decide) fun cdv A outer s0 H E hr hg => (s_cons (s_if (L2.PW.pt (w_or (t_not (t_val (q_isi1 hT_tuple (q_var 0) rfl (c.free ifr_isinstance) rfl (c.free ifr_tuple) (by decide +kernel) (by decide +kernel)))) (w_or (t_cmp (om_ne (u64 hr)) (q_B cm_len rfl (c.free ifr_len) (by decide +kernel) (v_cons (q_var 0) v_nil)) q_int (L2.nomark _)) (w_or1 (t_not (t_val (q_B (cm_all rfl) rfl (c.free ifr_all) (by decide +kernel) (v_cons (q_lc (own := [("one", 1)]) rfl sc__law_is_fraction.nd (by decide +kernel) (i_seq (q_var 0)) (L2.blkOk_by (by kernel_rfl)) (fun _ _ _ _ _ => (g_nm 1 sc__law_is_fraction.nd rfl (by first | exact .inl rfl | exact .inr rfl))) (fun _ _ _ _ _ => ts_nil) (fun _ _ _ _ _ => (q_and (q_isi1 hT_int (q_var 1) rfl (c.free ifr_isinstance) rfl (c.free ifr_int) (by decide +kernel) (by decide +kernel)) (q_and1 (q_not (q_isi1 hT_bool (q_var 1) rfl (c.free ifr_isinstance) rfl (c.free ifr_bool) (by decide +kernel) (by decide +kernel))))))) v_nil)))))))) (s_one (s_ret q_bl)) s_nil)
  (s_one (s_ret (q_and (q_cmp om_gt (q_ix (q_var 0) q_int) q_int (L2.nomark _)) (q_and (q_cmp (om_eq (u64 hr)) (q_call (T__law_made c) hr hg rfl (a_cons (q_ix (q_var 0) q_int) (a_cons (q_ix (q_var 0) q_int) a_nil))) (q_var 0) (L2.nomark _)) (q_and1 (q_call (T__law_is_small c) hr hg rfl (a_cons (q_var 0) a_nil))))))))
theorem T__law_is_row (c : Facts fa fn tu K mg base) : PFn P w K mg base 3 "_law_is_row" ["size", "value"] s__law_is_row F__law_is_row := by
  obtain ⟨fd, F⟩ := c.says.1.def_ 22 (d := d__law_is_row) rfl
  exact fnP (N := ["size", "value", "one", "late"]) (c.glo 22) F (F.bindsN fun _ _ _ _ _ _ us hl => match us, hl with | [_, _], _ => rfl) sc__law_is_row rfl (by decide) fun cdv A outer s0 H E hr hg => (s_cons (s_if (L2.PW.pt (w_or (t_not (t_val (q_isi2 hT_list hT_tuple (by intro d; cases d <;> rfl) (q_var 1) rfl (c.free ifr_isinstance) (L2.pe_bltn rfl (c.free ifr_list) (by decide +kernel) rfl (by decide) (by decide)) (L2.pe_bltn rfl (c.free ifr_tuple) (by decide +kernel) rfl (by decide) (by decide)) (by decide +kernel)))) (w_or (t_not (t_chain om_le om_le (q_bin om_add (q_bin om_mul q_int (q_var 0)) q_int) (q_B cm_len rfl (c.free ifr_len) (by decide +kernel) (v_cons (q_var 1) v_nil)) q_int)) (w_or1 (t_not (t_val (q_B (cm_all rfl) rfl (c.free ifr_all) (by decide +kernel) (v_cons (q_lc (own := [("one", 2)]) rfl sc__law_is_row.nd (by decide +kernel) (i_seq (q_var 1)) (L2.blkOk_by (by kernel_rfl)) (fun _ _ _ _ _ => (g_nm 2 sc__law_is_row.nd rfl (by first | exact .inl rfl | exact .inr rfl))) (fun _ _ _ _ _ => ts_nil) (fun _ _ _ _ _ => (q_call (T__law_is_fraction c) hr hg rfl (a_cons (q_var 2) a_nil)))) v_nil)))))))) (s_one (s_ret q_bl)) s_nil)
  (s_cons (s_if (L2.PW.pt (w_or (t_val (q_B (cm_any rfl) rfl (c.free ifr_any) (by decide +kernel) (v_cons (q_lc (own := [("one", 2), ("late", 3)]) rfl sc__law_is_row.nd (by decide +kernel) (i_zip rfl (c.free ifr_zip) (q_var 1) (q_cut (q_var 1) (o_some q_int) o_none)) (L2.blkOk_by (by kernel_rfl)) (fun _ _ _ _ _ => (g_tp rfl (gs_cons (g_nm 2 sc__law_is_row.nd rfl (by first | exact .inl rfl | exact .inr rfl)) (gs_cons (g_nm 3 sc__law_is_row.nd rfl (by first | exact .inl rfl | exact .inr rfl)) gs_nil)))) (fun _ _ _ _ _ => ts_nil) (fun _ _ _ _ _ => (q_call (T__law_below c) hr hg rfl (a_cons (q_var 3) (a_cons (q_var 2) a_nil))))) v_nil))) (w_or1 (t_val (q_B (cm_any rfl) rfl (c.free ifr_any) (by decide +kernel) (v_cons (q_lc (own := [("one", 2)]) rfl sc__law_is_row.nd (by decide +kernel) (i_seq (q_var 1)) (L2.blkOk_by (by kernel_rfl)) (fun _ _ _ _ _ => (g_nm 2 sc__law_is_row.nd rfl (by first | exact .inl rfl | exact .inr rfl))) (fun _ _ _ _ _ => ts_nil) (fun _ _ _ _ _ => (q_cmp om_gt (q_count (u65 hr) (q_T cm_list rfl (c.free ifr_list) (by decide +kernel) (v_cons (q_var 1) v_nil)) (q_var 2)) (q_bin om_add (q_var 0) q_int) (L2.nomark _)))) v_nil)))))) (s_one (s_ret q_bl)) s_nil)
  (s_one (s_ret (q_call (T__law_below c) hr hg rfl (a_cons (q_ix (q_var 1) (q_var 0)) (a_cons (q_ix (q_var 1) (q_bin om_sub (q_bin om_sub (q_B cm_len rfl (c.free ifr_len) (by decide +kernel) (v_cons (q_var 1) v_nil)) q_int) (q_var 0))) a_nil)))))))
theorem T__law_pick (c : Facts fa fn tu K mg base) : PDn P w K mg base 2 "_law_pick" ["pot", "some"] s__law_pick F__law_pick := by
  obtain ⟨fd, F⟩ := c.says.1.def_ 23 (d := d__law_pick) rfl
  exact fnD (y := "pot") (N := ["some"]) (c.glo 23) F (F.bindsN fun _ _ _ _ _ _ us hl => match us, hl with | [_, _], _ => rfl) sc__law_pick rfl (by decide) fun cdv A outer s0 H E hr hg => (s_one (s_ret (q_ix (q_var 1) (q_draw (T__law_draw c) hr hg rfl (L2.pv 0) (a_cons (q_B cm_len rfl (c.free ifr_len) (by decide +kernel) (v_cons (q_var 1) v_nil)) a_nil)))))
theorem T__law_less (c : Facts fa fn tu K mg base) : PFn P w K mg base 2 "_law_less" ["one", "other"] s__law_less F__law_less := by
  obtain ⟨fd, F⟩ := c.says.1.def_ 24 (d := d__law_less) rfl
  exact fnP (N := ["one", "other"]) (c.glo 24) F (F.bindsN fun _ _ _ _ _ _ us hl => match us, hl with | [_, _], _ => rfl) sc__law_less rfl (by decide) fun cdv A outer s0 H E hr hg => (s_one (s_ret (q_call (T__law_made c) hr hg rfl (a_cons (q_bin om_sub (q_bin om_mul (q_ix (q_var 0) q_int) (q_ix (q_var 1) q_int)) (q_bin om_mul (q_ix (q_var 1) q_int) (q_ix (q_var 0) q_int))) (a_cons (q_bin om_mul (q_ix (q_var 0) q_int) (q_ix (q_var 1) q_int)) a_nil)))))
theorem T__law_bent (c : Facts fa fn tu K mg base) : PDn P w K mg base 3 "_law_bent" ["pot", "value"] s__law_bent F__law_bent := by
  obtain ⟨fd, F⟩ := c.says.1.def_ 25 (d := d__law_bent) rfl
  exact fnD (y := "pot") (N := ["value", "way", "at", "one", "odds"]) (c.glo 25) F (F.bindsN fun _ _ _ _ _ _ us hl => match us, hl with | [_, _], _ => rfl) sc__law_bent rfl (by decide) fun cdv A outer s0 H E hr hg => (s_cons (s_par2 2 3 false false rfl sc__law_bent.nd rfl rfl (by decide) rfl rfl (q_draw (T__law_draw c) hr hg rfl (L2.pv 0) (a_cons q_int a_nil)) (q_draw (T__law_draw c) hr hg rfl (L2.pv 0) (a_cons (q_B cm_len rfl (c.free ifr_len) (by decide +kernel) (v_cons (q_var 1) v_nil)) a_nil)) rfl)
  (s_cons (s_if (t_cmp (om_eq (u64 hr)) (q_var 2) q_int (L2.nomark _)) (s_one (s_ret (q_bin om_add (q_cut (q_var 1) o_none (o_some (q_var 3))) (q_cut (q_var 1) (o_some (q_bin om_add (q_var 3) q_int)) o_none)))) s_nil)
  (s_cons (s_if (t_cmp (om_eq (u64 hr)) (q_var 2) q_int (L2.nomark _)) (s_one (s_ret (q_bin om_add (q_cut (q_var 1) o_none (o_some (q_bin om_add (q_var 3) q_int))) (q_cut (q_var 1) (o_some (q_var 3)) o_none)))) s_nil)
  (s_cons (s_if (t_cmp (om_eq (u64 hr)) (q_var 2) q_int (L2.nomark _)) (s_one (s_ret (q_revL (q_var 1)))) s_nil)
  (s_cons (s_if (t_cmp (om_eq (u64 hr)) (q_var 2) q_int (L2.nomark _)) (s_one (s_ret (q_T cm_tuple rfl (c.free ifr_tuple) (by decide +kernel) (v_cons (q_var 1) v_nil)))) s_nil)
  (s_cons (s_if (t_cmp (om_eq (u64 hr)) (q_var 2) q_int (L2.nomark _)) (s_one (s_ret (q_bin om_add (q_var 1) (q_lst (a_cons (q_call (T__law_plus c) hr hg rfl (a_cons (q_ix (q_var 1) (q_un um_neg q_int)) (a_cons (q_tup (a_cons q_int (a_cons q_int a_nil))) a_nil))) a_nil))))) s_nil)
  (s_cons (s_set 4 sc__law_bent.nd rfl (by first | exact .inl rfl | exact .inr rfl) (q_ix (q_var 1) (q_var 3)))
  (s_cons (s_set 5 sc__law_bent.nd rfl (by first | exact .inl rfl | exact .inr rfl) (q_lst (a_cons q_non (a_cons q_int (a_cons (q_ix (q_var 4) q_int) (a_cons (q_T cm_list rfl (c.free ifr_list) (by decide +kernel) (v_cons (q_var 4) v_nil)) (a_cons (q_cut (q_var 4) o_none (o_some q_int)) (a_cons (q_bin om_add (q_var 4) (q_tup (a_cons q_int a_nil))) (a_cons (q_tup (a_cons (q_bin om_mul q_int (q_ix (q_var 4) q_int)) (a_cons (q_bin om_mul q_int (q_ix (q_var 4) q_int)) a_nil))) (a_cons (q_tup (a_cons (q_bin om_sub q_int (q_ix (q_var 4) q_int)) (a_cons (q_bin om_sub q_int (q_ix (q_var 4) q_int)) a_nil))) (a_cons (q_tup (a_cons (q_ix (q_var 4) q_int) (a_cons q_int a_nil))) (a_cons (q_tup (a_cons (q_ix (q_var 4) q_int) (a_cons q_bl a_nil))) (a_cons (q_tup (a_cons q_int (a_cons q_int a_nil))) (a_cons (q_tup (a_cons q_int (a_cons q_int a_nil))) (a_cons (q_tup (a_cons (q_un um_neg q_int) (a_cons q_int a_nil))) (a_cons q_str (a_cons (q_tup a_nil) a_nil)))))))))))))))))
  (s_one (s_ret (q_bin om_add (q_bin om_add (q_cut (q_var 1) o_none (o_some (q_var 3))) (q_lst (a_cons (q_draw (T__law_pick c) hr hg rfl (L2.pv 0) (a_cons (q_bin om_add (q_var 5) (q_lst (a_cons (q_call (T__law_plus c) hr hg rfl (a_cons (q_var 4) (a_cons (q_tup (a_cons q_int (a_cons q_int a_nil))) a_nil))) (a_cons (q_call (T__law_less c) hr hg rfl (a_cons (q_var 4) (a_cons (q_tup (a_cons q_int (a_cons q_int a_nil))) a_nil))) (a_cons (q_draw (T__law_pick c) hr hg rfl (L2.pv 0) (a_cons (q_var 1) a_nil)) a_nil))))) a_nil)) a_nil))) (q_cut (q_var 1) (o_some (q_bin om_add (q_var 3) q_int)) o_none))))))))))))
theorem T__law_right (c : Facts fa fn tu K mg base) : PDn P w K mg base 8 "_law_right" ["pot"] s__law_right F__law_right := by
  obtain ⟨fd, F⟩ := c.says.1.def_ 26 (d := d__law_right) rfl
  exact fnD (y := "pot") (N := ["size", "row", "values", "value", "due", "shown", "other", "at", "turn"]) (c.glo 26) F (F.bindsN fun _ _ _ _ _ _ us hl => match us, hl with | [_], _ => rfl) sc__law_right rfl (by decide) fun cdv A outer s0 H E hr hg => (s_cons (s_set 1 sc__law_right.nd rfl (by first | exact .inl rfl | exact .inr rfl) (q_draw (T__law_draw c) hr hg rfl (L2.pv 0) (a_cons q_int a_nil)))
  (s_cons (s_set 2 sc__law_right.nd rfl (by first | exact .inl rfl | exact .inr rfl) (q_draw (T__law_knots c) hr hg rfl (L2.pv 0) (a_cons (q_var 1) (a_cons q_int a_nil))))
  (s_cons (s_set 3 sc__law_right.nd rfl (by first | exact .inl rfl | exact .inr rfl) (q_lst (a_cons (q_var 2) (a_cons (q_T cm_tuple rfl (c.free ifr_tuple) (by decide +kernel) (v_cons (q_var 2) v_nil)) (a_cons (q_lst a_nil) (a_cons (q_tup a_nil) (a_cons q_non (a_cons q_int (a_cons q_dict0 (a_cons q_str (a_cons (q_lst (a_cons (q_tup (a_cons q_int (a_cons q_int a_nil))) a_nil)) (a_cons (q_lst (a_cons (q_tup (a_cons q_int (a_cons q_int a_nil))) (a_cons (q_tup (a_cons q_int (a_cons q_int a_nil))) a_nil))) (a_cons (q_bin om_mul (q_lst (a_cons (q_tup (a_cons q_int (a_cons q_int a_nil))) a_nil)) (q_bin om_add (q_bin om_mul q_int (q_var 1)) q_int)) (a_cons (q_lc (own := [("at", 8)]) rfl sc__law_right.nd (by decide +kernel) (i_range1 rfl (c.free ifr_range) q_int) (L2.blkOk_by (by kernel_rfl)) (fun _ _ _ _ _ => (g_nm 8 sc__law_right.nd rfl (by first | exact .inl rfl | exact .inr rfl))) (fun _ _ _ _ _ => ts_nil) (fun _ _ _ _ _ => (q_tup (a_cons (q_var 8) (a_cons q_int a_nil))))) (a_cons (q_lc (own := [("at", 8)]) rfl sc__law_right.nd (by decide +kernel) (i_range1 rfl (c.free ifr_range) q_int) (L2.blkOk_by (by kernel_rfl)) (fun _ _ _ _ _ => (g_nm 8 sc__law_right.nd rfl (by first | exact .inl rfl | exact .inr rfl))) (fun _ _ _ _ _ => ts_nil) (fun _ _ _ _ _ => (q_tup (a_cons (q_var 8) (a_cons q_int a_nil))))) a_nil)))))))))))))))
  (s_cons (s_set 3 sc__law_right.nd rfl (by first | exact .inl rfl | exact .inr rfl) (q_bin om_add (q_var 3) (q_lst (a_cons (q_bin om_add (q_bin om_mul (q_lst (a_cons (q_tup (a_cons q_int (a_cons q_int a_nil))) a_nil)) (q_bin om_add (q_var 1) q_int)) (q_bin om_mul (q_lst (a_cons (q_tup (a_cons q_int (a_cons q_int a_nil))) a_nil)) (q_bin om_add (q_var 1) q_int))) (a_cons (q_bin om_add (q_bin om_mul (q_lst (a_cons (q_tup (a_cons q_int (a_cons q_int a_nil))) a_nil)) (q_bin om_add (q_var 1) q_int)) (q_bin om_mul (q_lst (a_cons (q_tup (a_cons q_int (a_cons q_int a_nil))) a_nil)) (q_bin om_add (q_var 1) q_int))) (a_cons (q_lc (own := [("at", 8)]) rfl sc__law_right.nd (by decide +kernel) (i_range1 rfl (c.free ifr_range) (q_bin om_add (q_bin om_mul q_int (q_var 1)) q_int)) (L2.blkOk_by (by kernel_rfl)) (fun _ _ _ _ _ => (g_nm 8 sc__law_right.nd rfl (by first | exact .inl rfl | exact .inr rfl))) (fun _ _ _ _ _ => ts_nil) (fun _ _ _ _ _ => (q_tup (a_cons (q_var 8) (a_cons q_int a_nil))))) a_nil))))))
  (s_cons (s_for rfl rfl (i_seq (q_bin om_add (q_var 3) (q_lc (own := [("turn", 9)]) rfl sc__law_right.nd (by decide +kernel) (i_range1 rfl (c.free ifr_range) q_int) (L2.blkOk_by (by kernel_rfl)) (fun _ _ _ _ _ => (g_nm 9 sc__law_right.nd rfl (by first | exact .inl rfl | exact .inr rfl))) (fun _ _ _ _ _ => ts_nil) (fun _ _ _ _ _ => (q_draw (T__law_bent c) hr hg rfl (L2.pv 0) (a_cons (q_var 2) a_nil)))))) (g_nm 4 sc__law_right.nd rfl (by first | exact .inl rfl | exact .inr rfl)) (s_cons (s_par2 5 6 false false rfl sc__law_right.nd rfl rfl (by decide) rfl rfl (q_call (T__law_is_row c) hr hg rfl (a_cons (q_var 1) (a_cons (q_var 4) a_nil))) (q_B (cm_repr c.sys hg hr) rfl (c.free ifr_repr) (by decide +kernel) (v_cons (q_var 4) v_nil)) rfl)
  (s_cons (s_if (L2.PW.pt (w_or (t_cmp (om_ne (u64 hr)) (q_B (cm_repr c.sys hg hr) rfl (c.free ifr_repr) (by decide +kernel) (v_cons (q_lst (a_cons (q_call (T_is_knot_row c) hr hg rfl (a_cons (q_var 1) (a_cons (q_var 4) a_nil))) (a_cons (q_callK0 ["value", "size"] [1, 0] (T_is_knot_row c) hr hg rfl (k_cons (q_var 4) (k_cons (q_var 1) k_nil)) (fun _ _ _ _ _ _ _ us ws h1 h2 => match us, ws, h1, h2 with | [], [_, _], _, _ => rfl) (aCons_len (aCons_len aNil_len))) a_nil))) v_nil)) (q_B (cm_repr c.sys hg hr) rfl (c.free ifr_repr) (by decide +kernel) (v_cons (q_lst (a_cons (q_var 5) (a_cons (q_var 5) a_nil))) v_nil)) (L2.nomark _)) (w_or1 (t_cmp (om_ne (u64 hr)) (q_B (cm_repr c.sys hg hr) rfl (c.free ifr_repr) (by decide +kernel) (v_cons (q_var 4) v_nil)) (q_var 6) (L2.nomark _))))) (s_one (s_ret q_bl)) s_nil)
  (s_one (s_if (L2.PW.pt (w_and (t_val (q_var 5)) (w_and1 (t_cmp (om_ne (u64 hr)) (q_B (cm_repr c.sys hg hr) rfl (c.free ifr_repr) (by decide +kernel) (v_cons (q_lst (a_cons (q_call (T_stretch_of c) hr hg rfl (a_cons (q_var 1) (a_cons (q_var 4) a_nil))) (a_cons (q_callK0 ["knot_row", "size"] [1, 0] (T_stretch_of c) hr hg rfl (k_cons (q_var 4) (k_cons (q_var 1) k_nil)) (fun _ _ _ _ _ _ _ us ws h1 h2 => match us, ws, h1, h2 with | [], [_, _], _, _ => rfl) (aCons_len (aCons_len aNil_len))) a_nil))) v_nil)) (q_B (cm_repr c.sys hg hr) rfl (c.free ifr_repr) (by decide +kernel) (v_cons (q_bin om_mul (q_lst (a_cons (q_tup (a_cons (q_ix (q_var 4) (q_var 1)) (a_cons (q_ix (q_var 4) (q_bin om_sub (q_bin om_sub (q_B cm_len rfl (c.free ifr_len) (by decide +kernel) (v_cons (q_var 4) v_nil)) q_int) (q_var 1))) a_nil))) a_nil)) q_int) v_nil)) (L2.nomark _))))) (s_one (s_ret q_bl)) s_nil)))))
  (s_cons (s_set 7 sc__law_right.nd rfl (by first | exact .inl rfl | exact .inr rfl) (q_draw (T__law_draw c) hr hg rfl (L2.pv 0) (a_cons q_int a_nil)))
  (s_one (s_ret (q_cmp (om_eq (u64 hr)) (q_call (T_is_knot_row c) hr hg rfl (a_cons (q_var 7) (a_cons (q_var 2) a_nil))) (q_call (T__law_is_row c) hr hg rfl (a_cons (q_var 7) (a_cons (q_var 2) a_nil))) (L2.nomark _))))))))))
theorem T_law (c : Facts fa fn tu K mg base) {fd : FuncData} (F : L2.FunD K "law" "law" (L2.defArgs s_law) (L2.defBody s_law) (L2.defScope s_law) [] [] (He.ga K "law") fd) : FnG P w K mg base L2.CX0 9 (He.ga K "law") fd ["script"] (spF K F_law) :=
  fnF (y := "script") (N := ["k"]) F sc_law fun cdv A outer s0 H E hr hg => (s_one (s_ret (q_B (cm_all rfl) rfl (c.free ifr_all) (by decide +kernel) (v_cons (q_lc (own := [("k", 1)]) rfl sc_law.nd (by decide +kernel) (i_range1 rfl (c.free ifr_range) (q_B (cm_max rfl) rfl (c.free ifr_max) (by decide +kernel) (v_cons q_int (v_cons (q_B (cm_min rfl) rfl (c.free ifr_min) (by decide +kernel) (v_cons q_int (v_cons (q_lenF 0 (L2.pv 0) rfl (c.free ifr_len) (by decide +kernel)) v_nil))) v_nil)))) (L2.blkOk_by (by kernel_rfl)) (fun _ _ _ _ _ => (g_nm 1 sc_law.nd rfl (by first | exact .inl rfl | exact .inr rfl))) (fun _ _ _ _ _ => ts_nil) (fun _ _ _ _ _ => (q_right 0 (T__law_right c) (T__law_pot c) hr hg rfl rfl (L2.pv 0) (a_cons (q_var 1) a_nil)))) v_nil))))
end
def loose0 : List PySem.Str := [Str.ofString "is_integer", Str.ofString "is_within", Str.ofString "is_list", Str.ofString "divisor", Str.ofString "is_fraction_of", Str.ofString "is_small", Str.ofString "are_small", Str.ofString "is_below", Str.ofString "check_size", Str.ofString "is_knot_row_of", Str.ofString "check_row", Str.ofString "ends_of", Str.ofString "is_knot_row", Str.ofString "stretch_of", Str.ofString "_law_pot", Str.ofString "_law_draw", Str.ofString "_law_pick", Str.ofString "_law_made", Str.ofString "_law_plus", Str.ofString "_law_less", Str.ofString "_law_times", Str.ofString "_law_over", Str.ofString "_law_below", Str.ofString "_law_is_small", Str.ofString "_law_knots", Str.ofString "_law_ends", Str.ofString "_law_control", Str.ofString "_law_spot", Str.ofString "_law_place", Str.ofString "_law_pieces", Str.ofString "_law_curve", Str.ofString "_law_is_fraction", Str.ofString "_law_is_row", Str.ofString "_law_bent", Str.ofString "_law_right", Str.ofString "BentError", Str.ofString "InvalidKnotRow", Str.ofString "InvalidSize", Str.ofString "MOST_TOP", Str.ofString "MOST_BOTTOM"]
def loose1 : List PySem.Str := [Str.ofString "MOST_SIZE", Str.ofString "MOST_ROW"]
def loose : List PySem.Str := loose0 ++ loose1
/-! ### the head -/
abbrev R0 : PySem.W.OpenRow := PySem.W.OpenLaw.row PySem.Challenge.rw_bentpieces_k46_any_value_as_knot_row
abbrev hk : PySem.W.Hook := hookM 4 fa fn tu
def ob (s : PySem.W.SharedT) : AlM := obsM 4 fa fn tu (HandSHeadRun.getT s)
theorem ob_eq (s : PySem.W.SharedT) : ob s = hk.obs s.abs := obsM_eq (HandSHeadRun.getT_eq s)
theorem run (w : World) : HandSHeadRun.RunEq R0 (PySem.W.view R0.prog [47]) hk ob 6000 loose w := by
  intro os
  kernel_rfl
end L_k46


namespace L_k46
open BP
def intB : D → Bool
  | .int _ => true
  | _ => false
theorem is_integer_ok (d : D) : F_is_integer [d] = .ok (.bool (intB d)) := by
  cases d <;> simp [F_is_integer, m_is_integer, intB]
theorem gcd_loop (st : Pt) : ∀ (n : Nat) (a b : Nat), b < n → whileL (mBin oGt (mVar 1) (mC (.int 0))) (sPar2 0 1 false false (mVar 1) (mBin oMod (mB bInt (vCons (mVar 0) vNil)) (mVar 1))) n [.im (.int a), .im (.int b)] st = .ok (.nx [.im (.int (a.gcd b : Nat)), .im (.int 0)] st)
  | 0, _, _, h => absurd h (Nat.not_lt_zero _)
  | n + 1, a, b, h => by
    by_cases hb : b = 0
    · subst hb
      simp [whileL]
    · have hb' : 0 < b := Nat.pos_of_ne_zero hb
      have e : ((a : Int).fmod (b : Int)) = (a : Int) % (b : Int) := Int.fmod_eq_emod_of_nonneg _ (Int.natCast_nonneg b)
      have ih := gcd_loop st n b (a % b) (by have := Nat.mod_lt a hb'; omega)
      have g : b.gcd (a % b) = a.gcd b := by rw [Nat.gcd_comm, ← Nat.gcd_rec, Nat.gcd_comm]
      rw [g] at ih
      simp only [Int.natCast_emod] at ih
      simp [whileL, hb, hb', e, ih]
theorem divisor_ok (a b : Nat) : F_divisor [.int a, .int b] = .ok (.int (a.gcd b : Nat)) := by
  have L := gcd_loop [] (b + 2) a b (by omega)
  simp [F_divisor, m_divisor, sWhile, fuel_divisor_1, b_divisor_1, L]
def frB : D → Bool
  | .tuple [.int a, .int b] => decide (1 ≤ b) && (a.natAbs.gcd b.natAbs == 1)
  | _ => false
def smB : D → Bool
  | .tuple [.int a, .int b] => (decide (1 ≤ b) && (a.natAbs.gcd b.natAbs == 1)) && (decide (a.natAbs ≤ 999) && decide (b ≤ 99))
  | _ => false
theorem abs_ok (a : Int) : (if a < 0 then -a else a) = (a.natAbs : Int) := by omega
theorem int_of {d : D} (h : intB d = true) : ∃ a, d = .int a := by
  cases d <;> first | exact ⟨_, rfl⟩ | cases h
theorem frB_x {x y : D} (h : intB x = false) : frB (.tuple [x, y]) = false := by
  cases x <;> first | rfl | cases h
theorem frB_y {x y : D} (h : intB y = false) : frB (.tuple [x, y]) = false := by
  cases y <;> first | (cases x <;> rfl) | cases h
theorem sh_int (a : Int) : PySem.SeqAt.shaped (.int a) = true := rfl
theorem eqv_int (a b : Int) : PySem.PyData.eqv (.int a) (.int b) = (a == b) := by simp [PySem.PyData.eqv]
theorem fr_ok (d : D) : F_is_fraction_of [d] = .ok (.bool (frB d)) := by
  cases d with
  | tuple ds =>
    match ds with
    | [] => simp [F_is_fraction_of, m_is_fraction_of, frB, sh_int, eqv_int]
    | [x] => simp [F_is_fraction_of, m_is_fraction_of, frB, sh_int, eqv_int]
    | x :: y :: z :: r =>
      have h : ((r.length : Int) + 1 + 1 + 1 == 2) = false := by
        rw [beq_eq_false_iff_ne]
        omega
      simp [F_is_fraction_of, m_is_fraction_of, frB, sh_int, eqv_int, h]
    | [x, y] =>
      cases hx : intB x with
      | false => simp [F_is_fraction_of, m_is_fraction_of, is_integer_ok, sh_int, eqv_int, hx, frB_x hx]
      | true =>
        cases hy : intB y with
        | false => simp [F_is_fraction_of, m_is_fraction_of, is_integer_ok, sh_int, eqv_int, hx, hy, frB_y hy]
        | true =>
          obtain ⟨a, rfl⟩ := int_of hx
          obtain ⟨b, rfl⟩ := int_of hy
          by_cases hb : 1 ≤ b
          · obtain ⟨n, rfl⟩ : ∃ n : Nat, b = n := ⟨b.toNat, by omega⟩
            have D := divisor_ok a.natAbs n
            have e : (((a.natAbs.gcd n : Nat) : Int) == 1) = (a.natAbs.gcd n == 1) := by
              rw [Bool.eq_iff_iff, beq_iff_eq, beq_iff_eq]
              omega
            simp [F_is_fraction_of, m_is_fraction_of, is_integer_ok, sh_int, eqv_int, hx, hy, hb, abs_ok, D, frB, e]
          · simp [F_is_fraction_of, m_is_fraction_of, is_integer_ok, sh_int, eqv_int, hx, hy, hb, frB]
  | _ => simp [F_is_fraction_of, m_is_fraction_of, frB]
theorem sm_ok (d : D) : F_is_small [d] = .ok (.bool (smB d)) := by
  by_cases h : frB d = true
  · unfold frB at h
    split at h
    · rename_i a b
      have h2 : frB (.tuple [.int a, .int b]) = true := h
      by_cases h3 : a.natAbs ≤ 999
      · have h4 : (a.natAbs : Int) ≤ 999 := by omega
        simp [F_is_small, m_is_small, fr_ok, h2, abs_ok, smB, h, h3, h4]
      · have h4 : ¬ (a.natAbs : Int) ≤ 999 := by omega
        simp [F_is_small, m_is_small, fr_ok, h2, abs_ok, smB, h, h3, h4]
    · cases h
  · have h2 : frB d = false := by simpa using h
    have h3 : smB d = false := by
      unfold smB
      split
      · rename_i a b
        unfold frB at h2
        simp only [h2, Bool.false_and]
      · rfl
    simp [F_is_small, m_is_small, fr_ok, h2, h3]
def seqB : D → Option (List D)
  | .list ds => some ds
  | .tuple ds => some ds
  | _ => none
theorem are_small_ok (d : D) (hl : ∀ ds, seqB d = some ds → ds.length ≤ 1000000) : F_are_small [d] = .ok (.bool (match seqB d with
  | some ds => ds.all smB
  | none => false)) := by
  have key : ∀ (e : EV) (ds : List D), ds.length ≤ 1000000 → (∀ st, iSeq (mVar 0) [e, .no] st = .ok (ds, st)) → isLk (getE [e, .no] 1) = false → mLc (iSeq (mVar 0)) (.nm 1) [1] (mC (.bool true)) (mCall F_is_small (aCons (mVar 1) aNil)) [e, .no] [] = .ok (.ow (ds.map fun d => .bool (smB d)), []) := fun e ds hl hi hk => by
    refine lc_bool smB hl (by simpa using hk) (fun d _ st => ⟨[e, .im d], by simp, ?_⟩) (hi [])
    simp [sm_ok]
  cases d with
  | list ds =>
    have k := key (.im (.list ds)) ds (hl ds rfl) (fun st => by simp) rfl
    simp [F_are_small, m_are_small, F_is_list, m_is_list, seqB, k, bAll_map]
  | tuple ds =>
    have k := key (.im (.tuple ds)) ds (hl ds rfl) (fun st => by simp) rfl
    simp [F_are_small, m_are_small, F_is_list, m_is_list, seqB, k, bAll_map]
  | _ => simp [F_are_small, m_are_small, F_is_list, m_is_list, seqB]
end L_k46

namespace L_k46
open BP
theorem law_small_ok (a b : Int) : F__law_is_small [.tuple [.int a, .int b]] = .ok (.bool (decide (a.natAbs ≤ 999) && decide (b ≤ 99))) := by
  have e1 : ((a.natAbs : Int) < 1000) ↔ a.natAbs ≤ 999 := by omega
  have e2 : b < 100 ↔ b ≤ 99 := by omega
  by_cases h : a.natAbs ≤ 999 <;> simp [F__law_is_small, m__law_is_small, abs_ok, e1, e2, h]
theorem made_ok : MadeOk F__law_made := C_made_okF
theorem plus_ok : PlusOk F__law_plus := C_plus_ok made_ok
theorem less_ok : LessOk F__law_less := C_less_ok made_ok
theorem draw_ok : DrawOk F__law_draw := C_draw_ok (by decide) (by decide) (by decide) (by decide)
theorem sh_pair (a b : Int) : PySem.SeqAt.shaped (.tuple [.int a, .int b]) = true := by
  simp [PySem.SeqAt.shaped, PySem.PyData.canLay0, PySem.PyData.canLayAll0, PySem.PyData.depth, PySem.PyData.depthAll]
theorem eqv_pair (a b c d : Int) : PySem.PyData.eqv (.tuple [.int a, .int b]) (.tuple [.int c, .int d]) = (a == c && b == d) := by
  simp [PySem.PyData.eqv, PySem.PyData.eqvAll]
theorem gcd_one (a : Int) (b : Int) (hb : 0 < b) : ((Rat.divInt a b).num == a && ((Rat.divInt a b).den : Int) == b) = (a.natAbs.gcd b.natAbs == 1) := by
  obtain ⟨m1, m2⟩ := made_sgn a b hb
  have eg : b.gcd a = a.natAbs.gcd b.natAbs := by
    show b.natAbs.gcd a.natAbs = _
    exact Nat.gcd_comm _ _
  rw [eg] at m1 m2
  rw [m1, m2, Bool.eq_iff_iff, Bool.and_eq_true, beq_iff_eq, beq_iff_eq, beq_iff_eq]
  constructor
  · rintro ⟨_, h⟩
    have hg : 0 < a.natAbs.gcd b.natAbs := Nat.gcd_pos_of_pos_right _ (by omega)
    have hd : ((a.natAbs.gcd b.natAbs : Nat) : Int) ∣ b := Int.ofNat_dvd_left.mpr (Nat.gcd_dvd_right _ _)
    have h2 := Int.ediv_mul_cancel hd
    rw [h] at h2
    have h3 : b * ((a.natAbs.gcd b.natAbs : Nat) : Int) = b * 1 := by rw [h2, Int.mul_one]
    have h4 := Int.eq_of_mul_eq_mul_left (by omega) h3
    omega
  · intro h
    rw [h]
    simp
/-- bottoms are no giants -/
def OkN (d : D) : Prop := ∀ a b : Int, d = .tuple [.int a, .int b] → b.natAbs < 2 ^ 9000
def intnb : D → Bool := intB
theorem law_fr_ok (d : D) (hN : OkN d) (hl : ∀ ds, d = .tuple ds → ds.length ≤ 1000000) : F__law_is_fraction [d] = .ok (.bool (smB d)) := by
  cases d with
  | tuple ds =>
    have key : mLc (iSeq (mVar 0)) (.nm 1) [1] (mC (.bool true)) (mAnd (mUn (oIsI .int) (mVar 1)) (mUn oNot (mUn (oIsI .bool) (mVar 1)))) [.im (.tuple ds), .no] [] = .ok (.ow (ds.map fun d => .bool (intB d)), []) := by
      refine lc_bool intB (hl ds rfl) rfl (fun d _ st => ⟨[.im (.tuple ds), .im d], by simp, ?_⟩) (by simp)
      cases d <;> simp [intB]
    match ds, key, hN with
    | [], key, _ => simp [F__law_is_fraction, m__law_is_fraction, smB, sh_int, eqv_int]
    | [x], key, _ => simp [F__law_is_fraction, m__law_is_fraction, smB, sh_int, eqv_int]
    | x :: y :: z :: r, key, _ =>
      have h : ((r.length : Int) + 1 + 1 + 1 == 2) = false := by
        rw [beq_eq_false_iff_ne]
        omega
      simp [F__law_is_fraction, m__law_is_fraction, smB, sh_int, eqv_int, h]
    | [x, y], key, hN =>
      have kb := bAll_map [x, y] intB
      cases hxy : (intB x && intB y) with
      | false =>
        have e : smB (.tuple [x, y]) = false := by
          cases x <;> cases y <;> first | rfl | cases hxy
        simp only [List.map_cons, List.map_nil] at key kb
        simp [F__law_is_fraction, m__law_is_fraction, sh_int, eqv_int, key, kb, hxy, e]
      | true =>
        rw [Bool.and_eq_true] at hxy
        obtain ⟨a, rfl⟩ := int_of hxy.1
        obtain ⟨b, rfl⟩ := int_of hxy.2
        simp only [List.map_cons, List.map_nil] at key kb
        have kb2 : bAll [.list [.bool true, .bool true]] = bl true := rfl
        by_cases hb : 0 < b
        · have M := made_ok a b hb (hN a b rfl)
          have G := gcd_one a b hb
          have hb1 : 1 ≤ b := hb
          have e : smB (.tuple [.int a, .int b]) = ((Rat.divInt a b).num == a && ((Rat.divInt a b).den : Int) == b && (decide (a.natAbs ≤ 999) && decide (b ≤ 99))) := by
            rw [G]
            simp [smB, hb1]
          rw [e]
          cases hq : ((Rat.divInt a b).num == a && ((Rat.divInt a b).den : Int) == b) <;> simp [F__law_is_fraction, m__law_is_fraction, sh_int, eqv_int, key, kb2, hxy, hb, M, qD, sh_pair, eqv_pair, hq, law_small_ok]
        · have e : smB (.tuple [.int a, .int b]) = false := by
            have : ¬ 1 ≤ b := by omega
            simp [smB, this]
          simp [F__law_is_fraction, m__law_is_fraction, sh_int, eqv_int, key, kb2, hxy, hb, e]
  | _ => simp [F__law_is_fraction, m__law_is_fraction, smB]
end L_k46

namespace L_k46
open BP
def belD : D → D → Bool
  | .tuple [.int a, .int b], .tuple [.int c, .int d] => decide (a * d < c * b)
  | _, _ => false
theorem sm_of {d : D} (h : smB d = true) : ∃ a b : Int, d = .tuple [.int a, .int b] ∧ a.natAbs ≤ 999 ∧ 1 ≤ b ∧ b ≤ 99 := by
  unfold smB at h
  split at h
  · rename_i a b
    simp only [Bool.and_eq_true, decide_eq_true_eq] at h
    exact ⟨a, b, rfl, h.2.1, h.1.1, h.2.2⟩
  · cases h
theorem small_mul {a b : Int} (ha : a.natAbs ≤ 999) (h1 : 1 ≤ b) (h2 : b ≤ 99) : mulOk a b = true := mulOk_of 10 10 (by omega) (by omega) (by omega)
theorem bel_ok {x y : D} (hx : smB x = true) (hy : smB y = true) : F_is_below [x, y] = .ok (.bool (belD x y)) := by
  obtain ⟨a, b, rfl, a1, a2, a3⟩ := sm_of hx
  obtain ⟨c, d, rfl, c1, c2, c3⟩ := sm_of hy
  simp [F_is_below, m_is_below, small_mul a1 c2 c3, small_mul c1 a2 a3, belD]
theorem lbel_ok {x y : D} (hx : smB x = true) (hy : smB y = true) : F__law_below [x, y] = .ok (.bool (belD x y)) := bel_ok hx hy
def prB : D → Bool
  | .tuple [x, y] => belD y x
  | _ => false
def cnB (n : Nat) (ds : List D) (d : D) : Bool := decide ((n : Int) + 1 < (ds.countP fun z => PySem.PyData.eqv z d : Nat))
def rowL (n : Nat) (ds : List D) : Bool := ds.all smB && ((decide (2 * n + 2 ≤ ds.length) && decide (ds.length ≤ 12)) && (!(zipL ds ds.tail).any prB && (!ds.any (cnB n ds) && belD (nth ds n) (nth ds (ds.length - 1 - n)))))
def rowD (n : Nat) (v : D) : Bool := match seqB v with
  | some ds => rowL n ds
  | none => false
theorem sh_list {ds : List D} (h : ds.all smB = true) : PySem.SeqAt.shaped (.list ds) = true ∧ ∀ d ∈ ds, PySem.SeqAt.shaped d = true := by
  have k : ∀ ds : List D, ds.all smB = true → PySem.PyData.canLayAll0 ds = true ∧ PySem.PyData.depthAll ds ≤ 1 := fun ds => by
    induction ds with
    | nil => intro _; exact ⟨rfl, Nat.zero_le _⟩
    | cons d ds ih =>
      intro h
      rw [List.all_cons, Bool.and_eq_true] at h
      obtain ⟨a, b, rfl, _⟩ := sm_of h.1
      obtain ⟨h1, h2⟩ := ih h.2
      constructor
      · simp [PySem.PyData.canLayAll0, PySem.PyData.canLay0, h1]
      · simp [PySem.PyData.depthAll, PySem.PyData.depth]
        omega
  obtain ⟨h1, h2⟩ := k ds h
  constructor
  · simp [PySem.SeqAt.shaped, PySem.PyData.canLay0, PySem.PyData.depth, h1]
    omega
  · intro d hd
    obtain ⟨a, b, rfl, _⟩ := sm_of (List.all_eq_true.mp h d hd)
    exact sh_pair a b
theorem zip_comp (f : PF) (hf : ∀ x y, smB x = true → smB y = true → f [x, y] = .ok (.bool (belD x y))) {n : Nat} {v : D} {ds : List D} (hv : seqB v = some ds) (hs : ds.all smB = true) (hl : ds.length ≤ 1000) (st : Pt) :
    mLc (iZipS (mVar 1) (mCut (mVar 1) (oSome (mC (.int 1))) oNone)) (.tp [(.nm 2), (.nm 3)]) [2, 3] (mC (.bool true)) (mCall f (aCons (mVar 3) (aCons (mVar 2) aNil))) [.im (.int n), .im v, .no, .no] st = .ok (.ow ((zipL ds ds.tail).map fun d => .bool (prB d)), st) := by
  refine lc_bool prB (by have := zip_le ds ds.tail; omega) rfl (fun d hd st => ?_) ?_
  · obtain ⟨x, y, rfl, hx, hy⟩ := zip_mem hd
    have h1 := List.all_eq_true.mp hs x hx
    have h2 := List.all_eq_true.mp hs y (List.mem_of_mem_tail hy)
    refine ⟨[.im (.int n), .im v, .im x, .im y], by simp, ?_⟩
    simp [hf y x h2 h1, prB]
  · cases v <;> first | (cases hv; simp [cut1]) | cases hv
theorem cnt_comp {n : Nat} {v : D} {ds : List D} (hv : seqB v = some ds) (hs : ds.all smB = true) (hl : ds.length ≤ 1000) (st : Pt) :
    mLc (iSeq (mVar 1)) (.nm 2) [2] (mC (.bool true)) (mBin oGt (mBin oCount (mB bList (vCons (mVar 1) vNil)) (mVar 2)) (mBin oAdd (mVar 0) (mC (.int 1)))) [.im (.int n), .im v, .no, .no] st = .ok (.ow (ds.map fun d => .bool (cnB n ds d)), st) := by
  obtain ⟨s1, s2⟩ := sh_list hs
  refine lc_bool (cnB n ds) (by omega) rfl (fun d hd st => ⟨[.im (.int n), .im v, .im d, .no], by simp, ?_⟩) ?_
  · cases v <;> first | (cases hv; simp [s1, s2 d hd, cnB]) | cases hv
  · cases v <;> first | (cases hv; simp) | cases hv
theorem sm_getD {ds : List D} (h : ds.all smB = true) {i : Nat} (hi : i < ds.length) : smB (nth ds i) = true := by
  have e : nth ds i = ds[i] := by simp [nth, hi]
  rw [e]
  exact List.all_eq_true.mp h _ (List.getElem_mem hi)
theorem row_of_ok (n : Nat) (hn : n ≤ 3) (v : D) (hl : ∀ ds, seqB v = some ds → ds.length ≤ 1000) : F_is_knot_row_of [.int n, v] = .ok (.bool (rowD n v)) := by
  have A := are_small_ok v fun ds h => Nat.le_trans (hl ds h) (by decide)
  cases hv : seqB v with
  | none =>
    rw [hv] at A
    simp [F_is_knot_row_of, m_is_knot_row_of, A, rowD, hv]
  | some ds =>
    have hl := hl ds hv
    rw [hv] at A
    cases hs : ds.all smB with
    | false => simp [F_is_knot_row_of, m_is_knot_row_of, A, rowD, hv, rowL, hs]
    | true =>
      have L : bLen [v] = .ok (.im (.int ds.length)) := by
        cases v <;> first | (cases hv; simp) | cases hv
      have m2 : mulOk 2 (n : Int) = true := mulOk_of 2 2 (by decide) (by omega) (by decide)
      have Z := zip_comp F_is_below (fun x y => bel_ok) (n := n) hv hs hl []
      have Cn := cnt_comp (n := n) hv hs hl []
      by_cases h1 : 2 * n + 2 ≤ ds.length
      case neg =>
        have h1' : ¬ (2 * (n : Int) + 2 ≤ (ds.length : Int)) := by omega
        simp [F_is_knot_row_of, m_is_knot_row_of, A, L, m2, rowD, hv, rowL, hs, h1, h1']
      by_cases h2 : ds.length ≤ 12
      case neg =>
        have h1' : (2 * (n : Int) + 2 ≤ (ds.length : Int)) := by omega
        have h2' : ¬ ((ds.length : Int) ≤ 12) := by omega
        simp [F_is_knot_row_of, m_is_knot_row_of, A, L, m2, rowD, hv, rowL, hs, h1, h1', h2, h2']
      have h1' : (2 * (n : Int) + 2 ≤ (ds.length : Int)) := by omega
      have h2' : ((ds.length : Int) ≤ 12) := by omega
      have az := bAny_map (zipL ds ds.tail) prB
      have ac := bAny_map ds (cnB n ds)
      cases hz : (zipL ds ds.tail).any prB with
      | true => simp [F_is_knot_row_of, m_is_knot_row_of, A, L, m2, rowD, hv, rowL, hs, h1, h1', h2, h2', Z, az, hz]
      | false =>
        cases hc : ds.any (cnB n ds) with
        | true => simp [F_is_knot_row_of, m_is_knot_row_of, A, L, m2, rowD, hv, rowL, hs, h1, h1', h2, h2', Z, az, hz, Cn, ac, hc]
        | false =>
          have i1 := at_ok ds n (by omega)
          have i2 := at_ok ds (ds.length - 1 - n) (by omega)
          have e2 : ((ds.length - 1 - n : Nat) : Int) = (ds.length : Int) - 1 - (n : Int) := by omega
          rw [e2] at i2
          have X1 : oIx v (.int n) = .ok (.im (nth ds n)) := by
            cases v <;> first | (cases hv; simp [i1]) | cases hv
          have X2 : oIx v (.int ((ds.length : Int) - 1 - (n : Int))) = .ok (.im (nth ds (ds.length - 1 - n))) := by
            cases v <;> first | (cases hv; simp [i2]) | cases hv
          have bl := bel_ok (sm_getD hs (i := n) (by omega)) (sm_getD hs (i := ds.length - 1 - n) (by omega))
          simp [F_is_knot_row_of, m_is_knot_row_of, A, L, m2, rowD, hv, rowL, hs, h1, h1', h2, h2', Z, az, hz, Cn, ac, hc, X1, X2, bl]
theorem law_row_ok (n : Nat) (hn : n ≤ 3) (v : D) (hl : ∀ ds, seqB v = some ds → ds.length ≤ 1000) (hN : ∀ ds, seqB v = some ds → ∀ d ∈ ds, OkN d ∧ ∀ xs, d = .tuple xs → xs.length ≤ 1000000) : F__law_is_row [.int n, v] = .ok (.bool (rowD n v)) := by
  have m2 : mulOk 2 (n : Int) = true := mulOk_of 2 2 (by decide) (by omega) (by decide)
  cases hv : seqB v with
  | none =>
    have J : isI .listtuple v = false := by cases v <;> first | rfl | cases hv
    simp [-isI, F__law_is_row, m__law_is_row, J, rowD, hv]
  | some ds =>
    have hl := hl ds hv
    have hN := hN ds hv
    have L : bLen [v] = .ok (.im (.int ds.length)) := by
      cases v <;> first | (cases hv; simp) | cases hv
    have J : isI .listtuple v = true := by cases v <;> first | rfl | cases hv
    have al : bAll [.list (ds.map fun d => .bool (smB d))] = BP.bl (ds.all smB) := bAll_map ds smB
    have A : mLc (iSeq (mVar 1)) (.nm 2) [2] (mC (.bool true)) (mCall F__law_is_fraction (aCons (mVar 2) aNil)) [.im (.int n), .im v, .no, .no] [] = .ok (.ow (ds.map fun d => .bool (smB d)), []) := by
      refine lc_bool smB (by omega) rfl (fun d hd st => ⟨[.im (.int n), .im v, .im d, .no], by simp, ?_⟩) ?_
      · simp [law_fr_ok d (hN d hd).1 (hN d hd).2]
      · cases v <;> first | (cases hv; simp) | cases hv
    cases hs : ds.all smB with
    | false =>
      by_cases h1 : 2 * n + 2 ≤ ds.length
      case neg =>
        have h1' : ¬ (2 * (n : Int) + 2 ≤ (ds.length : Int)) := by omega
        simp [-isI, F__law_is_row, m__law_is_row, J, L, m2, rowD, hv, rowL, hs, h1']
      by_cases h2 : ds.length ≤ 12
      case neg =>
        have h1' : (2 * (n : Int) + 2 ≤ (ds.length : Int)) := by omega
        have h2' : ¬ ((ds.length : Int) ≤ 12) := by omega
        simp [-isI, F__law_is_row, m__law_is_row, J, L, m2, rowD, hv, rowL, hs, h1', h2']
      have h1' : (2 * (n : Int) + 2 ≤ (ds.length : Int)) := by omega
      have h2' : ((ds.length : Int) ≤ 12) := by omega
      simp [-isI, F__law_is_row, m__law_is_row, A, J, L, m2, rowD, hv, rowL, hs, h1', h2', al]
    | true =>
      have Z := zip_comp F__law_below (fun x y => lbel_ok) (n := n) hv hs hl []
      have Cn := cnt_comp (n := n) hv hs hl []
      by_cases h1 : 2 * n + 2 ≤ ds.length
      case neg =>
        have h1' : ¬ (2 * (n : Int) + 2 ≤ (ds.length : Int)) := by omega
        simp [-isI, F__law_is_row, m__law_is_row, A, J, al, L, m2, rowD, hv, rowL, hs, h1, h1']
      by_cases h2 : ds.length ≤ 12
      case neg =>
        have h1' : (2 * (n : Int) + 2 ≤ (ds.length : Int)) := by omega
        have h2' : ¬ ((ds.length : Int) ≤ 12) := by omega
        simp [-isI, F__law_is_row, m__law_is_row, A, J, al, L, m2, rowD, hv, rowL, hs, h1, h1', h2, h2']
      have h1' : (2 * (n : Int) + 2 ≤ (ds.length : Int)) := by omega
      have h2' : ((ds.length : Int) ≤ 12) := by omega
      have az := bAny_map (zipL ds ds.tail) prB
      have ac := bAny_map ds (cnB n ds)
      cases hz : (zipL ds ds.tail).any prB with
      | true => simp [-isI, F__law_is_row, m__law_is_row, A, J, al, L, m2, rowD, hv, rowL, hs, h1, h1', h2, h2', Z, az, hz]
      | false =>
        cases hc : ds.any (cnB n ds) with
        | true => simp [-isI, F__law_is_row, m__law_is_row, A, J, al, L, m2, rowD, hv, rowL, hs, h1, h1', h2, h2', Z, az, hz, Cn, ac, hc]
        | false =>
          have i1 := at_ok ds n (by omega)
          have i2 := at_ok ds (ds.length - 1 - n) (by omega)
          have e2 : ((ds.length - 1 - n : Nat) : Int) = (ds.length : Int) - 1 - (n : Int) := by omega
          rw [e2] at i2
          have X1 : oIx v (.int n) = .ok (.im (nth ds n)) := by
            cases v <;> first | (cases hv; simp [i1]) | cases hv
          have X2 : oIx v (.int ((ds.length : Int) - 1 - (n : Int))) = .ok (.im (nth ds (ds.length - 1 - n))) := by
            cases v <;> first | (cases hv; simp [i2]) | cases hv
          have bl := lbel_ok (sm_getD hs (i := n) (by omega)) (sm_getD hs (i := ds.length - 1 - n) (by omega))
          simp [-isI, F__law_is_row, m__law_is_row, A, J, al, L, m2, rowD, hv, rowL, hs, h1, h1', h2, h2', Z, az, hz, Cn, ac, hc, X1, X2, bl]
end L_k46

namespace L_k46
open BP
theorem Qs_frac {t b : Int} (h1 : t.natAbs < 8) (h2 : 0 < b) (h3 : b < 8) : Qs 3 (Rat.divInt t b) := by
  obtain ⟨n, rfl⟩ : ∃ n : Nat, b = n := ⟨b.toNat, by omega⟩
  exact Qs_div (by omega) (by omega) (by omega)
theorem rep_q (m : Nat) (q : Rat) : (List.replicate m [qD q]).flatten = (List.replicate m q).map qD := by
  induction m with
  | zero => rfl
  | succ m ih => rw [List.replicate_succ, List.flatten_cons, ih, List.replicate_succ, List.map_cons]; rfl
theorem one_qD : (PySem.PyData.tuple [.int 1, .int 1]) = qD 1 := rfl
theorem loop1 (n : Nat) (hn : n ≤ 3) (ends : Int) : ∀ (ts : List D) (k : Nat) (here : Rat) (found : List Rat) (x y : EV) (st : Pt), (∀ t ∈ ts, ∃ i, t = .int i) → Qs k here → k + 4 * ts.length ≤ 90 → (∀ q ∈ found, Qs 90 q) → found.length + 4 * ts.length ≤ 100 → isPt x = false → isPt y = false → PotOk st →
    ∃ (here' : Rat) (found' : List Rat) (x' y' : EV) (st' : Pt), forL (.nm 6) b__law_knots_1 ts [.pt, .im (.int n), .im (.int 12), .im (qD here), .im (.list (found.map qD)), .im (.int ends), x, y] st = .ok (.nx [.pt, .im (.int n), .im (.int 12), .im (qD here'), .im (.list (found'.map qD)), .im (.int ends), x', y'] st') ∧
      PotOk st' ∧ Qs (k + 4 * ts.length) here' ∧ (∀ q ∈ found', Qs 90 q) ∧ found.length + ts.length ≤ found'.length ∧ found'.length ≤ found.length + 4 * ts.length ∧ isPt x' = false ∧ isPt y' = false
  | [], k, here, found, x, y, st, _, hq, _, hf, _, hx, hy, hp => ⟨here, found, x, y, st, by simp [forL], hp, hq, hf, by simp, by simp, hx, hy⟩
  | t :: ts, k, here, found, x, y, st, ht, hq, hk, hf, hl, hx, hy, hp => by
    obtain ⟨i, rfl⟩ := ht t List.mem_cons_self
    simp only [List.length_cons] at hk hl
    -- many
    obtain ⟨m, st1, e1, hm1, hm2, hp1⟩ : ∃ (m : Int) (st1 : Pt), (mIf (mAnd (mBin oEq (mVar 6) (mC (.int 0))) (mBin oEq (mVar 5) (mC (.int 0)))) (mBin oAdd (mVar 1) (mC (.int 1))) (mBin oAdd (mC (.int 1)) (mDraw F__law_draw (aCons (mBin oAdd (mVar 1) (mC (.int 1))) aNil)))) [.pt, .im (.int n), .im (.int 12), .im (qD here), .im (.list (found.map qD)), .im (.int ends), .im (.int i), y] st = .ok (.im (.int m), st1) ∧ 1 ≤ m ∧ m ≤ 4 ∧ PotOk st1 := by
      obtain ⟨d, st1, e, d1, d2, d3⟩ := draw_ok (n + 1) st (by omega) (by omega) hp
      by_cases h1 : (i == 0) = true
      · by_cases h2 : (ends == 0) = true
        · exact ⟨n + 1, st, by simp [sh_int, eqv_int, h1, h2], by omega, by omega, hp⟩
        · exact ⟨1 + d, st1, by simp [sh_int, eqv_int, h1, h2, e], by omega, by omega, d3⟩
      · exact ⟨1 + d, st1, by simp [sh_int, eqv_int, h1, e], by omega, by omega, d3⟩
    obtain ⟨d2, st2, e2, a2, b2, hp2⟩ := draw_ok 4 st1 (by omega) (by omega) hp1
    obtain ⟨d3, st3, e3, a3, b3, hp3⟩ := draw_ok 2 st2 (by omega) (by omega) hp2
    obtain ⟨mm, rfl⟩ : ∃ mm : Nat, m = mm := ⟨m.toNat, by omega⟩
    have M := made_ok (1 + d2) (1 + d3) (by omega) (Nat.lt_of_lt_of_le (show (1 + d3).natAbs < 2 ^ 3 by omega) (Nat.pow_le_pow_right (by decide) (by decide)))
    have Q3 : Qs 3 (Rat.divInt (1 + d2) (1 + d3)) := Qs_frac (by omega) (by omega) (by omega)
    have P := plus_ok k 3 here _ hq Q3 (by omega)
    obtain ⟨here', found', x', y', st', e4, r1, r2, r3, r4, r5, r6, r7⟩ := loop1 n hn ends ts (k + 3 + 1) (here + Rat.divInt (1 + d2) (1 + d3)) (found ++ List.replicate mm here) (.im (.int i)) (.im (.int mm)) st3 (fun t h => ht t (List.mem_cons_of_mem _ h)) (Qs_add hq Q3) (by omega) (fun q h => by
      rcases List.mem_append.mp h with h | h
      · exact hf q h
      · rw [(List.mem_replicate.mp h).2]
        exact hq.mono (by omega)) (by
      rw [List.length_append, List.length_replicate]
      omega) rfl rfl hp3
    rw [List.length_append, List.length_replicate] at r4 r5
    refine ⟨here', found', x', y', st', ?_, r1, ?_, r3, ?_, ?_, r6, r7⟩
    · have l1 : found.length + mm ≤ 1000000 := by omega
      have l2 : mm ≤ 1000000 := by omega
      have l3 : (-1000000 : Int) ≤ (mm : Int) := by omega
      have l4 : (mm : Int) ≤ 1000000 := by omega
      rw [List.map_append, List.map_replicate] at e4
      simp [-mIf, forL, hx, b__law_knots_1, e1, hy, rep_q, l1, l2, l3, l4, e2, e3, M, P]
      exact e4
    · rw [List.length_cons]
      exact r2.mono (by omega)
    · rw [List.length_cons]
      omega
    · rw [List.length_cons]
      omega
end L_k46

namespace L_k46
open BP
theorem iR1 {m : ME} {env : Env} {st st' : Pt} {n : Int} (h : m env st = .ok (.im (.int n), st')) (h1 : n ≤ 1000000) (h2 : -1000000 ≤ n) : iRange1 m env st = .ok (rangeL 0 n, st') := by
  unfold iRange1
  rw [h]
  exact if_pos ⟨h1, h2⟩
theorem Qs1 : Qs 3 1 := ⟨by decide, by decide⟩
theorem loop2 (n : Nat) (hn : n ≤ 3) (ends : Int) : ∀ (ts : List D) (k : Nat) (here : Rat) (found : List Rat) (x y : EV) (st : Pt), (∀ t ∈ ts, ∃ i, t = .int i) → Qs k here → k + 4 * ts.length ≤ 90 → (∀ q ∈ found, Qs 90 q) → found.length + 4 * ts.length ≤ 100 → isPt x = false →
    ∃ (here' : Rat) (found' : List Rat) (x' : EV), forL (.nm 6) b__law_knots_2 ts [.pt, .im (.int n), .im (.int 12), .im (qD here), .im (.list (found.map qD)), .im (.int ends), x, y] st = .ok (.nx [.pt, .im (.int n), .im (.int 12), .im (qD here'), .im (.list (found'.map qD)), .im (.int ends), x', y] st) ∧
      Qs (k + 4 * ts.length) here' ∧ (∀ q ∈ found', Qs 90 q) ∧ (2 * n + 2 ≤ found'.length ∨ found.length + ts.length ≤ found'.length) ∧ found.length ≤ found'.length ∧ found'.length ≤ found.length + ts.length
  | [], k, here, found, x, y, st, _, hq, _, hf, _, hx => ⟨here, found, x, by simp [forL], hq, hf, by simp, by simp, by simp⟩
  | t :: ts, k, here, found, x, y, st, ht, hq, hk, hf, hl, hx => by
    obtain ⟨i, rfl⟩ := ht t List.mem_cons_self
    simp only [List.length_cons] at hk hl
    have P := plus_ok k 3 here 1 hq Qs1 (by omega)
    have m2 : mulOk 2 (n : Int) = true := mulOk_of 2 2 (by decide) (by omega) (by decide)
    have hq' : Qs (k + 3 + 1) (here + 1) := Qs_add hq Qs1
    by_cases hlt : found.length < 2 * n + 2
    · have hlt' : (found.length : Int) < 2 * (n : Int) + 2 := by omega
      obtain ⟨here', found', x', e4, r2, r3, r4, r5, r6⟩ := loop2 n hn ends ts (k + 3 + 1) (here + 1) (found ++ [here + 1]) (.im (.int i)) y st (fun t h => ht t (List.mem_cons_of_mem _ h)) hq' (by omega) (fun q h => by
        rcases List.mem_append.mp h with h | h
        · exact hf q h
        · rw [List.mem_singleton.mp h]
          exact hq'.mono (by omega)) (by
        rw [List.length_append]
        show found.length + 1 + _ ≤ _
        omega) rfl
      rw [List.length_append] at r4 r5 r6
      simp only [List.length_cons, List.length_nil] at r4 r5 r6
      refine ⟨here', found', x', ?_, ?_, r3, ?_, by omega, ?_⟩
      · have l1 : found.length + 1 ≤ 1000000 := by omega
        rw [List.map_append] at e4
        simp [forL, hx, b__law_knots_2, one_qD, P, m2, hlt', l1]
        exact e4
      · rw [List.length_cons]
        exact r2.mono (by omega)
      · rw [List.length_cons]
        omega
      · rw [List.length_cons]
        omega
    · have hlt' : ¬ (found.length : Int) < 2 * (n : Int) + 2 := by omega
      obtain ⟨here', found', x', e4, r2, r3, r4, r5, r6⟩ := loop2 n hn ends ts (k + 3 + 1) (here + 1) found (.im (.int i)) y st (fun t h => ht t (List.mem_cons_of_mem _ h)) hq' (by omega) hf (by omega) rfl
      refine ⟨here', found', x', ?_, ?_, r3, .inl (by omega), by omega, ?_⟩
      · have l1 : found.length ≤ 1000000 := by omega
        simp [forL, hx, b__law_knots_2, one_qD, P, m2, hlt', l1]
        exact e4
      · rw [List.length_cons]
        exact r2.mono (by omega)
      · rw [List.length_cons]
        omega
theorem range_int (lo hi : Int) : ∀ t ∈ rangeL lo hi, ∃ i, t = .int i := fun t h => by
  obtain ⟨k, _, rfl⟩ := List.mem_map.mp h
  exact ⟨_, rfl⟩
theorem range_len (lo hi : Int) : (rangeL lo hi).length = (hi - lo).toNat := by simp [rangeL]
theorem knots_ok (n : Nat) (hn : n ≤ 3) (st : Pt) (hp : PotOk st) : ∃ (qs : List Rat) (st' : Pt), F__law_knots [.int n, .int 12] st = .ok (.list (qs.map qD), st') ∧ PotOk st' ∧ 1 ≤ qs.length ∧ qs.length ≤ 60 ∧ ∀ q ∈ qs, Qs 95 q := by
  obtain ⟨d1, st1, e1, a1, b1, hp1⟩ := draw_ok 9 st (by omega) (by omega) hp
  obtain ⟨d2, st2, e2, a2, b2, hp2⟩ := draw_ok 2 st1 (by omega) (by omega) hp1
  obtain ⟨d3, st3, e3, a3, b3, hp3⟩ := draw_ok 2 st2 (by omega) (by omega) hp2
  obtain ⟨d4, st4, e4, a4, b4, hp4⟩ := draw_ok 5 st3 (by omega) (by omega) hp3
  have M := made_ok (d1 - 5) (1 + d2) (by omega) (Nat.lt_of_lt_of_le (show (1 + d2).natAbs < 2 ^ 3 by omega) (Nat.pow_le_pow_right (by decide) (by decide)))
  have Q3 : Qs 3 (Rat.divInt (d1 - 5) (1 + d2)) := Qs_frac (by omega) (by omega) (by omega)
  have hr : (rangeL 0 (2 + d4)).length ≤ 6 := by rw [range_len]; omega
  have hr0 : 2 ≤ (rangeL 0 (2 + d4)).length := by rw [range_len]; omega
  obtain ⟨here, found, x, y, st5, e5, hp5, q5, f5, l5, l5', x5, y5⟩ := loop1 n hn d3 (rangeL 0 (2 + d4)) 3 _ [] .no .no st4 (range_int _ _) Q3 (by omega) (fun q h => by simp at h) (by simp; omega) rfl rfl hp4
  simp only [List.length_nil] at l5 l5'
  -- found[:11 - n] + [here] * ..
  obtain ⟨m, e6, m1, m2⟩ : ∃ m : Nat, (∀ st, (mIf (mBin oEq (mVar 5) (mC (.int 0))) (mBin oAdd (mVar 1) (mC (.int 1))) (mC (.int 1))) [.pt, .im (.int n), .im (.int 12), .im (qD here), .im (.list (found.map qD)), .im (.int d3), x, y] st = .ok (.im (.int m), st)) ∧ 1 ≤ m ∧ m ≤ 4 := by
    by_cases h : (d3 == 0) = true
    · exact ⟨n + 1, fun st => by simp [sh_int, eqv_int, h], by omega, by omega⟩
    · exact ⟨1, fun st => by simp [sh_int, eqv_int, h], by omega, by omega⟩
  have c1 : cutD (found.map qD) none (some (12 - (n : Int) - 1)) = (found.take (11 - n)).map qD := by
    have : 12 - (n : Int) - 1 = ((11 - n : Nat) : Int) := by omega
    rw [this, cut_to, List.map_take]
  have hf2 : ∀ q ∈ found.take (11 - n) ++ List.replicate m here, Qs 90 q := fun q h => by
    rcases List.mem_append.mp h with h | h
    · exact f5 q (List.mem_of_mem_take h)
    · rw [(List.mem_replicate.mp h).2]
      exact q5.mono (by omega)
  have hl2 : (found.take (11 - n) ++ List.replicate m here).length = min (11 - n) found.length + m := by
    rw [List.length_append, List.length_take, List.length_replicate]
  have hr2 : (rangeL 0 (2 * (n : Int) + 2)).length = 2 * n + 2 := by rw [range_len]; omega
  obtain ⟨here2, found2, x2, e7, q7, f7, l7, l7', l7''⟩ := loop2 n hn d3 (rangeL 0 (2 * (n : Int) + 2)) (3 + 4 * (rangeL 0 (2 + d4)).length) here (found.take (11 - n) ++ List.replicate m here) x y st5 (range_int _ _) q5 (by omega) hf2 (by omega) x5
  have mk : mulOk 2 (n : Int) = true := mulOk_of 2 2 (by decide) (by omega) (by decide)
  have hlen : 2 * n + 2 ≤ found2.length := by omega
  have hup : found2.length ≤ 23 := by omega
  rw [List.map_append, List.map_replicate, List.map_take] at e7
  have i1 := at_ok (found2.map qD) n (by rw [List.length_map]; omega)
  have i2 := at_ok (found2.map qD) (found2.length - 1 - n) (by rw [List.length_map]; omega)
  have i3 := at_ok (found2.map qD) 0 (by rw [List.length_map]; omega)
  have e2' : ((found2.length - 1 - n : Nat) : Int) = (found2.length : Int) - 1 - (n : Int) := by omega
  rw [e2'] at i2
  have nq : ∀ i, i < found2.length → ∃ q ∈ found2, nth (found2.map qD) i = qD q := fun i hi => ⟨found2[i], List.getElem_mem hi, by simp [nth, hi]⟩
  obtain ⟨qa, ha, ea⟩ := nq n (by omega)
  obtain ⟨qb, hb, eb⟩ := nq (found2.length - 1 - n) (by omega)
  obtain ⟨qc, hc, ec⟩ := nq 0 (by omega)
  have sq : ∀ q : Rat, PySem.SeqAt.shaped (qD q) = true := fun q => sh_pair _ _
  have r1 : (0 : Int) ≤ 2 + d4 := by omega
  have t1 : 2 + d4 ≤ 1000000 := by omega
  have t2 : -1000000 ≤ 2 + d4 := by omega
  have t3 : 2 * (n : Int) + 2 ≤ 1000000 := by omega
  have t4 : -1000000 ≤ 2 * (n : Int) + 2 := by omega
  have g1 : min (11 - n) found.length + m ≤ 1000000 := by omega
  have g2 : m ≤ 1000000 := by omega
  have g3 : (-1000000 : Int) ≤ (m : Int) := by omega
  have g4 : (m : Int) ≤ 1000000 := by omega
  have g5 : (n : Int) + 1 ≤ 1000000 := by omega
  have g6 : (-1000000 : Int) ≤ (n : Int) + 1 := by omega
  have g7 : ((n : Int) + 1).toNat = n + 1 := by omega
  have g8 : n + 1 ≤ 1000000 := by omega
  have g9 : n + 1 + (n + 1) ≤ 1000000 := by omega
  simp only [List.map_nil] at e5
  have s7 : k__law_knots_7 [.pt, .im (.int n), .im (.int 12), .im (qD (Rat.divInt (d1 - 5) (1 + d2))), .im (.list []), .im (.int d3), .no, .no] st3 = k__law_knots_6 [.pt, .im (.int n), .im (.int 12), .im (qD here), .im (.list (found.map qD)), .im (.int d3), x, y] st5 := by
    have Z := iR1 (m := mBin oAdd (mC (.int 2)) (mDraw F__law_draw (aCons (mC (.int 5)) aNil))) (env := [.pt, .im (.int n), .im (.int 12), .im (qD (Rat.divInt (d1 - 5) (1 + d2))), .im (.list []), .im (.int d3), .no, .no]) (st := st3) (st' := st4) (n := 2 + d4) (by simp [e4]) t1 t2
    simp [-iRange1, k__law_knots_7, sFor, Z, e5]
  have s6 : k__law_knots_6 [.pt, .im (.int n), .im (.int 12), .im (qD here), .im (.list (found.map qD)), .im (.int d3), x, y] st5 = k__law_knots_5 [.pt, .im (.int n), .im (.int 12), .im (qD here), .im (.list (List.take (11 - n) (List.map qD found) ++ List.replicate m (qD here))), .im (.int d3), x, y] st5 := by
    simp [k__law_knots_6, -mIf, e6, c1, rep_q, g1, g2, g3, g4]
  have s5 : k__law_knots_5 [.pt, .im (.int n), .im (.int 12), .im (qD here), .im (.list (List.take (11 - n) (List.map qD found) ++ List.replicate m (qD here))), .im (.int d3), x, y] st5 = k__law_knots_4 [.pt, .im (.int n), .im (.int 12), .im (qD here2), .im (.list (found2.map qD)), .im (.int d3), x2, y] st5 := by
    have Z := iR1 (m := mBin oAdd (mBin oMul (mC (.int 2)) (mVar 1)) (mC (.int 2))) (env := [.pt, .im (.int n), .im (.int 12), .im (qD here), .im (.list (List.take (11 - n) (List.map qD found) ++ List.replicate m (qD here))), .im (.int d3), x, y]) (st := st5) (st' := st5) (n := 2 * (n : Int) + 2) (by simp [mk]) t3 t4
    simp [-iRange1, k__law_knots_5, sFor, Z, e7]
  have s8 : F__law_knots [.int n, .int 12] st = (k__law_knots_7 [.pt, .im (.int n), .im (.int 12), .im (qD (Rat.divInt (d1 - 5) (1 + d2))), .im (.list []), .im (.int d3), .no, .no] st3).bind fun o => match o with
      | .nx _ st1 => .ok (.none, st1)
      | .rt x st1 => .ok (x, st1) := by
    simp [F__law_knots, m__law_knots, e1, e2, M, e3]
    try rfl
  rw [s8, s7, s6, s5]
  have i3' : atD (found2.map qD) 0 = some (nth (found2.map qD) 0) := i3
  cases hv : PySem.PyData.eqv (qD qa) (qD qb) with
  | true =>
    refine ⟨List.replicate (n + 1) qc ++ List.replicate (n + 1) here2, st5, ?_, hp5, by simp; omega, by simp; omega, fun q h => ?_⟩
    · simp [k__law_knots_4, rep_q, i1, i2, i3', ea, eb, ec, sq, hv, g5, g6, g7, g8, g9]
    · rcases List.mem_append.mp h with h | h
      · rw [(List.mem_replicate.mp h).2]
        exact (f7 _ hc).mono (by omega)
      · rw [(List.mem_replicate.mp h).2]
        exact q7.mono (by omega)
  | false =>
    refine ⟨found2, st5, ?_, hp5, by omega, by omega, fun q h => (f7 q h).mono (by omega)⟩
    simp [k__law_knots_4, k__law_knots_3, i1, i2, ea, eb, sq, hv]
end L_k46

namespace L_k46
open BP
theorem pick_ok (ds : List D) (h0 : ds ≠ []) (h1 : ds.length < 1000000) (st : Pt) (hp : PotOk st) : ∃ d ∈ ds, ∃ st', F__law_pick [.list ds] st = .ok (d, st') ∧ PotOk st' := by
  have hl : 0 < ds.length := List.length_pos_iff.mpr h0
  obtain ⟨i, st1, e, a, b, hp1⟩ := draw_ok ds.length st (by omega) (by omega) hp
  obtain ⟨n, rfl⟩ : ∃ n : Nat, i = n := ⟨i.toNat, by omega⟩
  have hn : n < ds.length := by omega
  refine ⟨nth ds n, ?_, st1, ?_, hp1⟩
  · have : nth ds n = ds[n] := by simp [nth, hn]
    rw [this]
    exact List.getElem_mem hn
  · simp [F__law_pick, m__law_pick, e, at_ok ds n hn]
/-- an item that a row may hold -/
def El (d : D) : Prop := Tame 2000 3 d ∧ OkN d ∧ ∀ xs, d = .tuple xs → xs.length ≤ 1000000
def Good (v : D) : Prop := Tame 900000 5 v ∧ ∀ ds, seqB v = some ds → ds.length ≤ 1000 ∧ ∀ d ∈ ds, OkN d ∧ ∀ xs, d = .tuple xs → xs.length ≤ 1000000
theorem good_list {ds : List D} (h : ∀ d ∈ ds, El d) (hl : ds.length ≤ 200) : Good (.list ds) ∧ Good (.tuple ds) := by
  have t := TameAll.of fun d hd => (h d hd).1
  have hm : (2000 + 2) * ds.length ≤ (2000 + 2) * 200 := Nat.mul_le_mul_left _ hl
  refine ⟨⟨t.list.mono (by omega) (by omega), fun es e => ?_⟩, t.tuple.mono (by omega) (by omega), fun es e => ?_⟩ <;>
  · cases e
    exact ⟨by omega, fun d hd => (h d hd).2⟩
theorem okN_small {a b : Int} (h : b.natAbs < 2 ^ 200) : OkN (.tuple [.int a, .int b]) := fun x y e => by
  cases e
  exact Nat.lt_of_lt_of_le h (Nat.pow_le_pow_right (by decide) (by omega))
theorem el_pair {a b : Int} (ha : a.natAbs < 2 ^ 150) (hb : b.natAbs < 2 ^ 150) : El (.tuple [.int a, .int b]) := by
  refine ⟨(TameAll.tuple (TameAll.cons (tame_int ha (by omega)) (TameAll.cons (tame_int hb (by omega)) tameAll_nil))).mono (by omega) (by omega), okN_small (Nat.lt_of_lt_of_le hb (Nat.pow_le_pow_right (by decide) (by omega))), fun xs e => ?_⟩
  cases e
  simp
theorem el_q {q : Rat} (h : Qs 120 q) : El (qD q) :=
  el_pair (Nat.lt_of_lt_of_le h.1 (Nat.pow_le_pow_right (by decide) (by omega))) (by
    rw [Int.natAbs_natCast]
    exact Nat.lt_of_lt_of_le h.2 (Nat.pow_le_pow_right (by decide) (by omega)))
theorem el_of {d : D} {n k : Nat} (t : Tame n k d) (hn : n ≤ 2000) (hk : k ≤ 3) (h : ∀ xs, d = .tuple xs → xs.length ≤ 1000000 ∧ ∀ a b, xs ≠ [.int a, .int b]) : El d :=
  ⟨t.mono hn hk, fun a b e => absurd rfl ((h _ e).2 a b), fun xs e => (h xs e).1⟩
def third : Rat := ⟨1, 3, by decide, by decide⟩
def half : Rat := ⟨1, 2, by decide, by decide⟩
theorem at_last {ds : List D} (h : ds ≠ []) : atD ds (-1) = some (nth ds (ds.length - 1)) := by
  have hl : 0 < ds.length := List.length_pos_iff.mpr h
  have e := at_ok ds (ds.length - 1) (by omega)
  unfold atD ixD
  rw [if_neg (by omega), if_pos (by omega)]
  unfold atD ixD at e
  rw [if_pos (by omega), if_pos (by omega)] at e
  have e2 : (-1 + (ds.length : Int)).toNat = ((ds.length - 1 : Nat) : Int).toNat := by omega
  rw [e2]
  exact e
theorem bent_ok (qs : List Rat) (h1 : 1 ≤ qs.length) (h2 : qs.length ≤ 60) (hq : ∀ q ∈ qs, Qs 95 q) (st : Pt) (hp : PotOk st) : ∃ v st', F__law_bent [.list (qs.map qD)] st = .ok (v, st') ∧ PotOk st' ∧ Good v := by
  obtain ⟨way, st1, e1, a1, b1, hp1⟩ := draw_ok 9 st (by omega) (by omega) hp
  obtain ⟨k, st2, e2, a2, b2, hp2⟩ := draw_ok qs.length st1 (by omega) (by omega) hp1
  obtain ⟨n, rfl⟩ : ∃ n : Nat, k = n := ⟨k.toNat, by omega⟩
  have hn : n < qs.length := by omega
  have elq : ∀ d ∈ qs.map qD, El d := fun d hd => by
    obtain ⟨q, hm, rfl⟩ := List.mem_map.mp hd
    exact el_q ((hq q hm).mono (by omega))
  have s8 : F__law_bent [.list (qs.map qD)] st = (k__law_bent_8 [.pt, .im (.list (qs.map qD)), .im (.int way), .im (.int n), .no, .no] st2).bind fun o => match o with
      | .nx _ st1 => .ok (.none, st1)
      | .rt x st1 => .ok (x, st1) := by
    simp [F__law_bent, m__law_bent, e1, e2]
    try rfl
  have c1 := cut_to (qs.map qD) n
  have c2 : cutD (qs.map qD) none (some ((n : Int) + 1)) = (qs.map qD).take (n + 1) := cut_to (qs.map qD) (n + 1)
  have c3 := cut_from (qs.map qD) n
  have c4 : cutD (qs.map qD) (some ((n : Int) + 1)) none = (qs.map qD).drop (n + 1) := cut_from (qs.map qD) (n + 1)
  rw [s8]
  cases h0 : (way == 0) with
  | true =>
    refine ⟨.list ((qs.map qD).take n ++ (qs.map qD).drop (n + 1)), st2, ?_, hp2, (good_list (fun d hd => ?_) ?_).1⟩
    · have l : min n qs.length + (qs.length - (n + 1)) ≤ 1000000 := by omega
      simp [-List.map_take, -List.map_drop, k__law_bent_8, sh_int, eqv_int, h0, c1, c4, l]
    · rcases List.mem_append.mp hd with hd | hd
      · exact elq d (List.mem_of_mem_take hd)
      · exact elq d (List.mem_of_mem_drop hd)
    · simp
      omega
  | false =>
  have r8 : k__law_bent_8 [.pt, .im (.list (qs.map qD)), .im (.int way), .im (.int n), .no, .no] st2 = k__law_bent_7 [.pt, .im (.list (qs.map qD)), .im (.int way), .im (.int n), .no, .no] st2 := by
    simp [k__law_bent_8, sh_int, eqv_int, h0]
  rw [r8]
  cases h0 : (way == 1) with
  | true =>
    refine ⟨.list ((qs.map qD).take (n + 1) ++ (qs.map qD).drop n), st2, ?_, hp2, (good_list (fun d hd => ?_) ?_).1⟩
    · have l : min (n + 1) qs.length + (qs.length - n) ≤ 1000000 := by omega
      simp [-List.map_take, -List.map_drop, k__law_bent_7, sh_int, eqv_int, h0, c2, c3, l]
    · rcases List.mem_append.mp hd with hd | hd
      · exact elq d (List.mem_of_mem_take hd)
      · exact elq d (List.mem_of_mem_drop hd)
    · simp
      omega
  | false =>
  have r7 : k__law_bent_7 [.pt, .im (.list (qs.map qD)), .im (.int way), .im (.int n), .no, .no] st2 = k__law_bent_6 [.pt, .im (.list (qs.map qD)), .im (.int way), .im (.int n), .no, .no] st2 := by
    simp [k__law_bent_7, sh_int, eqv_int, h0]
  rw [r7]
  cases h0 : (way == 2) with
  | true =>
    refine ⟨.list (qs.map qD).reverse, st2, ?_, hp2, (good_list (fun d hd => elq d (List.mem_reverse.mp hd)) (by simp; omega)).1⟩
    simp [k__law_bent_6, sh_int, eqv_int, h0]
  | false =>
  have r6 : k__law_bent_6 [.pt, .im (.list (qs.map qD)), .im (.int way), .im (.int n), .no, .no] st2 = k__law_bent_5 [.pt, .im (.list (qs.map qD)), .im (.int way), .im (.int n), .no, .no] st2 := by
    simp [k__law_bent_6, sh_int, eqv_int, h0]
  rw [r6]
  cases h0 : (way == 3) with
  | true =>
    refine ⟨.tuple (qs.map qD), st2, ?_, hp2, (good_list elq (by simp; omega)).2⟩
    simp [k__law_bent_5, sh_int, eqv_int, h0]
  | false =>
  have r5 : k__law_bent_5 [.pt, .im (.list (qs.map qD)), .im (.int way), .im (.int n), .no, .no] st2 = k__law_bent_4 [.pt, .im (.list (qs.map qD)), .im (.int way), .im (.int n), .no, .no] st2 := by
    simp [k__law_bent_5, sh_int, eqv_int, h0]
  rw [r5]
  have nq : ∀ i, i < qs.length → ∃ q ∈ qs, nth (qs.map qD) i = qD q := fun i hi => ⟨qs[i], List.getElem_mem hi, by simp [nth, hi]⟩
  cases h0 : (way == 4) with
  | true =>
    obtain ⟨q, hm, e⟩ := nq (qs.length - 1) (by omega)
    have ne : qs.map qD ≠ [] := fun z => by
      have := congrArg List.length z
      simp at this
      rw [this] at h1
      simp at h1
    have la := at_last ne
    rw [List.length_map, e] at la
    have P : F__law_plus [qD q, .tuple [.int 1, .int 2]] = .ok (qD (q + half)) := plus_ok 95 3 q half (hq q hm) ⟨by decide, by decide⟩ (by omega)
    have l : qs.length + 1 ≤ 1000000 := by omega
    refine ⟨.list (qs.map qD ++ [qD (q + half)]), st2, ?_, hp2, (good_list (fun d hd => ?_) ?_).1⟩
    · simp [k__law_bent_4, sh_int, eqv_int, h0, la, P, l]
    · rcases List.mem_append.mp hd with hd | hd
      · exact elq d hd
      · rw [List.mem_singleton.mp hd]
        exact el_q (((Qs_add (hq q hm) (show Qs 3 half from ⟨by decide, by decide⟩))).mono (by omega))
    · simp
      omega
  | false =>
  have r4 : k__law_bent_4 [.pt, .im (.list (qs.map qD)), .im (.int way), .im (.int n), .no, .no] st2 = k__law_bent_3 [.pt, .im (.list (qs.map qD)), .im (.int way), .im (.int n), .no, .no] st2 := by
    simp [k__law_bent_4, sh_int, eqv_int, h0]
  rw [r4]
  obtain ⟨q, hm, e⟩ := nq n hn
  have hq1 := hq q hm
  have r3 : k__law_bent_3 [.pt, .im (.list (qs.map qD)), .im (.int way), .im (.int n), .no, .no] st2 = k__law_bent_2 [.pt, .im (.list (qs.map qD)), .im (.int way), .im (.int n), .im (.tuple [.int q.num, .int q.den]), .no] st2 := by
    have i1 := at_ok (qs.map qD) n (by rw [List.length_map]; exact hn)
    rw [e] at i1
    simp [k__law_bent_3, i1, qD]
  rw [r3]
  have ma : q.num.natAbs < 2 ^ 95 := hq1.1
  have mb : ((q.den : Int)).natAbs < 2 ^ 95 := by
    rw [Int.natAbs_natCast]
    exact hq1.2
  have k2 : mulOk 2 q.num = true := mulOk_of 2 95 (by decide) ma (by omega)
  have k3 : mulOk 2 (q.den : Int) = true := mulOk_of 2 95 (by decide) mb (by omega)
  have c5 : cutD [PySem.PyData.int q.num, .int (q.den : Int)] none (some 1) = [.int q.num] := cut_to _ 1
  obtain ⟨L, hL⟩ : ∃ L, L = [PySem.PyData.none, .int 0, .int q.num, .list [.int q.num, .int (q.den : Int)], .tuple [.int q.num], .tuple [.int q.num, .int (q.den : Int), .int 1], .tuple [.int (2 * q.num), .int (2 * (q.den : Int))], .tuple [.int (0 - q.num), .int (0 - (q.den : Int))],
      .tuple [.int q.num, .int 0], .tuple [.int q.num, .bool true], .tuple [.int 1000, .int 1], .tuple [.int 1, .int 100], .tuple [.int (-1000), .int 1], .str "1", .tuple []] := ⟨_, rfl⟩
  have r2 : k__law_bent_2 [.pt, .im (.list (qs.map qD)), .im (.int way), .im (.int n), .im (.tuple [.int q.num, .int q.den]), .no] st2 = k__law_bent_1 [.pt, .im (.list (qs.map qD)), .im (.int way), .im (.int n), .im (.tuple [.int q.num, .int q.den]), .im (.list L)] st2 := by
    rw [hL]
    simp [k__law_bent_2, k2, k3, c5]
  rw [r2]
  have ne : qs.map qD ≠ [] := fun z => by
    have := congrArg List.length z
    simp at this
    rw [this] at h1
    simp at h1
  obtain ⟨x1, hx1, st3, p1, hp3⟩ := pick_ok (qs.map qD) ne (by simp; omega) st2 hp2
  have P : F__law_plus [.tuple [.int q.num, .int q.den], .tuple [.int 1, .int 3]] = .ok (qD (q + third)) := plus_ok 95 3 q third hq1 ⟨by decide, by decide⟩ (by omega)
  have S : F__law_less [.tuple [.int q.num, .int q.den], .tuple [.int 1, .int 3]] = .ok (qD (q - third)) := less_ok 95 3 q third hq1 ⟨by decide, by decide⟩ (by omega)
  have hLl : L.length = 15 := by rw [hL]; rfl
  obtain ⟨x2, hx2, st4, p2, hp4⟩ := pick_ok (L ++ [qD (q + third), qD (q - third), x1]) (by simp) (by simp; omega) st3 hp3
  have l1 : L.length + 2 + 1 ≤ 1000000 := by omega
  have l0 : min n qs.length + 1 ≤ 1000000 := by omega
  have l2 : min n qs.length + 1 + (qs.length - (n + 1)) ≤ 1000000 := by omega
  refine ⟨.list ((qs.map qD).take n ++ [x2] ++ (qs.map qD).drop (n + 1)), st4, ?_, hp4, (good_list (fun d hd => ?_) ?_).1⟩
  · simp [-List.map_take, -List.map_drop, -List.append_assoc, k__law_bent_1, c1, c4, P, S, p1, hLl, p2, l0, l2]
  · rcases List.mem_append.mp hd with hd | hd
    · rcases List.mem_append.mp hd with hd | hd
      · exact elq d (List.mem_of_mem_take hd)
      · rw [List.mem_singleton.mp hd]
        have b1 : ∀ {m : Nat}, m < 2 ^ 95 → m < 2 ^ 150 := fun h => Nat.lt_of_lt_of_le h (Nat.pow_le_pow_right (by decide) (by decide))
        have ti := tame_int ma (by omega)
        have tb := tame_int mb (by omega)
        have t1 : Tame (2 + 2) 0 (.int 1) := tame_int (by decide) (by omega)
        rcases List.mem_append.mp hx2 with hx | hx
        · rw [hL] at hx
          simp only [List.mem_cons, List.not_mem_nil, or_false] at hx
          rcases hx with rfl | rfl | rfl | rfl | rfl | rfl | rfl | rfl | rfl | rfl | rfl | rfl | rfl | rfl | rfl
          · exact el_of tame_none (by omega) (by omega) fun xs e => nomatch e
          · exact el_of (tame_int (k := 2) (by decide) (by omega)) (by omega) (by omega) fun xs e => nomatch e
          · exact el_of ti (by omega) (by omega) fun xs e => nomatch e
          · exact el_of (TameAll.cons ti (TameAll.cons tb tameAll_nil)).list (by omega) (by omega) fun xs e => nomatch e
          · exact el_of (TameAll.cons ti tameAll_nil).tuple (by omega) (by omega) fun xs e => by
              cases e
              exact ⟨by simp, fun a b z => by simp at z⟩
          · exact el_of (TameAll.cons ti (TameAll.cons tb (TameAll.cons t1 (tameAll_nil.mono (Nat.zero_le 0) (Nat.zero_le 0))))).tuple (by omega) (by omega) fun xs e => by
              cases e
              exact ⟨by simp, fun a b z => by simp at z⟩
          · refine el_pair ?_ ?_
            · have : (2 * q.num).natAbs < 2 ^ 96 := by omega
              exact Nat.lt_of_lt_of_le this (Nat.pow_le_pow_right (by decide) (by decide))
            · have : (2 * (q.den : Int)).natAbs < 2 ^ 96 := by omega
              exact Nat.lt_of_lt_of_le this (Nat.pow_le_pow_right (by decide) (by decide))
          · refine el_pair (b1 ?_) (b1 ?_)
            · rw [Int.zero_sub, Int.natAbs_neg]
              exact ma
            · rw [Int.zero_sub, Int.natAbs_neg]
              exact mb
          · exact el_pair (b1 ma) (by decide)
          · exact el_of (TameAll.cons ti (TameAll.cons ((tame_bool true).mono (show 5 ≤ 97 by omega) (Nat.le_refl 0)) tameAll_nil)).tuple (by omega) (by omega) fun xs e => by
              cases e
              exact ⟨by simp, fun a b z => by simp at z⟩
          · exact el_pair (by decide) (by decide)
          · exact el_pair (by decide) (by decide)
          · exact el_pair (by decide) (by decide)
          · exact el_of (n := 10) (k := 0) ⟨rfl, rfl, by decide +kernel, Nat.le_refl _⟩ (by omega) (by omega) fun xs e => nomatch e
          · exact el_of (tameAll_nil.tuple) (by omega) (by omega) fun xs e => by
              cases e
              exact ⟨by simp, fun a b z => by simp at z⟩
        · simp only [List.mem_cons, List.not_mem_nil, or_false] at hx
          have q3 : Qs 3 third := ⟨by decide, by decide⟩
          rcases hx with rfl | rfl | rfl
          · exact el_q ((Qs_add hq1 q3).mono (by omega))
          · exact el_q ((Qs_sub hq1 q3).mono (by omega))
          · exact elq _ hx1
    · exact elq d (List.mem_of_mem_drop hd)
  · simp
    omega
end L_k46

namespace L_k46
open BP
theorem size_ok (n : Nat) (hn : n ≤ 3) : F_check_size [.int n] = .ok .none := by
  have h : (n : Int) ≤ 3 := by omega
  simp [F_check_size, m_check_size, F_is_within, m_is_within, is_integer_ok, intB, h]
theorem row_ok (n : Nat) (hn : n ≤ 3) (v : D) (hl : ∀ ds, seqB v = some ds → ds.length ≤ 1000) : F_is_knot_row [.int n, v] = .ok (.bool (rowD n v)) := by
  simp [F_is_knot_row, m_is_knot_row, size_ok n hn, row_of_ok n hn v hl]
theorem stretch_ok (n : Nat) (hn : n ≤ 3) (v : D) (ds : List D) (hv : seqB v = some ds) (hl : ds.length ≤ 1000) (h : rowL n ds = true) : F_stretch_of [.int n, v] = .ok (.tuple [nth ds n, nth ds (ds.length - 1 - n)]) ∧ smB (nth ds n) = true ∧ smB (nth ds (ds.length - 1 - n)) = true ∧
    oIx v (.int n) = .ok (.im (nth ds n)) ∧ oIx v (.int ((ds.length : Int) - 1 - (n : Int))) = .ok (.im (nth ds (ds.length - 1 - n))) ∧ bLen [v] = .ok (.im (.int ds.length)) := by
  have R := row_of_ok n hn v fun es e => by
    rw [hv] at e
    cases e
    exact hl
  have e1 : rowD n v = true := by
    unfold rowD
    rw [hv]
    exact h
  have L : bLen [v] = .ok (.im (.int ds.length)) := by
    cases v <;> first | (cases hv; simp) | cases hv
  unfold rowL at h
  simp only [Bool.and_eq_true, decide_eq_true_eq] at h
  obtain ⟨hs, ⟨h1, h2⟩, _⟩ := h
  have i1 := at_ok ds n (by omega)
  have i2 := at_ok ds (ds.length - 1 - n) (by omega)
  have e2 : ((ds.length - 1 - n : Nat) : Int) = (ds.length : Int) - 1 - (n : Int) := by omega
  rw [e2] at i2
  have X1 : oIx v (.int n) = .ok (.im (nth ds n)) := by
    cases v <;> first | (cases hv; simp [i1]) | cases hv
  have X2 : oIx v (.int ((ds.length : Int) - 1 - (n : Int))) = .ok (.im (nth ds (ds.length - 1 - n))) := by
    cases v <;> first | (cases hv; simp [i2]) | cases hv
  refine ⟨?_, sm_getD hs (by omega), sm_getD hs (by omega), X1, X2, L⟩
  simp [F_stretch_of, m_stretch_of, F_check_row, m_check_row, size_ok n hn, R, e1, F_ends_of, m_ends_of, X1, X2, L]
theorem tame_sm {d : D} (h : smB d = true) : Tame 50 1 d := by
  obtain ⟨a, b, rfl, a1, a2, a3⟩ := sm_of h
  have h1 := tame_int (i := a) (k := 10) (by omega) (by omega)
  have h2 := tame_int (i := b) (k := 10) (by omega) (by omega)
  exact (TameAll.tuple (TameAll.cons h1 (TameAll.cons h2 tameAll_nil))).mono (by omega) (by omega)
theorem body_ok (n : Nat) (hn : n ≤ 3) (v row vals : D) (x5 x6 x7 x8 x9 : EV) (st : Pt) (hv : Good v) (h5 : isPt x5 = false) (h6 : isPt x6 = false) :
    b__law_right_1 [.pt, .im (.int n), .im row, .im vals, .im v, x5, x6, x7, x8, x9] st = .ok (.nx [.pt, .im (.int n), .im row, .im vals, .im v, .im (.bool (rowD n v)), .im (.str (PySem.PyData.shown v)), x7, x8, x9] st) := by
  have A := law_row_ok n hn v (fun ds h => (hv.2 ds h).1) (fun ds h => (hv.2 ds h).2)
  have B := row_ok n hn v fun ds h => (hv.2 ds h).1
  have r1 : reprOk v = true := hv.1.repr (by omega) (by omega)
  have tb : ∀ b, Tame 5 0 (.bool b) := tame_bool
  have r2 : reprOk (.list [.bool (rowD n v), .bool (rowD n v)]) = true := (TameAll.cons (tb _) (TameAll.cons (tb _) tameAll_nil)).list.repr (by omega) (by omega)
  cases hd : rowD n v with
  | false =>
    rw [hd] at A B r2
    simp [-oNe, b__law_right_1, A, r1, B, h5, h6, r2, oNe_str]
  | true =>
    rw [hd] at A B r2
    obtain ⟨ds, hs, hr⟩ : ∃ ds, seqB v = some ds ∧ rowL n ds = true := by
      unfold rowD at hd
      split at hd
      · rename_i ds e
        exact ⟨ds, e, hd⟩
      · cases hd
    obtain ⟨S, s1, s2, X1, X2, L⟩ := stretch_ok n hn v ds hs (hv.2 ds hs).1 hr
    have tt := TameAll.tuple (TameAll.cons (tame_sm s1) (TameAll.cons (tame_sm s2) (tameAll_nil.mono (Nat.le_refl 0) (Nat.zero_le 1))))
    have r3 : reprOk (.list [.tuple [nth ds n, nth ds (ds.length - 1 - n)], .tuple [nth ds n, nth ds (ds.length - 1 - n)]]) = true := (TameAll.cons tt (TameAll.cons tt (tameAll_nil.mono (Nat.le_refl 0) (Nat.zero_le 2)))).list.repr (by omega) (by omega)
    simp [-oNe, b__law_right_1, A, r1, B, h5, h6, r2, oNe_str, S, X1, X2, L, r3]
theorem loopR (n : Nat) (hn : n ≤ 3) (row vals : D) (x7 x8 x9 : EV) : ∀ (vs : List D) (x4 x5 x6 : EV) (st : Pt), (∀ v ∈ vs, Good v) → isPt x4 = false → isPt x5 = false → isPt x6 = false →
    ∃ y4 y5 y6, forL (.nm 4) b__law_right_1 vs [.pt, .im (.int n), .im row, .im vals, x4, x5, x6, x7, x8, x9] st = .ok (.nx [.pt, .im (.int n), .im row, .im vals, y4, y5, y6, x7, x8, x9] st)
  | [], x4, x5, x6, st, _, _, _, _ => ⟨x4, x5, x6, by simp [forL]⟩
  | v :: vs, x4, x5, x6, st, h, h4, h5, h6 => by
    obtain ⟨y4, y5, y6, e⟩ := loopR n hn row vals x7 x8 x9 vs (.im v) (.im (.bool (rowD n v))) (.im (.str (PySem.PyData.shown v))) st (fun w hw => h w (List.mem_cons_of_mem _ hw)) rfl rfl rfl
    refine ⟨y4, y5, y6, ?_⟩
    have B := body_ok n hn v row vals x5 x6 x7 x8 x9 st (h v List.mem_cons_self) h5 h6
    simp [forL, h4, B, e]
theorem bents (n : D) (qs : List Rat) (vals : D) (h1 : 1 ≤ qs.length) (h2 : qs.length ≤ 60) (hq : ∀ q ∈ qs, Qs 95 q) : ∀ (ts : List D) (st : Pt), PotOk st →
    ∃ vs st', lcL (.nm 9) (mC (.bool true)) (mDraw F__law_bent (aCons (mVar 2) aNil)) [.pt, .im n, .im (.list (qs.map qD)), .im vals, .no, .no, .no, .no, .no, .no] ts st = .ok (vs, st') ∧ PotOk st' ∧ (∀ v ∈ vs, Good v) ∧ vs.length = ts.length
  | [], st, hp => ⟨[], st, by simp [lcL], hp, fun v h => by simp at h, rfl⟩
  | t :: ts, st, hp => by
    obtain ⟨v, st1, e1, hp1, g⟩ := bent_ok qs h1 h2 hq st hp
    obtain ⟨vs, st2, e2, hp2, g2, l2⟩ := bents n qs vals h1 h2 hq ts st1 hp1
    refine ⟨v :: vs, st2, ?_, hp2, fun w hw => ?_, by simp [l2]⟩
    · simp [lcL, e1, e2]
    · rcases List.mem_cons.mp hw with rfl | hw
      · exact g
      · exact g2 w hw
def RG (k : Int) : List D := (rangeL 0 k).map fun d => .tuple [d, .int 1]
theorem rgc (k : Int) (m : ME) (n row vals : EV) (st : Pt) (hm : m [.pt, n, row, vals, .no, .no, .no, .no, .no, .no] st = .ok (.im (.int k), st)) (h0 : 0 ≤ k) (hk : k ≤ 100) :
    mLc (iRange1 m) (.nm 8) [8] (mC (.bool true)) (mTup (aCons (mVar 8) (aCons (mC (.int 1)) aNil))) [.pt, n, row, vals, .no, .no, .no, .no, .no, .no] st = .ok (.ow (RG k), st) := by
  have hl : (rangeL 0 k).length ≤ 1000000 := by rw [range_len]; omega
  have e := lcL_map (p := .nm 8) (e := mTup (aCons (mVar 8) (aCons (mC (.int 1)) aNil))) (env := [.pt, n, row, vals, .no, .no, .no, .no, .no, .no]) (f := fun d => .tuple [d, .int 1]) (ds := rangeL 0 k) (st := st) fun d _ st => ⟨[.pt, n, row, vals, .no, .no, .no, .no, .im d, .no], by simp, by simp⟩
  have Z := iR1 hm (by omega) (by omega)
  simp [-iRange1, mLc, Z, hl, e, RG]
theorem good_RG (k : Int) (h0 : 0 ≤ k) (hk : k ≤ 100) : Good (.list (RG k)) := by
  refine (good_list (fun d hd => ?_) ?_).1
  · obtain ⟨t, ht, rfl⟩ := List.mem_map.mp hd
    obtain ⟨i, hi, rfl⟩ := List.mem_map.mp ht
    rw [List.mem_range] at hi
    refine el_pair ?_ (by decide)
    have : (0 + (i : Int)).natAbs < 2 ^ 10 := by omega
    exact Nat.lt_of_lt_of_le this (Nat.pow_le_pow_right (by decide) (by decide))
  · rw [RG, List.length_map, range_len]
    omega
theorem good_flat {v : D} (t : Tame 100 2 v) (h : seqB v = none) : Good v := ⟨t.mono (by omega) (by omega), fun ds e => by
  rw [h] at e
  cases e⟩
end L_k46

namespace L_k46
open BP
theorem rep_d (m : Nat) (d : D) : (List.replicate m [d]).flatten = List.replicate m d := by
  induction m with
  | zero => rfl
  | succ m ih => rw [List.replicate_succ, List.flatten_cons, ih, List.replicate_succ]; rfl
theorem el01 : El (.tuple [.int 0, .int 1]) := el_pair (by decide) (by decide)
theorem el11 : El (.tuple [.int 1, .int 1]) := el_pair (by decide) (by decide)
theorem right_ok (st : Pt) (hp : PotOk st) : ∃ st', F__law_right [] st = .ok (.bool true, st') := by
  obtain ⟨k, st1, e1, a1, b1, hp1⟩ := draw_ok 4 st (by omega) (by omega) hp
  obtain ⟨n, rfl⟩ : ∃ n : Nat, k = n := ⟨k.toNat, by omega⟩
  have hn : n ≤ 3 := by omega
  obtain ⟨qs, st2, e2, hp2, q1, q2, q3⟩ := knots_ok n hn st1 hp1
  have s7 : F__law_right [] st = (k__law_right_7 [.pt, .im (.int n), .no, .no, .no, .no, .no, .no, .no, .no] st1).bind fun o => match o with
      | .nx _ st1 => .ok (.none, st1)
      | .rt x st1 => .ok (x, st1) := by
    simp [F__law_right, m__law_right, e1]
    try rfl
  have s6 : k__law_right_7 [.pt, .im (.int n), .no, .no, .no, .no, .no, .no, .no, .no] st1 = k__law_right_6 [.pt, .im (.int n), .im (.list (qs.map qD)), .no, .no, .no, .no, .no, .no, .no] st2 := by
    simp [k__law_right_7, e2]
  have mk : mulOk 2 (n : Int) = true := mulOk_of 2 2 (by decide) (by omega) (by decide)
  have C12 := rgc 12 (mC (.int 12)) (.im (.int n)) (.im (.list (qs.map qD))) .no st2 (by simp) (by omega) (by omega)
  have C13 := rgc 13 (mC (.int 13)) (.im (.int n)) (.im (.list (qs.map qD))) .no st2 (by simp) (by omega) (by omega)
  have t1 : (2 * (n : Int) + 2).toNat = 2 * n + 2 := by omega
  have t2 : 2 * n + 2 ≤ 1000000 := by omega
  have t3 : 2 * (n : Int) + 2 ≤ 1000000 := by omega
  have t4 : -1000000 ≤ 2 * (n : Int) + 2 := by omega
  obtain ⟨V1, hV1⟩ : ∃ V1, V1 = [PySem.PyData.list (qs.map qD), .tuple (qs.map qD), .list [], .tuple [], .none, .int 0, .dict [], .str "row", .list [.tuple [.int 0, .int 1]], .list [.tuple [.int 0, .int 1], .tuple [.int 1, .int 1]], .list (List.replicate (2 * n + 2) (.tuple [.int 0, .int 1])), .list (RG 12), .list (RG 13)] := ⟨_, rfl⟩
  have s5 : k__law_right_6 [.pt, .im (.int n), .im (.list (qs.map qD)), .no, .no, .no, .no, .no, .no, .no] st2 = k__law_right_5 [.pt, .im (.int n), .im (.list (qs.map qD)), .im (.list V1), .no, .no, .no, .no, .no, .no] st2 := by
    rw [hV1]
    simp [k__law_right_6, mk, C12, C13, rep_d, t1, t2, t3, t4]
  have C7 := rgc (2 * (n : Int) + 1) (mBin oAdd (mBin oMul (mC (.int 2)) (mVar 1)) (mC (.int 1))) (.im (.int n)) (.im (.list (qs.map qD))) (.im (.list V1)) st2 (by simp [mk]) (by omega) (by omega)
  have l1 : V1.length = 13 := by rw [hV1]; rfl
  have u1 : ((n : Int) + 1).toNat = n + 1 := by omega
  have u2 : n + 1 ≤ 1000000 := by omega
  have u3 : (n : Int) + 1 ≤ 1000000 := by omega
  have u4 : -1000000 ≤ (n : Int) + 1 := by omega
  have u5 : ((n : Int) + 2).toNat = n + 2 := by omega
  have u6 : n + 2 ≤ 1000000 := by omega
  have u7 : (n : Int) + 2 ≤ 1000000 := by omega
  have u8 : -1000000 ≤ (n : Int) + 2 := by omega
  have u9 : n + 1 + (n + 1) ≤ 1000000 := by omega
  have u10 : n + 2 + (n + 1) ≤ 1000000 := by omega
  obtain ⟨V2, hV2⟩ : ∃ V2, V2 = [PySem.PyData.list (List.replicate (n + 1) (.tuple [.int 0, .int 1]) ++ List.replicate (n + 1) (.tuple [.int 1, .int 1])), .list (List.replicate (n + 2) (.tuple [.int 0, .int 1]) ++ List.replicate (n + 1) (.tuple [.int 1, .int 1])), .list (RG (2 * (n : Int) + 1))] := ⟨_, rfl⟩
  have s4 : k__law_right_5 [.pt, .im (.int n), .im (.list (qs.map qD)), .im (.list V1), .no, .no, .no, .no, .no, .no] st2 = k__law_right_4 [.pt, .im (.int n), .im (.list (qs.map qD)), .im (.list (V1 ++ V2)), .no, .no, .no, .no, .no, .no] st2 := by
    rw [hV2]
    simp [k__law_right_5, mk, C7, rep_d, u1, u2, u3, u4, u5, u6, u7, u8, u9, u10, l1]
  obtain ⟨vs, st3, e3, hp3, g3, l3⟩ := bents (.int n) qs (.list (V1 ++ V2)) q1 q2 q3 (rangeL 0 14) st2 hp2
  have l2 : V2.length = 3 := by rw [hV2]; rfl
  have l3' : vs.length = 14 := by rw [l3, range_len]; rfl
  have R14 := iR1 (m := mC (.int 14)) (env := [.pt, .im (.int n), .im (.list (qs.map qD)), .im (.list (V1 ++ V2)), .no, .no, .no, .no, .no, .no]) (st := st2) (st' := st2) (n := 14) (by simp) (by omega) (by omega)
  have hr14 : (rangeL 0 14).length ≤ 1000000 := by rw [range_len]; decide
  have gall : ∀ v ∈ V1 ++ V2 ++ vs, Good v := fun v hv => by
    have elq : ∀ d ∈ qs.map qD, El d := fun d hd => by
      obtain ⟨q, hm, rfl⟩ := List.mem_map.mp hd
      exact el_q ((q3 q hm).mono (by omega))
    have gr := good_list elq (by rw [List.length_map]; omega)
    have g0 := good_list (ds := []) (fun d hd => by simp at hd) (by simp)
    rcases List.mem_append.mp hv with hv | hv
    · rcases List.mem_append.mp hv with hv | hv
      · rw [hV1] at hv
        simp only [List.mem_cons, List.not_mem_nil, or_false] at hv
        rcases hv with rfl | rfl | rfl | rfl | rfl | rfl | rfl | rfl | rfl | rfl | rfl | rfl | rfl
        · exact gr.1
        · exact gr.2
        · exact g0.1
        · exact g0.2
        · exact good_flat (tame_none.mono (by omega) (by omega)) rfl
        · exact good_flat ((tame_int (k := 2) (by decide) (by omega)).mono (by omega) (by omega)) rfl
        · exact good_flat ⟨rfl, rfl, by simp [wt], by decide⟩ rfl
        · exact good_flat ⟨rfl, rfl, by decide +kernel, by decide⟩ rfl
        · exact (good_list (fun d hd => by rw [List.mem_singleton.mp hd]; exact el01) (by simp)).1
        · refine (good_list (fun d hd => ?_) (by simp)).1
          simp only [List.mem_cons, List.not_mem_nil, or_false] at hd
          rcases hd with rfl | rfl
          · exact el01
          · exact el11
        · exact (good_list (fun d hd => by rw [(List.mem_replicate.mp hd).2]; exact el01) (by rw [List.length_replicate]; omega)).1
        · exact good_RG 12 (by omega) (by omega)
        · exact good_RG 13 (by omega) (by omega)
      · rw [hV2] at hv
        simp only [List.mem_cons, List.not_mem_nil, or_false] at hv
        have two : ∀ a b : Nat, a + b ≤ 200 → Good (.list (List.replicate a (.tuple [.int 0, .int 1]) ++ List.replicate b (.tuple [.int 1, .int 1]))) := fun a b h => by
          refine (good_list (fun d hd => ?_) (by rw [List.length_append, List.length_replicate, List.length_replicate]; exact h)).1
          rcases List.mem_append.mp hd with hd | hd
          · rw [(List.mem_replicate.mp hd).2]
            exact el01
          · rw [(List.mem_replicate.mp hd).2]
            exact el11
        rcases hv with rfl | rfl | rfl
        · exact two _ _ (by omega)
        · exact two _ _ (by omega)
        · exact good_RG _ (by omega) (by omega)
    · exact g3 v hv
  obtain ⟨y4, y5, y6, e4⟩ := loopR n hn (.list (qs.map qD)) (.list (V1 ++ V2)) .no .no .no (V1 ++ V2 ++ vs) .no .no .no st3 gall rfl rfl rfl
  have s3 : k__law_right_4 [.pt, .im (.int n), .im (.list (qs.map qD)), .im (.list (V1 ++ V2)), .no, .no, .no, .no, .no, .no] st2 = k__law_right_3 [.pt, .im (.int n), .im (.list (qs.map qD)), .im (.list (V1 ++ V2)), y4, y5, y6, .no, .no, .no] st3 := by
    rw [List.append_assoc] at e4
    simp [-iRange1, k__law_right_4, sFor, mLc, R14, hr14, e3, l1, l2, l3', e4]
  obtain ⟨o, st4, e5, a5, b5, hp5⟩ := draw_ok 4 st3 (by omega) (by omega) hp3
  obtain ⟨m, rfl⟩ : ∃ m : Nat, o = m := ⟨o.toNat, by omega⟩
  have gr : Good (.list (qs.map qD)) := gall _ (List.mem_append_left _ (List.mem_append_left _ (by rw [hV1]; exact List.mem_cons_self)))
  have A := law_row_ok m (by omega) (.list (qs.map qD)) (fun ds h => (gr.2 ds h).1) (fun ds h => (gr.2 ds h).2)
  have B := row_ok m (by omega) (.list (qs.map qD)) fun ds h => (gr.2 ds h).1
  rw [s7, s6, s5, s4, s3]
  refine ⟨st4, ?_⟩
  generalize rowD m (.list (qs.map qD)) = b at A B
  have sb : ∀ b : Bool, PySem.SeqAt.shaped (.bool b) = true := fun _ => rfl
  cases b <;> simp [k__law_right_3, k__law_right_2, e5, A, B, sb, PySem.PyData.eqv]
theorem pot_ok (ns : List Int) (k : Nat) (hk : k < 3) : ∃ out, F__law_pot ns [.int k] = .ok out ∧ PotOk out := by
  have m1 : mulOk 3607 (k : Int) = true := mulOk_of 20 2 (by decide) (by omega) (by decide)
  have q1 : ∀ x : Int, x.fmod 2147483549 = x % 2147483549 := fun x => Int.fmod_eq_emod_of_nonneg _ (by decide)
  have q2 : ∀ x : Int, x.fmod 2147483563 = x % 2147483563 := fun x => Int.fmod_eq_emod_of_nonneg _ (by decide)
  have m2 : ∀ c : Int, mulOk (c % 2147483549) 39373 = true := fun c => by
    have h1 := Int.emod_nonneg c (show (2147483549 : Int) ≠ 0 by decide)
    have h2 := Int.emod_lt_of_pos c (show (0 : Int) < 2147483549 by decide)
    exact mulOk_of 40 20 (natAbs_lt h1 (by omega)) (by decide) (by decide)
  have fin : ∀ c : Int, ∃ es out, r__law_pot [.fz ns, .im (.int k), .im (.int c)] [] = .ok (.ow es, []) ∧ intsOf es = some out ∧ PotOk out := fun c => by
    have h1 := Int.emod_nonneg (c % 2147483549 * 39373 + 3607 * (k : Int) + 2903) (show (2147483563 : Int) ≠ 0 by decide)
    have h2 := Int.emod_lt_of_pos (c % 2147483549 * 39373 + 3607 * (k : Int) + 2903) (show (0 : Int) < 2147483563 by decide)
    refine ⟨[.int (if 0 < c - 10 ^ 18 then c - 10 ^ 18 else 0), .int ((c % 2147483549 * 39373 + 3607 * (k : Int) + 2903) % 2147483563 + 1)], [if 0 < c - 10 ^ 18 then c - 10 ^ 18 else 0, (c % 2147483549 * 39373 + 3607 * (k : Int) + 2903) % 2147483563 + 1], ?_, by simp, _, _, rfl, by omega, by omega⟩
    simp [r__law_pot, q1, q2, m1, m2]
  by_cases h : k < ns.length
  · have h' : (k : Int) < (ns.length : Int) := by omega
    obtain ⟨x, hx⟩ : ∃ x, atD ns (k : Int) = some x := by
      refine ⟨ns[k], ?_⟩
      unfold atD ixD
      rw [if_pos (Int.natCast_nonneg k), if_pos h']
      simp [h]
    obtain ⟨es, out, e1, e2, e3⟩ := fin (if x < 0 then -x else x)
    refine ⟨out, ?_, e3⟩
    simp [F__law_pot, m__law_pot, m1, h', hx, e1, e2]
  · have h' : ¬ (k : Int) < (ns.length : Int) := by omega
    obtain ⟨es, out, e1, e2, e3⟩ := fin (3607 * (k : Int) + 2903)
    refine ⟨out, ?_, e3⟩
    simp [F__law_pot, m__law_pot, m1, h', e1, e2]
theorem law_true (ns : List Int) (_ : ns.length ≤ 63) : F_law ns = .ok (.bool true) := by
  obtain ⟨N, hN, h0, h3⟩ : ∃ N : Int, (∀ st, (mB bMax (vCons (mC (.int 1)) (vCons (mB bMin (vCons (mC (.int 3)) (vCons (mLenF 0) vNil))) vNil))) [.fz ns, .no] st = .ok (.im (.int N), st)) ∧ 0 ≤ N ∧ N ≤ 3 := by
    refine ⟨_, fun st => by simp; rfl, ?_, ?_⟩
    · split <;> split <;> omega
    · split <;> split <;> omega
  have Z := iR1 (hN []) (by omega) (by omega)
  have C := lc_bool (p := .nm 1) (vs := [1]) (e := mRP F__law_pot 0 (aCons (mVar 1) aNil) F__law_right) (env := [.fz ns, .no]) (st := []) (fun _ => true) (ds := rangeL 0 N) (by rw [range_len]; omega) rfl (fun d hd st => by
    obtain ⟨i, hi, rfl⟩ := List.mem_map.mp hd
    rw [List.mem_range] at hi
    obtain ⟨out, e1, e2⟩ := pot_ok ns i (by omega)
    obtain ⟨st', e3⟩ := right_ok out e2
    refine ⟨[.fz ns, .im (.int (0 + (i : Int)))], by simp, ?_⟩
    rw [Int.zero_add]
    simp [e1, e3]) Z
  have B := bAll_map (rangeL 0 N) fun _ => true
  have T : (rangeL 0 N).all (fun _ => true) = true := by simp
  rw [T] at B
  simp only [F_law, m_law, runF, startE, sRet, mB, vCons, vNil, List.map_nil, List.length_nil, List.nil_append, Nat.sub_zero] at C B ⊢
  simp [-iRange1, C, B]
end L_k46

open PySem PySem.W PySem.Calls
open PyProof.Rows
theorem PySem.Challenge.cw_bentpieces_k46_any_value_as_knot_row_holds : PySem.Challenge.rw_bentpieces_k46_any_value_as_knot_row.Holds := by
  w_on; o_law
  refine HandSHeadRun.head_any (r := OpenLaw.row PySem.Challenge.rw_bentpieces_k46_any_value_as_knot_row) (q := view (OpenLaw.row PySem.Challenge.rw_bentpieces_k46_any_value_as_knot_row).prog [47]) (H := L_k46.hk) (ob := L_k46.ob) (M := 6000) (loose := L_k46.loose) (d := HandSHeadRun.topDef (OpenLaw.row PySem.Challenge.rw_bentpieces_k46_any_value_as_knot_row).prog 47) (kwd := []) L_k46.ob_eq
    (by kernel_rfl) (fun s => by kernel_rfl) L_k46.run (by kernel_rfl) (by kernel_rfl) (by kernel_rfl) (by rfl) (by first | assumption | decide +kernel) (by decide +kernel) ⟨rfl, rfl, rfl, rfl, rfl, by decide +kernel⟩ ?hw ?hc
  case hw => w_witness2
  case hc =>
    refine BP.walkG (l := PySem.Challenge.rw_bentpieces_k46_any_value_as_knot_row) (n := 63) (k := 9) (x := "script") rfl (by decide) (by kernel_rfl) ⟨rfl, by decide, by decide⟩ ?F
    intro w mg fa h Y G hmg0
    obtain ⟨hS, K, KX, c⟩ := Y
    have hmg : mg ("law" : PySem.Str) = some (.ref fa) := by
      have e : (HandSHeadRun.topDef (OpenLaw.row PySem.Challenge.rw_bentpieces_k46_any_value_as_knot_row).prog 47).name = ("law" : PySem.Str) := by kernel_rfl
      rw [← e]
      exact hmg0
    obtain ⟨fd, F⟩ := c.1.def_ 27 (d := L_k46.d_law) rfl
    have e := hmg.symm.trans (He.glo_ok KX G (c.1.fact 27 (f := .glo "law") rfl))
    cases e
    have b := L2.FunD.bindsA (ps := ["script"]) F fun _ _ _ _ _ _ us hl => match us, hl with | [_], _ => rfl
    exact ⟨hS, K, fd, BP.spF K L_k46.F_law, KX, fun s v => b s [v] rfl, fun H a ns hl hO hq => ⟨a, ns, .bool true, rfl, BP.Hv.sq hO hq, L_k46.law_true ns hl, fun v H' hv => by cases hv; rfl⟩, fun base hb hn hs => L_k46.T_law ⟨hb, hn, hs, c⟩ F⟩
